import Derived.Test.YtllhngpojglipaaGreatDoorP11
import Derived.Test.YtllhngpojglipaaGreatDoorP17
import Derived.Test.YtllhngpojglipaaGreatDoorP18
set_option linter.unusedVariables false
set_option linter.unusedSimpArgs false
open Bool renaming not_eq_true'→aW,not_eq_true→eK,not_true→ba,or_eq_true→aB
open Int renaming ediv_nonneg→fv,mul_le_mul_of_nonneg_right→ci,mul_le_mul→dR,mul_nonneg→dq,pow_pos→fp,toNat_natCast→ax
open Go.IntKind renaming bits→b9,wrap→ap
open List renaming getElem?_eq_getElem→ah,getElem_mem→ak,getElem_of_mem→aL,length_append→ag,length_map→di,length_nil→dz,length_replicate→aY,length_take→aC,mem_append_left→aR,mem_append_right→bo,mem_of_mem_take→dy,nil_append→bE,replicate_succ→cM,replicate→ao,take_add_one→dO,take_of_length_le→bA,take_zero→fm
open Nat renaming le_refl→aA,mul_le_mul→bK,zero_add→dN
open Option renaming bind_some→aa
namespace Go.Am.Pu
open Go Go.Am
def Py(e:List Int)(D p E:Nat):List Int:=dX (fun i=>(eU e D p).getD i 0*2^E) D
theorem anL{x:Int}{E:Nat}(hE:E≤24)(h1: -128≤x)(h2:x≤127): -2147483648≤x*2^E∧x*2^E≤2147483648:=by
 have hp2:(2:Int)^E≤16777216:=by
  have:(2:Nat)^E≤2^24:=Nat.pow_le_pow_right (by omega) hE;have h:((2^E:Nat):Int)≤((2^24:Nat):Int):=by exact_mod_cast this
  simpa using h
 have hp:(0:Int)≤2^E:=Int.le_of_lt (fp (by decide))
 by_cases c:0≤x
 ·have:=dR h2 hp2 hp (by omega);have:=dq c hp;omega
 ·have h3:=dR (show -x≤128 by omega) hp2 hp (by omega);have h4:=dq (show 0≤-x by omega) hp;rw[Int.neg_mul]at h3 h4;omega
theorem azf{n:Nat}(hn:10≤n){a:List Int}(h:a.length≤1048576):mE n [a]=some 0:=by
 obtain⟨k,rfl⟩:∃k,n=k+4:=⟨n -4,by omega⟩;have e0:idx [a] (0:Int)=some a:=rfl;have d1:ap .i64 ((0:Int)+1)=1:=aN (by decide) (by decide);have e1:((([a]:List (List Int)).length:Nat):Int)=1:=rfl;rw[Dh,e1];rw[jO,af,if_pos (by decide),e0];simp only[aa];rw[sS,d1,jO,af,if_neg (by decide)];simp only[aa,cY];rw[e1,jP,af,if_pos (by decide),e0];simp only[aa,bne_self_eq_false,cg];rw[d1,jP,af,if_neg (by decide)];rfl
theorem arS{n:Nat}(hn:2000000000≤n){l:List Int}{E:Nat}(hE:E≤24)(hl:l.length≤1048576)(h8:bc l):CH n (l,(E:Int))=some (dX (fun i=>l.getD i 0*2^E) l.length,0):=by
 rw[adK,azf (by omega) hl];simp only[aa];rw[show((0:Int)!=0)=false from rfl,cg,eP];simp only[aa];rw[af,if_neg (by rw[aB,bF,bF];omega),gY (m:=l.length) rfl (by omega) (by omega)];simp only[aa];have key:∀(m k i:Nat),i+m=l.length→m<k→wy n k ((E:Int),(),l,(l.length:Int),(i:Int),dX (fun i=>l.getD i 0*2^E) i++ao m 0,())=some ((),dX (fun i=>l.getD i 0*2^E) l.length,()):=by
  intro m
  induction m with
  |zero=>
   intro k i h1 h2;obtain⟨k,rfl⟩:=iY k;have:i=l.length:=by omega
   subst this;rw[F3,af,if_neg (by simp)];simp
  |succ m ih=>
   intro k i h1 h2;obtain⟨k,rfl⟩:=iY k;have hi:i<l.length:=by omega
   have hx: -128≤l.getD i 0∧l.getD i 0≤127:=h8.at i;have hw:=anL hE hx.1 hx.2;have E1:(dX (fun i=>l.getD i 0*2^E) i).length=i:=by simp
   rw[F3,jK,fk hi];simp only[aa];rw[aN (x:=l.getD i 0)];have e:qG .i64 (l.getD i 0) (E:Int)=some (l.getD i 0*2^E):=by
    unfold qG;rw[gG,ax,show min E (b9 .i64)=E by show min E 64=E;omega,aN]
   rw[e];simp only[aa];rw[ej (by rw[ag,E1,aY];omega)];simp only[aa];rw[ah (by rw[ag,E1,aY];omega)];simp only[aa];have acm:(dX (fun i=>l.getD i 0*2^E) i++ao (m+1) (0:Int)).set i (l.getD i 0*2^E)=dX (fun i=>l.getD i 0*2^E) (i+1)++ao m 0:=by
    rw[cM,sm E1.symm,oz];simp
   rw[acm,aN,show(i:Int)+1=((i+1:Nat):Int)by omega];exact ih k (i+1) (by omega) (by omega)
 have h:=key l.length n 0 (by omega) (by omega);rw[show((0:Nat):Int)=0 from rfl,eS,bE]at h;rw[h];rfl
theorem anM{n:Nat}(hn:2000000000≤n){l:List Int}{E:Nat}(hE:E≤24)(hl:l.length≤1048576)(h8:bc l):qX n (l,(E:Int))=some (dX (fun i=>l.getD i 0*2^E) l.length,0):=by
 rw[WK,sS,eP];simp only[aa];rw[af,if_neg (by rw[aB,bF,bF];omega)];have h:=aX (L:=fun k j s=>ld n k ((E:Int),s,l,(l.length:Int),j,())) (len:=l.length) (r:=(dX (fun i=>l.getD i 0*2^E) l.length,())) (fun i=>dX (fun i=>l.getD i 0*2^E) i) (by
  intro k i hi;have hx: -128≤l.getD i 0∧l.getD i 0≤127:=h8.at i;have hw:=anL hE hx.1 hx.2;have hp:=rV (s:=E) (by omega);show ld n (k+1) _=_;rw[BH,jK,fk hi];simp only[aa];have e:qG .i64 1 (ap .u64 (E:Int))=some (2^E):=by
   rw[atx,Int.emod_eq_of_lt (by omega) (by omega)];unfold qG;rw[gG,ax,show min E (b9 .i64)=E by show min E 64=E;omega,Int.one_mul,aN]
  rw[e];simp only[aa];rw[aN (x:=l.getD i 0),aN (x:=l.getD i 0*2^E)];rw[fL (fun i=>l.getD i 0*2^E) (by unfold room;omega) (by unfold room;omega)];simp only[aa];rw[aN]) (by
  intro k;show ld n (k+1) _=_;rw[BH,af,if_neg (by simp)]) n (by omega)
 rw[eS]at h;rw[h];rfl
theorem UJ{e:List Int}{V D:Nat}(he:e.length=V*D)(hb:V*D≤1048576)(hD:1≤D):JO e (D:Int)=0∧e.length/D=V∧e.length % D=0:=by
 have hm:e.length % D=0:=by rw[he];exact Nat.mul_mod_left _ _
 have hd:e.length/D=V:=by rw[he];exact Nat.mul_div_cancel _ (by omega)
 refine⟨?_,hd,hm⟩;unfold JO;rw[gG,gG]
theorem awz{n:Nat}{e:List Int}{V D t:Nat}(he:e.length=V*D)(hb:V*D≤1048576)(hD:1≤D)(hD2:D≤64)(ht:t<V)(hV:V≤512):MR n (e,(D:Int),(t:Int))=some (eU e D t,0):=by
 obtain⟨h1,h2,h3⟩:=UJ he hb hD;have hlen:=MU h3 (show t<e.length/D by omega);have hrl:=uJ h3 (show t<e.length/D by omega);have m1:t*D≤512*64:=bK (by omega) hD2;rw[ajD,QA,h1];simp only[aa];rw[show((0:Int)!=0)=false from rfl,cg,zU (by omega) (by rw[bV];have:=Int.ediv_le_self (a:=(e.length:Int)) (D:Int) (by omega);have:=fv (a:=(e.length:Int)) (b:=(D:Int)) (by omega) (by omega);omega) (by rw[bV];have:=Int.ediv_le_self (a:=(e.length:Int)) (D:Int) (by omega);omega),bV];simp only[aa];rw[show(e.length:Int)/(D:Int)=(V:Int)by rw[←h2];simp,eP];simp only[aa];rw[af,if_neg (by rw[aB,bF,bF];omega)];rw[aN (x:=(t:Int)+1),show(t:Int)*(D:Int)=((t*D:Nat):Int)by simp,show((t:Int)+1)*(D:Int)=((t*D:Nat):Int)+(D:Int)by rw[Int.add_mul];simp,aN,aN,abQ h3 (by omega)];simp only[aa];rw[et (by rw[hrl];simp;omega) (by omega)];rfl
theorem arT{n:Nat}{e:List Int}{V D t:Nat}(he:e.length=V*D)(hb:V*D≤1048576)(hD:1≤D)(hD2:D≤64)(ht:t<V)(hV:V≤512):xw n (e,(D:Int),(t:Int))=some (eU e D t,0):=by
 obtain⟨h1,h2,h3⟩:=UJ he hb hD;have hlen:=MU h3 (show t<e.length/D by omega);have m1:t*D≤512*64:=bK (by omega) hD2;rw[ad5,HY,h1];simp only[aa];rw[show((0:Int)!=0)=false from rfl,cg,zU (by omega) (by rw[bV];have:=Int.ediv_le_self (a:=(e.length:Int)) (D:Int) (by omega);have:=fv (a:=(e.length:Int)) (b:=(D:Int)) (by omega) (by omega);omega) (by rw[bV];have:=Int.ediv_le_self (a:=(e.length:Int)) (D:Int) (by omega);omega),bV];simp only[aa];rw[show(e.length:Int)/(D:Int)=(V:Int)by rw[←h2];simp,eP];simp only[aa];rw[af,if_neg (by rw[aB,bF,bF];omega)];rw[show(t:Int)*(D:Int)=((t*D:Nat):Int)by simp,aN,aN,abQ h3 (by omega)];rfl
structure Xm (m:Mod):Prop where
 o:at1 m
 cos:bc m.2.2.2.2.1
 sin:bc m.2.2.2.2.2.1
 be:bc m.2.2.2.2.2.2.2.1
 g:bc m.2.2.2.2.2.2.2.2.1
 u:bc m.2.2.2.2.2.2.2.2.2.1
def z5(m:Mod):QQ:=(m.1.2.2.2.1,m.2.2.2.2.1,m.2.2.2.2.2.1,m.2.2.2.2.2.2.2.1)
def Xn(m:Mod)(l:List Int):Prop:=∀t∈l,0≤t∧t<m.1.1
def xs0(m:Mod)(l:List Int):List (List Int):=l.map fun t=>Py m.2.2.1 m.1.2.2.1.toNat t.toNat m.2.2.2.1.toNat
noncomputable def D3(m:Mod)(l:List Int):Nat→List (List Int)
 |0=>xs0 m l
 |i+1=>match m.2.2.2.2.2.2.1[i]? with
  |some b=>(B9 b (z5 m) (D3 m l i) []).1
  |none=>D3 m l i
def InR(D:Nat)(R:Int)(xs:List (List Int)):Prop:=∀x∈xs,x.length=D∧∀y∈x,-R≤y∧y≤R
noncomputable def scI(m:Mod)(x:List Int):List Int:=(jL (kW m.2.2.2.2.2.2.2.2.2.1 m.1.2.2.1 (ns x m.2.2.2.2.2.2.2.2.1).1).1 m.2.2.2.2.2.2.2.2.2.2).1
structure ahn (m:Mod) (D H half C Hd V L E:Nat):Prop where
 r:yr m D H half C Hd V L E
 ok:Xm m
 mx:∀x∈qD m,x≤268435456
theorem awA{m:Mod}(h:Xm m)(hv:Mr m):∃D H half C Hd V L E,ahn m D H half C Hd V L E:=by
 obtain⟨D,H,half,C,Hd,V,L,E,hr⟩:=apn h.o hv.1;exact⟨D,H,half,C,Hd,V,L,E,hr,h,hv.2⟩
theorem ahn.frm{m:Mod}{D H half C Hd V L E:Nat}(h:ahn m D H half C Hd V L E):ait H half C (z5 m)∧OkF (z5 m):=by
 have ho:=h.r.ok;have hl:=h.r.lm;exact⟨⟨ho.h,ho.cos,ho.sin,ho.be⟩,⟨h.ok.cos,h.ok.sin,h.ok.be,by show m.2.2.2.2.1.length≤_;have:=hl.c;omega,by show m.2.2.2.2.2.1.length≤_;have:=hl.si;omega⟩⟩
theorem ahn.row{m:Mod}{D H half C Hd V L E:Nat}(h:ahn m D H half C Hd V L E){t:Int}(ht:0≤t∧t<m.1.1):∃p:Nat,t=(p:Int)∧p<V∧(eU m.2.2.1 D p).length=D∧bc (eU m.2.2.1 D p)∧Py m.2.2.1 m.1.2.2.1.toNat t.toNat m.2.2.2.1.toNat=dX (fun i=>(eU m.2.2.1 D p).getD i 0*2^E) D∧
  (∀y∈dX (fun i=>(eU m.2.2.1 D p).getD i 0*2^E) D,-(iC m.2.2.1*2^E)≤y∧y≤iC m.2.2.1*2^E):=by
 have hv:=h.r.ok.v;have he:=h.r.ok.e;have hd:=h.r.ok.d;have g3:=h.r.ok.uX.pos;have g1:=h.r.ok.uX.dm;have hv2:=h.r.ok.v2;have m1:V*D≤512*64:=bK hv2.2 g1;obtain⟨h1,h2,h3⟩:=UJ he (by omega) (by omega);refine⟨t.toNat,by omega,by omega,uJ h3 (by omega),h.r.e8.sub _ _,?_,?_⟩
 ·unfold Py;rw[hd,h.r.es,ax,ax]
 ·intro y hy;obtain⟨i,hi,rfl⟩:=aL hy;have hi':i<D:=by simpa using hi
  have hg:=pW (fun i=>(eU m.2.2.1 D t.toNat).getD i 0*2^E) hi' 0;rw[aT hi]at hg;rw[hg];have hrl:=uJ h3 (show t.toNat<m.2.2.1.length/D by omega);have hm:(eU m.2.2.1 D t.toNat).getD i 0∈m.2.2.1:=by
   rw[aT (by omega)];have:=ak (show i<(eU m.2.2.1 D t.toNat).length by omega);unfold eU at this;exact List.mem_of_mem_drop (dy this)
  have hf:=(GA h.r.e8).2.2 _ hm;have hp:(0:Int)≤2^E:=Int.le_of_lt (fp (by decide));have a:=ci hf.1 hp;have b:=ci hf.2 hp;rw[Int.neg_mul]at a;exact⟨a,b⟩
theorem ahn.rows{m:Mod}{D H half C Hd V L E:Nat}(h:ahn m D H half C Hd V L E){l:List Int}(hl:Xn m l)(hlc:l.length≤C):∀i,i≤L→(D3 m l i).length=l.length∧InR D ((qD m).getD (2*i) 0) (D3 m l i)∧0≤(qD m).getD (2*i) 0∧(qD m).getD (2*i) 0≤268435456∧
  (∀(hi:i<m.2.2.2.2.2.2.1.length),(B9 m.2.2.2.2.2.2.1[i] (z5 m) (D3 m l i) []).2.2=0∧D3 m l (i+1)=(B9 m.2.2.2.2.2.2.1[i] (z5 m) (D3 m l i) []).1):=by
 have hbs:=h.r.ok.bs;have hr:=h.r.rch (i:=m.2.2.2.2.2.2.1.length) (aA _);rw[←h.r.eq,hbs]at hr;have hlen:=hr.len;have hd:=h.r.ok.uX;have hfr:=h.frm;have hff:=GA h.r.e8;have hf0:(qD m).getD 0 0=iC m.2.2.1*2^E:=hr.f0;have hfp:=M5 hff.1 hff.2.1 h.r.el;have Va:∀i,i<(qD m).length→(qD m).getD i 0≤268435456:=fun i hi=>by rw[aT hi];exact h.mx _ (ak hi)
 have pass:∀i,i<L→(D3 m l i).length=l.length→InR D ((qD m).getD (2*i) 0) (D3 m l i)→0≤(qD m).getD (2*i) 0→∀(hi:i<m.2.2.2.2.2.2.1.length),(B9 m.2.2.2.2.2.2.1[i] (z5 m) (D3 m l i) []).2.2=0∧(B9 m.2.2.2.2.2.2.1[i] (z5 m) (D3 m l i) []).1.length=l.length∧InR D ((qD m).getD (2*(i+1)) 0) (B9 m.2.2.2.2.2.2.1[i] (z5 m) (D3 m l i) []).1∧0≤(qD m).getD (2*(i+1)) 0:=by
  intro i hiL h1 h2 h3 hi;obtain⟨a,d,g1,g2,g3⟩:=hr.st i hi hiL;have a0:=g1.a0;have d0:=g1.c0;have hm2:=Va (2*i+2) (by omega);have aEz:(qD m).getD (2*i) 0+a+d=(qD m).getD (2*i+2) 0:=by omega
  have hbm:=ak hi;obtain⟨r,p1,p2,p3⟩:=awb hd (h.r.ok.b _ hbm) hfr.1 h3 a0 d0 (by omega) g1.o g1.d (D3 m l i) [] [] h2 (by simp;omega) (fun p hp=>by cases hp) (fun p hp=>by cases hp);rw[aEz]at p3;obtain⟨l1,l2,-⟩:=QF p1;simp only[dz,dN]at l1 l2;have hI:B9 m.2.2.2.2.2.2.1[i] (z5 m) (D3 m l i) []=(r.2,r.1,0):=by unfold B9;rw[p1];rfl
  rw[hI];rw[show 2*(i+1)=2*i+2 by omega];exact⟨rfl,by show r.2.length=_;omega,p3,by omega⟩
 have succ:∀i (hi:i<m.2.2.2.2.2.2.1.length),D3 m l (i+1)=(B9 m.2.2.2.2.2.2.1[i] (z5 m) (D3 m l i) []).1:=by
  intro i hi;show(match m.2.2.2.2.2.2.1[i]? with |some b=>_ |none=>_)=_;rw[ah hi]
 intro i
 induction i with
 |zero=>
  intro _;have hz:(D3 m l 0).length=l.length:=by show(xs0 m l).length=_;unfold xs0;simp
  have hin:InR D ((qD m).getD (2*0) 0) (D3 m l 0):=by
   intro x hx;obtain⟨t,ht,rfl⟩:=List.mem_map.1 hx;obtain⟨p,q1,q2,q3,q4,q5,q6⟩:=h.row (hl t ht);rw[q5,Nat.mul_zero,hf0];exact⟨by simp,q6⟩
  have h0:0≤(qD m).getD (2*0) 0:=by rw[Nat.mul_zero,hf0];exact hfp.1
  refine⟨hz,hin,h0,Va _ (by omega),fun hi=> ?_⟩;have hp:=pass 0 (by omega) hz hin h0 hi;exact⟨hp.1,succ 0 hi⟩
 |succ i ih=>
  intro hi;obtain⟨b1,b2,b3,b4,b5⟩:=ih (by omega);have hp:=pass i (by omega) b1 b2 b3 (by omega);have hs:=succ i (by omega);rw[←hs]at hp;refine⟨hp.2.1,hp.2.2.1,hp.2.2.2,Va _ (by omega),fun hi2=> ?_⟩;have hp2:=pass (i+1) (by omega) hp.2.1 hp.2.2.1 hp.2.2.2 hi2;exact⟨hp2.1,succ (i+1) hi2⟩
theorem ahn.sc{m:Mod}{D H half C Hd V L E:Nat}(h:ahn m D H half C Hd V L E){x:List Int}(hx:x.length=D)(hr:∀y∈x,-268435456≤y∧y≤268435456){n:Nat}(hn:2000000000≤n):(scI m x).length=V∧(∀y∈scI m x,-1040384≤y∧y≤1040384)∧
  kw n ((m,z5 m),x)=some (scI m x)∧pP n (m,x)=some (scI m x):=by
 have hd:=h.r.ok.uX;have g1:=hd.dm;have g3:=hd.pos;have hv2:=h.r.ok.v2;have m1:V*D≤512*64:=bK hv2.2 g1;have hg:=h.r.ok.g;have hu:=h.r.ok.u;have hls:=h.r.ok.ls;have hD:=h.r.ok.d;obtain⟨r1,r2⟩:=abT (x:=x) (gw:=m.2.2.2.2.2.2.2.2.1) (by omega) (by omega) (by omega) hr;obtain⟨t1,t2,t3,t4⟩:=QH (w:=m.2.2.2.2.2.2.2.2.2.1) (o:=(ns x m.2.2.2.2.2.2.2.2.1).1) (s:=m.2.2.2.2.2.2.2.2.2.2) (a:=1040384) (r:=V) (c:=D) hu (by omega) (by omega) (by omega) oB hls.1 hls.2 (by
  intro j hj;obtain⟨q1,q2,q3⟩:=UJ hu (by omega) (show 1≤D by omega);have hrl:=uJ q3 (show j<m.2.2.2.2.2.2.2.2.2.1.length/D by omega);have hsz:=aiq (l:=eU m.2.2.2.2.2.2.2.2.2.1 D j) (h.ok.u.sub _ _);rw[hrl]at hsz;have hrb:=am0 (x:=127*gI (eU m.2.2.2.2.2.2.2.2.2.1 D j)) (s:=m.2.2.2.2.2.2.2.2.2.2) (by omega) hls.1 (by omega);omega)
 have hsI:scI m x=(jL (kW m.2.2.2.2.2.2.2.2.2.1 (D:Int) (ns x m.2.2.2.2.2.2.2.2.1).1).1 m.2.2.2.2.2.2.2.2.2.2).1:=by unfold scI;rw[hD]
 have h64:iI (kW m.2.2.2.2.2.2.2.2.2.1 (D:Int) (ns x m.2.2.2.2.2.2.2.2.1).1).1:=kH h.ok.u oB.bc;refine⟨by rw[hsI];exact t3,by rw[hsI];exact t4,?_,?_⟩
 ·rw[JK,Uc h.ok.g hn];simp only[aa];rw[hD,Gn h.ok.u oB.bc (by omega) hn];simp only[aa];rw[MV h64 hn];simp only[aa];rw[hsI]
 ·rw[TI,MW h.ok.g hn];simp only[aa];rw[hD,xR h.ok.u oB.bc hn];simp only[aa];rw[DO h64 hn];simp only[aa];rw[hsI]
abbrev Rq:=List Int×Par×Int×Int×Int×Gd×List UInt8
noncomputable def YS(m:Mod)(l:List Int):List Int:=scI m ((D3 m l m.2.2.2.2.2.2.1.length).getD (l.length -1) [])
theorem ab0{α β:Type}{l:List α}{f:α→β}{i:Nat}(hi:i<l.length):(l.map f).take (i+1)=(l.map f).take i++[f l[i]]:=by
 rw[dO,ah (by rw[di];exact hi)];simp
theorem ak2{n:Nat}{m:Mod}{D H half C Hd V L E:Nat}(h:ahn m D H half C Hd V L E)(hv:Mr m){l:List Int}(hl:Xn m l)(hne:l≠[])(hlc:l.length≤C)(hn:2000000000≤n):
  tL n (m,l)=some (YS m l,0)∧ue n (m,l)=some (YS m l,0)∧(YS m l).length=V∧∀y∈YS m l,-1040384≤y∧y≤1040384:=by
 have ho:=h.r.ok;have hd:=ho.uX;have hcm:=hd.cm;have g1:=hd.dm;have g3:=hd.pos;have hv2:=ho.v2;have hbs:=ho.bs;have hl8:=ho.l8;have hC:=ho.c;have hV:=ho.v;have hD:=ho.d;have hes:=h.r.es;have m1:V*D≤512*64:=bK hv2.2 g1;have hrows:=h.rows hl hlc;have hpos:0<l.length:=List.length_pos_iff.2 hne;have hfr:=h.frm;have aEA:∀t∈l,rq n ((m,z5 m),t)=some (Py m.2.2.1 m.1.2.2.1.toNat t.toNat m.2.2.2.1.toNat):=by
  intro t ht;obtain⟨p,q1,q2,q3,q4,q5,q6⟩:=h.row (hl t ht);rw[Qh];simp only;rw[hD,q1,awz ho.e (by omega) (by omega) g1 q2 hv2.2];simp only[aa];rw[hes,arS hn h.r.el (by omega) q4,q3];rw[hD,q1,hes]at q5;rw[q5];rfl
 have aEB:∀t∈l,((xw n (m.2.2.1,(m.1.2.2.1,t)))).bind (fun v2=>((qX n (v2.1,m.2.2.2.1))).bind fun v3=>some v3.1)=some (Py m.2.2.1 m.1.2.2.1.toNat t.toNat m.2.2.2.1.toNat):=by
  intro t ht;obtain⟨p,q1,q2,q3,q4,q5,q6⟩:=h.row (hl t ht);rw[hD,q1,arT ho.e (by omega) (by omega) g1 q2 hv2.2];simp only[aa];rw[hes,anM hn h.r.el (by omega) q4,q3];rw[hD,q1,hes]at q5;rw[q5];rfl
 have aug:∀i,i≤L→∀x∈D3 m l i,iI x∧x.length≤1000000000:=by
  intro i hi x hx;obtain⟨b1,b2,b3,b4,-⟩:=hrows i hi;obtain⟨u1,u2⟩:=b2 x hx;exact⟨fun y hy=>by have:=u2 y hy;omega,by omega⟩
 have thr:∃pr,dW n ((m,z5 m),l,())=some (D3 m l L,pr):=by
  rw[pq];have h1:=aX (L:=fun k j s=>cd n k ((m,z5 m),(),s,l,(l.length:Int),j,())) (len:=l.length) (r:=((m,z5 m),(),xs0 m l,())) (fun i=>(xs0 m l).take i) (by
   intro k i hi;show cd n (k+1) _=_;rw[iz,jK,bj hi];simp only[aa];rw[aEA _ (ak hi)];simp only[aa];rw[et (by rw[aC];simp;omega) (by omega)];simp only[aa];rw[aN];have e:(xs0 m l).take i++[Py m.2.2.1 m.1.2.2.1.toNat l[i].toNat m.2.2.2.1.toNat]=(xs0 m l).take (i+1):=(ab0 (f:=fun t:Int=>Py m.2.2.1 m.1.2.2.1.toNat t.toNat m.2.2.2.1.toNat) hi).symm;rw[e]) (by
   intro k;show cd n (k+1) _=_;rw[iz,af,if_neg (by simp),bA (by unfold xs0;simp)]) n (by omega)
  rw[fm]at h1;rw[h1];simp only[aa];obtain⟨q,h2,h3⟩:=am2 (L:=fun k j s=>ce n k ((m,z5 m),(),s.1,s.2,m.2.2.2.2.2.2.1,(m.2.2.2.2.2.2.1.length:Int),j,())) (len:=m.2.2.2.2.2.2.1.length) (fun i s=>s.1=D3 m l i∧s.2.length=i) (fun q=>q.1=D3 m l L) (by
   intro k i s hi ⟨h1,h2⟩;right;obtain⟨b1,b2,b3,b4,b5⟩:=hrows i (by omega);obtain⟨c1,c2⟩:=b5 hi;show ∃s',ce n (k+1) _=_∧_;rw[iA,jK,bj hi];simp only[aa];rw[Nl];simp only[aa];rw[h1,ao9 (h.r.b8 _ (ak hi)) hfr.2 (aug i (by omega)) (fun p hp=>by cases hp) (by simp;omega) hn];simp only[aa];rw[et (by simp;omega) (by omega)];simp only[aa];rw[aN];exact⟨((B9 m.2.2.2.2.2.2.1[i] (z5 m) (D3 m l i) []).1,s.2++[(B9 m.2.2.2.2.2.2.1[i] (z5 m) (D3 m l i) []).2.1]),rfl,c2.symm,by simp;omega⟩) (by
   intro k s ⟨h1,h2⟩;show ∃r,ce n (k+1) _=some r∧_;rw[iA,af,if_neg (by simp)];exact⟨_,rfl,by rw[←hbs];exact h1⟩) n (xs0 m l,[]) (by omega) ⟨rfl,rfl⟩
  rw[h2];simp only[aa];exact⟨q.2.1,by rw[h3]⟩
 obtain⟨b1,b2,b3,b4,-⟩:=hrows L (aA _);have hsc:∀x∈D3 m l L,(scI m x).length=V∧(∀y∈scI m x,-1040384≤y∧y≤1040384)∧kw n ((m,z5 m),x)=some (scI m x)∧pP n (m,x)=some (scI m x):=by
  intro x hx;obtain⟨u1,u2⟩:=b2 x hx;exact h.sc u1 (fun y hy=>by have:=u2 y hy;omega) hn
 have hli:l.length -1<(D3 m l L).length:=by omega
 have aqH:YS m l=scI m (D3 m l L)[l.length -1]:=by unfold YS;rw[hbs,aT hli]
 have hmem:=ak hli;refine⟨?_,?_,by rw[aqH];exact(hsc _ hmem).1,by rw[aqH];exact(hsc _ hmem).2.1⟩
 ·obtain⟨r,r1,r2⟩:=YH h.ok.o hn;rw[To,r1];simp only[aa];rw[show(r.2 !=0)=false by simp[r2.2 hv],cg,show((l.length:Int)==0)=false by rw[beq_eq_false_iff_ne];omega,cg,hC];simp only[aa];rw[sS,Tj];simp only[aa];rw[show((m,m.1.2.2.2.1,m.2.2.2.2.1,m.2.2.2.2.2.1,m.2.2.2.2.2.2.2.1):Mod×QQ)=(m,z5 m)from rfl];rcases dc (L:=fun k j (_:Unit)=>iN n k (l,(),l,(l.length:Int),j,(m,z5 m),())) (len:=l.length) (fun _=>()) (fun i=>0≤l.getD i 0∧l.getD i 0<m.1.1) (fun i=> .inl ([],133,())) (.inr (l,(),(m,z5 m),())) (by
   intro k j hj _;show(_∧iN n (k+1) _=_)∨(_∧iN n (k+1) _=_);have ht:=hl _ (ak hj);rw[yJ,jK,fk hj,aT hj];simp only[aa];rw[LV,fM];simp only[aa];rw[decide_eq_true (show l[j]≥0 from ht.1),decide_eq_true (show l[j]<m.1.1 from ht.2)];simp only[Bool.and_self,ba,cg];rw[aN];exact .inl ⟨ht,rfl⟩) (by
   intro k;show iN n (k+1) _=_;rw[yJ,af,if_neg (by simp)]) n (by omega)with⟨-,h2⟩|⟨j,h1,-,h3,-⟩
  case inr=>exact absurd (by rw[aT h1];exact hl _ (ak h1)) h3
  rw[h2];simp only[aa,cY];obtain⟨pr,t1⟩:=thr;rw[qz,t1];simp only[aa];have h4:=aX (L:=fun k j s=>cA n k ((m,z5 m),pr,s,D3 m l L,(((D3 m l L).length:Nat):Int),j,())) (len:=(D3 m l L).length) (r:=(pr,(D3 m l L).map (scI m),())) (fun i=>((D3 m l L).map (scI m)).take i) (by
   intro k i hi;show cA n (k+1) _=_;rw[jj,jK,bj hi];simp only[aa];rw[(hsc _ (ak hi)).2.2.1];simp only[aa];rw[et (by rw[aC];simp;omega) (by omega)];simp only[aa];rw[aN,←ab0 hi]) (by
   intro k;show cA n (k+1) _=_;rw[jj,af,if_neg (by simp),bA (by simp)]) n (by omega)
  rw[fm]at h4;rw[h4];simp only[aa,di];rw[b1,aN,show(l.length:Int) -1=((l.length -1:Nat):Int)by omega,bj (by rw[di];exact hli)];simp only[aa,List.getElem_map];rw[aqH]
 ·obtain⟨-,-,-,r,r1,r2⟩:=YG h.ok.o hn;rw[TJ,r1];simp only[aa];rw[show(r.2.2 !=0)=false by simp[r2.2 hv],cg,show((l.length:Int)==0)=false by rw[beq_eq_false_iff_ne];omega,cg,hC];simp only[aa];rw[sS];rcases dc (L:=fun k j (_:Unit)=>iW n k (l,(),j,m,())) (len:=l.length) (fun _=>()) (fun i=>0≤l.getD i 0∧l.getD i 0<m.1.1) (fun i=> .inl ([],133,())) (.inr (l,(),m,())) (by
   intro k j hj _;show(_∧iW n (k+1) _=_)∨(_∧iW n (k+1) _=_);have ht:=hl _ (ak hj);rw[yY,jK,fk hj,aT hj];simp only[aa];rw[WJ,fM];simp only[aa];rw[decide_eq_true (show l[j]≥0 from ht.1),decide_eq_true (show l[j]<m.1.1 from ht.2)];simp only[Bool.and_self,ba,cg];rw[aN];exact .inl ⟨ht,rfl⟩) (by
   intro k;show iW n (k+1) _=_;rw[yY,af,if_neg (by simp)]) n (by omega)with⟨-,h2⟩|⟨j,h1,-,h3,-⟩
  case inr=>exact absurd (by rw[aT h1];exact hl _ (ak h1)) h3
  rw[h2];simp only[aa,cY];rw[aec,aa1];have h1:=aX (L:=fun k j s=>mV n k (l,(),s,j,m,())) (len:=l.length) (r:=((),xs0 m l,m,())) (fun i=>(xs0 m l).take i) (by
   intro k i hi;show mV n (k+1) _=_;rw[DC,jK,bj hi];simp only[aa];obtain⟨v2,w1,w2⟩:=Option.bind_eq_some_iff.1 (aEB _ (ak hi));obtain⟨v3,w3,w4⟩:=Option.bind_eq_some_iff.1 w2;have w4:v3.1=Py m.2.2.1 m.1.2.2.1.toNat l[i].toNat m.2.2.2.1.toNat:=Option.some.inj w4;rw[w1];simp only[aa];rw[w3];simp only[aa];rw[w4,et (by rw[aC];simp;omega) (by omega)];simp only[aa];rw[aN];have e:(xs0 m l).take i++[Py m.2.2.1 m.1.2.2.1.toNat l[i].toNat m.2.2.2.1.toNat]=(xs0 m l).take (i+1):=(ab0 (f:=fun t:Int=>Py m.2.2.1 m.1.2.2.1.toNat t.toNat m.2.2.2.1.toNat) hi).symm;rw[e]) (by
   intro k;show mV n (k+1) _=_;rw[DC,af,if_neg (by simp),bA (by unfold xs0;simp)]) n (by omega)
  rw[fm]at h1;rw[h1];simp only[aa];have h3:=aX (L:=fun k j s=>li n k ((),s.1,s.2,j,m,())) (len:=m.2.2.2.2.2.2.1.length) (r:=(dX (D3 m l) (L+1),())) (fun i=>(D3 m l i,dX (D3 m l) (i+1))) (by
   intro k i hi;obtain⟨b1,b2,b3,b4,b5⟩:=hrows i (by omega);obtain⟨c1,c2⟩:=b5 hi;show li n (k+1) _=_;rw[BO,jK,bj hi];simp only[aa];rw[WL];simp only[aa];rw[show((m.1.2.2.2.1,m.2.2.2.2.1,m.2.2.2.2.2.1,m.2.2.2.2.2.2.2.1):QQ)=z5 m from rfl,apa (h.r.b8 _ (ak hi)) hfr.2 (aug i (by omega)) (fun p hp=>by cases hp) (by simp;omega) hn];simp only[aa];rw[←c2,fL (D3 m l) (by unfold room;omega) (by unfold room;omega)];simp only[aa];rw[aN]) (by
   intro k;show li n (k+1) _=_;rw[BO,af,if_neg (by simp),hbs]) n (by omega)
  have e0:dX (D3 m l) (0+1)=[xs0 m l]:=rfl;rw[e0]at h3;have e1:D3 m l 0=xs0 m l:=rfl;rw[e1]at h3;rw[h3];simp only[aa,B4];rw[aN,show((L+1:Nat):Int) -1=(L:Int)by omega,qC (show L<(dX (D3 m l) (L+1)).length by simp) [],pW _ (by omega)];simp only[aa];have h4:=aX (L:=fun k j s=>oV n k ((),D3 m l L,s,j,m,())) (len:=(D3 m l L).length) (r:=((D3 m l L).map (scI m),())) (fun i=>((D3 m l L).map (scI m)).take i) (by
   intro k i hi;show oV n (k+1) _=_;rw[Gg,jK,bj hi];simp only[aa];rw[(hsc _ (ak hi)).2.2.2];simp only[aa];rw[et (by rw[aC];simp;omega) (by omega)];simp only[aa];rw[aN,←ab0 hi]) (by
   intro k;show oV n (k+1) _=_;rw[Gg,af,if_neg (by simp),bA (by simp)]) n (by omega)
  rw[fm]at h4;rw[h4];simp only[aa,di];rw[b1,aN,show(l.length:Int) -1=((l.length -1:Nat):Int)by omega,bj (by rw[di];exact hli)];simp only[aa,List.getElem_map];rw[aqH]
def gdR(r:Rq):Gd:=r.2.2.2.2.2.1
structure MC (m:Mod) (r:Rq) (said:List Int):Prop where
 v:Mr m
 p:aff r.2.1 m.1.1
 g:abq (gdR r)
 pr:r.1≠[]
 c:((r.1.length+said.length:Nat):Int)≤m.1.2.1
 t:Xn m (r.1++said)
theorem MC.take{m:Mod}{r:Rq}{s:List Int}(h:MC m r s)(k:Nat):MC m r (s.take k):=by
 refine⟨h.v,h.p,h.g,h.pr,?_,fun t ht=> ?_⟩
 ·have:=h.c;rw[aC];omega
 ·rcases List.mem_append.1 ht with ht |ht
  ·exact h.t t (aR _ ht)
  ·exact h.t t (bo _ (dy ht))
structure OkR (r:Rq):Prop where
 p:r.1.length≤1048576
 b:r.2.1.2.2.2.2.2.length≤1048576
 g1:(gdR r).1.length≤1048576
 g2:(gdR r).2.length≤1048576
theorem anN{n:Nat}{m:Mod}{l:List Int}(hl:l.length≤100000000)(hn:2000000000≤n):∃b,wx n (m,l)=some b∧(b=true↔Xn m l):=by
 rw[Wi,m9,ot];rcases dc (L:=fun k j (_:Unit)=>bH n k (l,(m,()),(l.length:Int),j,())) (len:=l.length) (fun _=>()) (fun i=>0≤l.getD i 0∧l.getD i 0<m.1.1) (fun i=> .inl ((i:Int),())) (.inr ()) (by
  intro k j hj _;show(_∧bH n (k+1) _=_)∨(_∧bH n (k+1) _=_);rw[gR,jK,fk hj];simp only[aa];rw[Qg,eP];simp only[aa];rw[af]
  by_cases c:0≤l.getD j 0∧l.getD j 0<m.1.1
  ·rw[if_neg (by rw[aB,bF,bF];omega),aN];exact .inl ⟨c,rfl⟩
  ·rw[if_pos (by rw[aB,bF,bF];omega)];exact .inr ⟨c,rfl⟩) (by
  intro k;show bH n (k+1) _=_;rw[gR,af,if_neg (by simp)]) n (by omega)with⟨h1,h2⟩|⟨j,h1,h2,h3,h4⟩
 ·rw[h2];refine⟨true,rfl,fun _ t ht=> ?_,fun _=>rfl⟩;obtain⟨i,hi,rfl⟩:=aL ht;have:=h1 i hi;rw[aT hi]at this;exact this
 ·rw[h4];simp only[aa,cY];rw[decide_eq_true (show(j:Int)≥0 by omega)];refine⟨false,rfl,fun h=>(by cases h),fun h=>absurd ?_ h3⟩;rw[aT h1];exact h _ (ak h1)
theorem UK{n:Nat}{m:Mod}{l:List Int}(hl:l.length≤100000000)(hn:2000000000≤n):∃b,pI n (m,l)=some b∧(b=true↔Xn m l):=by
 rw[TA];rcases dc (L:=fun k j (_:Unit)=>iU n k (l,(),j,m,())) (len:=l.length) (fun _=>()) (fun i=>0≤l.getD i 0∧l.getD i 0<m.1.1) (fun i=> .inl (false,())) (.inr ()) (by
  intro k j hj _;show(_∧iU n (k+1) _=_)∨(_∧iU n (k+1) _=_);rw[yS,jK,fk hj];simp only[aa];rw[eP];simp only[aa];rw[af]
  by_cases c:0≤l.getD j 0∧l.getD j 0<m.1.1
  ·rw[if_neg (by rw[aB,bF,bF];omega),aN];exact .inl ⟨c,rfl⟩
  ·rw[if_pos (by rw[aB,bF,bF];omega)];exact .inr ⟨c,rfl⟩) (by
  intro k;show iU n (k+1) _=_;rw[yS,af,if_neg (by simp)]) n (by omega)with⟨h1,h2⟩|⟨j,h1,h2,h3,h4⟩
 ·rw[h2];refine⟨true,rfl,fun _ t ht=> ?_,fun _=>rfl⟩;obtain⟨i,hi,rfl⟩:=aL ht;have:=h1 i hi;rw[aT hi]at this;exact this
 ·rw[h4];refine⟨false,rfl,fun h=>(by cases h),fun h=>absurd ?_ h3⟩;rw[aT h1];exact h _ (ak h1)
theorem UL{m:Mod}{a b:List Int}:Xn m (a++b)↔Xn m a∧Xn m b:=by
 constructor
 ·intro h;exact⟨fun t ht=>h t (aR _ ht),fun t ht=>h t (bo _ ht)⟩
 ·intro h t ht;rcases List.mem_append.1 ht with ht |ht
  ·exact h.1 t ht
  ·exact h.2 t ht
theorem UM{n:Nat}{m:Mod}{r:Rq}{said:List Int}(hm:Xm m)(hr:OkR r)(hs:said.length≤1048576)(hn:2000000000≤n):
  ∃w e,jg n (m,r,said)=some (w,e)∧jJ n (m,r,said)=some (w,e)∧
   ((MC m r said∧e=0∧(w.length:Int)=m.1.1∧(∀x∈w,0≤x∧x≤JQ r.2.1.2.2.2.2.1)∧w.sum=JQ r.2.1.2.2.2.2.1)∨(¬ MC m r said∧e≠0∧w=[])):=by
 have hrp:=hr.p;obtain⟨b1,e1,i1⟩:=apo hm.o hn;obtain⟨b2,e2,i2,-⟩:=YG hm.o hn;rw[Tt,Qu,e1,e2];simp only[aa];rcases n8 i1 with⟨hv,rfl⟩|⟨hv,rfl⟩
 case inr=>
  rcases n8 i2 with⟨hv2,rfl⟩|⟨-,rfl⟩
  ·exact absurd hv2 hv
  ·exact⟨[],210,rfl,rfl,.inr ⟨fun h=>hv h.v,by decide,rfl⟩⟩
 rcases n8 i2 with⟨-,rfl⟩|⟨hv2,rfl⟩
 case inr=>exact absurd hv hv2
 simp only[ba,cg];obtain⟨q1,f1,j1⟩:=afg (n:=n) (p:=r.2.1) (t:=m.1.1) hr.b hn;obtain⟨q2,f2,j2⟩:=YJ (n:=n) (p:=r.2.1) (t:=m.1.1) hr.b hn;rw[f1,f2];simp only[aa];rcases j1 with⟨hp,rfl⟩|⟨hp,rfl⟩
 case inr=>
  rcases j2 with⟨hp2,rfl⟩|⟨-,rfl⟩
  ·exact absurd hp2 hp
  ·exact⟨[],220,rfl,rfl,.inr ⟨fun h=>hp h.p,by decide,rfl⟩⟩
 rcases j2 with⟨-,rfl⟩|⟨hp2,rfl⟩
 case inr=>exact absurd hp hp2
 rw[show((0:Int)!=0)=false from rfl,cg,cg];obtain⟨u1,g1,k1⟩:=Mu (n:=n) (g:=gdR r) hr.g1 hn;obtain⟨u2,g2,k2⟩:=Mt (n:=n) (g:=gdR r) hr.g1 hn;have hu:=k1.uniq k2;have g1':lU n r.2.2.2.2.2.1=some u1:=g1;have g2':l5 n r.2.2.2.2.2.1=some u2:=g2;rw[g1',g2'];simp only[aa];rw[←hu]
 by_cases hg0:u1.2=0
 case neg=>
  rw[show(u1.2 !=0)=true by rw[bne_iff_ne];exact hg0,j9,j9];exact⟨[],u1.2,rfl,rfl,.inr ⟨fun h=>hg0 (k1.zero.2 h.g),hg0,rfl⟩⟩
 have hg:=k1.zero.1 hg0;rw[show(u1.2 !=0)=false by rw[hg0];rfl,cg,cg];rw[et (by simp;omega) (by omega)];simp only[aa,bE];rw[et];simp only[aa];rw[eP,eP,ag,aN (x:=(r.1.length:Int)+(said.length:Int)),show(r.1.length:Int)+(said.length:Int)=((r.1.length+said.length:Nat):Int)by omega];simp only[aa]
 by_cases hc:r.1≠[]∧((r.1.length+said.length:Nat):Int)≤m.1.2.1
 case neg=>
  have eb:(((r.1.length:Int)==0)||decide (((r.1.length+said.length:Nat):Int)>m.1.2.1))=true:=by
   rw[aB,beq_iff_eq,bF]
   by_cases h0:r.1=[]
   ·left;rw[h0];rfl
   ·right;have:¬ ((r.1.length+said.length:Nat):Int)≤m.1.2.1:=fun h=>hc ⟨h0,h⟩;omega
  rw[eb,j9,j9];exact⟨[],212,rfl,rfl,.inr ⟨fun h=>hc ⟨h.pr,h.c⟩,by decide,rfl⟩⟩
 obtain⟨hne,hlc⟩:=hc;have hpos:0<r.1.length:=List.length_pos_iff.2 hne;have eb:(((r.1.length:Int)==0)||decide (((r.1.length+said.length:Nat):Int)>m.1.2.1))=false:=by
  rw[←eK,aB,beq_iff_eq,bF];omega
 rw[eb,cg,cg];obtain⟨t1,l1,o1⟩:=anN (n:=n) (m:=m) (l:=r.1++said) (by rw[ag];omega) hn;obtain⟨t2,l2,o2⟩:=UK (n:=n) (m:=m) (l:=r.1) (by omega) hn;obtain⟨t3,l3,o3⟩:=UK (n:=n) (m:=m) (l:=said) (by omega) hn;rw[l1,l2,l3];simp only[aa];rw[eP];simp only[aa]
 by_cases ht:Xn m (r.1++said)
 case neg=>
  have et1:t1=false:=by rw[←eK,o1];exact ht
  have et2:(!t2|| !t3)=true:=by
   rw[aB,aW,aW,←eK,←eK,o2,o3];apply Classical.byContradiction;intro wi;rw[not_or]at wi;exact ht (UL.2 ⟨Classical.not_not.1 wi.1,Classical.not_not.1 wi.2⟩)
  rw[et1,et2];exact⟨[],133,rfl,rfl,.inr ⟨fun h=>ht h.t,by decide,rfl⟩⟩
 have et1:t1=true:=o1.2 ht;have ht':=UL.1 ht;rw[et1,o2.2 ht'.1,o3.2 ht'.2];simp only[ba,Bool.or_self,cg];obtain⟨D,H,half,C,Hd,V,L,E,hM⟩:=awA hm hv;have hC:=hM.r.ok.c;have hV:=hM.r.ok.v;obtain⟨s1,s2,s3,s4⟩:=ak2 hM hv ht (by intro h;exact hne (List.append_eq_nil_iff.1 h).1) (by rw[ag];omega) hn;rw[s1];simp only[aa];rw[show((0:Int)!=0)=false from rfl,cg,Ts,aa6];rw[et (l:=[]) (by simp;omega) (by omega)];simp only[aa,bE];rw[et];simp only[aa];rw[s2];simp only[aa];have akQ:=hv.1.2.1;have hvl:=hv.1.2.2.1;have a1:qS n (r.2.2.2.2.2.1,m.2.1,said)=some (EZ (gdR r) m.2.1 0 said):=anp hg akQ (by omega) hn;have a2:q8 n (r.2.2.2.2.2.1,m.2.1,said)=some (EZ (gdR r) m.2.1 0 said):=anq hg akQ (by omega) hn;rw[a1,a2];simp only[aa];have hst:=aiB (v:=m.2.1) hg.e.st (l:=said) (awr (g:=gdR r));obtain⟨mk,c1,c2⟩:=apz (n:=n) hg akQ hst hn;obtain⟨mk',d1,d2⟩:=apA (n:=n) hg akQ hst hn;rw[arM d2 c2]at d1;have c1':tO n (r.2.2.2.2.2.1,m.2.1,EZ (gdR r) m.2.1 0 said)=some (mk,0):=c1;have d1':ug n (r.2.2.2.2.2.1,m.2.1,EZ (gdR r) m.2.1 0 said)=some (mk,0):=d1;rw[c1',d1'];simp only[aa];have hsl:((YS m (r.1++said)).length:Int)=m.1.1:=by rw[s3,hV]
 obtain⟨w,w1,w2,w3,w4,w5⟩:=weights (n:=n) (sc:=YS m (r.1++said)) (mk:=mk) (p:=r.2.1) hn (by rw[hsl];exact hp) (fun x hx=>by have:=s4 x hx;omega) (by rw[c2.len];omega) (arN c2 akQ.l2);rw[w1,w2];exact⟨w,0,rfl,rfl,.inl ⟨⟨hv,hp,hg,hne,hlc,ht⟩,rfl,by rw[w3];exact hsl,w4,w5⟩⟩
end Go.Am.Pu
