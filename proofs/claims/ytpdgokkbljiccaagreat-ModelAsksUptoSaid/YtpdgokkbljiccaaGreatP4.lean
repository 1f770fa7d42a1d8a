import Derived.Test.YtpdgokkbljiccaaGreatP3
import Derived.Test.YtpdgokkbljiccaaGreatP1
set_option linter.unusedVariables false
set_option linter.unusedSimpArgs false
open Bool renaming and_eq_true→ah,not_eq_true'→cd
open Int renaming tdiv_eq_ediv_of_nonneg→aB,toNat_natCast→aH
open Go.IntKind renaming bits→cj
open List renaming append_assoc→bI,getD_eq_getElem?_getD→bd,getElem?_append_left→aU,getElem?_append_right→bc,getElem?_eq_getElem→ai,getElem_mem→ap,getElem_of_mem→cZ
open Nat renaming le_mul_of_pos_right→bM,le_refl→av,mul_le_mul→aT
open Option renaming bind_some→aa
namespace Go.Am.Pu
open Go Go.Am
structure aek (D Hd:Nat) (b:vz) (a c:Int):Prop where
 a0:0≤a
 a1:a≤4194304
 c0:0≤c
 c1:c≤4194304
 o:∀j,j<D→(bJ (127*ei (dh b.2.2.2.2.1 D j)) b.2.2.2.2.2.2.2.2.2.1).1≤a
 d:∀j,j<D→(bJ (127*ei (dh b.2.2.2.2.2.2.2.2.2.2.2.2.2.1 Hd j)) b.2.2.2.2.2.2.2.2.2.2.2.2.2.2.2.2).1≤c
structure Rch (D Hd:Nat) (bs:List vz) (f:Int) (i:Nat) (l:List Int):Prop where
 len:l.length=2*i+1
 f0:l.getD 0 0=f
 top:0≤l.getD (2*i) 0∧l.getD (2*i) 0≤2147483648+(i:Int)*8388608
 st:∀j (hj:j<bs.length),j<i→∃a c,aek D Hd bs[j] a c∧l.getD (2*j+1) 0=l.getD (2*j) 0+a∧l.getD (2*j+2) 0=l.getD (2*j+1) 0+c
theorem wN{l m:List Int}{i:Nat}(h:i<l.length):(l++m).getD i 0=l.getD i 0:=by
 rw[bd,bd,aU h]
theorem Yv{l:List Int}{x y:Int}:(l++[x,y]).getD l.length 0=x∧(l++[x,y]).getD (l.length+1) 0=y:=by
 rw[bd,bd,bc (by omega),bc (by omega)];simp
theorem Rch.step{D Hd:Nat}{bs:List vz}{f:Int}{i:Nat}{l:List Int}(h:Rch D Hd bs f i l)(T:i<bs.length){a c:Int}(p:aek D Hd bs[i] a c):Rch D Hd bs f (i+1) (l++[l.getD (2*i) 0+a,l.getD (2*i) 0+a+c]):=by
 have K:=h.len;obtain⟨g1,g2⟩:=Yv (l:=l) (x:=l.getD (2*i) 0+a) (y:=l.getD (2*i) 0+a+c);rw[K]at g1 g2;have O:=p.a0;have P:=p.a1;have Q:=p.c0;have R:=p.c1;have S:=h.top;refine⟨by simp;omega,by rw[wN (by omega)];exact h.f0,?_,?_⟩
 ·rw[show 2*(i+1)=2*i+1+1 by omega,g2];omega
 ·intro j I J
  by_cases w:j=i
  ·subst w;refine⟨a,c,p,?_,?_⟩
   ·rw[g1,wN (by omega)]
   ·rw[show 2*j+2=2*j+1+1 by omega,g2,g1]
  ·obtain⟨E,H,L,M,N⟩:=h.st j I (by omega);refine⟨E,H,L,?_,?_⟩
   ·rw[wN (by omega),wN (by omega)];exact M
   ·rw[wN (by omega),wN (by omega)];exact N
theorem aax(i:Nat):(2:Int)^(i+1)=2^i*2:=Int.pow_succ 2 i
def zA(f:Nat→Int):Nat→Int
 |0=>0
 |k+1=>imax (zA f k) (f k)
theorem x9{x y:Int}:imax x y=if y>x then y else x:=rfl
theorem Mf{f:Nat→Int}:∀{k j:Nat},j<k→f j≤zA f k
 |k+1,j,h=>by
  show f j≤imax (zA f k) (f k);rw[x9]
  by_cases a:j=k
  ·subst a;split<;>omega
  ·have:=Mf (f:=f) (k:=k) (j:=j) (by omega)
   split<;>omega
theorem Hb{f:Nat→Int}{b:Int}(a:0≤b):∀{k:Nat},(∀j,j<k→f j≤b)→0≤zA f k∧zA f k≤b
 |0,_=>⟨Int.le_refl 0,a⟩
 |k+1,h=>by
  have c:=Hb a (k:=k) fun j g=>h j (by omega);have d:=h k (by omega);show 0≤imax (zA f k) (f k)∧_;show _∧imax (zA f k) (f k)≤b;rw[x9]
  split<;>omega
def wO(w:List Int)(c r:Nat)(s:Int):Int:=zA (fun j=>(bJ (127*ei (dh w c j)) s).1) r
theorem Hc{w:List Int}{r c:Nat}{s:Int}(i:w.length=r*c)(y:1≤c)(n:c≤256)(k:aO w)(t:0≤s)(u:s≤31):
  (∀j,j<r→0≤127*ei (dh w c j)∧127*ei (dh w c j)≤4194304∧(bJ (127*ei (dh w c j)) s).1≤4194304)∧0≤wO w c r s∧wO w c r s≤4194304:=by
 have p:w.length % c=0:=by rw[i];exact Nat.mul_mod_left _ _
 have o:w.length/c=r:=by rw[i];exact Nat.mul_div_cancel _ (by omega)
 have a:∀j,j<r→0≤127*ei (dh w c j)∧127*ei (dh w c j)≤4194304∧(bJ (127*ei (dh w c j)) s).1≤4194304:=by
  intro j b;have d:j<w.length/c:=by rw[o];exact b
  have g:=nD p d;have h:=Q3 (l:=dh w c j) (k.sub _ _);rw[g]at h;have q:=UQ (x:=127*ei (dh w c j)) (s:=s) (by omega) t (by omega);exact⟨by omega,by omega,by omega⟩
 exact⟨a,Hb (by omega) fun j b=>(a j b).2.2⟩
theorem OD{n:Nat}{w:List Int}{r c:Nat}{s:Int}(q:w.length=r*c)(t:r*c≤1048576)(o:1≤c)(b:c≤256)(l:aO w)(y:0≤s)(g:s≤31)(u:ii n):
  jd n (w,(c:Int),s)=some (wO w c r s):=by
 have B:r≤1048576:=by
  have:=bM r (show 0<c by omega);omega
 obtain⟨h,-⟩:=Hc q o b l y g;rw[Li,UY q t o l u];simp only[aa];have p:=aQ (L:=fun k j a=>gC n k (s,a,cM (fun j=>ei (dh w c j)) r,(((cM (fun j=>ei (dh w c j)) r).length:Nat):Int),j,())) (len:=r) (r:=(wO w c r s,())) (fun i=>wO w c i s) (by
  intro k j d;have z:=h j d;show gC n (k+1) _=_;rw[ul,ag,if_pos (by rw[dU];simp;omega),aS (by simp;exact d) 0,kn _ d];simp only[aa,ag,dU];rw[bu (x:=127*ei (dh w c j)),kj (by omega) (by omega) (by omega)];simp only[aa];show _=gC n k (s,imax (wO w c j s) (bJ (127*ei (dh w c j)) s).1,_);rw[x9]
  split
  ·simp only[aa];rw[bu]
  ·simp only[aa];rw[bu]) (by
  intro k;show gC n (k+1) _=_;rw[ul,ag,if_neg (by simp)]) n (by omega)
 rw[show wO w c 0 s=0 from rfl]at p;rw[p];rfl
theorem aay{s x:Int}(a:0≤s)(b:s≤1000000000)(c: -128≤x)(d:x≤127):Na s x=s+fv x:=by
 unfold Na fv;rw[bu (x:=x),bu (x:=0 -x),x9]
 split
 ·rw[jO,bu];omega
 ·rw[bu]
  split<;>omega
theorem aaz{l:List Int}(h:aO l)(k:l.length≤1048576):vM l=ei l:=by
 have b:∀i,i≤l.length→(l.take i).foldl Na 0=eh (fun i=>fv (l.getD i 0)) i:=by
  intro i
  induction i with
  |zero=>intro _;rfl
  |succ i d=>
   intro j;have a:=h.at i;have g:=agx h i;rw[List.take_add_one,ai (by omega),Option.toList_some,List.foldl_append,d (by omega)];show Na _ l[i]=_;have c:l.getD i 0=l[i]'(by omega):=by simp[show i<l.length by omega]
   rw[c]at a;rw[aay (by omega) (by omega) a.1 a.2];show _=eh (fun i=>fv (l.getD i 0)) i+fv (l.getD i 0);rw[c]
 have:=b l.length (av _);rw[List.take_length]at this;exact this
theorem Yw{n:Nat}{w:List Int}{r c:Nat}(h:w.length=r*c)(p:r*c≤1048576)(k:1≤c)(l:c≤256)(i:aO w):ahS n (w,(c:Int))=some (cM (fun j=>ei (dh w c j)) r,0):=by
 have g:w.length % c=0:=by rw[h];exact Nat.mul_mod_left _ _
 have d:w.length/c=r:=by rw[h];exact Nat.mul_div_cancel _ (by omega)
 have a:zy w (c:Int)=0:=by
  unfold zy;rw[fu,fu]
 have q:r≤1048576:=by
  have:=bM r (show 0<c by omega);omega
 show DO (hU n) (w,(c:Int))=_;unfold DO;simp only;rw[Ei,a];simp only[aa,ag];rw[if_neg (by simp),if_pos (by simp;omega),aH];congr 2;unfold chunks;rw[Xj k g,d];show(cM (fun j=>dh w c j) r).map vM=_;unfold cM;rw[List.map_map];refine List.map_congr_left fun j b=> ?_;have b:j<r:=List.mem_range.1 b;have o:=nD g (show j<w.length/c by rw[d];exact b);exact aaz (i.sub _ _) (by show(dh w c j).length≤_;omega)
theorem OE{n:Nat}{w:List Int}{r c:Nat}{s:Int}(q:w.length=r*c)(t:r*c≤1048576)(o:1≤c)(b:c≤256)(l:aO w)(u:0≤s)(g:s≤31)(z:ii n):
  ja n (w,(c:Int),s)=some (wO w c r s):=by
 have B:r≤1048576:=by
  have:=bM r (show 0<c by omega);omega
 obtain⟨h,-⟩:=Hc q o b l u g;rw[KX,Yw q t o b l];simp only[aa];have p:=aQ (L:=fun k j a=>iG n k (s,a,cM (fun j=>ei (dh w c j)) r,(((cM (fun j=>ei (dh w c j)) r).length:Nat):Int),j,())) (len:=r) (r:=(wO w c r s,())) (fun i=>wO w c i s) (by
  intro k j d;have y:=h j d;show iG n (k+1) _=_;rw[uc,ag,if_pos (by rw[dU];simp;omega),aS (by simp;exact d) 0,kn _ d];simp only[aa];rw[bu (x:=127*ei (dh w c j)),i5 (by omega) (by omega)];simp only[aa];rw[bu];rfl) (by
  intro k;show iG n (k+1) _=_;rw[uc,ag,if_neg (by simp)]) n (by omega)
 rw[show wO w c 0 s=0 from rfl]at p;rw[p];rfl
def eK(e:List Int):Int:=zA (fun j=>fv (e.getD j 0)) e.length
def acb(D:Nat)(b:vz):Int:=wO b.2.2.2.2.1 D D b.2.2.2.2.2.2.2.2.2.1
def ael(D Hd:Nat)(b:vz):Int:=wO b.2.2.2.2.2.2.2.2.2.2.2.2.2.1 Hd D b.2.2.2.2.2.2.2.2.2.2.2.2.2.2.2.2
def Cf(D Hd:Nat)(a:List vz)(f:Int):Nat→List Int
 |0=>[f]
 |i+1=>match a[i]? with
  |some b=>Cf D Hd a f i++[(Cf D Hd a f i).getD (2*i) 0+acb D b,(Cf D Hd a f i).getD (2*i) 0+acb D b+ael D Hd b]
  |none=>Cf D Hd a f i
def ig(m:Mod):List Int:=Cf m.1.2.2.1.toNat m.1.2.2.2.2.2.toNat m.2.2.2.2.2.2.1 (eK m.2.2.1*2^m.2.2.2.1.toNat) m.2.2.2.2.2.2.1.length
theorem Xt{D Hd:Nat}{b:vz}(a:zf D Hd b)(k:Wx b)(l:1≤D)(n:D≤64)(p:1≤Hd)(d:Hd≤256):aek D Hd b (acb D b) (ael D Hd b):=by
 have h:=Hc (w:=b.2.2.2.2.1) (r:=D) (c:=D) (s:=b.2.2.2.2.2.2.2.2.2.1) a.o l (by omega) k.o a.os.1 a.os.2;have i:=Hc (w:=b.2.2.2.2.2.2.2.2.2.2.2.2.2.1) (r:=D) (c:=Hd) (s:=b.2.2.2.2.2.2.2.2.2.2.2.2.2.2.2.2) a.m3 p d k.m3 a.ds.1 a.ds.2;exact⟨h.2.1,h.2.2,i.2.1,i.2.2,fun j g=>Mf (f:=fun j=>(bJ (127*ei (dh b.2.2.2.2.1 D j)) b.2.2.2.2.2.2.2.2.2.1).1) g,fun j g=>Mf (f:=fun j=>(bJ (127*ei (dh b.2.2.2.2.2.2.2.2.2.2.2.2.2.1 Hd j)) b.2.2.2.2.2.2.2.2.2.2.2.2.2.2.2.2).1) g⟩
theorem aaA{D Hd:Nat}{a:List vz}{f:Int}(k:1≤D)(c:D≤64)(l:1≤Hd)(d:Hd≤256)(n:∀b∈a,zf D Hd b)(g:∀b∈a,Wx b)(p:0≤f∧f≤2147483648):∀i,i≤a.length→Rch D Hd a f i (Cf D Hd a f i)
 |0,_=>⟨rfl,rfl,by show 0≤f∧f≤_;omega,fun j r h=>by omega⟩
 |i+1,q=>by
  have h:=aaA k c l d n g p i (by omega);have o:=ap (show i<a.length by omega);show Rch D Hd a f (i+1) (match a[i]? with |some b=>_ |none=>_);rw[ai (show i<a.length by omega)];exact h.step (by omega) (Xt (n _ o) (g _ o) k c l d)
theorem wP{e:List Int}(h:aO e):0≤eK e∧eK e≤128∧∀x∈e,-eK e≤x∧x≤eK e:=by
 have a:=Hb (f:=fun j=>fv (e.getD j 0)) (b:=128) (by omega) (k:=e.length) (fun j _=>by
  have:=h.at j;show fv (e.getD j 0)≤128;unfold fv;split<;>omega)
 refine⟨a.1,a.2,fun x g=> ?_⟩;obtain⟨j,c,rfl⟩:=cZ g;have d:fv (e.getD j 0)≤eK e:=Mf (f:=fun j=>fv (e.getD j 0)) c;rw[dy c]at d;have:=UR e[j];omega
theorem BW{f:Int}(b:0≤f)(c:f≤128){i:Nat}(d:i≤24):0≤f*2^i∧f*2^i≤2147483648:=by
 have k:=nA (s:=i) (by omega);have a:(2:Int)^i≤16777216:=by
  have:(2:Nat)^i≤2^24:=Nat.pow_le_pow_right (by omega) d;have h:((2^i:Nat):Int)≤((2^24:Nat):Int):=by exact_mod_cast this
  simpa using h
 have g:=Int.mul_nonneg b (show(0:Int)≤2^i by omega);have j:=Int.mul_le_mul c a (by omega) (by omega);omega
theorem hA{α:Type}{b:Nat}{l m:List α}(h:l.length+m.length≤10000000000:=by omega)(a:b≤1000:=by omega):app b l m=some (l++m):=by
 unfold app;have:(l.length+m.length)*b≤10000000000*1000:=aT h a;rw[if_pos (by unfold room;omega)]
theorem zO{b:Nat}{n:Int}{m:Nat}(h:n=(m:Int):=by omega)(hm:m≤10000000000:=by omega)(a:b≤1000:=by omega):ED b n=some m:=by
 unfold ED;have:m*b≤10000000000*1000:=aT hm a;subst h;rw[if_pos (by simp only[aH];unfold room;omega)];simp
theorem wQ{a b:Int}(h:0≤a:=by omega):a.tdiv b=a/b:=aB h
theorem aem{α:Type}{P T:List α}{x y:α}{i:Nat}(a:i=P.length):(P++x::T).set i y=P++y::T:=by subst a;simp
theorem kq{l:List Int}{i:Nat}(h:i<l.length):idx l (i:Int)=some (l.getD i 0):=aS h 0
structure qd (m:Mod) (D H half C Hd V L:Nat) (E:Nat):Prop where
 lm:WD m
 ok:MOk m D H half C Hd V L
 e8:aO m.2.2.1
 b8:∀b∈m.2.2.2.2.2.2.1,Wx b
 es:m.2.2.2.1=(E:Int)
 el:E≤24
theorem qd.rch{m:Mod}{D H half C Hd V L E:Nat}(h:qd m D H half C Hd V L E){i:Nat}(p:i≤m.2.2.2.2.2.2.1.length):
  Rch D Hd m.2.2.2.2.2.2.1 (eK m.2.2.1*2^E) i (Cf D Hd m.2.2.2.2.2.2.1 (eK m.2.2.1*2^E) i):=by
 have g1:=h.ok.kp.dm;have g2:=h.ok.kp.hm;have w:=h.ok.kp.pos;have j:=h.ok.kp.hd;have a:=wP h.e8;exact aaA (by omega) g1 j g2 h.ok.b h.b8 (BW a.1 a.2.1 h.el) i p
theorem qd.eq{m:Mod}{D H half C Hd V L E:Nat}(h:qd m D H half C Hd V L E):ig m=Cf D Hd m.2.2.2.2.2.2.1 (eK m.2.2.1*2^E) m.2.2.2.2.2.2.1.length:=by
 unfold ig;rw[h.ok.d,h.ok.hd,h.es];simp
theorem qd.agz{m:Mod}{D H half C Hd V L E:Nat}(h:qd m D H half C Hd V L E){j:Nat}(x:j<m.2.2.2.2.2.2.1.length):
  ∃l t a d,l=Cf D Hd m.2.2.2.2.2.2.1 (eK m.2.2.1*2^E) j∧l.length=2*j+1∧t=l.getD (2*j) 0∧0≤t∧t≤3000000000∧a=acb D m.2.2.2.2.2.2.1[j]∧d=ael D Hd m.2.2.2.2.2.2.1[j]∧0≤a∧a≤4194304∧0≤d∧d≤4194304∧
   Cf D Hd m.2.2.2.2.2.2.1 (eK m.2.2.1*2^E) (j+1)=l++[t+a,t+a+d]:=by
 have hr:=h.rch (i:=j) (by omega);have I:=h.ok.bs;have J:=h.ok.l8;have p:=hr.top;have g1:=h.ok.kp.dm;have g2:=h.ok.kp.hm;have K:=h.ok.kp.pos;have y:=h.ok.kp.hd;have hm:=ap x;have w:=Xt (h.ok.b _ hm) (h.b8 _ hm) (by omega) g1 y g2;refine⟨_,_,_,_,rfl,hr.len,rfl,p.1,by omega,rfl,rfl,w.a0,w.a1,w.c0,w.c1,?_⟩;show(match m.2.2.2.2.2.2.1[j]? with |some b=>_ |none=>_)=_;rw[ai x]
theorem Du{n:Nat}{m:Mod}{D H half C Hd V L E:Nat}(h:qd m D H half C Hd V L E)(M:ii n):jv n m=some (ig m):=by
 have T:=h.lm.e;have R:=h.ok.bs;have W:=h.ok.l8;have g1:=h.ok.kp.dm;have g2:=h.ok.kp.hm;have g3:=h.ok.kp.pos;have g4:=h.ok.kp.hd;have g5:=h.ok.kp.dd;have P:=h.ok.kp.hdd;rw[Nat.mul_comm]at P;have K:=wP h.e8;rw[Ea];have F:=aQ (L:=fun k j a=>ez n k ((),a,m.2.2.1,(m.2.2.1.length:Int),j,m,())) (len:=m.2.2.1.length) (r:=((),eK m.2.2.1,m,()))
  (fun i=>zA (fun j=>fv (m.2.2.1.getD j 0)) i) (by
  intro k j u;have hx: -128≤m.2.2.1.getD j 0∧m.2.2.1.getD j 0≤127:=h.e8.at j;show ez n (k+1) _=ez n k ((),imax (zA (fun j=>fv (m.2.2.1.getD j 0)) j) (fv (m.2.2.1.getD j 0)),_);rw[pD,xY,kq u];simp only[aa];rw[bu (x:=m.2.2.1.getD j 0),bu (x:=0 -m.2.2.1.getD j 0)];have N:aw (decide (m.2.2.1.getD j 0<0)) (some (0 -m.2.2.1.getD j 0)) (some (m.2.2.1.getD j 0))=some (fv (m.2.2.1.getD j 0)):=by
   rw[ag];unfold fv
   by_cases c:m.2.2.1.getD j 0<0
   ·rw[if_pos (by simpa using c),if_pos c];congr 1;omega
   ·rw[if_neg (by simpa using c),if_neg c]
  rw[N];simp only[aa];have O:∀x y:Int,aw (decide (x>y)) (some x) (some y)=some (imax y x):=by
   intro x y;rw[ag,x9]
   by_cases c:x>y
   ·rw[if_pos (by simpa using c),if_pos c]
   ·rw[if_neg (by simpa using c),if_neg c]
  rw[O];simp only[aa];rw[bu]) (by
  intro k;show ez n (k+1) _=_;rw[pD,ag,if_neg (by simp)];rfl) n (by omega)
 rw[show zA (fun j=>fv (m.2.2.1.getD j 0)) 0=0 from rfl]at F;rw[F];simp only[aa];have p:=aQ (L:=fun k j s=>eX n k ((),s,j,m,())) (len:=E) (r:=((),eK m.2.2.1*2^E,m,())) (fun i=>eK m.2.2.1*2^i) (by
  intro k i hi;have:=BW K.1 K.2.1 (i:=i) (by have:=h.el;omega);show eX n (k+1) _=_;rw[nV,ag,if_pos (by rw[dU,h.es];omega),bu,bu (by have:=h.el;omega) (by have:=h.el;omega),aax,Int.mul_assoc]) (by
  intro k;show eX n (k+1) _=_;rw[nV,ag,if_neg (by rw[h.es];simp)]) n (by have:=h.el;omega)
 rw[Int.pow_zero,Int.mul_one]at p;rw[p];simp only[aa];have I:=aQ (L:=fun k j l=>dX n k ((),l,m.2.2.2.2.2.2.1,(m.2.2.2.2.2.2.1.length:Int),j,m,())) (len:=m.2.2.2.2.2.2.1.length) (r:=(ig m,()))
  (fun i=>Cf D Hd m.2.2.2.2.2.2.1 (eK m.2.2.1*2^E) i) (by
  intro k j u;obtain⟨l,t,a,d,U,X,Z,t1,t2,Q,S,a1,a2,d1,d2,Y⟩:=h.agz u;have q:=ap u;have g:=h.ok.b _ q;have J:=h.b8 _ q;have z:=OD (n:=n) (w:=m.2.2.2.2.2.2.1[j].2.2.2.2.1) (r:=D) (c:=D) (s:=m.2.2.2.2.2.2.1[j].2.2.2.2.2.2.2.2.2.1) g.o (by omega) (by omega) (by omega) J.o g.os.1 g.os.2 M;have B:=OD (n:=n) (w:=m.2.2.2.2.2.2.1[j].2.2.2.2.2.2.2.2.2.2.2.2.2.1) (r:=D) (c:=Hd) (s:=m.2.2.2.2.2.2.1[j].2.2.2.2.2.2.2.2.2.2.2.2.2.2.2.2) g.m3 (by omega) (by omega) (by omega) J.m3 g.ds.1 g.ds.2 M;have z:jd n (m.2.2.2.2.2.2.1[j].2.2.2.2.1,(D:Int),m.2.2.2.2.2.2.1[j].2.2.2.2.2.2.2.2.2.1)=some a:=by rw[z,Q];rfl
  have B:jd n (m.2.2.2.2.2.2.1[j].2.2.2.2.2.2.2.2.2.2.2.2.2.1,(Hd:Int),m.2.2.2.2.2.2.1[j].2.2.2.2.2.2.2.2.2.2.2.2.2.2.2.2)=some d:=by rw[B,S];rfl
  show dX n (k+1) _=dX n k ((),Cf D Hd m.2.2.2.2.2.2.1 (eK m.2.2.1*2^E) (j+1),_);rw[Y,←U];rw[nW,xY,cO u];simp only[aa];rw[bu (x:=(l.length:Int) -1),show(l.length:Int) -1=((2*j:Nat):Int)by omega,kq (show 2*j<l.length by omega),←Z];simp only[aa];rw[h.ok.d,h.ok.hd,z];simp only[aa];rw[B];simp only[aa];rw[bu (x:=t+a),bu (x:=t+a+d),hA (by simp;omega) (by omega)];simp only[aa];rw[bu]) (by
  intro k;show dX n (k+1) _=_;rw[nW,ag,if_neg (by simp),h.eq]) n (by omega)
 rw[show Cf D Hd m.2.2.2.2.2.2.1 (eK m.2.2.1*2^E) 0=[eK m.2.2.1*2^E]from rfl]at I;rw[I];rfl
theorem P0{n:Nat}{m:Mod}{D H half C Hd V L E:Nat}(h:qd m D H half C Hd V L E)(N:ii n):lz n m=some (ig m):=by
 have X:=h.lm.e;have U:=h.ok.bs;have hl8:=h.ok.l8;have g1:=h.ok.kp.dm;have g2:=h.ok.kp.hm;have g3:=h.ok.kp.pos;have g4:=h.ok.kp.hd;have g5:=h.ok.kp.dd;have R:=h.ok.kp.hdd;rw[Nat.mul_comm]at R;have M:=wP h.e8;rw[DY];have I:=aQ (L:=fun k j a=>ew n k ((),a,m.2.2.1,(m.2.2.1.length:Int),j,m,())) (len:=m.2.2.1.length) (r:=((),eK m.2.2.1,m,()))
  (fun i=>zA (fun j=>fv (m.2.2.1.getD j 0)) i) (by
  intro k j u;have hx: -128≤m.2.2.1.getD j 0∧m.2.2.1.getD j 0≤127:=h.e8.at j;have z:=(Hb (f:=fun j=>fv (m.2.2.1.getD j 0)) (b:=128) (by omega) (k:=j) (fun i _=>by have:=h.e8.at i;show fv (m.2.2.1.getD i 0)≤128;unfold fv;split<;>omega)).1;show ew n (k+1) _=ew n k ((),imax (zA (fun j=>fv (m.2.2.1.getD j 0)) j) (fv (m.2.2.1.getD j 0)),_);rw[px,xY,kq u];simp only[aa];rw[bu (x:=m.2.2.1.getD j 0),bu (x:=0 -m.2.2.1.getD j 0),bu];have O:imax (imax (zA (fun j=>fv (m.2.2.1.getD j 0)) j) (m.2.2.1.getD j 0)) (0 -m.2.2.1.getD j 0)=imax (zA (fun j=>fv (m.2.2.1.getD j 0)) j) (fv (m.2.2.1.getD j 0)):=by
   obtain⟨q,hq⟩:∃q,q=zA (fun j=>fv (m.2.2.1.getD j 0)) j:=⟨_,rfl⟩;rw[←hq]at z ⊢;simp only[x9];unfold fv
   repeat' split
   all_goals omega
  rw[O]) (by
  intro k;show ew n (k+1) _=_;rw[px,ag,if_neg (by simp)];rfl) n (by omega)
 rw[show zA (fun j=>fv (m.2.2.1.getD j 0)) 0=0 from rfl]at I;rw[I];simp only[aa];have S:=h.el;have Y:=BW M.1 M.2.1 S;have P:Dx .i64 (eK m.2.2.1) m.2.2.2.1=some (eK m.2.2.1*2^E):=by
  unfold Dx;rw[h.es,fu,aH,show min E (cj .i64)=E by show min E 64=E;omega,bu]
 rw[P];simp only[aa];have J:=aQ (L:=fun k j l=>ey n k ((),l,m.2.2.2.2.2.2.1,(m.2.2.2.2.2.2.1.length:Int),j,m,())) (len:=m.2.2.2.2.2.2.1.length) (r:=(ig m,()))
  (fun i=>Cf D Hd m.2.2.2.2.2.2.1 (eK m.2.2.1*2^E) i) (by
  intro k j u;obtain⟨l,t,a,d,Z,y,ht,t1,t2,T,W,a1,a2,d1,d2,hs⟩:=h.agz u;have p:=ap u;have g:=h.ok.b _ p;have K:=h.b8 _ p;have B:=OE (n:=n) (w:=m.2.2.2.2.2.2.1[j].2.2.2.2.1) (r:=D) (c:=D) (s:=m.2.2.2.2.2.2.1[j].2.2.2.2.2.2.2.2.2.1) g.o (by omega) (by omega) (by omega) K.o g.os.1 g.os.2 N;have F:=OE (n:=n) (w:=m.2.2.2.2.2.2.1[j].2.2.2.2.2.2.2.2.2.2.2.2.2.1) (r:=D) (c:=Hd) (s:=m.2.2.2.2.2.2.1[j].2.2.2.2.2.2.2.2.2.2.2.2.2.2.2.2) g.m3 (by omega) (by omega) (by omega) K.m3 g.ds.1 g.ds.2 N;have B:ja n (m.2.2.2.2.2.2.1[j].2.2.2.2.1,(D:Int),m.2.2.2.2.2.2.1[j].2.2.2.2.2.2.2.2.2.1)=some a:=by rw[B,T];rfl
  have F:ja n (m.2.2.2.2.2.2.1[j].2.2.2.2.2.2.2.2.2.2.2.2.2.1,(Hd:Int),m.2.2.2.2.2.2.1[j].2.2.2.2.2.2.2.2.2.2.2.2.2.2.2.2)=some d:=by rw[F,W];rfl
  show ey n (k+1) _=ey n k ((),Cf D Hd m.2.2.2.2.2.2.1 (eK m.2.2.1*2^E) (j+1),_);rw[hs,←Z];rw[pz,xY,cO u];simp only[aa];rw[bu (x:=(l.length:Int) -1),show(l.length:Int) -1=((2*j:Nat):Int)by omega,kq (show 2*j<l.length by omega),←ht];simp only[aa];rw[h.ok.d,h.ok.hd,B];simp only[aa];rw[bu (x:=t+a),hA (by simp;omega) (by omega)];simp only[aa];have hl2:(l++[t+a]).length=2*j+2:=by simp;omega
  rw[bu (x:=(((l++[t+a]).length:Nat):Int) -1),show(((l++[t+a]).length:Nat):Int) -1=((2*j+1:Nat):Int)by omega,kq (show 2*j+1<(l++[t+a]).length by omega)];simp only[aa];have Q:(l++[t+a]).getD (2*j+1) 0=t+a:=by rw[←y];simp
  rw[Q,F];simp only[aa];rw[bu (x:=t+a+d),hA (by simp;omega) (by omega),bI];simp only[aa];rw[bu];rfl) (by
  intro k;show ey n (k+1) _=_;rw[pz,ag,if_neg (by simp),h.eq]) n (by omega)
 rw[show Cf D Hd m.2.2.2.2.2.2.1 (eK m.2.2.1*2^E) 0=[eK m.2.2.1*2^E]from rfl]at J;rw[J];rfl
structure acc (m:Mod):Prop where
 len:WD m
 e:aO m.2.2.1
 b:∀b∈m.2.2.2.2.2.2.1,Wx b
def Eu(m:Mod):Prop:=Me m∧∀x∈ig m,x≤268435456
theorem WM{m:Mod}(h:acc m)(c:Me m):∃D H half C Hd V L E,qd m D H half C Hd V L E:=by
 obtain⟨-,-,-,D,H,half,C,Hd,V,L,a⟩:=c;exact⟨D,H,half,C,Hd,V,L,m.2.2.2.1.toNat,h.len,a,h.e,h.b,by have:=a.es;omega,by have:=a.es;omega⟩
theorem qd.len{m:Mod}{D H half C Hd V L E:Nat}(h:qd m D H half C Hd V L E):(ig m).length≤17:=by
 have hr:=(h.rch (i:=m.2.2.2.2.2.2.1.length) (av _)).len;rw[←h.eq]at hr;have:=h.ok.bs;have:=h.ok.l8;omega
theorem Bv{n:Nat}{m:Mod}(h:acc m)(t:ii n):∃r,oO n m=some r∧(r.2.2=0↔Eu m):=by
 obtain⟨p,F,w⟩:=J3 h.len t;rw[IJ,F];simp only[aa,ag,bne_iff_ne,ne_eq]
 by_cases c:p.2.2=0
 case neg=>rw[if_pos c];exact⟨_,rfl,fun h=>absurd h c,fun h=>absurd (w.2 h.1) c⟩
 have u:=w.1 c;rw[if_neg (fun h=>h c)];obtain⟨D,H,l,C,I,V,L,E,o⟩:=WM h u;rw[Du o t];simp only[aa];have q:=o.len;rcases fM (L:=fun k j (_:Unit)=>fE n k (ig m,(((ig m).length:Nat):Int),j,())) (len:=(ig m).length) (fun _=>()) (fun i=>(ig m).getD i 0≤268435456) (fun i=> .inl (9,(i:Int),163,())) (.inr ()) (by
  intro k j b _;show(_∧fE n (k+1) _=_)∨(_∧fE n (k+1) _=_);rw[sn,xY,kq b];simp only[aa,ag,dU]
  by_cases d:(ig m).getD j 0>268435456
  ·rw[if_pos d];exact .inr ⟨by omega,rfl⟩
  ·rw[if_neg d,bu];exact .inl ⟨by omega,rfl⟩) (by
  intro k;show fE n (k+1) _=_;rw[sn,ag,if_neg (by simp)]) n (by omega)with⟨a,g⟩|⟨j,a,g,y,z⟩
 ·rw[g];refine⟨_,rfl,fun _=>⟨u,fun x B=> ?_⟩,fun _=>rfl⟩;obtain⟨j,b,rfl⟩:=cZ B;have:=a j b;rw[dy b]at this;exact this
 ·rw[z];refine⟨_,rfl,fun h=>(by cases h),fun h=>absurd ?_ y⟩;rw[dy a];exact h.2 _ (ap a)
theorem Vb{n:Nat}{m:Mod}(hm:WD m)(hS:uI m.1)(hn:ii n):∃r,oy n m=some r∧(r.2=0↔∃D H half C Hd V L,MOk m D H half C Hd V L):=by
 have hbs:=hm.bs;rw[Ir];have o:=WG (n:=n) hS;obtain⟨D,H,half,C,Hd,V,L,d,J,Q,y,hH,I,t,z,R,B⟩:=Xr hS;rw[B]at o;have c:=Q8 (m:=m) B J Q y hH I t;have g1:=d.dm;have g2:=d.hm;have g3:=d.cm;have g4:=d.hle;have m1:V*D≤512*64:=aT z.2 g1;have m2:C*half≤512*64:=aT g3 (by omega);have e1:=Ha m1 (by omega);have e2:=Ha m2 (by omega);rw[o];simp only[aa,ag,bne_iff_ne,ne_eq];rw[J,y,Q,I,e1,e2]
 by_cases O:¬ (m.2.2.1.length:Int)=((V*D:Nat):Int)
 ·rw[if_pos O];exact⟨_,rfl,fun h=>(by cases h),fun h=>absurd (by rw[(c h).e]) O⟩
 rw[if_neg O,vC];simp only[aa]
 by_cases w:¬ (0≤m.2.2.2.1∧m.2.2.2.1≤24)
 ·rw[if_pos (by simp only[cd,decide_eq_false_iff_not];exact w)];exact⟨_,rfl,fun h=>(by cases h),fun h=>absurd (c h).es w⟩
 have w:=Decidable.not_not.1 w;rw[if_neg (by simp only[cd,decide_eq_false_iff_not];exact fun h=>h w)]
 by_cases d1:¬ (m.2.2.2.2.1.length:Int)=((C*half:Nat):Int)
 ·rw[if_pos d1];exact⟨_,rfl,fun h=>(by cases h),fun h=>absurd (by rw[(c h).cos]) d1⟩
 rw[if_neg d1]
 by_cases d2:¬ (m.2.2.2.2.2.1.length:Int)=((C*half:Nat):Int)
 ·rw[if_pos d2];exact⟨_,rfl,fun h=>(by cases h),fun h=>absurd (by rw[(c h).sin]) d2⟩
 rw[if_neg d2];obtain⟨M,hM⟩:∃M:Nat,imax (L:Int) (m.2.2.2.2.2.2.1.length:Int)=(M:Int)∧M=max L m.2.2.2.2.2.2.1.length:=by
  refine⟨max L m.2.2.2.2.2.2.1.length,?_,rfl⟩;rw[x9]
  split<;>omega
 rw[hM.1];rcases fM (L:=fun k j (_:Unit)=>(eO n k ((),(),(),(M:Int),j,m,(0,0),m.1,())).map (fun q=>match q with |.inl q=>Sum.inl (decide (q.2.1=0))|.inr q=> .inr q)) (len:=M) (fun _=>())
  (fun i=>i<L∧∃(h:i<m.2.2.2.2.2.2.1.length),zf D Hd m.2.2.2.2.2.2.1[i]) (fun _=> .inl false) (.inr ((),(),(),m,(0,0),m.1,())) (by
  intro k j N _;show(_∧Option.map _ (eO n (k+1) _)=_)∨(_∧Option.map _ (eO n (k+1) _)=_);rw[qq,xY,oU];simp only[aa];rw[I]
  by_cases d1:(j:Int)<(L:Int)∧(j:Int)<(m.2.2.2.2.2.2.1.length:Int)
  case neg=>
   have e:(decide ((j:Int)<(L:Int))&&decide ((j:Int)<(m.2.2.2.2.2.2.1.length:Int)))=false:=by
    rw[←Bool.not_eq_true,ah,dU,dU];exact d1
   rw[e];refine .inr ⟨fun h=> ?_,rfl⟩;obtain⟨h1,h2,-⟩:=h;exact d1 ⟨by omega,by omega⟩
  have E:j<m.2.2.2.2.2.2.1.length:=by omega
  obtain⟨r,hr,F⟩:=Va (n:=n) (s:=m.1) (b:=m.2.2.2.2.2.2.1[j]) (D:=D) (Hd:=Hd) y t g1 g2 hn;rw[decide_eq_true d1.1,decide_eq_true d1.2,cO E];simp only[Bool.and_true,Q7,aa];rw[hr];simp only[aa,ag,bne_iff_ne,ne_eq]
  by_cases d2:¬ r=0
  ·rw[if_pos d2];refine .inr ⟨fun h=> ?_,by simp[d2]⟩;obtain⟨-,h1,h2⟩:=h;exact d2 (F.2 h2)
  ·rw[if_neg d2,bu];exact .inl ⟨⟨by omega,E,F.1 (Decidable.not_not.1 d2)⟩,rfl⟩) (by
  intro k;show Option.map _ (eO n (k+1) _)=_;rw[qq,ag,if_neg (by simp)];rfl) n (by omega)with⟨P,h4⟩|⟨j,P,h4,h5,h6⟩
 case inr=>
  obtain⟨q,U,a⟩:=Option.map_eq_some_iff.1 h6;rw[U]
  match q,a with
  |.inl q,a=>
   have hz:¬ q.2.1=0:=by simpa using a
   refine⟨_,rfl,fun h=>absurd h hz,fun h=>absurd ?_ h5⟩;have K:=(c h).bs;have N:j<m.2.2.2.2.2.2.1.length:=by omega
   exact⟨by omega,N,(c h).b _ (ap N)⟩
  |.inr q,a=>cases a
 obtain⟨q,U,a⟩:=Option.map_eq_some_iff.1 h4;rw[U]
 match q,a with
 |.inl q,a=>cases a
 |.inr q,a=>
 have a:q=((),(),(),m,(0,0),m.1,()):=by simpa using a
 subst a;simp only[aa,ea];rw[y,J,e1];have S:m.2.2.2.2.2.2.1.length=L:=by
  by_cases h0:M=0
  ·omega
  ·obtain⟨a1,a2,-⟩:=P (M -1) (by omega);omega
 by_cases X:¬ (m.2.2.2.2.2.2.2.1.length:Int)=256
 ·rw[if_pos X];exact⟨_,rfl,fun h=>(by cases h),fun h=>(by have:=(c h).be;omega)⟩
 rw[if_neg X]
 by_cases Y:¬ (m.2.2.2.2.2.2.2.2.1.length:Int)=(D:Int)
 ·rw[if_pos Y];exact⟨_,rfl,fun h=>(by cases h),fun h=>(by have:=(c h).g;omega)⟩
 rw[if_neg Y]
 by_cases Z:¬ (m.2.2.2.2.2.2.2.2.2.1.length:Int)=((V*D:Nat):Int)
 ·rw[if_pos Z];exact⟨_,rfl,fun h=>(by cases h),fun h=>(by have:=(c h).u;omega)⟩
 rw[if_neg Z];obtain⟨b,K,T⟩:=GZ (n:=n) (l:=[m.2.2.2.2.2.2.2.2.2.2]) (by simp) hn;rw[K];simp only[aa];rcases sQ T with⟨p,rfl⟩|⟨p,rfl⟩
 case inr=>
  refine⟨_,rfl,fun h=>(by cases h),fun h=>absurd (fun x W=> ?_) p⟩;have:x=m.2.2.2.2.2.2.2.2.2.2:=by simpa using W
  rw[this];exact(c h).ls
 refine⟨_,rfl,fun _=>⟨D,H,half,C,Hd,V,L,d,J,Q,y,hH,I,t,z,R,by omega,w,by omega,by omega,S,fun b K=> ?_,by omega,by omega,by omega,p _ (by simp)⟩,fun _=>rfl⟩;obtain⟨j,N,rfl⟩:=cZ K;obtain⟨_,_,W⟩:=P j (by omega);exact W
theorem Bw{n:Nat}{m:Mod}(h:acc m)(w:ii n):∃r,oA n m=some r∧(r.2=0↔Eu m):=by
 obtain⟨Q,y,a⟩:=UX (n:=n) (v:=m.2.1) h.len.t h.len.ms h.len.tt w;rw[Iu,J2];simp only[aa,ag,bne_iff_ne,ne_eq]
 by_cases g:uI m.1
 case neg=>
  rw[sP g,if_pos (by decide)];exact⟨_,rfl,fun h=>(by cases h),fun h=>absurd h.1.1 g⟩
 rw[BV g,if_neg (by simp),Ip,y];simp only[aa,ag,bne_iff_ne,ne_eq]
 by_cases b:¬ Q.2=0
 ·rw[if_pos b];simp only[aa];rw[if_pos b];exact⟨_,rfl,fun h=>absurd h b,fun h=>absurd (a.2 h.1.2.1) b⟩
 rw[if_neg b];have l:=a.1 (Decidable.not_not.1 b)
 by_cases o:¬ (m.2.1.1.length:Int)=m.1.1
 ·rw[if_pos o];simp only[aa];rw[if_pos (by decide)];exact⟨_,rfl,fun h=>(by cases h),fun h=>absurd h.1.2.2.1 o⟩
 rw[if_neg o];simp only[aa];rw[if_neg (by decide)];obtain⟨p,P,K⟩:=Vb h.len g w;rw[P];simp only[aa]
 by_cases c:p.2=0
 case neg=>rw[if_pos c];exact⟨_,rfl,fun h=>absurd h c,fun h=>absurd (K.2 h.1.2.2.2) c⟩
 rw[if_neg (fun h=>h c)];have J:Me m:=⟨g,l,Decidable.not_not.1 o,K.1 c⟩;obtain⟨D,H,B,C,R,V,L,E,F⟩:=WM h J;rw[P0 F w];simp only[aa];have I:=F.len;rcases fM (L:=fun k j (_:Unit)=>eP n k ((),ig m,(((ig m).length:Nat):Int),j,(0,0),())) (len:=(ig m).length) (fun _=>()) (fun i=>(ig m).getD i 0≤268435456) (fun i=> .inl ((),163,(9,(i:Int)),())) (.inr ((),(0,0),())) (by
  intro k j u _;show(_∧eP n (k+1) _=_)∨(_∧eP n (k+1) _=_);rw[qr,xY,kq u];simp only[aa,ag,dU]
  by_cases d:(ig m).getD j 0>268435456
  ·rw[if_pos d];exact .inr ⟨by omega,rfl⟩
  ·rw[if_neg d,bu];exact .inl ⟨by omega,rfl⟩) (by
  intro k;show eP n (k+1) _=_;rw[qr,ag,if_neg (by simp)]) n (by omega)with⟨q,z⟩|⟨j,q,z,M,N⟩
 ·rw[z];refine⟨_,rfl,fun _=>⟨J,fun x O=> ?_⟩,fun _=>rfl⟩;obtain⟨j,u,rfl⟩:=cZ O;have:=q j u;rw[dy u]at this;exact this
 ·rw[N];refine⟨_,rfl,fun h=>(by cases h),fun h=>absurd ?_ M⟩;rw[dy q];exact h.2 _ (ap q)
end Go.Am.Pu
