import Derived.Test.YtllhngpojglipaaGreatDoorP3
import Derived.Test.YtllhngpojglipaaGreatDoorP4
set_option linter.unusedVariables false
set_option linter.unusedSimpArgs false
open Bool renaming and_eq_true→ak,false_eq_true→cn,not_eq_true'→aZ,not_eq_true→ew,not_true→aY,or_eq_true→aD
open Int renaming mul_assoc→ae8,mul_le_mul→dA,mul_nonneg→cp,pow_succ→c9,toNat_natCast→ax
open Go.IntKind renaming bits→b9,i64→bz,wrap→ae
open List renaming append_assoc→bo,drop_eq_getElem_cons→bi,drop_of_length_le→bA,drop_zero→dy,getD_eq_getElem?_getD→aB,getElem?_append_left→aP,getElem?_append_right→bc,getElem?_eq_getElem→ai,getElem?_eq_none→bd,getElem_mem→am,getElem_of_mem→aM,length_append→ah,length_cons→bg,length_replicate→aU,length_set→aO,length_singleton→bZ,length_take→aC,length→af,map_congr_left→ft,mem_append_left→aS,mem_append_right→bp,mem_cons_of_mem→aG,mem_cons_self→aH,nil_append→bC,replicate→ao,set→aX,take_add_one→dK,take_length→ch
open Nat renaming add_sub_cancel_left→eL,le_mul_of_pos_right→cy,le_refl→az,mul_le_mul→bD
open Option renaming bind_some→aa
namespace Go.Am.Pu
open Go Go.Am
structure awr (D Hd:Nat) (b:FP) (a c:Int):Prop where
 a0:0≤a
 a1:a≤4194304
 c0:0≤c
 c1:c≤4194304
 o:∀j,j<D→(cq (127*gq (eG b.2.2.2.2.1 D j)) b.2.2.2.2.2.2.2.2.2.1).1≤a
 d:∀j,j<D→(cq (127*gq (eG b.2.2.2.2.2.2.2.2.2.2.2.2.2.1 Hd j)) b.2.2.2.2.2.2.2.2.2.2.2.2.2.2.2.2).1≤c
structure Rch (D Hd:Nat) (bs:List FP) (f:Int) (i:Nat) (l:List Int):Prop where
 len:l.length=2*i+1
 f0:l.getD 0 0=f
 top:0≤l.getD (2*i) 0∧l.getD (2*i) 0≤2147483648+(i:Int)*8388608
 st:∀j (hj:j<bs.length),j<i→∃a c,awr D Hd bs[j] a c∧l.getD (2*j+1) 0=l.getD (2*j) 0+a∧l.getD (2*j+2) 0=l.getD (2*j+1) 0+c
theorem FI{l m:List Int}{i:Nat}(h:i<l.length):(l++m).getD i 0=l.getD i 0:=by
 rw[aB,aB,aP h]
theorem apR{l:List Int}{x y:Int}:(l++[x,y]).getD l.length 0=x∧(l++[x,y]).getD (l.length+1) 0=y:=by
 rw[aB,aB,bc (by omega),bc (by omega)];simp
theorem Rch.step{D Hd:Nat}{bs:List FP}{f:Int}{i:Nat}{l:List Int}(h:Rch D Hd bs f i l)(hi:i<bs.length){a c:Int}(E:awr D Hd bs[i] a c):Rch D Hd bs f (i+1) (l++[l.getD (2*i) 0+a,l.getD (2*i) 0+a+c]):=by
 have M:=h.len;obtain⟨g1,g2⟩:=apR (l:=l) (x:=l.getD (2*i) 0+a) (y:=l.getD (2*i) 0+a+c);rw[M]at g1 g2;have Q:=E.a0;have R:=E.a1;have S:=E.c0;have T:=E.c1;have U:=h.top;refine⟨by simp;omega,by rw[FI (by omega)];exact h.f0,?_,?_⟩
 ·rw[show 2*(i+1)=2*i+1+1 by omega,g2];omega
 ·intro j K L
  by_cases H:j=i
  ·subst H;refine⟨a,c,E,?_,?_⟩
   ·rw[g1,FI (by omega)]
   ·rw[show 2*j+2=2*j+1+1 by omega,g2,g1]
  ·obtain⟨I,J,N,O,P⟩:=h.st j K (by omega);refine⟨I,J,N,?_,?_⟩
   ·rw[FI (by omega),FI (by omega)];exact O
   ·rw[FI (by omega),FI (by omega)];exact P
theorem arW(i:Nat):(2:Int)^(i+1)=2^i*2:=c9 2 i
def I7(f:Nat→Int):Nat→Int
 |0=>0
 |k+1=>imax (I7 f k) (f k)
theorem Hl{x y:Int}:imax x y=if y>x then y else x:=rfl
theorem abd{f:Nat→Int}:∀{k j:Nat},j<k→f j≤I7 f k
 |k+1,j,h=>by
  show f j≤imax (I7 f k) (f k);rw[Hl]
  by_cases a:j=k
  ·subst a;split<;>omega
  ·have:=abd (f:=f) (k:=k) (j:=j) (by omega)
   split<;>omega
theorem TA{f:Nat→Int}{b:Int}(a:0≤b):∀{k:Nat},(∀j,j<k→f j≤b)→0≤I7 f k∧I7 f k≤b
 |0,_=>⟨Int.le_refl 0,a⟩
 |k+1,h=>by
  have c:=TA a (k:=k) fun j e=>h j (by omega);have d:=h k (by omega);show 0≤imax (I7 f k) (f k)∧_;show _∧imax (I7 f k) (f k)≤b;rw[Hl]
  split<;>omega
def FJ(w:List Int)(c r:Nat)(s:Int):Int:=I7 (fun j=>(cq (127*gq (eG w c j)) s).1) r
theorem TB{w:List Int}{r c:Nat}{s:Int}(h:w.length=r*c)(u:1≤c)(k:c≤256)(i:bh w)(q:0≤s)(t:s≤31):
  (∀j,j<r→0≤127*gq (eG w c j)∧127*gq (eG w c j)≤4194304∧(cq (127*gq (eG w c j)) s).1≤4194304)∧0≤FJ w c r s∧FJ w c r s≤4194304:=by
 have o:w.length % c=0:=by rw[h];exact Nat.mul_mod_left _ _
 have n:w.length/c=r:=by rw[h];exact Nat.mul_div_cancel _ (by omega)
 have a:∀j,j<r→0≤127*gq (eG w c j)∧127*gq (eG w c j)≤4194304∧(cq (127*gq (eG w c j)) s).1≤4194304:=by
  intro j b;have d:j<w.length/c:=by rw[n];exact b
  have e:=tZ o d;have g:=ahi (l:=eG w c j) (i.sub _ _);rw[e]at g;have p:=alx (x:=127*gq (eG w c j)) (s:=s) (by omega) q (by omega);exact⟨by omega,by omega,by omega⟩
 exact⟨a,TA (by omega) fun j b=>(a j b).2.2⟩
theorem aeh{n:Nat}{w:List Int}{r c:Nat}{s:Int}(p:w.length=r*c)(q:r*c≤1048576)(l:1≤c)(b:c≤256)(h:bh w)(u:0≤s)(e:s≤31)(t:Hn0 n):
  na n (w,(c:Int),s)=some (FJ w c r s):=by
 have z:r≤1048576:=by
  have:=cy r (show 0<c by omega);omega
 obtain⟨g,-⟩:=TB p l b h u e;rw[Z8,alD p q l h t];simp only[aa];have o:=ba (L:=fun k j a=>ka n k (s,a,dL (fun j=>gq (eG w c j)) r,(((dL (fun j=>gq (eG w c j)) r).length:Nat):Int),j,())) (len:=r) (r:=(FJ w c r s,())) (fun i=>FJ w c i s) (by
  intro k j d;have y:=g j d;show ka n (k+1) _=_;rw[CG,ag,if_pos (by rw[bx];simp;omega),bn (by simp;exact d) 0,po _ d];simp only[aa,ag,bx];rw[aN (x:=127*gq (eG w c j)),pk (by omega) (by omega) (by omega)];simp only[aa];show _=ka n k (s,imax (FJ w c j s) (cq (127*gq (eG w c j)) s).1,_);rw[Hl]
  split
  ·simp only[aa];rw[aN]
  ·simp only[aa];rw[aN]) (by
  intro k;show ka n (k+1) _=_;rw[CG,ag,if_neg (by simp)]) n (by omega)
 rw[show FJ w c 0 s=0 from rfl]at o;rw[o];rfl
theorem arX{s x:Int}(a:0≤s)(b:s≤1000000000)(c: -128≤x)(d:x≤127):abZ s x=s+i7 x:=by
 unfold abZ i7;rw[aN (x:=x),aN (x:=0 -x),Hl]
 split
 ·rw[lf,aN];omega
 ·rw[aN]
  split<;>omega
theorem arY{l:List Int}(h:bh l)(j:l.length≤1048576):Eo l=gq l:=by
 have b:∀i,i≤l.length→(l.take i).foldl abZ 0=gn (fun i=>i7 (l.getD i 0)) i:=by
  intro i
  induction i with
  |zero=>intro _;rfl
  |succ i d=>
   intro g;have a:=h.at i;have e:=ayr h i;rw[dK,ai (by omega),Option.toList_some,List.foldl_append,d (by omega)];show abZ _ l[i]=_;have c:l.getD i 0=l[i]'(by omega):=by simp[show i<l.length by omega]
   rw[c]at a;rw[arX (by omega) (by omega) a.1 a.2];show _=gn (fun i=>i7 (l.getD i 0)) i+i7 (l.getD i 0);rw[c]
 have:=b l.length (az _);rw[ch]at this;exact this
theorem apS{n:Nat}{w:List Int}{r c:Nat}(g:w.length=r*c)(o:r*c≤1048576)(i:1≤c)(k:c≤256)(h:bh w):Jx n (w,(c:Int))=some (dL (fun j=>gq (eG w c j)) r,0):=by
 have e:w.length % c=0:=by rw[g];exact Nat.mul_mod_left _ _
 have d:w.length/c=r:=by rw[g];exact Nat.mul_div_cancel _ (by omega)
 have a:I6 w (c:Int)=0:=by
  unfold I6;rw[gk,gk]
 have p:r≤1048576:=by
  have:=cy r (show 0<c by omega);omega
 show O0 (kX n) (w,(c:Int))=_;unfold O0;simp only;rw[PM,a];simp only[aa,ag];rw[if_neg (by simp),if_pos (by simp;omega),ax];congr 2;unfold chunks;rw[aoA i e,d];show(dL (fun j=>eG w c j) r).map Eo=_;unfold dL;rw[List.map_map];refine ft fun j b=> ?_;have b:j<r:=List.mem_range.1 b;have l:=tZ e (show j<w.length/c by rw[d];exact b);exact arY (h.sub _ _) (by show(eG w c j).length≤_;omega)
theorem aei{n:Nat}{w:List Int}{r c:Nat}{s:Int}(p:w.length=r*c)(q:r*c≤1048576)(l:1≤c)(b:c≤256)(h:bh w)(t:0≤s)(e:s≤31)(y:Hn0 n):
  mY n (w,(c:Int),s)=some (FJ w c r s):=by
 have z:r≤1048576:=by
  have:=cy r (show 0<c by omega);omega
 obtain⟨g,-⟩:=TB p l b h t e;rw[ZF,apS p q l b h];simp only[aa];have o:=ba (L:=fun k j a=>lY n k (s,a,dL (fun j=>gq (eG w c j)) r,(((dL (fun j=>gq (eG w c j)) r).length:Nat):Int),j,())) (len:=r) (r:=(FJ w c r s,())) (fun i=>FJ w c i s) (by
  intro k j d;have u:=g j d;show lY n (k+1) _=_;rw[Cr,ag,if_pos (by rw[bx];simp;omega),bn (by simp;exact d) 0,po _ d];simp only[aa];rw[aN (x:=127*gq (eG w c j)),mT (by omega) (by omega)];simp only[aa];rw[aN];rfl) (by
  intro k;show lY n (k+1) _=_;rw[Cr,ag,if_neg (by simp)]) n (by omega)
 rw[show FJ w c 0 s=0 from rfl]at o;rw[o];rfl
def il(e:List Int):Int:=I7 (fun j=>i7 (e.getD j 0)) e.length
def at8(D:Nat)(b:FP):Int:=FJ b.2.2.2.2.1 D D b.2.2.2.2.2.2.2.2.2.1
def aws(D Hd:Nat)(b:FP):Int:=FJ b.2.2.2.2.2.2.2.2.2.2.2.2.2.1 Hd D b.2.2.2.2.2.2.2.2.2.2.2.2.2.2.2.2
def MN(D Hd:Nat)(bs:List FP)(f:Int):Nat→List Int
 |0=>[f]
 |i+1=>match bs[i]? with
  |some b=>MN D Hd bs f i++[(MN D Hd bs f i).getD (2*i) 0+at8 D b,(MN D Hd bs f i).getD (2*i) 0+at8 D b+aws D Hd b]
  |none=>MN D Hd bs f i
def p7(m:Mod):List Int:=MN m.1.2.2.1.toNat m.1.2.2.2.2.2.toNat m.2.2.2.2.2.2.1 (il m.2.2.1*2^m.2.2.2.1.toNat) m.2.2.2.2.2.2.1.length
theorem aoO{D Hd:Nat}{b:FP}(a:IK D Hd b)(i:OkB b)(k:1≤D)(l:D≤64)(n:1≤Hd)(d:Hd≤256):awr D Hd b (at8 D b) (aws D Hd b):=by
 have g:=TB (w:=b.2.2.2.2.1) (r:=D) (c:=D) (s:=b.2.2.2.2.2.2.2.2.2.1) a.o k (by omega) i.o a.os.1 a.os.2;have h:=TB (w:=b.2.2.2.2.2.2.2.2.2.2.2.2.2.1) (r:=D) (c:=Hd) (s:=b.2.2.2.2.2.2.2.2.2.2.2.2.2.2.2.2) a.m3 n d i.m3 a.ds.1 a.ds.2;exact⟨g.2.1,g.2.2,h.2.1,h.2.2,fun j e=>abd (f:=fun j=>(cq (127*gq (eG b.2.2.2.2.1 D j)) b.2.2.2.2.2.2.2.2.2.1).1) e,fun j e=>abd (f:=fun j=>(cq (127*gq (eG b.2.2.2.2.2.2.2.2.2.2.2.2.2.1 Hd j)) b.2.2.2.2.2.2.2.2.2.2.2.2.2.2.2.2).1) e⟩
theorem arZ{D Hd:Nat}{bs:List FP}{f:Int}(e:1≤D)(a:D≤64)(g:1≤Hd)(c:Hd≤256)(k:∀b∈bs,IK D Hd b)(d:∀b∈bs,OkB b)(n:0≤f∧f≤2147483648):∀i,i≤bs.length→Rch D Hd bs f i (MN D Hd bs f i)
 |0,_=>⟨rfl,rfl,by show 0≤f∧f≤_;omega,fun j p h=>by omega⟩
 |i+1,o=>by
  have h:=arZ e a g c k d n i (by omega);have l:=am (show i<bs.length by omega);show Rch D Hd bs f (i+1) (match bs[i]? with |some b=>_ |none=>_);rw[ai (show i<bs.length by omega)];exact h.step (by omega) (aoO (k _ l) (d _ l) e a g c)
theorem FK{e:List Int}(h:bh e):0≤il e∧il e≤128∧∀x∈e,-il e≤x∧x≤il e:=by
 have a:=TA (f:=fun j=>i7 (e.getD j 0)) (b:=128) (by omega) (k:=e.length) (fun j _=>by
  have:=h.at j;show i7 (e.getD j 0)≤128;unfold i7;split<;>omega)
 refine⟨a.1,a.2,fun x g=> ?_⟩;obtain⟨j,c,rfl⟩:=aM g;have d:i7 (e.getD j 0)≤il e:=abd (f:=fun j=>i7 (e.getD j 0)) c;rw[aV c]at d;have:=aly e[j];omega
theorem Mq{f:Int}(b:0≤f)(c:f≤128){i:Nat}(hi:i≤24):0≤f*2^i∧f*2^i≤2147483648:=by
 have g:=rn (s:=i) (by omega);have a:(2:Int)^i≤16777216:=by
  have:(2:Nat)^i≤2^24:=Nat.pow_le_pow_right (by omega) hi;have h:((2^i:Nat):Int)≤((2^24:Nat):Int):=by exact_mod_cast this
  simpa using h
 have d:=cp b (show(0:Int)≤2^i by omega);have e:=dA c a (by omega) (by omega);omega
theorem eU{l:List Int}{i:Nat}(h:i<l.length):idx l (i:Int)=some (l.getD i 0):=bn h 0
structure xN (m:Mod) (D H half C Hd V L:Nat) (E:Nat):Prop where
 lm:agf m
 ok:MOk m D H half C Hd V L
 e8:bh m.2.2.1
 b8:∀b∈m.2.2.2.2.2.2.1,OkB b
 es:m.2.2.2.1=(E:Int)
 el:E≤24
theorem xN.rch{m:Mod}{D H half C Hd V L E:Nat}(h:xN m D H half C Hd V L E){i:Nat}(hi:i≤m.2.2.2.2.2.2.1.length):
  Rch D Hd m.2.2.2.2.2.2.1 (il m.2.2.1*2^E) i (MN D Hd m.2.2.2.2.2.2.1 (il m.2.2.1*2^E) i):=by
 have g1:=h.ok.uo.dm;have g2:=h.ok.uo.hm;have I:=h.ok.uo.pos;have y:=h.ok.uo.hd;have j:=FK h.e8;exact arZ (by omega) g1 y g2 h.ok.b h.b8 (Mq j.1 j.2.1 h.el) i hi
theorem xN.eq{m:Mod}{D H half C Hd V L E:Nat}(h:xN m D H half C Hd V L E):p7 m=MN D Hd m.2.2.2.2.2.2.1 (il m.2.2.1*2^E) m.2.2.2.2.2.2.1.length:=by
 unfold p7;rw[h.ok.d,h.ok.hd,h.es];simp
theorem xN.ayB{m:Mod}{D H half C Hd V L E:Nat}(h:xN m D H half C Hd V L E){j:Nat}(J:j<m.2.2.2.2.2.2.1.length):
  ∃l t a d,l=MN D Hd m.2.2.2.2.2.2.1 (il m.2.2.1*2^E) j∧l.length=2*j+1∧t=l.getD (2*j) 0∧0≤t∧t≤3000000000∧a=at8 D m.2.2.2.2.2.2.1[j]∧d=aws D Hd m.2.2.2.2.2.2.1[j]∧0≤a∧a≤4194304∧0≤d∧d≤4194304∧
   MN D Hd m.2.2.2.2.2.2.1 (il m.2.2.1*2^E) (j+1)=l++[t+a,t+a+d]:=by
 have hr:=h.rch (i:=j) (by omega);have M:=h.ok.bs;have N:=h.ok.l8;have y:=hr.top;have g1:=h.ok.uo.dm;have g2:=h.ok.uo.hm;have O:=h.ok.uo.pos;have K:=h.ok.uo.hd;have hm:=am J;have I:=aoO (h.ok.b _ hm) (h.b8 _ hm) (by omega) g1 K g2;refine⟨_,_,_,_,rfl,hr.len,rfl,y.1,by omega,rfl,rfl,I.a0,I.a1,I.c0,I.c1,?_⟩;show(match m.2.2.2.2.2.2.1[j]? with |some b=>_ |none=>_)=_;rw[ai J]
theorem agi{n:Nat}{m:Mod}{D H half C Hd V L E:Nat}(h:xN m D H half C Hd V L E)(M:Hn0 n):qY n m=some (p7 m):=by
 have T:=h.lm.e;have R:=h.ok.bs;have W:=h.ok.l8;have g1:=h.ok.uo.dm;have g2:=h.ok.uo.hm;have g3:=h.ok.uo.pos;have g4:=h.ok.uo.hd;have g5:=h.ok.uo.dd;have P:=h.ok.uo.hdd;rw[Nat.mul_comm]at P;have K:=FK h.e8;rw[Pz];have F:=ba (L:=fun k j a=>gQ n k ((),a,m.2.2.1,(m.2.2.1.length:Int),j,m,())) (len:=m.2.2.1.length) (r:=((),il m.2.2.1,m,()))
  (fun i=>I7 (fun j=>i7 (m.2.2.1.getD j 0)) i) (by
  intro k j u;have hx: -128≤m.2.2.1.getD j 0∧m.2.2.1.getD j 0≤127:=h.e8.at j;show gQ n (k+1) _=gQ n k ((),imax (I7 (fun j=>i7 (m.2.2.1.getD j 0)) j) (i7 (m.2.2.1.getD j 0)),_);rw[xb,bP0,eU u];simp only[aa];rw[aN (x:=m.2.2.1.getD j 0),aN (x:=0 -m.2.2.1.getD j 0)];have N:av (decide (m.2.2.1.getD j 0<0)) (some (0 -m.2.2.1.getD j 0)) (some (m.2.2.1.getD j 0))=some (i7 (m.2.2.1.getD j 0)):=by
   rw[ag];unfold i7
   by_cases c:m.2.2.1.getD j 0<0
   ·rw[if_pos (by simpa using c),if_pos c];congr 1;omega
   ·rw[if_neg (by simpa using c),if_neg c]
  rw[N];simp only[aa];have O:∀x y:Int,av (decide (x>y)) (some x) (some y)=some (imax y x):=by
   intro x y;rw[ag,Hl]
   by_cases c:x>y
   ·rw[if_pos (by simpa using c),if_pos c]
   ·rw[if_neg (by simpa using c),if_neg c]
  rw[O];simp only[aa];rw[aN]) (by
  intro k;show gQ n (k+1) _=_;rw[xb,ag,if_neg (by simp)];rfl) n (by omega)
 rw[show I7 (fun j=>i7 (m.2.2.1.getD j 0)) 0=0 from rfl]at F;rw[F];simp only[aa];have p:=ba (L:=fun k j s=>iE n k ((),s,j,m,())) (len:=E) (r:=((),il m.2.2.1*2^E,m,())) (fun i=>il m.2.2.1*2^i) (by
  intro k i hi;have:=Mq K.1 K.2.1 (i:=i) (by have:=h.el;omega);show iE n (k+1) _=_;rw[ux,ag,if_pos (by rw[bx,h.es];omega),aN,aN (by have:=h.el;omega) (by have:=h.el;omega),arW,ae8]) (by
  intro k;show iE n (k+1) _=_;rw[ux,ag,if_neg (by rw[h.es];simp)]) n (by have:=h.el;omega)
 rw[Int.pow_zero,Int.mul_one]at p;rw[p];simp only[aa];have I:=ba (L:=fun k j l=>fT n k ((),l,m.2.2.2.2.2.2.1,(m.2.2.2.2.2.2.1.length:Int),j,m,())) (len:=m.2.2.2.2.2.2.1.length) (r:=(p7 m,()))
  (fun i=>MN D Hd m.2.2.2.2.2.2.1 (il m.2.2.1*2^E) i) (by
  intro k j u;obtain⟨l,t,a,d,U,X,Z,t1,t2,Q,S,a1,a2,d1,d2,Y⟩:=h.ayB u;have q:=am u;have g:=h.ok.b _ q;have J:=h.b8 _ q;have z:=aeh (n:=n) (w:=m.2.2.2.2.2.2.1[j].2.2.2.2.1) (r:=D) (c:=D) (s:=m.2.2.2.2.2.2.1[j].2.2.2.2.2.2.2.2.2.1) g.o (by omega) (by omega) (by omega) J.o g.os.1 g.os.2 M;have B:=aeh (n:=n) (w:=m.2.2.2.2.2.2.1[j].2.2.2.2.2.2.2.2.2.2.2.2.2.1) (r:=D) (c:=Hd) (s:=m.2.2.2.2.2.2.1[j].2.2.2.2.2.2.2.2.2.2.2.2.2.2.2.2) g.m3 (by omega) (by omega) (by omega) J.m3 g.ds.1 g.ds.2 M;have z:na n (m.2.2.2.2.2.2.1[j].2.2.2.2.1,(D:Int),m.2.2.2.2.2.2.1[j].2.2.2.2.2.2.2.2.2.1)=some a:=by rw[z,Q];rfl
  have B:na n (m.2.2.2.2.2.2.1[j].2.2.2.2.2.2.2.2.2.2.2.2.2.1,(Hd:Int),m.2.2.2.2.2.2.1[j].2.2.2.2.2.2.2.2.2.2.2.2.2.2.2.2)=some d:=by rw[B,S];rfl
  show fT n (k+1) _=fT n k ((),MN D Hd m.2.2.2.2.2.2.1 (il m.2.2.1*2^E) (j+1),_);rw[Y,←U];rw[uy,bP0,bj u];simp only[aa];rw[aN (x:=(l.length:Int) -1),show(l.length:Int) -1=((2*j:Nat):Int)by omega,eU (show 2*j<l.length by omega),←Z];simp only[aa];rw[h.ok.d,h.ok.hd,z];simp only[aa];rw[B];simp only[aa];rw[aN (x:=t+a),aN (x:=t+a+d),dU (by simp;omega) (by omega)];simp only[aa];rw[aN]) (by
  intro k;show fT n (k+1) _=_;rw[uy,ag,if_neg (by simp),h.eq]) n (by omega)
 rw[show MN D Hd m.2.2.2.2.2.2.1 (il m.2.2.1*2^E) 0=[il m.2.2.1*2^E]from rfl]at I;rw[I];rfl
theorem agj{n:Nat}{m:Mod}{D H half C Hd V L E:Nat}(h:xN m D H half C Hd V L E)(N:Hn0 n):qL n m=some (p7 m):=by
 have X:=h.lm.e;have U:=h.ok.bs;have hl8:=h.ok.l8;have g1:=h.ok.uo.dm;have g2:=h.ok.uo.hm;have g3:=h.ok.uo.pos;have g4:=h.ok.uo.hd;have g5:=h.ok.uo.dd;have R:=h.ok.uo.hdd;rw[Nat.mul_comm]at R;have M:=FK h.e8;rw[Po];have I:=ba (L:=fun k j a=>gL n k ((),a,m.2.2.1,(m.2.2.1.length:Int),j,m,())) (len:=m.2.2.1.length) (r:=((),il m.2.2.1,m,()))
  (fun i=>I7 (fun j=>i7 (m.2.2.1.getD j 0)) i) (by
  intro k j u;have hx: -128≤m.2.2.1.getD j 0∧m.2.2.1.getD j 0≤127:=h.e8.at j;have z:=(TA (f:=fun j=>i7 (m.2.2.1.getD j 0)) (b:=128) (by omega) (k:=j) (fun i _=>by have:=h.e8.at i;show i7 (m.2.2.1.getD i 0)≤128;unfold i7;split<;>omega)).1;show gL n (k+1) _=gL n k ((),imax (I7 (fun j=>i7 (m.2.2.1.getD j 0)) j) (i7 (m.2.2.1.getD j 0)),_);rw[wW,bP0,eU u];simp only[aa];rw[aN (x:=m.2.2.1.getD j 0),aN (x:=0 -m.2.2.1.getD j 0),aN];have O:imax (imax (I7 (fun j=>i7 (m.2.2.1.getD j 0)) j) (m.2.2.1.getD j 0)) (0 -m.2.2.1.getD j 0)=imax (I7 (fun j=>i7 (m.2.2.1.getD j 0)) j) (i7 (m.2.2.1.getD j 0)):=by
   obtain⟨q,hq⟩:∃q,q=I7 (fun j=>i7 (m.2.2.1.getD j 0)) j:=⟨_,rfl⟩;rw[←hq]at z ⊢;simp only[Hl];unfold i7
   repeat' split
   all_goals omega
  rw[O]) (by
  intro k;show gL n (k+1) _=_;rw[wW,ag,if_neg (by simp)];rfl) n (by omega)
 rw[show I7 (fun j=>i7 (m.2.2.1.getD j 0)) 0=0 from rfl]at I;rw[I];simp only[aa];have S:=h.el;have Y:=Mq M.1 M.2.1 S;have P:qc .i64 (il m.2.2.1) m.2.2.2.1=some (il m.2.2.1*2^E):=by
  unfold qc;rw[h.es,gk,ax,show min E (b9 .i64)=E by show min E 64=E;omega,aN]
 rw[P];simp only[aa];have J:=ba (L:=fun k j l=>gM n k ((),l,m.2.2.2.2.2.2.1,(m.2.2.2.2.2.2.1.length:Int),j,m,())) (len:=m.2.2.2.2.2.2.1.length) (r:=(p7 m,()))
  (fun i=>MN D Hd m.2.2.2.2.2.2.1 (il m.2.2.1*2^E) i) (by
  intro k j u;obtain⟨l,t,a,d,Z,y,ht,t1,t2,T,W,a1,a2,d1,d2,hs⟩:=h.ayB u;have p:=am u;have g:=h.ok.b _ p;have K:=h.b8 _ p;have B:=aei (n:=n) (w:=m.2.2.2.2.2.2.1[j].2.2.2.2.1) (r:=D) (c:=D) (s:=m.2.2.2.2.2.2.1[j].2.2.2.2.2.2.2.2.2.1) g.o (by omega) (by omega) (by omega) K.o g.os.1 g.os.2 N;have F:=aei (n:=n) (w:=m.2.2.2.2.2.2.1[j].2.2.2.2.2.2.2.2.2.2.2.2.2.1) (r:=D) (c:=Hd) (s:=m.2.2.2.2.2.2.1[j].2.2.2.2.2.2.2.2.2.2.2.2.2.2.2.2) g.m3 (by omega) (by omega) (by omega) K.m3 g.ds.1 g.ds.2 N;have B:mY n (m.2.2.2.2.2.2.1[j].2.2.2.2.1,(D:Int),m.2.2.2.2.2.2.1[j].2.2.2.2.2.2.2.2.2.1)=some a:=by rw[B,T];rfl
  have F:mY n (m.2.2.2.2.2.2.1[j].2.2.2.2.2.2.2.2.2.2.2.2.2.1,(Hd:Int),m.2.2.2.2.2.2.1[j].2.2.2.2.2.2.2.2.2.2.2.2.2.2.2.2)=some d:=by rw[F,W];rfl
  show gM n (k+1) _=gM n k ((),MN D Hd m.2.2.2.2.2.2.1 (il m.2.2.1*2^E) (j+1),_);rw[hs,←Z];rw[wX,bP0,bj u];simp only[aa];rw[aN (x:=(l.length:Int) -1),show(l.length:Int) -1=((2*j:Nat):Int)by omega,eU (show 2*j<l.length by omega),←ht];simp only[aa];rw[h.ok.d,h.ok.hd,B];simp only[aa];rw[aN (x:=t+a),dU (by simp;omega) (by omega)];simp only[aa];have hl2:(l++[t+a]).length=2*j+2:=by simp;omega
  rw[aN (x:=(((l++[t+a]).length:Nat):Int) -1),show(((l++[t+a]).length:Nat):Int) -1=((2*j+1:Nat):Int)by omega,eU (show 2*j+1<(l++[t+a]).length by omega)];simp only[aa];have Q:(l++[t+a]).getD (2*j+1) 0=t+a:=by rw[←y];simp
  rw[Q,F];simp only[aa];rw[aN (x:=t+a+d),dU (by simp;omega) (by omega),bo];simp only[aa];rw[aN];rfl) (by
  intro k;show gM n (k+1) _=_;rw[wX,ag,if_neg (by simp),h.eq]) n (by omega)
 rw[show MN D Hd m.2.2.2.2.2.2.1 (il m.2.2.1*2^E) 0=[il m.2.2.1*2^E]from rfl]at J;rw[J];rfl
structure ar0 (m:Mod):Prop where
 len:agf m
 e:bh m.2.2.1
 b:∀b∈m.2.2.2.2.2.2.1,OkB b
def LD(m:Mod):Prop:=abb m∧∀x∈p7 m,x≤268435456
theorem anL{m:Mod}(h:ar0 m)(c:abb m):∃D H half C Hd V L E,xN m D H half C Hd V L E:=by
 obtain⟨-,-,-,D,H,half,C,Hd,V,L,a⟩:=c;exact⟨D,H,half,C,Hd,V,L,m.2.2.2.1.toNat,h.len,a,h.e,h.b,by have:=a.es;omega,by have:=a.es;omega⟩
theorem xN.len{m:Mod}{D H half C Hd V L E:Nat}(h:xN m D H half C Hd V L E):(p7 m).length≤17:=by
 have hr:=(h.rch (i:=m.2.2.2.2.2.2.1.length) (az _)).len;rw[←h.eq]at hr;have:=h.ok.bs;have:=h.ok.l8;omega
theorem X2{n:Nat}{m:Mod}(h:ar0 m)(u:Hn0 n):∃b,vZ n m=some b∧(b=true↔LD m)∧∃r,n8 n m=some r∧(r.2.2=0↔LD m):=by
 have l:∃r,n8 n m=some r∧(r.2.2=0↔LD m):=by
  obtain⟨p,J,z⟩:=alG h.len u;rw[VS,J];simp only[aa,ag,bne_iff_ne,ne_eq]
  by_cases c:p.2.2=0
  case neg=>rw[if_pos c];exact⟨_,rfl,fun h=>absurd h c,fun h=>absurd (z.2 h.1) c⟩
  have w:=z.1 c;rw[if_neg (fun h=>h c)];obtain⟨D,H,half,C,K,V,L,E,q⟩:=anL h w;rw[agi q u];simp only[aa];have t:=q.len;rcases cZ (L:=fun k j (_:Unit)=>jo n k (p7 m,(((p7 m).length:Nat):Int),j,())) (len:=(p7 m).length) (fun _=>()) (fun i=>(p7 m).getD i 0≤268435456) (fun i=> .inl (9,(i:Int),163,())) (.inr ()) (by
   intro k j g _;show(_∧jo n (k+1) _=_)∨(_∧jo n (k+1) _=_);rw[AK,bP0,eU g];simp only[aa,ag,bx]
   by_cases d:(p7 m).getD j 0>268435456
   ·rw[if_pos d];exact .inr ⟨by omega,rfl⟩
   ·rw[if_neg d,aN];exact .inl ⟨by omega,rfl⟩) (by
   intro k;show jo n (k+1) _=_;rw[AK,ag,if_neg (by simp)]) n (by omega)with⟨a,o⟩|⟨j,a,o,B,F⟩
  ·rw[o];refine⟨_,rfl,fun _=>⟨w,fun x I=> ?_⟩,fun _=>rfl⟩;obtain⟨j,g,rfl⟩:=aM I;have:=a j g;rw[aV g]at this;exact this
  ·rw[F];refine⟨_,rfl,fun h=>(by cases h),fun h=>absurd ?_ B⟩;rw[aV a];exact h.2 _ (am a)
 obtain⟨r,e,y⟩:=l;rw[VU,e];exact⟨_,rfl,by rw[beq_iff_eq];exact y,r,rfl,y⟩
theorem alR{n:Nat}{m:Mod}(hm:agf m)(hS:Dd m.1)(hn:Hn0 n):∃r,vB n m=some r∧(r.2=0↔∃D H half C Hd V L,MOk m D H half C Hd V L):=by
 have hbs:=hm.bs;rw[Vr];have o:=anz (n:=n) hS;obtain⟨D,H,half,C,Hd,V,L,d,J,Q,y,hH,I,t,z,R,B⟩:=aoH hS;rw[B]at o;have c:=ahm (m:=m) B J Q y hH I t;have g1:=d.dm;have g2:=d.hm;have g3:=d.cm;have g4:=d.hle;have m1:V*D≤512*64:=bD z.2 g1;have m2:C*half≤512*64:=bD g3 (by omega);have e1:=To m1 (by omega);have e2:=To m2 (by omega);rw[o];simp only[aa,ag,bne_iff_ne,ne_eq];rw[J,y,Q,I,e1,e2]
 by_cases O:¬ (m.2.2.1.length:Int)=((V*D:Nat):Int)
 ·rw[if_pos O];exact⟨_,rfl,fun h=>(by cases h),fun h=>absurd (by rw[(c h).e]) O⟩
 rw[if_neg O,D8];simp only[aa]
 by_cases w:¬ (0≤m.2.2.2.1∧m.2.2.2.1≤24)
 ·rw[if_pos (by simp only[aZ,decide_eq_false_iff_not];exact w)];exact⟨_,rfl,fun h=>(by cases h),fun h=>absurd (c h).es w⟩
 have w:=Decidable.not_not.1 w;rw[if_neg (by simp only[aZ,decide_eq_false_iff_not];exact fun h=>h w)]
 by_cases d1:¬ (m.2.2.2.2.1.length:Int)=((C*half:Nat):Int)
 ·rw[if_pos d1];exact⟨_,rfl,fun h=>(by cases h),fun h=>absurd (by rw[(c h).cos]) d1⟩
 rw[if_neg d1]
 by_cases d2:¬ (m.2.2.2.2.2.1.length:Int)=((C*half:Nat):Int)
 ·rw[if_pos d2];exact⟨_,rfl,fun h=>(by cases h),fun h=>absurd (by rw[(c h).sin]) d2⟩
 rw[if_neg d2];obtain⟨M,hM⟩:∃M:Nat,imax (L:Int) (m.2.2.2.2.2.2.1.length:Int)=(M:Int)∧M=max L m.2.2.2.2.2.2.1.length:=by
  refine⟨max L m.2.2.2.2.2.2.1.length,?_,rfl⟩;rw[Hl]
  split<;>omega
 rw[hM.1];rcases cZ (L:=fun k j (_:Unit)=>(iv n k ((),(),(),(M:Int),j,m,(0,0),m.1,())).map (fun q=>match q with |.inl q=>Sum.inl (decide (q.2.1=0))|.inr q=> .inr q)) (len:=M) (fun _=>())
  (fun i=>i<L∧∃(h:i<m.2.2.2.2.2.2.1.length),IK D Hd m.2.2.2.2.2.2.1[i]) (fun _=> .inl false) (.inr ((),(),(),m,(0,0),m.1,())) (by
  intro k j N _;show(_∧Option.map _ (iv n (k+1) _)=_)∨(_∧Option.map _ (iv n (k+1) _)=_);rw[xY,bP0,fw];simp only[aa];rw[I]
  by_cases d1:(j:Int)<(L:Int)∧(j:Int)<(m.2.2.2.2.2.2.1.length:Int)
  case neg=>
   have e:(decide ((j:Int)<(L:Int))&&decide ((j:Int)<(m.2.2.2.2.2.2.1.length:Int)))=false:=by
    rw[←ew,ak,bx,bx];exact d1
   rw[e];refine .inr ⟨fun h=> ?_,rfl⟩;obtain⟨h1,h2,-⟩:=h;exact d1 ⟨by omega,by omega⟩
  have E:j<m.2.2.2.2.2.2.1.length:=by omega
  obtain⟨r,hr,F⟩:=alF (n:=n) (s:=m.1) (b:=m.2.2.2.2.2.2.1[j]) (D:=D) (Hd:=Hd) y t g1 g2 hn;rw[decide_eq_true d1.1,decide_eq_true d1.2,bj E];simp only[Bool.and_true,ii,aa];rw[hr];simp only[aa,ag,bne_iff_ne,ne_eq]
  by_cases d2:¬ r=0
  ·rw[if_pos d2];refine .inr ⟨fun h=> ?_,by simp[d2]⟩;obtain⟨-,h1,h2⟩:=h;exact d2 (F.2 h2)
  ·rw[if_neg d2,aN];exact .inl ⟨⟨by omega,E,F.1 (Decidable.not_not.1 d2)⟩,rfl⟩) (by
  intro k;show Option.map _ (iv n (k+1) _)=_;rw[xY,ag,if_neg (by simp)];rfl) n (by omega)with⟨P,h4⟩|⟨j,P,h4,h5,h6⟩
 case inr=>
  obtain⟨q,U,a⟩:=Option.map_eq_some_iff.1 h6;rw[U]
  match q,a with
  |.inl q,a=>
   have hz:¬ q.2.1=0:=by simpa using a
   refine⟨_,rfl,fun h=>absurd h hz,fun h=>absurd ?_ h5⟩;have K:=(c h).bs;have N:j<m.2.2.2.2.2.2.1.length:=by omega
   exact⟨by omega,N,(c h).b _ (am N)⟩
  |.inr q,a=>cases a
 obtain⟨q,U,a⟩:=Option.map_eq_some_iff.1 h4;rw[U]
 match q,a with
 |.inl q,a=>cases a
 |.inr q,a=>
 have a:q=((),(),(),m,(0,0),m.1,()):=by simpa using a
 subst a;simp only[aa,cI];rw[y,J,e1];have S:m.2.2.2.2.2.2.1.length=L:=by
  by_cases h0:M=0
  ·omega
  ·obtain⟨a1,a2,-⟩:=P (M -1) (by omega);omega
 by_cases X:¬ (m.2.2.2.2.2.2.2.1.length:Int)=256
 ·rw[if_pos X];exact⟨_,rfl,fun h=>(by cases h),fun h=>(by have:=(c h).be;omega)⟩
 rw[if_neg X]
 by_cases Y:¬ (m.2.2.2.2.2.2.2.2.1.length:Int)=(D:Int)
 ·rw[if_pos Y];exact⟨_,rfl,fun h=>(by cases h),fun h=>(by have:=(c h).g;omega)⟩
 rw[if_neg Y]
 by_cases Z:¬ (m.2.2.2.2.2.2.2.2.2.1.length:Int)=((V*D:Nat):Int)
 ·rw[if_pos Z];exact⟨_,rfl,fun h=>(by cases h),fun h=>(by have:=(c h).u;omega)⟩
 rw[if_neg Z];obtain⟨b,K,T⟩:=Tn (n:=n) (l:=[m.2.2.2.2.2.2.2.2.2.2]) (by simp) hn;rw[K];simp only[aa];rcases ny T with⟨p,rfl⟩|⟨p,rfl⟩
 case inr=>
  refine⟨_,rfl,fun h=>(by cases h),fun h=>absurd (fun x W=> ?_) p⟩;have:x=m.2.2.2.2.2.2.2.2.2.2:=by simpa using W
  rw[this];exact(c h).ls
 refine⟨_,rfl,fun _=>⟨D,H,half,C,Hd,V,L,d,J,Q,y,hH,I,t,z,R,by omega,w,by omega,by omega,S,fun b K=> ?_,by omega,by omega,by omega,p _ (by simp)⟩,fun _=>rfl⟩;obtain⟨j,N,rfl⟩:=aM K;obtain⟨_,_,W⟩:=P j (by omega);exact W
theorem X3{n:Nat}{m:Mod}(h:ar0 m)(u:Hn0 n):∃r,qi n m=some r∧(r.2=0↔LD m):=by
 obtain⟨O,w,a⟩:=Lx (n:=n) (v:=m.2.1) h.len.t h.len.ms h.len.tt u;rw[Vu,XT];simp only[aa,ag,bne_iff_ne,ne_eq]
 by_cases e:Dd m.1
 case neg=>
  rw[Bo e,if_pos (by decide)];exact⟨_,rfl,fun h=>(by cases h),fun h=>absurd h.1.1 e⟩
 rw[Ml e,if_neg (by simp),Vp,w];simp only[aa,ag,bne_iff_ne,ne_eq]
 by_cases b:¬ O.2=0
 ·rw[if_pos b];simp only[aa];rw[if_pos b];exact⟨_,rfl,fun h=>absurd h b,fun h=>absurd (a.2 h.1.2.1) b⟩
 rw[if_neg b];have g:=a.1 (Decidable.not_not.1 b)
 by_cases l:¬ (m.2.1.1.length:Int)=m.1.1
 ·rw[if_pos l];simp only[aa];rw[if_pos (by decide)];exact⟨_,rfl,fun h=>(by cases h),fun h=>absurd h.1.2.2.1 l⟩
 rw[if_neg l];simp only[aa];rw[if_neg (by decide)];obtain⟨p,N,I⟩:=alR h.len e u;rw[N];simp only[aa]
 by_cases c:p.2=0
 case neg=>rw[if_pos c];exact⟨_,rfl,fun h=>absurd h c,fun h=>absurd (I.2 h.1.2.2.2) c⟩
 rw[if_neg (fun h=>h c)];have F:abb m:=⟨e,g,Decidable.not_not.1 l,I.1 c⟩;obtain⟨D,H,half,C,P,V,L,E,z⟩:=anL h F;rw[agj z u];simp only[aa];have B:=z.len;rcases cZ (L:=fun k j (_:Unit)=>iw n k ((),p7 m,(((p7 m).length:Nat):Int),j,(0,0),())) (len:=(p7 m).length) (fun _=>()) (fun i=>(p7 m).getD i 0≤268435456) (fun i=> .inl ((),163,(9,(i:Int)),())) (.inr ((),(0,0),())) (by
  intro k j q _;show(_∧iw n (k+1) _=_)∨(_∧iw n (k+1) _=_);rw[xZ,bP0,eU q];simp only[aa,ag,bx]
  by_cases d:(p7 m).getD j 0>268435456
  ·rw[if_pos d];exact .inr ⟨by omega,rfl⟩
  ·rw[if_neg d,aN];exact .inl ⟨by omega,rfl⟩) (by
  intro k;show iw n (k+1) _=_;rw[xZ,ag,if_neg (by simp)]) n (by omega)with⟨o,y⟩|⟨j,o,y,J,K⟩
 ·rw[y];refine⟨_,rfl,fun _=>⟨F,fun x M=> ?_⟩,fun _=>rfl⟩;obtain⟨j,q,rfl⟩:=aM M;have:=o j q;rw[aV q]at this;exact this
 ·rw[K];refine⟨_,rfl,fun h=>(by cases h),fun h=>absurd ?_ J⟩;rw[aV o];exact h.2 _ (am o)
theorem anM{n:Nat}{m:Mod}(h:ar0 m)(a:Hn0 n):∃b,yF n m=some b∧(b=true↔LD m):=by
 obtain⟨r,e,c⟩:=X3 h a;rw[ZG,e];exact⟨_,rfl,by rw[beq_iff_eq];exact c⟩
abbrev Par:=Int×Int×Int×Int×Int×List (Int×Int)
def p8(b:Int):Prop:=b=1∨b=2∨b=4∨b=8∨b=16∨b=32
instance (b:Int):Decidable (p8 b):=by unfold p8;exact inferInstance
def I8(b:Int):Int:=if p8 b then 2^b.toNat else 0
theorem TC{b:Int}(h:p8 b):qc .i64 1 b=some (2^b.toNat)∧0<(2:Int)^b.toNat∧(2:Int)^b.toNat≤4294967296∧0≤b∧b≤32:=by
 rcases h with rfl |rfl |rfl |rfl |rfl |rfl<;>decide+kernel
theorem ajE{n:Nat}{l:List Int}{x:Int}(t:l.length≤1000000000)(u:Hn0 n):
  (∃i,fS n (l,x)=some i∧((x∉l∧i= -1)∨∃j:Nat,i=(j:Int)∧j<l.length∧l.getD j 0=x∧∀k,k<j→l.getD k 0≠x))∧∃b,ip n (l,x)=some b∧(b=true↔x∈l):=by
 have d:∃i,fS n (l,x)=some i∧((x∉l∧i= -1)∨∃j:Nat,i=(j:Int)∧j<l.length∧l.getD j 0=x∧∀k,k<j→l.getD k 0≠x):=by
  rw[uw];rcases cZ (L:=fun k j (_:Unit)=>cQ n k (l,x,(l.length:Int),j,())) (len:=l.length) (fun _=>()) (fun i=>l.getD i 0≠x) (fun i=> .inl ((i:Int),())) (.inr ()) (by
   intro k j a _;show(_∧cQ n (k+1) _=_)∨(_∧cQ n (k+1) _=_);rw[je,bP0,eU a];simp only[aa,ag,beq_iff_eq]
   by_cases c:x=l.getD j 0
   ·rw[if_pos c];exact .inr ⟨fun h=>h c.symm,rfl⟩
   ·rw[if_neg c,aN];exact .inl ⟨fun h=>c h.symm,rfl⟩) (by
   intro k;show cQ n (k+1) _=_;rw[je,ag,if_neg (by simp)]) n (by omega)with⟨g,o⟩|⟨j,g,o,q,r⟩
  ·rw[o];refine⟨_,rfl,.inl ⟨fun h=> ?_,rfl⟩⟩;obtain⟨j,a,rfl⟩:=aM h;exact g j a (by rw[aV a])
  ·rw[r];exact⟨_,rfl,.inr ⟨j,rfl,g,Decidable.not_not.1 q,o⟩⟩
 refine⟨d,?_⟩;obtain⟨i,e,h⟩:=d;rw[qA,e];refine⟨_,rfl,?_⟩;rw[bx];rcases h with⟨h,rfl⟩|⟨j,rfl,a,h,-⟩
 ·exact⟨fun p=>by omega,fun p=>absurd p h⟩
 ·refine⟨fun _=> ?_,fun _=>by omega⟩;rw[←h,aV a];exact am a
theorem aej{n:Nat}{p:Par}(a:Hn0 n):sw n p=some (I8 p.2.2.2.2.1):=by
 obtain⟨-,b,e,h⟩:=ajE (n:=n) (l:=[1,2,4,8,16,32]) (x:=p.2.2.2.2.1) (by simp) a;rw[ZH,e];simp only[aa];have h:b=true↔p8 p.2.2.2.2.1:=by
  rw[h];unfold p8;simp
 unfold I8;rcases ny h with⟨c,rfl⟩|⟨c,rfl⟩
 ·rw[if_pos c,(TC c).1];rfl
 ·rw[if_neg c];rfl
theorem X4{n:Nat}{p:Par}:n9 n p=some (I8 p.2.2.2.2.1):=by
 rw[VV];obtain⟨b,a⟩:∃b,b=p.2.2.2.2.1:=⟨_,rfl⟩;rw[←a];unfold I8
 by_cases c:p8 b
 ·rw[if_pos c];have d:=TC c;rw[arv,Int.emod_eq_of_lt (by omega) (by omega),d.1];rcases c with rfl |rfl |rfl |rfl |rfl |rfl<;>rfl
 ·rw[if_neg c];unfold p8 at c;have e:∀x:Int,b≠x→(b==x)=false:=fun x h=>beq_eq_false_iff_ne.2 h;rw[e 1 (by omega),e 2 (by omega),e 4 (by omega),e 8 (by omega),e 16 (by omega),e 32 (by omega)];rfl
theorem alS{b:Int}:(I8 b==0)=decide (¬ p8 b):=by
 unfold I8
 by_cases c:p8 b
 ·rw[if_pos c,decide_eq_false (fun h=>h c),beq_eq_false_iff_ne];have:=(TC c).2.1;omega
 ·rw[if_neg c,decide_eq_true c];rfl
def uq(p:Par)(i:Nat):Int×Int:=p.2.2.2.2.2.getD i (0,0)
def ajF(p:Par)(t:Int)(i:Nat):Prop:=(0≤(uq p i).1∧(uq p i).1<t)∧(-1048576≤(uq p i).2∧(uq p i).2≤1048576)∧∀k,k<i→(uq p k).1≠(uq p i).1
structure aek (p:Par) (t:Int):Prop where
 tk:1≤t∧t≤512
 num:0≤p.1∧p.1≤65536
 den:1≤p.2.1∧p.2.1≤65536
 k:0≤p.2.2.1∧p.2.2.1≤t
 tp:1≤p.2.2.2.1∧p.2.2.2.1≤65536
 bits:p8 p.2.2.2.2.1
 bl:p.2.2.2.2.2.length≤64
 b:∀i,i<p.2.2.2.2.2.length→ajF p t i
theorem aoP{p:Par}{i:Nat}(h:i<p.2.2.2.2.2.length):idx p.2.2.2.2.2 (i:Int)=some (uq p i):=p6 h (0,0)
theorem ahq{p:Par}{i j:Nat}(h:j<i)(hi:i≤p.2.2.2.2.2.length):idx (p.2.2.2.2.2.take i) (j:Int)=some (uq p j):=by
 rw[bj (by rw[aC];omega)];unfold uq;simp[show j<p.2.2.2.2.2.length by omega]
theorem anN{n:Nat}{p:Par}{i:Nat}(hi:i<p.2.2.2.2.2.length)(q:i≤1000000000)(r:Hn0 n):
  ∃b,cT n (p.2.2.2.2.2.take i,(uq p i,()))=some b∧(b=false↔∀k,k<i→(uq p k).1≠(uq p i).1):=by
 have a:(p.2.2.2.2.2.take i).length=i:=by rw[aC];omega
 rw[kt,lS,a];rcases cZ (L:=fun k j (_:Unit)=>bq n k (p.2.2.2.2.2.take i,(uq p i,()),(i:Int),j,())) (len:=i) (fun _=>()) (fun k=>(uq p k).1≠(uq p i).1) (fun i=> .inl ((i:Int),())) (.inr ()) (by
  intro k j o _;show(_∧bq n (k+1) _=_)∨(_∧bq n (k+1) _=_);rw[fu,bP0,ahq o (by omega)];simp only[aa];rw[Sk];simp only[aa,ag,beq_iff_eq]
  by_cases c:(uq p j).1=(uq p i).1
  ·rw[if_pos c];exact .inr ⟨fun h=>h c,rfl⟩
  ·rw[if_neg c,aN];exact .inl ⟨c,rfl⟩) (by
  intro k;show bq n (k+1) _=_;rw[fu,ag,if_neg (by simp)]) n (by omega)with⟨d,e⟩|⟨j,d,e,g,l⟩
 ·rw[e];exact⟨false,rfl,fun _=>d,fun _=>rfl⟩
 ·rw[l];simp only[aa,cI];rw[decide_eq_true (show(j:Int)≥0 by omega)];exact⟨true,rfl,fun h=>(by cases h),fun h=>absurd (h j d) g⟩
theorem ael{n:Nat}{p:Par}{t:Int}(M:p.2.2.2.2.2.length≤1048576)(F:Hn0 n):∃r,sx n (p,t)=some r∧((aek p t∧r=0)∨(¬ aek p t∧r=220)):=by
 rw[ZI];simp only[Hi,aej F,aa,eC,alS];rw[ag]
 by_cases c:(1≤t∧t≤512)∧(0≤p.1∧p.1≤65536)∧(1≤p.2.1∧p.2.1≤65536)∧(0≤p.2.2.1∧p.2.2.1≤t)∧(1≤p.2.2.2.1∧p.2.2.2.1≤65536)∧p8 p.2.2.2.2.1∧p.2.2.2.2.2.length≤64
 case neg=>
  rw[if_pos]
  ·exact⟨220,rfl,.inr ⟨fun h=>c ⟨h.tk,h.num,h.den,h.k,h.tp,h.bits,h.bl⟩,rfl⟩⟩
  ·apply Decidable.byContradiction;intro o;apply c;simp only[aD,aZ,decide_eq_false_iff_not,bx,not_or,Decidable.not_not]at o;obtain⟨a,g,q,l,I,J,K⟩:=o;exact⟨a,g,q,l,I,J,by omega⟩
 obtain⟨u,w,y,z,B,D,H⟩:=c;rw[if_neg (by
  simp only[aD,aZ,decide_eq_false_iff_not,bx,not_or,Decidable.not_not];exact⟨u,w,y,z,B,D,by omega⟩)]
 rcases cZ (L:=fun k j (_:Unit)=>jZ n k (t,(),p.2.2.2.2.2,(p.2.2.2.2.2.length:Int),j,p,())) (len:=p.2.2.2.2.2.length) (fun _=>()) (ajF p t) (fun i=> .inl (220,())) (.inr ()) (by
  intro k j E _;show(_∧jZ n (k+1) _=_)∨(_∧jZ n (k+1) _=_);obtain⟨b,e,h⟩:=anN (n:=n) E (by omega) F;rw[Cs,bP0,aoP E];simp only[aa];rw[vk];simp only[aa];rw[e];simp only[aa,Hi,eC];rw[aN (x:=t -1),ag]
  by_cases d:ajF p t j
  ·rw[if_neg (by
    simp only[aD,aZ,decide_eq_false_iff_not,bx,not_or,Decidable.not_not,ew];have d1:=d.1;have d2:=d.2.1;exact⟨by omega,by omega,by omega,h.2 d.2.2⟩),aN]
   exact .inl ⟨d,rfl⟩
  ·rw[if_pos]
   ·exact .inr ⟨d,rfl⟩
   ·apply Decidable.byContradiction;intro o;apply d;simp only[aD,aZ,decide_eq_false_iff_not,bx,not_or,Decidable.not_not,ew]at o;obtain⟨a,g,q,l⟩:=o;exact⟨by omega,by omega,h.1 l⟩) (by
  intro k;show jZ n (k+1) _=_;rw[Cs,ag,if_neg (by simp)]) n (by omega)with⟨a,g⟩|⟨j,a,g,q,l⟩
 ·rw[g];exact⟨0,rfl,.inl ⟨⟨u,w,y,z,B,D,H,a⟩,rfl⟩⟩
 ·rw[l];exact⟨220,rfl,.inr ⟨fun h=>q (h.b j a),rfl⟩⟩
theorem X5{n:Nat}{p:Par}{t:Int}(K:p.2.2.2.2.2.length≤1048576)(M:Hn0 n):∃r,qq n (p,t)=some r∧((aek p t∧r=0)∨(¬ aek p t∧r=220)):=by
 rw[VW];simp only[X4,aa,eC,alS];rw[ag]
 by_cases c:(1≤t∧t≤512)∧(0≤p.1∧p.1≤65536)∧(1≤p.2.1∧p.2.1≤65536)
 case neg=>
  rw[if_pos]
  ·exact⟨220,rfl,.inr ⟨fun h=>c ⟨h.tk,h.num,h.den⟩,rfl⟩⟩
  ·apply Decidable.byContradiction;intro g;apply c;simp only[aD,bx,not_or]at g;omega
 rw[if_neg (by simp only[aD,bx,not_or];omega),ag]
 by_cases u:(0≤p.2.2.1∧p.2.2.1≤t)∧(1≤p.2.2.2.1∧p.2.2.2.1≤65536)∧p8 p.2.2.2.2.1∧p.2.2.2.2.2.length≤64
 case neg=>
  rw[if_pos]
  ·exact⟨220,rfl,.inr ⟨fun h=>u ⟨h.k,h.tp,h.bits,h.bl⟩,rfl⟩⟩
  ·apply Decidable.byContradiction;intro g;apply u;simp only[aD,bx,not_or,Decidable.not_not]at g;obtain⟨a,e,o,q,F,J⟩:=g;exact⟨by omega,by omega,F,by omega⟩
 obtain⟨x,y,z⟩:=c;obtain⟨B,D,w,E⟩:=u;rw[if_neg (by
  simp only[aD,bx,not_or,Decidable.not_not];exact⟨by omega,by omega,by omega,by omega,w,by omega⟩)]
 rcases cZ (L:=fun k j (_:Unit)=>jp n k (t,(),p.2.2.2.2.2,(p.2.2.2.2.2.length:Int),j,p,())) (len:=p.2.2.2.2.2.length) (fun _=>()) (ajF p t) (fun i=> .inl (220,())) (.inr ()) (by
  intro k j I _;show(_∧jp n (k+1) _=_)∨(_∧jp n (k+1) _=_);rw[AL,bP0,aoP I];simp only[aa,eC];rw[ag]
  by_cases d:(0≤(uq p j).1∧(uq p j).1<t)∧(-1048576≤(uq p j).2∧(uq p j).2≤1048576)
  case neg=>
   rw[if_pos]
   ·exact .inr ⟨fun h=>d ⟨h.1,h.2.1⟩,rfl⟩
   ·apply Decidable.byContradiction;intro g;apply d;simp only[aD,bx,not_or]at g;omega
  rw[if_neg (by simp only[aD,bx,not_or];omega),vk];simp only[aa];have l:(p.2.2.2.2.2.take j).length=j:=by rw[aC];omega
  rw[l];rcases cZ (L:=fun k i (_:Unit)=>iF n k (t,(),(),p.2.2.2.2.2,(p.2.2.2.2.2.length:Int),(j:Int),p.2.2.2.2.2.take j,(j:Int),i,p,uq p j,())) (len:=j) (fun _=>()) (fun k=>(uq p k).1≠(uq p j).1) (fun i=> .inl (220,())) (.inr (t,(),p.2.2.2.2.2,(p.2.2.2.2.2.length:Int),(j:Int),p,())) (by
   intro k i H _;show(_∧iF n (k+1) _=_)∨(_∧iF n (k+1) _=_);rw[yg,bP0,ahq H (by omega)];simp only[aa,ag,beq_iff_eq]
   by_cases c:(uq p i).1=(uq p j).1
   ·rw[if_pos c];exact .inr ⟨fun h=>h c,rfl⟩
   ·rw[if_neg c,aN];exact .inl ⟨c,rfl⟩) (by
   intro k;show iF n (k+1) _=_;rw[yg,ag,if_neg (by simp)]) n (by omega)with⟨a,e⟩|⟨i,a,e,o,q⟩
  ·rw[e];simp only[aa,cI];rw[aN];exact .inl ⟨⟨d.1,d.2,a⟩,rfl⟩
  ·rw[q];exact .inr ⟨fun h=>o (h.2.2 i a),rfl⟩) (by
  intro k;show jp n (k+1) _=_;rw[AL,ag,if_neg (by simp)]) n (by omega)with⟨a,e⟩|⟨j,a,e,o,q⟩
 ·rw[e];exact⟨0,rfl,.inl ⟨⟨x,y,z,B,D,w,E,a⟩,rfl⟩⟩
 ·rw[q];exact⟨220,rfl,.inr ⟨fun h=>o (h.b j a),rfl⟩⟩
theorem TE{α:Type}{H:List (Option α)}{i:Nat}{x:α}:fA H i=some x↔H[i]? =some (some x):=by
 unfold fA
 split
 ·rename_i y h;rw[h];simp
 ·rename_i h;constructor
  ·intro a;cases a
  ·intro a;exact absurd a (h x)
theorem El{α:Type}{H:List (Option (List α))}{i a n:Nat}{l:List α}(h:rX H (some (i,a,n))=some l):∃w,fA H i=some w∧a+n≤w.length∧l=(w.drop a).take n:=by
 unfold rX at h;simp only at h
 split at h
 ·rename_i w c
  split at h
  ·rename_i b;exact⟨w,c,b,by simpa using h.symm⟩
  ·cases h
 ·cases h
theorem X6{α:Type}{H:List (Option (List α))}{x:Option (Nat×Nat×Nat)}{l:List α}(h:rX H x=some l):gsN x=(l.length:Int):=by
 match x with
 |none=>cases h;rfl
 |some (i,a,n)=>
  obtain⟨w,b,c,rfl⟩:=El h;show(n:Int)=_;simp;omega
theorem aem{α:Type}{H:List (Option (List α))}{l:List α}:rX (eE H l) (some (H.length,0,l.length))=some l:=by
 have h:fA (eE H l) H.length=some l:=by
  rw[TE];unfold eE;simp
 unfold rX;simp only[h];rw[lf];simp
theorem Mr{α:Type}{b:Nat}{H:List (Option (List α))}{x:Option (Nat×Nat×Nat)}{l m:List α}(h:rX H x=some l)(g:l.length+m.length≤10000000000)(e:b≤1000):
  ∃d y,gsA b H x m=some (d,y)∧rX d y=some (l++m):=by
 match x with
 |none=>
  cases h;unfold gsA
  match m with
  |[]=>exact⟨H,none,rfl,rfl⟩
  |c::m=>
   simp only;rw[dU (by simpa using g) e];exact⟨_,_,rfl,aem⟩
 |some (i,a,n)=>
  unfold gsA;simp only[h];rw[dU g e];have:=aem (H:=H.set i none) (l:=l++m);rw[aO]at this;exact⟨_,_,rfl,this⟩
theorem ar1{α:Type}{H:List (Option (List α))}{x:Option (Nat×Nat×Nat)}{l:List α}(h:rX H x=some l)(b:1≤l.length):∃y,gsS x 1 (gsN x)=some y∧rX H y=some (l.drop 1):=by
 match x with
 |none=>cases h;simp at b
 |some (i,a,n)=>
  obtain⟨w,c,j,rfl⟩:=El h;have g:((w.drop a).take n).length=n:=by simp;omega
  rw[g]at b;unfold gsS;simp only;have d:gsN (some (i,a,n))=(n:Int):=rfl;rw[d,lf];refine⟨_,rfl,?_⟩;unfold rX;simp only[c];have e:((n:Int) -1).toNat=n -1:=by omega
  rw[e,show(1:Int).toNat=1 from rfl,lf];rw[←List.drop_drop,List.drop_take]
theorem ahr{α:Type}{H:List (Option (List α))}{x:Option (Nat×Nat×Nat)}{l:List α}(h:rX H x=some l){i:Nat}(hi:i<l.length):
  ∃p w,x=some p∧ck (i:Int) p.2.2=some i∧fA H p.1=some w∧nth w (p.2.1+i)=some l[i]∧∀v,∃c,uG H p.1 (w.set (p.2.1+i) v)=some c∧rX c x=some (l.set i v):=by
 match x with
 |none=>cases h;simp at hi
 |some (o,a,n)=>
  obtain⟨w,d,e,rfl⟩:=El h;have j:((w.drop a).take n).length=n:=by simp;omega
  rw[j]at hi;refine⟨(o,a,n),w,rfl,dO hi,d,?_,?_⟩
  ·unfold nth;show w[a+i]? =_
   rw[ai (by omega)];simp
  ·intro v;have b:=TE.1 d;refine⟨H.set o (some (w.set (a+i) v)),?_,?_⟩
   ·unfold uG;simp only[b]
   ·unfold rX;have k:o<H.length:=by
     apply Decidable.byContradiction;intro q;rw[bd (by omega)]at b
     cases b
    have g:fA (H.set o (some (w.set (a+i) v))) o=some (w.set (a+i) v):=by rw[TE];simp[k]
    simp only[g];rw[if_pos (by simpa using e)];congr 1;rw[List.drop_set,gk,List.take_set,eL]
abbrev Edg:=Int×Int×Int×Int
abbrev Gd:=List Bool×List Edg
def kA(g:Gd)(i:Nat):Edg:=g.2.getD i (0,0,0,0)
theorem PX{g:Gd}{i:Nat}(h:i<g.2.length):idx g.2 (i:Int)=some (kA g i):=p6 h _
def nR(g:Gd)(x:Int):Prop:=0≤x∧x<(g.1.length:Int)
instance (g:Gd) (x:Int):Decidable (nR g x):=by unfold nR;exact inferInstance
theorem anO(m j:Nat):(ao m false).getD j false=false:=by
 by_cases h:j<m
 ·rw[aV (by simpa using h)];simp
 ·simp[Nat.le_of_not_lt h]
inductive Liv (g:Gd):Int→Prop where
 |acc {s:Nat} (h:g.1.getD s false=true):Liv g s
 |step {i:Nat} (hi:i<g.2.length) (h:Liv g (kA g i).2.2.2):Liv g (kA g i).1
def Bp(g:Gd):Prop:=∀i,i<g.2.length→nR g (kA g i).1∧nR g (kA g i).2.2.2
def zl(g:Gd)(b:List Bool):Prop:=b.length=g.1.length∧∀s:Nat,s<g.1.length→(b.getD s false=true↔Liv g (s:Int))
theorem alT{g:Gd}{out:List Bool}(n:Bp g)(e:out.length=g.1.length)(b:∀s:Nat,g.1.getD s false=true→out.getD s false=true)
  (j:∀s:Nat,out.getD s false=true→Liv g (s:Int)) (c:∀i,i<g.2.length→out.getD (kA g i).2.2.2.toNat false=true→out.getD (kA g i).1.toNat false=true):zl g out:=by
 refine⟨e,fun s _=>⟨j s,fun h=> ?_⟩⟩;have a:∀x:Int,Liv g x→out.getD x.toNat false=true:=by
  intro x k
  induction k with
  |acc h=>rw[ax];exact b _ h
  |step d _ l=>exact c _ d l
 simpa using a s h
def cf(out:List Bool):Nat:=out.count false
theorem anP{out:List Bool}{i:Nat}(hi:i<out.length)(h:out.getD i false=false):cf (out.set i true)+1=cf out:=by
 unfold cf;rw[aV hi]at h;have a:0<out.count false:=List.count_pos_iff.2 (by rw[←h];exact am hi);rw[List.count_set hi,h];simp;omega
theorem ayC(out:List Bool):cf out≤out.length:=List.count_le_length
theorem gS{out:List Bool}{i:Nat}{v:Bool}(hi:i<out.length)(j:Nat):(out.set i v).getD j false=if j=i then v else out.getD j false:=by
 rw[aB,List.getElem?_set]
 by_cases h:i=j
 ·subst h;simp[hi]
 ·rw[if_neg h,if_neg (fun a=>h a.symm),aB]
theorem at9{out:List Bool}(h:cf out=0){i:Nat}(hi:i<out.length):out.getD i false=true:=by
 unfold cf at h;rw[List.count_eq_zero]at h;rw[aV hi]
 cases a:out[i]with
 |true=>rfl
 |false=>exact absurd (by rw[←a];exact am hi) h
theorem Ec{n:Nat}{g:Gd}{x:Int}:jf n (g,x)=some (decide (nR g x)):=by
 rw[Pp,fw];show some (decide _&&decide _)=some (decide (nR g x));congr 1;apply Bool.eq_iff_iff.2;rw[ak,bx,bx,bx];exact Iff.rfl
theorem xn{n:Nat}{g:Gd}{x:Int}:iN n (g,x)=some (decide (nR g x)):=by
 rw[VX,fw];show some (decide _&&decide _)=some (decide (nR g x));congr 1;apply Bool.eq_iff_iff.2;rw[ak,bx,bx,bx];exact Iff.rfl
structure A4 (g:Gd) (H:List (Option (List Int))) (w:Option (Nat×Nat×Nat)) (out:List Bool) (l:List Int) (i:Nat):Prop where
 len:out.length=g.1.length
 lo:∀j:Nat,j<i→out.getD j false=g.1.getD j false
 hi:∀j:Nat,i≤j→out.getD j false=false
 rd:rX H w=some l
 mem:∀x∈l,nR g x∧out.getD x.toNat false=true
 has:∀j:Nat,out.getD j false=true→(j:Int)∈l
 cnt:l.length+cf out=g.1.length
theorem ue{n:Nat}{g:Gd}(y:g.1.length≤1000000)(z:Hn0 n):∀(m k i:Nat) (H:List (Option (List Int))) (w:Option (Nat×Nat×Nat)) (out:List Bool) (l:List Int),i+m=g.1.length→m<k→A4 g H w out l i→
  ∃u w' o K,qN n k ((),(),w,g.1,(g.1.length:Int),(i:Int),H,g,out,())=some ((),(),w',u,g,o,())∧A4 g u w' o K g.1.length
 |0,k,i,H,w,out,l,E,F,h=>by
  obtain⟨k,rfl⟩:=gU k;rw[Ap,bN0];have:i=g.1.length:=by omega
  subst this;exact⟨H,w,out,l,rfl,h⟩
 |m+1,k,i,H,w,out,l,E,F,h=>by
  obtain⟨k,rfl⟩:=gU k;have J:i<g.1.length:=by omega
  have d:=h.len;have q:i<out.length:=by omega
  have t:=h.cnt;rw[Ap,bP0,p6 J false];simp only[aa];rw[ag];have e:(i:Int)+1=((i+1:Nat):Int):=by omega
  by_cases c:g.1.getD i false=true
  ·rw[if_pos c,dO q];simp only[aa];rw[ai q];simp only[aa];obtain⟨u,w',B,D⟩:=Mr (b:=8) (m:=[(i:Int)]) h.rd (by simp;omega) (by omega);rw[B];simp only[aa];rw[aN,e];have I:out.getD i false=false:=h.hi i (az _);refine ue y z m k (i+1) u w' (out.set i true) (l++[(i:Int)]) (by omega) (by omega) ⟨by simpa using d,fun j p=> ?_,fun j p=> ?_,D,fun x r=> ?_,fun j p=> ?_,?_⟩
   ·rw[gS q]
    by_cases a:j=i
    ·rw[if_pos a,a,c]
    ·rw[if_neg a];exact h.lo j (by omega)
   ·rw[gS q,gk];exact h.hi j (by omega)
   ·rw[gS q];rcases List.mem_append.1 r with r |r
    ·refine⟨(h.mem x r).1,?_⟩
     split
     ·rfl
     ·exact(h.mem x r).2
    ·have:x=(i:Int):=by simpa using r
     subst this;exact⟨⟨by omega,by omega⟩,by rw[if_pos (by simp)]⟩
   ·rw[gS q]at p
    by_cases a:j=i
    ·subst a;exact bp _ (by simp)
    ·rw[if_neg a]at p;exact aS _ (h.has j p)
   ·have:=anP q I;rw[ah,bZ];omega
  ·rw[if_neg c];simp only[aa];rw[aN,e];refine ue y z m k (i+1) H w out l (by omega) (by omega) ⟨d,fun j p=> ?_,fun j p=>h.hi j (by omega),h.rd,h.mem,h.has,t⟩
   by_cases a:j=i
   ·subst a;rw[h.hi j (az _)];simpa using c
   ·exact h.lo j (by omega)
structure A10 (g:Gd) (H:List (Option (List Int))) (w:Option (Nat×Nat×Nat)) (out:List Bool) (l:List Int):Prop where
 len:out.length=g.1.length
 ac:∀s:Nat,g.1.getD s false=true→out.getD s false=true
 sn:∀s:Nat,out.getD s false=true→Liv g (s:Int)
 rd:rX H w=some l
 mem:∀x∈l,nR g x∧out.getD x.toNat false=true
 cnt:l.length+cf out≤g.1.length
theorem uf{n:Nat}{g:Gd}{x:Int}(I:Bp g)(R:g.1.length≤1000000)(z:g.2.length≤1000000)(hx:Liv g x):∀(m k i:Nat) (H:List (Option (List Int))) (w:Option (Nat×Nat×Nat)) (out:List Bool) (l:List Int),i+m=g.2.length→m<k→A10 g H w out l→
  (∀j,j<g.2.length→out.getD (kA g j).2.2.2.toNat false=true→(kA g j).2.2.2∈l∨out.getD (kA g j).1.toNat false=true∨((kA g j).2.2.2=x∧i≤j))→
  ∃t w' d O,l4 n k ((),(),w,x,g.2,(g.2.length:Int),(i:Int),H,g,out,())=some ((),(),w',t,g,d,())∧A10 g t w' d O∧O.length+cf d=l.length+cf out∧
   (∀j,j<g.2.length→d.getD (kA g j).2.2.2.toNat false=true→(kA g j).2.2.2∈O∨d.getD (kA g j).1.toNat false=true)
 |0,k,i,H,w,out,l,Y,Z,h,J=>by
  obtain⟨k,rfl⟩:=gU k;rw[at2,bN0];refine⟨H,w,out,l,rfl,h,rfl,fun j q p=> ?_⟩;rcases J j q p with h |h |h
  ·exact .inl h
  ·exact .inr h
  ·omega
 |m+1,k,i,H,w,out,l,Y,Z,h,J=>by
  obtain⟨k,rfl⟩:=gU k;have L:i<g.2.length:=by omega
  have B:=h.len;have P:=h.cnt;obtain⟨K,e2⟩:=I i L;obtain⟨f,u⟩:∃f:Nat,(kA g i).1=(f:Int):=⟨(kA g i).1.toNat,by have:=K.1;omega⟩;have a:f<out.length:=by have:=K.2;omega
  have e:(i:Int)+1=((i+1:Nat):Int):=by omega
  rw[at2,bP0,PX L];simp only[aa];rw[u,dO a];simp only[aa];rw[ai a];simp only[aa];rw[fw];simp only[aa];rw[ag];have Q:out.getD f false=out[f]:=aV a false
  by_cases c:(((kA g i).2.2.2==x)&& !out[f])=true
  ·rw[if_pos c];rw[ak,beq_iff_eq,aZ]at c;obtain⟨t,w',S,T⟩:=Mr (b:=8) (m:=[(f:Int)]) h.rd (by simp;omega) (by omega);rw[S];simp only[aa];rw[aN,e];have M:Liv g (f:Int):=by rw[←u];exact Liv.step L (by rw[c.1];exact hx)
   have hcf:=anP a (by rw[Q];exact c.2);have hA:A10 g t w' (out.set f true) (l++[(f:Int)]):=by
    refine⟨by simpa using B,fun s D=> ?_,fun s D=> ?_,T,fun y r=> ?_,?_⟩
    ·rw[gS a];split
     ·rfl
     ·exact h.ac s D
    ·rw[gS a]at D
     by_cases E:s=f
     ·subst E;exact M
     ·rw[if_neg E]at D;exact h.sn s D
    ·rw[gS a];rcases List.mem_append.1 r with r |r
     ·refine⟨(h.mem y r).1,?_⟩
      split
      ·rfl
      ·exact(h.mem y r).2
     ·have:y=(f:Int):=by simpa using r
      subst this;exact⟨by rw[←u];exact K,by rw[if_pos (by simp)]⟩
    ·rw[ah,bZ];omega
   have hB:∀j,j<g.2.length→(out.set f true).getD (kA g j).2.2.2.toNat false=true→(kA g j).2.2.2∈l++[(f:Int)]∨(out.set f true).getD (kA g j).1.toNat false=true∨((kA g j).2.2.2=x∧i+1≤j):=by
    intro j q p;rw[gS a]at p;rw[gS a];have X:=(I j q).2
    by_cases N:(kA g j).2.2.2.toNat=f
    ·left;exact bp _ (by simp;have:=X.1;omega)
    ·rw[if_neg N]at p;rcases J j q p with h |h |h
     ·exact .inl (aS _ h)
     ·right;left
      split
      ·rfl
      ·exact h
     ·by_cases o:j=i
      ·right;left;subst o;rw[u,if_pos (by simp)]
      ·exact .inr (.inr ⟨h.1,by omega⟩)
   obtain⟨H2,w2,F,l2,b1,U,V,W⟩:=uf (n:=n) I R z hx m k (i+1) t w' (out.set f true) (l++[(f:Int)]) (by omega) (by omega) hA hB;rw[ah,bZ]at V;exact⟨H2,w2,F,l2,b1,U,by omega,W⟩
  ·rw[if_neg c];simp only[aa];rw[aN,e];refine uf (n:=n) I R z hx m k (i+1) H w out l (by omega) (by omega) h (fun j q p=> ?_);rcases J j q p with h |h |h
   ·exact .inl h
   ·exact .inr (.inl h)
   ·by_cases o:j=i
    ·right;left;subst o;rw[u,ax,Q];apply Decidable.byContradiction;intro hh;apply c;rw[ak,beq_iff_eq,aZ];exact⟨h.1,by simpa using hh⟩
    ·exact .inr (.inr ⟨h.1,by omega⟩)
theorem FL{n:Nat}{g:Gd}(o:Bp g)(r:g.1.length≤1000000)(d:g.2.length≤1000000)(I:Hn0 n):∀(k:Nat) (H:List (Option (List Int))) (w:Option (Nat×Nat×Nat)) (out:List Bool) (l:List Int),l.length+cf out<k→A10 g H w out l→
  (∀j,j<g.2.length→out.getD (kA g j).2.2.2.toNat false=true→(kA g j).2.2.2∈l∨out.getD (kA g j).1.toNat false=true)→
  ∃e a,px n k ((),(),w,H,g,out,())=some ((),e,a,())∧zl g a
 |0,H,w,out,l,c,_,_=>by omega
 |k+1,H,w,out,l,c,h,b=>by
  rw[MA,X6 h.rd]
  match l,h,c,b with
  |[],h,c,b=>
   refine⟨H,out,rfl,alT o h.len h.ac h.sn fun i E q=> ?_⟩;rcases b i E q with h |h
   ·cases h
   ·exact h
  |x::l,h,c,b=>
   rw[ag,if_pos (by rw[bx,bg];omega)];obtain⟨p,v,rfl,L,M,N,-⟩:=ahr h.rd (i:=0) (by simp);simp only[aa];rw[show(0:Int)=((0:Nat):Int)from rfl,L];simp only[aa];rw[M];simp only[aa];rw[N];simp only[aa];obtain⟨y,u,P⟩:=ar1 h.rd (by simp);rw[X6 h.rd]at u;rw[u];simp only[aa];have t:=h.mem x aH;obtain⟨e,O,a,K,b1,B,Q,D⟩:=uf (n:=n) (x:=x) o r d (by have:=h.sn _ t.2;rw[show(x.toNat:Int)=x by have:=t.1.1;omega]at this;exact this) g.2.length n 0 H y out l (by omega) (by omega)
    ⟨h.len,h.ac,h.sn,P,fun z J=>h.mem z (aG _ J),by have:=h.cnt;rw[bg]at this;omega⟩ (fun j F q=>by
     rcases b j F q with h |h
     ·rcases List.mem_cons.1 h with h |h
      ·exact .inr (.inr ⟨h,by omega⟩)
      ·exact .inl h
     ·exact .inr (.inl h))
   show ∃e a,(l4 n n ((),(),y,x,g.2,(g.2.length:Int),((0:Nat):Int),H,g,out,())).bind _=_∧_;rw[b1];simp only[aa];exact FL o r d I k e O a K (by rw[bg]at c;omega) B D
theorem X7{n:Nat}{g:Gd}(o:Bp g)(p:g.1.length≤1000000)(i:g.2.length≤1000000)(q:Hn0 n):∃b,qk n g=some b∧zl g b:=by
 rw[Vv,fX (m:=g.1.length) rfl (by omega) (by omega)];simp only[aa];obtain⟨H,w,e,l,k,a⟩:=ue (n:=n) p q g.1.length n 0 [] none (ao g.1.length false) [] (by omega) (by omega)
  ⟨by simp,fun j d=>(by omega),fun j _=>anO _ _,rfl,fun x y=>(by cases y),fun j d=>(by rw[anO]at d;cases d),by unfold cf;simp⟩
 rw[show((0:Nat):Int)=0 from rfl]at k;rw[k];simp only[aa];have t:=a.cnt;have hout:∀s:Nat,e.getD s false=g.1.getD s false:=by
  intro s
  by_cases c:s<g.1.length
  ·exact a.lo s c
  ·rw[a.hi s (by omega)];simp[Nat.le_of_not_lt c]
 obtain⟨z,h,b1,r⟩:=FL (n:=n) o p i q n H w e l (by omega)
  ⟨a.len,fun s c=>by rw[hout];exact c,fun s c=>Liv.acc (by rw[←hout];exact c),a.rd,a.mem,by omega⟩ (fun j d u=> .inl (by
   have:=a.has _ u;rw[show(((kA g j).2.2.2.toNat:Nat):Int)=(kA g j).2.2.2 by have:=(o j d).2.1;omega]at this;exact this))
 rw[b1];exact⟨h,rfl,r⟩
theorem ar3{out:List Bool}{i:Nat}(hi:i<out.length)(h:out.getD i false=true):out.set i true=out:=by
 refine List.ext_getElem (by simp) fun j a b=> ?_;rw[List.getElem_set]
 split
 ·rename_i e;subst e;rw[aV hi]at h;exact h.symm
 ·rfl
def Clo(g:Gd)(out:List Bool)(m:Nat):Prop:=∀i,i<m→out.getD (kA g i).2.2.2.toNat false=true→out.getD (kA g i).1.toNat false=true
structure R15 (g:Gd) (oK out:List Bool) (i:Nat):Prop where
 len:out.length=g.1.length
 ac:∀s:Nat,g.1.getD s false=true→out.getD s false=true
 sn:∀s:Nat,out.getD s false=true→Liv g (s:Int)
 way:(out=oK∧Clo g out i)∨(cf out<cf oK∧¬ Clo g oK g.2.length)
theorem LF{n:Nat}{g:Gd}{oK:List Bool}{x:Option (Nat×Nat×Nat)}{z:Int}(P:Bp g)(y:g.2.length≤1000000):∀(m k i:Nat) (H:List (Option (List Bool))) (out:List Bool),i+m=g.2.length→m<k→rX H x=some out→R15 g oK out i→
  ∃I o,q8 n k ((),x,z,(i:Int),H,g,())=some ((),x,z,I,g,())∧rX I x=some o∧R15 g oK o g.2.length
 |0,k,i,H,out,X,Y,u,h=>by
  obtain⟨k,rfl⟩:=gU k;have:i=g.2.length:=by omega
  subst this;rw[AO,ag,if_neg (by simp)];exact⟨H,out,rfl,u,h⟩
 |m+1,k,i,H,out,X,Y,u,h=>by
  obtain⟨k,rfl⟩:=gU k;have K:i<g.2.length:=by omega
  have l:=h.len;obtain⟨N,O⟩:=P i K;obtain⟨f,J⟩:∃f:Nat,(kA g i).1=(f:Int):=⟨(kA g i).1.toNat,by have:=N.1;omega⟩;obtain⟨t,L⟩:∃t:Nat,(kA g i).2.2.2=(t:Int):=⟨(kA g i).2.2.2.toNat,by have:=O.1;omega⟩;have b:f<out.length:=by have:=N.2;omega
  have E:t<out.length:=by have:=O.2;omega
  have e:(i:Int)+1=((i+1:Nat):Int):=by omega
  rw[AO,bP0,PX K];simp only[aa];rw[xn,decide_eq_true N];simp only[aa,ii];rw[xn,decide_eq_true O];simp only[aa,ii];obtain⟨p,w,U,q2,V,q4,-⟩:=ahr u E;obtain⟨p',w',r1,r2,W,r4,r5⟩:=ahr u b;have S:p'=p:=by rw[U]at r1;exact(Option.some.inj r1).symm
  subst S;have T:w'=w:=by rw[V]at W;exact(Option.some.inj W).symm
  subst T;rw[L,J,U];simp only[aa];rw[q2];simp only[aa];rw[V];simp only[aa];rw[q4];simp only[aa];rw[←U];have q:out.getD t false=out[t]:=aV E false;rw[ag]
  by_cases c:out[t]=true
  ·rw[if_pos c,r2];simp only[aa];rw[r4];simp only[aa];obtain⟨I,u1,u2⟩:=r5 true;rw[u1];simp only[aa];rw[aN,e];refine LF (n:=n) P y m k (i+1) I (out.set f true) (by omega) (by omega) u2 ?_
   by_cases a:out.getD f false=true
   ·rw[ar3 b a];refine⟨l,h.ac,h.sn,?_⟩;rcases h.way with⟨F,M⟩|w
    ·refine .inl ⟨F,fun j hj d=> ?_⟩
     by_cases r:j=i
     ·subst r;rw[J,ax];exact a
     ·exact M j (by omega) d
    ·exact .inr w
   ·have a:out.getD f false=false:=by simpa using a
    have Z:=anP b a;have R:Liv g (f:Int):=by rw[←J];exact Liv.step K (by rw[L];exact h.sn t (by rw[q];exact c))
    refine⟨by simpa using l,fun s B=> ?_,fun s B=> ?_,?_⟩
    ·rw[gS b];split
     ·rfl
     ·exact h.ac s B
    ·rw[gS b]at B
     by_cases D:s=f
     ·subst D;exact R
     ·rw[if_neg D]at B;exact h.sn s B
    ·right;rcases h.way with⟨F,M⟩|w
     ·subst F;refine⟨by omega,fun Q=> ?_⟩;have:=Q i K (by rw[L,ax,q];exact c);rw[J,ax,a]at this
      cases this
     ·exact⟨by omega,w.2⟩
  ·rw[if_neg c];simp only[aa];rw[aN,e];refine LF (n:=n) P y m k (i+1) H out (by omega) (by omega) u ⟨l,h.ac,h.sn,?_⟩;rcases h.way with⟨F,M⟩|w
   ·refine .inl ⟨F,fun j hj d=> ?_⟩
    by_cases r:j=i
    ·subst r;rw[L,ax,q]at d;exact absurd d c
    ·exact M j (by omega) d
   ·exact .inr w
theorem TF{n:Nat}{g:Gd}{x:Option (Nat×Nat×Nat)}(h:Bp g)(I:g.1.length≤1000000)(c:g.2.length≤1000000)(J:Hn0 n):∀(m k r:Nat) (H:List (Option (List Bool))) (out:List Bool),r+m=g.1.length→m<k→rX H x=some out→out.length=g.1.length→
  (∀s:Nat,g.1.getD s false=true→out.getD s false=true)→(∀s:Nat,out.getD s false=true→Liv g (s:Int))→(Clo g out g.2.length∨cf out+r≤g.1.length)→
  ∃d a,qZ n k ((),x,(r:Int),H,g,())=some (x,d,())∧rX d x=some a∧zl g a
 |0,k,r,H,out,B,D,l,o,p,q,b=>by
  obtain⟨k,rfl⟩:=gU k;rw[AM,bN0];refine⟨H,out,rfl,l,alT h o p q ?_⟩;rcases b with b |b
  ·exact b
  ·intro i F _;have w:=(h i F).1;have E:cf out=0:=by omega
   exact at9 E (by have:=w.1;have:=w.2;omega)
 |m+1,k,r,H,out,B,D,l,o,p,q,b=>by
  obtain⟨k,rfl⟩:=gU k;rw[AM,bP0];obtain⟨d,a,u,y,e⟩:=LF (n:=n) (g:=g) (oK:=out) (x:=x) (z:=(r:Int)) h c g.2.length n 0 H out (by omega) (by omega) l ⟨o,p,q,.inl ⟨rfl,fun j L=>by omega⟩⟩;rw[show((0:Nat):Int)=0 from rfl]at u;rw[u];simp only[aa];rw[aN,show(r:Int)+1=((r+1:Nat):Int)by omega];refine TF h I c J m k (r+1) d a (by omega) (by omega) y e.len e.ac e.sn ?_;rcases e.way with⟨K,t⟩|⟨K,t⟩
  ·exact .inl t
  ·right;rcases b with b |b
   ·exact absurd b t
   ·omega
theorem TG{α:Type}:rX (eE ([]:List (Option (List α))) []) (some (0,0,0))=some []:=rfl
theorem X8{n:Nat}{g:Gd}(p:Bp g)(q:g.1.length≤1000000)(i:g.2.length≤1000000)(r:Hn0 n):∃b,qu n g=some b∧zl g b:=by
 rw[VY];obtain⟨H,x,k,j⟩:=Mr (b:=1) (m:=g.1) (TG (α:=Bool)) (by simp;omega) (by omega);rw[k];simp only[aa];rw[bC]at j;obtain⟨t,e,b1,d,l⟩:=TF (n:=n) (g:=g) (x:=x) p q i r g.1.length n 0 H g.1 (by omega) (by omega) j rfl (fun s h=>h) (fun s h=>Liv.acc h) (.inr (by have:=ayC g.1;omega));rw[show((0:Nat):Int)=0 from rfl]at b1;rw[b1];simp only[aa];refine⟨e,?_,l⟩
 match x,d with
 |none,d=>cases d;rfl
 |some (o,a,c),d=>
  unfold gsF;simp only[d,aa]
def X9(e f:Edg):Prop:=e.1=f.1∧e.2.1≤f.2.2.1∧f.2.1≤e.2.2.1
instance (e f:Edg):Decidable (X9 e f):=by unfold X9;exact inferInstance
def ajG(g:Gd)(i:Nat):Prop:=(nR g (kA g i).1∧nR g (kA g i).2.2.2∧(kA g i).2.1≤(kA g i).2.2.1)∧∀k,k<i→¬ X9 (kA g k) (kA g i)
def zm(g:Gd):Prop:=∀i,i<g.2.length→ajG g i
theorem zm.st{g:Gd}(h:zm g):Bp g:=fun i hi=>⟨(h i hi).1.1,(h i hi).1.2.1⟩
structure aaK (g:Gd):Prop where
 l:g.1.length≤64
 l2:g.2.length≤1024
 e:zm g
 a:0<g.1.length→Liv g 0
def anQ(g:Gd)(e:Int):Prop:=(64<g.1.length∧e=150)∨(g.1.length≤64∧(1024<g.2.length∨¬ zm g)∧e=151)∨(g.1.length≤64∧g.2.length≤1024∧zm g∧0<g.1.length∧¬ Liv g 0∧e=152)∨(aaK g∧e=0)
theorem anQ.uniq{g:Gd}{a b:Int}(y:anQ g a)(D:anQ g b):a=b:=by
 rcases y with⟨p,rfl⟩|⟨p,q,rfl⟩|⟨p,q,r,s,t,rfl⟩|⟨p,rfl⟩<;>rcases D with⟨i,rfl⟩|⟨i,j,rfl⟩|⟨i,j,E,H,I,rfl⟩|⟨i,rfl⟩<;>first |rfl |omega |(exfalso;first |(rcases q with q |q<;>first |omega |exact q E |exact q i.e |(have:=i.l2;omega))|(rcases j with j |j<;>first |omega |exact j r |exact j p.e |(have:=p.l2;omega))|exact t (i.a s)|exact I (p.a H)|(have:=p.l;omega)|(have:=i.l;omega))
theorem anQ.zero{g:Gd}{e:Int}(h:anQ g e):e=0↔aaK g:=by
 constructor
 ·intro i;rcases h with⟨p,rfl⟩|⟨p,q,rfl⟩|⟨p,q,r,s,t,rfl⟩|⟨p,rfl⟩
  ·cases i
  ·cases i
  ·cases i
  ·exact p
 ·intro i;exact h.uniq (.inr (.inr (.inr ⟨i,rfl⟩)))
theorem aen{g:Gd}{i:Nat}:(!decide (nR g (kA g i).1)||(!decide (nR g (kA g i).2.2.2)||decide ((kA g i).2.1>(kA g i).2.2.1)))= !decide (nR g (kA g i).1∧nR g (kA g i).2.2.2∧(kA g i).2.1≤(kA g i).2.2.1):=by
 apply Bool.eq_iff_iff.2;simp only[aD,aZ,bx,decide_eq_false_iff_not];constructor
 ·intro h a;rcases h with h |h |h
  ·exact h a.1
  ·exact h a.2.1
  ·have:=a.2.2;omega
 ·intro h
  by_cases b:nR g (kA g i).1
  ·by_cases c:nR g (kA g i).2.2.2
   ·right;right;have:¬ (kA g i).2.1≤(kA g i).2.2.1:=fun d=>h ⟨b,c,d⟩;omega
   ·exact .inr (.inl c)
  ·exact .inl b
theorem Ya{e f:Edg}:((e.1==f.1)&&(decide (e.2.1≤f.2.2.1)&&decide (f.2.1≤e.2.2.1)))=decide (X9 e f):=by
 apply Bool.eq_iff_iff.2;rw[ak,ak,beq_iff_eq,bx,bx,bx];exact Iff.rfl
theorem anR{n:Nat}{g:Gd}{i:Nat}(hi:i<g.2.length)(o:g.2.length≤1000000)(q:Hn0 n):∃b,yV n (g,(i:Int))=some b∧(b=true↔ajG g i):=by
 rw[Z9,PX hi];simp only[aa,xn,eC,aen]
 by_cases c:nR g (kA g i).1∧nR g (kA g i).2.2.2∧(kA g i).2.1≤(kA g i).2.2.1
 case neg=>
  rw[decide_eq_false c];exact⟨false,rfl,fun h=>(by cases h),fun h=>absurd h.1 c⟩
 rw[decide_eq_true c];simp only[aY,bU];rcases cZ (L:=fun k j (_:Unit)=>kc n k ((i:Int),(),(),j,g,kA g i,())) (len:=i) (fun _=>()) (fun k=>¬ X9 (kA g k) (kA g i)) (fun _=> .inl (false,())) (.inr ()) (by
  intro k j p _;show(_∧kc n (k+1) _=_)∨(_∧kc n (k+1) _=_);rw[CH,bP0,PX (show j<g.2.length by omega)];simp only[aa,fw,Ya];rw[ag]
  by_cases c:X9 (kA g j) (kA g i)
  ·rw[if_pos (by simpa using c)];exact .inr ⟨fun h=>h c,rfl⟩
  ·rw[if_neg (by simpa using c),aN];exact .inl ⟨c,rfl⟩) (by
  intro k;show kc n (k+1) _=_;rw[CH,ag,if_neg (by simp)]) n (by omega)with⟨a,d⟩|⟨j,a,d,e,l⟩
 ·rw[d];exact⟨true,rfl,fun _=>⟨c,a⟩,fun _=>rfl⟩
 ·rw[l];exact⟨false,rfl,fun h=>(by cases h),fun h=>absurd (h.2 j a) e⟩
theorem aeo{g:Gd}{b:List Bool}(h:zl g b)(a:0<g.1.length):∃x,idx b (0:Int)=some x∧(x=true↔Liv g 0):=by
 have c:0<b.length:=by rw[h.1];exact a
 have:=p6 c false;rw[show((0:Nat):Int)=0 from rfl]at this;exact⟨_,this,h.2 0 a⟩
theorem LG{n:Nat}{g:Gd}(D:g.1.length≤1048576)(p:Hn0 n):∃r,lz n g=some r∧anQ g r.2:=by
 rw[VZ];simp only[ag,bx]
 by_cases c:(g.1.length:Int)>64
 ·rw[if_pos c];exact⟨_,rfl,.inl ⟨by omega,rfl⟩⟩
 rw[if_neg c]
 by_cases d:(g.2.length:Int)>1024
 ·rw[if_pos d];exact⟨_,rfl,.inr (.inl ⟨by omega,.inl (by omega),rfl⟩)⟩
 rw[if_neg d];rcases cZ (L:=fun k j (_:Unit)=>jq n k ((),j,g,())) (len:=g.2.length) (fun _=>()) (ajG g) (fun i=> .inl ((i:Int),151,())) (.inr ((),g,())) (by
  intro k j z _;show(_∧jq n (k+1) _=_)∨(_∧jq n (k+1) _=_);obtain⟨b,e,h⟩:=anR (n:=n) z (by omega) p;rw[AP,bP0,e]
  cases b with
  |true=>simp only[aa,aY,bU];rw[aN];exact .inl ⟨h.1 rfl,rfl⟩
  |false=>exact .inr ⟨fun u=>(by have:=h.2 u;cases this),rfl⟩) (by
  intro k;show jq n (k+1) _=_;rw[AP,ag,if_neg (by simp)]) n (by omega)with⟨a,o⟩|⟨j,a,o,w,y⟩
 case inr=>
  rw[y];exact⟨_,rfl,.inr (.inl ⟨by omega,.inr fun h=>w (h j a),rfl⟩)⟩
 rw[o];simp only[aa,cI]
 by_cases l:(g.1.length:Int)>0
 ·rw[if_pos l];obtain⟨b,b1,t⟩:=X8 (n:=n) (zm.st a) (by omega) (by omega) p;rw[b1];simp only[aa];obtain⟨x,B,q⟩:=aeo t (by omega);rw[B];simp only[aa]
  cases x with
  |true=>exact⟨_,rfl,.inr (.inr (.inr ⟨⟨by omega,by omega,a,fun _=>q.1 rfl⟩,rfl⟩))⟩
  |false=>exact⟨_,rfl,.inr (.inr (.inl ⟨by omega,by omega,a,by omega,fun h=>(by have:=q.2 h;cases this),rfl⟩))⟩
 ·rw[if_neg l];exact⟨_,rfl,.inr (.inr (.inr ⟨⟨by omega,by omega,a,fun h=>by omega⟩,rfl⟩))⟩
theorem ar4{g:Gd}{i j:Nat}(h:j<i)(hi:i≤g.2.length):idx (g.2.take i) (j:Int)=some (kA g j):=by
 rw[bj (by rw[aC];omega)];unfold kA;simp[show j<g.2.length by omega]
theorem LH{n:Nat}{g:Gd}(E:g.1.length≤1048576)(B:Hn0 n):∃r,lr n g=some r∧anQ g r.2:=by
 rw[Vw];simp only[ag,bx]
 by_cases p:(g.1.length:Int)>64
 ·rw[if_pos p];exact⟨_,rfl,.inl ⟨by omega,rfl⟩⟩
 rw[if_neg p]
 by_cases q:(g.2.length:Int)>1024
 ·rw[if_pos q];exact⟨_,rfl,.inr (.inl ⟨by omega,.inl (by omega),rfl⟩)⟩
 rw[if_neg q];rcases cZ (L:=fun k j (_:Unit)=>jg n k ((),g.2,(g.2.length:Int),j,g,())) (len:=g.2.length) (fun _=>()) (ajG g) (fun i=> .inl ((i:Int),151,())) (.inr ((),g,())) (by
  intro k j z _;show(_∧jg n (k+1) _=_)∨(_∧jg n (k+1) _=_);rw[Aq,bP0,PX z];simp only[aa,Ec,eC,aen]
  by_cases c:nR g (kA g j).1∧nR g (kA g j).2.2.2∧(kA g j).2.1≤(kA g j).2.2.1
  case neg=>
   rw[decide_eq_false c];exact .inr ⟨fun h=>c h.1,rfl⟩
  rw[decide_eq_true c];simp only[aY,bU];rw[vk];simp only[aa];have e:(g.2.take j).length=j:=by rw[aC];omega
  rw[e];rcases cZ (L:=fun k i (_:Unit)=>iy n k ((),(j:Int),(),g.2,(g.2.length:Int),(j:Int),g.2.take j,(j:Int),i,g,kA g j,())) (len:=j) (fun _=>()) (fun k=>¬ X9 (kA g k) (kA g j)) (fun _=> .inl ((j:Int),151,())) (.inr ((),g.2,(g.2.length:Int),(j:Int),g,())) (by
   intro k i y _;show(_∧iy n (k+1) _=_)∨(_∧iy n (k+1) _=_);rw[aub,bP0,ar4 y (by omega)];simp only[aa,fw,Ya];rw[ag]
   by_cases c:X9 (kA g i) (kA g j)
   ·rw[if_pos (by simpa using c)];exact .inr ⟨fun h=>h c,rfl⟩
   ·rw[if_neg (by simpa using c),aN];exact .inl ⟨c,rfl⟩) (by
   intro k;show iy n (k+1) _=_;rw[aub,ag,if_neg (by simp)]) n (by omega)with⟨a,d⟩|⟨i,a,d,l,o⟩
  ·rw[d];simp only[aa,cI];rw[aN];exact .inl ⟨⟨c,a⟩,rfl⟩
  ·rw[o];exact .inr ⟨fun h=>l (h.2 i a),rfl⟩) (by
  intro k;show jg n (k+1) _=_;rw[Aq,ag,if_neg (by simp)]) n (by omega)with⟨a,d⟩|⟨j,a,d,l,o⟩
 case inr=>
  rw[o];exact⟨_,rfl,.inr (.inl ⟨by omega,.inr fun h=>l (h j a),rfl⟩)⟩
 rw[d];simp only[aa,cI]
 by_cases t:(g.1.length:Int)>0
 ·rw[if_pos t];obtain⟨b,b1,w⟩:=X7 (n:=n) (zm.st a) (by omega) (by omega) B;rw[b1];simp only[aa];obtain⟨x,D,u⟩:=aeo w (by omega);rw[D];simp only[aa]
  cases x with
  |true=>exact⟨_,rfl,.inr (.inr (.inr ⟨⟨by omega,by omega,a,fun _=>u.1 rfl⟩,rfl⟩))⟩
  |false=>exact⟨_,rfl,.inr (.inr (.inl ⟨by omega,by omega,a,by omega,fun h=>(by have:=u.2 h;cases this),rfl⟩))⟩
 ·rw[if_neg t];exact⟨_,rfl,.inr (.inr (.inr ⟨⟨by omega,by omega,a,fun h=>by omega⟩,rfl⟩))⟩
def Hit(e:Edg)(s c:Int):Prop:=e.1=s∧e.2.1≤c∧c≤e.2.2.1
instance (e:Edg) (s c:Int):Decidable (Hit e s c):=by unfold Hit;exact inferInstance
def aep(s c:Int):List Edg→Int
 |[]=> -1
 |e::l=>if Hit e s c then e.2.2.2 else aep s c l
theorem aeq{s c:Int}:∀{l:List Edg},(∀e∈l,¬ Hit e s c)→aep s c l= -1
 |[],_=>rfl
 |e::l,h=>by
  unfold aep;rw[if_neg (h e aH)];exact aeq fun x a=>h x (aG _ a)
theorem alU{s c:Int}:∀{l:List Edg} {i:Nat} (hi:i<l.length),(∀k (b:k<l.length),k<i→¬ Hit l[k] s c)→Hit l[i] s c→aep s c l=l[i].2.2.2
 |e::l,0,_,_,h=>by unfold aep;rw[if_pos (show Hit e s c from h)];rfl
 |e::l,i+1,hi,a,h=>by
  unfold aep;rw[if_neg (show ¬ Hit e s c from a 0 (by simp) (by omega))];exact alU (l:=l) (i:=i) (by simpa using hi) (fun k b d=>a (k+1) (by simpa using b) (by omega)) h
def wst(g:Gd)(s c:Int):Int:=aep s c g.2
theorem aer{g:Gd}{s c:Int}(h:∀i,i<g.2.length→¬ Hit (kA g i) s c):wst g s c= -1:=by
 refine aeq fun e b=> ?_;obtain⟨i,a,rfl⟩:=aM b;have:=h i a;unfold kA at this;rw[aV a]at this;exact this
theorem anS{g:Gd}{s c:Int}{i:Nat}(hi:i<g.2.length)(b:∀k,k<i→¬ Hit (kA g k) s c)(h:Hit (kA g i) s c):wst g s c=(kA g i).2.2.2:=by
 have e:kA g i=g.2[i]:=by unfold kA;rw[aV hi]
 rw[e]at h ⊢;refine alU hi (fun k d a=> ?_) h;have:=b k a;unfold kA at this;rw[aV d]at this;exact this
theorem ar5{g:Gd}(e:zm g){s c:Int}{i j:Nat}(h:j<g.2.length)(d:i<j)(a:Hit (kA g i) s c)(b:Hit (kA g j) s c):False:=by
 refine(e j h).2 i d ⟨?_,?_,?_⟩
 ·rw[a.1,b.1]
 ·have:=a.2.1;have:=b.2.2;omega
 ·have:=b.2.1;have:=a.2.2;omega
theorem awt{g:Gd}(e:Bp g){s c:Int}:wst g s c= -1∨nR g (wst g s c):=by
 by_cases h:∃i,i<g.2.length∧Hit (kA g i) s c∧∀k,k<i→¬ Hit (kA g k) s c
 ·obtain⟨i,a,b,d⟩:=h;rw[anS a d b];exact .inr (e i a).2
 ·left;refine aer fun i=> ?_
  induction i using Nat.strongRecOn with
  |_ i n=>
   intro a j;exact h ⟨i,a,j,fun k l=>n k l (by omega)⟩
def wgo(g:Gd):Int→List UInt8→Int
 |s,[]=>s
 |s,c::t=>if wst g s (c.toNat:Int)<0 then -1 else wgo g (wst g s (c.toNat:Int)) t
theorem alV{g:Gd}{s:Int}{c:UInt8}{t:List UInt8}:wgo g s (c::t)=if wst g s (c.toNat:Int)<0 then -1 else wgo g (wst g s (c.toNat:Int)) t:=rfl
theorem ar7{g:Gd}(b:Bp g):∀{t:List UInt8} {s:Int},nR g s→wgo g s t= -1∨nR g (wgo g s t)
 |[],s,h=> .inr h
 |c::t,s,h=>by
  unfold wgo
  split
  ·exact .inl rfl
  ·rename_i d;rcases awt b (s:=s) (c:=(c.toNat:Int))with a |a
   ·rw[a]at d;omega
   ·exact ar7 b a
def De(g:Gd)(s:Int)(t:List UInt8):Int:=if g.1.length=0 then(if s=0 then 0 else -1)else if nR g s then wgo g s t else -1
theorem aoQ{s:List UInt8}{i:Nat}(h:i<s.length):FQ s (i:Int)=some ((s[i].toNat:Nat):Int):=by
 unfold FQ;rw[lf,ax,ai h];rfl
theorem ahs{e:Edg}{s c:Int}:((e.1==s)&&(decide (e.2.1≤c)&&decide (c≤e.2.2.1)))=decide (Hit e s c):=by
 apply Bool.eq_iff_iff.2;rw[ak,ak,beq_iff_eq,bx,bx,bx];exact Iff.rfl
theorem IM{n:Nat}{g:Gd}{t:List UInt8}(d:g.2.length≤1000000)(y:t.length≤1000000000)(e:Bp g)(x:Hn0 n):∀(m k i:Nat) (s:Int),i+m=t.length→m<k→
  ∃r,sO n k (s,t,(),(t.length:Int),(i:Int),g,())=some r∧((r= .inl (-1,())∧wgo g s (t.drop i)= -1)∨r= .inr (wgo g s (t.drop i),()))
 |0,k,i,s,q,u=>by
  obtain⟨k,rfl⟩:=gU k;rw[CB,bN0,bA (by omega)];exact⟨_,rfl,.inr rfl⟩
 |m+1,k,i,s,q,u=>by
  obtain⟨k,rfl⟩:=gU k;have l:i<t.length:=by omega
  rw[CB,bP0,bi l];rw[alV];rcases cZ (L:=fun k j (_:Unit)=>jh n k (s,t,(),(i:Int),(t.length:Int),(i:Int),g.2,(g.2.length:Int),j,g,())) (len:=g.2.length) (fun _=>()) (fun j=>¬ Hit (kA g j) s (t[i].toNat:Int)) (fun j=> .inl ((kA g j).2.2.2,t,(),(t.length:Int),(i:Int),g,())) (.inr ()) (by
   intro k j w _;show(_∧jh n (k+1) _=_)∨(_∧jh n (k+1) _=_);rw[Aw,bP0,PX w];simp only[aa];rw[aoQ l];simp only[aa,fw,ahs];rw[ag]
   by_cases c:Hit (kA g j) s (t[i].toNat:Int)
   ·rw[if_pos (by simpa using c)];exact .inr ⟨fun h=>h c,rfl⟩
   ·rw[if_neg (by simpa using c),aN];exact .inl ⟨c,rfl⟩) (by
   intro k;show jh n (k+1) _=_;rw[Aw,ag,if_neg (by simp)]) n (by omega)with⟨a,b⟩|⟨j,a,b,o,p⟩
  ·rw[b,aer a];exact⟨_,rfl,.inl ⟨rfl,by rw[lf]⟩⟩
  ·rw[p,anS a b (Decidable.not_not.1 o)];simp only[aa,cI];have z:=(e j a).2.1;rw[gk,aN,show(i:Int)+1=((i+1:Nat):Int)by omega];exact IM d y e x m k (i+1) _ (by omega) (by omega)
theorem aes{n:Nat}{g:Gd}{t:List UInt8}{s:Int}(a:g.2.length≤1000000)(j:t.length≤1000000000)(b:Bp g)(i:Hn0 n):sN n (g,s,t)=some (De g s t):=by
 rw[ZV];unfold De;simp only[ag,beq_iff_eq,bne_iff_ne,ne_eq]
 by_cases c:g.1.length=0
 ·rw[lf,if_pos c]
  by_cases d:s=0
  ·rw[if_neg (fun h=>h d),if_pos d]
  ·rw[if_pos d,if_neg d]
 rw[gk,if_neg c,Ec];simp only[aa]
 by_cases d:nR g s
 ·rw[decide_eq_true d,if_pos d];simp only[aY,cn,if_false];obtain⟨r,e,h⟩:=IM (n:=n) (g:=g) (t:=t) a j b i t.length n 0 s (by omega) (by omega);rw[show((0:Nat):Int)=0 from rfl]at e;rw[e];rw[dy]at h;rcases h with⟨rfl,h⟩|rfl
  ·simp only[aa,cI];rw[h]
  ·rfl
 ·rw[decide_eq_false d,if_neg d];rfl
theorem IP{n:Nat}{g:Gd}{t:List UInt8}(w:g.2.length≤1000000)(K:t.length≤1000000000)(y:zm g)(J:Hn0 n):∀(m k i:Nat) (s:Int),i+m=t.length→m<k→
  ∃r,rc n k (s,t,(),(i:Int),g,())=some r∧((r= .inl (-1,())∧wgo g s (t.drop i)= -1)∨r= .inr (wgo g s (t.drop i),()))
 |0,k,i,s,F,H=>by
  obtain⟨k,rfl⟩:=gU k;rw[A2,bN0,bA (by omega)];exact⟨_,rfl,.inr rfl⟩
 |m+1,k,i,s,F,H=>by
  obtain⟨k,rfl⟩:=gU k;have z:i<t.length:=by omega
  rw[A2,bP0,bi z];rw[alV];obtain⟨q,b1,E⟩:=alz (L:=fun k j (a:Int)=>kO n k (s,t,(),(i:Int),a,j,g,())) (len:=g.2.length)
   (fun j a=>(a= -1∧∀k,k<j→¬ Hit (kA g k) s (t[i].toNat:Int))∨∃k,k<j∧k<g.2.length∧Hit (kA g k) s (t[i].toNat:Int)∧(∀l,l<k→¬ Hit (kA g l) s (t[i].toNat:Int))∧a=(kA g k).2.2.2)
   (fun q=>q=(t,(),(i:Int),wst g s (t[i].toNat:Int),g,())) (by
   intro k j a u p;right;show ∃N,kO n (k+1) _=_∧_;rw[A3,bP0,PX u];simp only[aa];rw[aoQ z];simp only[aa,fw,ahs];rw[ag]
   by_cases c:Hit (kA g j) s (t[i].toNat:Int)
   ·rw[if_pos (by simpa using c)];simp only[aa];rw[aN];refine⟨_,rfl,.inr ⟨j,by omega,u,c,fun l B I=> ?_,rfl⟩⟩;exact ar5 y u B I c
   ·rw[if_neg (by simpa using c)];simp only[aa];rw[aN];refine⟨_,rfl,?_⟩;rcases p with⟨d,b⟩|⟨D,d,b,e,h,o⟩
    ·refine .inl ⟨d,fun l B=> ?_⟩
     by_cases x:l=j
     ·rw[x];exact c
     ·exact b l (by omega)
    ·exact .inr ⟨D,by omega,b,e,h,o⟩) (by
   intro k a p;show ∃r,kO n (k+1) _=some r∧_;rw[A3,ag,if_neg (by simp)];refine⟨_,rfl,?_⟩;rcases p with⟨d,b⟩|⟨D,d,b,e,h,o⟩
   ·rw[aer b,d]
   ·rw[anS b h e,o]) n (-1) (by omega) (.inl ⟨rfl,fun k M=>by omega⟩)
  rw[b1,E];simp only[aa,ag,bx]
  by_cases c:wst g s (t[i].toNat:Int)<0
  ·rw[if_pos c,if_pos c];exact⟨_,rfl,.inl ⟨rfl,rfl⟩⟩
  ·rw[if_neg c,if_neg c,aN,show(i:Int)+1=((i+1:Nat):Int)by omega];exact IP w K y J m k (i+1) _ (by omega) (by omega)
theorem aet{n:Nat}{g:Gd}{t:List UInt8}{s:Int}(a:aaK g)(k:t.length≤1000000000)(b:Hn0 n):tj n (g,s,t)=some (De g s t):=by
 have j:=a.l2;have o:=a.l;obtain⟨r,e,h⟩:=LG (n:=n) (g:=g) (by omega) b;rw[aam,e];unfold De;simp only[aa,ag,beq_iff_eq,bne_iff_ne,ne_eq];rw[if_neg (fun i=>i (h.zero.2 a))]
 by_cases c:g.1.length=0
 ·rw[lf,if_pos c]
  by_cases d:s=0
  ·rw[if_pos d,if_pos d]
  ·rw[if_neg d,if_neg d]
 rw[gk,if_neg c,xn];simp only[aa]
 by_cases d:nR g s
 ·rw[decide_eq_true d,if_pos d];simp only[aY,cn,if_false];obtain⟨r,e,h⟩:=IP (n:=n) (g:=g) (t:=t) (by omega) k a.e b t.length n 0 s (by omega) (by omega);rw[show((0:Nat):Int)=0 from rfl]at e;rw[e];rw[dy]at h;rcases h with⟨rfl,h⟩|rfl
  ·simp only[aa,cI];rw[h]
  ·rfl
 ·rw[decide_eq_false d,if_neg d];rfl
theorem anT{n:Nat}{g:Gd}{t:List UInt8}{s:Int}(a:aaK g)(i:t.length≤1000000000)(b:Hn0 n):yN n (g,s,t)=some (De g s t):=by
 have d:=a.l2;have j:=a.l;obtain⟨r,e,h⟩:=LH (n:=n) (g:=g) (by omega) b;rw[ZW,e];simp only[aa,ag,bne_iff_ne,ne_eq];rw[if_neg (fun c=>c (h.zero.2 a)),aes (by omega) i a.e.st b];rfl
instance (v:D7) (t:Int):Decidable (xi v t):=by unfold xi;exact inferInstance
def aeu(g:Gd)(v:D7)(s t:Int):Int:=if xi v t then De g s (zw v t.toNat)else -1
def Ed(g:Gd)(v:D7):Int→List Int→Int
 |s,[]=>s
 |s,t::l=>Ed g v (aeu g v s t) l
theorem Lv.tl{v:D7}(h:Lv v):∀x∈v.1,x.length≤64:=by
 intro x j;obtain⟨i,hi,rfl⟩:=aM j;have:=(h.t i hi).2.2;unfold zw at this;rw[aV hi]at this;exact this
theorem anU{n:Nat}{g:Gd}{v:D7}{s t:Int}(k:aaK g)(b:Lv v)(i:Hn0 n):yO n (g,v,s,t)=some (aeu g v s t):=by
 have a:=b.tl;have o:=b.l;have p:=b.m;obtain⟨r,e,h⟩:=Lx (n:=n) (v:=v) (by omega) (by omega) (fun x q=>by have:=a x q;omega) i;have j:(r.2 !=0)=false:=by simp[h.2 b]
 rw[ZX,e];simp only[aa,eC];rw[j,Bool.false_or];unfold aeu
 by_cases c:xi v t
 ·have d:(decide (t<1)||decide (t≥(v.1.length:Int)))=false:=by
   have:=c.1;have:=c.2;simp;omega
  rw[d,if_pos c,bU,Tl c];simp only[aa];rw[anT k (by have:=Mm a t.toNat;omega) i];rfl
 ·have d:(decide (t<1)||decide (t≥(v.1.length:Int)))=true:=by
   unfold xi at c;simp;omega
  rw[d,if_neg c,ii]
theorem anV{n:Nat}{g:Gd}{v:D7}{s t:Int}(k:aaK g)(b:Lv v)(i:Hn0 n):za n (g,v,s,t)=some (aeu g v s t):=by
 have a:=b.tl;have o:=b.l;have p:=b.m;obtain⟨r,e,h⟩:=Lw (n:=n) (v:=v) (by omega) (by omega) (fun x q=>by have:=a x q;omega) i;have j:(r.2 !=0)=false:=by simp[h.2 b]
 rw[aan,e];simp only[aa,eC];rw[j,Bool.false_or];unfold aeu
 by_cases c:xi v t
 ·have d:(decide (t≤0)||decide (t≥(v.1.length:Int)))=false:=by
   have:=c.1;have:=c.2;simp;omega
  rw[d,if_pos c,bU,Tl c];simp only[aa];rw[aet k (by have:=Mm a t.toNat;omega) i];rfl
 ·have d:(decide (t≤0)||decide (t≥(v.1.length:Int)))=true:=by
   unfold xi at c;simp;omega
  rw[d,if_neg c,ii]
theorem alW{n:Nat}{g:Gd}{v:D7}{l:List Int}(e:aaK g)(o:Lv v)(q:l.length≤1000000000)(j:Hn0 n):qn n (g,v,l)=some (Ed g v 0 l):=by
 have a:∀(m k i:Nat) (s:Int),i+m=l.length→m<k→qR n k ((),(),s,l,(l.length:Int),(i:Int),g,v,())=some (Ed g v s (l.drop i),()):=by
  intro m
  induction m with
  |zero=>
   intro k i s c d;obtain⟨k,rfl⟩:=gU k;rw[Ax,bN0,bA (by omega)];rfl
  |succ m p=>
   intro k i s c d;obtain⟨k,rfl⟩:=gU k;have b:i<l.length:=by omega
   rw[Ax,bP0,bj b];simp only[aa];rw[anU e o j];simp only[aa];rw[aN,show(i:Int)+1=((i+1:Nat):Int)by omega,p k (i+1) _ (by omega) (by omega),bi b];rfl
 have h:=a l.length n 0 0 (by omega) (by omega);rw[show((0:Nat):Int)=0 from rfl]at h;rw[VE,h];rfl
theorem alX{n:Nat}{g:Gd}{v:D7}{l:List Int}(e:aaK g)(o:Lv v)(q:l.length≤1000000000)(j:Hn0 n):qy n (g,v,l)=some (Ed g v 0 l):=by
 have a:∀(m k i:Nat) (s:Int),i+m=l.length→m<k→re n k (l,(),(),s,(i:Int),g,v,())=some (Ed g v s (l.drop i),()):=by
  intro m
  induction m with
  |zero=>
   intro k i s c d;obtain⟨k,rfl⟩:=gU k;rw[A5,bN0,bA (by omega)];rfl
  |succ m p=>
   intro k i s c d;obtain⟨k,rfl⟩:=gU k;have b:i<l.length:=by omega
   rw[A5,bP0,bj b];simp only[aa];rw[anV e o j];simp only[aa];rw[aN,show(i:Int)+1=((i+1:Nat):Int)by omega,p k (i+1) _ (by omega) (by omega),bi b];rfl
 have h:=a l.length n 0 0 (by omega) (by omega);rw[show((0:Nat):Int)=0 from rfl]at h;rw[V7,h];rfl
def StM(g:Gd)(s:Int):Prop:=s= -1∨nR g s∨(g.1.length=0∧s=0)
theorem aev{g:Gd}(a:Bp g){s:Int}{t:List UInt8}:StM g (De g s t):=by
 unfold De
 by_cases c:g.1.length=0
 ·rw[if_pos c]
  split
  ·exact .inr (.inr ⟨c,rfl⟩)
  ·exact .inl rfl
 ·rw[if_neg c]
  split
  ·rename_i h;rcases ar7 a (t:=t) h with h |h
   ·exact .inl h
   ·exact .inr (.inl h)
  ·exact .inl rfl
theorem aht{g:Gd}{v:D7}(a:Bp g):∀{l:List Int} {s:Int},StM g s→StM g (Ed g v s l)
 |[],s,h=>h
 |t::l,s,h=>aht (s:=aeu g v s t) a (by
  unfold aeu
  split
  ·exact aev a
  ·exact .inl rfl)
theorem aua{g:Gd}:StM g 0:=by
 by_cases c:g.1.length=0
 ·exact .inr (.inr ⟨c,rfl⟩)
 ·exact .inr (.inl ⟨by omega,by omega⟩)
def aew(g:Gd)(v:D7)(s:Int)(i:Nat):Prop:=s≠-1∧(g.1.length=0∨(0≤De g s (zw v i)∧Liv g (De g s (zw v i))))
def apT(g:Gd)(s:Int):Prop:=s≠-1∧(g.1.length=0∨g.1.getD s.toNat false=true)
structure Wx (g:Gd) (v:D7) (s:Int) (m:List Bool):Prop where
 len:m.length=v.1.length
 t:∀i,0<i→i<v.1.length→(m.getD i false=true↔aew g v s i)
 z:m.getD 0 false=true↔(apT g s∨∀i,0<i→i<v.1.length→¬ aew g v s i)
theorem apU{g:Gd}{v:D7}{s:Int}{a b:List Bool}(c:Wx g v s a)(d:Wx g v s b):a=b:=by
 refine List.ext_getElem (by rw[c.len,d.len]) fun i e l=> ?_;have j:i<v.1.length:=by rw[←c.len];exact e
 have h:a.getD i false=true↔b.getD i false=true:=by
  by_cases k:i=0
  ·subst k;exact c.z.trans d.z.symm
  ·exact(c.t i (by omega) j).trans (d.t i (by omega) j).symm
 rw[aV e,aV l]at h;exact Bool.eq_iff_iff.2 h
theorem apV{g:Gd}{v:D7}{s:Int}{m:List Bool}(h:Wx g v s m)(k:2≤v.1.length):true∈m:=by
 by_cases c:∃i,0<i∧i<v.1.length∧aew g v s i
 ·obtain⟨i,e,d,j⟩:=c;have a:=(h.t i e d).2 j;have b:i<m.length:=by rw[h.len];exact d
  rw[aV b]at a;rw[←a];exact am b
 ·have a:=h.z.2 (.inr fun i e d j=>c ⟨i,e,d,j⟩);have b:0<m.length:=by rw[h.len];omega
  rw[aV b]at a;rw[←a];exact am b
theorem aex{V:Nat}(a:0<V){b:Bool}(i:Nat):((ao V false).set 0 b).getD i false=if i=0 then b else false:=by
 rw[gS (by simpa using a)]
 split
 ·rfl
 ·exact anO _ _
theorem IQ{n:Nat}{V:Nat}(h:V≤1000000):∀(m k i:Nat) (out:List Bool),i+m=V→m<k→out.length=V→(∀j,j<i→out.getD j false=true)→
  ∃a,qS n k ((),(V:Int),(i:Int),out,())=some ((),a,())∧a.length=V∧∀j,j<V→a.getD j false=true
 |0,k,i,out,e,g,b,c=>by
  obtain⟨k,rfl⟩:=gU k;rw[Ay,bN0];exact⟨out,rfl,b,fun j l=>c j (by omega)⟩
 |m+1,k,i,out,e,g,b,c=>by
  obtain⟨k,rfl⟩:=gU k;have d:i<out.length:=by omega
  rw[Ay,bP0,dO d];simp only[aa];rw[ai d];simp only[aa];rw[aN,show(i:Int)+1=((i+1:Nat):Int)by omega];refine IQ h m k (i+1) _ (by omega) (by omega) (by simpa using b) fun j l=> ?_;rw[gS d]
  split
  ·rfl
  ·exact c j (by omega)
structure M25 (g:Gd) (v:D7) (s:Int) (a0:Bool) (out:List Bool) (some_:Bool) (i:Nat):Prop where
 len:out.length=v.1.length
 z:out.getD 0 false=a0
 t:∀j,0<j→j<i→(out.getD j false=true↔aew g v s j)
 s:some_=true↔(a0=true∨∃j,0<j∧j<i∧aew g v s j)
theorem aoR{g:Gd}{a:List Bool}{x:Int}(h:zl g a)(hx:nR g x):∃b,idx a x=some b∧(b=true↔Liv g x):=by
 obtain⟨k,rfl⟩:∃k:Nat,x=(k:Int):=⟨x.toNat,by have:=hx.1;omega⟩;have c:k<a.length:=by rw[h.1];have:=hx.2;omega
 exact⟨_,p6 c false,h.2 k (by have:=hx.2;omega)⟩
theorem xO{n:Nat}{g:Gd}{v:D7}{s:Int}{o:List Bool}{a0:Bool}(B:nR g s)(d:zl g o)(F:Bp g)(w:g.2.length≤1000000)(R:v.1.length≤1000)(N:∀x∈v.1,x.length≤64)(K:Hn0 n):∀(m k i:Nat) (out:List Bool) (u:Bool),i+m=v.1.length→m<k→0<i→M25 g v s a0 out u i→
  ∃r D,ji n k (s,(),(),(),o,u,(i:Int),g,v,out,())=some ((),D,r,())∧M25 g v s a0 r D v.1.length
 |0,k,i,out,u,T,U,Q,h=>by
  obtain⟨k,rfl⟩:=gU k;have q:=h.len;rw[Az,bN0];have:i=v.1.length:=by omega
  subst this;exact⟨out,u,rfl,h⟩
 |m+1,k,i,out,u,T,U,Q,h=>by
  obtain⟨k,rfl⟩:=gU k;have q:=h.len;have W:i<v.1.length:=by omega
  have y:i<out.length:=by omega
  have a:¬ g.1.length=0:=by have:=B.1;have:=B.2;omega
  have L:s≠-1:=by have:=B.1;omega
  rw[Az,bP0,Wq W];simp only[aa];have X:=Mm N i;rw[aes w (by omega) F K];simp only[aa];have e:(i:Int)+1=((i+1:Nat):Int):=by omega
  have step:∀b:Bool,(b=true↔aew g v s i)→(((ck (i:Int) (af out))).bind fun H=>((out)[H]?).bind fun _=>
    (av u (some true) (((ck (i:Int) (af (aX out H b)))).bind fun v7=>(((aX out H b))[v7]?).bind fun v8=>some v8)).bind fun Z=>
    ji n k (s,((),((),((),(o,(Z,((ae bz ((i:Int)+(1:Int))),(g,(v,((aX out H b),())))))))))))=ji n k (s,(),(),(),o,u||b,((i+1:Nat):Int),g,v,out.set i b,())∧M25 g v s a0 (out.set i b) (u||b) (i+1):=by
   intro b I;constructor
   ·rw[dO y];simp only[aa];rw[ai y];simp only[aa];rw[dO (by simpa using y)];simp only[aa];rw[ai (by simpa using y)];simp only[aa];rw[List.getElem_set_self,eC];simp only[aa];rw[aN,e]
   ·refine⟨by simpa using q,?_,fun j J hj=> ?_,?_⟩
    ·rw[gS y,gk];exact h.z
    ·rw[gS y]
     by_cases p:j=i
     ·subst p;rw[if_pos rfl];exact I
     ·rw[if_neg p];exact h.t j J (by omega)
    ·rw[aD,h.s];constructor
     ·rintro((l |⟨j,l,V,E⟩)|l)
      ·exact .inl l
      ·exact .inr ⟨j,l,by omega,E⟩
      ·exact .inr ⟨i,Q,by omega,I.1 l⟩
     ·rintro(l |⟨j,l,V,E⟩)
      ·exact .inl (.inl l)
      ·by_cases p:j=i
       ·subst p;exact .inr (I.2 E)
       ·exact .inl (.inr ⟨j,l,by omega,E⟩)
  rw[ag];have Y:=aev (t:=zw v i) (s:=s) F
  by_cases c:0≤De g s (zw v i)
  ·have M:nR g (De g s (zw v i)):=by
    rcases Y with l |l |l
    ·omega
    ·exact l
    ·exact absurd l.1 a
   obtain⟨b,b1,S⟩:=aoR d M;rw[if_pos (by rw[bx];omega),b1];simp only[aa];obtain⟨O,P⟩:=step b (S.trans ⟨fun h=>⟨L,.inr ⟨c,h⟩⟩,fun h=>by
    rcases h.2 with h |h
    ·exact absurd h a
    ·exact h.2⟩)
   rw[O];exact xO B d F w R N K m k (i+1) _ _ (by omega) (by omega) (by omega) P
  ·rw[if_neg (by rw[bx];omega)];obtain⟨O,P⟩:=step false ⟨fun h=>(by cases h),fun h=>by
    rcases h.2 with h |h
    ·exact absurd h a
    ·exact absurd h.1 c⟩
   rw[O];exact xO B d F w R N K m k (i+1) _ _ (by omega) (by omega) (by omega) P
theorem anW{n:Nat}{g:Gd}{v:D7}{s:Int}(H:aaK g)(L:Lv v)(P:StM g s)(O:Hn0 n):∃m,sP n (g,v,s)=some (m,0)∧Wx g v s m:=by
 have K:=L.tl;have hvl:=L.l;have hv2:=L.l2;have hvm:=L.m;have hgl:=H.l;have T:=H.l2;obtain⟨r,e,h⟩:=Lx (n:=n) (v:=v) (by omega) (by omega) (fun x hx=>by have:=K x hx;omega) O;obtain⟨q,X,Z⟩:=LH (n:=n) (g:=g) (by omega) O;rw[ZY,e];simp only[aa];rw[show(r.2 !=0)=false by simp[h.2 L],bU,X];simp only[aa];rw[show(q.2 !=0)=false by simp[Z.zero.2 H],bU,Ec];have Y:(av (s !=(-(1:Int))) ((some (decide (nR g s))).bind fun v4=>av (!v4) (av ((((af g.1):Nat):Int)==(0:Int)) (some (!(s==(0:Int)))) (some (!false))) (some false)) (some false))=some false:=by
  rcases P with rfl |P |⟨a,rfl⟩
  ·rfl
  ·rw[decide_eq_true P]
   cases(s !=(-(1:Int)))<;>rfl
  ·rw[show((((af g.1):Nat):Int)==(0:Int))=true by rw[a];rfl]
   cases(decide (nR g 0))<;>rfl
 rw[Y];simp only[aa,bU];rw[fX (m:=v.1.length) rfl (by omega) (by omega)];simp only[aa];have J:0<(ao v.1.length false).length:=by simp;omega
 have F:=dO J;rw[show((0:Nat):Int)=0 from rfl]at F;have I:(ao v.1.length false)[0]? =some false:=by rw[ai J];simp
 rw[F];simp only[aa];rw[I];simp only[aa]
 by_cases p:s= -1
 ·rw[show(s==(-(1:Int)))=true by rw[p];rfl,ii];refine⟨_,rfl,by simp,fun i a c=> ?_,?_⟩
  ·rw[aex (by omega),gk];exact⟨fun h=>(by cases h),fun h=>absurd p h.1⟩
  ·rw[aex (by omega),if_pos rfl];exact⟨fun _=> .inr fun i a c B=>B.1 p,fun _=>rfl⟩
 rw[show(s==(-(1:Int)))=false from beq_eq_false_iff_ne.2 p,bU]
 by_cases D:g.1.length=0
 ·rw[show((((af g.1):Nat):Int)==(0:Int))=true by rw[D];rfl,ii];obtain⟨o,M,y,W⟩:=IQ (n:=n) (V:=v.1.length) (by omega) v.1.length n 0 (ao v.1.length false) (by omega) (by omega) (by simp) (fun j hj=>by omega);rw[show((0:Nat):Int)=0 from rfl]at M;rw[aU,M];refine⟨_,rfl,y,fun i a c=>⟨fun _=>⟨p,.inl D⟩,fun _=>W i c⟩,fun _=> .inl ⟨p,.inl D⟩,fun _=>W 0 (by omega)⟩
 rw[show((((af g.1):Nat):Int)==(0:Int))=false by rw[beq_eq_false_iff_ne];omega,bU];have w:nR g s:=by
  rcases P with a |a |a
  ·exact absurd a p
  ·exact a
  ·exact absurd a.1 D
 obtain⟨U,v1,v2⟩:=X7 (n:=n) H.e.st (by omega) (by omega) O;rw[v1];simp only[aa];obtain⟨k,rfl⟩:∃k:Nat,s=(k:Int):=⟨s.toNat,by have:=w.1;omega⟩;have hk:k<g.1.length:=by have:=w.2;omega
 rw[p6 hk false];simp only[aa];obtain⟨o,so,M,y⟩:=xO (n:=n) (a0:=g.1.getD k false) w v2 H.e.st (by omega) (by omega) K O (v.1.length -1) n 1 ((ao v.1.length false).set 0 (g.1.getD k false)) (g.1.getD k false) (by omega) (by omega) (by omega)
  ⟨by simp,by rw[aex (by omega),if_pos rfl],fun j a c=>by omega,⟨fun h=> .inl h,fun h=>by
   rcases h with h |⟨j,a,c,B⟩
   ·exact h
   ·omega⟩⟩
 rw[show((1:Nat):Int)=1 from rfl]at M;rw[M];simp only[aa];have d:0<o.length:=by rw[y.len];omega
 have u:=dO d;rw[show((0:Nat):Int)=0 from rfl]at u;have hz:=y.z;rw[u];simp only[aa];rw[ai d];simp only[aa];have R:o.getD 0 false=o[0]:=aV d false;have S:apT g (k:Int)↔g.1.getD k false=true:=by
  unfold apT;rw[ax];exact⟨fun h=>h.2.resolve_left D,fun h=>⟨p,.inr h⟩⟩
 have E:∀b:Bool,(b=true↔(g.1.getD k false=true∨∀i,0<i→i<v.1.length→¬ aew g v k i))→Wx g v k (o.set 0 b):=by
  intro b N;refine⟨by simpa using y.len,fun i a c=> ?_,?_⟩
  ·rw[gS d,gk];exact y.t i a c
  ·rw[gS d,if_pos rfl,S];exact N
 rw[←R,hz]
 cases N:g.1.getD k false with
 |true=>
  refine⟨_,rfl,E true ⟨fun _=> .inl N,fun _=>rfl⟩⟩
 |false=>
  refine⟨_,rfl,E (!so) ?_⟩;rw[aZ,←ew,y.s,N];constructor
  ·intro a;exact .inr fun i c B Q=>a (.inr ⟨i,c,B,Q⟩)
  ·rintro(a |a)
   ·cases a
   ·rintro(c |⟨j,c,B,Q⟩)
    ·cases c
    ·exact a j c B Q
def LI(g:Gd)(v:D7)(s:Int)(i:Nat):Prop:=if i=0 then apT g s else aew g v s i
theorem aa4{n:Nat}{g:Gd}{v:D7}{s:Int}{l:List Bool}(U:StM g s)(d:zl g l)(S:aaK g)(hv:v.1.length≤1000)(Y:∀x∈v.1,x.length≤64)(X:Hn0 n):∀(m k i:Nat) (H:List (Option (List Bool))) (x:Option (Nat×Nat×Nat)) (y:Bool) (out:List Bool),i+m=v.1.length→m<k→rX H x=some out→out.length=i→
  (∀j,j<i→(out.getD j false=true↔LI g v s j))→(y=true↔∃j,j<i∧LI g v s j)→
  ∃r z o a,nI n k (s,(),(),decide ((g.1.length:Int)>0),l,x,y,(i:Int),H,g,v,())=some (z,o,r,())∧rX r z=some a∧a.length=v.1.length∧(∀j,j<v.1.length→(a.getD j false=true↔LI g v s j))∧(o=true↔∃j,j<v.1.length∧LI g v s j)
 |0,k,i,H,x,y,out,h1,h2,N,O,P,Q=>by
  obtain⟨k,rfl⟩:=gU k;rw[A6,bN0];have:i=v.1.length:=by omega
  subst this;exact⟨H,x,y,out,rfl,N,O,P,Q⟩
 |m+1,k,i,H,x,y,out,h1,h2,N,O,P,Q=>by
  obtain⟨k,rfl⟩:=gU k;have hi:i<v.1.length:=by omega
  have htx:=Mm Y i;rw[A6,bP0];simp only[fw,aa];have step:∀b:Bool,(b=true↔LI g v s i)→∃r z o a,(((gsA (1:Nat) H x [b])).bind fun E=>(av y (some true) (some b)).bind fun V=>
   nI n k (s,((),((),((decide ((g.1.length:Int)>0)),(l,(E.2,(V,((ae bz ((i:Int)+(1:Int))),(E.1,(g,(v,()))))))))))))=some (z,o,r,())∧rX r z=some a∧a.length=v.1.length∧(∀j,j<v.1.length→(a.getD j false=true↔LI g v s j))∧(o=true↔∃j,j<v.1.length∧LI g v s j):=by
   intro b W;obtain⟨r,z,Z,a2⟩:=Mr (b:=1) (m:=[b]) N (by simp;omega) (by omega);rw[Z,eC];simp only[aa];rw[aN,show(i:Int)+1=((i+1:Nat):Int)by omega];refine aa4 U d S hv Y X m k (i+1) r z (y||b) (out++[b]) (by omega) (by omega) a2 (by simp;omega) (fun j hj=> ?_) ?_
   ·by_cases u:j=i
    ·subst u;have:(out++[b]).getD j false=b:=by rw[←O];simp
     rw[this];exact W
    ·have:(out++[b]).getD j false=out.getD j false:=by
      rw[aB,aB,aP (by omega)]
     rw[this];exact P j (by omega)
   ·rw[aD,Q,W];constructor
    ·rintro(⟨j,R,I⟩|R)
     ·exact⟨j,by omega,I⟩
     ·exact⟨i,by omega,R⟩
    ·rintro⟨j,R,I⟩
     by_cases u:j=i
     ·subst u;exact .inr I
     ·exact .inl ⟨j,by omega,I⟩
  by_cases F:s= -1
  ·subst F;have M:∀q:Bool,(q&&(decide ((-1:Int)≥0)&&((i:Int)==0)))=false:=fun q=>by cases q<;>rfl
   have e2:∀q:Bool,(q&&(decide ((-1:Int)≥0)&&decide ((i:Int)>0)))=false:=fun q=>by cases q<;>rfl
   have e3:∀q:Bool,(q&&((-1:Int)==0))=false:=fun q=>by cases q<;>rfl
   rw[M,e2,e3];simp only[bU,aa];exact step false ⟨fun h=>(by cases h),fun h=>by
    unfold LI at h
    split at h
    ·exact absurd rfl h.1
    ·exact absurd rfl h.1⟩
  by_cases p:g.1.length=0
  ·have c3:s=0:=by
    rcases U with h |h |h
    ·exact absurd h F
    ·have:=h.1;have:=h.2;omega
    ·exact h.2
   subst c3;have L:decide ((g.1.length:Int)>0)=false:=by rw[p];rfl
   rw[L]at step ⊢;simp only[Bool.not_false,Bool.true_and,Bool.false_and,bU,aa];exact step true ⟨fun _=>by
    unfold LI
    split
    ·exact⟨by omega,.inl p⟩
    ·exact⟨by omega,.inl p⟩,fun _=>rfl⟩
  have w:nR g s:=by
   rcases U with h |h |h
   ·exact absurd h F
   ·exact h
   ·exact absurd h.1 p
  have L:decide ((g.1.length:Int)>0)=true:=by rw[bx];omega
  have M:decide (s≥0)=true:=by rw[bx];exact w.1
  rw[L]at step ⊢;rw[M];simp only[aY,Bool.true_and,Bool.false_and]
  by_cases K:i=0
  ·subst K;rw[show(((0:Nat):Int)==0)=true from rfl,show decide (((0:Nat):Int)>0)=false from rfl,ii];obtain⟨J,B⟩:∃J:Nat,s=(J:Int):=⟨s.toNat,by have:=w.1;omega⟩;have T:J<g.1.length:=by have:=w.2;omega
   rw[show idx g.1 s=some (g.1.getD J false)by rw[B];exact p6 T false];simp only[aa,bU];refine step _ ?_;unfold LI apT;rw[if_pos rfl,B,ax];exact⟨fun h=>⟨by omega,.inr h⟩,fun h=>h.2.resolve_left p⟩
  ·rw[show((i:Int)==0)=false by rw[beq_eq_false_iff_ne];omega,show decide ((i:Int)>0)=true by rw[bx];omega];simp only[bU,ii,aa];rw[Wq hi];simp only[aa];rw[aet S (by omega) X];simp only[aa];have hw:=aev (t:=zw v i) (s:=s) S.e.st;rw[ag]
   by_cases c:0≤De g s (zw v i)
   ·have D:nR g (De g s (zw v i)):=by
     rcases hw with h |h |h
     ·omega
     ·exact h
     ·exact absurd h.1 p
    obtain⟨b,b1,b2⟩:=aoR d D;rw[if_pos (by rw[bx];omega),b1];simp only[aa];refine step b ?_;unfold LI aew;rw[if_neg K,b2];exact⟨fun h=>⟨F,.inr ⟨c,h⟩⟩,fun h=>(h.2.resolve_left p).2⟩
   ·rw[if_neg (by rw[bx];omega)];simp only[aa];refine step false ?_;unfold LI aew;rw[if_neg K];exact⟨fun h=>(by cases h),fun h=>absurd (h.2.resolve_left p).1 c⟩
theorem aey{α:Type}{H:List (Option (List α))}{x:Option (Nat×Nat×Nat)}{l:List α}(h:rX H x=some l):∃b,gsF H x=some (l,b):=by
 match x with
 |none=>cases h;exact⟨_,rfl⟩
 |some (o,a,c)=>
  unfold gsF;simp only[h];exact⟨_,rfl⟩
theorem anX{n:Nat}{g:Gd}{v:D7}{s:Int}(t:aaK g)(z:Lv v)(d:StM g s)(D:Hn0 n):∃m,tm n (g,v,s)=some (m,0)∧Wx g v s m:=by
 have y:=z.tl;have hvl:=z.l;have hv2:=z.l2;have hvm:=z.m;have hgl:=t.l;have L:=t.l2;obtain⟨r,e,h⟩:=Lw (n:=n) (v:=v) (by omega) (by omega) (fun x hx=>by have:=y x hx;omega) D;obtain⟨q,X,Z⟩:=LG (n:=n) (g:=g) (by omega) D;rw[aao,e];simp only[aa];rw[show(r.2 !=0)=false by simp[h.2 z],bU,X];simp only[aa];rw[show(q.2 !=0)=false by simp[Z.zero.2 t],bU,xn];have Y:(av (s !=(-(1:Int))) (av (decide ((((af g.1):Nat):Int)>(0:Int)))
      ((some (decide (nR g s))).bind fun v6=>av (!v6) (some true) (av (!(decide ((((af g.1):Nat):Int)>(0:Int)))) (some (s !=(0:Int))) (some false)))
      (av (!(decide ((((af g.1):Nat):Int)>(0:Int)))) (some (s !=(0:Int))) (some false))) (some false))=some false:=by
  rcases d with rfl |d |⟨k,rfl⟩
  ·rfl
  ·have:decide ((((af g.1):Nat):Int)>(0:Int))=true:=by rw[bx];have:=d.1;have:=d.2;omega
   rw[decide_eq_true d,this]
   cases(s !=(-(1:Int)))<;>rfl
  ·rw[show decide ((((af g.1):Nat):Int)>(0:Int))=false by rw[k];rfl];rfl
 rw[Y];simp only[aa,bU];obtain⟨N,v1,v2⟩:=X8 (n:=n) t.e.st (by omega) (by omega) D;rw[v1];simp only[aa];obtain⟨H,x,so,c,O,P,Q,K,R⟩:=aa4 (n:=n) d v2 t (by omega) y D v.1.length n 0 (eE [] []) (some (0,0,0)) false [] (by omega) (by omega) TG rfl (fun j u=>by omega) ⟨fun h=>(by cases h),fun h=>by obtain⟨j,u,-⟩:=h;omega⟩;rw[show((0:Nat):Int)=0 from rfl]at O;rw[O];simp only[aa];have M:LI g v s 0↔apT g s:=by unfold LI;rw[if_pos rfl]
 have E:∀i,0<i→(LI g v s i↔aew g v s i):=fun i hi=>by unfold LI;rw[gk]
 have a:0<c.length:=by omega
 cases so with
 |true=>
  simp only[aY,bU,aa];obtain⟨V,k⟩:=aey P;rw[k];refine⟨c,rfl,Q,fun i F I=>(K i I).trans (E i F),?_⟩;rw[K 0 (by omega),M];constructor
  ·exact .inl
  ·rintro(o |o)
   ·exact o
   ·obtain⟨j,J,B⟩:=R.1 rfl
    by_cases u:j=0
    ·subst u;exact M.1 B
    ·exact absurd ((E j (by omega)).1 B) (o j (by omega) J)
 |false=>
  simp only[Bool.not_false,ii];obtain⟨p,w,S,T,q3,q4,q5⟩:=ahr P a;obtain⟨V,u1,U⟩:=q5 true;rw[S];simp only[aa];rw[show((0:Nat):Int)=0 from rfl]at T;rw[T];simp only[aa];rw[q3];simp only[aa];rw[q4];simp only[aa];rw[u1];simp only[aa];rw[S]at U;obtain⟨W,k⟩:=aey U;rw[k];have b:∀j,j<v.1.length→¬ LI g v s j:=fun j u h=>by have:=R.2 ⟨j,u,h⟩;cases this
  refine⟨c.set 0 true,rfl,by simpa using Q,fun i F I=> ?_,?_⟩
  ·rw[gS a,gk];exact(K i I).trans (E i F)
  ·rw[gS a,if_pos rfl];exact⟨fun _=> .inr fun i o J B=>b i J ((E i o).2 B),fun _=>rfl⟩
end Go.Am.Pu
