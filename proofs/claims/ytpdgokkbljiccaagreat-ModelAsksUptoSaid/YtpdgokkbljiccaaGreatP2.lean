import Derived.Test.YtpdgokkbljiccaaGreatP1
set_option linter.unusedVariables false
set_option linter.unusedSimpArgs false
open Int renaming toNat_natCast→aH
open Go.IntKind renaming bits→cj,wrap→ae
open List renaming getD_eq_getElem?_getD→bd,getElem?_eq_none→bv,getElem_mem→ap,length_append→aE,length_cons→ca,length_drop→cy,length_nil→cH,length_take→aR,length→ac
open Nat renaming le_mul_of_pos_right→bM,le_refl→av,mul_le_mul_right→aW
open Option renaming bind_some→aa
namespace Go.Am.Pu
open Go Go.Am
theorem Yk{x d:Int}(a: -9223372036854775808≤x)(b:x≤9223372036854775807)(c:1≤d): -9223372036854775808≤nY x d∧nY x d≤9223372036854775807:=by
 have h:=gE (x:=x) c;have g:=Sy a b c;unfold nY
 split
 ·exact g (by omega)
 ·omega
theorem Ol{x s:Int}(a: -9223372036854775808≤x)(b:x≤9223372036854775807): -9223372036854775808≤(bJ x s).1∧(bJ x s).1≤9223372036854775807:=by
 unfold bJ
 split
 ·exact⟨by decide,by decide⟩
 ·exact Yk a b (nA (by omega)).1
theorem Em{l:List Int}{s:Int}(b:eJ l):eJ (fG l s).1:=by
 unfold fG
 split
 ·exact fun x a=>(by cases a)
 ·split
  ·exact fun x a=>(by cases a)
  ·intro x a;obtain⟨y,c,rfl⟩:=List.mem_map.1 a;exact Ol (b y c).1 (b y c).2
def lS(l:List Int):Prop:=∀x∈l,-127≤x∧x≤127
theorem lS.aO{l:List Int}(h:lS l):aO l:=fun x a=>by have:=h x a;omega
theorem UI{l:List Int}{s:Int}:lS (rk l s).1:=by
 intro x a;obtain⟨y,_,rfl⟩:=List.mem_map.1 a;exact kl y
theorem UJ{l:List Int}{s:Int}:(rk l s).1.length≤1048576:=by
 have:=(Ej (l:=l) (s:=s)).1;simpa[rk]using this
theorem Wq{w x:List Int}{c:Nat}(b:aO w)(d:aO x)(k:w.length≤1048576):eJ (I7 w c x):=by
 intro y g;obtain⟨j,i,rfl⟩:=fR g;have h:=Uz (b.sub (j*c) c) d;have a:(dh w c j).length≤w.length:=by simp[dh];omega
 unfold dh at a;show -9223372036854775808≤qc ((w.drop (j*c)).take c) x∧qc ((w.drop (j*c)).take c) x≤9223372036854775807;omega
theorem gF{w x:List Int}{dI:Int}(b:aO w)(a:aO x):eJ (gN w dI x).1:=by
 unfold gN
 split
 ·exact fun x a=>(by cases a)
 ·rename_i h
  split
  ·exact fun x a=>(by cases a)
  ·exact Wq b a (I6 (w:=w) (dI:=dI) (by omega)).1
def cz(w h:List Int)(s:Int):List Int×Int:=if(gN w (h.length:Int) h).2≠0 then([],(gN w (h.length:Int) h).2)else rk (gN w (h.length:Int) h).1 s
theorem fS{w h:List Int}{s:Int}:lS (cz w h s).1:=by
 unfold cz
 split
 ·exact fun x a=>(by cases a)
 ·exact UI
theorem rl{w h:List Int}{s:Int}:(cz w h s).1.length≤1048576:=by
 unfold cz
 split
 ·simp
 ·exact UJ
theorem JY{n:Nat}{w h:List Int}{s:Int}(b:aO w)(hh:aO h)(c:h.length≤1000000000)(a:ii n):kW n (w,h,s)=some (cz w h s):=by
 rw[Iz,wJ b hh c a];unfold cz;simp only[aa,ag,bne_iff_ne]
 split
 ·rfl
 ·rw[Oc (gF b hh) a];rfl
theorem GS{n:Nat}{w h:List Int}{s:Int}(b:aO w)(hh:aO h)(a:ii n):kf n (w,h,s)=some (cz w h s):=by
 rw[Gv,pI b hh a];unfold cz;simp only[aa,ag,bne_iff_ne]
 split
 ·rfl
 ·rw[GN (gF b hh) a];rfl
def sM(dR gate up:List Int)(i:Nat):Int:=dw (bJ (dR.getD ((gate.getD i 0) % 256).toNat 0*up.getD i 0) 6).1
def Bq(dR gate up:List Int):List Int×Int:=
 if dR.length≠256 then([],120)else if gate.length>1048576∨up.length>1048576 then([],81)else if gate.length≠up.length then([],80)else(cM (sM dR gate up) gate.length,0)
theorem QY{dR gate up:List Int}{K:Option (List Int×Int)}(g:dR.length=256→gate.length≤1048576→gate.length=up.length→K=some (cM (sM dR gate up) gate.length,0)):
  (aw ((((ac dR):Nat):Int)!=(256:Int))
   (some ([],(120:Int)))
   (aw (decide ((((ac gate):Nat):Int)>(1048576:Int)))
    (some ([],(81:Int)))
    (aw (decide ((((ac up):Nat):Int)>(1048576:Int)))
     (some ([],(81:Int)))
     (aw ((((ac gate):Nat):Int)!=(((ac up):Nat):Int))
      (some ([],(80:Int))) K))))=some (Bq dR gate up):=by
 unfold Bq;simp only[ag,dU,bne_iff_ne,ne_eq]
 by_cases a:dR.length=256
 ·rw[fu,if_neg (show ¬ ¬ dR.length=256 by omega)]
  by_cases c:gate.length>1048576
  ·rw[jO,if_pos (.inl c)]
  ·rw[fu]
   by_cases d:up.length>1048576
   ·rw[jO,if_pos (.inr d)]
   ·rw[fu,if_neg (show ¬ (gate.length>1048576∨up.length>1048576)by omega)]
    by_cases b:gate.length=up.length
    ·rw[fu,if_neg (show ¬ ¬ gate.length=up.length by omega)];exact g a (by omega) b
    ·rw[jO,if_pos b]
 ·rw[jO,if_pos a]
theorem aan{n:Nat}{dR gate up:List Int}(g:aO dR)(h:aO gate)(p:aO up)(z:ii n):xl n (dR,gate,up)=some (Bq dR gate up):=by
 rw[Ps];refine QY fun u w y=> ?_;have j:ED 1 (gate.length:Int)=some gate.length:=by
  unfold ED room;rw[if_pos ⟨by omega,by omega,by omega⟩];simp
 rw[j];simp only[aa];have b:=aQ (L:=fun k i o=>ky n k (dR,up,(),gate,(gate.length:Int),i,o,())) (len:=gate.length) (r:=((),cM (sM dR gate up) gate.length,())) (fun i=>fill (sM dR gate up) 0 gate.length i) ?_ ?_ n (by omega)
 ·rw[om]at b;rw[b];rfl
 ·intro k i a;show ky n (k+1) _=_;rw[yY];simp only[ag,dU];have t:=h.at i;have c:=p.at i;have d:=g.at ((gate.getD i 0) % 256).toNat;have B:=I5 d c;rw[jO,aS a 0];simp only[aa];have q:ae .u8 (gate.getD i 0)=(((gate.getD i 0) % 256).toNat:Int):=by
   have:ae .u8 (gate.getD i 0)=(gate.getD i 0) % 256:=by simp[ae,cj,IntKind.signed]
   rw[this];omega
  rw[q,aS (l:=dR) (by omega) 0];simp only[aa];rw[aS (show i<up.length by omega) 0];simp only[aa];rw[bu (x:=dR.getD ((gate.getD i 0) % 256).toNat 0),bu (x:=up.getD i 0),bu (x:=dR.getD ((gate.getD i 0) % 256).toNat 0*up.getD i 0),La,i5 (by omega) (by omega)];simp only[aa];rw[nB];simp only[aa];rw[x2 _ _ a];simp only[aa];rw[sL _ _ a,bu];simp only[aa];rw[show dw (bJ (dR.getD ((gate.getD i 0) % 256).toNat 0*up.getD i 0) 6).1=sM dR gate up i from rfl,sK _ _ a]
 ·intro k;show ky n (k+1) _=_;rw[yY,ag,if_neg (by simp),wI]
theorem Wr{n:Nat}{dR gate up:List Int}(g:aO dR)(h:aO gate)(p:aO up)(y:ii n):rh n (dR,gate,up)=some (Bq dR gate up):=by
 rw[Lt];refine QY fun t u w=> ?_;have a:=aQ (L:=fun k i o=>iQ n k (dR,up,o,gate,(gate.length:Int),i,())) (len:=gate.length) (r:=(cM (sM dR gate up) gate.length,())) (fun i=>cM (sM dR gate up) i) ?_ ?_ n (by omega)
 ·rw[dD]at a;rw[a];rfl
 ·intro k i j;show iQ n (k+1) _=_;rw[uu];simp only[ag,dU];have q:=h.at i;have b:=p.at i;have c:=g.at ((gate.getD i 0) % 256).toNat;have z:=I5 c b;rw[jO,aS j 0];simp only[aa];rw[bu (x:=gate.getD i 0)];have d:(if gate.getD i 0<0 then some (dR,up,cM (sM dR gate up) i,(i:Int),ae .i64 (gate.getD i 0+256),gate,(gate.length:Int),(i:Int),())else some (dR,up,cM (sM dR gate up) i,(i:Int),gate.getD i 0,gate,(gate.length:Int),(i:Int),()))=
    some (dR,up,cM (sM dR gate up) i,(i:Int),(((gate.getD i 0) % 256).toNat:Int),gate,(gate.length:Int),(i:Int),()):=by
   split
   ·rw[bu,show gate.getD i 0+256=(((gate.getD i 0) % 256).toNat:Int)by omega]
   ·rw[show((((gate.getD i 0) % 256).toNat:Nat):Int)=gate.getD i 0 by omega]
  rw[d];simp only[aa];rw[aS (l:=dR) (by omega) 0];simp only[aa];rw[aS (show i<up.length by omega) 0];simp only[aa];rw[bu (x:=dR.getD ((gate.getD i 0) % 256).toNat 0),bu (x:=up.getD i 0),bu (x:=dR.getD ((gate.getD i 0) % 256).toNat 0*up.getD i 0),kj (by omega) (by omega) (by omega)];simp only[aa];rw[nC];simp only[aa];rw[show dw (bJ (dR.getD ((gate.getD i 0) % 256).toNat 0*up.getD i 0) 6).1=sM dR gate up i from rfl,dQ _ (by unfold room;omega) (by unfold room;omega),bu];rfl
 ·intro k;show iQ n (k+1) _=_;rw[uu,ag,if_neg (by simp)]
theorem rv{dR gate up:List Int}:lS (Bq dR gate up).1:=by
 unfold Bq
 split
 ·exact fun x a=>(by cases a)
 ·split
  ·exact fun x a=>(by cases a)
  ·split
   ·exact fun x a=>(by cases a)
   ·intro x a;obtain⟨i,_,rfl⟩:=fR a;exact kl _
theorem Yl{dR gate up:List Int}:(Bq dR gate up).1.length≤1048576:=by
 unfold Bq
 split
 ·simp
 ·split
  ·simp
  ·split
   ·simp
   ·rename_i h _;simp;omega
abbrev Mid:=List Int×List Int×List Int×Int×Int×Int
def jp(b:Mid)(dR h:List Int):List Int×Int:=
 let g:=cz b.1 h b.2.2.2.1
 if g.2≠0 then([],g.2)else
 let u:=cz b.2.1 h b.2.2.2.2.1
 if u.2≠0 then([],u.2)else
 let m:=Bq dR g.1 u.1
 if m.2≠0 then([],m.2)else
 let d:=gN b.2.2.1 (m.1.length:Int) m.1
 if d.2≠0 then([],d.2)else fG d.1 b.2.2.2.2.2
theorem Ws{n:Nat}{b:Mid}{dR h:List Int}(g:aO b.1)(i:aO b.2.1)(c:aO b.2.2.1)(j:aO dR)(hh:aO h)(d:h.length≤1000000000)(a:ii n):qW n (b,dR,h)=some (jp b dR h):=by
 rw[Lb,JY g hh d a];unfold jp;simp only[aa,ag,bne_iff_ne]
 split
 ·rfl
 ·rw[JY i hh d a];simp only[aa]
  split
  ·rfl
  ·rw[aan j fS.aO fS.aO a];simp only[aa]
   split
   ·rfl
   ·have:=Yl (dR:=dR) (gate:=(cz b.1 h b.2.2.2.1).1) (up:=(cz b.2.1 h b.2.2.2.2.1).1);rw[wJ c rv.aO (by omega) a];simp only[aa]
    split
    ·rfl
    ·rw[BR (gF c rv.aO) a];rfl
theorem Ym{n:Nat}{b:Mid}{dR h:List Int}(d:aO b.1)(g:aO b.2.1)(c:aO b.2.2.1)(i:aO dR)(hh:aO h)(a:ii n):tR n (b,dR,h)=some (jp b dR h):=by
 rw[NW,GS d hh a];unfold jp;simp only[aa,ag,bne_iff_ne]
 split
 ·rfl
 ·rw[GS g hh a];simp only[aa]
  split
  ·rfl
  ·rw[Wr i fS.aO fS.aO a];simp only[aa]
   split
   ·rfl
   ·rw[pI c rv.aO a];simp only[aa]
    split
    ·rfl
    ·rw[uA (gF c rv.aO) a];rfl
theorem JZ{b:Mid}{dR h:List Int}(c:aO b.2.2.1):eJ (jp b dR h).1:=by
 unfold jp;simp only
 split
 ·exact fun x a=>(by cases a)
 ·split
  ·exact fun x a=>(by cases a)
  ·split
   ·exact fun x a=>(by cases a)
   ·split
    ·exact fun x a=>(by cases a)
    ·exact Em (gF c rv.aO)
theorem Wt{n:Nat}(l:10≤n){a b:List Int}(h:x5 a b=0):iH n [a,b]=some 0:=by
 obtain⟨g,i,j⟩:=QR h;obtain⟨k,rfl⟩:∃k,n=k+4:=⟨n -4,by omega⟩;have c:idx [a,b] (0:Int)=some a:=rfl;have d:idx [a,b] (1:Int)=some b:=rfl;have d1:ae .i64 ((0:Int)+1)=1:=bu (by decide) (by decide);have d2:ae .i64 ((1:Int)+1)=2:=bu (by decide) (by decide);rw[ud,fK];simp only[ag,ca,cH];rw[if_pos (by simp),c];simp only[aa,dU];rw[fu,d1,fK];simp only[ag];rw[if_pos (by simp),d];simp only[aa,dU];rw[fu,d2,fK,ag,if_neg (by simp)];simp only[aa,ea];rw[fL];simp only[ag,ca,cH];rw[if_pos (by simp),c];simp only[aa];rw[if_neg (by simp),d1,fL];simp only[ag];rw[if_pos (by simp),d,c];simp only[aa,bne_iff_ne,ne_eq];rw[fu,d2,fL,ag,if_neg (by simp)];rfl
theorem ab3{n:Nat}{a b:List Int}(d:aO a)(g:aO b)(i:a.length=b.length)(c:a.length≤1048576)(h:ii n):BP n (a,b)=some (qc a b,0):=by
 rw[RY,Wt (by omega) (by unfold x5;rw[fu,fu])];simp only[aa,ag];rw[if_neg (by simp),Xi d g (by omega) (by omega) h];rfl
def Fits(q:List Int)(a:List (List Int)):Prop:=(1≤a.length∧a.length≤512)∧(1≤q.length∧q.length≤64)∧∀i,i<a.length→(a.getD i []).length=q.length
open Classical in
noncomputable def QZ(q:List Int)(a:List (List Int)):Bool:=decide (Fits q a)
open Classical in
theorem oT{q:List Int}{a:List (List Int)}(h:Fits q a):QZ q a=true:=by unfold QZ;exact decide_eq_true h
open Classical in
theorem jS{q:List Int}{a:List (List Int)}(h:¬ Fits q a):QZ q a=false:=by unfold QZ;exact decide_eq_false h
theorem x7{n:Nat}{q:List Int}{a:List (List Int)}(D:ii n):jb n (q,a)=some (QZ q a):=by
 rw[K6];simp only[ag,dU,beq_iff_eq]
 by_cases u:(a.length:Int)=0
 ·rw[if_pos u,jS (fun h=>by have:=h.1.1;omega)]
 rw[if_neg u]
 by_cases w:(a.length:Int)>512
 ·rw[if_pos w,jS (fun h=>by have:=h.1.2;omega)]
 rw[if_neg w]
 by_cases x:(q.length:Int)=0
 ·rw[if_pos x,jS (fun h=>by have:=h.2.1.1;omega)]
 rw[if_neg x]
 by_cases y:(q.length:Int)>64
 ·rw[if_pos y,jS (fun h=>by have:=h.2.1.2;omega)]
 rw[if_neg y];have step:∀k i:Nat,i<a.length→fk n (k+1) (q,a,(a.length:Int),(i:Int),())=if(a.getD i []).length≠q.length then some (Sum.inl (false,()))else fk n k (q,a,(a.length:Int),(i:Int)+1,()):=by
  intro k i d;rw[ug];simp only[ag,dU,bne_iff_ne,ne_eq];rw[jO,aS d []];simp only[aa]
  by_cases h:(a.getD i []).length=q.length
  ·rw[fu,fu,bu]
  ·rw[jO,if_pos h]
 by_cases b:∃i,i<a.length∧(a.getD i []).length≠q.length
 ·obtain⟨z,o,c⟩:=b;obtain⟨i,d,t,B⟩:=least (p:=fun i=>(a.getD i []).length≠q.length) z c;have l:=aQ (L:=fun k i (_:Unit)=>fk n k (q,a,(a.length:Int),i,())) (len:=i) (r:=Sum.inl (false,())) (fun _=>())
   (fun k j g=>by rw[step k j (by omega),if_neg (t j g)]) (fun k=>by rw[step k i (by omega),if_pos d]) n (by omega)
  rw[l,jS (fun h=>c (h.2.2 z o))];rfl
 ·have l:=aQ (L:=fun k i (_:Unit)=>fk n k (q,a,(a.length:Int),i,())) (len:=a.length) (r:=Sum.inr ()) (fun _=>())
   (fun k j g=>by rw[step k j g,if_neg (fun h=>b ⟨j,g,h⟩)]) (fun k=>by
    show fk n (k+1) _=_;rw[ug,ag,if_neg (by simp)]) n (by omega)
  rw[l,oT ⟨by omega,by omega,fun i d=>by
   by_cases h:(a.getD i []).length=q.length
   ·exact h
   ·exact absurd ⟨i,d,h⟩ b⟩]
  rfl
theorem uE{n:Nat}{q:List Int}{a:List (List Int)}(D:ii n):ip n (q,a)=some (!QZ q a):=by
 rw[IV];simp only[ag,dU]
 by_cases u:(a.length:Int)<1
 ·rw[if_pos u,jS (fun h=>by have:=h.1.1;omega)];rfl
 rw[if_neg u]
 by_cases w:(a.length:Int)>512
 ·rw[if_pos w,jS (fun h=>by have:=h.1.2;omega)];rfl
 rw[if_neg w]
 by_cases x:(q.length:Int)<1
 ·rw[if_pos x,jS (fun h=>by have:=h.2.1.1;omega)];rfl
 rw[if_neg x]
 by_cases y:(q.length:Int)>64
 ·rw[if_pos y,jS (fun h=>by have:=h.2.1.2;omega)];rfl
 rw[if_neg y];have step:∀k i:Nat,i<a.length→eE n (k+1) (q,a,(i:Int),())=if(a.getD i []).length≠q.length then some (Sum.inl (true,()))else eE n k (q,a,(i:Int)+1,()):=by
  intro k i d;rw[sw];simp only[ag,dU,bne_iff_ne,ne_eq];rw[jO,aS d []];simp only[aa]
  by_cases h:(a.getD i []).length=q.length
  ·rw[fu,fu,bu]
  ·rw[jO,if_pos h]
 by_cases b:∃i,i<a.length∧(a.getD i []).length≠q.length
 ·obtain⟨z,o,c⟩:=b;obtain⟨i,d,t,B⟩:=least (p:=fun i=>(a.getD i []).length≠q.length) z c;have l:=aQ (L:=fun k i (_:Unit)=>eE n k (q,a,i,())) (len:=i) (r:=Sum.inl (true,())) (fun _=>())
   (fun k j g=>by rw[step k j (by omega),if_neg (t j g)]) (fun k=>by rw[step k i (by omega),if_pos d]) n (by omega)
  rw[l,jS (fun h=>c (h.2.2 z o))];rfl
 ·have l:=aQ (L:=fun k i (_:Unit)=>eE n k (q,a,i,())) (len:=a.length) (r:=Sum.inr ()) (fun _=>())
   (fun k j g=>by rw[step k j g,if_neg (fun h=>b ⟨j,g,h⟩)]) (fun k=>by
    show eE n (k+1) _=_;rw[sw,ag,if_neg (by simp)]) n (by omega)
  rw[l,oT ⟨by omega,by omega,fun i d=>by
   by_cases h:(a.getD i []).length=q.length
   ·exact h
   ·exact absurd ⟨i,d,h⟩ b⟩]
  rfl
def pJ(a:List (List Int)):Prop:=∀r∈a,aO r
theorem pJ.at{rows:List (List Int)}(h:pJ rows)(i:Nat):aO (rows.getD i []):=by
 by_cases a:i<rows.length
 ·rw[dy a];exact h _ (ap a)
 ·rw[bd,bv (by omega)];exact fun x j=>(by cases j)
def kC(q:List Int)(a:List (List Int))(s:Int):List Int:=cM (fun i=>(bJ (qc q (a.getD i [])) s).1) a.length
theorem I8{q:List Int}{a:List (List Int)}(d:aO q)(c:pJ a)(b:Fits q a)(i:Nat): -9223372036854775808≤qc q (a.getD i [])∧qc q (a.getD i [])≤9223372036854775807:=by
 have g:=Uz d (c.at i);have h:=b.2.1.2;omega
theorem J0{q:List Int}{a:List (List Int)}{s:Int}(d:aO q)(c:pJ a)(b:Fits q a):eJ (kC q a s):=by
 intro x g;obtain⟨i,_,rfl⟩:=fR g;have:=I8 d c b i;exact Ol this.1 this.2
theorem PZ{n:Nat}{q:List Int}{a:List (List Int)}{s:Int}(l:aO q)(h:pJ a)(c:Fits q a)(u:0≤s)(p:s≤31)(j:ii n):lD n (q,a,s)=some (kC q a s,0):=by
 rw[D6,x7 j,oT c];have g1:=c.1;have t:=c.2.1;simp only[aa,ag,dU];rw[if_neg (by simp),fu,fu];have d:=aQ (L:=fun k i o=>fA n k (q,s,o,a,(a.length:Int),i,())) (len:=a.length) (r:=(kC q a s,())) (fun i=>cM (fun i=>(bJ (qc q (a.getD i [])) s).1) i) ?_ ?_ n (by omega)
 ·rw[dD]at d;rw[d];rfl
 ·intro k i g;show fA n (k+1) _=_;rw[pC];simp only[ag,dU];have b:=I8 l h c i;rw[jO,aS g []];simp only[aa];rw[ab3 l (h.at i) (c.2.2 i g).symm (by omega) j];simp only[aa];rw[i5 b.1 b.2];simp only[aa];rw[dQ (fun i=>(bJ (qc q (a.getD i [])) s).1) (by unfold room;omega) (by unfold room;omega),bu];rfl
 ·intro k;show fA n (k+1) _=_;rw[pC,ag,if_neg (by simp)];rfl
theorem SG{n:Nat}{q:List Int}{a:List (List Int)}{s:Int}(l:aO q)(h:pJ a)(c:Fits q a)(u:0≤s)(p:s≤31)(j:ii n):mL n (q,a,s)=some (kC q a s,0):=by
 rw[Gu,uE j,oT c];have g1:=c.1;have t:=c.2.1;simp only[aa,ag,dU];rw[if_neg (by simp),fu,fu];have d:=aQ (L:=fun k i o=>gq n k (q,a,s,o,i,())) (len:=a.length) (r:=(kC q a s,())) (fun i=>cM (fun i=>(bJ (qc q (a.getD i [])) s).1) i) ?_ ?_ n (by omega)
 ·rw[dD]at d;rw[d];rfl
 ·intro k i g;show gq n (k+1) _=_;rw[qD];simp only[ag,dU];have b:=I8 l h c i;rw[jO,aS g []];simp only[aa];rw[QQ l (h.at i) (c.2.2 i g).symm (by omega) j];simp only[aa];rw[kj (by omega) b.1 b.2];simp only[aa];rw[dQ (fun i=>(bJ (qc q (a.getD i [])) s).1) (by unfold room;omega) (by unfold room;omega),bu];rfl
 ·intro k;show gq n (k+1) _=_;rw[qD,ag,if_neg (by simp)];rfl
noncomputable def Om(q:List Int)(b a:List (List Int))(s:Int):List Int:=El (dE (kC q b s)) a q.length
theorem Fits.rows{q:List Int}{rows:List (List Int)}(h:Fits q rows)(a:pJ rows):Rows rows q.length:=⟨h.1,h.2.2,a.at⟩
theorem UK{n:Nat}{q:List Int}{b a:List (List Int)}{s:Int}(j:aO q)(i:pJ b)(o:pJ a)(c:Fits q b)(h:Fits q a)(r:a.length=b.length)(k:0≤s)(g:s≤31)(d:ii n):oD n (q,b,a,s)=some (Om q b a s,0):=by
 have g1:=c.1;have p:=c.2.1;have l:(kC q b s).length=b.length:=by simp[kC]
 rw[Ix,PZ j i c k g d];simp only[aa,ag,bne_iff_ne,ne_eq];rw[if_neg (by simp),fu,x7 d,oT h];simp only[aa];rw[if_neg (by simp),SE (J0 j i c) (by omega) (by omega) d];simp only[aa];rw[if_neg (by simp),Wp (vy (by omega) (by omega)) (h.rows o) (by simp[dE];omega) (by omega) d];rfl
theorem Wu{n:Nat}{q:List Int}{b a:List (List Int)}{s:Int}(j:aO q)(i:pJ b)(o:pJ a)(c:Fits q b)(h:Fits q a)(r:a.length=b.length)(k:0≤s)(g:s≤31)(d:ii n):rf n (q,b,a,s)=some (Om q b a s,0):=by
 have g1:=c.1;have p:=c.2.1;have l:(kC q b s).length=b.length:=by simp[kC]
 rw[Lr,SG j i c k g d];simp only[aa,ag,bne_iff_ne,ne_eq];rw[if_neg (by simp),fu,uE d,oT h];simp only[aa];rw[if_neg (by simp),PY (J0 j i c) (by omega) (by omega) d];simp only[aa];rw[UH (vy (by omega) (by omega)) (h.rows o) (by simp[dE];omega) (by omega) d];rfl
def sN(b:List (List Int))(a size:Nat):List (List Int):=cM (fun i=>((b.getD i []).drop a).take size) b.length
theorem SH{b:List (List Int)}(h:pJ b)(a size:Nat):pJ (sN b a size):=by
 intro r c;obtain⟨i,_,rfl⟩:=fR c;exact(h.at i).sub a size
theorem nG{l:List Int}{a b:Nat}(h:a+b≤l.length:=by omega):slc l (a:Int) ((a:Int)+(b:Int))=some ((l.drop a).take b):=by
 unfold slc;rw[if_pos ⟨by omega,by omega,by omega⟩];congr 1;rw[show((a:Int)+(b:Int)).toNat=a+b by omega,aH,List.drop_take];congr 1;omega
theorem On{n:Nat}{b:List (List Int)}{a size m:Nat}(g:b.length≤512)(h:∀i,i<b.length→(b.getD i []).length=m)(l:a+size≤m)(hm:m≤1000000)(p:ii n):jt n (b,(a:Int),(size:Int))=some (sN b a size):=by
 rw[D3];have c:=aQ (L:=fun k i o=>fy n k ((a:Int),(size:Int),o,b,(b.length:Int),i,())) (len:=b.length) (r:=(sN b a size,())) (fun i=>cM (fun i=>((b.getD i []).drop a).take size) i) ?_ ?_ n (by omega)
 ·rw[dD]at c;rw[c];rfl
 ·intro k i d;show fy n (k+1) _=_;rw[pB];simp only[ag,dU];have j:=h i d;rw[jO,aS d []];simp only[aa];rw[bu (x:=(a:Int)+(size:Int)),nG];simp only[aa];rw[dQ (fun i=>((b.getD i []).drop a).take size) (by unfold room;omega) (by unfold room;omega),bu];rfl
 ·intro k;show fy n (k+1) _=_;rw[pB,ag,if_neg (by simp)];rfl
def Cd(g:Nat→List Int):Nat→List Int
 |0=>[]
 |h+1=>Cd g h++g h
theorem Oo{g:Nat→List Int}{p:Int→Prop}(b:∀i,∀x∈g i,p x):∀h,∀x∈Cd g h,p x
 |0,x,a=>by cases a
 |h+1,x,a=>by
  rcases List.mem_append.1 a with a |a
  ·exact Oo b h x a
  ·exact b h x a
abbrev gH:=List (List Int×List Int)
def ci(aC:gH):List (List Int):=cM (fun i=>(aC.getD i ([],[])).1) aC.length
def valuesOf(aC:gH):List (List Int):=cM (fun i=>(aC.getD i ([],[])).2) aC.length
noncomputable def kN(q:List Int)(b a:List (List Int))(sz:Nat)(s:Int)(h:Nat):List Int:=Om ((q.drop (h*sz)).take sz) (sN b (h*sz) sz) (sN a (h*sz) sz) s
open Classical in
noncomputable def qI(q:List Int)(ft:Int)(aC:gH)(s:Int):List Int×Int:=
 if ft<1∨(q.length:Int) % ft≠0 then([],190)else if ¬ (Fits q (ci aC)∧Fits q (valuesOf aC))then([],191)else if s<0∨s>31 then([],20)else
  (Cd (kN q (ci aC) (valuesOf aC) (q.length/ft.toNat) s) ft.toNat,0)
theorem uF{q:List Int}{sz H h:Nat}(a:q.length=H*sz)(hh:h<H):((q.drop (h*sz)).take sz).length=sz∧h*sz+sz≤q.length:=by
 have:(h+1)*sz≤H*sz:=aW sz hh;rw[Nat.succ_mul]at this;refine⟨by simp;omega,by omega⟩
theorem GU{q:List Int}{a:List (List Int)}{sz H h:Nat}(c:Fits q a)(g:q.length=H*sz)(hh:h<H)(j:1≤sz):Fits ((q.drop (h*sz)).take sz) (sN a (h*sz) sz):=by
 have d:=uF g hh;have k:=c.2.1;refine⟨by simpa[sN]using c.1,by omega,fun i b=> ?_⟩;have b:i<a.length:=by simpa[sN]using b
 unfold sN;rw[kn _ b];have:=c.2.2 i b;rw[d.1,aR,cy];omega
theorem uG{q:List Int}{b a:List (List Int)}{sz:Nat}{s:Int}{h:Nat}:(kN q b a sz s h).length=((q.drop (h*sz)).take sz).length:=by simp[kN,Om,El]
theorem Wv{q:List Int}{b a:List (List Int)}{sz:Nat}{s:Int}{h:Nat}:aO (kN q b a sz s h):=by
 intro x c;obtain⟨i,_,rfl⟩:=fR c;exact aei _
theorem BT{g:Nat→List Int}{m H:Nat}(a:∀i,i<H→(g i).length=m):∀h,h≤H→(Cd g h).length=h*m
 |0,_=>by simp[Cd]
 |h+1,b=>by simp only[Cd,aE,BT a h (by omega),a h (by omega),Nat.succ_mul]
theorem UL{g:Nat→List Int}{m H h:Nat}(a:∀i,i<H→(g i).length=m)(hh:h<H)(b:(h+1)*m≤1000000):app 1 (Cd g h) (g h)=some (Cd g (h+1)):=by
 unfold app room;rw[Nat.succ_mul]at b;rw[BT a h (by omega),a h hh,if_pos ⟨by omega,by omega⟩];rfl
theorem UM{n:Nat}{q:List Int}{ft s:Int}{aC:gH}(S:aO q)(O:∀p∈aC,aO p.1∧aO p.2)(T:q.length≤1000000000)(R:aC.length≤1000000000)(u:ii n):oF n (q,ft,aC,s)=some (qI q ft aC s):=by
 have I:pJ (ci aC):=by
  intro r J;obtain⟨i,d,rfl⟩:=fR J;rw[dy d];exact(O _ (ap d)).1
 have K:pJ (valuesOf aC):=by
  intro r J;obtain⟨i,d,rfl⟩:=fR J;rw[dy d];exact(O _ (ap d)).2
 rw[Iy];unfold qI;simp only[ag,dU,bne_iff_ne,ne_eq]
 by_cases z:ft<1
 ·rw[if_pos z,if_pos (.inl z)]
 rw[if_neg z,uB];simp only[aa]
 by_cases y:¬ (q.length:Int) % ft=0
 ·rw[if_pos y,if_pos (.inr y)]
 have y:(q.length:Int) % ft=0:=by omega
 rw[if_neg (by simpa using y),if_neg (show ¬ (ft<1∨¬ (q.length:Int) % ft=0)by omega)];have M:=aQ (L:=fun k i (o:List (List Int)×List (List Int))=>gS n k (q,ft,s,o.1,o.2,aC,(aC.length:Int),i,())) (len:=aC.length) (r:=(q,ft,s,ci aC,valuesOf aC,())) (fun i=>(cM (fun i=>(aC.getD i ([],[])).1) i,cM (fun i=>(aC.getD i ([],[])).2) i)) ?_ ?_ n (by omega)
 ·simp only[dD]at M;rw[M];simp only[aa];rw[x7 u];simp only[aa]
  by_cases g:Fits q (ci aC)
  ·rw[oT g,if_neg (by simp),x7 u];simp only[aa]
   by_cases j:Fits q (valuesOf aC)
   ·rw[oT j,if_neg (by simp),if_neg (show ¬ ¬ (Fits q (ci aC)∧Fits q (valuesOf aC))from fun h=>h ⟨g,j⟩)]
    by_cases B:s<0
    ·rw[if_pos B,if_pos (.inl B)]
    rw[if_neg B]
    by_cases D:s>31
    ·rw[if_pos D,if_pos (.inr D)]
    rw[if_neg D,fu];obtain⟨H,rfl⟩:∃H:Nat,ft=(H:Int):=⟨ft.toNat,by omega⟩;rw[aH];have V:=g.2.1;have N:q.length % H=0:=by omega
    have b:q.length=H*(q.length/H):=by have:=Nat.div_add_mod q.length H;omega
    obtain⟨a,w⟩:∃a,a=q.length/H:=⟨_,rfl⟩;rw[←w]at b ⊢;have c:1≤a:=by
     by_cases h:a=0
     ·rw[h]at b;omega
     ·omega
    rw[jo (by omega) (by omega) (by omega),show(q.length:Int)/(H:Int)=(a:Int)by rw[w];simp];simp only[aa];have t:∀i,i<H→(kN q (ci aC) (valuesOf aC) a s i).length=a:=fun i d=>by rw[uG];exact(uF b d).1
    have Q:H≤q.length:=by rw[b];exact bM _ c
    have F:=aQ (L:=fun k (h:Int) o=>gi n k (q,s,ci aC,valuesOf aC,(),o,(h*(a:Int),()),((a:Int),()),())) (len:=H) (r:=Sum.inr (Cd (kN q (ci aC) (valuesOf aC) a s) H,())) (fun h=>Cd (kN q (ci aC) (valuesOf aC) a s) h) ?_ ?_ n (by omega)
    ·rw[show Cd (kN q (ci aC) (valuesOf aC) a s) 0=[]from rfl]at F;simp only[Int.zero_mul]at F;rw[F];rfl
    ·intro k h l;show gi n (k+1) _=_;rw[qv];simp only[ag,dU];have U:=uF b l;have P:(h+1)*a≤H*a:=aW a l;rw[Nat.succ_mul]at P;have E:(h:Int)*(a:Int)=((h*a:Nat):Int):=by simp
     rw[E,jO,bu (x:=((h*a:Nat):Int)+(a:Int)),nG];simp only[aa];rw[On (m:=q.length) g.1.2 g.2.2 (by omega) (by omega) u];simp only[aa];rw[On (m:=q.length) j.1.2 j.2.2 (by omega) (by omega) u];simp only[aa];rw[UK (S.sub _ _) (SH I _ _) (SH K _ _) (GU g b l c) (GU j b l c) (by simp[sN,ci,valuesOf]) (by omega) (by omega) u];simp only[aa,bne_self_eq_false,Bool.false_eq_true,if_false];rw[show Om ((q.drop (h*a)).take a) (sN (ci aC) (h*a) a) (sN (valuesOf aC) (h*a) a) s=kN q (ci aC) (valuesOf aC) a s h from rfl];rw[UL t l (by rw[Nat.succ_mul];omega)];simp only[aa];rw[show((h*a:Nat):Int)+(a:Int)=((h:Int)+1)*(a:Int)by rw[Int.add_mul];simp]
    ·intro k;show gi n (k+1) _=_;have E:(H:Int)*(a:Int)=((H*a:Nat):Int):=by simp
     rw[qv,ag,E,if_neg (by simp;omega)]
   ·rw[jS j,if_pos (by simp),if_pos (show ¬ (Fits q (ci aC)∧Fits q (valuesOf aC))from fun h=>j h.2)]
  ·rw[jS g,if_pos (by simp),if_pos (show ¬ (Fits q (ci aC)∧Fits q (valuesOf aC))from fun h=>g h.1)]
 ·intro k i d;show gS n (k+1) _=_;rw[sf];simp only[ag,dU];rw[jO,aS d ([],[])];simp only[aa];rw[dQ (fun i=>(aC.getD i ([],[])).1) (by unfold room;omega) (by unfold room;omega)];simp only[aa];rw[dQ (fun i=>(aC.getD i ([],[])).2) (by unfold room;omega) (by unfold room;omega),bu];rfl
 ·intro k;show gS n (k+1) _=_;rw[sf,ag,if_neg (by simp)];rfl
theorem Yn{n:Nat}{q:List Int}{H s sz h:Nat}{aC:gH}{a:List Int}{d:Int}(f1:Fits q (ci aC))(f2:Fits q (valuesOf aC))(b:q.length=H*sz)(hh:h<H)(F:ii n):
  fF n n (q,(H:Int),aC,d,ci aC,valuesOf aC,(sz:Int),a,(h:Int),[],[],0,())=some (q,(H:Int),aC,d,ci aC,valuesOf aC,(sz:Int),a,(h:Int),sN (ci aC) (h*sz) sz,sN (valuesOf aC) (h*sz) sz,()):=by
 have w:aC.length≤512:=by have:=f1.1.2;simpa[ci]using this
 have g:(ci aC).length=aC.length:=by simp[ci]
 have j:(valuesOf aC).length=aC.length:=by simp[valuesOf]
 have D:=f1.2.1;have y:=uF b hh;have l:(h:Int)*(sz:Int)=((h*sz:Nat):Int):=by simp
 have t:((h:Int)+1)*(sz:Int)=((h*sz:Nat):Int)+(sz:Int):=by rw[Int.add_mul,l];simp
 have p:=aQ (L:=fun k i (o:List (List Int)×List (List Int))=>fF n k (q,(H:Int),aC,d,ci aC,valuesOf aC,(sz:Int),a,(h:Int),o.1,o.2,i,())) (len:=aC.length)
  (r:=(q,(H:Int),aC,d,ci aC,valuesOf aC,(sz:Int),a,(h:Int),sN (ci aC) (h*sz) sz,sN (valuesOf aC) (h*sz) sz,())) (fun i=>(cM (fun i=>(((ci aC).getD i []).drop (h*sz)).take sz) i,cM (fun i=>(((valuesOf aC).getD i []).drop (h*sz)).take sz) i)) ?_ ?_ n (by omega)
 ·simp only[dD]at p;exact p
 ·intro k i E;show fF n (k+1) _=_;rw[sA];simp only[ag,dU];have z:=f1.2.2 i (by omega);have B:=f2.2.2 i (by omega);have c:H≤q.length∨sz=0:=by
   by_cases u:sz=0
   ·exact .inr u
   ·exact .inl (by rw[b];exact bM _ (by omega))
  rw[jO,aS (show i<(ci aC).length by omega) []];simp only[aa];rw[bu (x:=(h:Int)*(sz:Int))];rw[show ae .i64 (ae .i64 ((h:Int)+1)*(sz:Int))=((h*sz:Nat):Int)+(sz:Int)by
   rcases c with c |c
   ·rw[bu (x:=(h:Int)+1),t,bu]
   ·subst c;simp only[Nat.mul_zero,Int.natCast_zero,Int.mul_zero,Int.add_zero];exact bu]
  rw[l,nG];simp only[aa];rw[dQ (fun i=>(((ci aC).getD i []).drop (h*sz)).take sz) (by unfold room;omega) (by unfold room;omega)];simp only[aa];rw[aS (show i<(valuesOf aC).length by omega) []];simp only[aa];rw[nG];simp only[aa];rw[dQ (fun i=>(((valuesOf aC).getD i []).drop (h*sz)).take sz) (by unfold room;omega) (by unfold room;omega),bu];rfl
 ·intro k;show fF n (k+1) _=_;rw[sA,ag,if_neg (by simp)];show some (_,_,_,_,_,_,_,_,_,cM _ _,cM _ _,())=_;unfold sN;rw[g,j]
theorem Ww{n:Nat}{q:List Int}{ft s:Int}{aC:gH}(T:aO q)(O:∀p∈aC,aO p.1∧aO p.2)(U:q.length≤1000000000)(S:aC.length≤1000000000)(y:ii n):rg n (q,ft,aC,s)=some (qI q ft aC s):=by
 have E:pJ (ci aC):=by
  intro r F;obtain⟨i,d,rfl⟩:=fR F;rw[dy d];exact(O _ (ap d)).1
 have I:pJ (valuesOf aC):=by
  intro r F;obtain⟨i,d,rfl⟩:=fR F;rw[dy d];exact(O _ (ap d)).2
 rw[Ls];unfold qI;simp only[ag,dU,bne_iff_ne,ne_eq]
 by_cases z:ft<1
 ·rw[if_pos z,if_pos (.inl z)]
 rw[if_neg z,uB];simp only[aa]
 by_cases w:¬ (q.length:Int) % ft=0
 ·rw[if_pos w,if_pos (.inr w)]
 have w:(q.length:Int) % ft=0:=by omega
 rw[if_neg (by simpa using w),if_neg (show ¬ (ft<1∨¬ (q.length:Int) % ft=0)by omega)];have K:=aQ (L:=fun k i (o:List (List Int)×List (List Int))=>iP n k (q,ft,aC,s,o.1,o.2,i,())) (len:=aC.length) (r:=(q,ft,aC,s,ci aC,valuesOf aC,())) (fun i=>(cM (fun i=>(aC.getD i ([],[])).1) i,cM (fun i=>(aC.getD i ([],[])).2) i)) ?_ ?_ n (by omega)
 ·simp only[dD]at K;rw[K];simp only[aa];rw[uE y];simp only[aa]
  by_cases g:Fits q (ci aC)
  ·rw[oT g,if_neg (by simp),uE y];simp only[aa]
   by_cases j:Fits q (valuesOf aC)
   ·rw[oT j,if_neg (by simp),if_neg (show ¬ ¬ (Fits q (ci aC)∧Fits q (valuesOf aC))from fun h=>h ⟨g,j⟩)]
    by_cases B:s<0
    ·rw[if_pos B,if_pos (.inl B)]
    rw[if_neg B]
    by_cases D:s>31
    ·rw[if_pos D,if_pos (.inr D)]
    rw[if_neg D,fu];obtain⟨H,rfl⟩:∃H:Nat,ft=(H:Int):=⟨ft.toNat,by omega⟩;rw[aH];have W:=g.2.1;have N:q.length % H=0:=by omega
    have b:q.length=H*(q.length/H):=by have:=Nat.div_add_mod q.length H;omega
    obtain⟨a,u⟩:∃a,a=q.length/H:=⟨_,rfl⟩;rw[←u]at b ⊢;have c:1≤a:=by
     by_cases h:a=0
     ·rw[h]at b;omega
     ·omega
    rw[jo (by omega) (by omega) (by omega),show(q.length:Int)/(H:Int)=(a:Int)by rw[u];simp];simp only[aa];have t:∀i,i<H→(kN q (ci aC) (valuesOf aC) a s i).length=a:=fun i d=>by rw[uG];exact(uF b d).1
    have R:H≤q.length:=by rw[b];exact bM _ c
    have M:=aQ (L:=fun k (h:Int) o=>gX n k (q,(H:Int),aC,s,ci aC,valuesOf aC,(a:Int),o,h,())) (len:=H) (r:=(Cd (kN q (ci aC) (valuesOf aC) a s) H,())) (fun h=>Cd (kN q (ci aC) (valuesOf aC) a s) h) ?_ ?_ n (by omega)
    ·rw[show Cd (kN q (ci aC) (valuesOf aC) a s) 0=[]from rfl]at M;rw[M];rfl
    ·intro k h l;show gX n (k+1) _=_;rw[sy];simp only[ag,dU];have V:=uF b l;have P:(h+1)*a≤H*a:=aW a l;rw[Nat.succ_mul]at P;have J:(h:Int)*(a:Int)=((h*a:Nat):Int):=by simp
     have Q:((h:Int)+1)*(a:Int)=((h*a:Nat):Int)+(a:Int):=by rw[Int.add_mul,J];simp
     rw[jO,Yn (s:=0) g j b l y];simp only[aa];rw[bu (x:=(h:Int)*(a:Int)),bu (x:=(h:Int)+1),J,Q,bu (x:=((h*a:Nat):Int)+(a:Int)),nG];simp only[aa];rw[Wu (T.sub _ _) (SH E _ _) (SH I _ _) (GU g b l c) (GU j b l c) (by simp[sN,ci,valuesOf]) (by omega) (by omega) y];simp only[aa];rw[show Om ((q.drop (h*a)).take a) (sN (ci aC) (h*a) a) (sN (valuesOf aC) (h*a) a) s=kN q (ci aC) (valuesOf aC) a s h from rfl];rw[UL t l (by rw[Nat.succ_mul];omega)];rfl
    ·intro k;show gX n (k+1) _=_;rw[sy,ag,if_neg (by simp)]
   ·rw[jS j,if_pos (by simp),if_pos (show ¬ (Fits q (ci aC)∧Fits q (valuesOf aC))from fun h=>j h.2)]
  ·rw[jS g,if_pos (by simp),if_pos (show ¬ (Fits q (ci aC)∧Fits q (valuesOf aC))from fun h=>g h.1)]
 ·intro k i d;show iP n (k+1) _=_;rw[ut];simp only[ag,dU];rw[jO,aS d ([],[])];simp only[aa];rw[dQ (fun i=>(aC.getD i ([],[])).1) (by unfold room;omega) (by unfold room;omega)];simp only[aa];rw[dQ (fun i=>(aC.getD i ([],[])).2) (by unfold room;omega) (by unfold room;omega),bu];rfl
 ·intro k;show iP n (k+1) _=_;rw[ut,ag,if_neg (by simp)];rfl
theorem BU{q:List Int}{ft s:Int}{aC:gH}:aO (qI q ft aC s).1:=by
 unfold qI
 split
 ·exact fun x a=>(by cases a)
 ·split
  ·exact fun x a=>(by cases a)
  ·split
   ·exact fun x a=>(by cases a)
   ·exact Oo (p:=fun x=> -128≤x∧x≤127) (fun i x a=>Wv x a) _
theorem Yo{q:List Int}{ft s:Int}{aC:gH}:(qI q ft aC s).1.length≤q.length:=by
 unfold qI
 split
 ·simp
 ·rename_i c
  split
  ·simp
  ·split
   ·simp
   ·obtain⟨H,rfl⟩:∃H:Nat,ft=(H:Int):=⟨ft.toNat,by omega⟩;rw[aH];have a:q.length=H*(q.length/H):=by have:=Nat.div_add_mod q.length H;omega
    show(Cd _ H).length≤_;rw[BT (m:=q.length/H) (H:=H) (fun i b=>by rw[uG];exact(uF a b).1) H (av _)];omega
abbrev vz:=List Int×List Int×List Int×List Int×List Int×List Int×Int×Int×Int×Int×Int×List Int×List Int×List Int×Int×Int×Int
abbrev En:=Int×List Int×List Int×List Int
structure Wx (b:vz):Prop where
 g1:aO b.1
 q:aO b.2.1
 k:aO b.2.2.1
 v:aO b.2.2.2.1
 o:aO b.2.2.2.2.1
 g2:aO b.2.2.2.2.2.1
 m1:aO b.2.2.2.2.2.2.2.2.2.2.2.1
 m2:aO b.2.2.2.2.2.2.2.2.2.2.2.2.1
 m3:aO b.2.2.2.2.2.2.2.2.2.2.2.2.2.1
structure Yp (f:En):Prop where
 cos:aO f.2.1
 sin:aO f.2.2.1
 dR:aO f.2.2.2
 cl:f.2.1.length≤1000000000
 sl:f.2.2.1.length≤1000000000
def tj(f:En)(d:Nat)(p:Int):Int×List Int×List Int×Int:=
 if f.1<1∨(d:Int) % f.1≠0 then(0,[],[],200)else
 let a:=d/f.1.toNat
 if a<2∨a % 2≠0 then(0,[],[],200)else
 if p<0∨p≥((f.2.1.length/(a/2):Nat):Int)∨p≥((f.2.2.1.length/(a/2):Nat):Int)then(0,[],[],201)else
  ((a:Int),(f.2.1.drop (p.toNat*(a/2))).take (a/2),(f.2.2.1.drop (p.toNat*(a/2))).take (a/2),0)
theorem rx{l half p:Nat}(h:p<l/half):p*half+half≤l:=by
 have a:(p+1)*half≤(l/half)*half:=aW half h;have b:=Nat.div_mul_le_self l half;rw[Nat.succ_mul]at a;omega
theorem GV{n:Nat}{f:En}{x:List Int}{p:Int}(D:x.length≤1000000000)(q:Yp f):j0 n (f,x,p)=some (tj f x.length p):=by
 rw[Gi];unfold tj;simp only[ag,dU,bne_iff_ne,ne_eq,beq_iff_eq]
 by_cases c:f.1<1
 ·rw[if_pos c,if_pos (.inl c)]
 rw[if_neg c,uB];simp only[aa]
 by_cases d:¬ (x.length:Int) % f.1=0
 ·rw[if_pos d,if_pos (.inr d)]
 rw[if_neg d,if_neg (show ¬ (f.1<1∨¬ (x.length:Int) % f.1=0)by omega),jo (by omega) (by omega) (by omega)];simp only[aa];obtain⟨H,u⟩:∃H:Nat,f.1=(H:Int):=⟨f.1.toNat,by omega⟩;rw[u,aH];obtain⟨a,b⟩:∃a,a=x.length/H:=⟨_,rfl⟩;have r:a≤x.length:=by rw[b];exact Nat.div_le_self _ _
 rw[←b,show(x.length:Int)/(H:Int)=(a:Int)by rw[b];simp]
 by_cases j:(a:Int)=0
 ·rw[if_pos j,if_pos (.inl (by omega))]
 rw[if_neg j,uB];simp only[aa]
 by_cases k:¬ (a:Int) % 2=0
 ·rw[if_pos k,if_pos (.inr (by omega))]
 rw[if_neg k,if_neg (show ¬ (a<2∨¬ a % 2=0)by omega),jo (by omega) (by omega) (by omega)];simp only[aa];obtain⟨half,z⟩:∃half,half=a/2:=⟨_,rfl⟩;rw[←z,show(a:Int)/2=(half:Int)by omega];have y:=q.cl;have B:=q.sl
 by_cases g:p<0
 ·rw[if_pos g,if_pos (.inl g)]
 rw[if_neg g,jo (by omega) (by omega) (by omega)];simp only[aa];rw[show(f.2.1.length:Int)/(half:Int)=((f.2.1.length/half:Nat):Int)by simp]
 by_cases h:p≥((f.2.1.length/half:Nat):Int)
 ·rw[if_pos h,if_pos (.inr (.inl h))]
 rw[if_neg h,jo (by omega) (by omega) (by omega)];simp only[aa];rw[show(f.2.2.1.length:Int)/(half:Int)=((f.2.2.1.length/half:Nat):Int)by simp]
 by_cases i:p≥((f.2.2.1.length/half:Nat):Int)
 ·rw[if_pos i,if_pos (.inr (.inr i))]
 rw[if_neg i,fu];obtain⟨P,rfl⟩:∃P:Nat,p=(P:Int):=⟨p.toNat,by omega⟩;rw[aH];have E:=rx (l:=f.2.1.length) (half:=half) (p:=P) (by omega);have F:=rx (l:=f.2.2.1.length) (half:=half) (p:=P) (by omega);have w:P≤f.2.1.length:=by have:=Nat.div_le_self f.2.1.length half;omega
 have o:(P:Int)*(half:Int)=((P*half:Nat):Int):=by simp
 have t:((P:Int)+1)*(half:Int)=((P*half:Nat):Int)+(half:Int):=by rw[Int.add_mul,o];simp
 rw[bu (x:=(P:Int)+1),o,t,bu,bu,nG];simp only[aa];rw[nG];rfl
theorem GW{n:Nat}{f:En}{d:Nat}{p:Int}(B:d≤1000000000)(q:Yp f):j9 n (f,(d:Int),p)=some (tj f d p):=by
 rw[Gp];unfold tj;simp only[ag,dU,bne_iff_ne,ne_eq]
 by_cases c:f.1<1
 ·rw[if_pos c,if_pos (.inl c)]
 rw[if_neg c,uB];simp only[aa]
 by_cases g:¬ (d:Int) % f.1=0
 ·rw[if_pos g,if_pos (.inr g)]
 rw[if_neg g,if_neg (show ¬ (f.1<1∨¬ (d:Int) % f.1=0)by omega),jo (by omega) (by omega) (by omega)];simp only[aa];obtain⟨H,u⟩:∃H:Nat,f.1=(H:Int):=⟨f.1.toNat,by omega⟩;rw[u,aH];obtain⟨a,b⟩:∃a,a=d/H:=⟨_,rfl⟩;have r:a≤d:=by rw[b];exact Nat.div_le_self _ _
 rw[←b,show(d:Int)/(H:Int)=(a:Int)by rw[b];simp]
 by_cases k:(a:Int)<2
 ·rw[if_pos k,if_pos (.inl (by omega))]
 rw[if_neg k,uB];simp only[aa]
 by_cases o:¬ (a:Int) % 2=0
 ·rw[if_pos o,if_pos (.inr (by omega))]
 rw[if_neg o,if_neg (show ¬ (a<2∨¬ a % 2=0)by omega),jo (by omega) (by omega) (by omega)];simp only[aa];obtain⟨half,y⟩:∃half,half=a/2:=⟨_,rfl⟩;rw[←y,show(a:Int)/2=(half:Int)by omega];have w:=q.cl;have z:=q.sl
 by_cases h:p<0
 ·rw[if_pos h,if_pos (.inl h)]
 rw[if_neg h,jo (by omega) (by omega) (by omega)];simp only[aa];rw[show(f.2.1.length:Int)/(half:Int)=((f.2.1.length/half:Nat):Int)by simp]
 by_cases i:p≥((f.2.1.length/half:Nat):Int)
 ·rw[if_pos i,if_pos (.inr (.inl i))]
 rw[if_neg i,jo (by omega) (by omega) (by omega)];simp only[aa];rw[show(f.2.2.1.length:Int)/(half:Int)=((f.2.2.1.length/half:Nat):Int)by simp]
 by_cases j:p≥((f.2.2.1.length/half:Nat):Int)
 ·rw[if_pos j,if_pos (.inr (.inr j))]
 rw[if_neg j,fu];obtain⟨P,rfl⟩:∃P:Nat,p=(P:Int):=⟨p.toNat,by omega⟩;rw[aH];have D:=rx (l:=f.2.1.length) (half:=half) (p:=P) (by omega);have E:=rx (l:=f.2.2.1.length) (half:=half) (p:=P) (by omega);have t:(P:Int)*(half:Int)=((P*half:Nat):Int):=by simp
 rw[t,bu (x:=((P*half:Nat):Int)),bu (x:=((P*half:Nat):Int)+(half:Int)),nG];simp only[aa];rw[nG];simp only[aa];rw[bu,show 2*(half:Int)=(a:Int)by omega]
theorem Mc{f:En}{d:Nat}{p:Int}(b:Yp f)(g:d≤1000000000):aO (tj f d p).2.1∧aO (tj f d p).2.2.1∧(tj f d p).1≤9223372036854775807:=by
 have a:aO []:=fun x c=>(by cases c);unfold tj
 split
 ·exact⟨a,a,by simp⟩
 ·simp only
  split
  ·exact⟨a,a,by simp⟩
  ·split
   ·exact⟨a,a,by simp⟩
   ·refine⟨b.cos.sub _ _,b.sin.sub _ _,?_⟩;have:=Nat.div_le_self d f.1.toNat;show((d/f.1.toNat:Nat):Int)≤_;omega
theorem vB{n:Nat}{w h:List Int}{s:Int}(b:aO w)(hh:aO h)(c:h.length≤1000000000)(a:ii n):gP n (w,h,s)=some (cz w h s):=by
 rw[D2,wJ b hh c a];unfold cz;simp only[aa,ag,bne_iff_ne]
 split
 ·rfl
 ·rw[Oc (gF b hh) a];rfl
theorem Ds{n:Nat}{w h:List Int}{s:Int}(b:aO w)(hh:aO h)(a:ii n):jw n (w,h,s)=some (cz w h s):=by
 rw[Eb,pI b hh a];unfold cz;simp only[aa,ag,bne_iff_ne]
 split
 ·rfl
 ·rw[GN (gF b hh) a];rfl
theorem jA{l dZ:List Int}:lS (i2 l dZ).1:=by
 unfold i2
 split
 ·exact fun x a=>(by cases a)
 ·split
  ·exact fun x a=>(by cases a)
  ·intro x a;obtain⟨i,_,rfl⟩:=fR a;exact kl _
theorem Oq{l dZ:List Int}:(i2 l dZ).1.length≤64:=by
 unfold i2
 split
 ·simp
 ·split
  ·simp
  ·rename_i h;have:=Of (l:=l) (by omega);simp;omega
theorem Q0{x cos sin:List Int}{size:Int}:lS (wL x size cos sin).1:=by
 unfold wL
 split
 ·exact fun x a=>(by cases a)
 ·split
  ·exact fun x a=>(by cases a)
  ·intro x a;obtain⟨i,_,rfl⟩:=fR a;unfold nE
   split
   ·exact kl _
   ·exact kl _
theorem Q1{x cos sin:List Int}{size:Int}:(wL x size cos sin).1.length≤x.length:=by
 unfold wL
 split
 ·simp
 ·split
  ·simp
  ·simp
def ic(w h:List Int)(s size:Int)(cos sin:List Int):List Int×Int:=if(cz w h s).2≠0 then([],(cz w h s).2)else wL (cz w h s).1 size cos sin
theorem Br{w h:List Int}{s size:Int}{cos sin:List Int}:lS (ic w h s size cos sin).1:=by
 unfold ic
 split
 ·exact fun x a=>(by cases a)
 ·exact Q0
theorem UN{w h:List Int}{s size:Int}{cos sin:List Int}:(ic w h s size cos sin).1.length≤1048576:=by
 unfold ic
 split
 ·simp
 ·exact Nat.le_trans Q1 rl
theorem GX{n:Nat}{w h:List Int}{s size:Int}{cos sin:List Int}(d:aO w)(hh:aO h)(b:aO cos)(c:aO sin)(g:size≤9223372036854775807)(a:ii n):ke n (w,h,s,size,cos,sin)=some (ic w h s size cos sin):=by
 rw[Gt,Ds d hh a];unfold ic;simp only[aa,ag,bne_iff_ne]
 split
 ·rfl
 ·have:=rl (w:=w) (h:=h) (s:=s);rw[Wl fS.aO b c g (by omega) a];rfl
noncomputable def ko(b:vz)(f:En)(x:List Int)(p:Int):(List Int×List Int)×Int:=
 let a:=tj f x.length p
 if a.2.2.2≠0 then(([],[]),a.2.2.2)else
 let h:=i2 x b.1
 if h.2≠0 then(([],[]),h.2)else
 let k:=ic b.2.2.1 h.1 b.2.2.2.2.2.2.2.1 a.1 a.2.1 a.2.2.1
 if k.2≠0 then(([],[]),k.2)else
 let v:=cz b.2.2.2.1 h.1 b.2.2.2.2.2.2.2.2.1
 if v.2≠0 then(([],[]),v.2)else((k.1,v.1),0)
theorem Wy{n:Nat}{b:vz}{f:En}{x:List Int}{p:Int}(d:Wx b)(g:Yp f)(i:x.length≤1000000000)(c:ii n):qS n (b,f,x,p)=some (ko b f x p):=by
 rw[K5,GV i g];obtain⟨j,o,q⟩:=Mc (p:=p) g i;unfold ko ic;simp only[aa,ag,bne_iff_ne]
 split
 ·rfl
 ·rw[GP d.g1 c];have r:=Oq (l:=x) (dZ:=b.1);simp only[aa]
  split
  ·rfl
  ·rw[vB d.k jA.aO (by omega) c];have t:=rl (w:=b.2.2.1) (h:=(i2 x b.1).1) (s:=b.2.2.2.2.2.2.2.1);simp only[aa]
   by_cases a:(cz b.2.2.1 (i2 x b.1).1 b.2.2.2.2.2.2.2.1).2≠0
   ·rw[if_pos a,if_pos a,if_pos a]
   ·rw[if_neg a,if_neg a,QX fS.aO j o q (by omega) c];simp only[aa]
    split
    ·rfl
    ·rw[vB d.v jA.aO (by omega) c];simp only[aa]
     split
     ·rfl
     ·rfl
theorem Wz{n:Nat}{b:vz}{f:En}{x:List Int}{p:Int}(a:Wx b)(d:Yp f)(g:x.length≤1000000000)(c:ii n):rb n (b,f,x,p)=some (ko b f x p):=by
 rw[Ln,GW g d];obtain⟨h,i,j⟩:=Mc (p:=p) d g;unfold ko;simp only[aa,ag,bne_iff_ne]
 split
 ·rfl
 ·rw[BS a.g1 c];simp only[aa]
  split
  ·rfl
  ·rw[GX a.k jA.aO h i j c];simp only[aa]
   split
   ·rfl
   ·rw[Ds a.v jA.aO c];simp only[aa]
    split
    ·rfl
    ·rfl
theorem Ot{a b:List Int}:eJ (GO a b).1:=by
 unfold GO
 split
 ·exact fun x c=>(by cases c)
 ·split
  ·exact fun x c=>(by cases c)
  ·intro x c;obtain⟨i,_,rfl⟩:=fR c;unfold jz Sz
   split
   ·rename_i h;exact h
   ·exact⟨by decide,by decide⟩
noncomputable def kD(b:vz)(f:En)(x:List Int)(aC:gH):List Int×Int:=
 let a:=tj f x.length ((aC.length:Int) -1)
 if a.2.2.2≠0 then([],a.2.2.2)else
 let h:=i2 x b.1
 if h.2≠0 then([],h.2)else
 let q:=ic b.2.1 h.1 b.2.2.2.2.2.2.1 a.1 a.2.1 a.2.2.1
 if q.2≠0 then([],q.2)else
 let o:=qI q.1 f.1 aC b.2.2.2.2.2.2.2.2.2.2.1
 if o.2≠0 then([],o.2)else
 let y:=gN b.2.2.2.2.1 (x.length:Int) o.1
 if y.2≠0 then([],y.2)else
 let z:=fG y.1 b.2.2.2.2.2.2.2.2.2.1
 if z.2≠0 then([],z.2)else GO x z.1
noncomputable def Ce(b:vz)(f:En)(x:List Int)(aC:gH):List Int×Int:=
 let y:=kD b f x aC
 if y.2≠0 then([],y.2)else
 let g:=i2 y.1 b.2.2.2.2.2.1
 if g.2≠0 then([],g.2)else
 let d:=jp b.2.2.2.2.2.2.2.2.2.2.2 f.2.2.2 g.1
 if d.2≠0 then([],d.2)else GO y.1 d.1
theorem UO{b:vz}{f:En}{x:List Int}{aC:gH}:eJ (kD b f x aC).1:=by
 have a:eJ []:=fun x c=>(by cases c);unfold kD;simp only
 split
 ·exact a
 ·split
  ·exact a
  ·split
   ·exact a
   ·split
    ·exact a
    ·split
     ·exact a
     ·split
      ·exact a
      ·exact Ot
theorem aao{b:vz}{f:En}{x:List Int}{aC:gH}:eJ (Ce b f x aC).1:=by
 have a:eJ []:=fun x c=>(by cases c);unfold Ce;simp only
 split
 ·exact a
 ·split
  ·exact a
  ·split
   ·exact a
   ·exact Ot
theorem SI{n:Nat}{b:vz}{f:En}{x:List Int}{aC:gH}(d:Wx b)(j:Yp f)(i:eJ x)(k:x.length≤1000000000)(y:∀p∈aC,aO p.1∧aO p.2)(g:aC.length≤1000000000)(a:ii n):mH n (b,f,x,aC)=some (kD b f x aC):=by
 rw[Gl,bu,GV k j];obtain⟨r,t,u⟩:=Mc (p:=(aC.length:Int) -1) j k;unfold kD ic;simp only[aa,ag,bne_iff_ne]
 split
 ·rfl
 ·rw[GP d.g1 a];have z:=Oq (l:=x) (dZ:=b.1);simp only[aa]
  split
  ·rfl
  ·rw[vB d.q jA.aO (by omega) a];have B:=rl (w:=b.2.1) (h:=(i2 x b.1).1) (s:=b.2.2.2.2.2.2.1);simp only[aa]
   by_cases c:(cz b.2.1 (i2 x b.1).1 b.2.2.2.2.2.2.1).2≠0
   ·rw[if_pos c,if_pos c,if_pos c]
   ·rw[if_neg c,if_neg c,QX fS.aO r t u (by omega) a];simp only[aa]
    split
    ·rfl
    ·have D:=Q1 (x:=(cz b.2.1 (i2 x b.1).1 b.2.2.2.2.2.2.1).1) (cos:=(tj f x.length ((aC.length:Int) -1)).2.1) (sin:=(tj f x.length ((aC.length:Int) -1)).2.2.1) (size:=(tj f x.length ((aC.length:Int) -1)).1);rw[UM Q0.aO y (by omega) g a];simp only[aa]
     split
     ·rfl
     ·have E:=Yo (q:=(wL (cz b.2.1 (i2 x b.1).1 b.2.2.2.2.2.2.1).1 (tj f x.length ((aC.length:Int) -1)).1 (tj f x.length ((aC.length:Int) -1)).2.1 (tj f x.length ((aC.length:Int) -1)).2.2.1).1) (ft:=f.1) (aC:=aC) (s:=b.2.2.2.2.2.2.2.2.2.2.1);rw[wJ d.o BU (by omega) a];simp only[aa]
      split
      ·rfl
      ·rw[BR (gF d.o BU) a];simp only[aa]
       split
       ·rfl
       ·rw[Xk i (Em (gF d.o BU)) a];rfl
theorem Yq{n:Nat}{b:vz}{f:En}{x:List Int}{aC:gH}(a:Wx b)(h:Yp f)(g:eJ x)(j:x.length≤1000000000)(i:∀p∈aC,aO p.1∧aO p.2)(d:aC.length≤1000000000)(c:ii n):tM n (b,f,x,aC)=some (Ce b f x aC):=by
 rw[NO,SI a h g j i d c];unfold Ce;simp only[aa,ag,bne_iff_ne]
 split
 ·rfl
 ·rw[GP a.g2 c];have k:=Oq (l:=(kD b f x aC).1) (dZ:=b.2.2.2.2.2.1);simp only[aa]
  split
  ·rfl
  ·rw[Ws a.m1 a.m2 a.m3 h.dR jA.aO (by omega) c];simp only[aa]
   split
   ·rfl
   ·rw[Xk UO (JZ a.m3) c];rfl
theorem Yr{n:Nat}{b:vz}{f:En}{x:List Int}{aC:gH}(c:Wx b)(r:Yp f)(u:eJ x)(z:x.length≤1000000000)(H:∀p∈aC,aO p.1∧aO p.2)(t:aC.length≤1000000000)(d:ii n):tS n (b,f,x,aC)=some (Ce b f x aC):=by
 obtain⟨B,D,E⟩:=Mc (p:=(aC.length:Int) -1) r z;obtain⟨L,a⟩:∃L,L=kD b f x aC:=⟨_,rfl⟩;have g:Ce b f x aC=if L.2≠0 then([],L.2)else if(i2 L.1 b.2.2.2.2.2.1).2≠0 then([],(i2 L.1 b.2.2.2.2.2.1).2)else
   if(jp b.2.2.2.2.2.2.2.2.2.2.2 f.2.2.2 (i2 L.1 b.2.2.2.2.2.1).1).2≠0 then([],(jp b.2.2.2.2.2.2.2.2.2.2.2 f.2.2.2 (i2 L.1 b.2.2.2.2.2.1).1).2)else GO L.1 (jp b.2.2.2.2.2.2.2.2.2.2.2 f.2.2.2 (i2 L.1 b.2.2.2.2.2.1).1).1:=by
  unfold Ce;rw[←a]
 rw[g];clear g;unfold kD at a;rw[NX,bu,GW z r];simp only[aa,ag,bne_iff_ne]at a ⊢
 by_cases d1:(tj f x.length ((aC.length:Int) -1)).2.2.2≠0
 ·rw[if_pos d1]at a ⊢;rw[a,if_pos d1]
 rw[if_neg d1]at a ⊢;rw[BS c.g1 d];simp only[aa]
 by_cases d2:(i2 x b.1).2≠0
 ·rw[if_pos d2]at a ⊢;rw[a,if_pos d2]
 rw[if_neg d2]at a ⊢;rw[GX c.q jA.aO B D E d];simp only[aa];obtain⟨T,k⟩:∃T,T=ic b.2.1 (i2 x b.1).1 b.2.2.2.2.2.2.1 (tj f x.length ((aC.length:Int) -1)).1 (tj f x.length ((aC.length:Int) -1)).2.1 (tj f x.length ((aC.length:Int) -1)).2.2.1:=⟨_,rfl⟩;have l:aO T.1:=by rw[k];exact Br.aO
 have F:T.1.length≤1048576:=by rw[k];exact UN
 rw[←k]at a ⊢
 by_cases d3:T.2≠0
 ·rw[if_pos d3]at a ⊢;rw[a,if_pos d3]
 rw[if_neg d3]at a ⊢;rw[Ww l H (by omega) t d];simp only[aa];obtain⟨O,w⟩:∃O,O=qI T.1 f.1 aC b.2.2.2.2.2.2.2.2.2.2.1:=⟨_,rfl⟩;have h:aO O.1:=by rw[w];exact BU
 rw[←w]at a ⊢
 by_cases d4:O.2≠0
 ·rw[if_pos d4]at a ⊢;rw[a,if_pos d4]
 rw[if_neg d4]at a ⊢;rw[pI c.o h d];simp only[aa];obtain⟨Y,y⟩:∃Y,Y=gN b.2.2.2.2.1 (x.length:Int) O.1:=⟨_,rfl⟩;have i:eJ Y.1:=by rw[y];exact gF c.o h
 rw[←y]at a ⊢
 by_cases d5:Y.2≠0
 ·rw[if_pos d5]at a ⊢;rw[a,if_pos d5]
 rw[if_neg d5]at a ⊢;rw[uA i d];simp only[aa]
 by_cases d6:(fG Y.1 b.2.2.2.2.2.2.2.2.2.1).2≠0
 ·rw[if_pos d6]at a ⊢;rw[a,if_pos d6]
 rw[if_neg d6]at a ⊢;rw[QS u (Em i) d,←a];have j:eJ L.1:=by rw[a];exact Ot
 simp only[aa]
 by_cases d7:L.2≠0
 ·rw[if_pos d7,if_pos d7]
 rw[if_neg d7,if_neg d7,BS c.g2 d];simp only[aa]
 by_cases d8:(i2 L.1 b.2.2.2.2.2.1).2≠0
 ·rw[if_pos d8,if_pos d8]
 rw[if_neg d8,if_neg d8,Ym c.m1 c.m2 c.m3 r.dR jA.aO d];simp only[aa]
 by_cases d9:(jp b.2.2.2.2.2.2.2.2.2.2.2 f.2.2.2 (i2 L.1 b.2.2.2.2.2.1).1).2≠0
 ·rw[if_pos d9,if_pos d9]
 rw[if_neg d9,if_neg d9,QS j (JZ c.m3) d];rfl
end Go.Am.Pu
