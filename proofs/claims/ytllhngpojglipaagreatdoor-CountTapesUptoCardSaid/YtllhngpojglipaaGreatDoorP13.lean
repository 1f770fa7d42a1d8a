import Derived.Test.YtllhngpojglipaaGreatDoorP12
set_option linter.unusedVariables false
set_option linter.unusedSimpArgs false
open Bool renaming and_eq_true→aj,false_eq_true→cp,not_eq_true'→aW,not_eq_true→eK,not_true→ba,or_eq_true→aB
open Int renaming toNat_natCast→ax
open Go.IntKind renaming i64→bw,wrap→ap
open List renaming drop_eq_getElem_cons→bz,drop_of_length_le→bB,drop_zero→dC,getD_eq_getElem?_getD→aG,getElem?_append_left→aQ,getElem?_eq_getElem→ah,getElem_mem→ak,getElem_of_mem→aL,length_replicate→aY,length→ae,mem_cons_of_mem→aF,mem_cons_self→aH,replicate→ao,set→aV
open Option renaming bind_some→aa
namespace Go.Am.Pu
open Go Go.Am
def Hit(e:Edg)(s c:Int):Prop:=e.1=s∧e.2.1≤c∧c≤e.2.2.1
instance (e:Edg) (s c:Int):Decidable (Hit e s c):=by unfold Hit;exact inferInstance
def afk(s c:Int):List Edg→Int
 |[]=> -1
 |e::l=>if Hit e s c then e.2.2.2 else afk s c l
theorem afl{s c:Int}:∀{l:List Edg},(∀e∈l,¬ Hit e s c)→afk s c l= -1
 |[],_=>rfl
 |e::l,h=>by
  unfold afk;rw[if_neg (h e aH)];exact afl fun x hx=>h x (aF _ hx)
theorem ann{s c:Int}:∀{l:List Edg} {i:Nat} (hi:i<l.length),(∀k (hk:k<l.length),k<i→¬ Hit l[k] s c)→Hit l[i] s c→afk s c l=l[i].2.2.2
 |e::l,0,_,_,h=>by unfold afk;rw[if_pos (show Hit e s c from h)];rfl
 |e::l,i+1,hi,h1,h=>by
  unfold afk;rw[if_neg (show ¬ Hit e s c from h1 0 (by simp) (by omega))];exact ann (l:=l) (i:=i) (by simpa using hi) (fun k hk hki=>h1 (k+1) (by simpa using hk) (by omega)) h
def wst(g:Gd)(s c:Int):Int:=afk s c g.2
theorem afm{g:Gd}{s c:Int}(h:∀i,i<g.2.length→¬ Hit (kX g i) s c):wst g s c= -1:=by
 refine afl fun e he=> ?_;obtain⟨i,hi,rfl⟩:=aL he;have:=h i hi;unfold kX at this;rw[aT hi]at this;exact this
theorem apv{g:Gd}{s c:Int}{i:Nat}(hi:i<g.2.length)(h1:∀k,k<i→¬ Hit (kX g k) s c)(h:Hit (kX g i) s c):wst g s c=(kX g i).2.2.2:=by
 have e:kX g i=g.2[i]:=by unfold kX;rw[aT hi]
 rw[e]at h ⊢;refine ann hi (fun k hk hki=> ?_) h;have:=h1 k hki;unfold kX at this;rw[aT hk]at this;exact this
theorem at6{g:Gd}(hg:zZ g){s c:Int}{i j:Nat}(hj:j<g.2.length)(hij:i<j)(h1:Hit (kX g i) s c)(h2:Hit (kX g j) s c):False:=by
 refine(hg j hj).2 i hij ⟨?_,?_,?_⟩
 ·rw[h1.1,h2.1]
 ·have:=h1.2.1;have:=h2.2.2;omega
 ·have:=h2.2.1;have:=h1.2.2;omega
theorem aza{g:Gd}(hE:Cc g){s c:Int}:wst g s c= -1∨oD g (wst g s c):=by
 by_cases h:∃i,i<g.2.length∧Hit (kX g i) s c∧∀k,k<i→¬ Hit (kX g k) s c
 ·obtain⟨i,hi,h1,h2⟩:=h;rw[apv hi h2 h1];exact .inr (hE i hi).2
 ·left;refine afm fun i=> ?_
  induction i using Nat.strongRecOn with
  |_ i ih=>
   intro hi hh;exact h ⟨i,hi,hh,fun k hk=>ih k hk (by omega)⟩
def wgo(g:Gd):Int→List UInt8→Int
 |s,[]=>s
 |s,c::t=>if wst g s (c.toNat:Int)<0 then -1 else wgo g (wst g s (c.toNat:Int)) t
theorem ano{g:Gd}{s:Int}{c:UInt8}{t:List UInt8}:wgo g s (c::t)=if wst g s (c.toNat:Int)<0 then -1 else wgo g (wst g s (c.toNat:Int)) t:=rfl
theorem at8{g:Gd}(hE:Cc g):∀{t:List UInt8} {s:Int},oD g s→wgo g s t= -1∨oD g (wgo g s t)
 |[],s,h=> .inr h
 |c::t,s,h=>by
  unfold wgo
  split
  ·exact .inl rfl
  ·rename_i h2;rcases aza hE (s:=s) (c:=(c.toNat:Int))with h3 |h3
   ·rw[h3]at h2;omega
   ·exact at8 hE h3
def DZ(g:Gd)(s:Int)(t:List UInt8):Int:=if g.1.length=0 then(if s=0 then 0 else -1)else if oD g s then wgo g s t else -1
theorem aqC{s:List UInt8}{i:Nat}(h:i<s.length):GJ s (i:Int)=some ((s[i].toNat:Nat):Int):=by
 unfold GJ;rw[lK,ax,ah h];rfl
theorem aiA{e:Edg}{s c:Int}:((e.1==s)&&(decide (e.2.1≤c)&&decide (c≤e.2.2.1)))=decide (Hit e s c):=by
 apply Bool.eq_iff_iff.2;rw[aj,aj,beq_iff_eq,bF,bF,bF];exact Iff.rfl
theorem Jz{n:Nat}{g:Gd}{t:List UInt8}(sQ:g.2.length≤1000000)(ht:t.length≤1000000000)(hE:Cc g)(hn:2000000000≤n):∀(m k i:Nat) (s:Int),i+m=t.length→m<k→
  ∃r,tN n k (s,t,(),(t.length:Int),(i:Int),g,())=some r∧((r= .inl (-1,())∧wgo g s (t.drop i)= -1)∨r= .inr (wgo g s (t.drop i),()))
 |0,k,i,s,h1,h2=>by
  obtain⟨k,rfl⟩:=iY k;rw[Do,sS,bB (by omega)];exact⟨_,rfl,.inr rfl⟩
 |m+1,k,i,s,h1,h2=>by
  obtain⟨k,rfl⟩:=iY k;have hi:i<t.length:=by omega
  rw[Do,jK,bz hi];rw[ano];rcases dc (L:=fun k j (_:Unit)=>jx n k (s,t,(),(i:Int),(t.length:Int),(i:Int),g.2,(g.2.length:Int),j,g,())) (len:=g.2.length) (fun _=>()) (fun j=>¬ Hit (kX g j) s (t[i].toNat:Int)) (fun j=> .inl ((kX g j).2.2.2,t,(),(t.length:Int),(i:Int),g,())) (.inr ()) (by
   intro k j hj _;show(_∧jx n (k+1) _=_)∨(_∧jx n (k+1) _=_);rw[Bl,jK,QK hj];simp only[aa];rw[aqC hi];simp only[aa,fM,aiA];rw[af]
   by_cases c:Hit (kX g j) s (t[i].toNat:Int)
   ·rw[if_pos (by simpa using c)];exact .inr ⟨fun h=>h c,rfl⟩
   ·rw[if_neg (by simpa using c),aN];exact .inl ⟨c,rfl⟩) (by
   intro k;show jx n (k+1) _=_;rw[Bl,af,if_neg (by simp)]) n (by omega)with⟨a1,a2⟩|⟨j,a1,a2,a3,a4⟩
  ·rw[a2,afm a1];exact⟨_,rfl,.inl ⟨rfl,by rw[lK]⟩⟩
  ·rw[a4,apv a1 a2 (Decidable.not_not.1 a3)];simp only[aa,cY];have e3:=(hE j a1).2.1;rw[gG,aN,show(i:Int)+1=((i+1:Nat):Int)by omega];exact Jz sQ ht hE hn m k (i+1) _ (by omega) (by omega)
theorem afn{n:Nat}{g:Gd}{t:List UInt8}{s:Int}(sQ:g.2.length≤1000000)(ht:t.length≤1000000000)(hE:Cc g)(hn:2000000000≤n):tM n (g,s,t)=some (DZ g s t):=by
 rw[aaC];unfold DZ;simp only[af,beq_iff_eq,bne_iff_ne,ne_eq]
 by_cases c:g.1.length=0
 ·rw[lK,if_pos c]
  by_cases d:s=0
  ·rw[if_neg (fun h=>h d),if_pos d]
  ·rw[if_pos d,if_neg d]
 rw[gG,if_neg c,EY];simp only[aa]
 by_cases d:oD g s
 ·rw[decide_eq_true d,if_pos d];simp only[ba,cp,if_false];obtain⟨r,e,h⟩:=Jz (n:=n) (g:=g) (t:=t) sQ ht hE hn t.length n 0 s (by omega) (by omega);rw[show((0:Nat):Int)=0 from rfl]at e;rw[e];rw[dC]at h;rcases h with⟨rfl,h⟩|rfl
  ·simp only[aa,cY];rw[h]
  ·rfl
 ·rw[decide_eq_false d,if_neg d];rfl
theorem JA{n:Nat}{g:Gd}{t:List UInt8}(sQ:g.2.length≤1000000)(ht:t.length≤1000000000)(hg:zZ g)(hn:2000000000≤n):∀(m k i:Nat) (s:Int),i+m=t.length→m<k→
  ∃r,rN n k (s,t,(),(i:Int),g,())=some r∧((r= .inl (-1,())∧wgo g s (t.drop i)= -1)∨r= .inr (wgo g s (t.drop i),()))
 |0,k,i,s,h1,h2=>by
  obtain⟨k,rfl⟩:=iY k;rw[BP,sS,bB (by omega)];exact⟨_,rfl,.inr rfl⟩
 |m+1,k,i,s,h1,h2=>by
  obtain⟨k,rfl⟩:=iY k;have hi:i<t.length:=by omega
  rw[BP,jK,bz hi];rw[ano];obtain⟨q,b1,b2⟩:=am2 (L:=fun k j (a:Int)=>lj n k (s,t,(),(i:Int),a,j,g,())) (len:=g.2.length)
   (fun j a=>(a= -1∧∀k,k<j→¬ Hit (kX g k) s (t[i].toNat:Int))∨∃k,k<j∧k<g.2.length∧Hit (kX g k) s (t[i].toNat:Int)∧(∀l,l<k→¬ Hit (kX g l) s (t[i].toNat:Int))∧a=(kX g k).2.2.2)
   (fun q=>q=(t,(),(i:Int),wst g s (t[i].toNat:Int),g,())) (by
   intro k j a hj hI;right;show ∃s',lj n (k+1) _=_∧_;rw[BQ,jK,QK hj];simp only[aa];rw[aqC hi];simp only[aa,fM,aiA];rw[af]
   by_cases c:Hit (kX g j) s (t[i].toNat:Int)
   ·rw[if_pos (by simpa using c)];simp only[aa];rw[aN];refine⟨_,rfl,.inr ⟨j,by omega,hj,c,fun l hl hh=> ?_,rfl⟩⟩;exact at6 hg hj hl hh c
   ·rw[if_neg (by simpa using c)];simp only[aa];rw[aN];refine⟨_,rfl,?_⟩;rcases hI with⟨h3,h4⟩|⟨k',h3,h4,h5,h6,h7⟩
    ·refine .inl ⟨h3,fun l hl=> ?_⟩
     by_cases hlj:l=j
     ·rw[hlj];exact c
     ·exact h4 l (by omega)
    ·exact .inr ⟨k',by omega,h4,h5,h6,h7⟩) (by
   intro k a hI;show ∃r,lj n (k+1) _=some r∧_;rw[BQ,af,if_neg (by simp)];refine⟨_,rfl,?_⟩;rcases hI with⟨h3,h4⟩|⟨k',h3,h4,h5,h6,h7⟩
   ·rw[afm h4,h3]
   ·rw[apv h4 h6 h5,h7]) n (-1) (by omega) (.inl ⟨rfl,fun k hk=>by omega⟩)
  rw[b1,b2];simp only[aa,af,bF]
  by_cases c:wst g s (t[i].toNat:Int)<0
  ·rw[if_pos c,if_pos c];exact⟨_,rfl,.inl ⟨rfl,rfl⟩⟩
  ·rw[if_neg c,if_neg c,aN,show(i:Int)+1=((i+1:Nat):Int)by omega];exact JA sQ ht hg hn m k (i+1) _ (by omega) (by omega)
theorem afo{n:Nat}{g:Gd}{t:List UInt8}{s:Int}(hg:abq g)(ht:t.length≤1000000000)(hn:2000000000≤n):uf n (g,s,t)=some (DZ g s t):=by
 have sQ:=hg.l2;have hl:=hg.l;obtain⟨r,e,h⟩:=Mt (n:=n) (g:=g) (by omega) hn;rw[aa2,e];unfold DZ;simp only[aa,af,beq_iff_eq,bne_iff_ne,ne_eq];rw[if_neg (fun h'=>h' (h.zero.2 hg))]
 by_cases c:g.1.length=0
 ·rw[lK,if_pos c]
  by_cases d:s=0
  ·rw[if_pos d,if_pos d]
  ·rw[if_neg d,if_neg d]
 rw[gG,if_neg c,xW];simp only[aa]
 by_cases d:oD g s
 ·rw[decide_eq_true d,if_pos d];simp only[ba,cp,if_false];obtain⟨r,e,h⟩:=JA (n:=n) (g:=g) (t:=t) (by omega) ht hg.e hn t.length n 0 s (by omega) (by omega);rw[show((0:Nat):Int)=0 from rfl]at e;rw[e];rw[dC]at h;rcases h with⟨rfl,h⟩|rfl
  ·simp only[aa,cY];rw[h]
  ·rfl
 ·rw[decide_eq_false d,if_neg d];rfl
theorem apw{n:Nat}{g:Gd}{t:List UInt8}{s:Int}(hg:abq g)(ht:t.length≤1000000000)(hn:2000000000≤n):zr n (g,s,t)=some (DZ g s t):=by
 have sQ:=hg.l2;have hl:=hg.l;obtain⟨r,e,h⟩:=Mu (n:=n) (g:=g) (by omega) hn;rw[aaD,e];simp only[aa,af,bne_iff_ne,ne_eq];rw[if_neg (fun h'=>h' (h.zero.2 hg)),afn (by omega) ht hg.e.st hn];rfl
instance (v:EW) (t:Int):Decidable (xU v t):=by unfold xU;exact inferInstance
def afp(g:Gd)(v:EW)(s t:Int):Int:=if xU v t then DZ g s (Ab v t.toNat)else -1
def EZ(g:Gd)(v:EW):Int→List Int→Int
 |s,[]=>s
 |s,t::l=>EZ g v (afp g v s t) l
theorem Mj.tl{v:EW}(h:Mj v):∀x∈v.1,x.length≤64:=by
 intro x hx;obtain⟨i,hi,rfl⟩:=aL hx;have:=(h.t i hi).2.2;unfold Ab at this;rw[aT hi]at this;exact this
theorem apx{n:Nat}{g:Gd}{v:EW}{s t:Int}(hg:abq g)(hv:Mj v)(hn:2000000000≤n):zt n (g,v,s,t)=some (afp g v s t):=by
 have E1:=hv.tl;have hvl:=hv.l;have hvm:=hv.m;obtain⟨r,e,h⟩:=Ml (n:=n) (v:=v) (by omega) (by omega) (fun x hx=>by have:=E1 x hx;omega) hn;have e0:(r.2 !=0)=false:=by simp[h.2 hv]
 rw[aaE,e];simp only[aa,eP];rw[e0,Bool.false_or];unfold afp
 by_cases c:xU v t
 ·have e1:(decide (t<1)||decide (t≥(v.1.length:Int)))=false:=by
   have:=c.1;have:=c.2;simp;omega
  rw[e1,if_pos c,cg,Um c];simp only[aa];rw[apw hg (by have:=M0 E1 t.toNat;omega) hn];rfl
 ·have e1:(decide (t<1)||decide (t≥(v.1.length:Int)))=true:=by
   unfold xU at c;simp;omega
  rw[e1,if_neg c,j9]
theorem apy{n:Nat}{g:Gd}{v:EW}{s t:Int}(hg:abq g)(hv:Mj v)(hn:2000000000≤n):zM n (g,v,s,t)=some (afp g v s t):=by
 have E1:=hv.tl;have hvl:=hv.l;have hvm:=hv.m;obtain⟨r,e,h⟩:=Mk (n:=n) (v:=v) (by omega) (by omega) (fun x hx=>by have:=E1 x hx;omega) hn;have e0:(r.2 !=0)=false:=by simp[h.2 hv]
 rw[aa3,e];simp only[aa,eP];rw[e0,Bool.false_or];unfold afp
 by_cases c:xU v t
 ·have e1:(decide (t≤0)||decide (t≥(v.1.length:Int)))=false:=by
   have:=c.1;have:=c.2;simp;omega
  rw[e1,if_pos c,cg,Um c];simp only[aa];rw[afo hg (by have:=M0 E1 t.toNat;omega) hn];rfl
 ·have e1:(decide (t≤0)||decide (t≥(v.1.length:Int)))=true:=by
   unfold xU at c;simp;omega
  rw[e1,if_neg c,j9]
theorem anp{n:Nat}{g:Gd}{v:EW}{l:List Int}(hg:abq g)(hv:Mj v)(hl:l.length≤1000000000)(hn:2000000000≤n):qS n (g,v,l)=some (EZ g v 0 l):=by
 have key:∀(m k i:Nat) (s:Int),i+m=l.length→m<k→rz n k ((),(),s,l,(l.length:Int),(i:Int),g,v,())=some (EZ g v s (l.drop i),()):=by
  intro m
  induction m with
  |zero=>
   intro k i s h1 h2;obtain⟨k,rfl⟩:=iY k;rw[Bm,sS,bB (by omega)];rfl
  |succ m ih=>
   intro k i s h1 h2;obtain⟨k,rfl⟩:=iY k;have hi:i<l.length:=by omega
   rw[Bm,jK,bj hi];simp only[aa];rw[apx hg hv hn];simp only[aa];rw[aN,show(i:Int)+1=((i+1:Nat):Int)by omega,ih k (i+1) _ (by omega) (by omega),bz hi];rfl
 have h:=key l.length n 0 0 (by omega) (by omega);rw[show((0:Nat):Int)=0 from rfl]at h;rw[Wp,h];rfl
theorem anq{n:Nat}{g:Gd}{v:EW}{l:List Int}(hg:abq g)(hv:Mj v)(hl:l.length≤1000000000)(hn:2000000000≤n):q8 n (g,v,l)=some (EZ g v 0 l):=by
 have key:∀(m k i:Nat) (s:Int),i+m=l.length→m<k→rO n k (l,(),(),s,(i:Int),g,v,())=some (EZ g v s (l.drop i),()):=by
  intro m
  induction m with
  |zero=>
   intro k i s h1 h2;obtain⟨k,rfl⟩:=iY k;rw[BR,sS,bB (by omega)];rfl
  |succ m ih=>
   intro k i s h1 h2;obtain⟨k,rfl⟩:=iY k;have hi:i<l.length:=by omega
   rw[BR,jK,bj hi];simp only[aa];rw[apy hg hv hn];simp only[aa];rw[aN,show(i:Int)+1=((i+1:Nat):Int)by omega,ih k (i+1) _ (by omega) (by omega),bz hi];rfl
 have h:=key l.length n 0 0 (by omega) (by omega);rw[show((0:Nat):Int)=0 from rfl]at h;rw[WQ,h];rfl
def StM(g:Gd)(s:Int):Prop:=s= -1∨oD g s∨(g.1.length=0∧s=0)
theorem afq{g:Gd}(hE:Cc g){s:Int}{t:List UInt8}:StM g (DZ g s t):=by
 unfold DZ
 by_cases c:g.1.length=0
 ·rw[if_pos c]
  split
  ·exact .inr (.inr ⟨c,rfl⟩)
  ·exact .inl rfl
 ·rw[if_neg c]
  split
  ·rename_i h;rcases at8 hE (t:=t) h with h |h
   ·exact .inl h
   ·exact .inr (.inl h)
  ·exact .inl rfl
theorem aiB{g:Gd}{v:EW}(hE:Cc g):∀{l:List Int} {s:Int},StM g s→StM g (EZ g v s l)
 |[],s,h=>h
 |t::l,s,h=>aiB (s:=afp g v s t) hE (by
  unfold afp
  split
  ·exact afq hE
  ·exact .inl rfl)
theorem awr{g:Gd}:StM g 0:=by
 by_cases c:g.1.length=0
 ·exact .inr (.inr ⟨c,rfl⟩)
 ·exact .inr (.inl ⟨by omega,by omega⟩)
def afr(g:Gd)(v:EW)(s:Int)(i:Nat):Prop:=s≠-1∧(g.1.length=0∨(0≤DZ g s (Ab v i)∧Liv g (DZ g s (Ab v i))))
def arL(g:Gd)(s:Int):Prop:=s≠-1∧(g.1.length=0∨g.1.getD s.toNat false=true)
structure Xi (g:Gd) (v:EW) (s:Int) (m:List Bool):Prop where
 len:m.length=v.1.length
 t:∀i,0<i→i<v.1.length→(m.getD i false=true↔afr g v s i)
 z:m.getD 0 false=true↔(arL g s∨∀i,0<i→i<v.1.length→¬ afr g v s i)
theorem arM{g:Gd}{v:EW}{s:Int}{a b:List Bool}(ha:Xi g v s a)(hb:Xi g v s b):a=b:=by
 refine List.ext_getElem (by rw[ha.len,hb.len]) fun i h1 h2=> ?_;have hi:i<v.1.length:=by rw[←ha.len];exact h1
 have h3:a.getD i false=true↔b.getD i false=true:=by
  by_cases h0:i=0
  ·subst h0;exact ha.z.trans hb.z.symm
  ·exact(ha.t i (by omega) hi).trans (hb.t i (by omega) hi).symm
 rw[aT h1,aT h2]at h3;exact Bool.eq_iff_iff.2 h3
theorem arN{g:Gd}{v:EW}{s:Int}{m:List Bool}(h:Xi g v s m)(hv:2≤v.1.length):true∈m:=by
 by_cases c:∃i,0<i∧i<v.1.length∧afr g v s i
 ·obtain⟨i,h1,h2,h3⟩:=c;have h4:=(h.t i h1 h2).2 h3;have hl:i<m.length:=by rw[h.len];exact h2
  rw[aT hl]at h4;rw[←h4];exact ak hl
 ·have h4:=h.z.2 (.inr fun i h1 h2 h3=>c ⟨i,h1,h2,h3⟩);have hl:0<m.length:=by rw[h.len];omega
  rw[aT hl]at h4;rw[←h4];exact ak hl
theorem afs{V:Nat}(hV:0<V){b:Bool}(i:Nat):((ao V false).set 0 b).getD i false=if i=0 then b else false:=by
 rw[il (by simpa using hV)]
 split
 ·rfl
 ·exact apr _ _
theorem JB{n:Nat}{V:Nat}(hV:V≤1000000):∀(m k i:Nat) (out:List Bool),i+m=V→m<k→out.length=V→(∀j,j<i→out.getD j false=true)→
  ∃out',rA n k ((),(V:Int),(i:Int),out,())=some ((),out',())∧out'.length=V∧∀j,j<V→out'.getD j false=true
 |0,k,i,out,h1,h2,h3,h4=>by
  obtain⟨k,rfl⟩:=iY k;rw[Bo,sS];exact⟨out,rfl,h3,fun j hj=>h4 j (by omega)⟩
 |m+1,k,i,out,h1,h2,h3,h4=>by
  obtain⟨k,rfl⟩:=iY k;have hi:i<out.length:=by omega
  rw[Bo,jK,ej hi];simp only[aa];rw[ah hi];simp only[aa];rw[aN,show(i:Int)+1=((i+1:Nat):Int)by omega];refine JB hV m k (i+1) _ (by omega) (by omega) (by simpa using h3) fun j hj=> ?_;rw[il hi]
  split
  ·rfl
  ·exact h4 j (by omega)
structure M25 (g:Gd) (v:EW) (s:Int) (a0:Bool) (out:List Bool) (some_:Bool) (i:Nat):Prop where
 len:out.length=v.1.length
 z:out.getD 0 false=a0
 t:∀j,0<j→j<i→(out.getD j false=true↔afr g v s j)
 s:some_=true↔(a0=true∨∃j,0<j∧j<i∧afr g v s j)
theorem aqD{g:Gd}{live:List Bool}{x:Int}(h:zY g live)(hx:oD g x):∃b,idx live x=some b∧(b=true↔Liv g x):=by
 obtain⟨k,rfl⟩:∃k:Nat,x=(k:Int):=⟨x.toNat,by have:=hx.1;omega⟩;have hk:k<live.length:=by rw[h.1];have:=hx.2;omega
 exact⟨_,qC hk false,h.2 k (by have:=hx.2;omega)⟩
theorem yt{n:Nat}{g:Gd}{v:EW}{s:Int}{live:List Bool}{a0:Bool}(hs:oD g s)(XA:zY g live)(hE:Cc g)(sQ:g.2.length≤1000000)(hv:v.1.length≤1000)(ht:∀x∈v.1,x.length≤64)(hn:2000000000≤n):∀(m k i:Nat) (out:List Bool) (so:Bool),i+m=v.1.length→m<k→0<i→M25 g v s a0 out so i→
  ∃out' so',jy n k (s,(),(),(),live,so,(i:Int),g,v,out,())=some ((),so',out',())∧M25 g v s a0 out' so' v.1.length
 |0,k,i,out,so,h1,h2,h0,h=>by
  obtain⟨k,rfl⟩:=iY k;have hlen:=h.len;rw[Bp,sS];have:i=v.1.length:=by omega
  subst this;exact⟨out,so,rfl,h⟩
 |m+1,k,i,out,so,h1,h2,h0,h=>by
  obtain⟨k,rfl⟩:=iY k;have hlen:=h.len;have hi:i<v.1.length:=by omega
  have ho:i<out.length:=by omega
  have hfree:¬ g.1.length=0:=by have:=hs.1;have:=hs.2;omega
  have hsm:s≠-1:=by have:=hs.1;omega
  rw[Bp,jK,Xd hi];simp only[aa];have htx:=M0 ht i;rw[afn sQ (by omega) hE hn];simp only[aa];have e:(i:Int)+1=((i+1:Nat):Int):=by omega
  have step:∀b:Bool,(b=true↔afr g v s i)→(((ck (i:Int) (ae out))).bind fun v4=>((out)[v4]?).bind fun _=>
    (av so (some true) (((ck (i:Int) (ae (aV out v4 b)))).bind fun v7=>(((aV out v4 b))[v7]?).bind fun v8=>some v8)).bind fun v6=>
    jy n k (s,((),((),((),(live,(v6,((ap bw ((i:Int)+(1:Int))),(g,(v,((aV out v4 b),())))))))))))=jy n k (s,(),(),(),live,so||b,((i+1:Nat):Int),g,v,out.set i b,())∧M25 g v s a0 (out.set i b) (so||b) (i+1):=by
   intro b hb;constructor
   ·rw[ej ho];simp only[aa];rw[ah ho];simp only[aa];rw[ej (by simpa using ho)];simp only[aa];rw[ah (by simpa using ho)];simp only[aa];rw[List.getElem_set_self,eP];simp only[aa];rw[aN,e]
   ·refine⟨by simpa using hlen,?_,fun j hj0 hj=> ?_,?_⟩
    ·rw[il ho,gG];exact h.z
    ·rw[il ho]
     by_cases hji:j=i
     ·subst hji;rw[if_pos rfl];exact hb
     ·rw[if_neg hji];exact h.t j hj0 (by omega)
    ·rw[aB,h.s];constructor
     ·rintro((h3 |⟨j,h3,h4,h5⟩)|h3)
      ·exact .inl h3
      ·exact .inr ⟨j,h3,by omega,h5⟩
      ·exact .inr ⟨i,h0,by omega,hb.1 h3⟩
     ·rintro(h3 |⟨j,h3,h4,h5⟩)
      ·exact .inl (.inl h3)
      ·by_cases hji:j=i
       ·subst hji;exact .inr (hb.2 h5)
       ·exact .inl (.inr ⟨j,h3,by omega,h5⟩)
  rw[af];have hw:=afq (t:=Ab v i) (s:=s) hE
  by_cases c:0≤DZ g s (Ab v i)
  ·have hst:oD g (DZ g s (Ab v i)):=by
    rcases hw with h3 |h3 |h3
    ·omega
    ·exact h3
    ·exact absurd h3.1 hfree
   obtain⟨b,b1,b2⟩:=aqD XA hst;rw[if_pos (by rw[bF];omega),b1];simp only[aa];obtain⟨s1,s2⟩:=step b (b2.trans ⟨fun h=>⟨hsm,.inr ⟨c,h⟩⟩,fun h=>by
    rcases h.2 with h |h
    ·exact absurd h hfree
    ·exact h.2⟩)
   rw[s1];exact yt hs XA hE sQ hv ht hn m k (i+1) _ _ (by omega) (by omega) (by omega) s2
  ·rw[if_neg (by rw[bF];omega)];obtain⟨s1,s2⟩:=step false ⟨fun h=>(by cases h),fun h=>by
    rcases h.2 with h |h
    ·exact absurd h hfree
    ·exact absurd h.1 c⟩
   rw[s1];exact yt hs XA hE sQ hv ht hn m k (i+1) _ _ (by omega) (by omega) (by omega) s2
theorem apz{n:Nat}{g:Gd}{v:EW}{s:Int}(hg:abq g)(hv:Mj v)(hs:StM g s)(hn:2000000000≤n):∃m,tO n (g,v,s)=some (m,0)∧Xi g v s m:=by
 have E1:=hv.tl;have hvl:=hv.l;have hv2:=hv.l2;have hvm:=hv.m;have hgl:=hg.l;have aEd:=hg.l2;obtain⟨r,e,h⟩:=Ml (n:=n) (v:=v) (by omega) (by omega) (fun x hx=>by have:=E1 x hx;omega) hn;obtain⟨q,e2,h2⟩:=Mu (n:=n) (g:=g) (by omega) hn;rw[aaF,e];simp only[aa];rw[show(r.2 !=0)=false by simp[h.2 hv],cg,e2];simp only[aa];rw[show(q.2 !=0)=false by simp[h2.zero.2 hg],cg,EY];have e3:(av (s !=(-(1:Int))) ((some (decide (oD g s))).bind fun v4=>av (!v4) (av ((((ae g.1):Nat):Int)==(0:Int)) (some (!(s==(0:Int)))) (some (!false))) (some false)) (some false))=some false:=by
  rcases hs with rfl |hs |⟨h3,rfl⟩
  ·rfl
  ·rw[decide_eq_true hs]
   cases(s !=(-(1:Int)))<;>rfl
  ·rw[show((((ae g.1):Nat):Int)==(0:Int))=true by rw[h3];rfl]
   cases(decide (oD g 0))<;>rfl
 rw[e3];simp only[aa,cg];rw[gY (m:=v.1.length) rfl (by omega) (by omega)];simp only[aa];have hl0:0<(ao v.1.length false).length:=by simp;omega
 have hck:=ej hl0;rw[show((0:Nat):Int)=0 from rfl]at hck;have alO:(ao v.1.length false)[0]? =some false:=by rw[ah hl0];simp
 rw[hck];simp only[aa];rw[alO];simp only[aa]
 by_cases c1:s= -1
 ·rw[show(s==(-(1:Int)))=true by rw[c1];rfl,j9];refine⟨_,rfl,by simp,fun i h3 h4=> ?_,?_⟩
  ·rw[afs (by omega),gG];exact⟨fun h=>(by cases h),fun h=>absurd c1 h.1⟩
  ·rw[afs (by omega),if_pos rfl];exact⟨fun _=> .inr fun i h3 h4 h5=>h5.1 c1,fun _=>rfl⟩
 rw[show(s==(-(1:Int)))=false from beq_eq_false_iff_ne.2 c1,cg]
 by_cases c2:g.1.length=0
 ·rw[show((((ae g.1):Nat):Int)==(0:Int))=true by rw[c2];rfl,j9];obtain⟨out,o1,o2,o3⟩:=JB (n:=n) (V:=v.1.length) (by omega) v.1.length n 0 (ao v.1.length false) (by omega) (by omega) (by simp) (fun j hj=>by omega);rw[show((0:Nat):Int)=0 from rfl]at o1;rw[aY,o1];refine⟨_,rfl,o2,fun i h3 h4=>⟨fun _=>⟨c1,.inl c2⟩,fun _=>o3 i h4⟩,fun _=> .inl ⟨c1,.inl c2⟩,fun _=>o3 0 (by omega)⟩
 rw[show((((ae g.1):Nat):Int)==(0:Int))=false by rw[beq_eq_false_iff_ne];omega,cg];have hst:oD g s:=by
  rcases hs with h3 |h3 |h3
  ·exact absurd h3 c1
  ·exact h3
  ·exact absurd h3.1 c2
 obtain⟨live,v1,v2⟩:=YL (n:=n) hg.e.st (by omega) (by omega) hn;rw[v1];simp only[aa];obtain⟨k,rfl⟩:∃k:Nat,s=(k:Int):=⟨s.toNat,by have:=hst.1;omega⟩;have hk:k<g.1.length:=by have:=hst.2;omega
 rw[qC hk false];simp only[aa];obtain⟨out,so,o1,o2⟩:=yt (n:=n) (a0:=g.1.getD k false) hst v2 hg.e.st (by omega) (by omega) E1 hn (v.1.length -1) n 1 ((ao v.1.length false).set 0 (g.1.getD k false)) (g.1.getD k false) (by omega) (by omega) (by omega)
  ⟨by simp,by rw[afs (by omega),if_pos rfl],fun j h3 h4=>by omega,⟨fun h=> .inl h,fun h=>by
   rcases h with h |⟨j,h3,h4,h5⟩
   ·exact h
   ·omega⟩⟩
 rw[show((1:Nat):Int)=1 from rfl]at o1;rw[o1];simp only[aa];have ho0:0<out.length:=by rw[o2.len];omega
 have aBQ:=ej ho0;rw[show((0:Nat):Int)=0 from rfl]at aBQ;have hz:=o2.z;rw[aBQ];simp only[aa];rw[ah ho0];simp only[aa];have hg0:out.getD 0 false=out[0]:=aT ho0 false;have hm0:arL g (k:Int)↔g.1.getD k false=true:=by
  unfold arL;rw[ax];exact⟨fun h=>h.2.resolve_left c2,fun h=>⟨c1,.inr h⟩⟩
 have fin:∀b:Bool,(b=true↔(g.1.getD k false=true∨∀i,0<i→i<v.1.length→¬ afr g v k i))→Xi g v k (out.set 0 b):=by
  intro b hb;refine⟨by simpa using o2.len,fun i h3 h4=> ?_,?_⟩
  ·rw[il ho0,gG];exact o2.t i h3 h4
  ·rw[il ho0,if_pos rfl,hm0];exact hb
 rw[←hg0,hz]
 cases hb:g.1.getD k false with
 |true=>
  refine⟨_,rfl,fin true ⟨fun _=> .inl hb,fun _=>rfl⟩⟩
 |false=>
  refine⟨_,rfl,fin (!so) ?_⟩;rw[aW,←eK,o2.s,hb];constructor
  ·intro h3;exact .inr fun i h4 h5 h6=>h3 (.inr ⟨i,h4,h5,h6⟩)
  ·rintro(h3 |h3)
   ·cases h3
   ·rintro(h4 |⟨j,h4,h5,h6⟩)
    ·cases h4
    ·exact h3 j h4 h5 h6
def Mv(g:Gd)(v:EW)(s:Int)(i:Nat):Prop:=if i=0 then arL g s else afr g v s i
theorem JC{n:Nat}{g:Gd}{v:EW}{s:Int}{live:List Bool}(hs:StM g s)(XA:zY g live)(hg:abq g)(hv:v.1.length≤1000)(ht:∀x∈v.1,x.length≤64)(hn:2000000000≤n):∀(m k i:Nat) (H:List (Option (List Bool))) (x:Option (Nat×Nat×Nat)) (so:Bool) (out:List Bool),i+m=v.1.length→m<k→sP H x=some out→out.length=i→
  (∀j,j<i→(out.getD j false=true↔Mv g v s j))→(so=true↔∃j,j<i∧Mv g v s j)→
  ∃H' x' so' out',oo n k (s,(),(),decide ((g.1.length:Int)>0),live,x,so,(i:Int),H,g,v,())=some (x',so',H',())∧sP H' x'=some out'∧out'.length=v.1.length∧(∀j,j<v.1.length→(out'.getD j false=true↔Mv g v s j))∧(so'=true↔∃j,j<v.1.length∧Mv g v s j)
 |0,k,i,H,x,so,out,h1,h2,h3,h4,h5,h6=>by
  obtain⟨k,rfl⟩:=iY k;rw[BS,sS];have:i=v.1.length:=by omega
  subst this;exact⟨H,x,so,out,rfl,h3,h4,h5,h6⟩
 |m+1,k,i,H,x,so,out,h1,h2,h3,h4,h5,h6=>by
  obtain⟨k,rfl⟩:=iY k;have hi:i<v.1.length:=by omega
  have htx:=M0 ht i;rw[BS,jK];simp only[fM,aa];have step:∀b:Bool,(b=true↔Mv g v s i)→∃H' x' so' out',(((gsA (1:Nat) H x [b])).bind fun v10=>(av so (some true) (some b)).bind fun v11=>
   oo n k (s,((),((),((decide ((g.1.length:Int)>0)),(live,(v10.2,(v11,((ap bw ((i:Int)+(1:Int))),(v10.1,(g,(v,()))))))))))))=some (x',so',H',())∧sP H' x'=some out'∧out'.length=v.1.length∧(∀j,j<v.1.length→(out'.getD j false=true↔Mv g v s j))∧(so'=true↔∃j,j<v.1.length∧Mv g v s j):=by
   intro b hb;obtain⟨H',x',a1,a2⟩:=M6 (b:=1) (m:=[b]) h3 (by simp;omega) (by omega);rw[a1,eP];simp only[aa];rw[aN,show(i:Int)+1=((i+1:Nat):Int)by omega];refine JC hs XA hg hv ht hn m k (i+1) H' x' (so||b) (out++[b]) (by omega) (by omega) a2 (by simp;omega) (fun j hj=> ?_) ?_
   ·by_cases hji:j=i
    ·subst hji;have:(out++[b]).getD j false=b:=by rw[←h4];simp
     rw[this];exact hb
    ·have:(out++[b]).getD j false=out.getD j false:=by
      rw[aG,aG,aQ (by omega)]
     rw[this];exact h5 j (by omega)
   ·rw[aB,h6,hb];constructor
    ·rintro(⟨j,h7,h8⟩|h7)
     ·exact⟨j,by omega,h8⟩
     ·exact⟨i,by omega,h7⟩
    ·rintro⟨j,h7,h8⟩
     by_cases hji:j=i
     ·subst hji;exact .inr h8
     ·exact .inl ⟨j,by omega,h8⟩
  by_cases c1:s= -1
  ·subst c1;have e1:∀q:Bool,(q&&(decide ((-1:Int)≥0)&&((i:Int)==0)))=false:=fun q=>by cases q<;>rfl
   have e2:∀q:Bool,(q&&(decide ((-1:Int)≥0)&&decide ((i:Int)>0)))=false:=fun q=>by cases q<;>rfl
   have e3:∀q:Bool,(q&&((-1:Int)==0))=false:=fun q=>by cases q<;>rfl
   rw[e1,e2,e3];simp only[cg,aa];exact step false ⟨fun h=>(by cases h),fun h=>by
    unfold Mv at h
    split at h
    ·exact absurd rfl h.1
    ·exact absurd rfl h.1⟩
  by_cases c2:g.1.length=0
  ·have c3:s=0:=by
    rcases hs with h |h |h
    ·exact absurd h c1
    ·have:=h.1;have:=h.2;omega
    ·exact h.2
   subst c3;have e0:decide ((g.1.length:Int)>0)=false:=by rw[c2];rfl
   rw[e0]at step ⊢;simp only[Bool.not_false,Bool.true_and,Bool.false_and,cg,aa];exact step true ⟨fun _=>by
    unfold Mv
    split
    ·exact⟨by omega,.inl c2⟩
    ·exact⟨by omega,.inl c2⟩,fun _=>rfl⟩
  have hst:oD g s:=by
   rcases hs with h |h |h
   ·exact absurd h c1
   ·exact h
   ·exact absurd h.1 c2
  have e0:decide ((g.1.length:Int)>0)=true:=by rw[bF];omega
  have e1:decide (s≥0)=true:=by rw[bF];exact hst.1
  rw[e0]at step ⊢;rw[e1];simp only[ba,Bool.true_and,Bool.false_and]
  by_cases c4:i=0
  ·subst c4;rw[show(((0:Nat):Int)==0)=true from rfl,show decide (((0:Nat):Int)>0)=false from rfl,j9];obtain⟨k',hk'⟩:∃k':Nat,s=(k':Int):=⟨s.toNat,by have:=hst.1;omega⟩;have hk2:k'<g.1.length:=by have:=hst.2;omega
   rw[show idx g.1 s=some (g.1.getD k' false)by rw[hk'];exact qC hk2 false];simp only[aa,cg];refine step _ ?_;unfold Mv arL;rw[if_pos rfl,hk',ax];exact⟨fun h=>⟨by omega,.inr h⟩,fun h=>h.2.resolve_left c2⟩
  ·rw[show((i:Int)==0)=false by rw[beq_eq_false_iff_ne];omega,show decide ((i:Int)>0)=true by rw[bF];omega];simp only[cg,j9,aa];rw[Xd hi];simp only[aa];rw[afo hg (by omega) hn];simp only[aa];have hw:=afq (t:=Ab v i) (s:=s) hg.e.st;rw[af]
   by_cases c:0≤DZ g s (Ab v i)
   ·have aEe:oD g (DZ g s (Ab v i)):=by
     rcases hw with h |h |h
     ·omega
     ·exact h
     ·exact absurd h.1 c2
    obtain⟨b,b1,b2⟩:=aqD XA aEe;rw[if_pos (by rw[bF];omega),b1];simp only[aa];refine step b ?_;unfold Mv afr;rw[if_neg c4,b2];exact⟨fun h=>⟨c1,.inr ⟨c,h⟩⟩,fun h=>(h.2.resolve_left c2).2⟩
   ·rw[if_neg (by rw[bF];omega)];simp only[aa];refine step false ?_;unfold Mv afr;rw[if_neg c4];exact⟨fun h=>(by cases h),fun h=>absurd (h.2.resolve_left c2).1 c⟩
theorem aft{α:Type}{H:List (Option (List α))}{x:Option (Nat×Nat×Nat)}{l:List α}(h:sP H x=some l):∃H',gsF H x=some (l,H'):=by
 match x with
 |none=>cases h;exact⟨_,rfl⟩
 |some (o,a,c)=>
  unfold gsF;simp only[h];exact⟨_,rfl⟩
theorem apA{n:Nat}{g:Gd}{v:EW}{s:Int}(hg:abq g)(hv:Mj v)(hs:StM g s)(hn:2000000000≤n):∃m,ug n (g,v,s)=some (m,0)∧Xi g v s m:=by
 have E1:=hv.tl;have hvl:=hv.l;have hv2:=hv.l2;have hvm:=hv.m;have hgl:=hg.l;have aEd:=hg.l2;obtain⟨r,e,h⟩:=Mk (n:=n) (v:=v) (by omega) (by omega) (fun x hx=>by have:=E1 x hx;omega) hn;obtain⟨q,e2,h2⟩:=Mt (n:=n) (g:=g) (by omega) hn;rw[aa4,e];simp only[aa];rw[show(r.2 !=0)=false by simp[h.2 hv],cg,e2];simp only[aa];rw[show(q.2 !=0)=false by simp[h2.zero.2 hg],cg,xW];have e3:(av (s !=(-(1:Int))) (av (decide ((((ae g.1):Nat):Int)>(0:Int)))
      ((some (decide (oD g s))).bind fun v6=>av (!v6) (some true) (av (!(decide ((((ae g.1):Nat):Int)>(0:Int)))) (some (s !=(0:Int))) (some false)))
      (av (!(decide ((((ae g.1):Nat):Int)>(0:Int)))) (some (s !=(0:Int))) (some false))) (some false))=some false:=by
  rcases hs with rfl |hs |⟨h3,rfl⟩
  ·rfl
  ·have:decide ((((ae g.1):Nat):Int)>(0:Int))=true:=by rw[bF];have:=hs.1;have:=hs.2;omega
   rw[decide_eq_true hs,this]
   cases(s !=(-(1:Int)))<;>rfl
  ·rw[show decide ((((ae g.1):Nat):Int)>(0:Int))=false by rw[h3];rfl];rfl
 rw[e3];simp only[aa,cg];obtain⟨live,v1,v2⟩:=YM (n:=n) hg.e.st (by omega) (by omega) hn;rw[v1];simp only[aa];obtain⟨H,x,so,out,o1,o2,o3,o4,o5⟩:=JC (n:=n) hs v2 hg (by omega) E1 hn v.1.length n 0 (eR [] []) (some (0,0,0)) false [] (by omega) (by omega) UD rfl (fun j hj=>by omega) ⟨fun h=>(by cases h),fun h=>by obtain⟨j,hj,-⟩:=h;omega⟩;rw[show((0:Nat):Int)=0 from rfl]at o1;rw[o1];simp only[aa];have hz:Mv g v s 0↔arL g s:=by unfold Mv;rw[if_pos rfl]
 have ht:∀i,0<i→(Mv g v s i↔afr g v s i):=fun i hi=>by unfold Mv;rw[gG]
 have ho0:0<out.length:=by omega
 cases so with
 |true=>
  simp only[ba,cg,aa];obtain⟨H',h3⟩:=aft o2;rw[h3];refine⟨out,rfl,o3,fun i h4 h5=>(o4 i h5).trans (ht i h4),?_⟩;rw[o4 0 (by omega),hz];constructor
  ·exact .inl
  ·rintro(h6 |h6)
   ·exact h6
   ·obtain⟨j,h7,h8⟩:=o5.1 rfl
    by_cases hj:j=0
    ·subst hj;exact hz.1 h8
    ·exact absurd ((ht j (by omega)).1 h8) (h6 j (by omega) h7)
 |false=>
  simp only[Bool.not_false,j9];obtain⟨p,w,q1,q2,q3,q4,q5⟩:=aiz o2 ho0;obtain⟨H',u1,u2⟩:=q5 true;rw[q1];simp only[aa];rw[show((0:Nat):Int)=0 from rfl]at q2;rw[q2];simp only[aa];rw[q3];simp only[aa];rw[q4];simp only[aa];rw[u1];simp only[aa];rw[q1]at u2;obtain⟨H'',h3⟩:=aft u2;rw[h3];have none_:∀j,j<v.1.length→¬ Mv g v s j:=fun j hj h=>by have:=o5.2 ⟨j,hj,h⟩;cases this
  refine⟨out.set 0 true,rfl,by simpa using o3,fun i h4 h5=> ?_,?_⟩
  ·rw[il ho0,gG];exact(o4 i h5).trans (ht i h4)
  ·rw[il ho0,if_pos rfl];exact⟨fun _=> .inr fun i h6 h7 h8=>none_ i h7 ((ht i h6).2 h8),fun _=>rfl⟩
end Go.Am.Pu
