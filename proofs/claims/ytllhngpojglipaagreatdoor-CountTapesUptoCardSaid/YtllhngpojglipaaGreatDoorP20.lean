import Derived.Test.YtllhngpojglipaaGreatDoorP19
import Derived.Test.YtllhngpojglipaaGreatDoorP9
import Derived.Test.YtllhngpojglipaaGreatDoorP10
import Derived.Test.YtllhngpojglipaaGreatDoorE7
set_option linter.unusedVariables false
set_option linter.unusedSimpArgs false
open Bool renaming and_eq_true→aj,not_eq_true'→aW,not_eq_true→eK,not_true→ba,or_eq_true→aB
open Int renaming ediv_nonneg→fv,mul_le_mul→dR,mul_nonneg→dq,pow_pos→fp,pow_succ→dP,toNat_natCast→ax
open Go.IntKind renaming wrap→ap
open List renaming getD_eq_getElem?_getD→aG,getElem?_eq_getElem→ah,getElem_mem→ak,getElem_of_mem→aL,length_cons→aZ,length_drop→dI,length_take→aC,length→ae,mem_cons_self→aH,take_append_drop→cH,take_length→ch,take_zero→fm
open Option renaming bind_some→aa
namespace Go.Am.Pu
open Go Go.Am
noncomputable def wI(n:Nat)(m:Mod)(r:Rq)(said:List Int):List Int:=((jJ n (m,r,said)).getD ([],0)).1
noncomputable def ak3(n:Nat)(m:Mod)(r:Rq)(said:List Int)(i:Nat):Int:=(wI n m r (said.take i)).getD (said.getD i 0).toNat 0
noncomputable def abu(n:Nat)(m:Mod)(r:Rq)(said:List Int):List Int:=dX (ak3 n m r said) said.length
structure MD (m:Mod) (r:Rq) (said:List Int):Prop where
 w:MC m r (said.take (said.length -1))
 t:Xn m said
 b:1≤r.2.2.1∧r.2.2.1≤512
theorem MC.len{m:Mod}{r:Rq}{s:List Int}(h:MC m r s):r.1.length+s.length≤512:=by
 obtain⟨D,H,half,C,Hd,V,L,ho⟩:=h.v.1.2.2.2;have:=h.c;have:=ho.c;have:=ho.uX.cm;omega
theorem MD.len{m:Mod}{r:Rq}{s:List Int}(h:MD m r s):s.length≤512:=by
 have:=h.w.len;have:=List.length_pos_iff.2 h.w.pr;rw[aC]at*;omega
theorem ak4{n:Nat}{m:Mod}{r:Rq}{said:List Int}(hm:Xm m)(hr:OkR r)(hw:MC m r said)(hn:2000000000≤n):
  jg n (m,r,said)=some (wI n m r said,0)∧jJ n (m,r,said)=some (wI n m r said,0)∧((wI n m r said).length:Int)=m.1.1∧(∀x∈wI n m r said,0≤x∧x≤2^r.2.1.2.2.2.2.1.toNat)∧(wI n m r said).sum=2^r.2.1.2.2.2.2.1.toNat:=by
 obtain⟨w,e,h1,h2,h3⟩:=UM (n:=n) hm hr (said:=said) (by have:=hw.len;omega) hn;have hwi:wI n m r said=w:=by unfold wI;rw[h2];rfl
 have ht:JQ r.2.1.2.2.2.2.1=2^r.2.1.2.2.2.2.1.toNat:=by unfold JQ;rw[if_pos hw.p.bits]
 rcases h3 with⟨-,rfl,h4,h5,h6⟩|⟨h,-,-⟩
 ·rw[hwi,←ht];exact⟨h1,h2,h4,h5,h6⟩
 ·exact absurd hw h
theorem ab1{n:Nat}{m:Mod}{r:Rq}{said:List Int}(hm:Xm m)(hr:OkR r)(hp:MD m r said)(hn:2000000000≤n){i:Nat}(hi:i<said.length):
  0≤ak3 n m r said i∧ak3 n m r said i≤2^r.2.1.2.2.2.2.1.toNat∧ak3 n m r said i≤4294967296∧
  MC m r (said.take i)∧idx (wI n m r (said.take i)) (said.getD i 0)=some (ak3 n m r said i):=by
 have hw:MC m r (said.take i):=by
  have:=hp.w.take i;rw[List.take_take,show min i (said.length -1)=i by omega]at this;exact this
 obtain⟨-,-,h3,h4,-⟩:=ak4 hm hr hw hn;have ht:=hp.t (said.getD i 0) (by rw[aG,ah hi];exact ak hi);obtain⟨t,htt⟩:∃t:Nat,said.getD i 0=(t:Int):=⟨(said.getD i 0).toNat,by omega⟩;have hlt:t<(wI n m r (said.take i)).length:=by omega
 have hf:ak3 n m r said i=(wI n m r (said.take i)).getD t 0:=by unfold ak3;rw[htt,ax]
 have hmem:(wI n m r (said.take i)).getD t 0∈wI n m r (said.take i):=by rw[aG,ah hlt];exact ak hlt
 have hr4:=h4 _ hmem;have htp:=UA hp.w.p.bits;rw[hf,htt];exact⟨hr4.1,hr4.2,by omega,hw,fk hlt⟩
theorem azg{n:Nat}{m:Mod}{r:Rq}{said:List Int}{o:List Int×Unit}(hs:said.length≤1048576)(hn:2000000000≤n){j:Nat}(hj:j=said.length -1):
  (Xn m (said.drop j)∧jq n n (said,(),(),(),said.drop j,(((said.drop j).length:Nat):Int),0,m,r,o,())=some (.inr (said,(),(),(),m,r,o,()))∧
    lF n n (said,(),(),said.drop j,(((said.drop j).length:Nat):Int),0,m,r,())=some (.inr (said,(),(),m,r,())))∨
  (¬ Xn m (said.drop j)∧jq n n (said,(),(),(),said.drop j,(((said.drop j).length:Nat):Int),0,m,r,o,())=some (.inl ((),133,([],()),()))∧
    lF n n (said,(),(),said.drop j,(((said.drop j).length:Nat):Int),0,m,r,())=some (.inl ([],133,()))):=by
 obtain⟨n,rfl⟩:∃k,n=k+2:=⟨n -2,by omega⟩;obtain⟨N,hN⟩:∃N,N=n+2:=⟨_,rfl⟩;obtain⟨o0,ou⟩:=o;rcases hd:said.drop j with _ |⟨x,l⟩
 ·left;refine⟨fun t ht=>absurd ht List.not_mem_nil,?_,?_⟩
  ·rw[lJ,af,if_neg (by decide)]
  ·rw[pR,af,if_neg (by decide)]
 ·have hl:l=[]:=by
   have:=congrArg ae hd;rw[dI,aZ]at this;exact List.eq_nil_of_length_eq_zero (by omega)
  subst hl;have e0:idx [x] (0:Int)=some x:=rfl;have d1:ap .i64 ((0:Int)+1)=1:=aN (by decide) (by decide);rw[lJ,pR,af,af,if_pos (by simp),if_pos (by simp),e0];simp only[aa,eP,d1];rw[af,af]
  by_cases c:0≤x∧x<m.1.1
  ·left;refine⟨fun t ht=>by rw[List.mem_singleton]at ht;subst ht;exact c,?_,?_⟩
   ·rw[if_neg (by rw[aB,bF,bF];omega),lJ,af,if_neg (by simp)]
   ·rw[if_neg (by rw[aB,bF,bF];omega),pR,af,if_neg (by simp)]
  ·right;refine⟨fun h=>c (h x aH),?_,?_⟩
   ·rw[if_pos (by rw[aB,bF,bF];omega)]
   ·rw[if_pos (by rw[aB,bF,bF];omega)]
theorem azh{n:Nat}{m:Mod}{r:Rq}{said:List Int}{o:List Int×Unit}(hm:Xm m)(hr:OkR r)(hp:MD m r said)(hn:2000000000≤n):
  dA n n (said,(),(),(),[],said,(said.length:Int),0,m,r,o,())=some (.inr ((),abu n m r said,o,())):=by
 have hl:=hp.len;obtain⟨o0,ou⟩:=o;refine aX (L:=fun k j s=>dA n k (said,(),(),(),s,said,(said.length:Int),j,m,r,(o0,ou),())) (len:=said.length) (fun i=>dX (ak3 n m r said) i) ?_ ?_ n (by omega)
 ·intro k i hi;obtain⟨h1,h2,h3,h4,h5⟩:=ab1 hm hr hp hn hi;obtain⟨p1,-⟩:=ak4 hm hr h4 hn;show dA n (k+1) _=dA n k _;rw[kJ,jK,fk hi,we];simp only[aa];rw[p1];simp only[aa];rw[show((0:Int)!=0)=false from rfl,cg,h5];simp only[aa];rw[fL _ (by unfold room;omega) (by unfold room;omega)];simp only[aa];rw[aN]
 ·intro k;show dA n (k+1) _=_;rw[kJ,af,if_neg (by simp)];rfl
theorem auh{n:Nat}{m:Mod}{r:Rq}{said:List Int}(hm:Xm m)(hr:OkR r)(hp:MD m r said)(hn:2000000000≤n):∀(q k i:Nat) (z:List Int),i+q=said.length→q<k→
  Can 65536 z→vz 65536 z=oC (dX (ak3 n m r said) i)→z.length≤1+4*i→
  ∃z',nP n k (said,(),(),z,said,(said.length:Int),(i:Int),m,r,())=some (z',())∧Can 65536 z'∧vz 65536 z'=oC (abu n m r said)∧z'.length≤1+4*said.length
 |0,k,i,z,h1,h2,h3,h4,h5=>by
  obtain⟨k,rfl⟩:=iY k;have:i=said.length:=by omega
  subst this;rw[vj,af,if_neg (by simp)];exact⟨z,rfl,h3,h4,h5⟩
 |q+1,k,i,z,h1,h2,h3,h4,h5=>by
  obtain⟨k,rfl⟩:=iY k;have hi:i<said.length:=by omega
  have hl:=hp.len;obtain⟨f1,f2,f3,f4,f5⟩:=ab1 hm hr hp hn hi;obtain⟨-,p2,-⟩:=ak4 hm hr f4 hn;rw[vj,jK,fk hi,we];simp only[aa];rw[p2];simp only[aa];rw[f5];simp only[aa];obtain⟨y,y1,y2,y3,y4⟩:=atR (n:=n) (by omega) f1 (by omega);rw[y1];simp only[aa];obtain⟨z',z1,z2,z3,z4⟩:=aqz (n:=n) h3.1 y2.1 (by omega) hn;rw[z1];simp only[aa];rw[aN,show(i:Int)+1=((i+1:Nat):Int)by omega];refine auh hm hr hp hn q k (i+1) z' (by omega) (by omega) z2 ?_ (by omega);rw[z3,h4,y3,oz,aix];simp[oC]
theorem prods{n:Nat}{m:Mod}{r:Rq}{said:List Int}(hm:Xm m)(hr:OkR r)(hs:said.length≤1048576)(hn:2000000000≤n):
  (¬ MD m r said∧∃e,e≠0∧jB n (m,r,said)=some (([],()),e)∧ln n (m,r,said)=some ([],e))∨
  (MD m r said∧∃z z',jB n (m,r,said)=some ((z,()),0)∧ln n (m,r,said)=some (z',0)∧Can 4294967296 z∧Can 65536 z'∧
   vz 4294967296 z=oC (abu n m r said)∧vz 65536 z'=oC (abu n m r said)∧z'.length≤1+4*said.length):=by
 have Va:imax (0:Int) (ap .i64 ((said.length:Int) -1))=((said.length -1:Nat):Int):=by
  rw[aN];unfold imax
  split<;>omega
 have hif:av (decide ((said.length:Int)>0)) (some (ap .i64 ((said.length:Int) -1))) (some (said.length:Int))=some ((said.length -1:Nat):Int):=by
  rw[af]
  split
  ·rename_i h;rw[bF]at h;rw[aN];congr 1;omega
  ·rename_i h;rw[bF]at h;congr 1;omega
 rw[Bw,Qv,Va,hif];simp only[aa];rw[we];simp only[aa];obtain⟨w,e,e1,e2,hc⟩:=UM (n:=n) hm hr (said:=said.take (said.length -1)) (by rw[aC];omega) hn;rw[e1,e2];simp only[aa];rcases hc with⟨hw,rfl,-,-,-⟩|⟨hw,he,rfl⟩
 ·rw[show((0:Int)!=0)=false from rfl,cg,cg,anb];simp only[aa];rcases azg (n:=n) (m:=m) (r:=r) (said:=said) (o:=([],())) hs hn rfl with⟨h1,h2,h3⟩|⟨h1,h2,h3⟩
  ·have htk:Xn m said:=by
    rw[←cH (said.length -1) said];exact UL.2 ⟨(UL.1 hw.t).2,h1⟩
   rw[h2,h3];simp only[aa,cY,eP];rw[af,af]
   by_cases c:1≤r.2.2.1∧r.2.2.1≤512
   ·right;have hp:MD m r said:=⟨hw,htk,c⟩;refine⟨hp,?_⟩;have hl:=hp.len;rw[if_neg (by rw[aB,bF,bF];omega),if_neg (by rw[aB,bF,bF];omega),azh hm hr hp hn];simp only[aa,cY];obtain⟨z,z1,z2,z3⟩:=YC (n:=n) (l:=abu n m r said) (by rw[abu,B4];omega) (fun x hx=>by
     obtain⟨i,hi,rfl⟩:=i9 hx;have:=ab1 hm hr hp hn hi;exact⟨this.1,this.2.2.1⟩) hn
    obtain⟨z',q1,q2,q3,q4⟩:=auh hm hr hp hn said.length n 0 [1] (by omega) (by omega) ⟨by intro x hx;rw[List.mem_singleton]at hx;subst hx;omega,by simp⟩ (by rfl) (by simp);rw[show((0:Nat):Int)=0 from rfl]at q1;rw[z1,q1];exact⟨z,z',rfl,rfl,z2,q2,z3,q3,q4⟩
   ·left;refine⟨fun h=>c h.b,251,by decide,?_,?_⟩
    ·rw[if_pos (by rw[aB,bF,bF];omega)]
    ·rw[if_pos (by rw[aB,bF,bF];omega)]
  ·left;rw[h2,h3];exact⟨fun h=>h1 fun t ht=>h.t t (List.mem_of_mem_drop ht),133,by decide,rfl,rfl⟩
 ·left;refine⟨fun h=>hw h.w,e,he,?_,?_⟩
  ·rw[show(e !=0)=true by simpa using he,j9]
  ·rw[show(e !=0)=true by simpa using he,j9]
def aho(l:List Int):Int:=match l.findIdx? (·==0)with
 |some i=>(i:Int)
 |none=> -1
theorem aiO{l:List Int}(h:∀i,i<l.length→l.getD i 0≠0):aho l= -1:=by
 have:l.findIdx? (·==0)=none:=by
  rw[List.findIdx?_eq_none_iff];intro x hx;obtain⟨i,hi,rfl⟩:=aL hx;have:=h i hi;rw[aG,ah hi]at this;simpa using this
 unfold aho;rw[this]
theorem aiP{l:List Int}{j:Nat}(hj:j<l.length)(h0:l.getD j 0=0)(h:∀i,i<j→l.getD i 0≠0):aho l=(j:Int):=by
 have:l.findIdx? (·==0)=some j:=by
  rw[List.findIdx?_eq_some_iff_getElem];refine⟨hj,?_,fun i hi=> ?_⟩
  ·rw[aG,ah hj]at h0;simpa using h0
  ·have:=h i hi;rw[aG,ah (by omega)]at this;simpa using this
 unfold aho;rw[this]
theorem aiQ{n:Nat}{l:List Int}(hl:l.length≤1000000000)(hn:2000000000≤n):xC n l=some (aho l):=by
 rw[aei];rcases dc (L:=fun k j (_:Unit)=>mb n k (l,(l.length:Int),j,())) (len:=l.length) (fun _=>()) (fun i=>l.getD i 0≠0) (fun i=> .inl ((i:Int),())) (.inr ()) (by
  intro k j hj _;show(_∧mb n (k+1) _=_)∨(_∧mb n (k+1) _=_);rw[Gk,jK,fk hj,aa,af]
  by_cases c:l.getD j 0=0
  ·rw[if_pos (by rw[beq_iff_eq];exact c)];exact .inr ⟨fun h=>h c,rfl⟩
  ·rw[if_neg (by rw[beq_iff_eq];exact c),aN];exact .inl ⟨c,rfl⟩) (by
  intro k;show mb n (k+1) _=_;rw[Gk,af,if_neg (by simp)]) n (by omega)with⟨h1,h2⟩|⟨j,h1,h2,h3,h4⟩
 ·rw[h2,aa,aiO h1];rfl
 ·rw[h4,aa,aiP h1 (Decidable.not_not.1 h3) h2];rfl
theorem UN{n:Nat}{l:List Int}(hl:l.length≤1000000000)(hn:2000000000≤n):gq n (l,0)=some (aho l):=by
 rw[vb];rcases dc (L:=fun k j (_:Unit)=>cU n k (l,0,(l.length:Int),j,())) (len:=l.length) (fun _=>()) (fun i=>l.getD i 0≠0) (fun i=> .inl ((i:Int),())) (.inr ()) (by
  intro k j hj _;show(_∧cU n (k+1) _=_)∨(_∧cU n (k+1) _=_);rw[js,jK,fk hj,aa,af]
  by_cases c:l.getD j 0=0
  ·rw[if_pos (by rw[beq_iff_eq];exact c.symm)];exact .inr ⟨fun h=>h c,rfl⟩
  ·rw[if_neg (by rw[beq_iff_eq];exact fun h=>c h.symm),aN];exact .inl ⟨c,rfl⟩) (by
  intro k;show cU n (k+1) _=_;rw[js,af,if_neg (by simp)]) n (by omega)with⟨h1,h2⟩|⟨j,h1,h2,h3,h4⟩
 ·rw[h2,aa,aiO h1];rfl
 ·rw[h4,aa,aiP h1 (Decidable.not_not.1 h3) h2];rfl
def anO(r:Rq)(l:List Int):Bool:=decide (1≤r.2.2.1∧(l.length:Int)≤r.2.2.1∧(0≤aho l→aho l=(l.length:Int) -1)∧(aho l<0→(l.length:Int)=r.2.2.1))
def anP(r:Rq)(l:List Int):Bool:=decide (aho l<0∧(l.length:Int)<r.2.2.1)
theorem ME{n:Nat}{r:Rq}{l:List Int}(hl:l.length≤1000000000)(hn:2000000000≤n):oM n (r,l)=some (anO r l):=by
 rw[Wu,UN hl hn,aa,eP,aa];simp only[af];unfold anO;rw[aN]
 split
 ·rename_i h;rw[aB,bF,bF]at h;rw[decide_eq_false (by omega)]
 ·rename_i h;rw[aB,bF,bF]at h
  split
  ·rename_i h2;rw[bF]at h2;congr 1;rw[Bool.eq_iff_iff,beq_iff_eq,bF];omega
  ·rename_i h2;rw[bF]at h2;congr 1;rw[Bool.eq_iff_iff,beq_iff_eq,bF];omega
theorem YT{n:Nat}{r:Rq}{l:List Int}(hl:l.length≤1000000000)(hn:2000000000≤n):oX n (r,l)=some (anO r l):=by
 rw[WV,aiQ hl hn,aa,fM,aa];simp only[af];unfold anO;rw[aN]
 split
 ·rename_i h;rw[bF]at h;rw[decide_eq_false (by omega)]
 ·rename_i h;rw[bF]at h
  split
  ·rename_i h2;rw[bF]at h2;congr 1;rw[Bool.eq_iff_iff,aj,beq_iff_eq,bF,bF];omega
  ·rename_i h2;rw[bF]at h2;congr 1;rw[Bool.eq_iff_iff,beq_iff_eq,bF];omega
theorem apK{n:Nat}{r:Rq}{l:List Int}(hl:l.length≤1000000000)(hn:2000000000≤n):zx n (r,l)=some (anP r l):=by
 rw[aaK,rb,UN hl hn,aa,aa,fM,aa];unfold anP;congr 1;rw[Bool.eq_iff_iff,aj,aW,decide_eq_false_iff_not,bF,bF];omega
theorem apL{n:Nat}{r:Rq}{l:List Int}(hl:l.length≤1000000000)(hn:2000000000≤n):zS n (r,l)=some (anP r l):=by
 rw[abc,aiQ hl hn,aa,fM,aa];unfold anP;congr 1;rw[Bool.eq_iff_iff,aj,bF,bF,bF]
theorem anQ{n:Nat}{b:Int}(h:qE b):wJ n b=some true:=by
 rw[Wt];rcases h with rfl |rfl |rfl |rfl |rfl |rfl<;>rfl
theorem afE{b:Int}(h:qE b):1≤b∧b≤32:=by
 rcases h with rfl |rfl |rfl |rfl |rfl |rfl<;>decide
theorem afF{n:Nat}{b y:Int}(h:qE b)(h1:0≤y)(h2:y≤8191):tV n (b,y)=some (8*y/b,0):=by
 have hb:=afE h;have hq:0≤8*y/b:=fv (by omega) (by omega);have Nt:8*y/b≤8*y:=Int.ediv_le_self _ (by omega);rw[aaJ,anQ h,aa];show av (!true) _ _=_;rw[ba,cg,eP,aa,af,if_neg (by rw[aB,bF,bF];omega),aN,zU (by omega) (by rw[bV];omega) (by rw[bV];omega),bV,aa]
noncomputable def tpI(n:Nat)(m:Mod)(r:Rq)(said:List Int)(y:Int):Int:=
 if r.2.1.2.2.2.2.1*said.length≤8*y∧(anO r said||anP r said)=true then oC (abu n m r said)*2^(8*y -r.2.1.2.2.2.2.1*said.length).toNat else 0
theorem anR{n:Nat}{m:Mod}{r:Rq}{said:List Int}(hm:Xm m)(hr:OkR r)(hp:MD m r said)(hn:2000000000≤n):
  0≤oC (abu n m r said)∧oC (abu n m r said)≤2^(r.2.1.2.2.2.2.1.toNat*said.length):=by
 have:=ani (l:=abu n m r said) (b:=r.2.1.2.2.2.2.1.toNat) (fun x hx=>by
  obtain⟨i,hi,rfl⟩:=i9 hx;have:=ab1 hm hr hp hn hi;exact⟨this.1,this.2.1⟩)
 rwa[show(abu n m r said).length=said.length by rw[abu,B4]]at this
theorem aBW{n:Nat}{m:Mod}{r:Rq}{said:List Int}{y:Int}(hm:Xm m)(hr:OkR r)(hs:said.length≤1048576)(hn:2000000000≤n):
  (¬ (0≤y∧y≤8191∧MD m r said)∧∃e,e≠0∧j5 n (m,r,said,y)=some (([],()),e)∧ra n (m,r,said,y)=some ([],e))∨
  ((0≤y∧y≤8191∧MD m r said)∧∃z z',j5 n (m,r,said,y)=some ((z,()),0)∧ra n (m,r,said,y)=some (z',0)∧Can 4294967296 z∧Can 65536 z'∧
   vz 4294967296 z=tpI n m r said y∧vz 65536 z'=tpI n m r said y∧z.length≤100000∧z'.length≤100000):=by
 rw[F9,WW,eP,aa,aa,af,af]
 by_cases c:0≤y∧y≤8191
 ·rw[if_neg (by rw[aB,bF,bF];omega),if_neg (by rw[aB,bF,bF];omega)];rcases prods (n:=n) hm hr hs hn with⟨h1,e,h2,h3,h4⟩|⟨hp,z,z',h2,h3,h4,h5,h6,h7,h8⟩
  ·left;refine⟨fun h=>h1 h.2.2,e,h2,?_,?_⟩
   ·rw[h3,aa];show av (e !=0) _ _=_;rw[show(e !=0)=true by simpa using h2,j9]
   ·rw[h4,aa];show av (e !=0) _ _=_;rw[show(e !=0)=true by simpa using h2,j9]
  ·right;refine⟨⟨c.1,c.2,hp⟩,?_⟩;have hl:=hp.len;have anj:=hp.w.p.bits;obtain⟨B,hB⟩:∃B,B=r.2.1.2.2.2.2.1:=⟨_,rfl⟩;have mh:=anR hm hr hp hn;unfold tpI;rw[h2,h3,aa,aa];show ∃y1 y2,av ((0:Int)!=0) _ _=_∧av ((0:Int)!=0) _ _=_∧_;rw[show((0:Int)!=0)=false from rfl,cg,cg];rw[←hB]at anj mh ⊢;have hbr:=afE anj;rw[afF anj c.1 c.2,aa,ME (by omega) hn,YT (by omega) hn,apK (by omega) hn,apL (by omega) hn];simp only[aa];obtain⟨P,hP⟩:∃P,P=B*(said.length:Int):=⟨_,rfl⟩;have hP0:0≤P:=by rw[hP];exact dq (by omega) (by omega)
   have hP1:P≤32*512:=by rw[hP];exact dR (by omega) (by omega) (by omega) (by omega)
   have hPN:B.toNat*said.length=P.toNat:=by
    have:((B.toNat*said.length:Nat):Int)=P:=by rw[hP,Int.natCast_mul,Int.toNat_of_nonneg (by omega)]
    omega
   have hdiv:(said.length:Int)>8*y/B↔8*y<P:=by
    rw[hP,Int.mul_comm B];exact Int.ediv_lt_iff_lt_mul (show 0<B by omega)
   rw[hPN]at mh;rw[←hP,aN (x:=8*y),aN (x:=P),aN (x:=8*y -P)];have aBX:∀f o:Bool,av (!f) (some (!o)) (some false)=some (!(f||o)):=by decide
   rw[aBX];rw[eP,eP,aa,aa];have asl:decide ((said.length:Int)>8*y/B)=decide (P>8*y):=decide_eq_decide.2 hdiv;rw[asl]
   by_cases d:P≤8*y∧(anO r said||anP r said)=true
   ·rw[if_pos d];have Nf:(decide (P>8*y)|| !(anO r said||anP r said))=false:=by
     rw[d.2,decide_eq_false (by omega)];rfl
    rw[Nf,cg,cg];obtain⟨N,hN⟩:∃N:Nat,8*y -P=(N:Int):=⟨(8*y -P).toNat,by omega⟩;rw[hN,ax];have hzb:=afa mh.2;rw[←h6]at hzb;have hzl:=DY h4 (k:=P.toNat+1) (by rw[h6,dP];have:(0:Int)<2^P.toNat:=fp (by decide);omega);obtain⟨u,u1,u2,u3,u4⟩:=atV (n:=n) (N:=N) h4 (by omega) hn (.inr (by omega));obtain⟨v,f,v1,v2,v3,v4⟩:=ay7 (n:=n) (N:=N) h5 (by omega) (by omega) hn;rw[u1,v1];refine⟨u,v,rfl,rfl,u2,v2,by rw[u3,h6],by rw[v3,h7],by omega,by omega⟩
   ·rw[if_neg d];have Nf:(decide (P>8*y)|| !(anO r said||anP r said))=true:=by
     rw[aB,bF,aW]
     by_cases d1:P≤8*y
     ·right;rw[←eK];exact fun h=>d ⟨d1,h⟩
     ·left;omega
    rw[Nf,j9,j9];exact⟨[],[],rfl,rfl,Can.nil,Can.nil,rfl,rfl,by simp,by simp⟩
 ·left;refine⟨fun h=>c ⟨h.1,h.2.1⟩,260,by decide,?_,?_⟩
  ·rw[if_pos (by rw[aB,bF,bF];omega)]
  ·rw[if_pos (by rw[aB,bF,bF];omega)]
theorem afG{n:Nat}{r:Rq}(h:OkR r)(hn:2000000000≤n):AK n r=some r:=by
 obtain⟨p,⟨nu,de,tk,tp,bi,bs⟩,bu,lo,gr,⟨ac,ed⟩,ta⟩:=r;have hp:p.length≤1048576:=h.p;have hb:bs.length≤1048576:=h.b;have hac:ac.length≤1048576:=h.g1;have hed:ed.length≤1048576:=h.g2;have h1:=aX (L:=fun k i s=>qi n k ((),(),(),(),i,(p,(nu,de,tk,tp,bi,bs),bu,lo,gr,(ac,ed),ta),([],0,0,0,0,0,[],0,0,0,[],[],[],()),(p,nu,de,tk,tp,bi,s,bu,lo,gr,[],[],ta,()),(nu,de,tk,tp,bi,bs),())) (len:=bs.length)
  (r:=((),(),(),(p,(nu,de,tk,tp,bi,bs),bu,lo,gr,(ac,ed),ta),([],0,0,0,0,0,[],0,0,0,[],[],[],()),(p,nu,de,tk,tp,bi,bs,bu,lo,gr,[],[],ta,()),())) (fun i=>bs.take i) (by
   intro k i hi;show qi n (k+1) _=_;rw[Jo,af,if_pos (by rw[bF];show(i:Int)<(bs.length:Int);omega)];show(idx bs (i:Int)).bind _=_;rw[bj hi,aa];rw[aa];show(app 16 (bs.take i) [bs[i]]).bind _=_;rw[Gr hi (by omega) (by omega),aa,aN]) (by
   intro k;show qi n (k+1) _=_;rw[Jo,af,if_neg (by rw[bF];show ¬ (bs.length:Int)<(bs.length:Int);omega),ch]) n (by omega)
 have h2:=aX (L:=fun k i s=>oO n k ((),(),(),i,(p,(nu,de,tk,tp,bi,bs),bu,lo,gr,(ac,ed),ta),([],0,0,0,0,0,[],0,0,0,[],[],[],()),(p,nu,de,tk,tp,bi,bs,bu,lo,gr,ac,s,ta,()),())) (len:=ed.length)
  (r:=((),(),([],0,0,0,0,0,[],0,0,0,[],[],[],()),(p,nu,de,tk,tp,bi,bs,bu,lo,gr,ac,ed,ta,()),())) (fun i=>ed.take i) (by
   intro k i hi;show oO n (k+1) _=_;rw[Gb,af,if_pos (by rw[bF];show(i:Int)<(ed.length:Int);omega)];show(idx ed (i:Int)).bind _=_;rw[bj hi,aa];rw[Gr hi (by omega) (by omega),aa,aN]) (by
   intro k;show oO n (k+1) _=_;rw[Gb,af,if_neg (by rw[bF];show ¬ (ed.length:Int)<(ed.length:Int);omega),ch]) n (by omega)
 rw[fm]at h1 h2;rw[agz];simp only;rw[Ul (l:=p),aa,h1,aa];simp only;rw[Ul (l:=ac),aa,h2];rfl
theorem abv{n:Nat}{v:EW}(h1:v.1.length≤1048576)(h2:v.2.length≤1048576)(hn:2000000000≤n):zR n (v,v)=some true:=by
 obtain⟨t,ms⟩:=v;rw[aa9];simp only[bne_self_eq_false,cg,aa];have e1:=aX (L:=fun k i (_:Unit)=>mX n k ((),(),i,(t,ms),(t,ms),())) (len:=t.length) (r:=.inr ((),(),(t,ms),(t,ms),())) (fun _=>()) (by
  intro k i hi;show mX n (k+1) _=_;rw[DG,af,if_pos (by rw[bF];show(i:Int)<(t.length:Int);omega)];show(idx t (i:Int)).bind _=_;rw[bj hi,aa];rw[aa,beq_self_eq_true,ba,cg,aN (by omega) (by simp only at h1;omega)]) (by
  intro k;show mX n (k+1) _=_;rw[DG,af,if_neg (by rw[bF];show ¬ (t.length:Int)<(t.length:Int);omega)]) n (by simp only at h1;omega)
 have e2:=aX (L:=fun k i (_:Unit)=>mY n k ((),(),i,(t,ms),(t,ms),())) (len:=ms.length) (r:=.inr ()) (fun _=>()) (by
  intro k i hi;show mY n (k+1) _=_;rw[DH,af,if_pos (by rw[bF];show(i:Int)<(ms.length:Int);omega)];show(idx ms (i:Int)).bind _=_;rw[bj hi,aa];rw[aa];simp only[beq_self_eq_true,Bool.and_self,ba];rw[cg,aN (by omega) (by simp only at h2;omega)]) (by
  intro k;show mY n (k+1) _=_;rw[DH,af,if_neg (by rw[bF];show ¬ (ms.length:Int)<(ms.length:Int);omega)]) n (by simp only at h2;omega)
 rw[e1,aa];simp only[cY];rw[e2];rfl
theorem abw{n:Nat}{m:Mod}(h:ahh m)(hn:2000000000≤n):un n (m,m)=some true:=by
 rw[abb];simp only[beq_self_eq_true,Bool.and_self,ba,cg];rw[abv h.t h.ms hn];simp only[aa,bne_self_eq_false,ba,cg];have hbs:=h.bs;have e1:=aX (L:=fun k i (_:Unit)=>m5 n k ((),(),(m.2.2.2.2.2.2.1.length:Int),i,m,m,())) (len:=m.2.2.2.2.2.2.1.length) (r:=.inr ((),(),m,m,())) (fun _=>()) (by
  intro k i hi;have hb:=h.b _ (ak hi);show m5 n (k+1) _=_;rw[DJ,jK,bj hi,aa,aa,Uk hb hn,aa,ba,cg,aN]) (by
  intro k;show m5 n (k+1) _=_;rw[DJ,sS]) n (by omega)
 rw[e1];simp only[aa,cY];have a1:=h.e;have a2:=h.c;have a3:=h.si;have a4:=h.be;have a5:=h.g;have a6:=h.u;rw[dg (by omega) hn,dg (by omega) hn,dg (by omega) hn,dg (by omega) hn,dg (by omega) hn,dg (by omega) hn];rfl
theorem abx{n:Nat}{a:List Int}(h:a.length≤1000000000)(hn:2000000000≤n):uk n (a,a)=some true:=by
 rw[aa8,bne_self_eq_false,cg];have e1:=aX (L:=fun k i (_:Unit)=>mW n k (a,a,(a.length:Int),i,())) (len:=a.length) (r:=.inr ()) (fun _=>()) (by
  intro k i hi;show mW n (k+1) _=_;rw[DF,jK,bj hi,aa,aa,bne_self_eq_false,cg,aN]) (by
  intro k;show mW n (k+1) _=_;rw[DF,sS]) n (by omega)
 rw[e1];rfl
theorem UO{n:Nat}{z z':List Int}{e:Int}(h1:Can 4294967296 z)(h2:Can 65536 z')(h3:vz 4294967296 z=vz 65536 z')(h4:z.length≤1000000)(h5:z'.length≤1000000)(hn:2000000000≤n):
  A8 n ((z,()),e,z',e)=some true:=by
 rw[agC];obtain⟨s,s1,s2⟩:=anh (n:=n) h1 h4 hn;obtain⟨t,t1,t2⟩:=atU (n:=n) h2 h5 hn;simp only[beq_self_eq_true,j9];rw[s1,t1,Mn.uniq s2 (by rw[h3];exact t2)];simp
end Go.Am.Pu
