import Derived.Test.YtllhngpojglipaaGreatDoorA3
import Derived.Great.FillDense
import Derived.Great.BuildSlice
import Derived.Laws.MakeOwn
set_option linter.unusedVariables false
set_option linter.unusedSimpArgs false
open Array renaming getElem?_toList→cG,length_toList→aI
open Bool renaming and_eq_true→aj
open List renaming append_assoc→bn,append_nil→cK,drop_zero→dC,flatten_cons→eo,getElem?_append_left→aQ,getElem?_eq_getElem→ah,getElem?_eq_none→bx,getElem?_take→dh,length_append→ag,length_cons→aZ,length_drop→dI,length_map→di,length_replicate→aY,length_set→aP,length_take→aC,length→ae,map_cons→cj,nil_append→bE,replicate_succ→cM,replicate→ao,set→aV,size_toArray→ek,take_length→ch
open Nat renaming add_assoc→fu,add_mul→cJ,beq→bU,blt_eq→fl,eq_of_beq_eq_true→az,le_of_ble_eq_true→eQ,le_refl→aA,mul_le_mul_right→cv,zero_add→dN
namespace Go.Am
open Go
section
variable {P:Program} {w0:W0} {w w':World} {Z0 Zp:cD} {h h':bg} {g:G} {new next base:Nat} {r:A} {L L':Log} {X:Cx}
theorem GQ{Z:cD}:∀τ:Ty,τ.cI=true→τ.J1=true→PR w Z Zp τ τ.zero τ.lr
 |.bool,_,_=>rfl
 |.int _,_,_=>rfl
 |.str,_,_=>rfl
 |.sl e,_,_=>⟨none,0,[],rfl,aA _,rfl,fun h=>absurd rfl h⟩
 |.pair a b,h1,h2=>by
  simp[Ty.cI]at h1;simp[Ty.J1]at h2;exact⟨_,_,rfl,GQ a h1.1 h2.1,GQ b h1.2 h2.2⟩
 |.unit,_,_=>rfl
 |.ref _,h1,_=>by simp[Ty.cI]at h1
 |.fn _,_,h2=>by simp[Ty.J1]at h2
theorem gY{b:Nat}{n:Int}{k:Nat}(hx:Cl b n=some k):0≤n∧n.toNat*b≤room∧n≤140737488355328∧k=n.toNat:=by
 unfold Cl at hx
 split at hx
 ·rename_i h0;cases hx;exact⟨h0.1,h0.2.1,h0.2.2,rfl⟩
 ·cases hx
theorem dY.replicate{α:Type}{R:α→List Value→Prop}{x:α}{zs:List Value}(hx:R x zs):∀n,dY R (ao n x) (ao n zs).flatten
 |0=>by simp[dY]
 |n+1=>by rw[cM,cM,eo];exact⟨zs,_,rfl,hx,dY.replicate hx n⟩
theorem ahD(z:Array Value)(hz:0<z.size)(n:Nat):(madeCells z (n*z.size)).toList=(ao n z.toList).flatten:=by
 induction n with
 |zero=>simp[madeCells]
 |succ n ih=>
  rw[List.replicate_succ',List.flatten_append,←ih];apply List.ext_getElem?;intro i;have e:(n+1)*z.size=n*z.size+z.size:=by rw[cJ,Nat.one_mul]
  rw[List.getElem?_append];simp only[madeCells,aI,Array.size_map,Array.size_range,cG,Array.getElem?_map,Array.getElem?_range,eo,List.flatten_nil,cK]
  by_cases h1:i<n*z.size
  ·have h2:i<(n+1)*z.size:=by omega
   simp[h1,h2]
  ·simp only[h1,if_false]
   by_cases h2:i<(n+1)*z.size
   ·have h3:i -n*z.size<z.size:=by omega
    have h4:i % z.size=i -n*z.size:=by
     have hc:z.size*n=n*z.size:=Nat.mul_comm _ _;have:i=i -n*z.size+z.size*n:=by omega
     have h5:(i -n*z.size+z.size*n) % z.size=i -n*z.size:=by rw[Nat.add_mul_mod_self_left,Nat.mod_eq_of_lt h3]
     rw[←this]at h5;exact h5
    simp[h2,h4,h3]
   ·have h3:¬ i -n*z.size<z.size:=by omega
    simp[h2,h3]
theorem asr(R:HR w0 Z0 Zp h g w)(hn:¬ g.al new){t e:TypeId}{d de:TD}(T:eV P t d)(Te:eV P e de)(hd:d.desc= .slice e){τ:Ty}(hz:de.zero=true)(hτ:de.ty=some τ)(hs0:0<de.size)
  {kl kc:IntKind} {n:Int} {k:Nat} (hk:Cl de.bytes n=some k):
  bY P w0 Z0 Zp h g w new (do pure (.value (←Instr.makeSlice t (.int kl n) (.int kc n)))) (.v false [.vec new]) ((new,.row τ (ao k τ.zero))::h):=by
 obtain⟨i,z,hi,his,hib,hiz,Vb,_⟩:=Te.zeroV hz hτ;obtain⟨h0,h1,h2,rfl⟩:=gY hk;obtain⟨e1,e2,e3,hfn⟩:=Te.U8 hτ;have hzs:z.cells.size=de.size:=by
  have:=congrArg ae Vb;rw[aI,PR.length τ _ _ (GQ (w:=w) (Z:=Z0) (Zp:=Zp) τ e3 hfn)]at this;omega
 have hb:(i.bytes:Int)*n≤281474976710656:=by
  have h3:n.toNat*i.bytes≤140737488355328:=by rw[hib];exact h1
  have h4:((n.toNat*i.bytes:Nat):Int)=(i.bytes:Int)*n:=by rw[Int.natCast_mul,Int.toNat_of_nonneg h0,Int.mul_comm]
  omega
 have hrun:=run_make (P:=P) w t e i z (T.slice hd) hi hiz kl kc n n h0 (Int.le_refl _) hb (by omega);refine bY.alloc R hn (w1:=w) (.inl rfl) (cur:=madeCells z.cells (n.toNat*i.size)) (e0:=e) (v:=.slice (some ⟨w.heap.size,0,none⟩) n.toNat n.toNat) _ 0 (by simp[hrun]) (fun L1 hnew=>⟨⟨by omega,e3,_,_,_,vu _ _ _ _,hnew,?_⟩,AR.rg ⟨.inr rfl,⟨_,_,_,rfl⟩,fun e' n' he=> ?_⟩⟩) (fun _=>rfl)
 ·have:i.size=z.cells.size:=by omega
  rw[this,ahD z.cells (by omega),Vb];exact dY.replicate (GQ τ e3 hfn) _
 ·rw[asp]at he;simp[jS]at he;exact⟨_,vu _ _ _ _,by rw[←he.2]⟩
theorem AR.own{e:Ty}{l:List e.den}{b cap:Nat}{cur:Array Value}{e0:TypeId}{base:Nat}(hal:g.al new)(hhm:g.hm new=some b)(hlo:g.lo new=ae l*e.size)(hb:base≤b)
  (er:w.heap[b]? =some (.cells cur e0 (0,0))) (hcap:ae l≤cap) (Va:cap≤maxLen) (hsz:cur.size=cap*e.size) (mh:dY (PR w g.Z Zp e) l (cur.toList.take (ae l*e.size)))
  (hz:∀i,i<ae l*e.size→g.Z b i):AR w base Zp h g (.v false [.sl e l (.own new)]) (.slice (some ⟨b,0,none⟩) (ae l) cap):=by
 refine AR.rg ⟨⟨_,cap,_,rfl,hcap,mh,fun _=>⟨b,0,rfl,fun j u hj=> ?_⟩⟩,hal,fun _=> .inr ⟨b,cap,cur,e0,hhm,rfl,er,hcap,Va,hsz,hb,hlo⟩⟩;rw[dN,iJ er];rw[dh]at hj
 split at hj
 ·rename_i hlt;exact⟨by simpa using hj,hz j hlt⟩
 ·cases hj
theorem Q4(g:G)(new:Nat)(b:Option Nat)(k:Nat):(Cn g new b k).al new:=.inr rfl
theorem aqX(R:HR w0 Z0 Zp h g w)(hn:¬ g.al new){t e:TypeId}{d de:TD}(T:eV P t d)(Te:eV P e de)(hd:d.desc= .slice e){τ:Ty}(hz:de.zero=true)(hτ:de.ty=some τ)
  {kl kc:IntKind} {n:Int} {k:Nat} (hk:Cl de.bytes n=some k):
  bY P w0 Z0 Zp h g w new (do pure (.value (←Instr.makeSlice t (.int kl 0) (.int kc n)))) (.v false [.sl τ [] (.own new)]) ((new,.tok)::h):=by
 obtain⟨i,z,hi,his,hib,hiz,Vb,_⟩:=Te.zeroV hz hτ;obtain⟨h0,h1,h2,rfl⟩:=gY hk;obtain⟨e1,e2,e3,hfn⟩:=Te.U8 hτ;have hb:(i.bytes:Int)*n≤281474976710656:=by
  have h3:n.toNat*i.bytes≤140737488355328:=by rw[hib];exact h1
  have h4:((n.toNat*i.bytes:Nat):Int)=(i.bytes:Int)*n:=by rw[Int.natCast_mul,Int.toNat_of_nonneg h0,Int.mul_comm]
  omega
 have hrun:=run_make (P:=P) w t e i z (T.slice hd) hi hiz kl kc 0 n (Int.le_refl _) h0 hb (by omega);refine bY.alloc R hn (w1:=w) (.inl rfl) (cur:=madeCells z.cells (n.toNat*i.size)) (e0:=e) (v:=.slice (some ⟨w.heap.size,0,none⟩) 0 n.toNat) _ 0 (by simp[hrun]) (fun L1 hnew=>⟨trivial,?_⟩) (fun _=>rfl);have:=AR.own (h:=(new,.tok)::h) (base:=w0.heap.size) (e:=τ) (l:=[]) (Zp:=Zp) (Q4 g new (some w.heap.size) 0) (vu _ _ _ _) (by rw[ai9];simp) R.iD hnew (cap:=n.toNat) (by simp) (by simp only[maxLen];omega)
  (by rw[size_madeCells];congr 1;omega) (by simp[dY]) (by simp)
 simpa using this
theorem acn{τ:Ty}(Zb:τ.cI=true):∀(ps:List (Nat×A)) (vs:List Value) (n:Nat) (h:bg) (g:G) (L:Log) (k:List τ.den→HM) (res:A×bg×Log),HR w0 Z0 Zp h g w→
  dY (fun(p:Nat×A) es=>∃u,es=[u]∧AR w w0.heap.size Zp h g p.2 u) ps vs→(ab3 τ n ps k).eval next h L=some res→
  ∃l h1 g1 L1,(k l).eval next h1 L1=some res∧HR w0 Z0 Zp h1 g1 w∧Le Zp h g w h1 g1 w∧Fz h g h1 g1∧ae l=ps.length∧dY (PR w g1.Z Zp τ) l (vs.flatMap fun v=>v.cells.toList)∧
   ps.map (·.1)=(List.range' n ps.length)∧∀v∈vs,v.cells.size=τ.size
 |[],vs,n,h,g,L,k,res,R,hv,e=>by
  simp only[dY]at hv;subst hv;exact⟨[],h,g,L,e,R,Le.refl _ _ _ _,Fz.refl _ _,rfl,rfl,rfl,by simp⟩
 |(i,a)::ps,vs,n,h,g,L,k,res,R,⟨es,rest,e1,⟨u,e2,hu⟩,hps⟩,e=>by
  subst e2;subst e1;unfold ab3 at e
  split at e
  ·rename_i heq;cases heq
  ·rename_i i' gg cs r' heq
   cases heq
   split at e
   ·rename_i hc;simp only[aj]at hc;have hi:=az hc.1.1;subst hi;have hcs:=nv hc.2 hu;obtain⟨cs',h1,g1,L1,e,R1,sC,u5,aco⟩:=fq cs _ h g L _ _ R hcs e
    split at e
    ·rename_i x hx;have mh:=eM Zb aco hx;obtain⟨l,h2,g2,L2,e,R2,Le2,Ng,hlen,xX,hmap,hsz⟩:=acn Zb ps rest _ h1 g1 L1 _ res R1
      (dY.mono (fun p es ⟨u,e,hu⟩=>⟨u,e,AR.mono sC _ _ hu⟩) _ _ hps) e
     refine⟨x::l,h2,g2,L2,e,R2,sC.trans Le2,u5.trans Ng,by simp[hlen],?_,?_,?_⟩
     ·simp only[List.singleton_append,List.flatMap_cons];exact⟨_,_,rfl,PR.mono Le2.z Le2.zp _ _ _ mh,xX⟩
     ·simp only[cj,aZ,List.range'_succ,hmap]
     ·intro v hv;simp at hv;rcases hv with rfl |hv
      ·have:=PR.length _ _ _ mh;simpa using this
      ·exact hsz v hv
    ·exact(ai e).elim
   ·exact(ai e).elim
  ·exact(ai e).elim
theorem afV{vs:List Value}:∀(ps:List (Nat×Value)) (n:Nat),ps.map (·.1)=List.range' n ps.length→ps.map (·.2)=vs→ps=(vs.zipIdx n).map fun x=>(x.2,x.1):=by
 induction vs with
 |nil=>intro ps n _ h2;cases ps with |nil=>rfl |cons _ _=>simp at h2
 |cons v vs ih=>
  intro ps n h1 h2
  cases ps with
  |nil=>simp at h2
  |cons p ps=>
   simp only[cj,List.cons.injEq]at h2;simp only[cj,aZ,List.range'_succ,List.cons.injEq]at h1;simp only[List.zipIdx_cons,cj];rw[←ih ps (n+1) h1.2 h2.2];congr 1
   cases p;simp_all
theorem alu{base:Nat}{env:Env}{a:Act}(he:∀t,AR w base Zp h g (look aJ t env) (a.tmps.getD t undef)):∀(ps:List (Nat×Operand)),
  dY (fun(p:Nat×A) es=>∃u,es=[u]∧AR w base Zp h g p.2 u) (ps.map fun(i,x)=>(i,D8 env x)) (ps.map fun p=>a.eval p.2)
 |[]=>rfl
 |(_,x)::ps=>⟨[a.eval x],_,rfl,⟨_,rfl,ea he x⟩,alu he ps⟩
theorem acp(R:HR w0 Z0 Zp h g w)(hn:¬ g.al new){t e:TypeId}{d de:TD}(T:eV P t d)(Te:eV P e de)(hd:d.desc= .slice e){τ:Ty}(hτ:de.ty=some τ){len:Nat}{parts:Array (Nat×Operand)}
  {env:Env} {a:Act} (he:∀t,AR w w0.heap.size Zp h g (look aJ t env) (a.tmps.getD t undef))
  (hc:(bU parts.size len&&Nat.ble (len*de.size) 16777216&&Nat.blt 0 de.size&&(len==0||de.zero))=true)
  (e1:(ab3 τ 0 (parts.toList.map fun(i,x)=>(i,D8 env x)) fun l=> .set new .tok (pp (.sl τ l (.own new)))).eval next h L=some (r,h',L')):
  bY P w0 Z0 Zp h g w new (do pure (.value (←Instr.buildSlice t len (parts.map fun(i,x)=>(i,a.eval x))))) r h':=by
 simp only[aj]at hc;obtain⟨⟨⟨YZ,Nf⟩,hc3⟩,hc4⟩:=hc;have YZ:=az YZ;have Nf:=eQ Nf;have hc3:0<de.size:=by simpa[fl]using hc3
 obtain⟨t1,t2,t3,t4⟩:=Te.U8 hτ;obtain⟨l,h1,g1,L1,e2,R1,sC,u5,hlen,xX,hmap,hsz⟩:=acn t3 _ _ 0 h g L _ _ R (alu he parts.toList) e1;have e3:=dZ e2;obtain⟨rfl,rfl,_⟩:=cb e3;have hn1:¬ g1.al new:=by rw[u5.al];exact hn
 simp only[di,aI,YZ]at hlen;have hvs:(parts.toList.map fun p=>a.eval p.2).length=len:=by simp[YZ]
 have az1:(parts.map fun(i,x)=>(i,a.eval x)).toList=((parts.toList.map fun p=>a.eval p.2).zipIdx 0).map fun x=>(x.2,x.1):=by
  apply afV
  ·simp only[Array.toList_map,List.map_map,di,aI];simp only[List.map_map,di,aI]at hmap;exact hmap
  ·simp only[Array.toList_map,List.map_map];rfl
 have hfl:=dY.length (PR.k τ) _ _ xX;refine bY.behind sC (fun o ho=>u5.al▸ho) ?_;have hrun:(Instr.buildSlice t len (parts.map fun(i,x)=>(i,a.eval x))).run P w= .ok (.slice (some ⟨w.heap.size,0,none⟩) len len) (w.alloc (.cells ((parts.toList.map fun p=>a.eval p.2).flatMap fun v=>v.cells.toList).toArray e)):=by
  obtain⟨ie,hie,his,_⟩:=Te.inf
  by_cases h0:len=0
  ·subst h0;have:parts= #[]:=Array.eq_empty_of_size_eq_zero YZ;subst this;simp[Instr.buildSlice,run_underlying (T.slice hd),Go.sizeOf,typeInfo,hie,Instr.fill,newRow,Array.range_zero']
  ·have hzz:de.zero=true:=by simpa[h0]using hc4
   obtain⟨i,z,hi,ast,hib,hiz,Vb,_⟩:=Te.zeroV hzz hτ;have hzs:z.cells.size=de.size:=by
    have:=congrArg ae Vb;rw[aI,PR.length τ _ _ (GQ (w:=w) (Z:=Z0) (Zp:=Zp) τ t3 t4)]at this;omega
   have hpos:¬ len*i.size=0:=by rw[ast];exact Nat.ne_of_gt (Nat.mul_pos (by omega) hc3)
   refine run_buildSlice w t e len _ _ i z (T.slice hd) hi hiz (by rw[ast];omega) hpos ?_;rw[az1,ast];exact Go.Great.fill_whole hc3 _ _ (fun v hv=>by rw[hsz v hv,t1]) (by simp[YZ])
 refine bY.alloc R1 hn1 (w1:=w) (.inl rfl) (cur:=((parts.toList.map fun p=>a.eval p.2).flatMap fun v=>v.cells.toList).toArray) (e0:=e) (v:=.slice (some ⟨w.heap.size,0,none⟩) len len) _ (len*τ.size) (by simp[hrun]) (fun L2 hnew=>⟨trivial,?_⟩) (fun h=>by cases h);have:=AR.own (h:=(new,.tok)::h1) (base:=w0.heap.size) (e:=τ) (l:=l) (Zp:=Zp) (Q4 g1 new (some w.heap.size) (len*τ.size)) (vu _ _ _ _) (by rw[ai9,hlen]) R.iD hnew (cap:=len) (by omega)
  (by
   have:len*1≤len*de.size:=Nat.mul_le_mul_left _ hc3;simp only[maxLen];omega) (by rw[ek,hfl,hlen])
  (by
   rw[←hfl];simp only[ch];exact dY.mono (fun x es hx=>PR.mono L2.z L2.zp _ _ _ hx) _ _ xX)
  (fun i hi=> .inr ⟨rfl,by rw[hlen]at hi;exact hi⟩)
 rw[hlen]at this;exact this
end
section
variable {P:Program} {w0:W0} {w w':World} {Z0 Zp:cD} {h h':bg} {g:G} {new next base:Nat} {r:A} {L L':Log} {X:Cx}
theorem aja(off:Nat)(v:Array Value)(cells:Array Value)(hle:off+v.size≤cells.size):
  (v.zipIdx.foldl (fun cs (x:Value×Nat)=>cs.setIfInBounds (off+x.2) x.1) cells).toList=cells.toList.take off++v.toList++cells.toList.drop (off+v.size):=by
 have e:v.zipIdx.foldl (fun cs (x:Value×Nat)=>cs.setIfInBounds (off+x.2) x.1) cells=(v.toList.zipIdx 0).foldl (fun cs (x:Value×Nat)=>cs.setIfInBounds (off+x.2) x.1) cells:=by
  rw[←Array.foldl_toList,Array.toList_zipIdx]
 rw[e];obtain⟨h1,h2⟩:=Go.Great.foldl_set off v.toList 0 cells;apply List.ext_getElem?;intro k;rw[cG,h2 k];simp only[Nat.add_zero,aI,List.getElem?_append,ag,aC]
 by_cases h3:k<off
 ·rw[if_neg (by omega),if_pos (by omega),if_pos (by omega),dh,if_pos h3,cG]
 ·by_cases h4:k<off+v.size
  ·rw[if_pos ⟨by omega,h4,by omega⟩,if_pos (by omega),if_neg (by omega)];congr 1;omega
  ·rw[if_neg (by omega),if_neg (by omega),List.getElem?_drop,cG];congr 1;omega
theorem Q5{base:Nat}{pa pc:Nat→Option (Nat×Nat)}(hp:∀i q,pa i=some q→pc i=some q){env:Env}{a:Act}(he:∀t,AR w base Zp h g (look aJ t env) (a.tmps.getD t undef)):
  ∀(ps:List (Nat×Operand)) (cs cs':List C) (cells:Array Value),dT w base Zp h g cs cells.toList→QU pa cs (ps.map fun(i,x)=>(i,D8 env x))=some cs'→
   ∃cells',Instr.fill pc cells (ps.map fun(i,x)=>(i,a.eval x))=some cells'∧dT w base Zp h g cs' cells'.toList
 |[],cs,cs',cells,hc,e=>by
  cases e;exact⟨cells,rfl,hc⟩
 |(i,x)::ps,cs,cs',cells,hc,e=>by
  simp only[cj]at e ⊢;have hx:=ea he x;unfold QU at e
  split at e
  ·rename_i heq;cases heq
  ·rename_i i' gg nw r' heq;simp only[List.cons.injEq,Prod.mk.injEq]at heq;obtain⟨⟨rfl,hxe⟩,rfl⟩:=heq
   split at e
   ·rename_i off size xX
    split at e
    ·rename_i wi;simp only[aj]at wi;have h1:=az wi.1.1;have h2:=eQ wi.1.2;rw[hxe]at hx;have hnc:=nv wi.2 hx;have hnl:=hnc.length;have hcl:=hc.length;simp only[aI]at hnl hcl;have hsp:=aja off (a.eval x).cells cells (by omega);have axR:=th (off:=off) hc hnc;simp only[aI]at axR;rw[←hsp]at axR;obtain⟨cells',e1,e2⟩:=Q5 hp he ps _ cs' _ axR e;refine⟨cells',?_,e2⟩;unfold Instr.fill;rw[hp _ _ xX];simp only;rw[if_neg (by simp;omega)];exact e1
    ·cases e
   ·cases e
  ·rename_i heq
   cases e
theorem PH(hX:YX P X.tt):∀(fs:List Field) (pl:List (Nat×Nat)),
  vo (fun f:TypeId×Nat=>match cZ f.1 X.tt with |some df=>some (f.2,df.size)|none=>none) (fs.map fun x=>(x.type,x.offset))=some pl→
  fs.mapM (fun f=>(P.info? f.type).map fun i=>(f.offset,i.size))=some pl
 |[],pl,e=>by simp[vo]at e;subst e;rfl
 |f::fs,pl,e=>by
  simp only[cj,vo]at e
  cases hd:cZ f.type X.tt with
  |none=>simp[hd]at e
  |some df=>
   simp only[hd]at e
   split at e
   ·rename_i bs hbs
    cases e;obtain⟨i,hi,his,_⟩:=(hX.get hd).inf;have ih:=PH hX fs bs hbs;simp[List.mapM_cons,hi,his,ih]
   ·cases e
theorem ajc(hX:YX P X.tt)(R:HR w0 Z0 Zp h g w){t:TypeId}{d:TD}(T:eV P t d){fs:List (TypeId×Nat)}(hd:d.desc= .struct fs)(hz:d.zero=true){τ:Ty}(hτ:d.ty=some τ){pl:List (Nat×Nat)}
  (xX:vo (fun f:TypeId×Nat=>match cZ f.1 X.tt with |some df=>some (f.2,df.size)|none=>none) fs=some pl) {parts:Array (Nat×Operand)}
  {env:Env} {a:Act} (he:∀t,AR w w0.heap.size Zp h g (look aJ t env) (a.tmps.getD t undef)) {cs:List C} (hf:QU (fun i=>pl[i]?) τ.mw (parts.toList.map fun(i,x)=>(i,D8 env x))=some cs):
  bY P w0 Z0 Zp h g w new (do pure (.value (←Instr.build t (parts.map fun(i,x)=>(i,a.eval x))))) (.v true cs) h:=by
 obtain⟨f,hu,hfs⟩:=T.struct hd;obtain⟨i,z,hi,_,_,hiz,Vb,_⟩:=T.zeroV hz hτ;have hzc:dT w w0.heap.size Zp h g τ.mw z.cells.toList:=by rw[Vb];exact jt τ
 rw[←hfs]at xX;have Nh:=PH hX _ _ xX;obtain⟨cells',e1,e2⟩:=Q5 (pc:=fun i=>pl.toArray[i]?) (fun i q hq=>by simpa using hq) he parts.toList _ _ z.cells hzc hf;refine bY.pure R (v:=.agg cells') ?_ ⟨cells'.toList,by simp,e2⟩;have hb:P.built t (parts.map fun(i,x)=>(i,a.eval x)).toList=some cells':=by
  unfold Program.built;simp only[hi,hu,hiz,Nh,Array.toList_map];exact e1
 simp[run_build w t _ cells' hb]
theorem alv(R:HR w0 Z0 Zp h g w){t e:TypeId}{d de:TD}(T:eV P t d)(Te:eV P e de){n:Nat}(hd:d.desc= .array n e)(hz:d.zero=true){τ:Ty}(hτ:d.ty=some τ){parts:Array (Nat×Operand)}
  {env:Env} {a:Act} (he:∀t,AR w w0.heap.size Zp h g (look aJ t env) (a.tmps.getD t undef)) {cs:List C}
  (hf:QU (fun i=>match Nat.blt i n with |true=>some (i*de.size,de.size)|false=>none) τ.mw (parts.toList.map fun(i,x)=>(i,D8 env x))=some cs):
  bY P w0 Z0 Zp h g w new (do pure (.value (←Instr.build t (parts.map fun(i,x)=>(i,a.eval x))))) (.v true cs) h:=by
 obtain⟨i,z,hi,_,_,hiz,Vb,_⟩:=T.zeroV hz hτ;obtain⟨ie,hie,aCO,_⟩:=Te.inf;have hzc:dT w w0.heap.size Zp h g τ.mw z.cells.toList:=by rw[Vb];exact jt τ
 obtain⟨cells',e1,e2⟩:=Q5 (pc:=fun i=>some (i*ie.size,ie.size)) (fun i q hq=>by
  split at hq
  ·rw[aCO];exact hq
  ·cases hq) he parts.toList _ _ z.cells hzc hf
 refine bY.pure R (v:=.agg cells') ?_ ⟨cells'.toList,by simp,e2⟩;have hb:P.built t (parts.map fun(i,x)=>(i,a.eval x)).toList=some cells':=by
  unfold Program.built;simp only[hi,T.array hd,hiz,hie,Array.toList_map];exact e1
 simp[run_build w t _ cells' hb]
theorem aog{Z:cD}:∀(τ:Ty) (x:τ.den) (vs:List Value),PR w Z Zp τ x vs→∀u∈vs,u.oneCell'=true
 |.bool,_,_,hh=>by simp[PR]at hh;subst hh;simp[Value.oneCell']
 |.int _,_,_,hh=>by simp[PR]at hh;subst hh;simp[Value.oneCell']
 |.str,_,_,hh=>by simp[PR]at hh;subst hh;simp[Value.oneCell']
 |.sl _,_,_,⟨_,_,_,hh,_⟩=>by subst hh;simp[Value.oneCell']
 |.pair a b,_,_,⟨us,rs,e,h1,h2⟩=>by
  subst e;intro u hu;rcases List.mem_append.1 hu with hu |hu
  ·exact aog a _ _ h1 u hu
  ·exact aog b _ _ h2 u hu
 |.unit,_,_,hh=>by simp[PR]at hh;subst hh;simp
 |.ref _,_,_,⟨_,_,_,hh,_⟩=>by subst hh;simp[Value.oneCell']
 |.fn _,_,_,hh=>by simp[PR]at hh;subst hh;simp[Value.oneCell']
 |.cl _ _,_,_,⟨_,hh,_⟩=>by subst hh;simp[Value.oneCell']
theorem ajd{Z:cD}{e:Ty}:∀(l:List e.den) (vs:List Value),dY (PR w Z Zp e) l vs→∀u∈vs,u.oneCell'=true
 |[],_,hh=>by simp[dY]at hh;subst hh;simp
 |x::l,_,⟨es,rest,e1,h1,h2⟩=>by
  subst e1;intro u hu;rcases List.mem_append.1 hu with hu |hu
  ·exact aog e x es h1 u hu
  ·exact ajd l rest h2 u hu
theorem axT{Z:cD}{e:Ty}{m:List e.den}{v:Value}{tx e':TypeId}(hu:P.underlying tx=some (.slice e'))(hp:PR w Z Zp (.sl e) m [v]):
  ∃us,Src P e.size tx v (ae m) us w∧dY (PR w Z Zp e) m us:=by
 obtain⟨bs,cap,us,hv,hcap,xX,hat⟩:=hp;simp at hv;subst hv;have hlen:=dY.length (PR.k e) m us xX;have hone:=ajd m us xX;refine⟨us,?_,xX⟩
 cases bs with
 |some ad=>
  refine Src.ofSlice w hu ad _ cap us hlen (fun j u hj=> ?_) hone;obtain⟨b,off,hb,hc⟩:=hat (by intro h0;subst h0;simp at hj)
  cases hb;rw[ja];exact(hc j u hj).1
 |none=>
  have h0:us=[]:=by
   by_cases h0:us=[]
   ·exact h0
   ·obtain⟨b,off,hb,_⟩:=hat h0
    cases hb
  subst h0;refine⟨.inl ⟨e',hu⟩,fun _=>rfl,run_firstCells_none w _ _ _ _,run_firstCells_none w.drew _ _ _ _,hlen,by simp⟩
theorem Vc{t tx ty e:TypeId}{i:TypeInfo}(ht:P.underlying t=some (.slice e))(hi:P.info? e=some i){b sLen sCap:Nat}{cur:Array Value}{e0:TypeId}(er:w.heap[b]? =some (.cells cur e0 (0,0))){x:Value}{n:Nat}{news:List Value}
  (hs:Src P i.size tx x n news w) (hroom:sLen+n≤sCap) (hfit:sLen*i.size+news.length≤cur.size):
  (Builtin.append_ #[t,tx] ty #[.slice (some ⟨b,0,none⟩) sLen sCap,x]).run P w= .ok (.slice (some ⟨b,0,none⟩) (sLen+n) sCap) (w.setRow b (cur.toList.take (sLen*i.size)++news++cur.toList.drop (sLen*i.size+news.length)).toArray):=by
 have hst:=run_storeCells_at P b (sLen*i.size) e0 news 0 cur w er (by simpa using hfit) hs.one;simp only[Nat.add_zero]at hst;rcases hs.kind with⟨e',hk⟩|hk<;>simp[Builtin.append_,run_underlying ht,run_underlying hk,sizeOf,typeInfo,hi,hs.len,hroom,hs.cells,Addr.add_lit,hst]
theorem Fa{t tx ty e:TypeId}{i:TypeInfo}(ht:P.underlying t=some (.slice e))(hi:P.info? e=some i){x:Value}{news:List Value}(hs:Src P i.size tx x 0 news w):
  (Builtin.append_ #[t,tx] ty #[.slice none 0 0,x]).run P w= .ok (.slice none 0 0) w:=by
 rcases hs.kind with⟨e',hk⟩|hk<;>simp[Builtin.append_,run_underlying ht,run_underlying hk,sizeOf,typeInfo,hi,hs.len,hs.cells]
def au1(w:World)(base:Nat)(Zp:cD)(h:bg)(g:G)(e:Ty)(l:List e.den)(v:Value):Prop:=
 (v= .slice none 0 0∧l=[])∨
 (∃b cap cur e0,v= .slice (some ⟨b,0,none⟩) (ae l) cap∧w.heap[b]? =some (.cells cur e0 (0,0))∧ae l≤cap∧cap≤maxLen∧cur.size=cap*e.size∧base≤b∧b<w.heap.size∧
  (∀o,look .dead o h≠.dead→g.hm o≠some b)∧(∀c id,¬ GL h g c id b)∧(∀i,g.Z b i→i<ae l*e.size)∧dY (PR w g.Z Zp e) l (cur.toList.take (ae l*e.size)))
theorem et{α:Type}{b:Nat}{l m n:List α}(h:app b l m=some n):(l.length+m.length)*b≤140737488355328∧l.length+m.length≤140737488355328∧n=l++m:=by
 unfold app at h;split at h
 ·rename_i hb;cases h;exact⟨hb.1,hb.2,rfl⟩
 ·cases h
theorem dY.app{α:Type}{R:α→List Value→Prop}:∀(l m:List α) (vs us:List Value),dY R l vs→dY R m us→dY R (l++m) (vs++us)
 |[],_,_,_,h1,h2=>by simp[dY]at h1;subst h1;simpa using h2
 |x::l,m,_,us,⟨es,rest,e,hx,hl⟩,h2=>by subst e;exact⟨es,rest++us,by simp,hx,dY.app l m rest us hl h2⟩
theorem J3(z:Array Value)(n:Nat):(Builtin.zeroCells z n).size=n*z.size:=by simp[Builtin.zeroCells]
theorem J4(R:HR w0 Z0 Zp h g w)(hn:¬ g.al new){t tx e ty:TypeId}{d de:TD}(T:eV P t d)(Te:eV P e de)(hd:d.desc= .slice e){τ:Ty}(hz:de.zero=true)(hτ:de.ty=some τ)
  {l m n:List τ.den} {v x:Value} {us:List Value} (hon:au1 w w0.heap.size Zp h g τ l v) (hsrc:Src P τ.size tx x (ae m) us w) (xX:dY (PR w g.Z Zp τ) m us) (asu:app de.bytes l m=some n):
  bY P w0 Z0 Zp h g w new (do pure (.value (←Builtin.append_ #[t,tx] ty #[v,x]))) (.v false [.sl τ n (.own new)]) ((new,.tok)::h):=by
 obtain⟨hb1,J0,rfl⟩:=et asu;obtain⟨t1,t2,t3,t4⟩:=Te.U8 hτ;obtain⟨i,z,hi,his,hib,hiz,Vb,_⟩:=Te.zeroV hz hτ;have hzs:z.cells.size=i.size:=by
  have:=congrArg ae Vb;rw[aI,PR.length τ _ _ (GQ (w:=w) (Z:=Z0) (Zp:=Zp) τ t3 t4)]at this;omega
 have hte:τ.size=i.size:=by omega
 rw[hte]at hsrc;have hul:=hsrc.newsLen;have grow:∀(bs:Option Addr) (sCap:Nat) (olds:List Value),v= .slice bs (ae l) sCap→sCap<ae l+ae m→dY (PR w g.Z Zp τ) l olds→
   (Builtin.firstCells i.size (ae l) (.slice bs (ae l) sCap)).run P w.drew= .ok olds.toArray w.drew→
   bY P w0 Z0 Zp h g w new (do pure (.value (←Builtin.append_ #[t,tx] ty #[v,x]))) (.v false [.sl τ (l++m) (.own new)]) ((new,.tok)::h):=by
  intro bs sCap olds hv hlt J5 hfc;subst hv;have hr:=run_append_grow_src (P:=P) w t tx ty e i z (T.slice hd) hi hiz bs (ae l) sCap olds hfc x _ us hsrc hlt (by omega) (growslice_fits hlt (by rw[hib];exact hb1));have hge:=grownCap_ge w (ae l+ae m) sCap e;have hcm:=grownCap_le_maxLen w (ae l+ae m) sCap e (by simp only[maxLen];omega);have aqY:=dY.length (PR.k τ) l olds J5;have GG:ae (l++m)=ae l+ae m:=ag;have hmul:(ae l+ae m)*τ.size=ae l*τ.size+ae m*τ.size:=cJ _ _ _;rw[hte]at hmul aqY;refine bY.alloc R hn (w1:=w.drew) (.inr rfl) (cur:=(olds++us).toArray++Builtin.zeroCells z.cells (grownCap w (ae l+ae m) sCap e -(ae l+ae m))) (e0:=e)
   (v:=.slice (some ⟨w.heap.size,0,none⟩) (ae l+ae m) (grownCap w (ae l+ae m) sCap e)) _ ((ae l+ae m)*τ.size) (by simp[hr]) (fun L2 hnew=>⟨trivial,?_⟩) (fun h=>by cases h)
  have:=AR.own (h:=(new,.tok)::h) (base:=w0.heap.size) (e:=τ) (l:=l++m) (Zp:=Zp) (Q4 g new (some w.heap.size) ((ae l+ae m)*τ.size)) (vu _ _ _ _) (by rw[ai9,GG]) R.iD hnew
   (cap:=grownCap w (ae l+ae m) sCap e) (by rw[GG];exact hge) hcm
   (by
    rw[Array.size_append,J3,ek,ag,aqY,hul,hzs,hte,Nat.sub_mul];have:(ae l+ae m)*i.size≤grownCap w (ae l+ae m) sCap e*i.size:=cv _ hge;omega)
   (by
    have e1:ae (l++m)*τ.size=(olds++us).length:=by rw[GG,hte,ag,aqY,hul,hmul]
    rw[e1,Array.toList_append,List.take_left];exact dY.mono (fun x es hx=>PR.mono L2.z L2.zp _ _ _ hx) _ _ (dY.app _ _ _ _ J5 xX))
   (fun j hj=> .inr ⟨rfl,by rw[GG]at hj;exact hj⟩)
  rw[GG]at this;exact this
 rcases hon with⟨rfl,rfl⟩|⟨b,cap,cur,e0,rfl,er,hlc,hcm,hcs,hbb,hbl,hfree,hgl,hzb,hold⟩
 ·by_cases hm:m=[]
  ·subst hm;have hr:=Fa (P:=P) (ty:=ty) (T.slice hd) hi hsrc;obtain⟨R1,L1⟩:=R.axD hn;refine⟨_,.slice none 0 0,w,_,by simp[hr],.inl rfl,R1,L1,AR.rg ⟨⟨none,0,[],rfl,aA _,rfl,fun h=>absurd rfl h⟩,Q4 _ _ _ _,fun _=> .inl ⟨vu _ _ _ _,rfl,rfl⟩⟩,fun o ho=>ho⟩
  ·have:0<ae m:=List.length_pos_iff.2 hm;exact grow none 0 [] rfl (by simpa using this) rfl (run_firstCells_none w.drew _ _ _ _)
 ·by_cases hroom:ae l+ae m≤cap
  ·have hfit:ae l*i.size+us.length≤cur.size:=by
    rw[hul,hcs,←cJ,hte];exact cv _ hroom
   have hr:=Vc (P:=P) (ty:=ty) (T.slice hd) hi er hsrc hroom hfit;rw[hte]at hold hzb hcs;have E1:(cur.toList.take (ae l*i.size)).length=ae l*i.size:=by simp;omega
   have hcell:∀j,j<ae l*i.size→(cur.toList.take (ae l*i.size)++us++cur.toList.drop (ae l*i.size+us.length)).toArray[j]? =cur[j]? :=by
    intro j hj;rw[List.getElem?_toArray,bn,aQ (by omega),dh,if_pos hj,cG]
   have Q6:=setRow_heap w b cur (cur.toList.take (ae l*i.size)++us++cur.toList.drop (ae l*i.size+us.length)).toArray e0 (0,0) er;obtain⟨R1,L1⟩:=R.axE (w':=w.setRow b (cur.toList.take (ae l*i.size)++us++cur.toList.drop (ae l*i.size+us.length)).toArray) (k:=(ae l+ae m)*τ.size) hn hfree hgl hbb hbl
    (fun c hc=>setRow_other w b c _ hc) (setRow_size _ _ _) (vB R.ext (.inl hbb) _) (fun j hj=>⟨by
     have:=hzb j hj;rw[hte,cJ];omega,by rw[iJ Q6,iJ er,hcell j (hzb j hj)]⟩)
   have GG:ae (l++m)=ae l+ae m:=ag;refine⟨_,.slice (some ⟨b,0,none⟩) (ae l+ae m) cap,_,_,by simp[hr],.inl rfl,R1,L1,?_,fun o ho=>ho⟩;have:=AR.own (h:=(new,.tok)::h) (base:=w0.heap.size) (e:=τ) (l:=l++m) (Zp:=Zp) (Q4 g new (some b) ((ae l+ae m)*τ.size)) (vu _ _ _ _) (by rw[ai9,GG]) hbb Q6
    (cap:=cap) (by rw[GG];exact hroom) hcm (by rw[hte];simp;omega)
    (by
     have e1:ae (l++m)*τ.size=(cur.toList.take (ae l*i.size)++us).length:=by rw[GG,hte,ag,E1,hul,cJ]
     rw[e1];simp only[List.take_left];exact dY.mono (fun x es hx=>PR.mono L1.z L1.zp _ _ _ hx) _ _ (dY.app _ _ _ _ hold xX))
    (fun j hj=> .inr ⟨rfl,by rw[GG]at hj;exact hj⟩)
   rw[GG]at this;exact this
  ·refine grow _ cap _ rfl (by omega) hold ?_;have J5:=dY.length (PR.k τ) _ _ hold;rw[hte]at J5 ⊢;refine run_firstCells_some w.drew i.size _ _ _ cap _ J5 fun j u hj=> ?_;rw[ja,dN];show w.cell? _=_;rw[iJ er];rw[dh]at hj
   split at hj
   ·simpa using hj
   ·cases hj
theorem ap2{e:Ty}{l:List e.den}{b:Nat}{cur:Array Value}{e0:TypeId}{fz:Nat×Nat}{tx e':TypeId}(hu:P.underlying tx=some (.slice e'))(er:w.heap[b]? =some (.cells cur e0 fz))(mh:dY (PR w g.Z Zp e) l cur.toList)(n:Nat):
  Src P e.size tx (.slice (some ⟨b,0,none⟩) (ae l) n) (ae l) cur.toList w:=
 Src.ofSlice w hu _ _ _ _ (dY.length (PR.k e) l _ mh) (fun j u hj=>by rw[ja,dN,iJ er];simpa using hj) (ajd l _ mh)
theorem Ty.pw:∀(τ:Ty) (x:τ.den),(τ.cells x).all C.known=true
 |.bool,_ |.int _,_ |.str,_ |.sl _,_ |.unit,_ |.ref _,_ |.fn _,_ |.cl _ _,_=>rfl
 |.pair a b,x=>by simp only[Ty.cells,List.all_append,Ty.pw a,Ty.pw b,Bool.and_self]
theorem VT.pw:∀(V:VT) (x:V.den),(V.cells x).all C.known=true
 |.data τ,x=>Ty.pw τ x
 |.gp _ _,_ |.gs _,_ |.gm _,_ |.unit,_=>rfl
 |.pair a b,x=>by simp only[VT.cells,List.all_append,VT.pw a,VT.pw b,Bool.and_self]
theorem alw{base:Nat}{V:VT}:∀(l:List V.den) (vs:List Value),dY (fun y es=>dT w base Zp h g (V.cells y) es) l vs→∀u∈vs,u.oneCell'=true
 |[],_,hh=>by simp[dY]at hh;subst hh;simp
 |x::l,_,⟨es,rest,e1,h1,h2⟩=>by
  subst e1;intro u hu;rcases List.mem_append.1 hu with hu |hu
  ·exact dT.one _ _ (VT.pw V x) h1 u hu
  ·exact alw l rest h2 u hu
theorem kV{base:Nat}(V:VT):∀(x:V.den) (es:List Value),dT w base Zp h g (V.cells x) es→es.length=V.size:=fun x _ hx=>(dT.length _ _ hx).trans (VT.gX V x)
theorem asv(R:HR w0 Z0 Zp h g w){c:Nat}{wr:Bool}{V:VT}{H:List (Option (List V.den))}(ho:look .dead c h= .gh wr (.bf V) H){y:Option (Nat×Nat×Nat)}{l:List V.den}{v:Value}(hc:CR w w0.heap.size Zp h g (.gs c y) v)(hl:sP H y=some l){tx e':TypeId}(hu:P.underlying tx=some (.slice e')):
  ∃us,Src P V.size tx v l.length us w∧dY (fun y es=>dT w w0.heap.size Zp h g (V.cells y) es) l us:=by
 cases y with
 |none=>
  cases hl;have hc:v= .slice none 0 0:=hc;subst hc;exact⟨[],Src.ofNil w hu 0,rfl⟩
 |some q=>
  obtain⟨i,a,n⟩:=q;obtain⟨b,k,cap,cur,e0,o,hp,er,hsz,hac,_,hoo,rfl,hlen,hG,hpos,mh,_⟩:=ai8 R ho hc hl;refine⟨_,?_,mh⟩;have awT:=dY.length (kV V) l _ mh;subst hlen;refine Src.ofSlice w hu ⟨b,o,none⟩ _ _ _ awT (fun j u hj=> ?_) (alw l _ mh);have hn:0<l.length:=by
   rcases Nat.eq_zero_or_pos l.length with h0 |h0
   ·rw[h0]at hj;simp at hj
   ·exact h0
  rw[hoo (by omega),ja];exact lv er _ _ j u hj
theorem alx(R:HR w0 Z0 Zp h g w){τ:Ty}{x:A}{v:Value}{tx e':TypeId}(hu:P.underlying tx=some (.slice e'))(hx:AR w w0.heap.size Zp h g x v){k:List τ.den→HM}{res:A×bg×Log}(e:(asa false τ x k).eval next h L=some res):
  ∃m us L1,(k m).eval next h L1=some res∧Src P τ.size tx v (ae m) us w∧dY (PR w g.Z Zp τ) m us:=by
 unfold asa at e
 split at e
 ·rename_i c y;unfold QR at e;have e:=cE e
  split at e
  ·rename_i wr K H ho
   split at e
   ·rename_i H' hH hn;obtain⟨hK,rfl⟩:=kd hH;subst hK;obtain⟨l,hl,e⟩:=bI e;obtain⟨us,h1,h2⟩:=asv R ho hx.c hl hu;exact⟨l,us,_,e,h1,dY.mono (fun y es hy=>Ty.Cu hn hy) _ _ h2⟩
   ·exact(ai e).elim
  ·exact(ai e).elim
 ·rename_i c az3;have hc:=hx.c;clear az3
  cases c
  case vec o=>
   simp only[p5]at e;have e:=cE e;obtain⟨hal,hs,hr⟩:=hc
   split at e
   ·rename_i u0 l ho;have od:=R.ob o;rw[ho]at od;obtain⟨h0,h00,b,cur,e0,hb,er,mh⟩:=od;obtain⟨b',hb',rfl⟩:=hr u0 (ae l) (by rw[ho];rfl);rw[hb']at hb;cases hb
    split at e
    ·rename_i m hm;obtain⟨he,rfl⟩:=oE hm;subst he;exact⟨_,_,_,e,ap2 hu er mh _,mh⟩
    ·exact(ai e).elim
   ·rename_i u0 l ho;have od:=R.ob o;rw[ho]at od;obtain⟨h0,h00,b,cur,e0,fz,hb,er,mh,_⟩:=od;obtain⟨b',hb',rfl⟩:=hr u0 (ae l) (by rw[ho];rfl);rw[hb']at hb;cases hb
    split at e
    ·rename_i m hm;obtain⟨he,rfl⟩:=oE hm;subst he;exact⟨_,_,_,e,ap2 hu er mh _,mh⟩
    ·exact(ai e).elim
   ·exact(ai e).elim
  case sl u0 l t=>
   simp only[p5]at e
   split at e
   ·rename_i m hm;obtain⟨he,rfl⟩:=oE hm;subst he;obtain⟨us,h1,h2⟩:=axT (P:=P) hu hc.1;exact⟨_,us,_,e,h1,h2⟩
   ·exact(ai e).elim
  case nils=>
   simp only[p5]at e;simp only[CR]at hc;subst hc;exact⟨[],[],_,e,Src.ofNil w hu 0,rfl⟩
  all_goals (simp only[p5]at e;exact(ai e).elim)
 ·exact(ai e).elim
theorem GL.drop{o c id b:Nat}(hG:GL ((o,.dead)::h) g c id b):GL h g c id b:=by
 obtain⟨wr,K,H,x,e,h1,h2⟩:=hG;rw[aU]at h1
 split at h1
 ·cases h1
 ·exact⟨wr,K,H,x,e,h1,h2⟩
theorem asw(R:HR w0 Z0 Zp h g w){o:Nat}{e:Ty}{l:List e.den}{v:Value}(ho:look .dead o h= .tok)(hc:CR w w0.heap.size Zp h g (.sl e l (.own o)) v):au1 w w0.heap.size Zp ((o,.dead)::h) g e l v:=by
 obtain⟨hp,hal,ht⟩:=hc;rcases ht ho with⟨h1,h2,h3⟩|⟨b,cap,cur,e0,h1,h2,h3,h4,h5,h6,h7,h8⟩
 ·exact .inl ⟨h2,List.length_eq_zero_iff.1 h3⟩
 ·obtain⟨bs,cap',us,hv,_,xX,hat⟩:=hp;simp at hv;subst hv;simp at h2;obtain⟨rfl,rfl⟩:=h2;have hul:=dY.length (PR.k e) l us xX;have hbl:=(R.home o b (by rw[ho];simp) h1).2;refine .inr ⟨b,cap',cur,e0,rfl,h3,h4,h5,h6,h7,hbl,fun p hp hpb=> ?_,fun c id hG=>R.gh.loc c id b o (GL.drop hG) (by rw[ho];simp) h1,fun i hi=>h8▸R.Na o b i ho h1 hi,?_⟩
  ·rw[aU]at hp
   split at hp
   ·exact hp rfl
   ·rename_i hne;exact hne (R.oa o p b (by rw[ho];simp) hp h1 hpb)
  ·have:cur.toList.take (ae l*e.size)=us:=by
    rw[←hul];apply List.ext_getElem?;intro j;rw[dh]
    by_cases hj:j<us.length
    ·rw[if_pos hj];obtain⟨b2,off,J0,hc⟩:=hat (by intro h0;subst h0;simp at hj)
     cases J0;have h9:=(hc j us[j] (ah hj)).1;rw[dN,iJ h3]at h9;rw[ah hj,cG,h9]
    ·rw[if_neg hj,bx (by omega)]
   rw[this];exact xX
theorem asx(R:HR w0 Z0 Zp h g w){o:Nat}{e:Ty}{l:List e.den}{v:Value}(ho:look .dead o h= .row e l)(hc:CR w w0.heap.size Zp h g (.vec o) v)(hl:ae l≤maxLen):au1 w w0.heap.size Zp ((o,.dead)::h) g e l v:=by
 obtain⟨hal,hs,hr⟩:=hc;obtain⟨b,hb,rfl⟩:=hr e (ae l) (by rw[ho];rfl);have od:=R.ob o;rw[ho]at od;obtain⟨h0,h00,b',cur,e0,hb',er,mh⟩:=od;rw[hb]at hb';cases hb';have hul:=dY.length (PR.k e) l _ mh;have hbl:=R.home o b (by rw[ho];simp) hb;refine .inr ⟨b,ae l,cur,e0,rfl,er,aA _,hl,by simpa using hul,hbl.1,hbl.2,fun p hp hpb=> ?_,fun c id hG=>R.gh.loc c id b o (GL.drop hG) (by rw[ho];simp) hb,fun i hi=>absurd hi (R.lq o b i (by rw[ho];rfl) hb),?_⟩
 ·rw[aU]at hp
  split at hp
  ·exact hp rfl
  ·rename_i hne;exact hne (R.oa o p b (by rw[ho];simp) hp hb hpb)
 ·rw[←hul,ch];exact mh
theorem asy{e:Ty}:au1 w base Zp h g e ([]:List e.den) (.slice none 0 0):=.inl ⟨rfl,rfl⟩
theorem aoi(R:HR w0 Z0 Zp h g w)(hn:¬ g.al new){t tx e ex ty:TypeId}{d dx de:TD}(T:eV P t d)(Tx:eV P tx dx)(Te:eV P e de)(hd:d.desc= .slice e)(hdx:dx.desc= .slice ex){τ:Ty}(hz:de.zero=true)(hτ:de.ty=some τ)
  {s x:A} {v vx:Value} (hs:AR w w0.heap.size Zp h g s v) (hx:AR w w0.heap.size Zp h g x vx) (e1:(aiU new τ de.bytes s x).eval next h L=some (r,h',L')):
  bY P w0 Z0 Zp h g w new (do pure (.value (←Builtin.append_ #[t,tx] ty #[v,vx]))) r h':=by
 obtain⟨t1,t2,t3,t4⟩:=Te.U8 hτ;unfold aiU at e1;obtain⟨m,us,L1,e2,hsrc,xX⟩:=alx R (Tx.slice hdx) hx e1;clear e1
 split at e2
 ·obtain⟨n,hn2,e2⟩:=bI e2;have e2:=dZ e2;obtain⟨rfl,rfl,_⟩:=cb e2;have hv:=hs.c;simp only[CR]at hv;subst hv;exact J4 R hn T Te hd hz hτ asy hsrc xX hn2
 ·rename_i u0 l o
  split at e2
  ·rename_i l' hl';obtain⟨he,rfl⟩:=oE hl';subst he;have e2:=cE e2
   split at e2
   ·rename_i ho;obtain⟨n,hn2,e2⟩:=bI e2;have e2:=dZ e2;have e2:=dZ e2;obtain⟨rfl,rfl,_⟩:=cb e2;obtain⟨R1,Le2⟩:=R.drop o;exact bY.behind Le2 (fun _ h=>h) (J4 R1 hn T Te hd hz hτ (asw R ho hs.c) hsrc xX hn2)
   ·exact(ai e2).elim
  ·exact(ai e2).elim
 ·rename_i o;have e2:=cE e2
  split at e2
  ·rename_i u0 l ho
   split at e2
   ·rename_i l' hl';obtain⟨he,rfl⟩:=oE hl';subst he;obtain⟨n,hn2,e2⟩:=bI e2;have e2:=dZ e2;have e2:=dZ e2;obtain⟨rfl,rfl,_⟩:=cb e2;obtain⟨R1,Le2⟩:=R.drop o;have hlm:ae l+ae m≤140737488355328:=(et hn2).2.1;exact bY.behind Le2 (fun _ h=>h) (J4 R1 hn T Te hd hz hτ (asx R ho hs.c (by simp only[maxLen];omega)) hsrc xX hn2)
   ·exact(ai e2).elim
  ·exact(ai e2).elim
 ·exact(ai e2).elim
end
section
variable {P:Program} {w0:W0} {w w':World} {Z0 Zp:cD} {h h':bg} {g:G} {new next base:Nat} {r:A} {L L':Log} {X:Cx}
theorem Ty.lw:∀τ:Ty,τ.lr.length=τ.size
 |.bool |.int _ |.str |.sl _ |.unit |.ref _ |.fn _ |.cl _ _=>rfl
 |.pair a b=>by simp[Ty.lr,Ty.size,Ty.lw a,Ty.lw b]
theorem VT.lw:∀V:VT,V.lr.length=V.size
 |.data τ=>Ty.lw τ
 |.gp _ _ |.gs _ |.gm _ |.unit=>rfl
 |.pair a b=>by simp[VT.lr,VT.size,VT.lw a,VT.lw b]
theorem VT.Q7{base:Nat}:∀V:VT,V.J1=true→dT w base Zp h g (V.cells V.zero) V.lr
 |.data τ,hn=>by
  have hn:(τ.cI&&τ.J1)=true:=hn;rw[aj]at hn;exact dT.uZ τ _ _ (GQ τ hn.1 hn.2)
 |.gp _ _,_=>⟨_,[],rfl,rfl,rfl⟩
 |.gs _,_=>⟨_,[],rfl,rfl,rfl⟩
 |.gm _,_=>⟨_,[],rfl,rfl,rfl⟩
 |.pair a b,hn=>by
  have hn:(a.J1&&b.J1)=true:=hn;rw[aj]at hn;exact dT.append _ _ _ _ (VT.Q7 a hn.1) (VT.Q7 b hn.2)
 |.unit,_=>rfl
theorem VT.jt{base:Nat}:∀V:VT,dT w base Zp h g V.mw V.lr
 |.data τ=>Go.Am.jt τ
 |.gp _ _=>⟨_,[],rfl,rfl,rfl⟩
 |.gs _=>⟨_,[],rfl,rfl,rfl⟩
 |.gm _=>⟨_,[],rfl,rfl,rfl⟩
 |.pair a b=>dT.append _ _ _ _ (VT.jt a) (VT.jt b)
 |.unit=>rfl
theorem bY.acq(R:HR w0 Z0 Zp h g w){c k cap sz:Nat}{K:GK}{H:List (Option K.xZ)}{x:K.xZ}(ho:look .dead c h= .gh true K H){res:Sem Next}{w1:World}(hl:aqT w w1){cur:Array Value}{e0:TypeId}{v:Value}
  (hr:res.run P w= .ok (.value v) (w1.alloc (.cells cur e0 (0,0)))) (hsz:∀V,K= .bf V→sz=V.size)
  (hx:∀(g':G) (w':World) (h':bg),Le Zp h g w h' g' w'→g'.pm c H.length=some (w.heap.size,k,cap,sz)→w'.heap[w.heap.size]? =some (.cells cur e0 (0,0))→vp w' w0.heap.size Zp h' g' c H.length K x∧AR w' w0.heap.size Zp h' g' r v):
  bY P w0 Z0 Zp h g w new res r ((c,.gh true K (eR H x))::h):=by
 have hw:(w1.alloc (.cells cur e0 (0,0))).heap=w.heap.push (.cells cur e0 (0,0)):=by
  show w1.heap.push _=_;rw[hl.heap]
 have hnew:(w1.alloc (.cells cur e0 (0,0))).heap[w.heap.size]? =some (.cells cur e0 (0,0)):=by rw[hw];simp
 obtain⟨g',hg⟩:∃g':G,g'={ g with pm:=U7 g.pm c H.length (w.heap.size,k,cap,sz) }:=⟨_,rfl⟩;have Nh:g'.pm c H.length=some (w.heap.size,k,cap,sz):=by rw[hg];exact sy _ _ _ _
 obtain⟨R',L'⟩:=R.eR (x:=x) ho hw ((hl.ext R.ext).alloc _) hsz hg (fun L=>(hx g' _ _ L Nh hnew).1);exact⟨_,v,_,_,hr,.inl rfl,R',L',(hx g' _ _ L' Nh hnew).2,fun o ho=> .inl (by rw[hg]at ho;exact ho)⟩
theorem Vd{t tx ty e:TypeId}{i:TypeInfo}(ht:P.underlying t=some (.slice e))(hi:P.info? e=some i){b o sLen sCap:Nat}{cur:Array Value}{e0:TypeId}(er:w.heap[b]? =some (.cells cur e0 (0,0))){x:Value}{n:Nat}{news:List Value}
  (hs:Src P i.size tx x n news w) (hroom:sLen+n≤sCap) (hfit:o+sLen*i.size+news.length≤cur.size):
  (Builtin.append_ #[t,tx] ty #[.slice (some ⟨b,o,none⟩) sLen sCap,x]).run P w= .ok (.slice (some ⟨b,o,none⟩) (sLen+n) sCap) (w.setRow b (cur.toList.take (o+sLen*i.size)++news++cur.toList.drop (o+sLen*i.size+news.length)).toArray):=by
 have hst:=run_storeCells_at P b (o+sLen*i.size) e0 news 0 cur w er (by simpa using hfit) hs.one;simp only[Nat.add_zero]at hst;rcases hs.kind with⟨e',hk⟩|hk<;>simp[Builtin.append_,run_underlying ht,run_underlying hk,sizeOf,typeInfo,hi,hs.len,hroom,hs.cells,ja,hst]
theorem Ve{t tx ty e:TypeId}{i:TypeInfo}(ht:P.underlying t=some (.slice e))(hi:P.info? e=some i){base:Option Addr}{sLen sCap:Nat}(hle:sLen≤sCap){x:Value}(hs:Src P i.size tx x 0 [] w):
  (Builtin.append_ #[t,tx] ty #[.slice base sLen sCap,x]).run P w= .ok (.slice base sLen sCap) w:=by
 rcases hs.kind with⟨e',hk⟩|hk<;>cases base<;>simp[Builtin.append_,run_underlying ht,run_underlying hk,sizeOf,typeInfo,hi,hs.len,hs.cells,hle,storeCells]
theorem asz(R:HR w0 Z0 Zp h g w){V:VT}{x:A}{v:Value}{tx e':TypeId}(hu:P.underlying tx=some (.slice e'))(hx:AR w w0.heap.size Zp h g x v){k:List V.den→HM}{res:A×bg×Log}(e:(axt V x k).eval next h L=some res):
  ∃m us L1,(k m).eval next h L1=some res∧Src P V.size tx v (ae m) us w∧dY (fun y es=>dT w w0.heap.size Zp h g (V.cells y) es) m us:=by
 by_cases hd:∃τ,V= .data τ
 ·obtain⟨τ,rfl⟩:=hd;have e:(asa false τ x k).eval next h L=some res:=e
  obtain⟨m,us,L1,e,h1,h2⟩:=alx R hu hx e;exact⟨m,us,L1,e,h1,dY.mono (fun y es hy=>dT.uZ τ y es hy) _ _ h2⟩
 unfold axt at e
 split at e
 ·exact absurd ⟨_,rfl⟩ hd
 ·rename_i V c y k _;have e:=cE e
  split at e
  ·rename_i wr K H ho
   split at e
   ·rename_i H' hH;obtain⟨hK,rfl⟩:=kd hH;subst hK;obtain⟨l,hl,e⟩:=bI e;obtain⟨us,h1,h2⟩:=asv R ho hx.c hl hu;exact⟨l,us,_,e,h1,h2⟩
   ·exact(ai e).elim
  ·exact(ai e).elim
 ·have hc:=hx.c;simp only[CR]at hc;subst hc;exact⟨[],[],_,e,Src.ofNil w hu 0,rfl⟩
 ·exact(ai e).elim
theorem aly(R:HR w0 Z0 Zp h g w){t tx e ex ty:TypeId}{d dx de:TD}(T:eV P t d)(Tx:eV P tx dx)(Te:eV P e de)(hd:d.desc= .slice e)(hdx:dx.desc= .slice ex){V:VT}(hV:VOK P e V)(hpos:0<de.size){c:Nat}{y:Option (Nat×Nat×Nat)}
  {x:A} {v vx:Value} (hs:CR w w0.heap.size Zp h g (.gs c y) v) (hx:AR w w0.heap.size Zp h g x vx) (e1:(aiV V c de.bytes y x).eval next h L=some (r,h',L')):
  bY P w0 Z0 Zp h g w new (do pure (.value (←Builtin.append_ #[t,tx] ty #[v,vx]))) r h':=by
 unfold aiV at e1;obtain⟨m,us,L1,e2,hsrc,xX⟩:=asz R (Tx.slice hdx) hx e1;clear e1;have e2:=cE e2
 split at e2
 ·rename_i K H ho
  split at e2
  ·rename_i H' hH;obtain⟨hK,rfl⟩:=kd hH;subst hK;obtain⟨r1,hr1,e2⟩:=bI e2;have e2:=dZ e2;obtain⟨rfl,rfl,_⟩:=cb e2;obtain⟨i,z,hi,his,hiz,Vb,_⟩:=hV.inf;obtain⟨i',hi',ast,hib⟩:=Te.inf;rw[hi]at hi';cases hi';have hzs:z.cells.size=i.size:=by
    have:=congrArg ae Vb;rw[aI,VT.lw]at this;omega
   rw[←his]at hsrc;have hul:=hsrc.newsLen;have hVp:0<V.size:=by omega
   have grow:∀(l:List V.den) (n:List V.den) (bs:Option Addr) (sCap:Nat) (olds:List Value) (H1:List (Option (List V.den))) (h1:bg),v= .slice bs (ae l) sCap→sCap<ae l+ae m→dY (fun y es=>dT w w0.heap.size Zp h g (V.cells y) es) l olds→
     app de.bytes l m=some n→(Builtin.firstCells i.size (ae l) (.slice bs (ae l) sCap)).run P w.drew= .ok olds.toArray w.drew→HR w0 Z0 Zp h1 g w→Le Zp h g w h1 g w→look .dead c h1= .gh true (.bf V) H1→
     bY P w0 Z0 Zp h1 g w new (do pure (.value (←Builtin.append_ #[t,tx] ty #[v,vx]))) (.v false [.gs c (some (H1.length,0,ae n))]) ((c,.gh true (.bf V) (eR H1 n))::h1):=by
    intro l n bs sCap olds H1 h1 hv hlt J5 asu hfc R1 sC ho1;subst hv;obtain⟨hb1,J0,rfl⟩:=et asu;have hr:=run_append_grow_src (P:=P) w t tx ty e i z (T.slice hd) hi hiz bs (ae l) sCap olds hfc vx _ us hsrc hlt (by omega) (growslice_fits hlt (by rw[hib];exact hb1));have hge:=grownCap_ge w (ae l+ae m) sCap e;have hcm:=grownCap_le_maxLen w (ae l+ae m) sCap e (by simp only[maxLen];omega);have aqY:=dY.length (kV V) l olds J5;have GG:ae (l++m)=ae l+ae m:=ag;refine bY.acq R1 ho1 (w1:=w.drew) (.inr rfl) (cur:=(olds++us).toArray++Builtin.zeroCells z.cells (grownCap w (ae l+ae m) sCap e -(ae l+ae m))) (e0:=e) (k:=0) (cap:=grownCap w (ae l+ae m) sCap e) (sz:=V.size)
     (v:=.slice (some ⟨w.heap.size,0,none⟩) (ae l+ae m) (grownCap w (ae l+ae m) sCap e)) (K:=.bf V) (by simp[hr]) (fun V' h=>by cases h;rfl) (fun g' w' h' L2 Nh hnew=>⟨⟨hVp,_,_,_,_,_,Nh,hnew,?_,?_,hcm,?_⟩,?_⟩)
    ·rw[Array.size_append,J3,ek,ag,aqY,hul,hzs,Nat.sub_mul,←his,dN];have:=cv i.size hge;rw[cJ]at this ⊢;omega
    ·show ae (l++m)≤_;rw[GG];exact hge
    ·have e1:ae (l++m)*V.size=(olds++us).length:=by rw[GG,ag,aqY,hul,←his,cJ]
     rw[dC];show dY _ (l++m) (List.take (ae (l++m)*V.size) _);rw[e1,Array.toList_append,List.take_left];exact dY.mono (fun x es hx=>dT.mono L2 _ _ (dT.mono sC _ _ hx)) _ _ (dY.app _ _ _ _ J5 xX)
    ·refine AR.rg ⟨_,_,_,_,0,Nh,?_,fun _=>by simp,?_⟩
     ·show 0+ae (l++m)≤_;rw[GG];omega
     ·show Value.slice _ _ _=Value.slice _ (ae (l++m)) _;rw[GG];rfl
   cases y with
   |none=>
    have hv:v= .slice none 0 0:=hs;unfold gsA at hr1;simp only at hr1
    split at hr1
    ·cases hr1;subst hv;have hus:us=[]:=xX;subst hus;have hr:=Fa (P:=P) (ty:=ty) (T.slice hd) hi hsrc;have hsm:∀o,look .dead o h=look .dead o ((c,Ob.gh true (.bf V) H)::h):=fun o=>by
      rw[aU]
      split
      ·rename_i hc;subst hc;exact ho
      ·rfl
     exact⟨_,.slice none 0 0,w,g,by simp[hr],.inl rfl,R.same hsm,Le.same hsm,AR.rg rfl,fun o ho=> .inl ho⟩
    ·rename_i y0 m0
     split at hr1
     ·rename_i n hn
      cases hr1;exact grow [] n none 0 [] H h hv (by simp) rfl hn (run_firstCells_none w.drew _ _ _ _) R (Le.refl _ _ _ _) ho
     ·cases hr1
   |some q=>
    obtain⟨id,a,n0⟩:=q;unfold gsA at hr1;simp only at hr1
    split at hr1
    ·rename_i l hl
     split at hr1
     ·rename_i n hn
      cases hr1;obtain⟨b,k,cap,cur,e0,o,hp,er,hsz,hac,Va,hoo,rfl,hlen,hG,_,mh,l0,hl0,azZ,_⟩:=ai8 R ho hs hl;obtain⟨hb1,J0,axU⟩:=et hn;have hlen:ae l=n0:=hlen
      by_cases hroom:n0+ae m≤cap -a
      ·
       have GG:ae n=n0+ae m:=by rw[axU,ag,hlen]
       obtain⟨g',hg⟩:∃g':G,g'={ g with pm:=U7 g.pm c H.length (b,k+a*V.size,cap -a,V.size) }:=⟨_,rfl⟩;have Nh:g'.pm c H.length=some (b,k+a*V.size,cap -a,V.size):=by rw[hg];exact sy _ _ _ _
       have aEX:(cap -a)*V.size+a*V.size=cap*V.size:=by rw[←cJ];congr 1;omega
       have acr:g'.al=g.al:=by rw[hg]
       by_cases aCT:a<cap
       ·have hoo:=hoo aCT;subst hoo;have hfit:k+a*V.size+n0*i.size+us.length≤cur.size:=by
         rw[hul,his,fu,←cJ,hsz];have:=cv V.size hroom;omega
        have hr:=Vd (P:=P) (ty:=ty) (T.slice hd) hi er hsrc hroom hfit;have Q6:=setRow_heap w b cur (cur.toList.take (k+a*V.size+n0*i.size)++us++cur.toList.drop (k+a*V.size+n0*i.size+us.length)).toArray e0 (0,0) er;obtain⟨R',L'⟩:=R.awW (w':=w.setRow b (cur.toList.take (k+a*V.size+n0*i.size)++us++cur.toList.drop (k+a*V.size+n0*i.size+us.length)).toArray) (x:=n) (K:=.bf V) ho hl0 hp rfl (fun c hc=>setRow_other w b c _ hc) (setRow_size _ _ _) (vB R.ext (R.gh.own c (.bf V) H id _ _ ho hl0 hp) _) (fun V' h=>by cases h;rfl) hg (fun L2=>by
         have hcl:cur.toList.length=cur.size:=aI;have E1:(cur.toList.take (k+a*V.size+n0*i.size)).length=k+a*V.size+n0*i.size:=by
          rw[aC,hcl];omega
         refine⟨hVp,b,_,_,_,e0,Nh,Q6,?_,?_,by omega,?_⟩
         ·rw[ek,ag,ag,E1,dI,hcl];omega
         ·show ae n≤_;rw[GG];exact hroom
         ·have e3:((cur.toList.take (k+a*V.size+n0*i.size)++us++cur.toList.drop (k+a*V.size+n0*i.size+us.length)).drop (k+a*V.size)).take (ae n*V.size)=(cur.toList.drop (k+a*V.size)).take (n0*V.size)++us:=by
           have e4:cur.toList.take (k+a*V.size+n0*i.size)=cur.toList.take (k+a*V.size)++(cur.toList.drop (k+a*V.size)).take (n0*i.size):=by
            rw[List.take_add]
           rw[e4,bn,bn,List.drop_append_of_le_length (by rw[aC,aI];omega),List.drop_eq_nil_of_le (by rw[aC,aI];omega),bE,←bn,GG,his];have e5:((cur.toList.drop (k+a*V.size)).take (n0*V.size)++us).length=(n0+ae m)*V.size:=by
            rw[ag,aC,dI,aI,hul,his,cJ];rw[hul,his]at hfit;omega
           rw[←e5,List.take_left]
          show dY _ n (List.take (ae n*V.size) _);show dY _ n (List.take (ae n*V.size) (List.drop (k+a*V.size) (cur.toList.take (k+a*V.size+n0*i.size)++us++cur.toList.drop (k+a*V.size+n0*i.size+us.length))));rw[e3];have Q3:=dY.mono (fun x es hx=>dT.mono L2 _ _ hx) _ _ (dY.app _ _ _ _ mh xX);rw[←axU]at Q3;exact Q3)
        refine⟨_,.slice (some ⟨b,k+a*V.size,none⟩) (n0+ae m) (cap -a),_,_,by simp[hr],.inl rfl,R',L',AR.rg ⟨b,_,_,_,k+a*V.size,Nh,?_,fun _=>by simp,?_⟩,fun o ho=> .inl (acr▸ho)⟩
        ·show 0+ae n≤_;rw[GG];omega
        ·show _=Value.slice _ (ae n) _;rw[GG];rfl
       ·
        have hca:cap -a=0:=by omega
        have hm0:ae m=0:=by omega
        have axV:n0=0:=by omega
        have hmn:m=[]:=List.length_eq_zero_iff.1 hm0;subst hmn;have hus:us=[]:=xX;subst hus;have aCU:l=[]:=List.length_eq_zero_iff.1 (hlen.trans axV);have hr:=Ve (P:=P) (ty:=ty) (T.slice hd) hi (base:=some ⟨b,o,none⟩) (sLen:=n0) (sCap:=cap -a) (by omega) hsrc;obtain⟨R',L'⟩:=R.awW (w':=w) (x:=n) (K:=.bf V) ho hl0 hp rfl (fun _ _=>rfl) rfl R.ext (fun V' h=>by cases h;rfl) hg (fun L2=>by
         refine⟨hVp,b,_,_,cur,e0,Nh,er,?_,?_,by omega,?_⟩
         ·omega
         ·show ae n≤_;rw[GG];exact hroom
         ·rw[axU,aCU];show dY _ [] _;simp[dY])
        refine⟨_,.slice (some ⟨b,o,none⟩) n0 (cap -a),_,_,by simp[hr],.inl rfl,R',L',AR.rg ⟨b,_,_,_,o,Nh,?_,fun h=>by omega,?_⟩,fun o ho=> .inl (acr▸ho)⟩
        ·show 0+ae n≤_;rw[GG];omega
        ·show _=Value.slice _ (ae n) _;rw[GG];rfl
      ·
       obtain⟨R1,sC⟩:=R.azT (K:=.bf V) ho hl0 hp rfl false (g':=g) (by simp);have hlk:look .dead c ((c,Ob.gh true (.bf V) (H.set id none))::h)= .gh true (.bf V) (H.set id none):=by rw[aU,if_pos rfl]
       have J5:=dY.length (kV V) l _ mh;have u5:=grow l n (some ⟨b,o,none⟩) (cap -a) _ (H.set id none) _ (by rw[hlen]) (by omega) mh hn (by
        refine run_firstCells_some w.drew i.size _ _ _ (cap -a) _ (by rw[his];exact J5) fun j u hj=> ?_;have hn0:0<n0:=by
         rcases Nat.eq_zero_or_pos n0 with h0 |h0
         ·subst h0;simp at hj
         ·exact h0
        rw[hoo (by omega),ja];exact lv er _ _ j u hj) R1 sC hlk
       obtain⟨nn,vv,w2,g2,q1,q2,q3,q4,q5,q6⟩:=bY.behind sC (fun _ h=>h) u5;have hsm:∀o,look .dead o ((c,Ob.gh true (.bf V) (eR (H.set id none) n))::(c,Ob.gh true (.bf V) (H.set id none))::h)=look .dead o ((c,Ob.gh true (.bf V) (eR (H.set id none) n))::h):=fun o=>by
        rw[aU,aU,aU]
        split
        ·rfl
        ·rfl
       have hL: @ae (Option (List V.den)) (@aV (Option (GK.bf V).xZ) H id none)= @ae (Option (List V.den)) H:=aP;rw[hL]at q5;exact⟨nn,vv,w2,g2,q1,q2,q3.same hsm,q4.trans (Le.same hsm),AR.mono (Le.same hsm) _ _ q5,q6⟩
     ·cases hr1
    ·cases hr1
  ·exact(ai e2).elim
 ·exact(ai e2).elim
theorem aoj(R:HR w0 Z0 Zp h g w){t:TypeId}{V:VT}(hV:VOK P t V){c:Nat}{H:List (Option V.den)}(ho:look .dead c h= .gh true (.st V) H):
  bY P w0 Z0 Zp h g w new (do pure (.value (←Instr.alloc t true (.tuple #[])))) (.v false [.gp c 0 (some H.length)]) ((c,.gh true (.st V) (eR (α:=V.den) H V.zero))::h):=by
 obtain⟨i,z,hi,his,hiz,Vb,_⟩:=hV.inf;refine bY.acq R (K:=.st V) ho (w1:=w) (.inl rfl) (cur:=z.cells) (e0:=t) (k:=0) (cap:=0) (sz:=V.size) (v:=.pointer (some ⟨w.heap.size,0,none⟩)) ?_ (fun _ h=>by cases h) (fun g' w' h' L2 Nh hnew=>⟨⟨hV.pos,_,_,_,_,Nh,hnew,?_⟩,AR.rg ⟨_,Nh,rfl,rfl⟩⟩)
 ·simp[Instr.alloc,zeroValue,typeInfo,hi,hiz,newVar,newRow,newObj,Sem.run]
 ·rw[Vb];exact VT.Q7 V hV.nf
theorem asA(R:HR w0 Z0 Zp h g w){t:TypeId}{V:VT}(hV:VOK P t V){c:Nat}{H:List (Option V.den)}(ho:look .dead c h= .gh true (.st V) H){cs:List C}{v:Value}(hc:dT w w0.heap.size Zp h g cs v.cells.toList){z:V.den}(hz:V.dG cs=some z):
  bY P w0 Z0 Zp h g w new (do pure (.value (←Instr.box t v))) (.v false [.gp c 0 (some H.length)]) ((c,.gh true (.st V) (eR (α:=V.den) H z))::h):=by
 refine bY.acq R (K:=.st V) ho (w1:=w) (.inl rfl) (cur:=v.cells) (e0:=t) (k:=0) (cap:=0) (sz:=V.size) (v:=.pointer (some ⟨w.heap.size,0,none⟩)) ?_ (fun _ h=>by cases h) (fun g' w' h' L2 Nh hnew=>⟨⟨hV.pos,_,_,_,_,Nh,hnew,?_⟩,AR.rg ⟨_,Nh,rfl,rfl⟩⟩)
 ·simp[Instr.box,newVar,newRow,newObj,Sem.run]
 ·exact dT.mono L2 _ _ (VT.sB hV.ok hc hz)
theorem dY.acs{base:Nat}{V:VT}(hn:V.J1=true):∀n,dY (fun y es=>dT w base Zp h g (V.cells y) es) (ao n V.zero) (ao n V.lr).flatten
 |0=>rfl
 |n+1=>⟨V.lr,(ao n V.lr).flatten,by simp[cM],VT.Q7 V hn,dY.acs hn n⟩
theorem aqZ(R:HR w0 Z0 Zp h g w){t e:TypeId}{d de:TD}(T:eV P t d)(Te:eV P e de)(hd:d.desc= .slice e){V:VT}(hV:VOK P e V){c:Nat}{H:List (Option (List V.den))}(ho:look .dead c h= .gh true (.bf V) H)
  {kl kc:IntKind} {n:Int} {k:Nat} (hk:Cl de.bytes n=some k):
  bY P w0 Z0 Zp h g w new (do pure (.value (←Instr.makeSlice t (.int kl n) (.int kc n)))) (.v false [.gs c (some (H.length,0,k))]) ((c,.gh true (.bf V) (eR (α:=List V.den) H (ao k V.zero)))::h):=by
 obtain⟨i,z,hi,his,hiz,Vb,_⟩:=hV.inf;obtain⟨i',hi',ast,hib⟩:=Te.inf;rw[hi]at hi';cases hi';obtain⟨h0,h1,h2,rfl⟩:=gY hk;have hpos:=hV.pos;have hzs:z.cells.size=V.size:=by
  have:=congrArg ae Vb;rw[aI,VT.lw]at this;omega
 have hb:(i.bytes:Int)*n≤281474976710656:=by
  have h3:n.toNat*i.bytes≤140737488355328:=by rw[hib];exact h1
  have h4:((n.toNat*i.bytes:Nat):Int)=(i.bytes:Int)*n:=by rw[Int.natCast_mul,Int.toNat_of_nonneg h0,Int.mul_comm]
  omega
 have hrun:=run_make (P:=P) w t e i z (T.slice hd) hi hiz kl kc n n h0 (Int.le_refl _) hb (by omega);have hfl:(madeCells z.cells (n.toNat*i.size)).toList=(ao n.toNat V.lr).flatten:=by
  have:i.size=z.cells.size:=by omega
  rw[this,ahD z.cells (by omega),Vb]
 have mh:=fun(g':G) (w':World) (h':bg)=>dY.acs (w:=w') (base:=w0.heap.size) (Zp:=Zp) (h:=h') (g:=g') hV.nf n.toNat;have GG:((ao n.toNat V.lr).flatten).length=n.toNat*V.size:=by
  have:=dY.length (kV (w:=w) (base:=w0.heap.size) (Zp:=Zp) (h:=h) (g:=g) V) _ _ (mh g w h);rw[aY]at this;exact this
 refine bY.acq R (K:=.bf V) ho (w1:=w) (.inl rfl) (cur:=madeCells z.cells (n.toNat*i.size)) (e0:=e) (k:=0) (cap:=n.toNat) (sz:=V.size) (v:=.slice (some ⟨w.heap.size,0,none⟩) n.toNat n.toNat) (by simp[hrun]) (fun V' h=>by cases h;rfl)
  (fun g' w' h' L2 Nh hnew=>⟨⟨hpos,_,_,_,_,_,Nh,hnew,?_,?_,by simp only[maxLen];omega,?_⟩,AR.rg ⟨_,_,_,_,0,Nh,by omega,fun _=>by simp,by simp⟩⟩)
 ·rw[←aI,hfl,GG,dN]
 ·show @ae V.den (ao n.toNat V.zero)≤_;rw[aY];exact aA _
 ·show dY _ (ao n.toNat V.zero) (List.take (@ae V.den (ao n.toNat V.zero)*V.size) _);rw[aY,dC,hfl,←GG,ch];exact mh g' w' h'
theorem aok(R:HR w0 Z0 Zp h g w){t e:TypeId}{d de:TD}(T:eV P t d)(Te:eV P e de)(hd:d.desc= .slice e){V:VT}(hV:VOK P e V){c:Nat}{H:List (Option (List V.den))}(ho:look .dead c h= .gh true (.bf V) H){ps:Array (Nat×Value)}(hp:ps= #[]):
  bY P w0 Z0 Zp h g w new (do pure (.value (←Instr.buildSlice t 0 ps))) (.v false [.gs c (some (H.length,0,0))]) ((c,.gh true (.bf V) (eR (α:=List V.den) H []))::h):=by
 subst hp;obtain⟨ie,hie,his,_⟩:=Te.inf;have hrun:(Instr.buildSlice t 0 #[]).run P w= .ok (.slice (some ⟨w.heap.size,0,none⟩) 0 0) (w.alloc (.cells #[] e)):=by
  simp[Instr.buildSlice,run_underlying (T.slice hd),Go.sizeOf,typeInfo,hie,Instr.fill,newRow,Array.range_zero']
 refine bY.acq R (K:=.bf V) ho (w1:=w) (.inl rfl) (cur:= #[]) (e0:=e) (k:=0) (cap:=0) (sz:=V.size) (v:=.slice (some ⟨w.heap.size,0,none⟩) 0 0) (by simp[hrun]) (fun V' h=>by cases h;rfl)
  (fun g' w' h' L2 Nh hnew=>⟨⟨hV.pos,_,_,_,_,_,Nh,hnew,by simp,aA _,by simp only[maxLen];omega,by simp[dY]⟩,AR.rg ⟨_,_,_,_,0,Nh,by omega,fun _=>by simp,by simp⟩⟩)
theorem afW(hX:YX P X.tt)(R:HR w0 Z0 Zp h g w){t:TypeId}{d:TD}(T:eV P t d){fs:List (TypeId×Nat)}(hd:d.desc= .struct fs){V:VT}(hV:VOK P t V){pl:List (Nat×Nat)}
  (xX:vo (fun f:TypeId×Nat=>match cZ f.1 X.tt with |some df=>some (f.2,df.size)|none=>none) fs=some pl) {parts:Array (Nat×Operand)}
  {env:Env} {a:Act} (he:∀t,AR w w0.heap.size Zp h g (look aJ t env) (a.tmps.getD t undef)) {cs:List C} (hf:QU (fun i=>pl[i]?) V.mw (parts.toList.map fun(i,x)=>(i,D8 env x))=some cs):
  bY P w0 Z0 Zp h g w new (do pure (.value (←Instr.build t (parts.map fun(i,x)=>(i,a.eval x))))) (.v true cs) h:=by
 obtain⟨f,hu,hfs⟩:=T.struct hd;obtain⟨i,z,hi,_,hiz,Vb,_⟩:=hV.inf;have hzc:dT w w0.heap.size Zp h g V.mw z.cells.toList:=by rw[Vb];exact VT.jt V
 rw[←hfs]at xX;have Nh:=PH hX _ _ xX;obtain⟨cells',e1,e2⟩:=Q5 (pc:=fun i=>pl.toArray[i]?) (fun i q hq=>by simpa using hq) he parts.toList _ _ z.cells hzc hf;refine bY.pure R (v:=.agg cells') ?_ ⟨cells'.toList,by simp,e2⟩;have hb:P.built t (parts.map fun(i,x)=>(i,a.eval x)).toList=some cells':=by
  unfold Program.built;simp only[hi,hu,hiz,Nh,Array.toList_map];exact e1
 simp[run_build w t _ cells' hb]
end
end Go.Am
