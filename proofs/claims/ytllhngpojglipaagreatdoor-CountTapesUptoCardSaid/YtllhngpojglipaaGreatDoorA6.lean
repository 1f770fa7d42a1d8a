import Derived.Test.YtllhngpojglipaaGreatDoorA5
set_option linter.unusedVariables false
set_option linter.unusedSimpArgs false
open Bool renaming and_eq_true→aj,not_eq_true'→aW
open List renaming append_nil→cK,cons_append→eJ,getElem?_take→dh,length→ae,map_append→eI,map_cons→cj
open Nat renaming add_assoc→fu,blt_eq→fl,eq_of_beq_eq_true→az,le_refl→aA,le_trans→eA,lt_of_lt_of_le→ca
open Go.World renaming cell?_of_block→bW
namespace Go.Am
open Go
section
variable {P:Program} {w0:W0} {w w':World} {Z0 Zp:cD} {h h':bg} {g:G} {new next base:Nat} {r:A} {L L':Log} {X:Cx}
def ajh:Op→Bool
 |.call c=>match c.callee with
  |.value _=>true
  |_=>false
 |_=>false
theorem Vf{t te:TypeId}(hu:P.underlying t=some (.pointer te))(a:Option Addr)(d:Nat):(Op.equalIn (d+1) t (.pointer a) (.pointer none)).run P w= .ok a.isNone w:=by
 unfold Op.equalIn;rw[Sem.run_bind,run_underlying hu]
 cases a<;>rfl
theorem acy{op:BinOp}{t:TypeId}{d:TD}(T:eV P t d){x y:Operand}{nil sl:Bool}{ya:A}{vx vy:Value}(hx:match sl with |false=>∃a,vx= .pointer a∧a.isNone=nil |true=>∃a n c,vx= .slice a n c∧a.isNone=nil)
  (hy:AR w base Zp h g ya vy) (e:(UZ sl op d nil ya).eval next h L=some (r,h',L')):
  h'=h∧∃c v,r= .v false [c]∧(do eqGuard op t x y vx vy;binOp op t vx vy:Sem Value).run P w= .ok v w∧CR w base Zp h g c v:=by
 unfold UZ at e;have go:∀u:Value,(eqGuard .eql t x y vx u).run P w= .ok () w→(eqGuard .neq t x y vx u).run P w= .ok () w→(Op.equal t vx u).run P w= .ok nil w→vy=u→(binOp .eql t vx u).run P w= .ok (.bool nil) w→(binOp .neq t vx u).run P w= .ok (.bool (!nil)) w→(UZ.go op nil).eval next h L=some (r,h',L')→
   h'=h∧∃c v,r= .v false [c]∧(do eqGuard op t x y vx vy;binOp op t vx vy:Sem Value).run P w= .ok v w∧CR w base Zp h g c v:=by
  intro u h1 h2 h3 h4 h5 h6 e;subst h4;unfold UZ.go at e
  split at e
  ·obtain⟨rfl,rfl,_⟩:=kY e;exact⟨rfl,_,_,rfl,by simp only[Sem.run_bind,h1,Result.andThen_ok];exact h5,rfl⟩
  ·obtain⟨rfl,rfl,_⟩:=kY e;exact⟨rfl,_,_,rfl,by simp only[Sem.run_bind,h2,Result.andThen_ok];exact h6,rfl⟩
  ·exact(ai e).elim
 split at e
 ·rename_i te hde;obtain⟨a,n,c,rfl,hn⟩:=hx;have hyv:=hy.c;have hyv:vy= .slice none 0 0:=hyv;have hq:=Go.run_equal_slice_nil w t te a n c (T.slice hde);rw[hn]at hq;exact go _ (by simp[eqGuard]) (by simp[eqGuard]) hq hyv (by simp[binOp,hq]) (by simp[binOp,hq]) e
 ·rename_i te hde;obtain⟨a,rfl,hn⟩:=hx;have hyv:=hy.c;have hyv:vy= .pointer none:=hyv;have hu:P.underlying t=some (.pointer te):=by
   obtain⟨y,h1,h2⟩:=T.under;rw[hde]at h2
   cases y<;>simp[Ct]at h2;rw[h1,h2]
  have hq:(Op.equal t (.pointer a) (.pointer none)).run P w= .ok nil w:=by
   rw[←hn];exact Vf hu a 9999
  exact go _ (by simp[eqGuard]) (by simp[eqGuard]) hq hyv (by simp[binOp,hq]) (by simp[binOp,hq]) e
 ·exact(ai e).elim
theorem au5(hX:YX P X.tt)(hV:afR P X.UX)(R:HR w0 Z0 Zp h g w)(hn:¬ g.al new){env:Env}{a:Act}(he:∀t,AR w w0.heap.size Zp h g (look aJ t env) (a.tmps.getD t undef)){o:Oper}(Ah:ajh o.op=false)
  (e:(aop X new (D8 env) o.op).eval next h L=some (r,h',L')):bY P w0 Z0 Zp h g w new (execOp a.eval o) r h':=by
 unfold execOp
 cases hop:o.op<;>rw[hop]at e Ah<;>simp only[aop]at e
 case move x=>rw[apT]at e;cases gW e;exact bY.pure R (v:=a.eval x) rfl (ea he x)
 case assign x=>rw[apT]at e;cases gW e;exact bY.pure R (v:=a.eval x) rfl (ea he x)
 case pick c x y=>
  have hc:=ea he c
  split at e
  ·rename_i t ht;rw[ht]at hc;have hc:=hc.c;simp only[CR]at hc;rw[apT,apT]at e
   cases t<;>simp only[HM.eval]at e<;>cases e
   ·exact bY.pure R (v:=a.eval y) (by simp[hc,asBool]) (ea he y)
   ·exact bY.pure R (v:=a.eval x) (by simp[hc,asBool]) (ea he x)
  ·exact(ai e).elim
 case alloc t=>
  obtain⟨d,hd,T,e⟩:=cx hX e
  split at e
  ·rename_i c V hc hVt;have e:=cE e
   split at e
   ·rename_i K H ho
    split at e
    ·rename_i H' hH;obtain⟨hK,rfl⟩:=kd hH;subst hK;obtain⟨rfl,rfl,_⟩:=cb (dZ e);exact aoj R (hV.get hVt) ho
    ·exact(ai e).elim
   ·exact(ai e).elim
  ·exact(ai e).elim
  ·split at e
   ·rename_i hz;obtain⟨τ,hτ,e⟩:=xn e;obtain⟨rfl,rfl,_⟩:=cb (dZ e);exact aqU R hn T hz hτ
   ·exact(ai e).elim
 case box t x=>
  obtain⟨d,hd,T,e⟩:=cx hX e;have hx:=ea he x
  split at e
  ·rename_i gg cs hxr
   split at e
   ·rename_i hc;simp only[aj]at hc;rw[hxr]at hx
    split at e
    ·rename_i c V hcl hVt;have hvc:=nv hc.1.2 hx;obtain⟨cs',h1,g1,L1,e,R1,sC,u5,afU⟩:=fq cs _ h g L _ _ R hvc e;have e:=cE e
     split at e
     ·rename_i K H ho
      split at e
      ·rename_i H' z hH hz _;obtain⟨hK,rfl⟩:=kd hH;subst hK;obtain⟨rfl,rfl,_⟩:=cb (dZ e);exact bY.behind sC (fun o ho=>u5.al▸ho) (asA R1 (hV.get hVt) ho afU hz)
      ·exact(ai e).elim
     ·exact(ai e).elim
    ·exact(ai e).elim
    ·obtain⟨rfl,rfl,_⟩:=cb (dZ e);exact auZ R hn hc.1.2 hx
   ·exact(ai e).elim
  ·exact(ai e).elim
 case build t parts=>
  obtain⟨d,hd,T,e⟩:=cx hX e
  split at e
  ·rename_i fs sD hz
   split at e
   ·rename_i V hVt
    split at e
    ·rename_i pl xX
     split at e
     ·rename_i cs hcs
      cases gW e;exact afW hX R T sD (hV.get hVt) xX he hcs
     ·exact(ai e).elim
    ·exact(ai e).elim
   ·exact(ai e).elim
  ·rename_i fs sD hz;obtain⟨τ,hτ,e⟩:=xn e
   split at e
   ·rename_i pl xX
    split at e
    ·rename_i cs hcs
     cases gW e;exact ajc hX R T sD hz hτ xX he hcs
    ·exact(ai e).elim
   ·exact(ai e).elim
  ·rename_i n te sD hz;obtain⟨τ,hτ,e⟩:=xn e;obtain⟨de,hde,Te,e⟩:=cx hX e
   split at e
   ·rename_i cs hcs
    cases gW e;exact alv R T Te sD hz hτ he hcs
   ·exact(ai e).elim
  ·exact(ai e).elim
 case buildSlice t len parts=>
  obtain⟨d,hd,T,e1⟩:=cx hX e;clear e
  split at e1
  ·rename_i te sD;obtain⟨de,hde,Te,e2⟩:=cx hX e1;clear e1
   split at e2
   ·rename_i hak hps;have hps:parts= #[]:=Array.toList_eq_nil_iff.1 hps;subst hps
    split at e2
    ·rename_i V hVt;have e3:=cE e2
     split at e3
     ·rename_i K H ho
      split at e3
      ·rename_i H' hH;obtain⟨hK,rfl⟩:=kd hH;subst hK;obtain⟨rfl,rfl,_⟩:=cb (dZ e3);exact aok R T Te sD (hV.get hVt) ho (by simp)
      ·exact(ai e3).elim
     ·exact(ai e3).elim
    ·exact(ai e2).elim
   ·obtain⟨τ,hτ,e3⟩:=xn e2
    split at e3
    ·rename_i hc;exact acp R hn T Te sD hτ he hc e3
    ·exact(ai e3).elim
  ·exact(ai e1).elim
 case load t x=>
  obtain⟨d,hd,T,e⟩:=cx hX e;obtain⟨rfl,u,h1,h2⟩:=U9 R T (ea he x) e;exact bY.val R h1 h2
 case store t x y=>
  obtain⟨d,hd,T,e⟩:=cx hX e;exact aqV R T (ea he x) (ea he y) e
 case nilCheck x=>
  obtain⟨rfl,b,off,hv,har⟩:=ach (ea he x) e;simp only[Nat.add_zero]at har;refine bY.pure R (v:=.pointer (some ⟨b,off,none⟩)) ?_ har;simp[hv]
 case binOp op t x y ty=>
  have hx:=ea he x;have hy:=ea he y
  split at e
  ·rename_i b hxr;obtain⟨d,hd,T,e⟩:=cx hX e
   split at e
   ·rename_i sD;have hu:P.underlying t=some .bool:=by
     obtain⟨y,h1,h2⟩:=T.under;rw[sD]at h2
     cases y<;>simp[Ct]at h2;exact h1
    rw[←hxr]at e;obtain⟨rfl,c,v,rfl,h1,h2⟩:=aln (P:=P) (t:=t) (x:=x) (y:=y) (fun _ _ _ _=>hu) hx hy e;exact bY.val R h1 (AR.rg h2)
   ·exact(ai e).elim
  ·rename_i cs hxr;obtain⟨d,hd,T,e⟩:=cx hX e;rw[hxr]at hx;obtain⟨rfl,c,v,rfl,h1,h2⟩:=au2 (P:=P) (x:=x) (y:=y) T hx hy e;exact bY.val R h1 (AR.rg h2)
  ·rename_i ty1 l1 tk hxr;obtain⟨d,hd,T,e⟩:=cx hX e;rw[hxr]at hx;obtain⟨rfl,c,v,rfl,h1,h2⟩:=asD (P:=P) (x:=x) (y:=y) T hx hy e;exact bY.val R h1 (AR.rg h2)
  ·rename_i c1 o1 z hxr;obtain⟨d,hd,T,e⟩:=cx hX e;rw[hxr]at hx;have hp:∃a':Option Addr,a.eval x= .pointer a'∧a'.isNone=z.isNone:=by
    cases z with
    |none=>exact⟨none,hx.c,rfl⟩
    |some id=>obtain⟨q,_,_,hv⟩:=hx.c;exact⟨_,hv,rfl⟩
   obtain⟨rfl,c,v,rfl,h1,h2⟩:=acy (P:=P) (x:=x) (y:=y) T hp hy e;exact bY.val R h1 (AR.rg h2)
  ·rename_i c1 z hxr;obtain⟨d,hd,T,e⟩:=cx hX e;rw[hxr]at hx;have hp:∃(a':Option Addr) (n c:Nat),a.eval x= .slice a' n c∧a'.isNone=z.isNone:=by
    cases z with
    |none=>exact⟨none,0,0,hx.c,rfl⟩
    |some q=>obtain⟨id,a0,n0⟩:=q;obtain⟨_,_,_,_,_,_,_,_,hv⟩:=hx.c;exact⟨_,_,_,hv,rfl⟩
   obtain⟨rfl,c,v,rfl,h1,h2⟩:=acy (P:=P) (x:=x) (y:=y) T hp hy e;exact bY.val R h1 (AR.rg h2)
  ·rename_i hnb _ _ _ _;obtain⟨rfl,c,v,rfl,h1,h2⟩:=aln (P:=P) (t:=t) (x:=x) (y:=y) (fun b _ hb _=>absurd hb (hnb b)) hx hy e;exact bY.val R h1 (AR.rg h2)
 case unOp op t x=>
  obtain⟨rfl,c,v,rfl,h1,h2⟩:=auR (P:=P) (ea he x) e;exact bY.val R h1 (AR.rg h2)
 case convert src dst x=>
  obtain⟨d1,hd1,T1,e⟩:=cx hX e;obtain⟨d,hd,T,e⟩:=cx hX e;have hx:=ea he x
  split at e
  ·rename_i k k' n sD hxr;rw[hxr]at hx;have hxv:=hx.c;simp only[CR]at hxv;obtain⟨rfl,rfl,_⟩:=gx e;obtain⟨y,hy,_⟩:=T1.under;refine bY.val R (v:=.int k (k.wrap n)) ?_ (AR.rg rfl);simp[convert,run_underlying hy,run_underlying (T.int sD),hxv,Conv.intToInt]
  ·rename_i c0 sD hxr;rw[hxr]at hx
   split at e
   ·rename_i te hs;obtain⟨de,hde,Te,e⟩:=cx hX e
    split at e
    ·rename_i hu8;obtain⟨c',L1,e,Nc⟩:=NG R hx.c e
     split at e
     ·rename_i l tk;obtain⟨rfl,rfl,_⟩:=cb e;exact bY.val R (aq1 (T1.slice hs) (Te.int hu8) (T.string sD) Nc.1) (AR.rg rfl)
     ·obtain⟨rfl,rfl,_⟩:=cb e;simp only[CR]at Nc;have hr:=run_convert_bytes_nil (P:=P) w src te (T1.slice hs) (Te.int hu8) 0 0 dst (T.string sD);rw[←Nc]at hr;exact bY.val R hr (AR.rg rfl)
     ·exact(ai e).elim
    ·exact(ai e).elim
   ·exact(ai e).elim
  ·exact(ai e).elim
 case makeFunc fn first captured=>
  cases fn<;>simp only at e<;>try (exact(ai e).elim)
  rename_i f
  split at e
  ·rename_i ids h0 aCZ;obtain⟨rfl,rfl,_⟩:=cb e;have hf:first= #[]:=Array.eq_empty_of_size_eq_zero h0
   have:=act R he captured.toList ids (by simpa using aCZ);refine bY.pure R (v:=.func (.func f) #[] (captured.map a.eval)) (by simp[Instr.makeFunc,hf]) (AR.rg ⟨_,rfl,by simpa using this⟩)
  ·exact(ai e).elim
 case makeSlice t l c=>
  obtain⟨d,hd,T,e⟩:=cx hX e
  split at e
  ·rename_i te sD;obtain⟨de,hde,Te,e⟩:=cx hX e
   split at e
   ·rename_i cl V hcl hVt
    split at e
    ·rename_i k n _ hso hlr _;have hl:=ea he l;have e:=cE e
     split at e
     ·rename_i K H ho
      split at e
      ·rename_i H' hH;obtain⟨hK,rfl⟩:=kd hH;subst hK;obtain⟨n',hn',e⟩:=bI e;obtain⟨rfl,rfl,_⟩:=cb (dZ e);have hlc:l=c:=by
        unfold aiT at hso
        split at hso
        ·rw[az hso]
        ·cases hso
       subst hlc;rw[hlr]at hl;have hl:=hl.c;simp only[CR]at hl;refine(?_:bY P w0 Z0 Zp _ g w new (Instr.makeSlice t (a.eval l) (a.eval l) >>= fun x=>Pure.pure (Next.value x)) _ _);rw[hl];exact aqZ R T Te sD (hV.get hVt) ho hn'
      ·exact(ai e).elim
     ·exact(ai e).elim
    ·exact(ai e).elim
   ·exact(ai e).elim
   ·split at e
    ·rename_i hc;simp only[aj]at hc;have hpos:0<de.size:=by have:=hc.2;simpa[fl]using this
     obtain⟨τ,hτ,e⟩:=xn e;have hl:=ea he l;have wi:=ea he c
     split at e
     ·rename_i k n hso hlr;obtain⟨n',hn',e⟩:=bI e;obtain⟨rfl,rfl,_⟩:=cb (dZ e);have hlc:l=c:=by
       unfold aiT at hso
       split at hso
       ·rw[az hso]
       ·cases hso
      subst hlc;rw[hlr]at hl;have hl:=hl.c;simp only[CR]at hl;refine(?_:bY P w0 Z0 Zp _ g w new (Instr.makeSlice t (a.eval l) (a.eval l) >>= fun x=>Pure.pure (Next.value x)) _ _);rw[hl];exact asr R hn T Te sD hc.1 hτ hpos hn'
     ·rename_i k k' n hso hlr hcr;obtain⟨n',hn',e⟩:=bI e;obtain⟨rfl,rfl,_⟩:=cb (dZ e);rw[hlr]at hl;rw[hcr]at wi;have hl:=hl.c;have wi:=wi.c;simp only[CR]at hl wi;refine(?_:bY P w0 Z0 Zp _ g w new (Instr.makeSlice t (a.eval l) (a.eval c) >>= fun x=>Pure.pure (Next.value x)) _ _);rw[hl,wi];exact aqX R hn T Te sD hc.1 hτ hn'
     ·exact(ai e).elim
    ·exact(ai e).elim
  ·exact(ai e).elim
 case slice t x lo hi mx=>
  obtain⟨d,hd,T,e⟩:=cx hX e;obtain⟨u,g',h1,h2,h3,h4,h5⟩:=aoe hX hV R T (ea he x) (PG he lo) (PG he hi) (PG he mx) e;exact⟨_,u,w,g',by simp[h1],.inl rfl,h2,h3,h5,fun o ho=> .inl (h4.al▸ho)⟩
 case fieldAddr s x j=>
  obtain⟨d,hd,T,e⟩:=cx hX e
  split at e
  ·rename_i f hf;obtain⟨df,hdf,Tf,e⟩:=cx hX e
   split at e
   ·rename_i hpos;have hpos:0<df.size:=by simpa[fl]using hpos
    obtain⟨rfl,b,off,hv,har⟩:=ach (ea he x) e;unfold QV at hf
    split at hf
    ·rename_i fs sD;obtain⟨ff,hu,hfs⟩:=T.struct sD;rw[←hfs,List.getElem?_map]at hf
     cases hfj:ff.toList[j]? with
     |none=>simp[hfj]at hf
     |some q=>
      simp only[hfj,Option.map_some,Option.some.injEq]at hf;subst hf;have hq:ff[j]? =some q:=by simpa using hfj
      refine bY.val R (v:=.pointer (some ⟨b,off+q.offset,none⟩)) ?_ har;simp[Instr.fieldAt,run_underlying hu,hq,hv,Instr.sureAddr,acg Tf hpos]
    ·cases hf
   ·exact(ai e).elim
  ·exact(ai e).elim
 case field s x j=>
  obtain⟨d,hd,T,e⟩:=cx hX e
  split at e
  ·rename_i f hf;obtain⟨df,hdf,Tf,e⟩:=cx hX e;have hx:=ea he x
   split at e
   ·rename_i cs hxr;rw[hxr]at hx;obtain⟨vs,hv,hcs⟩:=hx.agg;obtain⟨rfl,u,h1,h2⟩:=asi (P:=P) Tf hcs e;unfold QV at hf
    split at hf
    ·rename_i fs sD;obtain⟨ff,hu,hfs⟩:=T.struct sD;rw[←hfs,List.getElem?_map]at hf
     cases hfj:ff.toList[j]? with
     |none=>simp[hfj]at hf
     |some q=>
      simp only[hfj,Option.map_some,Option.some.injEq]at hf;subst hf;have hq:ff[j]? =some q:=by simpa using hfj
      refine bY.val R (v:=u) ?_ h2;simp[Instr.field,run_underlying hu,hq,hv,asAgg,h1]
    ·cases hf
   ·exact(ai e).elim
  ·exact(ai e).elim
 case indexAddr t x ix=>
  obtain⟨d,hd,T,e⟩:=cx hX e;obtain⟨rfl,u,h1,h2⟩:=afS hX hV R T (ea he x) (ea he ix) e;exact bY.val R h1 h2
 case makeMap t rs=>
  cases rs with
  |some _=>exact(ai e).elim
  |none=>
   obtain⟨d,hd,T,e⟩:=cx hX e
   split at e
   ·split at e
    ·rename_i hm;obtain⟨rfl,rfl,_⟩:=cb (dZ e);exact alF hX R hn hm
    ·exact(ai e).elim
   ·exact(ai e).elim
 case lookup t x ix ok=>
  obtain⟨d,hd,T,e⟩:=cx hX e
  split at e
  ·rename_i sD
   split at e
   ·rename_i hm;obtain⟨rfl,u,h1,h2⟩:=aom hX R T sD hm (ea he x) (ea he ix) e;exact bY.val R h1 h2
   ·exact(ai e).elim
  ·exact(ai e).elim
 case mapUpdate t m ix x=>
  obtain⟨d,hd,T,e⟩:=cx hX e
  split at e
  ·rename_i sD
   split at e
   ·rename_i hm;exact aon hX R T sD hm (ea he m) (ea he ix) (ea he x) e
   ·exact(ai e).elim
  ·exact(ai e).elim
 case index t x ix=>
  obtain⟨d,hd,T,e⟩:=cx hX e;have hx:=ea he x;have hi:=ea he ix;unfold asc at e
  split at e
  ·rename_i s k i sD hxr hir;rw[hxr]at hx;rw[hir]at hi;have hxv:=hx.c;have hiv:=hi.c;simp only[CR]at hxv hiv;obtain⟨n,hn2,e⟩:=bI e;obtain⟨rfl,rfl,_⟩:=gx e;obtain⟨h0,b,hb,rfl⟩:=aq0 hn2;refine bY.val R (v:=.int .u8 b.toNat) ?_ (AR.rg rfl);have hlt:i.toNat<s.length:=(List.getElem?_eq_some_iff.1 hb).1;have J0:(⟨s.toArray⟩:ByteArray)[i.toNat]? =some b:=by
    rw[getElem?_pos (⟨s.toArray⟩:ByteArray) i.toNat (by rw[J2];exact hlt)];have:=(List.getElem?_eq_some_iff.1 hb).2;rw[←this];rfl
   simp[Instr.index,hxv,hiv,asIntOf,run_underlying (T.string sD),h0,J0]
  ·exact(ai e).elim
 case extract x j=>
  obtain⟨rfl,u,h1,h2⟩:=alz (P:=P) (ea he x) e;exact bY.val R h1 h2
 case call c=>
  simp only[ajh]at Ah
  split at e
  ·rename_i b wi;have:=alB (cs:=(c.args.map fun |.const _=>true |_=>false)) hX hV R hn he (ty:=o.type) e;obtain⟨n,v,w',g',h1,h2⟩:=this;exact⟨n,v,w',g',by simp only[resolve,wi,Sem.run_bind,Sem.run_pure,Result.andThen_ok,invoke];exact h1,h2⟩
  ·rename_i f wi;rw[wi]at Ah;cases Ah
  ·exact(ai e).elim
 all_goals exact(ai e).elim
end
def yv(w:World)(Z Zp:cD)(τ:Ty)(x:τ.den)(v:Value):Prop:=
 match τ.isAgg with
 |true=>∃us:List Value,v= .agg us.toArray∧PR w Z Zp τ x us
 |false=>PR w Z Zp τ x [v]
def yw(w:World)(Z Zp:cD):(ps:List Ty)→(lO ps).den→List Value→Prop
 |[],_,vs=>vs=[]
 |[τ],x,vs=>∃v,vs=[v]∧yv w Z Zp τ x v
 |τ::σ::r,x,vs=>∃v rest,vs=v::rest∧yv w Z Zp τ x.1 v∧yw w Z Zp (σ::r) x.2 rest
def PK(w:World)(Z Zp:cD)(rs:List Ty)(x:(lO rs).den)(v:Value):Prop:=
 match rs,x with
 |[τ],x=>yv w Z Zp τ x v
 |rs,x=>∃vs:List Value,v= .tuple vs.toArray∧yw w Z Zp rs x vs
def jT:cD:=fun _ _=>False
def Zc(Z:cD)(w w':World):cD:=fun b i=>Z b i∨(w.heap.size≤b∧b<w'.heap.size)
structure aq (P:Program) (f:FuncId) (E:Entry):Prop where
 fn:∃fn,P.funcs[f]? =some fn∧(fn.name=="runtime.NumGoroutine")=false∧fn.body.isNone=false
 nr:E.rs.all Ty.cI=true
 calls:∀(w:World) (Z Zp:cD) (x:(lO E.ps).den) (r:(lO E.rs).den) (args:List Value),(∀b i,Z b i→b<w.heap.size)→(∀b i,Zp b i→b<w.heap.size)→yw w Z Zp E.ps x args→E.F x=some r→
  Calls P f args.toArray w fun e w'=>∃v,e= .returned v∧w.Extends w'∧PK w' (Zc Z w w') jT E.rs r v
def asH(Z:cD)(w w':World)(ob:Option Nat)(lo:Nat):cD:=fun b i=>Z b i∨(w.heap.size≤b∧b<w'.heap.size∧(ob=some b→i<lo))
def asI(w w':World)(size len:Nat)(ob:Option Nat)(v:Value):Prop:=
 (ob=none∧v= .slice none 0 0∧len=0)∨
 (∃b cap cur e0,ob=some b∧v= .slice (some ⟨b,0,none⟩) len cap∧w'.heap[b]? =some (.cells cur e0 (0,0))∧
  len≤cap∧cap≤maxLen∧cur.size=cap*size∧w.heap.size≤b)
structure x7 (P:Program) (f:FuncId) (E:D7):Prop where
 fn:∃fn,P.funcs[f]? =some fn∧(fn.name=="runtime.NumGoroutine")=false∧fn.body.isNone=false
 nr:E.e.cI=true
 calls:∀(w:World) (Z Zp:cD) (x:(lO E.ps).den) (l:List E.e.den) (args:List Value),(∀b i,Z b i→b<w.heap.size)→(∀b i,Zp b i→b<w.heap.size)→yw w Z Zp E.ps x args→E.F x=some l→
  Calls P f args.toArray w fun e w'=>∃v ob,e= .returned v∧w.Extends w'∧PR w' (asH Z w w' ob (l.length*E.e.size)) jT (.sl E.e) l [v]∧asI w w' E.e.size l.length ob v
section
variable {P:Program} {w0:W0} {w w':World} {Z0 Zp:cD} {h h':bg} {g:G} {new next base:Nat} {r:A} {L L':Log} {X:Cx}
theorem yv.mono{Z Z' Zq Zq':cD}(h1:dK w w' Z Z')(h2:dK w w' Zq Zq'){τ:Ty}{x:τ.den}{v:Value}(hh:yv w Z Zq τ x v):yv w' Z' Zq' τ x v:=by
 unfold yv at hh ⊢
 cases ha:τ.isAgg<;>simp only[ha]at hh ⊢
 case true=>obtain⟨us,e,hp⟩:=hh;exact⟨us,e,PR.mono h1 h2 _ _ _ hp⟩
 case false=>exact PR.mono h1 h2 _ _ _ hh
theorem yv.flat{Z Z' Zq Zq':cD}{τ:Ty}(hf:τ.flat=true){x:τ.den}{v:Value}(hh:yv w Z Zq τ x v):yv w' Z' Zq' τ x v:=by
 unfold yv at hh ⊢
 cases ha:τ.isAgg<;>simp only[ha]at hh ⊢
 case true=>obtain⟨us,e,hp⟩:=hh;exact⟨us,e,PR.flat _ _ _ hf hp⟩
 case false=>exact PR.flat _ _ _ hf hh
theorem yv.cI{Z Zq Zq':cD}{τ:Ty}(hf:τ.cI=true){x:τ.den}{v:Value}(hh:yv w Z Zq τ x v):yv w Z Zq' τ x v:=by
 unfold yv at hh ⊢
 cases ha:τ.isAgg<;>simp only[ha]at hh ⊢
 case true=>obtain⟨us,e,hp⟩:=hh;exact⟨us,e,PR.cI _ _ _ hf hp⟩
 case false=>exact PR.cI _ _ _ hf hh
theorem yv.toVR{τ:Ty}{x:τ.den}{v:Value}(hh:yv w g.Z Zp τ x v):VR w base Zp h g τ.isAgg (τ.cells x) v:=by
 unfold yv at hh;unfold VR
 cases ha:τ.isAgg<;>simp only[ha]at hh ⊢
 case true=>obtain⟨us,e,hp⟩:=hh;exact⟨us,e,dT.uZ _ _ _ hp⟩
 case false=>exact dT.uZ _ _ _ hh
theorem yw.map{w1 w2:World}{Z1 Z2 Q1 Q2:cD}{p:Ty→Bool}(hV:∀τ (x:τ.den) v,p τ=true→yv w1 Z1 Q1 τ x v→yv w2 Z2 Q2 τ x v):∀(ps:List Ty) (x:(lO ps).den) (vs:List Value),ps.all p=true→yw w1 Z1 Q1 ps x vs→yw w2 Z2 Q2 ps x vs
 |[],_,_,_,hh=>hh
 |[τ],x,_,hp,⟨v,e,hv⟩=>⟨v,e,hV τ x v (by simpa using hp) hv⟩
 |τ::σ::r,x,_,hp,⟨v,rest,e,hv,hr⟩=>by
  simp only[List.all_cons,aj]at hp;exact⟨v,rest,e,hV τ _ v hp.1 hv,yw.map hV (σ::r) x.2 rest (by simpa using hp.2) hr⟩
theorem PK.map{w1 w2:World}{Z1 Z2 Q1 Q2:cD}{p:Ty→Bool}(hV:∀τ (x:τ.den) v,p τ=true→yv w1 Z1 Q1 τ x v→yv w2 Z2 Q2 τ x v)(rs:List Ty)(x:(lO rs).den)(v:Value)(hp:rs.all p=true)(hh:PK w1 Z1 Q1 rs x v):PK w2 Z2 Q2 rs x v:=by
 match rs,x,hp,hh with
 |[τ],x,hp,hh=>exact hV τ x v (by simpa using hp) hh
 |[],x,hp,⟨vs,e,hv⟩=>exact⟨vs,e,yw.map hV _ _ _ hp hv⟩
 |τ::σ::r,x,hp,⟨vs,e,hv⟩=>exact⟨vs,e,yw.map hV _ _ _ hp hv⟩
theorem aji:∀(rs:List Ty) (x:(lO rs).den) (vs:List Value),yw w g.Z Zp rs x vs→dY (fun(p:Bool×List C) es=>∃u,es=[u]∧VR w base Zp h g p.1 p.2 u) (ar6 rs x) vs
 |[],_,_,hh=>hh
 |[τ],x,_,⟨v,e,hv⟩=>⟨[v],[],by simp[e],⟨v,rfl,hv.toVR⟩,rfl⟩
 |τ::σ::r,x,_,⟨v,rest,e,hv,hr⟩=>⟨[v],rest,by simp[e],⟨v,rfl,hv.toVR⟩,aji (σ::r) x.2 rest hr⟩
theorem aq2(rs:List Ty)(x:(lO rs).den)(v:Value)(hh:PK w g.Z Zp rs x v):AR w base Zp h g (ar7 rs x) v:=by
 match rs,x,hh with
 |[τ],x,hh=>exact yv.toVR hh
 |[],x,⟨vs,e,hv⟩=>exact⟨vs,e,aji _ _ _ hv⟩
 |τ::σ::r,x,⟨vs,e,hv⟩=>exact⟨vs,e,aji _ _ _ hv⟩
def All(w:World):cD:=fun b _=>b<w.heap.size
theorem MN(R:HR w0 Z0 Zp h g w):dK w w g.Z (All w):=fun b i hz=>⟨R.Nb b i hz,rfl⟩
theorem ti(R:HR w0 Z0 Zp h g w):dK w w Zp (All w):=fun b i hz=>⟨ca (R.zp b i hz).1 R.iD,rfl⟩
def Zd(h:bg)(g:G)(w:World):cD:=fun b _=>b<w.heap.size∧∀c id,¬ GL h g c id b
theorem z6(R:HR w0 Z0 Zp h g w):dK w w Zp (Zd h g w):=fun b i hz=>⟨⟨ca (R.zp b i hz).1 R.iD,fun c id hG=>R.gh.zpx c id b i hG hz⟩,rfl⟩
theorem aoo:dK w w (Zd h g w) (All w):=fun _ _ hz=>⟨hz.1,rfl⟩
theorem asJ{h1:bg}{g1:G}(f:Fz h g h1 g1):dK w w (Zd h g w) (Zd h1 g1 w):=fun _ _ hz=>⟨⟨hz.1,fun c id hG=>hz.2 c id (f.gl c id _ hG)⟩,rfl⟩
theorem asK(R:HR w0 Z0 Zp h g w):dK w w g.Z (Zd h g w):=fun b i hz=>⟨⟨R.Nb b i hz,fun c id hG=>R.gh.lq c id b i hG hz⟩,rfl⟩
def acz(mark:Bool)(h:bg)(g:G)(w:World):cD:=if mark=true then Zd h g w else All w
theorem acA(mark:Bool):dK w w (acz mark h g w) (All w):=by
 unfold acz;split
 ·exact aoo
 ·exact dK.refl _ _
theorem ap5(R:HR w0 Z0 Zp h g w)(mark:Bool):dK w w Zp (acz mark h g w):=by
 unfold acz;split
 ·exact z6 R
 ·exact ti R
theorem au6{h1:bg}{g1:G}(f:Fz h g h1 g1)(mark:Bool):dK w w (acz mark h g w) (acz mark h1 g1 w):=by
 unfold acz;split
 ·exact asJ f
 ·exact dK.refl _ _
theorem GS(R:HR w0 Z0 Zp h g w):dK w w (E8 h g w).Z (All w):=fun b i hz=>⟨by
 rcases hz with hz |⟨o,e,l,ho,hb,hc⟩|⟨c,id,hG,_⟩
 ·exact R.Nb b i hz
 ·exact(R.home o b (by rw[ho];simp) hb).2
 ·exact R.gh.lt c id b hG,rfl⟩
theorem VR.list{gg:Bool}{cs:List C}{v:Value}(hv:VR w base Zp h g gg cs v):∃vs,dT w base Zp h g cs vs∧(gg=true→v= .agg vs.toArray)∧(gg=false→vs=[v]):=by
 cases gg with
 |true=>obtain⟨vs,e,h1⟩:=hv;exact⟨vs,h1,fun _=>e,fun h=>by cases h⟩
 |false=>exact⟨[v],hv,fun h=>(by cases h),fun _=>rfl⟩
theorem yv.list{Z Zq:cD}{τ:Ty}{x:τ.den}{v:Value}{vs:List Value}{gg:Bool}(hg:gg=τ.isAgg)(h1:gg=true→v= .agg vs.toArray)(h2:gg=false→vs=[v])(hp:PR w Z Zq τ x vs):yv w Z Zq τ x v:=by
 subst hg;unfold yv
 cases ha:τ.isAgg with
 |true=>exact⟨vs,h1 ha,hp⟩
 |false=>rw[h2 ha]at hp;exact hp
theorem PL{a b:Ty}{x:a.den}{y:b.den}(hc:sT a b x=some y):∃h:a=b,y=h▸x:=by
 unfold sT at hc
 split at hc
 ·rename_i e _;subst e
  cases hc;exact⟨rfl,rfl⟩
 ·cases hc
theorem asL(mark:Bool):∀(t:Ty) (ids:List Nat) (caps:List Value) (h:bg) (g:G) (L:Log) (k:t.den→HM) (res:A×bg×Log),HR w0 Z0 Zp h g w→
  dY (fun o es=>g.al o∧∃u,es=[u]∧NF u∧(look .dead o h≠.dead→∃b,g.hm o=some b∧u= .pointer (some ⟨b,0,none⟩))) ids caps→(auL mark t ids k).eval next h L=some res→
  ∃x h1 g1 L1,(k x).eval next h1 L1=some res∧HR w0 Z0 Zp h1 g1 w∧Le Zp h g w h1 g1 w∧Fz h g h1 g1∧PR w (if mark=true then g1.Z else All w) (acz mark h1 g1 w) t x caps:=by
 intro t
 induction t with
 |unit=>
  intro ids caps h g L k res R hp e
  cases ids with
  |nil=>
   simp only[dY]at hp;exact⟨(),h,g,L,e,R,Le.refl _ _ _ _,Fz.refl _ _,hp⟩
  |cons o ids=>exact(ai e).elim
 |pair t1 t2 _ ih=>
  intro ids caps h g L k res R hp e
  cases t1 with
  |ref σ=>
   cases ids with
   |nil=>exact(ai e).elim
   |cons o ids=>
    obtain⟨es,rest,rfl,⟨hal,u,rfl,hpt,hd⟩,ap6⟩:=hp;simp only[auL]at e
    split at e
    ·rename_i Zb;have e:=cE e
     split at e
     ·rename_i cs ho;obtain⟨b,hb,rfl⟩:=hd (by rw[ho];simp);have od:=R.ob o;rw[ho]at od;obtain⟨b',cur,e0,hb',er,hcs⟩:=od;rw[hb]at hb';cases hb';have hsub:=dT.take σ.size _ _ hcs;have acB:=(R.home o b (by rw[ho];simp) hb).2;have axY:∀c id,¬ GL h g c id b:=fun c id hG=>R.gh.loc c id b o hG (by rw[ho];simp) hb;have hcell:∀(j:Nat) u,(cur.toList.take σ.size)[j]? =some u→w.cell? ⟨b,0+j,none⟩=some u:=fun j u hj=>by
       have:=lv er 0 σ.size j u (by simpa using hj);exact this
      cases mark with
      |true=>
       obtain⟨cs',h1,g1,L1,e,R1,sC,u5,aco⟩:=fq _ _ h g _ _ _ R hsub e
       split at e
       ·rename_i x hx;have mh:=eM Zb aco hx;obtain⟨y,h2,g2,L2,e,R2,Le2,Ng,hy⟩:=ih ids rest h1 g1 _ _ res R1 (dY.mono (fun o es ⟨ha,u,e,hp,hr⟩=>⟨sC.al o ha,u,e,hp,fun hd=>by
         obtain⟨b,h1,h2⟩:=hr ((sC.ob o ha).alive hd);exact⟨b,(sC.hm o ha hd).trans h1,h2⟩⟩) _ _ ap6) e
        refine⟨(x,y),h2,g2,L2,e,R2,sC.trans Le2,u5.trans Ng,[_],rest,rfl,⟨b,0,_,rfl,PR.mono Le2.z (ap5 R1 true|>.trans (au6 Ng true)) _ _ _ mh,fun j u hj=>⟨hcell j u hj,⟨acB,fun c id hG=>axY c id (u5.gl c id b (Ng.gl c id b hG))⟩⟩⟩,hy⟩
       ·exact(ai e).elim
      |false=>
       obtain⟨cs',L1,e,aco⟩:=td R _ _ _ _ _ hsub e
       split at e
       ·rename_i x hx;have mh:=eM Zb aco hx;obtain⟨y,h2,g2,L2,e,R2,Le2,Ng,hy⟩:=ih ids rest h g _ _ res R ap6 e;refine⟨(x,y),h2,g2,L2,e,R2,Le2,Ng,[_],rest,rfl,⟨b,0,_,rfl,PR.mono (GS R) (ti R) _ _ _ mh,fun j u hj=>⟨hcell j u hj,acB⟩⟩,hy⟩
       ·exact(ai e).elim
     ·exact(ai e).elim
    ·exact(ai e).elim
  |_=>exact(ai (by cases ids<;>exact e)).elim
 |_=>intro ids caps h g L k res R hp e;exact(ai (by cases ids<;>exact e)).elim
theorem acC(mark:Bool)(R:HR w0 Z0 Zp h g w){τ:Ty}{a:A}{v:Value}(ha:AR w w0.heap.size Zp h g a v){k:τ.den→HM}{res:A×bg×Log}(e:(aqK mark τ a k).eval next h L=some res):
  ∃x h1 g1 L1,(k x).eval next h1 L1=some res∧HR w0 Z0 Zp h1 g1 w∧Le Zp h g w h1 g1 w∧Fz h g h1 g1∧yv w (if mark=true then g1.Z else All w) (acz mark h1 g1 w) τ x v:=by
 unfold aqK at e
 split at e
 ·rename_i σ o off k
  split at e
  ·rename_i Zb;have e:=cE e
   split at e
   ·rename_i cs ho;obtain⟨hal,hp,hd⟩:=ha.c;obtain⟨b,hb,rfl⟩:=hd (by rw[ho];simp);have od:=R.ob o;rw[ho]at od;obtain⟨b',cur,e0,hb',er,hcs⟩:=od;rw[hb]at hb';cases hb';have hsub:=dT.take σ.size _ _ (dT.drop off _ _ hcs);have acB:=(R.home o b (by rw[ho];simp) hb).2;have axY:∀c id,¬ GL h g c id b:=fun c id hG=>R.gh.loc c id b o hG (by rw[ho];simp) hb
    cases mark with
    |true=>
     obtain⟨cs',h1,g1,L1,e,R1,sC,u5,aco⟩:=fq _ _ h g _ _ _ R hsub e
     split at e
     ·rename_i x hx;have mh:=eM Zb aco hx;refine⟨x,h1,g1,L1,e,R1,sC,u5,b,off,_,rfl,PR.mono (dK.refl _ _) (z6 R1) _ _ _ mh,fun j u hj=>⟨lv er off σ.size j u hj,⟨acB,fun c id hG=>axY c id (u5.gl c id b hG)⟩⟩⟩
     ·exact(ai e).elim
    |false=>
     obtain⟨cs',L1,e,aco⟩:=td R _ _ _ _ _ hsub e
     split at e
     ·rename_i x hx;have mh:=eM Zb aco hx;refine⟨x,h,g,L1,e,R,Le.refl _ _ _ _,Fz.refl _ _,b,off,_,rfl,PR.mono (GS R) (ti R) _ _ _ mh,fun j u hj=>⟨lv er off σ.size j u hj,acB⟩⟩
     ·exact(ai e).elim
   ·exact(ai e).elim
  ·exact(ai e).elim
 ·rename_i σ a' y c k
  split at e
  ·rename_i Zb
   split at e
   ·rename_i x hx;obtain⟨b,off,us,rfl,mh,hce⟩:=ha.c;have hsub:=dT.take σ.size _ _ (dT.drop c _ _ (dT.uZ (base:=w0.heap.size) (h:=h) (g:=g) (Zp:=Zp) a' y us mh));have az9:=eM Zb hsub hx;have hcell:∀j u,((us.drop c).take σ.size)[j]? =some u→w.cell? ⟨b,off+c+j,none⟩=some u∧acz mark h g w b (off+c+j):=fun j u hj=>by
     have h1:=hce _ _ (getElem?_sub us c σ.size j u hj);rw[fu];refine⟨h1.1,?_⟩;rcases h1.2 with h2 |h2
     ·unfold acz;split
      ·exact(asK R _ _ h2).1
      ·exact R.Nb _ _ h2
     ·exact(ap5 R mark _ _ h2).1
    refine⟨x,h,g,L,e,R,Le.refl _ _ _ _,Fz.refl _ _,b,off+c,_,rfl,?_,hcell⟩
    cases mark with
    |true=>exact PR.mono (dK.refl _ _) (z6 R) _ _ _ az9
    |false=>exact PR.mono (MN R) (ti R) _ _ _ az9
   ·exact(ai e).elim
  ·exact(ai e).elim
 ·rename_i σ c off y k
  split at e
  ·rename_i hc;rw[aj]at hc;have hm:mark=false:=by simpa using hc.2
   subst hm;obtain⟨b,o,cs,vs,L1,rfl,hcs,hcell,e⟩:=abD R ha.c e
   split at e
   ·rename_i x hx;have mh:=eM hc.1 (dT.take σ.size _ _ hcs) hx;refine⟨x,h,g,L1,e,R,Le.refl _ _ _ _,Fz.refl _ _,b,o,_,rfl,PR.mono (MN R) (ti R) _ _ _ mh,fun j u hj=> ?_⟩;rw[dh]at hj
    split at hj
    ·have h1:=hcell j u hj;exact⟨h1,World.block_lt_of_cell? w _ h1⟩
    ·cases hj
   ·exact(ai e).elim
  ·exact(ai e).elim
 ·rename_i σ c id ix off k
  split at e
  ·rename_i hc;rw[aj]at hc;have hm:mark=false:=by simpa using hc.2
   subst hm;obtain⟨b,o,cs,vs,L1,rfl,hcs,hcell,e⟩:=abD R ha.c e
   split at e
   ·rename_i x hx;have mh:=eM hc.1 (dT.take σ.size _ _ hcs) hx;refine⟨x,h,g,L1,e,R,Le.refl _ _ _ _,Fz.refl _ _,b,o,_,rfl,PR.mono (MN R) (ti R) _ _ _ mh,fun j u hj=> ?_⟩;rw[dh]at hj
    split at hj
    ·have h1:=hcell j u hj;exact⟨h1,World.block_lt_of_cell? w _ h1⟩
    ·cases hj
   ·exact(ai e).elim
  ·exact(ai e).elim
 ·rename_i σ c y k
  cases mark with
  |false=>
   obtain⟨l,L1,e,hp⟩:=aod R ha.c e;exact⟨l,h,g,L1,e,R,Le.refl _ _ _ _,Fz.refl _ _,PR.mono (GS R) (ti R) (.sl σ) l _ hp⟩
  |true=>
   unfold apP at e;have e:=cE e
   split at e
   ·rename_i K H ho
    split at e
    ·rename_i H' hH hn;obtain⟨r,hr,e⟩:=bI e;have e:=dZ e;obtain⟨g1,R1,sC,f1,hp⟩:=ap1 R ha.c ho hH hn hr;exact⟨r.1,_,g1,_,e,R1,sC,f1,PR.mono (dK.refl _ _) (z6 R1) (.sl σ) _ _ hp⟩
    ·exact(ai e).elim
   ·exact(ai e).elim
 ·rename_i f t f' ids k
  split at e
  ·rename_i hf _;subst hf;obtain⟨caps,hv,hp⟩:=ha.c;obtain⟨x,h1,g1,L1,e,R1,sC,f1,hx⟩:=asL mark t ids caps.toList h g L k res R hp e;exact⟨x,h1,g1,L1,e,R1,sC,f1,caps,by rw[hv],hx⟩
  ·exact(ai e).elim
 ·rename_i f t f' t' y k
  split at e
  ·rename_i hf _;subst hf
   split at e
   ·rename_i x hx;obtain⟨rfl,rfl⟩:=PL hx;have hc:PR w g.Z Zp (.cl f t') x [v]:=ha.c;refine⟨x,h,g,L,e,R,Le.refl _ _ _ _,Fz.refl _ _,?_⟩
    cases mark with
    |true=>exact PR.mono (dK.refl _ _) (z6 R) (.cl f t') x _ hc
    |false=>exact PR.mono (MN R) (ti R) (.cl f t') x _ hc
   ·exact(ai e).elim
  ·exact(ai e).elim
 ·rename_i gg cs _ _ _ _ _ _ _
  split at e
  ·rename_i hc;simp only[aj]at hc;have hgg:=toBeq hc.1;obtain⟨vs,hcs,h1,h2⟩:=VR.list ha
   cases mark with
   |true=>
    obtain⟨cs',h3,g3,L3,e,R3,Le3,hg3,aoq⟩:=fq _ _ h g _ _ _ R hcs e
    split at e
    ·rename_i x hx;have mh:=eM hc.2 aoq hx;exact⟨x,h3,g3,L3,e,R3,Le3,hg3,yv.list hgg h1 h2 (PR.mono (dK.refl _ _) (z6 R3) _ _ _ mh)⟩
    ·exact(ai e).elim
   |false=>
    obtain⟨cs',L1,e,aco⟩:=td R _ _ _ _ _ hcs e
    split at e
    ·rename_i x hx;have mh:=eM hc.2 aco hx;exact⟨x,h,g,L1,e,R,Le.refl _ _ _ _,Fz.refl _ _,yv.list hgg h1 h2 (PR.mono (GS R) (ti R) _ _ _ mh)⟩
    ·exact(ai e).elim
  ·exact(ai e).elim
 ·exact(ai e).elim
theorem MO(mark:Bool):∀(ps:List Ty) (as:List A) (vs:List Value) (h:bg) (g:G) (L:Log) (k:(lO ps).den→HM) (res:A×bg×Log),HR w0 Z0 Zp h g w→
  dY (fun b es=>∃u,es=[u]∧AR w w0.heap.size Zp h g b u) as vs→(ale mark ps as k).eval next h L=some res→
  ∃x h1 g1 L1,(k x).eval next h1 L1=some res∧HR w0 Z0 Zp h1 g1 w∧Le Zp h g w h1 g1 w∧Fz h g h1 g1∧yw w (if mark=true then g1.Z else All w) (All w) ps x vs
 |[],as,vs,h,g,L,k,res,R,hv,e=>by
  cases as with
  |nil=>exact⟨(),h,g,L,e,R,Le.refl _ _ _ _,Fz.refl _ _,hv⟩
  |cons _ _=>exact(ai e).elim
 |[τ],as,vs,h,g,L,k,res,R,hv,e=>by
  cases as with
  |nil=>exact(ai e).elim
  |cons a as=>
   cases as with
   |cons _ _=>exact(ai e).elim
   |nil=>
    obtain⟨es,rest,e1,⟨u,e2,hu⟩,e3⟩:=hv;simp only[dY]at e3;subst e3;subst e2;obtain⟨x,h1,g1,L1,e4,R1,sC,u5,hx⟩:=acC mark R hu e;exact⟨x,h1,g1,L1,e4,R1,sC,u5,u,by simpa using e1,yv.mono (dK.refl _ _) (acA mark) hx⟩
 |τ::σ::ps,as,vs,h,g,L,k,res,R,hv,e=>by
  cases as with
  |nil=>exact(ai e).elim
  |cons a as=>
   obtain⟨es,rest,e1,⟨u,e2,hu⟩,e3⟩:=hv;subst e2;obtain⟨x,h1,g1,L1,e4,R1,sC,u5,hx⟩:=acC mark R hu e;obtain⟨y,h2,g2,L2,e5,R2,Le2,Ng,hy⟩:=MO mark (σ::ps) as rest h1 g1 L1 _ res R1 (dY.mono (fun b es ⟨u,e,hu⟩=>⟨u,e,AR.mono sC _ _ hu⟩) _ _ e3) e4;refine⟨(x,y),h2,g2,L2,e5,R2,sC.trans Le2,u5.trans Ng,u,rest,by simpa using e1,?_,hy⟩
   cases mark with
   |true=>exact yv.mono Le2.z (acA true) hx
   |false=>exact yv.mono (dK.refl _ _) (acA false) hx
theorem asM{ids:List Nat}{caps:Array Value}(hp:dY (fun o es=>g.al o∧∃u,es=[u]∧NF u∧(look .dead o h≠.dead→∃b,g.hm o=some b∧u= .pointer (some ⟨b,0,none⟩))) ids caps.toList):
  dY (fun b es=>∃u,es=[u]∧AR w base Zp h g b u) (awP ids) caps.toList:=by
 have:∀(ids:List Nat) (vs:List Value),dY (fun o es=>g.al o∧∃u,es=[u]∧NF u∧(look .dead o h≠.dead→∃b,g.hm o=some b∧u= .pointer (some ⟨b,0,none⟩))) ids vs→
   dY (fun b es=>∃u,es=[u]∧AR w base Zp h g b u) (ids.map fun o=>A.v false [.ptr o 0]) vs:=by
  intro ids
  induction ids with
  |nil=>intro vs h;exact h
  |cons o ids ih=>
   intro vs hv;obtain⟨es,rest,e1,⟨hal,u,e2,hpt,hd⟩,e3⟩:=hv;exact⟨es,rest,e1,⟨u,e2,AR.rg ⟨hal,hpt,hd⟩⟩,ih rest e3⟩
 exact this ids _ hp
theorem ajj{f:FuncId}{fn:Func}(hfn:P.funcs[f]? =some fn)(hname:(fn.name=="runtime.NumGoroutine")=false)(hbody:fn.body.isNone=false)(args:Array Value):(callFunc f args).run P w= .ok (.enter f args) w:=by
 have hn:¬ fn.name="runtime.NumGoroutine":=by simpa using hname
 have hb:¬ fn.body=none:=by intro h;rw[h]at hbody;cases hbody
 simp[callFunc,program,Sem.run,hfn,hn,hb]
theorem HR.au7(R:HR w0 Z0 Zp h g w)(he:w.Extends w'){new:Nat}(hn:¬ g.al new){size len:Nat}{ob:Option Nat}{v:Value}(ho:asI w w' size len ob v):
  let g':G:={ al:=fun o=>g.al o∨o=new,Z:=asH g.Z w w' ob (len*size),hm:=upd g.hm new ob,lo:=upd g.lo new (len*size),pm:=g.pm }
  HR w0 Z0 Zp ((new,.tok)::h) g' w'∧Le Zp h g w ((new,.tok)::h) g' w'∧azN w' w0.heap.size g' new size len v:=by
 intro g';have hsz:=he.size;have lk:∀o,o≠new→look .dead o ((new,Ob.tok)::h)=look .dead o h:=fun o hne=>by rw[aU,if_neg (Ne.symm hne)]
 have lkn:look .dead new ((new,Ob.tok)::h)= .tok:=by rw[aU,if_pos rfl]
 have hmo:∀o,o≠new→g'.hm o=g.hm o:=fun o hne=>ka _ _ hne;have hmn:g'.hm new=ob:=qH _ _ _;have od:∀b,ob=some b→w.heap.size≤b∧b<w'.heap.size:=by
  intro b hb;rcases ho with⟨h1,_⟩|⟨b',cap,cur,e0,h1,_,h3,_,_,_,h7⟩
  ·rw[h1]at hb;cases hb
  ·rw[h1]at hb;cases hb;exact⟨h7,(Array.getElem?_eq_some_iff.1 h3).1⟩
 have L:Le Zp h g w ((new,.tok)::h) g' w':=by
  refine⟨fun o ha=> .inl ha,fun c i hz=>⟨.inl hz,he.cell _ (R.Nb c i hz)⟩,R.zpk (fun c hc _=>he.block c (ca hc R.iD)) R.zp,fun o ha=> ?_,fun o ha _=> ?_,fun o ha ht=> ?_,fun _ _ _ h=>h⟩
  ·rw[lk o (fun e=>hn (e▸ha))];exact Ob.to.refl _
  ·exact hmo o (fun e=>hn (e▸ha))
  ·rw[lk o (fun e=>hn (e▸ha))]at ht;exact⟨ka _ _ (fun e=>hn (e▸ha)),fun c hc=>he.block c (R.home o c (by rw[ht];simp) hc).2⟩
 refine⟨⟨R.ext.trans he,fun o=> ?_,fun o ha=> ?_,fun o c hd hc=> ?_,fun o p c hd hd' hc Nc=> ?_,fun o c i hop hc hz=> ?_,fun o c i ht hc hz=> ?_,fun c i hz=> ?_,fun c i hc hz=> ?_,fun c i hz=> .inl (R.z0 c i hz),R.zp,R.gh.keep L (fun c wr K H hc=> ?_) rfl (fun c id b hG=>he.block b (R.gh.lt c id b hG)) hsz (fun c id b i hG hz=> ?_) (fun c id b o hG hd hc=> ?_)⟩,L,?_⟩
 ·by_cases hne:o=new
  ·subst hne;rw[lkn];trivial
  ·rw[lk o hne];exact QZ.mono L (.inr (hmo o hne)) (fun hd c hc=>he.block c (R.home o c hd hc).2) (R.ob o)
 ·have hne:o≠new:=fun e=>ha (.inr e);rw[lk o hne];exact R.dead o fun h=>ha (.inl h)
 ·by_cases hne:o=new
  ·subst hne;rw[hmn]at hc;have:=od c hc;have:=R.iD;omega
  ·rw[lk o hne]at hd;rw[hmo o hne]at hc;have:=R.home o c hd hc;exact⟨this.1,by omega⟩
 ·by_cases h1:o=new
  ·by_cases h2:p=new
   ·rw[h1,h2]
   ·subst h1;rw[hmn]at hc;rw[lk p h2]at hd';rw[hmo p h2]at Nc;have:=od c hc;have:=R.home p c hd' Nc;omega
  ·by_cases h2:p=new
   ·subst h2;rw[hmn]at Nc;rw[lk o h1]at hd;rw[hmo o h1]at hc;have:=od c Nc;have:=R.home o c hd hc;omega
   ·rw[lk o h1]at hd;rw[hmo o h1]at hc;rw[lk p h2]at hd';rw[hmo p h2]at Nc;exact R.oa o p c hd hd' hc Nc
 ·by_cases h1:o=new
  ·subst h1;rw[lkn]at hop;simp[Ob.open?]at hop
  ·rw[lk o h1]at hop;rw[hmo o h1]at hc;have hal:look .dead o h≠.dead:=by intro hd;rw[hd]at hop;simp[Ob.open?]at hop
   rcases hz with hz |⟨e,_⟩
   ·exact R.lq o c i hop hc hz
   ·have:=R.home o c hal hc;omega
 ·by_cases h1:o=new
  ·subst h1;rw[hmn]at hc;show i<upd g.lo o (len*size) o;rw[qH];rcases hz with hz |⟨_,_,hz⟩
   ·have:=od c hc;have:=R.Nb c i hz;omega
   ·exact hz hc
  ·rw[lk o h1]at ht;rw[hmo o h1]at hc;show i<upd g.lo new (len*size) o;rw[ka _ _ h1];rcases hz with hz |⟨e,_⟩
   ·exact R.Na o c i ht hc hz
   ·have:=R.home o c (by rw[ht];simp) hc;omega
 ·rcases hz with hz |⟨_,h2,_⟩
  ·have:=R.Nb c i hz;omega
  ·exact h2
 ·rcases hz with hz |⟨h1,_⟩
  ·exact R.JZ c i hc hz
  ·have:=R.iD;omega
 ·by_cases hne:c=new
  ·subst hne;rw[lkn]at hc;cases hc
  ·rw[lk c hne]at hc;exact hc
 ·rcases hz with hz |⟨h1,_⟩
  ·exact R.gh.lq c id b i hG hz
  ·have:=R.gh.lt c id b hG;omega
 ·by_cases hne:o=new
  ·subst hne;rw[hmn]at hc;have:=od b hc;have:=R.gh.lt c id b hG;omega
  ·rw[lk o hne]at hd;rw[hmo o hne]at hc;exact R.gh.loc c id b o hG hd hc
 ·have hlo:g'.lo new=len*size:=qH _ _ _;rcases ho with⟨h1,h2,h3⟩|⟨b,cap,cur,e0,h1,h2,h3,h4,h5,h6,h7⟩
  ·exact .inl ⟨hmn.trans h1,h2,h3⟩
  ·have:=R.iD;exact .inr ⟨b,cap,cur,e0,hmn.trans h1,h2,h3,h4,h5,h6,by omega,hlo⟩
theorem asN{Z Z':cD}{e:Ty}(hf:e.flat=true){l:List e.den}{v:Value}{ob:Option Nat}(hp:PR w' Z jT (.sl e) l [v])(ho:asI w w' e.size (ae l) ob v)(hz:∀b i,w.heap.size≤b→b<w'.heap.size→i<ae l*e.size→Z' b i):PR w' Z' jT (.sl e) l [v]:=by
 obtain⟨base,cap,us,e1,e2,e3,e4⟩:=hp;refine⟨base,cap,us,e1,e2,dY.mono (fun x es hx=>PR.flat e x es hf hx) _ _ e3,fun hne=> ?_⟩;obtain⟨b,off,rfl,hc⟩:=e4 hne;have hul:=dY.length (PR.k e) l us e3;rcases ho with⟨_,h2,_⟩|⟨b',cap',cur,e0,_,h2,h3,_,_,_,h7⟩
 ·rw[h2]at e1;simp at e1
 ·rw[h2]at e1;simp only[List.cons.injEq,Value.slice.injEq,Option.some.injEq,Addr.mk.injEq,and_true]at e1;obtain⟨⟨rfl,rfl⟩,_⟩:=e1;refine⟨_,_,rfl,fun j u hj=>⟨(hc j u hj).1,hz _ _ h7 (Array.getElem?_eq_some_iff.1 h3).1 ?_⟩⟩;have:=(List.getElem?_eq_some_iff.1 hj).1;omega
def PM(w:World)(base:Nat)(Zp:cD)(h:bg)(g:G):(ps:List VT)→(Ck ps).den→List Value→Prop
 |[],_,vs=>vs=[]
 |[V],x,vs=>∃v,vs=[v]∧AR w base Zp h g (E5 V x) v
 |V::U::r,x,vs=>∃v rest,vs=v::rest∧AR w base Zp h g (E5 V x.1) v∧PM w base Zp h g (U::r) x.2 rest
structure qv (P:Program) (f:FuncId) (E:x6):Prop where
 fn:∃fn,P.funcs[f]? =some fn∧(fn.name=="runtime.NumGoroutine")=false∧fn.body.isNone=false
 ok:E.rs.all VT.ok=true
 calls:∀(w0:W0) (Z0 Zp:cD) (g:G) (x:(Ck E.ps).den) (hs:gU E.ws) (ho:gU E.os) (r:(Ck E.rs).den) (hs':gU E.ws) (args:List Value),
  HR w0 Z0 Zp (dJ true E.ws hs++dJ false E.os ho) g w0.toWorld→(∀p,g.al p→p∈(E.ws++E.os).map (·.1))→PM w0.toWorld w0.heap.size Zp (dJ true E.ws hs++dJ false E.os ho) g E.ps x args→E.F x hs ho=some (r,hs')→
  Calls P f args.toArray w0.toWorld fun e w'=>∃v g',e= .returned v∧HR w0 Z0 Zp (dJ true E.ws hs') g' w'∧AR w' w0.heap.size Zp (dJ true E.ws hs') g' (MJ E.rs r) v
end
section
variable {P:Program} {w0:W0} {w w':World} {Z0 Zp NE:cD} {h h':bg} {g g':G} {new next base base':Nat} {r:A} {L L':Log} {X:Cx}
theorem VT.xp(hk:dK w w' g.Z g'.Z)(hp:∀c id e,g.pm c id=some e→g'.pm c id=some e):∀(V:VT) (x:V.den) (vs:List Value),V.ok=true→dT w base Zp h g (V.cells x) vs→dT w' base' NE h' g' (V.cells x) vs
 |.data τ,x,vs,hn,hc=>dT.uZ τ x vs (PR.cI τ x vs hn (PR.mono (Zp:=jT) (NE:=jT) hk (fun _ _ h=>h.elim) τ x vs (PR.cI τ x vs hn (Ty.Cu hn hc))))
 |.gp c off,none,vs,_,hc=>hc
 |.gp c off,some id,vs,_,⟨v,rest,e,⟨q,h1,h2⟩,h3⟩=>⟨v,rest,e,⟨q,hp _ _ _ h1,h2⟩,h3⟩
 |.gs c,none,vs,_,hc=>hc
 |.gs c,some (id,a,n),vs,_,⟨v,rest,e,⟨b,k,cap,sz,o,h1,h2⟩,h3⟩=>⟨v,rest,e,⟨b,k,cap,sz,o,hp _ _ _ h1,h2⟩,h3⟩
 |.gm c,none,vs,_,hc=>hc
 |.gm c,some id,vs,_,⟨v,rest,e,⟨q,h1,h2⟩,h3⟩=>⟨v,rest,e,⟨q,hp _ _ _ h1,h2⟩,h3⟩
 |.pair a b,x,vs,hn,hc=>by
  have hn:(a.ok&&b.ok)=true:=hn;rw[aj]at hn;obtain⟨us,rs,e,h1,h2⟩:=dT.split (a.cells x.1) (b.cells x.2) vs hc;rw[e];exact dT.append _ _ _ _ (VT.xp hk hp a _ _ hn.1 h1) (VT.xp hk hp b _ _ hn.2 h2)
 |.unit,_,_,_,hc=>hc
theorem VT.abK(hk:dK w w' g.Z g'.Z)(hp:∀c id e,g.pm c id=some e→g'.pm c id=some e){V:VT}{x:V.den}{gg:Bool}{v:Value}(hn:V.ok=true)(hc:VR w base Zp h g gg (V.cells x) v):VR w' base' NE h' g' gg (V.cells x) v:=by
 cases gg with
 |true=>obtain⟨vs,e,h1⟩:=hc;exact⟨vs,e,VT.xp hk hp _ _ _ hn h1⟩
 |false=>exact VT.xp hk hp _ _ _ hn hc
theorem vp.move(hk:dK w w' g.Z g'.Z)(hp:∀c id e,g.pm c id=some e→g'.pm c id=some e){c id:Nat}(hb:∀e,g.pm c id=some e→w'.heap[e.1]? =w.heap[e.1]?):∀(K:GK) (x:K.xZ),K.ok=true→vp w base Zp h g c id K x→vp w' base' NE h' g' c id K x
 |.st V,_,hn,⟨h0,b,cap,cur,e0,h1,h2,h3⟩=>⟨h0,b,cap,cur,e0,hp _ _ _ h1,(hb _ h1).trans h2,VT.xp hk hp V _ _ hn h3⟩
 |.bf V,_,hn,⟨h0,b,k,cap,cur,e0,h1,h2,h3,h4,h5,h6⟩=>⟨h0,b,k,cap,cur,e0,hp _ _ _ h1,(hb _ h1).trans h2,h3,h4,h5,dY.mono (fun x es hx=>VT.xp hk hp V x es hn hx) _ _ h6⟩
 |.mp k V,_,hn,⟨h0,h00,b,es,clock,h1,h2,h3,h4⟩=>⟨h0,h00,b,es,clock,hp _ _ _ h1,(hb _ h1).trans h2,h3,fun j p e hj he=>⟨(h4 j p e hj he).1,VT.abK hk hp hn (h4 j p e hj he).2⟩⟩
def iE(wr:Bool):(l:List (Nat×GK))→gU l→Nat→Option Ob
 |[],_,_=>none
 |(c,K)::r,x,p=>if c=p then some (.gh wr K x.1)else iE wr r x.2 p
theorem J7(wr:Bool)(p:Nat)(T:bg):∀(l:List (Nat×GK)) (x:gU l),look .dead p (dJ wr l x++T)=(iE wr l x p).getD (look .dead p T)
 |[],_=>rfl
 |(c,K)::r,x=>by
  show look .dead p ((c,.gh wr K x.1)::(dJ wr r x.2++T))=_;rw[aU];unfold iE
  split
  ·rfl
  ·exact J7 wr p T r x.2
theorem rZ{wr:Bool}{p:Nat}{ob:Ob}:∀(l:List (Nat×GK)) (x:gU l),iE wr l x p=some ob→p∈l.map (·.1)∧∃K H,ob= .gh wr K H
 |[],_,h=>by cases h
 |(c,K)::r,x,h=>by
  unfold iE at h
  split at h
  ·rename_i hc;cases h;exact⟨by simp[hc],K,x.1,rfl⟩
  ·obtain⟨h1,h2⟩:=rZ r x.2 h;exact⟨by simp at h1 ⊢;exact .inr h1,h2⟩
theorem Vg{wr:Bool}{p:Nat}:∀(l:List (Nat×GK)) (x:gU l),p∈l.map (·.1)→∃K H,iE wr l x p=some (.gh wr K H)
 |[],_,h=>by simp at h
 |(c,K)::r,x,h=>by
  unfold iE
  split
  ·exact⟨K,x.1,rfl⟩
  ·rename_i hc;refine Vg r x.2 ?_;simp only[cj,List.mem_cons]at h;rcases h with h |h
   ·exact absurd h.symm hc
   ·exact h
theorem acD{wr:Bool}{p:Nat}{l:List (Nat×GK)}{x:gU l}(h:p∉l.map (·.1)):iE wr l x p=none:=by
 cases he:iE wr l x p with
 |none=>rfl
 |some ob=>exact absurd (rZ l x he).1 h
theorem Vh{wr:Bool}{res:A×bg×Log}:∀(l:List (Nat×GK)) (k:gU l→HM) (L:Log),(auM wr l k).eval next h L=some res→
  ∃y L1,(k y).eval next h L1=some res∧∀p K H,iE wr l y p=some (.gh wr K H)→∃wr',look .dead p h= .gh wr' K H∧(wr=true→wr'=true)
 |[],k,L,e=>⟨(),L,e,fun p K H h=>by cases h⟩
 |(c,K)::r,k,L,e=>by
  have e:=cE e
  split at e
  ·rename_i wr' K' H ho
   split at e
   ·rename_i H' hH hwr;obtain⟨hK,rfl⟩:=kd hH;subst hK;obtain⟨y,L1,e,hy⟩:=Vh r _ _ e;refine⟨(H,y),L1,e,fun p K1 H1 h1=> ?_⟩;have h2:(if c=p then some (Ob.gh wr K' H)else iE wr r y p)=some (.gh wr K1 H1):=h1;clear h1
    by_cases hc:c=p
    ·rw[if_pos hc]at h2;subst hc
     cases h2;exact⟨wr',ho,fun h=>by rw[h]at hwr;simpa using hwr⟩
    ·rw[if_neg hc]at h2;exact hy p K1 H1 h2
   ·exact(ai e).elim
  ·exact(ai e).elim
def x8:(l:List (Nat×GK))→gU l→bg→bg
 |[],_,h=>h
 |(c,K)::r,x,h=>x8 r x.2 ((c,.gh true K x.1)::h)
theorem XD{res:A×bg×Log}{k:HM}:∀(l:List (Nat×GK)) (x:gU l) (h:bg) (L:Log),(an5 l x k).eval next h L=some res→∃L1,k.eval next (x8 l x h) L1=some res
 |[],_,h,L,e=>⟨L,e⟩
 |(c,K)::r,x,h,L,e=>XD r x.2 _ _ (dZ e)
theorem XE{p:Nat}:∀(l:List (Nat×GK)) (x:gU l) (h:bg),QS (l.map (·.1))=true→look .dead p (x8 l x h)=(iE true l x p).getD (look .dead p h)
 |[],_,h,_=>rfl
 |(c,K)::r,x,h,hd=>by
  simp only[cj,QS,aj,aW]at hd;unfold x8 iE;rw[XE r x.2 _ hd.2,aU]
  split
  ·rename_i hc;subst hc;rw[acD (by simpa using hd.1)];rfl
  ·rfl
theorem acE:∀(a b:List Nat),QS (a++b)=true→QS a=true
 |[],_,_=>rfl
 |c::a,b,h=>by
  simp only[eJ,QS,aj,aW]at h ⊢;refine⟨?_,acE a b h.2⟩;have:=h.1;simp at this ⊢;exact this.1
def asO(w:World)(h:bg)(g:G)(ws os:List (Nat×GK))(yo:gU os):W0:=
 { toWorld:=w,B:=fun b=>∃c id,c∈ws.map (·.1)∧GL h g c id b,pm:=g.pm,ro:=fun c=>match iE false os yo c with |some (.gh _ K H)=>some ⟨K,H⟩|_=>none,ws:=fun c=>c∈ws.map (·.1) }
def alG(g:G)(ws os:List (Nat×GK)):G:=⟨fun o=>o∈(ws++os).map (·.1),g.Z,fun _=>none,fun _=>0,g.pm⟩
section
variable {ws os:List (Nat×GK)} {y:gU ws} {yo:gU os}
theorem ahI(p:Nat):look .dead p (dJ true ws y++dJ false os yo)=(iE true ws y p).getD ((iE false os yo p).getD .dead):=by
 have:=J7 false p [] os yo;rw[cK]at this;rw[J7,this];rfl
theorem HR.axZ(R:HR w0 Z0 Zp h g w)(hy:∀p K H,iE true ws y p=some (.gh true K H)→look .dead p h= .gh true K H)(hyo:∀p K H,iE false os yo p=some (.gh false K H)→∃wr,look .dead p h= .gh wr K H):
  HR (asO w h g ws os yo) g.Z (Zd h g w) (dJ true ws y++dJ false os yo) (alG g ws os) w:=by
 have NH:∀c wr K H,look .dead c (dJ true ws y++dJ false os yo)= .gh wr K H→(∃wr',look .dead c h= .gh wr' K H)∧(wr=true→c∈ws.map (·.1)∧look .dead c h= .gh true K H)∧(wr=false→iE false os yo c=some (.gh false K H)):=by
  intro c wr K H hc;rw[ahI]at hc
  cases h1:iE true ws y c with
  |some ob=>
   rw[h1]at hc;obtain⟨hm,K1,H1,rfl⟩:=rZ ws y h1
   cases hc;have:=hy c K H h1;exact⟨⟨_,this⟩,fun _=>⟨hm,this⟩,fun h=>Bool.noConfusion h⟩
  |none=>
   rw[h1]at hc
   cases h2:iE false os yo c with
   |some ob=>
    rw[h2]at hc;obtain⟨hm,K1,H1,rfl⟩:=rZ os yo h2
    cases hc;exact⟨hyo c K H h2,fun h=>Bool.noConfusion h,fun _=>rfl⟩
   |none=>rw[h2]at hc;cases hc
 have od:∀o,(∃wr K H,look .dead o (dJ true ws y++dJ false os yo)= .gh wr K H)∨look .dead o (dJ true ws y++dJ false os yo)= .dead:=by
  intro o;rw[ahI]
  cases h1:iE true ws y o with
  |some ob=>obtain⟨hm,K1,H1,rfl⟩:=rZ ws y h1;exact .inl ⟨_,_,_,rfl⟩
  |none=>
   cases h2:iE false os yo o with
   |some ob=>obtain⟨hm,K1,H1,rfl⟩:=rZ os yo h2;exact .inl ⟨_,_,_,rfl⟩
   |none=>exact .inr rfl
 have hG:∀c id b,GL (dJ true ws y++dJ false os yo) (alG g ws os) c id b→GL h g c id b:=by
  rintro c id b ⟨wr,K,H,x,e,h1,h2,h3,h4⟩;obtain⟨⟨wr',h5⟩,_⟩:=NH c wr K H h1;exact⟨wr',K,H,x,e,h5,h2,h3,h4⟩
 refine⟨⟨rfl,rfl,rfl,aA _,fun _ _ _=>rfl⟩,fun o=> ?_,fun o ha=> ?_,fun o b _ hb=>(by cases hb),fun o p b _ _ hb _=>(by cases hb),fun o b i _ hb=>(by cases hb),fun o b i _ hb=>(by cases hb),R.Nb,fun b i _ hz=> .inl hz,fun b i hz=>hz,fun b i hz=>⟨hz.1,fun⟨c,id,_,hB⟩=>hz.2 c id hB⟩,
  ⟨fun c wr K H id x h1 h2=> ?_,fun c wr K H id h1 h2=> ?_,fun c id b h1=>R.gh.lt c id b (hG c id b h1),fun c K H id x e h1 h2 h3=> ?_,fun c id c' id' b h1 h2=>R.gh.oa c id c' id' b (hG _ _ _ h1) (hG _ _ _ h2),fun c id b i h1=>R.gh.lq c id b i (hG _ _ _ h1),fun c id b o _ _ hb=>(by cases hb),fun c wr V H id e h1 h2=> ?_,fun c id e h1=>h1,fun c K H h1=> ?_,fun c id b i h1 hz=>hz.2 c id (hG _ _ _ h1),fun c wr K H h1=> ?_,fun c K H h1=>((NH c true K H h1).2.1 rfl).1,fun c id e h1=> .inl h1⟩⟩
 ·rcases od o with⟨wr,K,H,h1⟩|h1
  ·rw[h1];rfl
  ·rw[h1];trivial
 ·rcases od o with⟨wr,K,H,h1⟩|h1
  ·exfalso;apply ha;show o∈(ws++os).map (·.1);rw[eI,List.mem_append]
   cases wr with
   |true=>exact .inl ((NH o true K H h1).2.1 rfl).1
   |false=>exact .inr (rZ os yo ((NH o false K H h1).2.2 rfl)).1
  ·exact h1
 ·obtain⟨⟨wr',h5⟩,_⟩:=NH c wr K H h1;exact vp.move (w':=w) (g:=g) (g':=alG g ws os) (fun _ _ h=>⟨h,rfl⟩) (fun _ _ _ h=>h) (fun _ _=>rfl) K x (R.gh.kok c wr' K H h5) (R.gh.xZ c wr' K H id x h5 h2)
 ·obtain⟨⟨wr',h5⟩,_⟩:=NH c wr K H h1;exact R.gh.fresh c wr' K H id h5 h2
 ·obtain⟨_,h5,_⟩:=NH c true K H h1;exact .inr ⟨c,id,(h5 rfl).1,true,K,H,x,e,(h5 rfl).2,h2,h3,rfl⟩
 ·obtain⟨⟨wr',h5⟩,_⟩:=NH c wr _ H h1;exact R.gh.psz c wr' V H id e h5 h2
 ·have h5:=(NH c false K H h1).2.2 rfl;show(match iE false os yo c with |some (.gh _ K H)=>some (⟨K,H⟩:Σ K:GK,List (Option K.xZ))|_=>none)=_;rw[h5]
 ·obtain⟨⟨wr',h5⟩,_⟩:=NH c wr K H h1;exact R.gh.kok c wr' K H h5
theorem HR.au8(R:HR w0 Z0 Zp h g w)(hd:QS (ws.map (·.1))=true)(hy:∀p K H,iE true ws y p=some (.gh true K H)→look .dead p h= .gh true K H){y':gU ws}{g2:G}(R2:HR (asO w h g ws os yo) g.Z (Zd h g w) (dJ true ws y') g2 w')
  (hk:∀p K H K' H',iE true ws y p=some (.gh true K H)→iE true ws y' p=some (.gh true K' H')→K=K') {g':G} (hg:g'={ g with Z:=g2.Z,pm:=g2.pm }):
  HR w0 Z0 Zp (x8 ws y' h) g' w'∧Le Zp h g w (x8 ws y' h) g' w':=by
 subst hg;have lk:∀p,look .dead p (x8 ws y' h)=(iE true ws y' p).getD (look .dead p h):=fun p=>XE ws y' h hd;have lk2:∀p,look .dead p (dJ true ws y')=(iE true ws y' p).getD .dead:=fun p=>by
  have:=J7 true p [] ws y';rwa[cK]at this
 have lkw:∀p,p∈ws.map (·.1)→∃K H H',look .dead p (x8 ws y' h)= .gh true K H'∧look .dead p (dJ true ws y')= .gh true K H'∧look .dead p h= .gh true K H:=fun p hp=>by
  obtain⟨K',H',h1⟩:=Vg (wr:=true) ws y' hp;obtain⟨K,H,h2⟩:=Vg (wr:=true) ws y hp;have:=hk p K H K' H' h2 h1;subst this;exact⟨K,H,H',by rw[lk,h1];rfl,by rw[lk2,h1];rfl,hy p K H h2⟩
 have Nd:∀p,p∉ws.map (·.1)→look .dead p (x8 ws y' h)=look .dead p h:=fun p hp=>by rw[lk,acD hp];rfl
 have ax0:∀p,p∈ws.map (·.1)→g.hm p=none:=fun p hp=>by
  obtain⟨K,H,H',_,_,h3⟩:=lkw p hp;have:=R.ob p;rw[h3]at this;exact this
 have ajl:∀p,look .dead p (x8 ws y' h)≠.dead→look .dead p h≠.dead:=fun p hp=>by
  by_cases hm:p∈ws.map (·.1)
  ·obtain⟨K,H,H',_,_,h3⟩:=lkw p hm;rw[h3];simp
  ·rw[←Nd p hm];exact hp
 have hs:w.heap.size≤w'.heap.size:=R2.ext.size;have acB:∀b,b<w.heap.size→(∀c id,c∈ws.map (·.1)→¬ GL h g c id b)→w'.heap[b]? =w.heap[b]? :=fun b hb hn=>R2.ext.block b hb fun⟨c,id,hc,hG⟩=>hn c id hc hG
 have Rb:∀o b,look .dead o h≠.dead→g.hm o=some b→w'.heap[b]? =w.heap[b]? :=fun o b hd hb=>acB b (R.home o b hd hb).2 fun c id _ hG=>R.gh.loc c id b o hG hd hb
 have aC1:∀c id b,c∉ws.map (·.1)→GL h g c id b→w'.heap[b]? =w.heap[b]? :=fun c id b hc hG=>acB b (R.gh.lt c id b hG) fun c2 id2 Nf hG2=>hc ((R.gh.oa _ _ _ _ _ hG hG2).1▸Nf)
 have hzk:dK w w' g.Z g2.Z:=fun b i hz=>⟨R2.z0 b i hz,bW (acB b (R.Nb b i hz) fun c id _ hG=>R.gh.lq c id b i hG hz)⟩;have hZn:∀b i,g2.Z b i→b<w.heap.size→g.Z b i∨∃c id,c∈ws.map (·.1)∧GL h g c id b:=fun b i hz hb=>R2.JZ b i hb hz;have hpo:∀c id e,g.pm c id=some e→g2.pm c id=some e:=R2.gh.old;have hpn:∀c id e,g2.pm c id=some e→g.pm c id=some e∨c∈ws.map (·.1):=R2.gh.new;have L:Le Zp h g w (x8 ws y' h) { g with Z:=g2.Z,pm:=g2.pm } w':=by
  refine⟨fun o ha=>ha,hzk,R.zpk (fun b hb hB=>acB b (ca hb R.iD) fun c id hc hG=> ?_) R.zp,fun p _=> ?_,fun _ _ _=>rfl,fun p _ ht=>⟨rfl,fun b hb=> ?_⟩,hpo⟩
  ·obtain⟨K,H,H',_,_,h3⟩:=lkw c hc;obtain⟨wr,K1,H1,x,e,h4,h5,h6,h7⟩:=hG;rw[h3]at h4;cases h4;rcases R.gh.own c _ _ id x e h3 h5 h6 with h8 |h8
   ·omega
   ·exact hB (h7▸h8)
  ·by_cases hm:p∈ws.map (·.1)
   ·obtain⟨K,H,H',h1,_,h3⟩:=lkw p hm;rw[h1,h3];exact .inr (.inr (.inr (.inr (.inr (.inl ⟨_,_,_,rfl,rfl⟩)))))
   ·rw[Nd p hm];exact Ob.to.refl _
  ·have hm:p∉ws.map (·.1):=fun hm=>by
    obtain⟨K,H,H',h1,_,h3⟩:=lkw p hm;rw[h1]at ht;cases ht
   rw[Nd p hm]at ht;exact Rb p b (by rw[ht];simp) hb
 have hGL:∀c id b,GL (x8 ws y' h) { g with Z:=g2.Z,pm:=g2.pm } c id b→(c∉ws.map (·.1)∧GL h g c id b)∨(c∈ws.map (·.1)∧GL (dJ true ws y') g2 c id b∧(w.heap.size≤b∨∃c2 id2,c2∈ws.map (·.1)∧GL h g c2 id2 b)):=by
  rintro c id b ⟨wr,K1,H1,x,e,h1,h2,h3,h4⟩
  by_cases hm:c∈ws.map (·.1)
  ·obtain⟨K,H,H',k1,k2,k3⟩:=lkw c hm;rw[k1]at h1;cases h1;refine .inr ⟨hm,⟨true,_,_,x,e,k2,h2,h3,h4⟩,?_⟩;rcases R2.gh.own c _ _ id x e k2 h2 h3 with h5 |h5
   ·exact .inl (h4▸h5)
   ·exact .inr (h4▸h5)
  ·rw[Nd c hm]at h1;rcases hpn c id e h3 with h5 |h5
   ·exact .inl ⟨hm,wr,K1,H1,x,e,h1,h2,h5,h4⟩
   ·exact absurd h5 hm
 refine⟨⟨⟨R2.ext.os.trans R.ext.os,R2.ext.tape.trans R.ext.tape,R2.ext.output.trans R.ext.output,eA R.ext.size hs,fun i hi hB=> ?_⟩,fun p=> ?_,fun p ha=> ?_,fun p b hd hb=> ?_,fun p q b hd hd' hb hb'=>R.oa p q b (ajl p hd) (ajl q hd') hb hb',fun p b i hp hb hz=> ?_,fun p b i ht hb hz=> ?_,fun b i hz=>R2.Nb b i hz,fun b i hb hz=> ?_,fun b i hz=>R2.z0 b i (R.z0 b i hz),R.zp,?_⟩,L⟩
 ·refine(acB i (ca hi R.iD) fun c id hc hG=> ?_).trans (R.ext.block i hi hB);obtain⟨K,H,H',_,_,h3⟩:=lkw c hc;obtain⟨wr,K1,H1,x,e,h4,h5,h6,h7⟩:=hG;rw[h3]at h4;cases h4;rcases R.gh.own c _ _ id x e h3 h5 h6 with h8 |h8
  ·omega
  ·exact hB (h7▸h8)
 ·by_cases hm:p∈ws.map (·.1)
  ·obtain⟨K,H,H',h1,_,h3⟩:=lkw p hm;rw[h1];exact ax0 p hm
  ·rw[Nd p hm];exact QZ.mono L (.inr rfl) (fun hd b hb=>Rb p b hd hb) (R.ob p)
 ·have hm:p∉ws.map (·.1):=fun hm=>by
   obtain⟨K,H,H',_,_,h3⟩:=lkw p hm;exact ha (R.alive (by rw[h3];simp))
  rw[Nd p hm];exact R.dead p ha
 ·have:=R.home p b (ajl p hd) hb;exact⟨this.1,by omega⟩
 ·have hm:p∉ws.map (·.1):=fun hm=>by have:=ax0 p hm;rw[this]at hb;cases hb
  rw[Nd p hm]at hp;have sD:look .dead p h≠.dead:=by intro hd;rw[hd]at hp;cases hp
  rcases hZn b i hz (R.home p b sD hb).2 with h1 |⟨c,id,_,hG⟩
  ·exact R.lq p b i hp hb h1
  ·exact R.gh.loc c id b p hG sD hb
 ·have hm:p∉ws.map (·.1):=fun hm=>by have:=ax0 p hm;rw[this]at hb;cases hb
  rw[Nd p hm]at ht;have sD:look .dead p h≠.dead:=by rw[ht];simp
  rcases hZn b i hz (R.home p b sD hb).2 with h1 |⟨c,id,_,hG⟩
  ·exact R.Na p b i ht hb h1
  ·exact(R.gh.loc c id b p hG sD hb).elim
 ·have J0:b<w.heap.size:=ca hb R.iD;rcases hZn b i hz J0 with h1 |⟨c,id,hc,hG⟩
  ·exact R.JZ b i hb h1
  ·obtain⟨K,H,H',_,_,h3⟩:=lkw c hc;obtain⟨wr,K1,H1,x,e,h4,h5,h6,h7⟩:=hG;rw[h3]at h4;cases h4;rcases R.gh.own c _ _ id x e h3 h5 h6 with h8 |h8
   ·omega
   ·exact .inr (h7▸h8)
 ·refine⟨fun c wr K1 H1 id x h1 h2=> ?_,fun c wr K1 H1 id h1 h2=> ?_,fun c id b h1=> ?_,fun c K1 H1 id x e h1 h2 h3=> ?_,fun c1 id1 c2 id2 b h1 h2=> ?_,fun c id b i h1 hz=> ?_,fun c id b o h1 hd hb=> ?_,fun c wr V H1 id e h1 h2=> ?_,fun c id e h1=>hpo _ _ _ (R.gh.old c id e h1),fun c K1 H1 h1=> ?_,fun c id b i h1 hz=> ?_,fun c wr K1 H1 h1=> ?_,fun c K1 H1 h1=> ?_,fun c id e h1=> ?_⟩
  ·by_cases hm:c∈ws.map (·.1)
   ·obtain⟨K,H,H',k1,k2,k3⟩:=lkw c hm;rw[k1]at h1;cases h1;exact vp.move (w':=w') (g:=g2) (g':={ g with Z:=g2.Z,pm:=g2.pm }) (fun _ _ h=>⟨h,rfl⟩) (fun _ _ _ h=>h) (fun _ _=>rfl) _ x (R.gh.kok c true _ H k3) (R2.gh.xZ c true _ _ id x k2 h2)
   ·rw[Nd c hm]at h1;exact vp.mono L (fun e he=>aC1 c id e.1 hm ⟨wr,K1,H1,x,e,h1,h2,he,rfl⟩) _ _ (R.gh.xZ c wr K1 H1 id x h1 h2)
  ·by_cases hm:c∈ws.map (·.1)
   ·obtain⟨K,H,H',k1,k2,k3⟩:=lkw c hm;rw[k1]at h1;cases h1;exact R2.gh.fresh c true _ _ id k2 h2
   ·rw[Nd c hm]at h1;have h3:=R.gh.fresh c wr K1 H1 id h1 h2
    cases h4:g2.pm c id with
    |none=>rfl
    |some e=>
     rcases hpn c id e h4 with h5 |h5
     ·rw[h3]at h5;cases h5
     ·exact absurd h5 hm
  ·rcases hGL c id b h1 with⟨_,h2⟩|⟨_,h2,_⟩
   ·have:=R.gh.lt c id b h2;omega
   ·exact R2.gh.lt c id b h2
  ·by_cases hm:c∈ws.map (·.1)
   ·obtain⟨K,H,H',k1,k2,k3⟩:=lkw c hm;rw[k1]at h1;cases h1;rcases R2.gh.own c _ _ id x e k2 h2 h3 with h5 |⟨c2,id2,Nf,hG⟩
    ·have:=R.iD;have h5:w.heap.size≤e.1:=h5;exact .inl (by omega)
    ·obtain⟨K2,H2,H2',_,_,q3⟩:=lkw c2 Nf;obtain⟨wr,K3,H3,x3,e3,h6,h7,h8,h9⟩:=hG;rw[q3]at h6;cases h6;rw[←h9];exact R.gh.own c2 _ _ id2 x3 e3 q3 h7 h8
   ·rw[Nd c hm]at h1;rcases hpn c id e h3 with h5 |h5
    ·exact R.gh.own c K1 H1 id x e h1 h2 h5
    ·exact absurd h5 hm
  ·rcases hGL c1 id1 b h1 with⟨m1,k1⟩|⟨m1,k1,q1⟩
   ·rcases hGL c2 id2 b h2 with⟨m2,k2⟩|⟨m2,k2,q2⟩
    ·exact R.gh.oa _ _ _ _ _ k1 k2
    ·exfalso;rcases q2 with q2 |⟨c3,id3,hc3,hG3⟩
     ·have:=R.gh.lt _ _ _ k1;omega
     ·exact m1 ((R.gh.oa _ _ _ _ _ k1 hG3).1▸hc3)
   ·rcases hGL c2 id2 b h2 with⟨m2,k2⟩|⟨m2,k2,q2⟩
    ·exfalso;rcases q1 with q1 |⟨c3,id3,hc3,hG3⟩
     ·have:=R.gh.lt _ _ _ k2;omega
     ·exact m2 ((R.gh.oa _ _ _ _ _ k2 hG3).1▸hc3)
    ·exact R2.gh.oa _ _ _ _ _ k1 k2
  ·rcases hGL c id b h1 with⟨m1,k1⟩|⟨m1,k1,q1⟩
   ·rcases hZn b i hz (R.gh.lt _ _ _ k1)with h5 |⟨c3,id3,hc3,hG3⟩
    ·exact R.gh.lq _ _ _ _ k1 h5
    ·exact m1 ((R.gh.oa _ _ _ _ _ k1 hG3).1▸hc3)
   ·exact R2.gh.lq _ _ _ _ k1 hz
  ·have hd:=ajl o hd;rcases hGL c id b h1 with⟨m1,k1⟩|⟨m1,k1,q1⟩
   ·exact R.gh.loc _ _ _ o k1 hd hb
   ·rcases q1 with q1 |⟨c3,id3,hc3,hG3⟩
    ·have:=(R.home o b hd hb).2;omega
    ·exact R.gh.loc _ _ _ o hG3 hd hb
  ·by_cases hm:c∈ws.map (·.1)
   ·obtain⟨K,H,H',k1,k2,k3⟩:=lkw c hm;rw[k1]at h1;cases h1;exact R2.gh.psz c true _ _ id e k2 h2
   ·rw[Nd c hm]at h1;rcases hpn c id e h2 with h5 |h5
    ·exact R.gh.psz c wr V H1 id e h1 h5
    ·exact absurd h5 hm
  ·have hm:c∉ws.map (·.1):=fun hm=>by
    obtain⟨K,H,H',k1,k2,k3⟩:=lkw c hm;rw[k1]at h1;cases h1
   rw[Nd c hm]at h1;exact R.gh.ro c K1 H1 h1
  ·rcases hGL c id b h1 with⟨m1,k1⟩|⟨m1,k1,q1⟩
   ·exact R.gh.zpx _ _ _ _ k1 hz
   ·rcases q1 with q1 |⟨c3,id3,hc3,hG3⟩
    ·have:=(R.zp b i hz).1;have:=R.iD;omega
    ·exact R.gh.zpx _ _ _ _ hG3 hz
  ·by_cases hm:c∈ws.map (·.1)
   ·obtain⟨K,H,H',k1,k2,k3⟩:=lkw c hm;rw[k1]at h1;cases h1;exact R.gh.kok c true _ H k3
   ·rw[Nd c hm]at h1;exact R.gh.kok c wr K1 H1 h1
  ·by_cases hm:c∈ws.map (·.1)
   ·obtain⟨K,H,H',k1,k2,k3⟩:=lkw c hm;exact R.gh.wsr c K H k3
   ·rw[Nd c hm]at h1;exact R.gh.wsr c K1 H1 h1
  ·rcases hpn c id e h1 with h5 |h5
   ·exact R.gh.new c id e h5
   ·obtain⟨K,H,H',k1,k2,k3⟩:=lkw c h5;exact .inr (R.gh.wsr c K H k3)
end
end
end Go.Am
