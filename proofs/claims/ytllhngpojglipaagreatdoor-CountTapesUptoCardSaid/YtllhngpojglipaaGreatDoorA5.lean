import Derived.Test.YtllhngpojglipaaGreatDoorA4
import Derived.Laws.StructEq
import Derived.Laws.BytesArg
import Derived.ChangeKeysEq
import Derived.Laws.Cover3
import Derived.MapKept
import Derived.WideKeyRuns
set_option linter.unusedVariables false
set_option linter.unusedSimpArgs false
open Array renaming getElem?_toList→cG,toList→eB
open Bool renaming and_eq_true→aj,false_eq_true→cp,not_eq_true'→aW
open List renaming cons_append→eJ,getElem?_append_left→aQ,getElem?_append_right→bh,getElem?_eq_getElem→ah,getElem?_eq_none→bx,getElem?_set_ne→dw,map_append→eI,map_cons→cj,mem_cons_of_mem→aF,mem_cons_self→aH,mem_of_getElem?→eu
open Nat renaming blt_eq→fl,eq_of_beq_eq_true→az,zero_add→dN
open Go.Value renaming int→bq
namespace Go.Am
open Go
section
variable {P:Program} {w0:W0} {w w':World} {Z0 Zp:cD} {h h':bg} {g:G} {new next base:Nat} {r:A} {L L':Log} {X:Cx}
theorem cx(hX:YX P X.tt){t:TypeId}{k:TD→HM}{res:A×bg×Log}(e:(kM X t k).eval next h L=some res):∃d,cZ t X.tt=some d∧eV P t d∧(k d).eval next h L=some res:=by
 unfold kM at e
 split at e
 ·rename_i d hd;exact⟨d,hd,hX.get hd,e⟩
 ·exact(ai e).elim
theorem xn{d:TD}{k:Ty→HM}{res:A×bg×Log}(e:(PD d k).eval next h L=some res):∃τ,d.ty=some τ∧(k τ).eval next h L=some res:=by
 unfold PD at e
 split at e
 ·rename_i τ hd;exact⟨τ,hd,e⟩
 ·exact(ai e).elim
theorem bY.val(R:HR w0 Z0 Zp h g w){s:Sem Value}{v:Value}(hr:s.run P w= .ok v w)(ha:AR w w0.heap.size Zp h g r v):bY P w0 Z0 Zp h g w new (s >>= fun x=>Pure.pure (Next.value x)) r h:=
 bY.pure R (v:=v) (by simp[hr]) ha
theorem alz{x:A}{v:Value}{j:Nat}(hx:AR w base Zp h g x v)(e:(ab7 x j).eval next h L=some (r,h',L')):h'=h∧∃u,(Instr.extract v j).run P w= .ok u w∧AR w base Zp h g r u:=by
 unfold ab7 at e
 split at e
 ·rename_i ps
  split at e
  ·rename_i gg cs hj;have e:=gW e
   cases e;obtain⟨vs,rfl,hp⟩:=hx;have h1:=dY.get (k:=1) (fun x es ⟨u,hu,_⟩=>by rw[hu];rfl) ps vs hp j _ hj;obtain⟨u,hu,hv⟩:=h1;have h2:vs[j]? =some u:=by
    have:=getElem?_sub vs (j*1) 1 0 u (by rw[hu];rfl);simpa using this
   exact⟨rfl,u,by simp[Instr.extract,h2],hv⟩
  ·exact(ai e).elim
 ·exact(ai e).elim
theorem GR{f:Int→Int→Int}{k:IntKind}{F:Value→Value→Sem Value}(hF:∀a b,F (.int k a) (.int k b)=pure (.int k (f a b))):∀(as:List A) (vs:List Value) (n:Int),
  dY (fun a es=>∃u,es=[u]∧AR w base Zp h g a u) as vs→(JT f k n as).eval next h L=some (r,h',L')→h'=h∧∃u,(vs.foldlM F (.int k n)).run P w= .ok u w∧AR w base Zp h g r u
 |[],vs,n,hv,e=>by
  simp only[dY]at hv;subst hv;obtain⟨rfl,rfl,_⟩:=gx e;exact⟨rfl,.int k n,by simp,AR.rg rfl⟩
 |a::as,vs,n,⟨es,rest,e1,⟨u,e2,hu⟩,hr⟩,e=>by
  subst e2;subst e1;unfold JT at e
  split at e
  ·rename_i h0;cases h0
  ·rename_i n' k' m r' heq
   cases heq
   split at e
   ·rename_i hk _;subst hk;have:=hu.c;simp only[CR]at this;subst this;obtain⟨h1,u2,h2,h3⟩:=GR hF as rest _ hr e;exact⟨h1,u2,by simp[List.foldlM_cons,hF,h2],h3⟩
   ·exact(ai e).elim
  ·exact(ai e).elim
theorem abI{env:Env}{a:Act}(he:∀t,AR w base Zp h g (look aJ t env) (a.tmps.getD t undef)):∀(xs:List Operand),dY (fun b es=>∃u,es=[u]∧AR w base Zp h g b u) (xs.map (D8 env)) (xs.map a.eval)
 |[]=>rfl
 |x::xs=>⟨[a.eval x],_,rfl,⟨_,rfl,ea he x⟩,abI he xs⟩
theorem act(R:HR w0 Z0 Zp h g w){env:Env}{a:Act}(he:∀t,AR w w0.heap.size Zp h g (look aJ t env) (a.tmps.getD t undef)):∀(xs:List Operand) (ids:List Nat),aiX (xs.map (D8 env))=some ids→
  dY (fun o es=>g.al o∧∃u,es=[u]∧NF u∧(look .dead o h≠.dead→∃b,g.hm o=some b∧u= .pointer (some ⟨b,0,none⟩))) ids (xs.map a.eval)
 |[],ids,e=>by simp[aiX,vo]at e;subst e;rfl
 |x::xs,ids,e=>by
  have hx:=ea he x;simp only[aiX,cj,vo]at e
  split at e
  ·rename_i o ho
   split at e
   ·rename_i os hos
    cases e;have ih:=act R he xs os hos
    split at ho
    ·rename_i o' heq
     cases ho;rw[heq]at hx;exact⟨[a.eval x],_,rfl,⟨hx.c.1,_,rfl,hx.c.2.1,hx.c.2.2⟩,ih⟩
    ·cases ho
   ·cases e
  ·cases e
theorem aq0{s:List UInt8}{i n:Int}(hx:GJ s i=some n):0≤i∧∃b:UInt8,s[i.toNat]? =some b∧n=(b.toNat:Int):=by
 unfold GJ at hx
 split at hx
 ·rename_i h0
  cases hb:s[i.toNat]? with
  |none=>simp[hb]at hx
  |some b=>simp[hb]at hx;exact⟨h0,b,rfl,hx.symm⟩
 ·cases hx
theorem az4{α:Type}{xs:Array α}{a b:α}(h:xs.toList=[a,b]):xs= #[a,b]:=by
 apply Array.ext';simpa using h
theorem az5{α:Type}{xs:Array α}{a:α}(h:xs.toList=[a]):xs= #[a]:=by
 apply Array.ext';simpa using h
theorem alA{α β:Type}{f:α→β}{l:List α}{a b:β}(h:l.map f=[a,b]):∃x y,l=[x,y]∧f x=a∧f y=b:=by
 match l,h with
 |[x,y],h=>simp at h;exact⟨x,y,rfl,h.1,h.2⟩
theorem aol{α β:Type}{f:α→β}{l:List α}{a:β}(h:l.map f=[a]):∃x,l=[x]∧f x=a:=by
 match l,h with
 |[x],h=>simp at h;exact⟨x,rfl,h⟩
theorem asB{t:TypeId}{s:A}{v:Value}{c:Nat}{y:Option (Nat×Nat×Nat)}(hs:AR w base Zp h g s v)(hg:axu X t s=some (c,y)):CR w base Zp h g (.gs c y) v:=by
 unfold axu at hg
 split at hg
 ·cases hg;exact hs.c
 ·split at hg
  ·cases hg;exact hs.c
  ·cases hg
 ·cases hg
theorem alB(hX:YX P X.tt)(hV:afR P X.UX)(R:HR w0 Z0 Zp h g w)(hn:¬ g.al new){env:Env}{a:Act}(he:∀t,AR w w0.heap.size Zp h g (look aJ t env) (a.tmps.getD t undef)){b:Builtin}{ts:Array TypeId}{ty:TypeId}{args:Array Operand}{cs:Array Bool}
  (e:(ab6 X new b ts.toList (args.toList.map (D8 env))).eval next h L=some (r,h',L')):bY P w0 Z0 Zp h g w new (builtin b ts ty cs (args.map a.eval)) r h':=by
 generalize E1:ts.toList=tl at e;generalize hal:args.toList.map (D8 env)=al at e;unfold ab6 at e
 split at e
 ·
  rename_i t x;obtain⟨x0,hx0,hxr⟩:=aol hal;have hts:=az5 E1;have has:=az5 hx0;subst hts;subst has;have hx:=ea he x0;rw[hxr]at hx
  split at e
  ·rename_i d hd;have T:=hX.get hd
   split at e
   ·rename_i te sD;obtain⟨rfl,n,ad,c,hv,rfl⟩:=asn R hx e;refine bY.val R (v:=.int .i64 n) ?_ (AR.rg rfl);simp[hv,Builtin.len_,run_underlying (T.slice sD),goInt]
   ·rename_i s sD;obtain⟨rfl,rfl,_⟩:=gx e;have hv:=hx.c;simp only[CR]at hv;refine bY.val R (v:=.int .i64 s.length) ?_ (AR.rg rfl);simp[hv,Builtin.len_,run_underlying (T.string sD),goInt,J2]
   ·rename_i n te sD;obtain⟨rfl,rfl,_⟩:=gx e;refine bY.val R (v:=.int .i64 n) ?_ (AR.rg rfl);simp[Builtin.len_,run_underlying (T.array sD),goInt]
   ·exact(ai e).elim
  ·exact(ai e).elim
 ·
  rename_i t u s x;obtain⟨s0,x0,hsx,hsr,hxr⟩:=alA hal;have hts:=az4 E1;have has:=az4 hsx;subst hts;subst has;have hx:=ea he x0;have hs:=ea he s0;rw[hxr]at hx;rw[hsr]at hs
  split at e
  ·rename_i d du hd hdu
   split at e
   ·rename_i te tu sD az6
    split at e
    ·rename_i de hde
     split at e
     ·rename_i c y hgs
      split at e
      ·rename_i V hVt hpos;have:=aly (new:=new) (ty:=ty) R (hX.get hd) (hX.get hdu) (hX.get hde) sD az6 (hV.get hVt) (by simpa[fl]using hpos) (asB hs hgs) hx e;simpa[builtin]using this
      ·exact(ai e).elim
     ·split at e
      ·rename_i τ hτ
       split at e
       ·rename_i hc;simp only[aj]at hc;have:=aoi (ty:=ty) R hn (hX.get hd) (hX.get hdu) (hX.get hde) sD az6 hc.2 hτ hs hx e;simpa[builtin]using this
       ·exact(ai e).elim
      ·exact(ai e).elim
    ·exact(ai e).elim
   ·exact(ai e).elim
  ·exact(ai e).elim
 ·
  rename_i k n rest;have hp:=abI he args.toList;rw[hal]at hp;obtain⟨es,rst,h1,⟨u,h2,h3⟩,h4⟩:=hp;subst h2;have h5:=h3.c;simp only[CR]at h5;subst h5;obtain⟨rfl,u,h6,h7⟩:=GR (P:=P) (F:=Builtin.max2) (fun a b=>rfl) rest rst n h4 e;refine bY.val R (v:=u) ?_ h7;simp only[Builtin.max_,Array.toList_map,h1,List.singleton_append];exact h6
 ·
  rename_i k n rest;have hp:=abI he args.toList;rw[hal]at hp;obtain⟨es,rst,h1,⟨u,h2,h3⟩,h4⟩:=hp;subst h2;have h5:=h3.c;simp only[CR]at h5;subst h5;obtain⟨rfl,u,h6,h7⟩:=GR (P:=P) (F:=Builtin.min2) (fun a b=>rfl) rest rst n h4 e;refine bY.val R (v:=u) ?_ h7;simp only[Builtin.min_,Array.toList_map,h1,List.singleton_append];exact h6
 ·exact(ai e).elim
end
section
variable {P:Program} {w0:W0} {w w':World} {Z0 Zp:cD} {h h':bg} {g:G} {new next base:Nat} {r:A} {L L':Log} {X:Cx}
theorem toListBytes_eq(a b:List UInt8):((⟨a.toArray⟩:ByteArray).toList==(⟨b.toArray⟩:ByteArray).toList)=(a==b):=by rw[alm,alm]
theorem Q8{xs ys:Array Value}(d:Nat):∀(fs:List Field) (i:Nat) (τs:List Ty) (cs ds:List C) (us vs:List Value) (b:Bool),ai4 P i fs τs=true→auN τs cs ds=some b→dT w base Zp h g cs us→dT w base Zp h g ds vs→
  (∀j u,us[j]? =some u→xs[i+j]? =some u)→(∀j u,vs[j]? =some u→ys[i+j]? =some u)→(Op.eqFields (d+1) xs ys fs).run P w= .ok b w
 |[],i,τs,cs,ds,us,vs,b,hf,he,hc,hd,hx,hy=>by
  cases τs with
  |cons _ _=>cases hf
  |nil=>
   cases cs with
   |cons _ _=>cases he
   |nil=>
    cases ds with
    |cons _ _=>cases he
    |nil=>cases he;rfl
 |f::fs,i,τs,cs,ds,us,vs,b,hf,he,hc,hd,hx,hy=>by
  cases τs with
  |nil=>cases hf
  |cons τ τs=>
   cases cs with
   |nil=>cases he
   |cons c cs=>
    cases ds with
    |nil=>cases he
    |cons c2 ds=>
     simp only[ai4,aj]at hf;obtain⟨⟨⟨hn,ho⟩,ht⟩,hf⟩:=hf;have ho:=az ho;simp only[auN]at he
     split at he
     ·rename_i p q hp hq
      cases he;obtain⟨u,us,rfl,hu,hus⟩:=hc;obtain⟨v,vs,rfl,hv,hvs⟩:=hd;have ih:=Q8 d fs (i+1) τs cs ds us vs q hf hq hus hvs
       (fun j u hj=>by have:=hx (j+1) u (by simpa using hj);rwa[show i+(j+1)=i+1+j by omega]at this)
       (fun j u hj=>by have:=hy (j+1) u (by simpa using hj);rwa[show i+(j+1)=i+1+j by omega]at this)
      have hxu:xs[f.offset]? =some u:=by rw[ho];simpa using hx 0 u rfl
      have hyv:ys[f.offset]? =some v:=by rw[ho];simpa using hy 0 v rfl
      have key:P.plainKey f.type=true∧(Op.equalIn (d+1) f.type u v).run P w= .ok p w:=by
       cases hun:P.underlying f.type with
       |none=>rw[hun]at ht;cases τ<;>cases ht
       |some k=>
        rw[hun]at ht
        cases c<;>cases c2<;>simp only[eqC]at hp<;>try (cases hp;done)
        ·split at hp
         ·cases hp
          cases k<;>first |(cases ht;done)|skip
          simp only[CR]at hu hv;subst hu;subst hv;exact⟨by simp[Program.plainKey,hun],Go.run_equalIn_bool w d _ _ _ hun⟩
         ·cases hp
        ·split at hp
         ·rename_i q0
          split at hp
          ·rename_i h1 h2 _ _
           cases hp
           cases k<;>first |(cases ht;done)|skip
           simp only[CR]at hu hv;subst hu;subst hv;subst h1;subst h2;exact⟨by simp[Program.plainKey,hun],run_equalIn_int w d _ _ _ _ _ hun⟩
          ·cases hp
         ·cases hp
        ·split at hp
         ·cases hp
          cases k<;>first |(cases ht;done)|skip
          simp only[CR]at hu hv;subst hu;subst hv;rename_i s1 s2 _;have:=run_equalIn_string w d _ ⟨s1.toArray⟩ ⟨s2.toArray⟩ hun;rw[toListBytes_eq]at this;exact⟨by simp[Program.plainKey,hun],this⟩
         ·cases hp
      have hne:f.name≠"_":=by simpa using hn
      simp only[Op.eqFields,if_pos hne,Sem.run_bind,run_part_plain w key.1 hxu,run_part_plain w key.1 hyv,key.2,Result.andThen_ok]
      cases p with
      |true=>simpa using ih
      |false=>simp
     ·cases he
theorem au2{op:BinOp}{t:TypeId}{d:TD}(T:eV P t d){x y:Operand}{cs:List C}{ya:A}{vx vy:Value}(hx:AR w base Zp h g (.v true cs) vx)(hy:AR w base Zp h g ya vy)(e:(eqA op d cs ya).eval next h L=some (r,h',L')):
  h'=h∧∃c v,r= .v false [c]∧(do eqGuard op t x y vx vy;binOp op t vx vy:Sem Value).run P w= .ok v w∧CR w base Zp h g c v:=by
 unfold eqA at e
 split at e
 ·rename_i τ τs ds hde
  split at e
  ·rename_i b hb;obtain⟨us,rfl,hus⟩:=hx;obtain⟨vs,rfl,hvs⟩:=hy;have hfl:ahy P t d.eq=true:=by
    rcases T.eq with h |h
    ·rw[hde]at h;cases h
    ·exact h
   unfold ahy at hfl
   split at hfl
   ·rename_i fs hun;simp only[aj,aW]at hfl;have hfo:P.fieldsOf t=fs:=by simp[Program.fieldsOf,hun]
    have hrun:(Op.equalIn 10000 t (.agg us.toArray) (.agg vs.toArray)).run P w= .ok b w:=by
     rw[run_equalIn_struct w 9999 t _ _ (by rw[hfo];exact hun) hfl.1.1,hfo];exact Q8 9998 fs.toList 0 d.eq cs ds us vs b hfl.2 (by rw[hde];exact hb) hus hvs (fun j u hj=>by simpa using hj) (fun j u hj=>by simpa using hj)
    have hg:=run_eqGuard_agg (P:=P) w op t x y us.toArray vs.toArray hfl.1.2;simp only[Sem.run_bind,hg,Result.andThen_ok]
    split at e
    ·obtain⟨rfl,rfl,_⟩:=kY e;exact⟨rfl,_,_,rfl,by rw[run_eql_struct,hrun];rfl,rfl⟩
    ·obtain⟨rfl,rfl,_⟩:=kY e;exact⟨rfl,_,_,rfl,by rw[run_neq_struct,hrun];rfl,rfl⟩
    ·exact(ai e).elim
   ·cases hfl
  ·exact(ai e).elim
 ·exact(ai e).elim
theorem asD{op:BinOp}{t:TypeId}{d:TD}(T:eV P t d){x y:Operand}{ty:Ty}{l:List ty.den}{tk:Tok}{ya:A}{vx vy:Value}(hx:AR w base Zp h g (.v false [.sl ty l tk]) vx)(hy:AR w base Zp h g ya vy)(e:(axr op d tk ya).eval next h L=some (r,h',L')):
  h'=h∧∃c v,r= .v false [c]∧(do eqGuard op t x y vx vy;binOp op t vx vy:Sem Value).run P w= .ok v w∧CR w base Zp h g c v:=by
 unfold axr at e
 split at e
 ·rename_i te hde;have hu:=T.slice hde;have hyv:=hy.c;simp only[CR]at hyv;subst hyv;have hxc:=hx.c;obtain⟨_,hxt⟩:=hxc;have key:∀(a:Option Addr) (n c:Nat),vx= .slice a n c→(do eqGuard .eql t x y vx (.slice none 0 0);binOp .eql t vx (.slice none 0 0):Sem Value).run P w= .ok (.bool a.isNone) w∧(do eqGuard .neq t x y vx (.slice none 0 0);binOp .neq t vx (.slice none 0 0):Sem Value).run P w= .ok (.bool (!a.isNone)) w:=by
   intro a n c hv;subst hv;have hg:∀op,(eqGuard op t x y (.slice a n c) (.slice none 0 0)).run P w= .ok () w:=fun op=>by cases op<;>simp[eqGuard]
   simp only[Sem.run_bind,hg,Result.andThen_ok];have:=Go.run_equal_slice_nil w t te a n c hu;constructor<;>simp[binOp,this]
  split at e
  ·obtain⟨a,n,c,hv⟩:=hxt;obtain⟨rfl,rfl,_⟩:=kY e;exact⟨rfl,_,_,rfl,(key _ _ _ hv).1,rfl⟩
  ·obtain⟨a,n,c,hv⟩:=hxt;obtain⟨rfl,rfl,_⟩:=kY e;exact⟨rfl,_,_,rfl,(key _ _ _ hv).2,rfl⟩
  ·obtain⟨n,c,hv⟩:=hxt;obtain⟨rfl,rfl,_⟩:=kY e;exact⟨rfl,_,_,rfl,(key _ _ _ hv).1,rfl⟩
  ·obtain⟨n,c,hv⟩:=hxt;obtain⟨rfl,rfl,_⟩:=kY e;exact⟨rfl,_,_,rfl,(key _ _ _ hv).2,rfl⟩
  ·exact(ai e).elim
 ·exact(ai e).elim
theorem alC{k:IntKind}:∀(l:List Int) (vs:List Value),dY (PR w Z0 Zp (.int k)) l vs→vs=l.map (bq k)
 |[],vs,h=>h
 |n::l,vs,⟨es,rest,e,h1,h2⟩=>by
  have h1:es=[.int k n]:=h1;rw[e,h1,alC l rest h2];rfl
theorem aq1{src dst te:TypeId}(hs:P.underlying src=some (.slice te))(he:P.underlying te=some (.int .u8))(hd:P.underlying dst=some .string){l:List Int}{v:Value}(hv:PR w Z0 Zp (.sl (.int .u8)) l [v]):
  (convert src dst v).run P w= .ok (.string ⟨(bytesOf l).toArray⟩) w:=by
 obtain⟨bs,cap,us,e1,e2,e3,e4⟩:=hv
 cases e1;have e3:=alC l us e3;subst e3
 cases bs with
 |none=>
  have hl:l=[]:=by
   cases l with
   |nil=>rfl
   |cons n l=>
    obtain⟨b,off,hb,_⟩:=e4 (by simp)
    cases hb
  subst hl;rw[run_convert_bytes_string w src dst te _ _ _ hs he hd];simp[Conv.bytesToString,bytesOf];rfl
 |some a=>
  have hl:(loadCells a l.length).run P w= .ok (l.map (bq .u8)).toArray w:=by
   have:=run_loadCells_list (P:=P) w a (l.map (bq .u8)) (fun j u hj=>by
    obtain⟨b,off,hb,hc⟩:=e4 (by intro h0;rw[h0]at hj;simp at hj)
    cases hb;rw[ja];exact(hc j u hj).1)
   simpa using this
  have h2:=run_bytesToString w a l.length cap l hl;rw[foldl_push_bytes]at h2;refine(run_convert_bytes_string w src dst te (some a) l.length cap hs he hd).trans (h2.trans ?_);simp[bytesOf,ByteArray.empty,ByteArray.emptyWithCapacity];rfl
end
open Go Go.MapKept
theorem Cw:∀τ:Ty,τ.isKey=true→τ.cI=true
 |.bool,_ |.int _,_ |.str,_ |.unit,_=>rfl
 |.sl _,h |.ref _,h |.fn _,h |.cl _ _,h=>by simp[Ty.isKey]at h
 |.pair a b,h=>by
  simp[Ty.isKey]at h;simp[Ty.cI,Cw a h.1,Cw b h.2]
theorem xo:∀(τ:Ty) (x:τ.den),τ.isKey=true→(τ.vals x).length=τ.size
 |.bool,_,_ |.int _,_,_ |.str,_,_ |.unit,_,_=>rfl
 |.sl _,_,h |.ref _,_,h |.fn _,_,h |.cl _ _,_,h=>by simp[Ty.isKey]at h
 |.pair a b,x,h=>by
  simp[Ty.isKey]at h;simp[Ty.vals,Ty.size,xo a x.1 h.1,xo b x.2 h.2]
theorem Q9:∀(τ:Ty) (x y:τ.den),τ.isKey=true→τ.vals x=τ.vals y→x=y
 |.bool,x,y,_,e=>by
  have e:[Value.bool x]=[Value.bool y]:=e
  cases e;rfl
 |.int k,x,y,_,e=>by
  have e:[bq k x]=[bq k y]:=e
  cases e;rfl
 |.str,x,y,_,e=>by
  have e:[Value.string ⟨(show List UInt8 from x).toArray⟩]=[Value.string ⟨(show List UInt8 from y).toArray⟩]:=e;simp only[List.cons.injEq,Value.string.injEq,ByteArray.mk.injEq,and_true]at e;have:=congrArg eB e;exact(show(show List UInt8 from x)=(show List UInt8 from y)by simpa using this)
 |.unit,_,_,_,_=>rfl
 |.sl _,_,_,h,_ |.ref _,_,_,h,_ |.fn _,_,_,h,_ |.cl _ _,_,_,h,_=>by simp[Ty.isKey]at h
 |.pair a b,x,y,h,e=>by
  simp[Ty.isKey]at h;have e:a.vals x.1++b.vals x.2=a.vals y.1++b.vals y.2:=e;have hl:(a.vals x.1).length=(a.vals y.1).length:=by rw[xo a _ h.1,xo a _ h.1]
  obtain⟨e1,e2⟩:=List.append_inj e hl;exact Prod.ext (Q9 a _ _ h.1 e1) (Q9 b _ _ h.2 e2)
theorem wj:∀(τ:Ty) (x y:τ.den),τ.isKey=true→(τ.JS x y=true↔x=y)
 |.bool,x,y,_=>by
  show((show Bool from x)==(show Bool from y))=true↔_;exact beq_iff_eq
 |.int k,x,y,_=>by
  show((show Int from x)==(show Int from y))=true↔_;exact beq_iff_eq
 |.str,x,y,_=>by
  show((show List UInt8 from x)==(show List UInt8 from y))=true↔_;exact beq_iff_eq
 |.unit,_,_,_=>⟨fun _=>rfl,fun _=>rfl⟩
 |.sl _,_,_,h |.ref _,_,_,h |.fn _,_,_,h |.cl _ _,_,_,h=>by simp[Ty.isKey]at h
 |.pair a b,x,y,h=>by
  simp[Ty.isKey]at h;simp only[Ty.JS,aj,wj a _ _ h.1,wj b _ _ h.2];exact⟨fun⟨e1,e2⟩=>Prod.ext e1 e2,fun e=>by rw[e];exact⟨rfl,rfl⟩⟩
theorem FV.inj{τ:Ty}{x y:τ.den}{v:Value}(hk:τ.isKey=true)(h1:FV τ x v)(h2:FV τ y v):x=y:=by
 unfold FV at h1 h2
 split at h1<;>rename_i hg<;>rw[hg]at h2<;>simp only at h2
 ·rw[h1]at h2;simp only[Value.agg.injEq]at h2;have:=congrArg eB h2;exact Q9 τ x y hk (by simpa using this)
 ·exact Q9 τ x y hk (h1.trans h2.symm)
theorem FV.same{τ:Ty}{x:τ.den}{v u:Value}(h1:FV τ x v)(h2:FV τ x u):v=u:=by
 unfold FV at h1 h2
 split at h1<;>rename_i hg<;>rw[hg]at h2<;>simp only at h2
 ·rw[h1,h2]
 ·rw[h1]at h2;cases h2;rfl
section
variable {P:Program} {w0:W0} {w w':World} {Z0 Zp:cD} {h h':bg} {g:G} {new next base:Nat} {r:A} {L L':Log} {X:Cx}
theorem asE{τ:Ty}(hk:τ.isKey=true){gg:Bool}{cs:List C}{x:τ.den}{v:Value}(hgg:gg=τ.isAgg)(hv:VR w base Zp h g gg cs v)(ht:τ.dG cs=some x):FV τ x v:=by
 unfold FV
 cases hg:τ.isAgg with
 |true=>
  rw[hgg,hg]at hv;obtain⟨vs,rfl,h1⟩:=hv;have:=(PR.vals τ x vs hk).1 (eM (Cw τ hk) h1 ht);rw[this]
 |false=>
  rw[hgg,hg]at hv;have h1:dT w base Zp h g cs [v]:=hv;exact((PR.vals τ x [v] hk).1 (eM (Cw τ hk) h1 ht)).symm
theorem az8{τ:Ty}(hk:τ.isKey=true){x:τ.den}{v:Value}(hv:FV τ x v):VR w base Zp h g τ.isAgg (τ.cells x) v:=by
 have hc:dT w base Zp h g (τ.cells x) (τ.vals x):=dT.uZ τ x _ ((PR.vals τ x _ hk).2 rfl);unfold FV at hv
 cases hg:τ.isAgg with
 |true=>rw[hg]at hv;exact⟨_,hv,hc⟩
 |false=>
  rw[hg]at hv;have hv:τ.vals x=[v]:=hv;rw[hv]at hc;exact hc
theorem PI:∀τ:Ty,τ.isKey=true→τ.lr=τ.vals τ.zero
 |.bool,_ |.int _,_ |.str,_ |.unit,_=>rfl
 |.sl _,h |.ref _,h |.fn _,h |.cl _ _,h=>by simp[Ty.isKey]at h
 |.pair a b,h=>by
  simp[Ty.isKey]at h;show a.lr++b.lr=a.vals a.zero++b.vals b.zero;rw[PI a h.1,PI b h.2]
theorem au3{t:TypeId}{d:TD}(T:eV P t d){τ:Ty}(hz:d.zero=true)(hτ:d.ty=some τ)(hk:τ.isKey=true):∃z,(zeroValue t).run P w= .ok z w∧FV τ τ.zero z:=by
 obtain⟨i,z,hi,_,_,hiz,Vb,ha⟩:=T.zeroV hz hτ;refine⟨z,by simp[zeroValue,typeInfo,hi,hiz],?_⟩;have auV:=(T.U8 hτ).2.1;rw[PI τ hk]at Vb;unfold FV
 cases hg:τ.isAgg with
 |true=>
  rw[←auV,hg]at ha
  cases z<;>simp[alk]at ha;simp only[Value.cells]at Vb;show Value.agg _= .agg _;rw[←Vb]
 |false=>
  rw[←auV,hg]at ha;show τ.vals τ.zero=[z];rw[←Vb]
  cases z<;>simp[alk]at ha<;>rfl
def Found(es:List MapEntry)(kv:Value)(r:Option (Nat×Value)):Prop:=
 (r=none∧∀e∈es,e.key≠kv)∨∃j e,r=some (j,e.val)∧es[j]? =some e∧e.key=kv
theorem Ra{tk:TypeId}{kv:Value}:∀(es:List MapEntry) (i:Nat),(∀e∈es,∃b,(Op.equal tk kv e.key).run P w= .ok b w∧(b=true↔e.key=kv))→
  ∃r,(Instr.findAsking tk kv es i).run P w= .ok r w∧((r=none∧∀e∈es,e.key≠kv)∨∃j e,r=some (i+j,e.val)∧es[j]? =some e∧e.key=kv)
 |[],i,_=>⟨none,rfl,.inl ⟨rfl,fun e h=>by cases h⟩⟩
 |e::es,i,H=>by
  obtain⟨b,h1,h2⟩:=H e aH;obtain⟨r,h3,h4⟩:=Ra es (i+1) fun e he=>H e (aF _ he)
  cases b with
  |true=>
   exact⟨_,by simp only[Instr.findAsking,Sem.run_bind,h1,Result.andThen_ok,if_true];rfl,.inr ⟨0,e,rfl,rfl,h2.1 rfl⟩⟩
  |false=>
   refine⟨r,by simp only[Instr.findAsking,Sem.run_bind,h1,Result.andThen_ok];simpa using h3,?_⟩;rcases h4 with⟨rfl,h5⟩|⟨j,e',rfl,h5,h6⟩
   ·refine .inl ⟨rfl,fun e0 he0=> ?_⟩;rcases List.mem_cons.1 he0 with rfl |he0
    ·exact fun q=>by have:=h2.2 q;cases this
    ·exact h5 e0 he0
   ·exact .inr ⟨j+1,e',by rw[show i+(j+1)=i+1+j by omega],by simpa using h5,h6⟩
def Ty.ints(k:IntKind):(τ:Ty)→τ.den→List Int
 |.int _,n=>[n]
 |.pair a b,x=>a.ints k x.1++b.ints k x.2
 |_,_=>[]
theorem Fb{k:IntKind}:∀(τ:Ty) (x:τ.den),τ.UY k=true→τ.isKey=true∧τ.vals x=(τ.ints k x).map (bq k)
 |.int q,x,hh=>by
  simp only[Ty.UY]at hh
  split at hh
  ·rename_i e _;subst e;exact⟨rfl,rfl⟩
  ·cases hh
 |.unit,_,_=>⟨rfl,rfl⟩
 |.pair a b,x,hh=>by
  simp only[Ty.UY,aj]at hh;obtain⟨h1,h2⟩:=Fb a x.1 hh.1;obtain⟨h3,h4⟩:=Fb b x.2 hh.2;refine⟨by simp[Ty.isKey,h1,h3],?_⟩;show a.vals x.1++b.vals x.2=(a.ints k x.1++b.ints k x.2).map _;rw[h2,h4,eI]
 |.bool,_,hh |.str,_,hh |.sl _,_,hh |.ref _,_,hh |.fn _,_,hh |.cl _ _,_,hh=>by cases hh
theorem acv{k:IntKind}{e:TypeId}(he:P.underlying e=some (.int k))(d:Nat)(a b:List Int)(hl:a.length=b.length):∀is:List Nat,(∀i∈is,i<a.length)→
  ∃r,(Op.eqItems (d+1) e 1 (a.map (bq k)).toArray (b.map (bq k)).toArray is).run P w= .ok r w∧(r=true↔∀i∈is,a[i]? =b[i]?)
 |[],_=>⟨true,rfl,by simp⟩
 |i::is,hh=>by
  obtain⟨r,h1,h2⟩:=acv he d a b hl is fun j hj=>hh j (aF _ hj);have hi:=hh i aH;have hp:P.plainKey e=true:=by simp[Program.plainKey,he]
  have hx:(a.map (bq k)).toArray[i*1]? =some (.int k a[i]):=by simp[hi]
  have hy:(b.map (bq k)).toArray[i*1]? =some (.int k (b[i]'(by omega))):=by simp[show i<b.length by omega]
  have hq:=run_equalIn_int (P:=P) w d e k k a[i] (b[i]'(by omega)) he;simp only[Op.eqItems,Sem.run_bind,run_part_plain w hp hx,run_part_plain w hp hy,hq,Result.andThen_ok]
  by_cases hab:a[i]=b[i]'(by omega)
  ·refine⟨r,by simp[hab,h1],?_⟩;rw[h2];refine⟨fun H j hj=> ?_,fun H j hj=>H j (aF _ hj)⟩;rcases List.mem_cons.1 hj with rfl |hj
   ·simp[hi,show j<b.length by omega,hab]
   ·exact H j hj
  ·refine⟨false,by simp[hab],?_⟩;simp only[cp,false_iff];intro H;have:=H i aH;simp[hi,show i<b.length by omega]at this;exact hab this
theorem alD{k:IntKind}{tk e:TypeId}{n:Nat}{i:TypeInfo}(hu:P.underlying tk=some (.array n e))(he:P.underlying e=some (.int k))(hi:P.info? e=some i)(hs:i.size=1){a b:List Int}(ha:a.length=n)(hb:b.length=n):
  ∃r,(Op.equal tk (.agg (a.map (bq k)).toArray) (.agg (b.map (bq k)).toArray)).run P w= .ok r w∧(r=true↔b=a):=by
 have hc:P.cellsOf e=1:=by simp[Program.cellsOf,hi,hs]
 obtain⟨r,h1,h2⟩:=acv (w:=w) he 9998 a b (by omega) (List.range n) fun i hi=>by simp at hi;omega
 refine⟨r,?_,?_⟩
 ·show(Op.equalIn (9999+1) tk _ _).run P w=_;rw[run_equalIn_array w 9999 _ _ hu hi,hc];exact h1
 ·rw[h2];refine⟨fun H=> ?_,fun e i _=>by rw[e]⟩;apply List.ext_getElem?;intro j
  by_cases hj:j<n
  ·exact(H j (by simpa using hj)).symm
  ·rw[bx (by omega),bx (by omega)]
theorem alE{k:IntKind}{tk e:TypeId}{n:Nat}{i:TypeInfo}(hu:P.underlying tk=some (.array n e))(he:P.underlying e=some (.int k))(hi:P.info? e=some i)(hs:i.size=1){a:List Int}(ha:a.length=n)(em:Bool):
  (Instr.checkKey em 10000 tk (.agg (a.map (bq k)).toArray)).run P w= .ok () w:=by
 have hp:P.plainKey e=true:=by simp[Program.plainKey,he]
 obtain⟨m,hm⟩:∃m,(10000:Nat)=m+1+1:=⟨9998,rfl⟩;rw[hm,Instr.checkKey];simp only[Sem.run_bind,run_underlying hu,Result.andThen_ok];simp only[Std.Legacy.Range.forIn_eq_forIn_range',Std.Legacy.Range.size,Nat.sub_zero,Nat.add_one_sub_one,Nat.div_one];have key:∀is:List Nat,(∀j∈is,j<a.length)→Sem.run P (forIn is PUnit.unit fun i (_:PUnit)=>do
   Instr.checkKey em (m+1) e (←part e (a.map (bq k)).toArray (i*(←sizeOf e)))
   pure (ForInStep.yield PUnit.unit)) w= .ok PUnit.unit w:=by
  intro is
  induction is with
  |nil=>intro _;rfl
  |cons j is ih=>
   intro H;have hj:=H j aH;have hx:(a.map (bq k)).toArray[j*1]? =some (.int k a[j]):=by simp[hj]
   have hz:(sizeOf e).run P w= .ok 1 w:=by simp[Go.sizeOf,typeInfo,hi,hs]
   have hk:(Instr.checkKey em (m+1) e (.int k a[j])).run P w= .ok () w:=by
    simp only[Instr.checkKey,Sem.run_bind,run_underlying he,Result.andThen_ok];rfl
   rw[List.forIn_cons];simp only[Sem.run_bind,hz,Result.andThen_ok];rw[run_part_plain w hp hx];simp only[Result.andThen_ok];rw[hk];simp only[Result.andThen_ok,Sem.run_pure];exact ih fun j hj=>H j (aF _ hj)
 rw[key (List.range' 0 n) fun j hj=>by simp at hj;omega];rfl
theorem ajf(hX:YX P X.tt){tk:TypeId}{k:Ty}(hk:apS X tk=some k):k.isKey=true∧∀(x:k.den) (kv:Value),FV k x kv→
  (∀em,(Instr.checkKey em 10000 tk kv).run P w= .ok () w)∧(Instr.keyThatStays kv kv).run P w= .ok kv w∧
  ∀es:List MapEntry,(∀e∈es,∃y,FV k y e.key)→∃r,(Instr.findKey tk kv es).run P w= .ok r w∧Found es kv r:=by
 unfold apS at hk
 split at hk
 ·rename_i d hd;have T:=hX.get hd
  split at hk
  ·rename_i k1 q sD hty
   split at hk
   ·rename_i e _;subst e
    cases hk;have hu:=T.int sD;refine⟨rfl,fun x kv hv=> ?_⟩;have hv:kv= .int k1 x:=by
     have hv:[bq k1 x]=[kv]:=hv
     cases hv;rfl
    subst hv;have hik:IsKey (.int k1) (.int k1 x):=by simp[IsKey]
    refine⟨fun em=>run_checkKey hu hik em 9999,run_keyThatStays hik,fun es hes=> ?_⟩;have hek:∀e∈es,IsKey (.int k1) e.key:=by
     intro e he;obtain⟨y,hy⟩:=hes e he;have hy:[bq k1 y]=[e.key]:=hy;simp only[List.cons.injEq,and_true]at hy;rw[←hy];simp[IsKey]
    rcases findNow_spec hik es 0 hek with⟨h1,h2⟩|⟨j,e,h1,h2,h3⟩
    ·exact⟨none,run_findKey hu h1,.inl ⟨rfl,h2⟩⟩
    ·rw[dN]at h1;exact⟨_,run_findKey hu h1,.inr ⟨j,e,rfl,h2,h3⟩⟩
   ·cases hk
  ·rename_i sD hty
   cases hk;have hu:=T.string sD;refine⟨rfl,fun x kv hv=> ?_⟩;have hv:kv= .string ⟨(show List UInt8 from x).toArray⟩:=by
    have hv:[Value.string ⟨(show List UInt8 from x).toArray⟩]=[kv]:=hv
    cases hv;rfl
   subst hv;have hik:IsKey .string (.string ⟨(show List UInt8 from x).toArray⟩):=by simp[IsKey]
   refine⟨fun em=>run_checkKey hu hik em 9999,run_keyThatStays hik,fun es hes=> ?_⟩;have hek:∀e∈es,IsKey .string e.key:=by
    intro e he;obtain⟨y,hy⟩:=hes e he;have hy:[Value.string ⟨(show List UInt8 from y).toArray⟩]=[e.key]:=hy;simp only[List.cons.injEq,and_true]at hy;rw[←hy];simp[IsKey]
   rcases findNow_spec hik es 0 hek with⟨h1,h2⟩|⟨j,e,h1,h2,h3⟩
   ·exact⟨none,run_findKey hu h1,.inl ⟨rfl,h2⟩⟩
   ·rw[dN]at h1;exact⟨_,run_findKey hu h1,.inr ⟨j,e,rfl,h2,h3⟩⟩
  ·rename_i n e τ sD hty
   split at hk
   ·rename_i de hde;have Te:=hX.get hde
    split at hk
    ·rename_i q hdq
     split at hk
     ·rename_i hc;simp only[aj]at hc;obtain⟨⟨⟨h1,h2⟩,h3⟩,h4⟩:=hc;have h1:=az h1;have h2:=az h2
      cases hk;have hu:=T.array sD;have hue:=Te.int hdq;obtain⟨i,hi,his,_⟩:=Te.inf;have hvi:∀x:k.den,(k.ints q x).length=n:=by
       intro x;obtain⟨g1,g2⟩:=Fb (k:=q) k x h4;have:=xo k x g1;rw[g2]at this;simpa[h2]using this
      have hfv:∀(x:k.den) (v:Value),FV k x v→v= .agg ((k.ints q x).map (bq q)).toArray:=by
       intro x v hv;unfold FV at hv;rw[h3]at hv;have hv:v= .agg (k.vals x).toArray:=hv;rw[hv,(Fb (k:=q) k x h4).2]
      refine⟨(Fb (k:=q) k k.zero h4).1,fun x kv hv=> ?_⟩;have hkv:=hfv x kv hv;subst hkv;refine⟨fun em=>alE hu hue hi (his.trans h1) (hvi x) em,?_,fun es hes=> ?_⟩
      ·have hsb:∀n (l:List Int),((l.map (bq q)).zip (l.map (bq q))).all (fun(x,y)=>Instr.sameBits n x y)=true:=by
        intro n l
        induction l with
        |nil=>rfl
        |cons a l ih=>
         simp only[cj,List.zip_cons_cons,List.all_cons,ih,Bool.and_true];simp[Instr.sameBits]
       have:Instr.sameBits 10000 (.agg ((k.ints q x).map (bq q)).toArray) (.agg ((k.ints q x).map (bq q)).toArray)=true:=by
        rw[show(10000:Nat)=9999+1 from rfl,Instr.sameBits];simpa using hsb 9999 (k.ints q x)
       simp[Instr.keyThatStays,this]
      ·have hw2:(match P.underlying tk with |some (.array _ _)|some (.struct _)=>true |_=>false)=true:=by rw[hu]
       rw[run_findKey_eq w hw2];obtain⟨r,g1,g2⟩:=Ra (P:=P) (w:=w) (tk:=tk) (kv:=.agg ((k.ints q x).map (bq q)).toArray) es 0 (by
        intro e he;obtain⟨y,hy⟩:=hes e he;have hy:=hfv y _ hy;obtain⟨b,g3,g4⟩:=alD (w:=w) hu hue hi (his.trans h1) (hvi x) (hvi y);refine⟨b,by rw[hy];exact g3,?_⟩;rw[g4,hy];constructor
        ·intro e;rw[e]
        ·intro e;simp only[Value.agg.injEq]at e;have:=congrArg eB e;simp only at this;exact(List.map_inj_right (fun a b hab=>by cases hab;rfl)).1 this)
       refine⟨r,g1,?_⟩;rcases g2 with g2 |⟨j,e,g2,g3,g4⟩
       ·exact .inl g2
       ·rw[dN]at g2;exact .inr ⟨j,e,g2,g3,g4⟩
     ·cases hk
    ·cases hk
   ·cases hk
  ·cases hk
 ·cases hk
theorem ahF{k v:Ty}(hk:k.isKey=true){x:k.den}:∀l:List (k.den×v.den),(∀p∈l,p.1≠x)→JG k.JS l x=none
 |[],_=>rfl
 |p::l,hh=>by
  have h1:k.JS x p.1=false:=by
   cases hb:k.JS x p.1 with
   |false=>rfl
   |true=>exact absurd ((wj k _ _ hk).1 hb).symm (hh p aH)
  simp only[JG,h1];exact ahF hk l fun q hq=>hh q (aF _ hq)
theorem ahG{k v:Ty}(hk:k.isKey=true){x:k.den}{y:v.den}:∀(l:List (k.den×v.den)) (j:Nat),(l.map (·.1)).Nodup→l[j]? =some (x,y)→JG k.JS l x=some y
 |[],j,_,hh=>by simp at hh
 |p::l,0,_,hh=>by
  simp at hh;subst hh;simp only[JG,(wj k x x hk).2 rfl]
 |p::l,j+1,hn,hh=>by
  have hh:l[j]? =some (x,y):=by simpa using hh
  simp only[cj,List.nodup_cons]at hn;have h1:k.JS x p.1=false:=by
   cases hb:k.JS x p.1 with
   |false=>rfl
   |true=>
    exfalso;apply hn.1;rw[←(wj k _ _ hk).1 hb];exact List.mem_map.2 ⟨(x,y),eu hh,rfl⟩
  simp only[JG,h1];exact ahG hk l j hn.2 hh
theorem MM{k v:Ty}(hk:k.isKey=true){x:k.den}{z:v.den}:∀l:List (k.den×v.den),(∀p∈l,p.1≠x)→PA k.JS l x z=l++[(x,z)]
 |[],_=>rfl
 |p::l,hh=>by
  have h1:k.JS x p.1=false:=by
   cases hb:k.JS x p.1 with
   |false=>rfl
   |true=>exact absurd ((wj k _ _ hk).1 hb).symm (hh p aH)
  simp only[PA,h1,eJ];rw[MM hk l fun q hq=>hh q (aF _ hq)]
theorem ahH{k v:Ty}(hk:k.isKey=true){x:k.den}{y z:v.den}:∀(l:List (k.den×v.den)) (j:Nat),(l.map (·.1)).Nodup→l[j]? =some (x,y)→PA k.JS l x z=l.set j (x,z)
 |[],j,_,hh=>by simp at hh
 |p::l,0,_,hh=>by
  simp at hh;subst hh;simp only[PA,(wj k x x hk).2 rfl,List.set_cons_zero]
 |p::l,j+1,hn,hh=>by
  have hh:l[j]? =some (x,y):=by simpa using hh
  simp only[cj,List.nodup_cons]at hn;have h1:k.JS x p.1=false:=by
   cases hb:k.JS x p.1 with
   |false=>rfl
   |true=>
    exfalso;apply hn.1;rw[←(wj k _ _ hk).1 hb];exact List.mem_map.2 ⟨(x,y),eu hh,rfl⟩
  simp only[PA,h1,List.set_cons_succ];rw[ahH hk l j hn.2 hh]
theorem aqM.keys{k v:Ty}{l:List (k.den×v.den)}{es:List MapEntry}(h:aqM k v l es):∀e∈es,∃y,FV k y e.key:=by
 intro e he;obtain⟨j,hj⟩:=List.mem_iff_getElem?.1 he;obtain⟨p,hp⟩:∃p,l[j]? =some p:=by
  have:j<es.length:=(List.getElem?_eq_some_iff.1 hj).1;exact⟨_,ah (by rw[h.1];exact this)⟩
 exact⟨p.1,(h.2 j p e hp hj).1⟩
theorem acw{k v:Ty}{l:List (k.den×v.den)}{es:List MapEntry}(h:aqM k v l es){x:k.den}{kv:Value}(hx:FV k x kv)(hn:∀e∈es,e.key≠kv):∀p∈l,p.1≠x:=by
 intro p hp e;obtain⟨j,hj⟩:=List.mem_iff_getElem?.1 hp;have hjl:j<l.length:=(List.getElem?_eq_some_iff.1 hj).1;have hje:es[j]? =some (es[j]'(by rw[←h.1];exact hjl)):=ah _
 have:=(h.2 j p _ hj hje).1;rw[e]at this;exact hn _ (eu hje) (this.same hx)
theorem acx{k v:Ty}(hk:k.isKey=true){l:List (k.den×v.den)}{es:List MapEntry}(h:aqM k v l es){x:k.den}{kv:Value}(hx:FV k x kv){j:Nat}{e:MapEntry}(hj:es[j]? =some e)(he:e.key=kv):∃y,l[j]? =some (x,y)∧FV v y e.val:=by
 have hje:j<es.length:=(List.getElem?_eq_some_iff.1 hj).1;have hjl:l[j]? =some (l[j]'(by rw[h.1];exact hje)):=ah _
 obtain⟨h1,h2⟩:=h.2 j _ _ hjl hj;rw[he]at h1;have:=h1.inj hk hx;exact⟨_,by rw[hjl,←this],h2⟩
theorem PJ{k v k' v':Ty}{l:List (k.den×v.den)}{m:List (k'.den×v'.den)}(hc:GN k v k' v' l=some m):∃(h:k=k') (h':v=v'),m=h▸h'▸l:=by
 unfold GN at hc
 split at hc
 ·rename_i h h' _ _
  cases hc;exact⟨h,h',rfl⟩
 ·cases hc
theorem J6(hX:YX P X.tt){tk tv:TypeId}{k v:Ty}(hm:JU X tk tv=some (k,v)):apS X tk=some k∧v.isKey=true∧∃d,eV P tv d∧d.zero=true∧d.ty=some v:=by
 unfold JU at hm
 split at hm
 ·rename_i q d hq hd
  split at hm
  ·rename_i u hz hu
   split at hm
   ·rename_i hi
    cases hm;exact⟨hq,hi,d,hX.get hd,hz,hu⟩
   ·cases hm
  ·cases hm
 ·cases hm
theorem eV.map{t:TypeId}{d:TD}(T:eV P t d){tk tv:TypeId}(hd:d.desc= .map tk tv):P.underlying t=some (.map tk tv):=by
 obtain⟨y,h1,h2⟩:=T.under;rw[hd]at h2
 cases y<;>simp[Ct]at h2;rw[h1,h2.1,h2.2]
theorem alF(hX:YX P X.tt)(R:HR w0 Z0 Zp h g w)(hn:¬ g.al new){t tk tv:TypeId}{k v:Ty}(hm:JU X tk tv=some (k,v)):
  bY P w0 Z0 Zp h g w new (do pure (.value (←Instr.makeMap t none))) (.v false [.mp new]) ((new,.map k v [])::h):=by
 obtain⟨h1,h2,_⟩:=J6 hX hm;have hk:=(ajf (P:=P) (w:=w) hX h1).1;have hw:(w.alloc (.map #[] 0)).heap=w.heap.push (.map #[] 0):=rfl;have hnew:(w.alloc (.map #[] 0)).heap[w.heap.size]? =some (.map #[] 0):=by rw[hw];simp
 have sC:=Le.alloc R hn (.map k v []) 0 hw;refine⟨_,.map (some w.heap.size),_,_,?_,.inl rfl,R.alloc hn (.map k v []) 0 hw (R.ext.alloc _) ⟨hk,h2,by simp,w.heap.size,#[],0,vu _ _ _ _,hnew,rfl,fun j p e hj=>by simp at hj⟩ (fun _=>rfl),sC,AR.rg ⟨.inr rfl,⟨_,rfl⟩,fun _=>⟨_,vu _ _ _ _,rfl⟩⟩,fun o ho=>ho⟩;simp[Instr.makeMap,newObj,Sem.run]
theorem aom(hX:YX P X.tt)(R:HR w0 Z0 Zp h g w){t tk tv:TypeId}{d:TD}(T:eV P t d)(hd:d.desc= .map tk tv){k v:Ty}(hm:JU X tk tv=some (k,v)){x ix:A}{vx vi:Value}(hx:AR w w0.heap.size Zp h g x vx)(hi:AR w w0.heap.size Zp h g ix vi){ok:Bool}
  (e:(aiY k v x ix ok).eval next h L=some (r,h',L')):h'=h∧∃u,(Instr.lookup t vx vi ok).run P w= .ok u w∧AR w w0.heap.size Zp h g r u:=by
 obtain⟨h1,h2,dv,Tv,hz,hty⟩:=J6 hX hm;have hkk:=ajf (P:=P) (w:=w) hX h1;have hu:=T.map hd;unfold aiY at e
 split at e
 ·rename_i o gg cs
  split at e
  ·rename_i y hgg hy;have e:=cE e
   split at e
   ·rename_i k' v' l ho
    split at e
    ·rename_i l2 hc;obtain⟨hk',hv',hl⟩:=PJ hc;subst hk' hv';have hl:l2=l:=hl;subst hl;obtain⟨hal,_,hp⟩:=hx.c;obtain⟨b,hb,rfl⟩:=hp (by rw[ho];simp);have od:=R.ob o;rw[ho]at od;obtain⟨g1,g2,hnd,b',es,clock,hb',hes,hmr⟩:=od;rw[hb]at hb';cases hb';have hfv:FV k' y vi:=asE g1 (by simpa using hgg) hi hy;obtain⟨c1,_,c3⟩:=hkk.2 y vi hfv;obtain⟨res,c4,c5⟩:=c3 es.toList hmr.keys;obtain⟨z,hz1,hz2⟩:=au3 (w:=w) Tv hz hty g2;have hrun:∀(vv:Value) (bb:Bool),((res.map (fun u=>(u.2,true))).getD (z,false)=(vv,bb))→(Instr.lookup t (.map (some b)) vi ok).run P w= .ok (if ok then .tuple #[vv,.bool bb]else vv) w:=by
      intro vv bb hvv;simp only[Instr.lookup,Sem.run_bind,run_underlying hu,Result.andThen_ok,MapKept.run_getObj_map hes,Sem.run_pure,c1,c4]
      cases res with
      |none=>simp at hvv;obtain⟨rfl,rfl⟩:=hvv;simp[hz1]
      |some q=>obtain⟨q1,q2⟩:=q;simp at hvv;obtain⟨rfl,rfl⟩:=hvv;simp
     have fin:∀(vv:Value) (q:Option v'.den),JG k'.JS l2 y=q→((res.map (fun u=>(u.2,true))).getD (z,false)=(vv,q.isSome))→FV v' (q.getD v'.zero) vv→
       h'=h∧∃u,(Instr.lookup t (.map (some b)) vi ok).run P w= .ok u w∧AR w w0.heap.size Zp h g r u:=by
      intro vv q hq hmt hvv;rw[hq]at e;have hvr:=az8 (w:=w) (base:=w0.heap.size) (Zp:=Zp) (h:=h) (g:=g) g2 hvv
      cases ok with
      |true=>
       cases gW e;refine⟨rfl,_,hrun _ _ hmt,?_⟩;exact⟨[vv,.bool q.isSome],rfl,[vv],[.bool q.isSome],rfl,⟨vv,rfl,hvr⟩,[.bool q.isSome],[],rfl,⟨_,rfl,⟨_,[],rfl,rfl,rfl⟩⟩,rfl⟩
      |false=>
       cases gW e;exact⟨rfl,_,hrun _ _ hmt,hvr⟩
     rcases c5 with⟨rfl,c5⟩|⟨j,en,rfl,c5,c6⟩
     ·exact fin z none (ahF g1 l2 (acw hmr hfv c5)) rfl hz2
     ·obtain⟨yy,c7,c8⟩:=acx g1 hmr hfv c5 c6;exact fin en.val (some yy) (ahG g1 l2 j hnd c7) rfl c8
    ·exact(ai e).elim
   ·exact(ai e).elim
  ·exact(ai e).elim
 ·exact(ai e).elim
theorem aon(hX:YX P X.tt)(R:HR w0 Z0 Zp h g w){t tk tv:TypeId}{d:TD}(T:eV P t d)(hd:d.desc= .map tk tv){k v:Ty}(hm:JU X tk tv=some (k,v)){x ix a:A}{vx vi va:Value}(hx:AR w w0.heap.size Zp h g x vx)(hi:AR w w0.heap.size Zp h g ix vi)(ha:AR w w0.heap.size Zp h g a va)
  (e:(aiZ k v x ix a).eval next h L=some (r,h',L')):bY P w0 Z0 Zp h g w new (do Instr.mapUpdate t vx vi va;pure .skip) r h':=by
 obtain⟨h1,h2,_⟩:=J6 hX hm;have hkk:=ajf (P:=P) (w:=w) hX h1;have hu:=T.map hd;unfold aiZ at e
 split at e
 ·rename_i o gg cs gg' ds
  split at e
  ·rename_i y z hgg hy hz;have e:=cE e
   split at e
   ·rename_i k' v' l ho
    split at e
    ·rename_i l2 hc;obtain⟨hk',hv',hl⟩:=PJ hc;subst hk' hv';have hl:l2=l:=hl;subst hl;simp only[aj,beq_iff_eq]at hgg;have e:=dZ e
     cases gW e;obtain⟨hal,_,hp⟩:=hx.c;obtain⟨b,hb,rfl⟩:=hp (by rw[ho];simp);have od:=R.ob o;rw[ho]at od;obtain⟨g1,g2,hnd,b',es,clock,hb',hes,hmr⟩:=od;rw[hb]at hb';cases hb';have hfv:FV k' y vi:=asE g1 hgg.1 hi hy;have hfz:FV v' z va:=asE g2 hgg.2 ha hz;obtain⟨c1,c2,c3⟩:=hkk.2 y vi hfv;obtain⟨res,c4,c5⟩:=c3 es.toList hmr.keys;have hbb:=R.home o b (by rw[ho];simp) hb;have fin:∀(es':Array MapEntry) (clock':Nat),(Instr.mapUpdate t (.map (some b)) vi va).run P w= .ok () { w with heap:=w.heap.setIfInBounds b (.map es' clock') }→aqM k' v' (PA k'.JS l2 y z) es'.toList→((PA k'.JS l2 y z).map (·.1)).Nodup→
       bY P w0 Z0 Zp h g w new (do Instr.mapUpdate t (.map (some b)) vi va;pure .skip) Cs ((o,.map k' v' (PA k'.JS l2 y z))::h):=by
      intro es' clock' hrun aCX aCY;have hs:=heap_set (o':=Obj.map es' clock') hes;obtain⟨W1,W2⟩:=R.write (x:=.map k' v' (PA k'.JS l2 y z)) (w':={ w with heap:=w.heap.setIfInBounds b (.map es' clock') }) hb (by rw[ho];rfl) (by rw[ho];exact .inr (.inr (.inr (.inr (.inl ⟨_,_,_,_,rfl,rfl⟩))))) rfl
       (fun c hc=>hs.2 c hc) (by simp) (ack R.ext rfl rfl rfl (by simp) (fun i hi _=>hs.2 i (by omega)))
       (fun _=>⟨g1,g2,aCY,b,es',clock',hb,hs.1,aCX⟩)
      exact⟨.skip,undef,_,g,by simp[hrun],.inr ⟨rfl,rfl⟩,W1,W2,AR.skip,fun _ hh=> .inl hh⟩
     rcases c5 with⟨rfl,c5⟩|⟨j,en,rfl,c5,c6⟩
     ·have hno:=acw hmr hfv c5;have hpn:=MM (v:=v') (z:=z) g1 l2 hno;refine fin (es.push { key:=vi,val:=va,born:=clock }) (clock+1) ?_ ?_ ?_
      ·simp only[Instr.mapUpdate,Sem.run_bind,run_underlying hu,Result.andThen_ok,MapKept.run_getObj_map hes,c1,c4];exact MapKept.run_setObj_map _ hes
      ·rw[hpn,Array.toList_push];refine⟨by simp[hmr.1],fun i p en hp he=> ?_⟩
       by_cases hi:i<l2.length
       ·rw[aQ hi]at hp;rw[aQ (by rw[←hmr.1];exact hi)]at he;exact hmr.2 i p en hp he
       ·rw[bh (by omega)]at hp;rw[bh (by rw[←hmr.1];omega),←hmr.1]at he;obtain⟨q,hq⟩:∃q,q=i -l2.length:=⟨_,rfl⟩;rw[←hq]at hp he
        match q,hp,he with
        |0,hp,he=>
         simp at hp he;subst hp he;exact⟨hfv,hfz⟩
        |q+1,hp,_=>simp at hp
      ·rw[hpn,eI,List.nodup_append];refine⟨hnd,by simp,fun q hq q' hq'=> ?_⟩;simp at hq';subst hq';obtain⟨p,hp,rfl⟩:=List.mem_map.1 hq;exact hno p hp
     ·obtain⟨yy,c7,c8⟩:=acx g1 hmr hfv c5 c6;have hps:=ahH (v:=v') (z:=z) g1 l2 j hnd c7;have c5':es[j]? =some en:=by simpa using c5
      refine fin (es.modify j fun e=>{ e with key:=vi,val:=va }) clock ?_ ?_ ?_
      ·simp only[Instr.mapUpdate,Sem.run_bind,run_underlying hu,Result.andThen_ok,MapKept.run_getObj_map hes,c1,c4,c5',Option.map_some,Option.getD_some,c6,c2];exact MapKept.run_setObj_map _ hes
      ·rw[hps];refine⟨by simp[hmr.1],fun i p en' hp he=> ?_⟩;have hjl:j<l2.length:=(List.getElem?_eq_some_iff.1 c7).1
       by_cases hij:j=i
       ·subst hij;rw[List.getElem?_set_self hjl]at hp;simp only[cG,Array.getElem?_modify,if_true,c5',Option.map_some,Option.some.injEq]at he
        cases hp;subst he;exact⟨hfv,hfz⟩
       ·rw[dw hij]at hp;simp only[cG,Array.getElem?_modify,if_neg hij]at he;exact hmr.2 i p en' hp (by simpa using he)
      ·rw[hps,List.map_set];have:(l2.map (·.1)).set j y=l2.map (·.1):=by
        apply List.ext_getElem?;intro i
        by_cases hij:j=i
        ·subst hij;have hjl:j<(l2.map (·.1)).length:=by simpa using(List.getElem?_eq_some_iff.1 c7).1
         rw[List.getElem?_set_self hjl,List.getElem?_map,c7];rfl
        ·rw[dw hij]
       rw[this];exact hnd
    ·exact(ai e).elim
   ·exact(ai e).elim
  ·exact(ai e).elim
 ·exact(ai e).elim
end
end Go.Am
