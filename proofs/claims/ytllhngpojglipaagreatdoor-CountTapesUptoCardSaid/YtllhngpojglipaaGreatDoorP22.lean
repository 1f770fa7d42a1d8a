import Derived.Test.YtllhngpojglipaaGreatDoorP11
import Derived.Test.YtllhngpojglipaaGreatDoorA9
import Derived.Test.YtllhngpojglipaaGreatDoorP20
import Derived.Test.YtllhngpojglipaaGreatDoorP21
set_option linter.unusedVariables false
set_option linter.unusedSimpArgs false
open Bool renaming not_true→ba
open Int renaming pow_pos→fp,pow_succ→dP
open Nat renaming le_refl→aA,le_trans→eA,mul_le_mul→bK
open Option renaming bind_some→aa
namespace Go.Am.Pu
open Go Go.Am
abbrev M8:Ty:=.sl (.int .i8)
abbrev arV:Ty:=.sl (.int .i64)
abbrev TN:Ty:=.int .i64
abbrev ak6:Ty:=.pair M8 (.pair M8 (.pair M8 (.pair M8 (.pair M8 (.pair M8 (.pair TN (.pair TN (.pair TN (.pair TN (.pair TN (.pair M8 (.pair M8 (.pair M8 (.pair TN (.pair TN TN)))))))))))))))
theorem auo{α:Type}{f:α→Nat}(h:∀x,1≤f x):∀l:List α,l.length≤(l.map f).sum
 |[]=>by simp
 |x::l=>by
  have:=auo h l;have:=h x;simp;omega
theorem aqI{α:Type}{f:α→Nat}:∀{l:List α} {x:α},x∈l→f x≤(l.map f).sum
 |y::l,x,h=>by
  rcases List.mem_cons.1 h with rfl |h
  ·simp
  ·have:=aqI (f:=f) h;simp;omega
theorem sM{e:Ty}(he:∀x:e.den,1≤bC e x)(l:List e.den):l.length+1≤bC (.sl e) l:=by
 have:=auo (f:=bC e) he l;show _≤1+(l.map (bC e)).sum;omega
theorem anS{e:Ty}{l:List e.den}{x:e.den}(h:x∈l):bC e x≤bC (.sl e) l:=by
 have:=aqI (f:=bC e) h;show _≤1+(l.map (bC e)).sum;omega
theorem aup(l:List Int):l.length+1≤bC M8 l:=sM (e:=.int .i8) (fun _=>aA 1) l
theorem auq(l:List Int):l.length+1≤bC arV l:=sM (e:=.int .i64) (fun _=>aA 1) l
theorem QM{l:List Int}(h:wfT M8 l):bc l:=fun x hx=>h x hx
theorem aEG{b:GI}(h:wfT ak6 b):OkB b:=⟨QM h.1,QM h.2.1,QM h.2.2.1,QM h.2.2.2.1,QM h.2.2.2.2.1,QM h.2.2.2.2.2.1,QM h.2.2.2.2.2.2.2.2.2.2.2.1,QM h.2.2.2.2.2.2.2.2.2.2.2.2.1,QM h.2.2.2.2.2.2.2.2.2.2.2.2.2.1⟩
theorem azj{a0 a1 a2 a3 a4 a5 a6 a7 a8 a9 a10 a11 a12 a13 a14 a15 a16:Nat}(h:a0+(a1+(a2+(a3+(a4+(a5+(a6+(a7+(a8+(a9+(a10+(a11+(a12+(a13+(a14+(a15+(a16))))))))))))))))≤1048576):a0≤1048576∧a1≤1048576∧a2≤1048576∧a3≤1048576∧a4≤1048576∧a5≤1048576∧a11≤1048576∧a12≤1048576∧a13≤1048576:=by omega
theorem ak7{l:List Int}(h:bC M8 l≤1048576):l.length≤1000000000:=by
 have:=aup l;omega
theorem aBZ{b:GI}(h:bC ak6 b≤1048576):atC b:=by
 obtain⟨h1,h2,h3,h4,h5,h6,h7,h8,h9⟩:=azj (a0:=bC M8 b.1) (a1:=bC M8 b.2.1) (a2:=bC M8 b.2.2.1) (a3:=bC M8 b.2.2.2.1) (a4:=bC M8 b.2.2.2.2.1) (a5:=bC M8 b.2.2.2.2.2.1) (a6:=bC TN b.2.2.2.2.2.2.1) (a7:=bC TN b.2.2.2.2.2.2.2.1) (a8:=bC TN b.2.2.2.2.2.2.2.2.1) (a9:=bC TN b.2.2.2.2.2.2.2.2.2.1) (a10:=bC TN b.2.2.2.2.2.2.2.2.2.2.1) (a11:=bC M8 b.2.2.2.2.2.2.2.2.2.2.2.1) (a12:=bC M8 b.2.2.2.2.2.2.2.2.2.2.2.2.1) (a13:=bC M8 b.2.2.2.2.2.2.2.2.2.2.2.2.2.1) (a14:=bC TN b.2.2.2.2.2.2.2.2.2.2.2.2.2.2.1) (a15:=bC TN b.2.2.2.2.2.2.2.2.2.2.2.2.2.2.2.1) (a16:=bC TN b.2.2.2.2.2.2.2.2.2.2.2.2.2.2.2.2) h;exact⟨ak7 h1,ak7 h2,ak7 h3,ak7 h4,ak7 h5,ak7 h6,ak7 h7,ak7 h8,ak7 h9⟩
abbrev aB0:Ty:=.pair TN (.pair TN (.pair TN (.pair TN (.pair TN TN))))
abbrev aEK:Ty:=.pair (.sl .str) (.sl (.pair TN (.pair TN TN)))
abbrev apO:Ty:=.pair aB0 (.pair aEK (.pair M8 (.pair TN (.pair M8 (.pair M8 (.pair (.sl ak6) (.pair M8 (.pair M8 (.pair M8 TN)))))))))
theorem aur{a b c d e f g h i j k l:Nat}(hh:a+((b+c)+(d+(e+(f+(g+(h+(i+(j+(k+l)))))))))≤1048576):b≤1048576∧c≤1048576∧d≤1048576∧f≤1048576∧g≤1048576∧h≤1048576∧i≤1048576∧j≤1048576∧k≤1048576:=by omega
theorem aiR{l:List Int}(h:bC M8 l≤1048576):l.length≤1048576:=by
 have:=aup l;omega
theorem aB1{m:Mod}(h:bC apO m≤1048576):ahh m:=by
 obtain⟨h1,h2,h3,h4,h5,h6,h7,h8,h9⟩:=aur (a:=bC aB0 m.1) (b:=bC (.sl .str) m.2.1.1) (c:=bC (.sl (.pair TN (.pair TN TN))) m.2.1.2) (d:=bC M8 m.2.2.1) (e:=bC TN m.2.2.2.1) (f:=bC M8 m.2.2.2.2.1) (g:=bC M8 m.2.2.2.2.2.1) (h:=bC (.sl ak6) m.2.2.2.2.2.2.1) (i:=bC M8 m.2.2.2.2.2.2.2.1) (j:=bC M8 m.2.2.2.2.2.2.2.2.1) (k:=bC M8 m.2.2.2.2.2.2.2.2.2.1) (l:=bC TN m.2.2.2.2.2.2.2.2.2.2) h;have p1:m.2.1.1.length+1≤bC (.sl .str) m.2.1.1:=sM (e:=.str) (fun x=>Nat.le_add_left 1 _) m.2.1.1;have p2:m.2.1.2.length+1≤bC (.sl (.pair TN (.pair TN TN))) m.2.1.2:=sM (e:=.pair TN (.pair TN TN)) (fun x=>Nat.le_add_right 1 _) m.2.1.2;have p3:m.2.2.2.2.2.2.1.length+1≤bC (.sl ak6) m.2.2.2.2.2.2.1:=sM (e:=ak6) (fun x=>eA (eA (Nat.le_add_left 1 _) (aup x.1)) (Nat.le_add_right _ _)) m.2.2.2.2.2.2.1;refine⟨by omega,fun x hx=> ?_,by omega,aiR h3,aiR h4,aiR h5,by omega,fun b hb=> ?_,aiR h7,aiR h8,aiR h9⟩
 ·have:x.length+1≤bC (.sl .str) m.2.1.1:=anS (e:=.str) (l:=m.2.1.1) (x:=x) hx;omega
 ·have:bC ak6 b≤bC (.sl ak6) m.2.2.2.2.2.2.1:=anS (e:=ak6) (l:=m.2.2.2.2.2.2.1) (x:=b) hb;exact aBZ (eA this h6)
structure OkM (m:Mod):Prop where
 len:ahh m
 e:bc m.2.2.1
 cos:bc m.2.2.2.2.1
 sin:bc m.2.2.2.2.2.1
 b:∀b∈m.2.2.2.2.2.2.1,OkB b
 be:bc m.2.2.2.2.2.2.2.1
 g:bc m.2.2.2.2.2.2.2.2.1
 u:bc m.2.2.2.2.2.2.2.2.2.1
theorem aEL{m:Mod}(h:wfT apO m)(hb:bC apO m≤1048576):OkM m:=
 ⟨aB1 hb,QM h.2.2.1,QM h.2.2.2.2.1,QM h.2.2.2.2.2.1,fun b hbm=>aEG (h.2.2.2.2.2.2.1 b hbm),QM h.2.2.2.2.2.2.2.1,QM h.2.2.2.2.2.2.2.2.1,QM h.2.2.2.2.2.2.2.2.2.1⟩
abbrev aEM:Ty:=.pair TN (.pair TN (.pair TN (.pair TN (.pair TN (.sl (.pair TN TN))))))
abbrev awM:Ty:=.pair TN (.pair (.int .u8) (.pair (.int .u8) TN))
abbrev TGd:Ty:=.pair (.sl .bool) (.sl awM)
abbrev TRq:Ty:=.pair arV (.pair aEM (.pair TN (.pair TN (.pair TN (.pair TGd .str)))))
theorem awN{a b c d e f g h i j k l m:Nat}(hh:a+((b+(c+(d+(e+(f+g)))))+(h+(i+(j+((k+l)+m)))))≤1048576):a≤1048576∧g≤1048576∧k≤1048576∧l≤1048576:=by omega
theorem axo{r:Rq}(h:bC TRq r≤1048576):OkR r:=by
 obtain⟨h1,h2,h3,h4⟩:=awN (a:=bC arV r.1) (b:=bC TN r.2.1.1) (c:=bC TN r.2.1.2.1) (d:=bC TN r.2.1.2.2.1) (e:=bC TN r.2.1.2.2.2.1) (f:=bC TN r.2.1.2.2.2.2.1) (g:=bC (.sl (.pair TN TN)) r.2.1.2.2.2.2.2) (h:=bC TN r.2.2.1) (i:=bC TN r.2.2.2.1) (j:=bC TN r.2.2.2.2.1) (k:=bC (.sl .bool) r.2.2.2.2.2.1.1) (l:=bC (.sl awM) r.2.2.2.2.2.1.2) (m:=bC .str r.2.2.2.2.2.2) h;have p1:=auq r.1;have p2:r.2.1.2.2.2.2.2.length+1≤bC (.sl (.pair TN TN)) r.2.1.2.2.2.2.2:=sM (e:=.pair TN TN) (fun x=>Nat.le_add_right 1 _) r.2.1.2.2.2.2.2;have p3:r.2.2.2.2.2.1.1.length+1≤bC (.sl .bool) r.2.2.2.2.2.1.1:=sM (e:=.bool) (fun x=>aA 1) r.2.2.2.2.2.1.1;have p4:r.2.2.2.2.2.1.2.length+1≤bC (.sl awM) r.2.2.2.2.2.1.2:=sM (e:=awM) (fun x=>Nat.le_add_right 1 _) r.2.2.2.2.2.1.2;exact⟨by omega,by omega,eA (Nat.le_succ _) (eA p3 h3),eA (Nat.le_succ _) (eA p4 h4)⟩
theorem aB2{m:Mod}(h:wfT apO m)(hb:bC apO m≤1048576):Xm m:=by
 have o:=aEL h hb;exact⟨⟨o.len,o.e,o.b⟩,o.cos,o.sin,o.be,o.g,o.u⟩
theorem wh{n:Nat}{m:Mod}{r:Rq}{said:List Int}(ha:j6 n ()=some true)(hm:Xm m)(hr:OkR r)(hs:said.length≤1048576)(hn:2000000000≤n):eO n (m,r,said)=some true:=by
 rw[EM,ha,aa,ba,cg,Gs hm.o.len hn,aa,afG hr hn,aa,Ul,aa];have hend:(oM n (r,said)).bind (fun v9=>(oX n (r,said)).bind fun v10=>av (v9==v10) ((uk n (said,said)).bind fun v11=>av v11 ((sj n m).bind fun FZ=>(un n (m,FZ)).bind fun EL=>some EL) (some false)) (some false))=some true:=by
  rw[ME (by omega) hn,aa,YT (by omega) hn,aa,beq_self_eq_true,j9,abx (by omega) hn,aa,j9,Gs hm.o.len hn,aa,abw hm.o.len hn,aa]
 rcases prods (n:=n) (said:=said) hm hr hs hn with⟨-,e,-,h1,h2⟩|⟨hp,z,z',h1,h2,h3,h4,h5,h6,h7⟩
 ·rw[h1,aa,h2,aa];simp only;rw[UO Can.nil Can.nil rfl (by simp) (by simp) hn,aa,j9,←Gs hm.o.len hn,hend];rfl
 ·have hl:=hp.len;have mh:=anR hm hr hp hn;have hbr:=afE hp.w.p.bits;have hmul:r.2.1.2.2.2.2.1.toNat*said.length≤32*512:=bK (by omega) hl;have hzl:=DY h3 (k:=r.2.1.2.2.2.2.1.toNat*said.length+1) (by rw[h5,dP];have:(0:Int)<2^(r.2.1.2.2.2.2.1.toNat*said.length):=fp (by decide);omega);rw[h1,aa,h2,aa];simp only;rw[UO h3 h4 (h5.trans h6.symm) (by omega) (by omega) hn,aa,j9,←Gs hm.o.len hn,hend];rfl
theorem E0{n:Nat}{m:Mod}{r:Rq}{said:List Int}{y:Int}(ha:j6 n ()=some true)(hm:Xm m)(hr:OkR r)(hs:said.length≤1048576)(hn:2000000000≤n):gv n (m,r,said,y)=some true:=by
 rw[JM,ha,aa,ba,cg];rcases aBW (n:=n) (said:=said) (y:=y) hm hr hs hn with⟨-,e,-,h1,h2⟩|⟨hp,z,z',h1,h2,h3,h4,h5,h6,h7,h8⟩
 ·rw[h1,aa,Gs hm.o.len hn,aa,afG hr hn,aa,h2,aa];simp only;rw[UO Can.nil Can.nil rfl (by simp) (by simp) hn];rfl
 ·rw[h1,aa,Gs hm.o.len hn,aa,afG hr hn,aa,h2,aa];simp only;rw[UO h3 h4 (h5.trans h6.symm) (by omega) (by omega) hn];rfl
theorem axp{l:List Int}(h:bC arV l≤1048576):l.length≤1048576:=by
 have:=auq l;omega
theorem NA(x:(lO (cF 0).ps).den)(h:wfT (lO (cF 0).ps) x)(b:bC (lO (cF 0).ps) x≤1048576):∃n,eO n x=some true:=by
 obtain⟨m,r,s⟩:=x;have b:bC apO m+(bC TRq r+bC arV s)≤1048576:=b;exact⟨2000000000,wh YU (aB2 h.1 (by omega)) (axo (by omega)) (axp (by omega)) (aA _)⟩
theorem Xo(x:(lO (dB 0).ps).den)(h:wfT (lO (dB 0).ps) x)(b:bC (lO (dB 0).ps) x≤1048576):∃n,gv n x=some true:=by
 obtain⟨m,r,s,y⟩:=x;have b:bC apO m+(bC TRq r+(bC arV s+bC TN y))≤1048576:=b;exact⟨2000000000,E0 YU (aB2 h.1 (by omega)) (axo (by omega)) (axp (by omega)) (aA _)⟩
end Go.Am.Pu
