import Derived.Test.YtpdgokkbljiccaaGreatD
import Derived.Test.YtpdgokkbljiccaaGreatE2
import Derived.KernelRfl
import Derived.Test.YtpdgokkbljiccaaGreatS
import Derived.Test.YtpdgokkbljiccaaGreatP7
import Derived.Test.YtpdgokkbljiccaaGreatP5
import Derived.Test.YtpdgokkbljiccaaGreatP6
set_option linter.unusedVariables false
set_option linter.unusedSimpArgs false
open Bool renaming not_true→cD
open Go.IntKind renaming wrap→ae
open List renaming getElem_mem→ap,length→ac
open Nat renaming le_refl→av
open Option renaming bind_some→aa
namespace Go.Am
open Go.Proofs.Tryz
noncomputable section
variable (n:Nat)
open Go Go.Proofs
def yV:Cx:=aF [(71,uV n),(72,p0 n)] [] [] [] [] 18 n
def p5(x:D4×iA):Option (aq×Int):=ao (yV n) f25 [iV] [bG,am] x
def yW:Entry:=⟨[iV],[bG,am],p5 n⟩
def zo:NS:=⟨[(5,.data bG),(10,.data bG),(12,.data Y45),(13,aJ)],[],49⟩
def nR:LS:=⟨zo,[(.ret,⟨[(4,YE)],[],49⟩),(.exit 0,⟨[(5,.data bG)],[],49⟩)]⟩
def zq:NS:=⟨[(5,.data bG),(10,.data bG),(12,.data Y45),(13,aJ),(14,aJ),(15,aJ)],[],60⟩
def nS:LS:=⟨zq,[(.ret,⟨[(4,YE)],[],60⟩),(.exit 2,⟨[(5,.data bG),(10,.data bG),(12,.data Y45),(13,aJ)],[],60⟩)]⟩
def zr:NS:=⟨[(5,.data bG),(10,.data bG),(12,.data Y45),(13,aJ),(14,aJ),(15,aJ),(16,aJ)],[],68⟩
def nT:LS:=⟨zr,[(.ret,⟨[(4,YE)],[],68⟩),(.exit 4,⟨[(5,.data bG),(10,.data bG),(12,.data Y45),(13,aJ),(14,aJ),(15,aJ)],[],68⟩)]⟩
def zs:NS:=⟨[(5,.data bG),(17,aJ)],[],50⟩
def nU:LS:=⟨zs,[(.ret,⟨[(4,YE)],[],50⟩),(.exit 6,⟨[],[],50⟩)]⟩
def fa:Cx:=aF [(20,rP n),(22,DS n),(21,r4 n),(23,vm n),(24,vo n),(25,yW n),(26,xC n)] [] [(4,[(44,.bool)]),(20,[(117,.bool)]),(25,[(135,.bool)])] [(11,nR),(15,nS),(18,nT),(23,nU)] [] 136 n
def dY(x:(D4×iA)×aq):Option (Bool):=ao (fa n) f5 [iV,bG] [.bool] x
def cv:Entry:=⟨[iV,bG],[.bool],dY n⟩
def db(k:Nat)(v:aq×aq×(List sW)×Int×Unit):Option ((Bool×Unit)⊕(aq×Unit)):=az (fa n) f5 nR 11 k v
def dK(k:Nat)(v:aq×aq×(List sW)×Int×Int×Int×Unit):Option ((Bool×Unit)⊕(aq×aq×(List sW)×Int×Unit)):=az (fa n) f5 nS 15 k v
def dL(k:Nat)(v:aq×aq×(List sW)×Int×Int×Int×Int×Unit):Option ((Bool×Unit)⊕(aq×aq×(List sW)×Int×Int×Int×Unit)):=az (fa n) f5 nT 18 k v
def dM(k:Nat)(v:aq×Int×Unit):Option ((Bool×Unit)⊕Unit):=az (fa n) f5 nU 23 k v
end
section
variable (n k:Nat)
set_option maxRecDepth 100000
set_option maxHeartbeats 4000000
theorem Ee(a0:D4×iA):p5 n a0=(kY n a0).bind fun v1=>aw (v1.2.2 !=0) (some ([],v1.2.2)) ((jv n a0).bind fun v2=>some (v2,0)):=by kernel_rfl
theorem zx(a0:D4×iA)(a1:aq):dY n (a0,a1)=(gA n (a0,a1)).bind fun v1=>(rQ n a0).bind fun v2=>(gD n (v2,a1)).bind fun v3=>((fZ n ()).bind fun v5=>aw (!v5) (some true) (aw (v1.2 !=v3.2) (some true) ((ll n (v1.1,v3.1)).bind fun v6=>some (!v6)))).bind fun v4=>aw v4 (some false) (aw (v3.2 !=0) (some true) ((p5 n v2).bind fun v7=>(mP n (v2,a1)).bind fun v8=>(db n n (v1.1,v7.1,v8,0,())).bind fun v9=>ea v9 (fun v10=>some v10.1) (fun v11=>(dM n n (v11.1,0,())).bind fun v12=>ea v12 (fun kw=>some kw.1) (fun _=>some true)))):=by kernel_rfl
theorem ln(s5 i1:aq)(pQ:List sW)(sb:Int):db n (k+1) (s5,i1,pQ,sb,())=aw (decide (sb<(ac pQ:Int))) ((idx i1 (ae .i64 (2*sb))).bind fun v1=>(dK n n (s5,i1,pQ,sb,v1,0,())).bind fun v2=>ea v2 (fun v3=>some (.inl v3)) (fun v4=>db n k (v4.1,v4.2.1,v4.2.2.1,(ae .i64 (v4.2.2.2.1+1)),()))) (some (.inr (s5,()))):=by kernel_rfl
theorem lp(s5 i1:aq)(pQ:List sW)(sb Pv D7:Int):dK n (k+1) (s5,i1,pQ,sb,Pv,D7,())=(idx pQ sb).bind fun v1=>aw (decide (D7<(ac v1:Int))) ((dL n n (s5,i1,pQ,sb,Pv,D7,0,())).bind fun v2=>ea v2 (fun v3=>some (.inl v3)) (fun v4=>dK n k (v4.1,v4.2.1,v4.2.2.1,v4.2.2.2.1,v4.2.2.2.2.1,(ae .i64 (v4.2.2.2.2.2.1+1)),()))) (some (.inr (s5,i1,pQ,sb,()))):=by kernel_rfl
theorem lq(s5 i1:aq)(pQ:List sW)(sb Pv:Int)(D7 s16:Int):dL n (k+1) (s5,i1,pQ,sb,Pv,D7,s16,())=(idx pQ sb).bind fun v1=>(idx v1 D7).bind fun v2=>aw (decide (s16<(ac v2:Int))) (((idx pQ sb).bind fun v4=>(idx v4 D7).bind fun v5=>(idx v5 s16).bind fun v6=>aw (decide (v6>Pv)) (some true) ((idx pQ sb).bind fun v7=>(idx v7 D7).bind fun v8=>(idx v8 s16).bind fun v9=>aw (decide (v9<(ae .i64 (0 -Pv)))) (some true) (some (decide (Pv>268435456))))).bind fun v3=>aw v3 (some (.inl (false,()))) (dL n k (s5,i1,pQ,sb,Pv,D7,(ae .i64 (s16+1)),()))) (some (.inr (s5,i1,pQ,sb,Pv,D7,()))):=by kernel_rfl
theorem lr(s5:aq)(KY:Int):dM n (k+1) (s5,KY,())=aw (decide (KY<(ac s5:Int))) (((idx s5 KY).bind fun v2=>aw (decide (v2>2097152)) (some true) ((idx s5 KY).bind fun v3=>some (decide (v3<(-2097152))))).bind fun v1=>aw v1 (some (.inl (false,()))) (dM n k (s5,(ae .i64 (KY+1)),()))) (some (.inr ())):=by kernel_rfl
end
section
variable (n k:Nat)
theorem LJ:ar prog 25 (yW n):=bn (X:=yV n) (cc (Dn n) (cc (zc n) c0)) func25
theorem Eh:ar prog 5 (cv n):=bn (X:=fa n) (cc (Bf n) (cc (N1 n) (cc (Bk n) (cc (Dq n) (cc (Dr n) (cc (LJ n) (cc (GH n) c0))))))) func5
end
end Go.Am
namespace Go.Am.Pu
open Go Go.Am
theorem OM{n:Nat}{m:Mod}(h:WN m){l:List Int}(q:l.length≤1048576)(p:ii n):∃s e,gA n (m,l)=some (s,e)∧gD n (m,l)=some (s,e)∧s.length≤512∧
  (e=0→∃D H half C Hd V L E,zB m D H half C Hd V L E∧Eu m∧P1 m l∧l.length≠0∧l.length≤C∧s=Bx m l):=by
 by_cases g:Eu m
 ·obtain⟨D,H,half,C,Hd,V,L,E,d⟩:=ace h g;obtain⟨i,j⟩:=SN d g q p;refine⟨_,_,i,j,?_,fun a=> ?_⟩
  ·split
   ·rename_i a;have b:¬ (l.length=0∨C<l.length):=fun c=>by unfold Hf at a;rw[if_pos c]at a;cases a
    have o:∀t∈l,0≤t∧t<(V:Int):=by
     by_cases c:∀t∈l,0≤t∧t<(V:Int)
     ·exact c
     ·unfold Hf at a;rw[if_neg b,if_neg c]at a;cases a
    have:=(Q9 d (fun t k=>by rw[d.r.ok.v];exact o t k) (by omega) (by omega)).1;have:=d.r.ok.v2;omega
   ·simp
  ·have b:¬ (l.length=0∨C<l.length):=fun c=>by unfold Hf at a;rw[if_pos c]at a;cases a
   have o:∀t∈l,0≤t∧t<(V:Int):=by
    by_cases c:∀t∈l,0≤t∧t<(V:Int)
    ·exact c
    ·unfold Hf at a;rw[if_neg b,if_neg c]at a;cases a
   exact⟨D,H,half,C,Hd,V,L,E,d,g,fun t k=>by rw[d.r.ok.v];exact o t k,by omega,by omega,by rw[if_pos a]⟩
 ·obtain⟨i,j⟩:=Jb h g (l:=l) p;exact⟨_,_,i,j,by simp,fun a=>by cases a⟩
theorem WR{n:Nat}{m:Mod}{D H half C Hd V L E:Nat}(h:zB m D H half C Hd V L E){l s:List Int}(z:P1 m l)(p:l.length≤C)(N:ii n):
  db n n (s,ig m,cM (lw m l) (L+1),0,())=some (.inr (s,())):=by
 have a:=h.rows z p;have B:=h.r.ok.l8;have y:=h.r.ok.kp.cm;have g1:=h.r.ok.kp.dm;have F:(ig m).length=2*L+1:=by
  have w:=(h.r.rch (i:=m.2.2.2.2.2.2.1.length) (av _)).len;rw[←h.r.eq,h.r.ok.bs]at w;exact w
 have c:=aQ (L:=fun k j (_:Unit)=>db n k (s,ig m,cM (lw m l) (L+1),j,())) (len:=L+1) (r:=.inr (s,())) (fun _=>()) (by
  intro k i t;obtain⟨J,x,K,M,-⟩:=a i (by omega);show db n (k+1) _=_;rw[ln,ag,if_pos (by rw[dU,xZ];omega),bu,show(2:Int)*(i:Int)=((2*i:Nat):Int)by omega,Bu (show 2*i<(ig m).length by omega) 0];simp only[aa];have d:=aQ (L:=fun k j (_:Unit)=>dK n k (s,ig m,cM (lw m l) (L+1),(i:Int),(ig m).getD (2*i) 0,j,())) (len:=(lw m l i).length) (r:=.inr (s,ig m,cM (lw m l) (L+1),(i:Int),())) (fun _=>()) (by
   intro k j o;obtain⟨P,I⟩:=x _ (ap o);show dK n (k+1) _=_;have b:idx (cM (lw m l) (L+1)) (i:Int)=some (lw m l i):=by rw[Bu (show i<(cM (lw m l) (L+1)).length by simp;omega) [],kn _ t]
   rw[lp,b];simp only[aa];rw[xY];have g:=aQ (L:=fun k q (_:Unit)=>dL n k (s,ig m,cM (lw m l) (L+1),(i:Int),(ig m).getD (2*i) 0,(j:Int),q,())) (len:=(lw m l i)[j].length) (r:=.inr (s,ig m,cM (lw m l) (L+1),(i:Int),(ig m).getD (2*i) 0,(j:Int),())) (fun _=>()) (by
    intro k q u;have O:=I _ (ap u);show dL n (k+1) _=_;rw[lq,b];simp only[aa];rw[cO o];simp only[aa];rw[xY,cO u];simp only[aa];rw[Sx,ag,if_neg (by rw[dU,bu];omega)];simp only[aa];rw[Sx,bu]) (by
    intro k;show dL n (k+1) _=_;rw[lq,b];simp only[aa];rw[cO o];simp only[aa];rw[ag,if_neg (by simp)]) n (by omega)
   rw[g];simp only[aa,ea];rw[bu]) (by
   intro k;have b:idx (cM (lw m l) (L+1)) (i:Int)=some (lw m l i):=by rw[Bu (show i<(cM (lw m l) (L+1)).length by simp;omega) [],kn _ t]
   show dK n (k+1) _=_;rw[lp,b];simp only[aa];rw[ag,if_neg (by simp)]) n (by omega)
  rw[d];simp only[aa,ea];rw[bu]) (by
  intro k;show db n (k+1) _=_;rw[ln,ag,if_neg (by simp)]) n (by omega)
 exact c
theorem vD{n:Nat}{m:Mod}{l:List Int}(x:fZ n ()=some true)(hm:WN m)(y:l.length≤1048576)(b:ii n):dY n (m,l)=some true:=by
 obtain⟨s,e,t,u,K,w⟩:=OM hm y b;rw[zx,t,aa,US hm.o.len b,aa,u,aa,x,aa,cD,jT];simp only[bne_self_eq_false];rw[jT,OL (show s.length≤1000000000 by omega) b,aa,cD,aa,jT]
 by_cases p:e=0
 ·subst p;rw[show((0:Int)!=0)=false from rfl,jT];obtain⟨D,H,i,C,J,V,L,E,c,z,g,h,a,rfl⟩:=w rfl;obtain⟨r,F,I⟩:=J3 hm.o.len b;rw[Ee,F,aa,show(r.2.2 !=0)=false by simp[I.2 z.1],jT,Du c.r b,aa,aa,OJ c g a b,aa,WR c g a b,aa];simp only[ea];obtain⟨N,B⟩:=Q9 c g h a;have M:=c.r.ok.v2;have d:=aQ (L:=fun k j (_:Unit)=>dM n k (Bx m l,j,())) (len:=(Bx m l).length) (r:=.inr ()) (fun _=>()) (by
   intro k j q;have:=B _ (ap q);show dM n (k+1) _=_;rw[lr,xY,cO q];simp only[aa];rw[Sx];simp only[aa];rw[Sx,bu]) (by
   intro k;show dM n (k+1) _=_;rw[lr,ag,if_neg (by simp)]) n (by omega)
  rw[d];rfl
 ·rw[show(e !=0)=true by simpa using p,Q7]
theorem Jc(x:(g6 (cv 0).ps).den)(h:OW (g6 (cv 0).ps) x)(b:bB (g6 (cv 0).ps) x≤1048576):∃n,dY n x=some true:=by
 obtain⟨m,l⟩:=x;have b:bB WO m+bB acg l≤1048576:=b;exact⟨2000000000,vD J4 (agE h.1 (by omega)) (acH (by omega)) (av _)⟩
end Go.Am.Pu
