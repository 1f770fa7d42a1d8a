import Derived.Test.YtpdgokkbljiccaaGreatD
import Derived.Test.YtpdgokkbljiccaaGreatT
import Derived.Test.YtpdgokkbljiccaaGreatTO
set_option linter.unusedVariables false
set_option linter.unusedSimpArgs false
namespace Go.Am
set_option maxHeartbeats 4000000
open Go.Proofs.Tryz
section
variable (n k:Nat)
open Go Go.Proofs
theorem iJ:aw prog 181 (fN n):=bQ (X:=lI n) c0 func181
theorem pt:aw prog 121 (kt n):=bQ (X:=oB n) (cc (iJ n) c0) func121
theorem Aw:aw prog 218 (qs n):=bQ (X:=qr n) c0 func218
theorem x7:aw prog 182 (oD n):=bQ (X:=oC n) (cc (Aw n) c0) func182
theorem x8:aw prog 122 (oF n):=bQ (X:=oE n) (cc (x7 n) c0) func122
theorem Ax:aw prog 183 (qv n):=bQ (X:=qu n) (cc (pt n) c0) func183
theorem rM:aw prog 219 (j7 n):=bQ (X:=j6 n) c0 func219
theorem sO:aw prog 220 (kR n):=bQ (X:=kQ n) (cc (iJ n) c0) func220
theorem eW:aw prog 190 (dc n):=bQ (X:=db n) (cc (sO n) c0) func190
theorem eA:aw prog 134 (cN n):=bQ (X:=cM n) (cc (eW n) c0) func134
theorem nI:aw prog 185 (ji n):=bQ (X:=mL n) (cc (eA n) c0) func185
theorem x9:aw prog 184 (oH n):=bQ (X:=oG n) (cc (rM n) (cc (nI n) c0)) func184
theorem ya:aw prog 123 (oJ n):=bQ (X:=oI n) (cc (Ax n) (cc (iJ n) (cc (x9 n) (cc (nI n) c0)))) func123
theorem lA:aw prog 206 (qy n):=bQ (X:=qx n) c0 func206
theorem Cp:aw Go.Proofs.Tryz.prog 221 (ti n):=Go.Proofs.Tryz.zY (lA n)
theorem kF:aw prog 224 (g7 n):=bQ (X:=oK n) c0 func224
end
section
variable (n k:Nat)
theorem Ay:aw prog 194 (qA n):=bQ (X:=qz n) (cc (kF n) c0) func194
theorem eL:aw prog 138 (dS n):=bQ (X:=oL n) (cc (Ay n) c0) func138
theorem Az:aw prog 186 (qC n):=bQ (X:=qB n) (cc (Cp n) (cc (eL n) c0)) func186
theorem uH:aw prog 124 (lK n):=bQ (X:=lJ n) (cc (Az n) c0) func124
theorem yb:aw prog 61 (oN n):=bQ (X:=oM n) (cc (pt n) (cc (x8 n) (cc (ya n) (cc (uH n) c0)))) func61
theorem xe:aw prog 62 (mN n):=bQ (X:=mM n) c0 func62
theorem rN:aw prog 63 (j9 n):=bQ (X:=j8 n) c0 func63
theorem EV:aw prog 191 (zd n):=fb (X:=zc n) (fn:=f191) mixed ⟨cX,cc (lA n) (c0),oc D2 (o0),s0,v0⟩ func191 (by kernel_rfl) (by kernel_rfl) (by kernel_rfl)
theorem nJ:aw prog 223 (jj n):=bQ (X:=mO n) c0 func223
theorem Cq:aw prog 192 (tm n):=bQ (X:=tj n) (cc (nJ n) c0) func192
theorem nK:aw prog 106 (jk n):=bQ (X:=mP n) c0 func106
theorem AA:aw prog 193 (qJ n):=bQ (X:=qI n) c0 func193
theorem Cr:aw prog 137 (tp n):=bQ (X:=tn n) (cc (AA n) c0) func137
theorem yc:aw prog 195 (oP n):=bQ (X:=oO n) c0 func195
end
section
variable (n k:Nat)
theorem gH:aw prog 139 (fc n):=bQ (X:=mQ n) (cc (yc n) c0) func139
theorem lC:aw prog 84 (jl n):=bQ (X:=wy n) (cc (Cr n) (cc (eL n) (cc (gH n) c0))) func84
theorem zl:aw prog 208 (zg n):=bQ (X:=ze n) c0 func208
theorem ir:aw Go.Proofs.Tryz.prog 163 (fW n):=Go.Proofs.Tryz.zW (lA n) (zl n)
theorem ma:aw prog 171 (iC n):=bQ (X:=lL n) c0 func171
theorem kn:aw prog 168 (ig n):=bQ (X:=tq n) (cc (ma n) (cc (eL n) c0)) func168
theorem rO:aw prog 164 (ls n):=bQ (X:=qO n) (cc (kn n) (cc (gH n) c0)) func164
theorem mb:aw prog 107 (iD n):=bQ (X:=lM n) (cc (ir n) (cc (rO n) c0)) func107
theorem yd:aw prog 166 (oR n):=bQ (X:=oQ n) c0 func166
theorem ye:aw prog 209 (oT n):=bQ (X:=oS n) (cc (eL n) (cc (gH n) c0)) func209
theorem jD:aw prog 165 (fg n):=bQ (X:=fe n) (cc (yd n) (cc (ye n) c0)) func165
theorem tM:aw prog 108 (mR n):=bQ (X:=tr n) (cc (jD n) c0) func108
theorem AB:aw prog 56 (qQ n):=bQ (X:=qP n) (cc (nK n) (cc (lC n) (cc (mb n) (cc (tM n) c0)))) func56
theorem lD:aw prog 210 (i3 n):=bQ (X:=qR n) c0 func210
theorem uI:aw prog 211 (lO n):=bQ (X:=lN n) c0 func211
theorem EW:aw prog 243 (zj n):=bQ (X:=zh n) (cc (nJ n) (cc (zl n) c0)) func243
end
section
variable (n k:Nat)
theorem uJ:aw prog 233 (lQ n):=bQ (X:=lP n) (cc (lD n) (cc (EW n) (cc (eL n) c0))) func233
theorem pO:aw prog 244 (jo n):=bQ (X:=jn n) c0 func244
theorem AD:aw prog 245 (qX n):=bQ (X:=qW n) (cc (kF n) c0) func245
theorem xf:aw prog 234 (mW n):=bQ (X:=mV n) (cc (pO n) (cc (AD n) c0)) func234
theorem rP:aw prog 246 (lu n):=bQ (X:=qY n) c0 func246
theorem Cs:aw prog 247 (tz n):=bQ (X:=tw n) (cc (rP n) (cc (kF n) c0)) func247
theorem AE:aw prog 235 (q8 n):=bQ (X:=qZ n) (cc (rP n) (cc (Cs n) c0)) func235
theorem yf:aw prog 212 (oV n):=bQ (X:=oU n) (cc (uJ n) (cc (lD n) (cc (xf n) (cc (AE n) c0)))) func212
theorem yg:aw prog 167 (oX n):=bQ (X:=oW n) (cc (lD n) (cc (uI n) (cc (yf n) c0))) func167
theorem Ct:aw prog 172 (tB n):=bQ (X:=tA n) c0 func172
theorem zm:aw prog 111 (sE n):=bQ (X:=zk n) (cc (ma n) (cc (Ct n) c0)) func111
theorem xg:aw prog 109 (mY n):=bQ (X:=mX n) (cc (nK n) (cc (lC n) (cc (mb n) (cc (tM n) (cc (yg n) (cc (ir n) (cc (kn n) (cc (zm n) c0)))))))) func109
theorem yh:aw prog 169 (oZ n):=bQ (X:=oY n) (cc (ir n) (cc (rO n) c0)) func169
theorem AF:aw prog 213 (ra n):=bQ (X:=q9 n) (cc (eL n) (cc (gH n) c0)) func213
theorem DE:aw prog 170 (wM n):=bQ (X:=wL n) (cc (AF n) c0) func170
theorem AG:aw prog 110 (rd n):=bQ (X:=rb n) (cc (yh n) (cc (DE n) (cc (ir n) (cc (kn n) c0)))) func110
end
section
variable (n k:Nat)
theorem Cu:aw prog 57 (tD n):=bQ (X:=tC n) (cc (xg n) (cc (lC n) (cc (AG n) (cc (zm n) c0)))) func57
theorem AH:aw prog 13 (rf n):=fb (X:=re n) (fn:=f13) mixed ⟨cX,cc (AB n) (cc (Cu n) (c0)),oc JQ (o0),s0,v0⟩ func13 (by kernel_rfl) (by kernel_rfl) (by kernel_rfl)
theorem Cv:aw prog 69 (tF n):=bQ (X:=tE n) c0 func69
theorem xh:aw prog 129 (m6 n):=bQ (X:=mZ n) c0 func129
theorem pu:aw prog 127 (ku n):=bQ (X:=o2 n) (cc (xh n) c0) func127
theorem AJ:aw prog 130 (rh n):=bQ (X:=rg n) (cc (pu n) c0) func130
end
section
variable (n k:Nat)
theorem kG:aw prog 225 (g8 n):=bQ (X:=o3 n) c0 func225
theorem AK:aw prog 197 (rj n):=bQ (X:=ri n) (cc (kG n) c0) func197
theorem yi:aw prog 141 (o5 n):=bQ (X:=o4 n) (cc (AK n) c0) func141
end
section
variable (n k:Nat)
theorem yj:aw prog 198 (o7 n):=bQ (X:=o6 n) c0 func198
theorem xi:aw prog 142 (m8 n):=bQ (X:=m7 n) (cc (yj n) c0) func142
end
section
variable (n k:Nat)
theorem AL:aw prog 237 (rl n):=bQ (X:=rk n) (cc (kG n) c0) func237
end
section
variable (n k:Nat)
theorem oo:be prog 86 (iR n):=am (X:=iQ n) (fn:=f86) mixed ⟨cX,c0,o0,s0,vc HP (vc Lr (vc BX (v0)))⟩ func86 (by kernel_rfl) (by kernel_rfl) (by kernel_rfl)
theorem Gj:be prog 37 (Co n):=am (X:=Cn n) (fn:=f37) mixed ⟨cX,c0,o0,sc (oo n) (s0),vc Ls (vc D0 (v0))⟩ func37 (by kernel_rfl) (by kernel_rfl) (by kernel_rfl)
theorem yk:aw prog 157 (o9 n):=bQ (X:=o8 n) c0 func157
theorem AM:aw prog 158 (rq n):=bQ (X:=rp n) c0 func158
theorem AO:aw prog 159 (rt n):=bQ (X:=rr n) c0 func159
theorem AP:aw prog 204 (rv n):=bQ (X:=ru n) c0 func204
theorem yl:aw prog 160 (pe n):=bQ (X:=pd n) (cc (AP n) c0) func160
theorem pv(n:Nat):(k:Nat)→aw prog 231 ⟨[(.int .i64)],[(.int .i64)],kw n k⟩
 |0=>BT func231 (by kernel_rfl) (by kernel_rfl) (by kernel_rfl)
 |k+1=>bQ (X:=rx n (kw n k)) (cc (pv n k) (cc (AL n) (cc (kG n) c0))) func231
theorem AQ:aw prog 231 (ry n):=pv n n
theorem AS:aw prog 205 (rA n):=bQ (X:=rz n) (cc (AQ n) (cc (yi n) (cc (xi n) c0))) func205
theorem ym:aw prog 161 (pf n):=bQ (X:=kx n) (cc (AS n) c0) func161
theorem Cw:aw prog 162 (tH n):=bQ (X:=tG n) c0 func162
theorem xj:aw prog 105 (na n):=bQ (X:=jp n) (cc (pu n) (cc (yk n) (cc (AM n) (cc (AO n) (cc (AJ n) (cc (yl n) (cc (ym n) (cc (Cw n) c0)))))))) func105
theorem DF:aw prog 42 (wV n):=bQ (X:=lv n) (fn:=f42) (cc (Cv n) c0) func42
theorem yn:aw prog 70 (pi n):=bQ (X:=ph n) (cc (xj n) (cc (DF n) c0)) func70
end
section
variable (n k:Nat)
theorem ko:be prog 87 (gy n):=am (X:=kc n) (fn:=f87) mixed ⟨cX,c0,o0,s0,v0⟩ func87 (by kernel_rfl) (by kernel_rfl) (by kernel_rfl)
theorem k0:be prog 88 (g4 n):=am (X:=kS n) (fn:=f88) mixed ⟨cX,c0,o0,s0,v0⟩ func88 (by kernel_rfl) (by kernel_rfl) (by kernel_rfl)
theorem yp:aw prog 89 (pj n):=z2
theorem uK:be prog 90 (lU n):=am (X:=lT n) (fn:=f90) mixed ⟨cX,c0,o0,s0,vc D0 (vc Lt (v0))⟩ func90 (by kernel_rfl) (by kernel_rfl) (by kernel_rfl)
theorem Cy:be prog 38 (tJ n):=am (X:=tI n) (fn:=f38) mixed ⟨cX,cc (yb n) (cc (yp n) (cc (xe n) (c0))),o0,sc (ko n) (sc (k0 n) (sc (uK n) (s0))),vc Lu (v0)⟩ func38 (by kernel_rfl) (by kernel_rfl) (by kernel_rfl)
theorem cp:be prog 91 (b5 n):=am (X:=ii n) (fn:=f91) mixed ⟨cX,c0,o0,s0,v0⟩ func91 (by kernel_rfl) (by kernel_rfl) (by kernel_rfl)
theorem eg:be prog 147 (dB n):=am (X:=nd n) (fn:=f147) mixed ⟨cX,c0,o0,s0,vc D0 (v0)⟩ func147 (by kernel_rfl) (by kernel_rfl) (by kernel_rfl)
theorem fM:be prog 227 (dU n):=am (X:=fH n) (fn:=f227) mixed ⟨cX,c0,o0,s0,vc BX (v0)⟩ func227 (by kernel_rfl) (by kernel_rfl) (by kernel_rfl)
theorem ea:be prog 202 (dd n):=am (X:=fI n) (fn:=f202) mixed ⟨cX,c0,o0,sc (fM n) (s0),vc BX (v0)⟩ func202 (by kernel_rfl) (by kernel_rfl) (by kernel_rfl)
theorem iK:be prog 152 (fO n):=am (X:=lV n) (fn:=f152) mixed ⟨cX,c0,o0,sc (ea n) (s0),vc HP (v0)⟩ func152 (by kernel_rfl) (by kernel_rfl) (by kernel_rfl)
theorem kp:be prog 148 (gz n):=am (X:=ke n) (fn:=f148) mixed ⟨cX,c0,o0,sc (iK n) (s0),v0⟩ func148 (by kernel_rfl) (by kernel_rfl) (by kernel_rfl)
theorem fx:be prog 99 (dE n):=am (X:=fq n) (fn:=f99) mixed ⟨cX,c0,o0,s0,v0⟩ func99 (by kernel_rfl) (by kernel_rfl) (by kernel_rfl)
theorem mc:be prog 46 (iG n):=am (X:=lW n) (fn:=f46) mixed ⟨cX,c0,o0,sc (fx n) (s0),v0⟩ func46 (by kernel_rfl) (by kernel_rfl) (by kernel_rfl)
theorem md:be prog 92 (iI n):=am (X:=lX n) (fn:=f92) mixed ⟨cX,c0,o0,sc (eg n) (sc (kp n) (sc (mc n) (s0))),v0⟩ func92 (by kernel_rfl) (by kernel_rfl) (by kernel_rfl)
theorem oq:be prog 136 (iT n):=am (X:=iS n) (fn:=f136) mixed ⟨cX,cc (EV n) (cc (Cq n) (c0)),o0,s0,v0⟩ func136 (by kernel_rfl) (by kernel_rfl) (by kernel_rfl)
theorem uL:be prog 154 (lZ n):=am (X:=lY n) (fn:=f154) mixed ⟨cX,c0,o0,sc (ea n) (s0),vc HP (vc JP (v0))⟩ func154 (by kernel_rfl) (by kernel_rfl) (by kernel_rfl)
end
section
variable (n k:Nat)
theorem uM:be prog 149 (l5 n):=am (X:=l4 n) (fn:=f149) mixed ⟨cX,c0,o0,sc (eg n) (sc (uL n) (s0)),vc Lv (v0)⟩ func149 (by kernel_rfl) (by kernel_rfl) (by kernel_rfl)
theorem nL:be prog 93 (ik n):=am (X:=ij n) (fn:=f93) mixed ⟨cX,c0,o0,sc (uM n) (s0),vc Lv (v0)⟩ func93 (by kernel_rfl) (by kernel_rfl) (by kernel_rfl)
theorem eh:be prog 82 (cI n):=am (X:=cH n) (fn:=f82) mixed ⟨cX,cc (AH n) (c0),o0,sc (oq n) (sc (nL n) (s0)),v0⟩ func82 (by kernel_rfl) (by kernel_rfl) (by kernel_rfl)
theorem lE:be prog 125 (gB n):=am (X:=gA n) (fn:=f125) mixed ⟨cX,cc (lC n) (cc (ir n) (cc (kn n) (c0))),o0,s0,v0⟩ func125 (by kernel_rfl) (by kernel_rfl) (by kernel_rfl)
theorem eG:be prog 64 (cS n):=am (X:=cQ n) (fn:=f64) mixed ⟨cX,c0,o0,sc (eh n) (sc (lE n) (s0)),v0⟩ func64 (by kernel_rfl) (by kernel_rfl) (by kernel_rfl)
theorem nM:be prog 94 (im n):=am (X:=il n) (fn:=f94) mixed ⟨cX,c0,o0,sc (k0 n) (s0),v0⟩ func94 (by kernel_rfl) (by kernel_rfl) (by kernel_rfl)
theorem rQ:be prog 200 (kg n):=am (X:=kf n) (fn:=f200) mixed ⟨cX,c0,o0,s0,v0⟩ func200 (by kernel_rfl) (by kernel_rfl) (by kernel_rfl)
theorem ed:be prog 226 (cF n):=am (X:=cE n) (fn:=f226) mixed ⟨cX,c0,o0,sc (rQ n) (s0),v0⟩ func226 (by kernel_rfl) (by kernel_rfl) (by kernel_rfl)
theorem dG:be prog 199 (cz n):=am (X:=cy n) (fn:=f199) mixed ⟨cX,c0,o0,sc (ed n) (s0),v0⟩ func199 (by kernel_rfl) (by kernel_rfl) (by kernel_rfl)
theorem uN:be prog 150 (l7 n):=am (X:=l6 n) (fn:=f150) mixed ⟨cX,c0,o0,sc (dG n) (s0),vc Nx (v0)⟩ func150 (by kernel_rfl) (by kernel_rfl) (by kernel_rfl)
theorem jX:be prog 201 (ft n):=am (X:=fr n) (fn:=f201) mixed ⟨cX,c0,o0,sc (fx n) (s0),vc HP (vc BX (v0))⟩ func201 (by kernel_rfl) (by kernel_rfl) (by kernel_rfl)
theorem sP:be prog 151 (kU n):=am (X:=kT n) (fn:=f151) mixed ⟨cX,c0,o0,sc (kp n) (sc (iK n) (sc (jX n) (s0))),vc HP (vc JP (vc Lw (v0)))⟩ func151 (by kernel_rfl) (by kernel_rfl) (by kernel_rfl)
theorem rR:be prog 95 (ki n):=am (X:=kh n) (fn:=f95) mixed ⟨cX,c0,o0,sc (eg n) (sc (uN n) (sc (sP n) (sc (iK n) (s0)))),vc JP (v0)⟩ func95 (by kernel_rfl) (by kernel_rfl) (by kernel_rfl)
theorem gI:be prog 39 (ew n):=am (X:=dp n) (fn:=f39) mixed ⟨cX,cc (rN n) (c0),o0,sc (cp n) (sc (md n) (sc (eG n) (sc (ko n) (sc (nM n) (sc (rR n) (s0)))))),vc HP (v0)⟩ func39 (by kernel_rfl) (by kernel_rfl) (by kernel_rfl)
theorem gJ:be prog 47 (ey n):=am (X:=gC n) (fn:=f47) mixed ⟨cX,c0,o0,sc (cp n) (s0),v0⟩ func47 (by kernel_rfl) (by kernel_rfl) (by kernel_rfl)
theorem yq:aw prog 23 (pr n):=fb (X:=pq n) (fn:=f23) mixed ⟨cX,cc (yn n) (c0),o0,sc (Gj n) (sc (Cy n) (sc (gI n) (sc (gJ n) (s0)))),v0⟩ func23 (by kernel_rfl) (by kernel_rfl) (by kernel_rfl)
end
section
variable (n k:Nat)
theorem i6:aw prog 229 (eS n):=bQ (X:=eR n) c0 func229
theorem dh:be prog 228 (bY n):=am (X:=bW n) (fn:=f228) mixed ⟨cX,cc (i6 n) (c0),o0,s0,vc HP (v0)⟩ func228 (by kernel_rfl) (by kernel_rfl) (by kernel_rfl)
theorem ot:be prog 230 (iU n):=xy
theorem jY:be prog 203 (fw n):=am (X:=fv n) (fn:=f203) mixed ⟨cX,c0,o0,sc (fM n) (sc (dh n) (sc (ot n) (s0))),vc BX (v0)⟩ func203 (by kernel_rfl) (by kernel_rfl) (by kernel_rfl)
theorem nN:be prog 153 (jr n):=am (X:=nk n) (fn:=f153) mixed ⟨cX,c0,o0,sc (ea n) (sc (jY n) (s0)),vc HP (v0)⟩ func153 (by kernel_rfl) (by kernel_rfl) (by kernel_rfl)
end
section
variable (n k:Nat)
theorem ou:be prog 96 (iX n):=am (X:=iV n) (fn:=f96) mixed ⟨cX,c0,o0,sc (eg n) (sc (nN n) (s0)),v0⟩ func96 (by kernel_rfl) (by kernel_rfl) (by kernel_rfl)
theorem kH:be prog 40 (fL n):=am (X:=fK n) (fn:=f40) mixed ⟨cX,c0,o0,sc (cp n) (sc (ou n) (s0)),vc HP (v0)⟩ func40 (by kernel_rfl) (by kernel_rfl) (by kernel_rfl)
theorem pP:be prog 100 (ju n):=am (X:=js n) (fn:=f100) mixed ⟨cX,c0,o0,sc (eg n) (sc (nN n) (s0)),vc D0 (v0)⟩ func100 (by kernel_rfl) (by kernel_rfl) (by kernel_rfl)
theorem mi:be prog 48 (gV n):=am (X:=gU n) (fn:=f48) mixed ⟨cX,c0,o0,sc (cp n) (sc (pP n) (s0)),v0⟩ func48 (by kernel_rfl) (by kernel_rfl) (by kernel_rfl)
theorem nO:be prog 51 (ip n):=am (X:=io n) (fn:=f51) mixed ⟨cX,c0,o0,sc (cp n) (sc (md n) (s0)),v0⟩ func51 (by kernel_rfl) (by kernel_rfl) (by kernel_rfl)
theorem lF:be prog 41 (gE n):=am (X:=gD n) (fn:=f41) mixed ⟨cX,c0,oc Gd (o0),sc (cp n) (s0),v0⟩ func41 (by kernel_rfl) (by kernel_rfl) (by kernel_rfl)
theorem rS:be prog 156 (kl n):=am (X:=kj n) (fn:=f156) mixed ⟨cX,c0,oc Gd (o0),sc (eg n) (s0),v0⟩ func156 (by kernel_rfl) (by kernel_rfl) (by kernel_rfl)
theorem uO:be prog 97 (l9 n):=am (X:=l8 n) (fn:=f97) mixed ⟨cX,c0,o0,s0,v0⟩ func97 (by kernel_rfl) (by kernel_rfl) (by kernel_rfl)
theorem lG:be prog 104 (gG n):=am (X:=gF n) (fn:=f104) mixed ⟨cX,c0,o0,sc (rS n) (sc (uO n) (s0)),v0⟩ func104 (by kernel_rfl) (by kernel_rfl) (by kernel_rfl)
theorem Cz:be prog 52 (tL n):=am (X:=tK n) (fn:=f52) mixed ⟨cX,c0,o0,sc (cp n) (sc (lG n) (sc (mc n) (s0))),v0⟩ func52 (by kernel_rfl) (by kernel_rfl) (by kernel_rfl)
theorem sQ:aw prog 11 (bT n):=fb (X:=kW n) (fn:=f11) mixed ⟨cX,cc (yq n) (c0),o0,sc (gI n) (sc (kH n) (sc (mi n) (sc (gJ n) (sc (nO n) (sc (lF n) (sc (Cz n) (s0))))))),v0⟩ func11 (by kernel_rfl) (by kernel_rfl) (by kernel_rfl)
end
end Go.Am
