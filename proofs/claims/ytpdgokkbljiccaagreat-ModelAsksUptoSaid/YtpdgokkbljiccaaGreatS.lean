import Derived.Test.YtpdgokkbljiccaaGreatD
import Derived.Test.YtpdgokkbljiccaaGreatT
import Derived.Test.YtpdgokkbljiccaaGreatTO
set_option linter.unusedVariables false
set_option linter.unusedSimpArgs false
namespace Go.Am
set_option maxHeartbeats 4000000
open Go.Proofs.Tryz
section
variable (n k:Nat)
open Go Go.Proofs
theorem qa:ar prog 181 (lx n):=bn (X:=yb n) c0 func181
theorem Dl:ar prog 121 (uM n):=bn (X:=Cn n) (cc (qa n) c0) func121
theorem R0:ar prog 218 (E7 n):=bn (X:=E6 n) c0 func218
theorem Px:ar prog 182 (Co n):=bn (X:=ov n) (cc (R0 n) c0) func182
theorem Py:ar prog 122 (Cq n):=bn (X:=Cp n) (cc (Px n) c0) func122
theorem R5:ar prog 183 (E9 n):=bn (X:=E8 n) (cc (Dl n) c0) func183
theorem Gy:ar prog 219 (tA n):=bn (X:=mv n) c0 func219
theorem I1:ar prog 220 (vP n):=bn (X:=vO n) (cc (qa n) c0) func220
theorem jW:ar prog 190 (fb n):=bn (X:=di n) (cc (I1 n) c0) func190
theorem jn:ar prog 134 (ev n):=bn (X:=eu n) (cc (jW n) c0) func134
theorem Bb:ar prog 185 (rF n):=bn (X:=zZ n) (cc (jn n) c0) func185
theorem Pz:ar prog 184 (Cs n):=bn (X:=Cr n) (cc (Gy n) (cc (Bb n) c0)) func184
theorem PA:ar prog 123 (Ct n):=bn (X:=uO n) (cc (R5 n) (cc (qa n) (cc (Pz n) (cc (Bb n) c0)))) func123
theorem xT:ar prog 206 (Fb n):=bn (X:=Fa n) c0 func206
theorem Ul:ar Go.Proofs.Tryz.prog 221 (Ju n):=Go.Proofs.Tryz.RL (xT n)
theorem vp:ar prog 224 (oz n):=bn (X:=Cu n) c0 func224
end
section
variable (n k:Nat)
theorem R6:ar prog 194 (Fe n):=bn (X:=Fc n) (cc (vp n) c0) func194
theorem jN:ar prog 138 (il n):=bn (X:=Cv n) (cc (R6 n) c0) func138
theorem R7:ar prog 186 (Ff n):=bn (X:=xc n) (cc (Ul n) (cc (jN n) c0)) func186
theorem Lx:ar prog 124 (yd n):=bn (X:=ly n) (cc (R7 n) c0) func124
theorem Dm:ar prog 61 (uQ n):=bn (X:=uP n) (cc (Dl n) (cc (Py n) (cc (PA n) (cc (Lx n) c0)))) func61
theorem Bc:ar prog 62 (rH n):=bn (X:=z3 n) c0 func62
theorem ux:ar prog 63 (my n):=bn (X:=tD n) c0 func63
theorem QM:ar prog 191 (HN n):=mr (X:=QH n) (fn:=f191) mixed ⟨iX,cc (xT n) (c0),oc Xe (o0),s0,v0⟩ func191 (by kernel_rfl) (by kernel_rfl) (by kernel_rfl)
theorem Bd:ar prog 223 (rI n):=bn (X:=mz n) c0 func223
theorem JT:ar prog 192 (z5 n):=bn (X:=aaG n) (cc (Bd n) c0) func192
theorem Ly:ar prog 136 (yf n):=bn (X:=ye n) (cc (QM n) (cc (JT n) c0)) func136
theorem I2:ar prog 65 (vV n):=bn (X:=vU n) c0 func65
theorem Be:ar prog 106 (rJ n):=bn (X:=z9 n) c0 func106
theorem R8:ar prog 193 (Fi n):=bn (X:=xd n) c0 func193
theorem Um:ar prog 137 (Jv n):=bn (X:=Ab n) (cc (R8 n) c0) func137
theorem PB:ar prog 195 (CA n):=bn (X:=Cz n) c0 func195
end
section
variable (n k:Nat)
theorem nz:ar prog 139 (j2 n):=bn (X:=Ac n) (cc (PB n) c0) func139
theorem sE:ar prog 84 (oj n):=bn (X:=DQ n) (cc (Um n) (cc (jN n) (cc (nz n) c0))) func84
theorem QN:ar prog 208 (QI n):=bn (X:=HQ n) c0 func208
theorem l6:ar Go.Proofs.Tryz.prog 163 (j4 n):=Go.Proofs.Tryz.RJ (xT n) (QN n)
theorem za:ar prog 171 (pV n):=bn (X:=lC n) c0 func171
theorem pG:ar prog 168 (l4 n):=bn (X:=Ad n) (cc (za n) (cc (jN n) c0)) func168
theorem Gz:ar prog 164 (xf n):=bn (X:=xe n) (cc (pG n) (cc (nz n) c0)) func164
theorem zb:ar prog 107 (pW n):=bn (X:=yg n) (cc (l6 n) (cc (Gz n) c0)) func107
theorem PC:ar prog 166 (CD n):=bn (X:=CC n) c0 func166
theorem PD:ar prog 209 (CF n):=bn (X:=CE n) (cc (jN n) (cc (nz n) c0)) func209
theorem sF:ar prog 165 (j6 n):=bn (X:=gy n) (cc (PC n) (cc (PD n) c0)) func165
theorem JU:ar prog 108 (Af n):=bn (X:=Jx n) (cc (sF n) c0) func108
theorem R9:ar prog 56 (Fp n):=bn (X:=Fo n) (cc (Be n) (cc (sE n) (cc (zb n) (cc (JU n) c0)))) func56
theorem xU:ar prog 210 (qT n):=bn (X:=xg n) c0 func210
theorem Lz:ar prog 211 (yh n):=bn (X:=pY n) c0 func211
theorem Yd:ar prog 243 (QK n):=bn (X:=QJ n) (cc (Bd n) (cc (QN n) c0)) func243
end
section
variable (n k:Nat)
theorem LA:ar prog 233 (yi n):=bn (X:=pZ n) (cc (xU n) (cc (Yd n) (cc (jN n) c0))) func233
theorem Ef:ar prog 244 (rK n):=bn (X:=lQ n) c0 func244
theorem Sa:ar prog 245 (Fs n):=bn (X:=xh n) (cc (vp n) c0) func245
theorem NZ:ar prog 234 (Ak n):=bn (X:=rL n) (cc (Ef n) (cc (Sa n) c0)) func234
theorem GA:ar prog 246 (xj n):=bn (X:=xi n) c0 func246
theorem Un:ar prog 247 (Jy n):=bn (X:=An n) (cc (GA n) (cc (vp n) c0)) func247
theorem Sb:ar prog 235 (Ft n):=bn (X:=mG n) (cc (GA n) (cc (Un n) c0)) func235
theorem PE:ar prog 212 (CI n):=bn (X:=CH n) (cc (LA n) (cc (xU n) (cc (NZ n) (cc (Sb n) c0)))) func212
theorem PF:ar prog 167 (CJ n):=bn (X:=oE n) (cc (xU n) (cc (Lz n) (cc (PE n) c0))) func167
theorem Uo:ar prog 172 (JA n):=bn (X:=Jz n) c0 func172
theorem QO:ar prog 111 (HV n):=bn (X:=HU n) (cc (za n) (cc (Uo n) c0)) func111
theorem N0:ar prog 109 (Aq n):=bn (X:=Ap n) (cc (Be n) (cc (sE n) (cc (zb n) (cc (JU n) (cc (PF n) (cc (l6 n) (cc (pG n) (cc (QO n) c0)))))))) func109
theorem PG:ar prog 169 (CM n):=bn (X:=CL n) (cc (l6 n) (cc (Gz n) c0)) func169
theorem Sc:ar prog 213 (Fv n):=bn (X:=Fu n) (cc (jN n) (cc (nz n) c0)) func213
theorem Wa:ar prog 170 (Nm n):=bn (X:=DR n) (cc (Sc n) c0) func170
theorem Sd:ar prog 110 (Fy n):=bn (X:=Fx n) (cc (PG n) (cc (Wa n) (cc (l6 n) (cc (pG n) c0)))) func110
end
section
variable (n k:Nat)
theorem Up:ar prog 57 (JD n):=bn (X:=JC n) (cc (N0 n) (cc (sE n) (cc (Sd n) (cc (QO n) c0)))) func57
theorem GC:ar prog 13 (xn n):=mr (X:=xm n) (fn:=f13) mixed ⟨iX,cc (R9 n) (cc (Up n) (c0)),oc adW (o0),s0,v0⟩ func13 (by kernel_rfl) (by kernel_rfl) (by kernel_rfl)
theorem kM:ar prog 82 (fJ n):=bn (X:=cF n) (cc (Ly n) (cc (I2 n) (cc (GC n) c0))) func82
theorem Eg:ar prog 125 (rN n):=bn (X:=rM n) (cc (sE n) (cc (l6 n) (cc (pG n) c0))) func125
theorem mb:ar prog 64 (gG n):=bn (X:=ek n) (cc (kM n) (cc (Eg n) c0)) func64
theorem Bf:ar prog 20 (rP n):=bn (X:=rO n) (cc (Dm n) (cc (Bc n) (cc (ux n) (cc (mb n) c0)))) func20
theorem JV:ar prog 69 (As n):=bn (X:=JE n) c0 func69
theorem N1:ar prog 22 (DS n):=bn (X:=xo n) (fn:=f22) (cc (JV n) c0) func22
theorem sG:ar prog 129 (mJ n):=bn (X:=Au n) c0 func129
theorem vq:ar prog 127 (oG n):=bn (X:=CO n) (cc (sG n) c0) func127
theorem Se:ar prog 187 (FB n):=bn (X:=xp n) c0 func187
theorem PH:ar prog 222 (CQ n):=bn (X:=CP n) c0 func222
theorem PI:ar prog 188 (CS n):=bn (X:=uT n) (cc (PH n) c0) func188
theorem PJ:ar prog 128 (CT n):=bn (X:=oI n) (cc (Se n) (cc (PI n) c0)) func128
theorem GD:ar prog 130 (xq n):=bn (X:=FC n) (cc (vq n) c0) func130
theorem PK:ar prog 131 (CU n):=bn (X:=uU n) (cc (sG n) c0) func131
end
section
variable (n k:Nat)
theorem Dn:ar prog 71 (uV n):=bn (X:=oL n) (cc (vq n) (cc (PJ n) (cc (sG n) (cc (GD n) (cc (PK n) c0))))) func71
theorem sH:ar prog 133 (mK n):=bn (X:=Aw n) c0 func133
theorem PL:ar prog 189 (CV n):=bn (X:=oM n) (cc (sH n) c0) func189
theorem oR:ar prog 225 (kZ n):=bn (X:=CW n) c0 func225
theorem Sf:ar prog 197 (FE n):=bn (X:=FD n) (cc (oR n) c0) func197
theorem iz:ar prog 141 (fW n):=bn (X:=uW n) (cc (Sf n) c0) func141
theorem Sg:ar prog 132 (FF n):=bn (X:=xr n) (cc (PL n) (cc (iz n) c0)) func132
theorem zc:ar prog 72 (p0 n):=bn (X:=ju n) (cc (Sg n) c0) func72
theorem PM:ar prog 66 (CX n):=bn (X:=uX n) (cc (Dn n) (cc (zc n) c0)) func66
theorem PN:ar prog 67 (CZ n):=bn (X:=CY n) c0 func67
theorem Uq:ar prog 73 (JG n):=bn (X:=JF n) (cc (sH n) c0) func73
theorem PO:ar prog 74 (C0 n):=bn (X:=uZ n) c0 func74
theorem PP:ar prog 75 (C3 n):=bn (X:=C2 n) c0 func75
theorem Bg:ar prog 112 (rT n):=bn (X:=Ay n) c0 func112
theorem Sh:ar prog 196 (FH n):=bn (X:=xs n) c0 func196
theorem Si:ar prog 140 (FI n):=bn (X:=xt n) (cc (Sh n) c0) func140
end
section
variable (n k:Nat)
theorem PQ:ar prog 198 (C5 n):=bn (X:=C4 n) c0 func198
theorem ki:ar prog 142 (iM n):=bn (X:=AB n) (cc (PQ n) c0) func142
theorem Bh:ar prog 85 (tO n):=bn (X:=AD n) (cc (Si n) (cc (iz n) (cc (ki n) c0))) func85
theorem JW:ar prog 177 (AF n):=bn (X:=AE n) c0 func177
theorem lu:ar prog 116 (jL n):=bn (X:=u9 n) (cc (sH n) (cc (JW n) c0)) func116
theorem oS:ar prog 117 (la n):=bn (X:=vb n) (cc (iz n) c0) func117
theorem Bi:ar prog 174 (rV n):=bn (X:=rU n) (cc (oS n) (cc (ki n) c0)) func174
theorem zd:ar prog 114 (p4 n):=bn (X:=yx n) (cc (lu n) (cc (Bi n) c0)) func114
theorem Sj:ar prog 236 (FK n):=bn (X:=FJ n) (cc (iz n) (cc (ki n) c0)) func236
theorem N2:ar prog 214 (AG n):=bn (X:=rW n) (cc (Sj n) c0) func214
theorem Sk:ar prog 173 (FM n):=bn (X:=FL n) (cc (N2 n) c0) func173
theorem Bj:ar prog 113 (rY n):=bn (X:=AH n) (cc (zd n) (cc (Sk n) c0)) func113
theorem Sl:ar prog 58 (FO n):=bn (X:=FN n) (cc (Bg n) (cc (Bh n) (cc (Bj n) (cc (zd n) c0)))) func58
theorem vu:ar prog 175 (oP n):=bn (X:=vd n) c0 func175
theorem N3:ar prog 215 (AJ n):=bn (X:=rZ n) (cc (vu n) (cc (JW n) (cc (iz n) c0))) func215
theorem I3:ar prog 238 (wj n):=bn (X:=wi n) c0 func238
end
section
variable (n k:Nat)
theorem GF:ar prog 237 (xw n):=bn (X:=xv n) (cc (oR n) c0) func237
theorem LB:ar prog 216 (yB n):=bn (X:=lH n) (cc (I3 n) (cc (GF n) c0)) func216
theorem GG:ar prog 239 (xy n):=bn (X:=xx n) c0 func239
theorem Sm:ar prog 240 (FQ n):=bn (X:=xz n) (cc (GG n) (cc (oR n) c0)) func240
theorem PS:ar prog 217 (C8 n):=bn (X:=lc n) (cc (GG n) (cc (Sm n) c0)) func217
theorem Sn:ar prog 176 (FS n):=bn (X:=FR n) (cc (N3 n) (cc (vu n) (cc (LB n) (cc (PS n) c0)))) func176
theorem So:ar prog 115 (FT n):=bn (X:=mN n) (cc (vu n) (cc (Sn n) c0)) func115
theorem Ur:ar prog 178 (JI n):=bn (X:=JH n) c0 func178
theorem Us:ar prog 118 (JJ n):=bn (X:=AO n) (cc (Ur n) c0) func118
theorem N4:ar prog 179 (AQ n):=bn (X:=AP n) (cc (lu n) (cc (Bi n) c0)) func179
theorem Sp:ar prog 180 (FU n):=bn (X:=xA n) (cc (iz n) (cc (ki n) c0)) func180
theorem Ut:ar prog 119 (JL n):=bn (X:=JK n) (cc (N4 n) (cc (Sp n) (cc (lu n) (cc (oS n) c0)))) func119
theorem Uu:ar prog 59 (JN n):=bn (X:=JM n) (cc (Bg n) (cc (Bh n) (cc (Bj n) (cc (So n) (cc (lu n) (cc (oS n) (cc (Us n) (cc (Ut n) c0)))))))) func59
theorem Sq:ar prog 14 (FW n):=bn (X:=xB n) (cc (Sl n) (cc (Uu n) c0)) func14
theorem GH:ar prog 26 (xC n):=bn (X:=rj n) (cc (Uq n) (cc (PO n) (cc (PP n) (cc (Sq n) c0)))) func26
theorem N5:ar prog 126 (AX n):=bn (X:=AW n) (cc (Bh n) (cc (lu n) (cc (oS n) c0))) func126
end
section
variable (n k:Nat)
theorem Uv:ar prog 68 (JO n):=bn (X:=AY n) (cc (GH n) (cc (N5 n) c0)) func68
theorem Bk:ar prog 21 (r4 n):=bn (X:=r3 n) (cc (PM n) (cc (PN n) (cc (Uv n) c0))) func21
theorem B8:cL prog 86 (ql n):=aK (X:=qk n) (fn:=f86) mixed ⟨iX,c0,o0,s0,vc VK3 (vc afG (vc Xd (v0)))⟩ func86 (by kernel_rfl) (by kernel_rfl) (by kernel_rfl)
theorem aac:cL prog 37 (Ui n):=aK (X:=Uh n) (fn:=f37) mixed ⟨iX,c0,o0,sc (B8 n) (s0),vc afH (vc Z2 (v0))⟩ func37 (by kernel_rfl) (by kernel_rfl) (by kernel_rfl)
theorem PT:ar prog 157 (Dc n):=bn (X:=Db n) c0 func157
theorem Sr:ar prog 158 (FZ n):=bn (X:=FY n) c0 func158
theorem Ss:ar prog 159 (F1 n):=bn (X:=F0 n) c0 func159
theorem Su:ar prog 204 (F3 n):=bn (X:=F2 n) c0 func204
theorem PU:ar prog 160 (De n):=bn (X:=Dd n) (cc (Su n) c0) func160
theorem Dp(n:Nat):(k:Nat)→ar prog 231 ⟨[(.int .i64)],[(.int .i64)],ve n k⟩
 |0=>TS func231 (by kernel_rfl) (by kernel_rfl) (by kernel_rfl)
 |k+1=>bn (X:=F4 n (ve n k)) (cc (Dp n k) (cc (GF n) (cc (oR n) c0))) func231
theorem Sv:ar prog 231 (F5 n):=Dp n n
theorem Sw:ar prog 205 (F7 n):=bn (X:=F6 n) (cc (Sv n) (cc (iz n) (cc (ki n) c0))) func205
theorem PV:ar prog 161 (Df n):=bn (X:=vf n) (cc (Sw n) c0) func161
theorem Uw:ar prog 162 (JQ n):=bn (X:=JP n) c0 func162
theorem N6:ar prog 105 (AZ n):=bn (X:=r5 n) (cc (vq n) (cc (PT n) (cc (Sr n) (cc (Ss n) (cc (GD n) (cc (PU n) (cc (PV n) (cc (Uw n) c0)))))))) func105
theorem Wb:ar prog 42 (NF n):=bn (X:=xD n) (fn:=f42) (cc (JV n) c0) func42
theorem PW:ar prog 70 (Di n):=bn (X:=Dh n) (cc (N6 n) (cc (Wb n) c0)) func70
end
section
variable (n k:Nat)
theorem uy:cL prog 87 (mQ n):=aK (X:=tV n) (fn:=f87) mixed ⟨iX,c0,o0,s0,v0⟩ func87 (by kernel_rfl) (by kernel_rfl) (by kernel_rfl)
theorem wG:cL prog 88 (ol n):=aK (X:=wn n) (fn:=f88) mixed ⟨iX,c0,o0,s0,v0⟩ func88 (by kernel_rfl) (by kernel_rfl) (by kernel_rfl)
theorem PX:ar prog 89 (Dj n):=RO
theorem LC:cL prog 90 (yI n):=aK (X:=yH n) (fn:=f90) mixed ⟨iX,c0,o0,s0,vc Z2 (vc afI (v0))⟩ func90 (by kernel_rfl) (by kernel_rfl) (by kernel_rfl)
theorem Ux:cL prog 38 (JS n):=aK (X:=JR n) (fn:=f38) mixed ⟨iX,cc (Dm n) (cc (PX n) (cc (Bc n) (c0))),o0,sc (uy n) (sc (wG n) (sc (LC n) (s0))),vc afJ (v0)⟩ func38 (by kernel_rfl) (by kernel_rfl) (by kernel_rfl)
theorem pH:cL prog 91 (kh n):=aK (X:=pq n) (fn:=f91) mixed ⟨iX,c0,o0,s0,v0⟩ func91 (by kernel_rfl) (by kernel_rfl) (by kernel_rfl)
theorem sI:cL prog 147 (mR n):=aK (X:=A2 n) (fn:=f147) mixed ⟨iX,c0,o0,s0,vc Z2 (v0)⟩ func147 (by kernel_rfl) (by kernel_rfl) (by kernel_rfl)
theorem vw:cL prog 227 (li n):=aK (X:=lh n) (fn:=f227) mixed ⟨iX,c0,o0,s0,vc Xd (v0)⟩ func227 (by kernel_rfl) (by kernel_rfl) (by kernel_rfl)
theorem lv:cL prog 202 (ir n):=aK (X:=lj n) (fn:=f202) mixed ⟨iX,c0,o0,sc (vw n) (s0),vc Xd (v0)⟩ func202 (by kernel_rfl) (by kernel_rfl) (by kernel_rfl)
theorem qb:cL prog 152 (lJ n):=aK (X:=yJ n) (fn:=f152) mixed ⟨iX,c0,o0,sc (lv n) (s0),vc VK3 (v0)⟩ func152 (by kernel_rfl) (by kernel_rfl) (by kernel_rfl)
theorem uz:cL prog 148 (mS n):=aK (X:=tX n) (fn:=f148) mixed ⟨iX,c0,o0,sc (qb n) (s0),v0⟩ func148 (by kernel_rfl) (by kernel_rfl) (by kernel_rfl)
theorem kJ:cL prog 99 (gK n):=aK (X:=kG n) (fn:=f99) mixed ⟨iX,c0,o0,s0,v0⟩ func99 (by kernel_rfl) (by kernel_rfl) (by kernel_rfl)
theorem LD:cL prog 46 (yL n):=aK (X:=yK n) (fn:=f46) mixed ⟨iX,c0,o0,sc (kJ n) (s0),v0⟩ func46 (by kernel_rfl) (by kernel_rfl) (by kernel_rfl)
theorem LF:cL prog 92 (yN n):=aK (X:=yM n) (fn:=f92) mixed ⟨iX,c0,o0,sc (sI n) (sc (uz n) (sc (LD n) (s0))),v0⟩ func92 (by kernel_rfl) (by kernel_rfl) (by kernel_rfl)
theorem B9:cL prog 136 (qn n):=aK (X:=qm n) (fn:=f136) mixed ⟨iX,cc (QM n) (cc (JT n) (c0)),o0,s0,v0⟩ func136 (by kernel_rfl) (by kernel_rfl) (by kernel_rfl)
theorem LG:cL prog 154 (yP n):=aK (X:=yO n) (fn:=f154) mixed ⟨iX,c0,o0,sc (lv n) (s0),vc VK3 (vc adV (v0))⟩ func154 (by kernel_rfl) (by kernel_rfl) (by kernel_rfl)
end
section
variable (n k:Nat)
theorem LH:cL prog 149 (yR n):=aK (X:=yQ n) (fn:=f149) mixed ⟨iX,c0,o0,sc (sI n) (sc (LG n) (s0)),vc afK (v0)⟩ func149 (by kernel_rfl) (by kernel_rfl) (by kernel_rfl)
theorem Bl:cL prog 93 (pu n):=aK (X:=pt n) (fn:=f93) mixed ⟨iX,c0,o0,sc (LH n) (s0),vc afK (v0)⟩ func93 (by kernel_rfl) (by kernel_rfl) (by kernel_rfl)
theorem iU:cL prog 82 (ef n):=aK (X:=ee n) (fn:=f82) mixed ⟨iX,cc (GC n) (c0),o0,sc (B9 n) (sc (Bl n) (s0)),v0⟩ func82 (by kernel_rfl) (by kernel_rfl) (by kernel_rfl)
theorem xV:cL prog 125 (mU n):=aK (X:=mT n) (fn:=f125) mixed ⟨iX,cc (sE n) (cc (l6 n) (cc (pG n) (c0))),o0,s0,v0⟩ func125 (by kernel_rfl) (by kernel_rfl) (by kernel_rfl)
theorem jy:cL prog 64 (eG n):=aK (X:=eF n) (fn:=f64) mixed ⟨iX,c0,o0,sc (iU n) (sc (xV n) (s0)),v0⟩ func64 (by kernel_rfl) (by kernel_rfl) (by kernel_rfl)
theorem Bm:cL prog 94 (pw n):=aK (X:=pv n) (fn:=f94) mixed ⟨iX,c0,o0,sc (wG n) (s0),v0⟩ func94 (by kernel_rfl) (by kernel_rfl) (by kernel_rfl)
theorem GI:cL prog 200 (tZ n):=aK (X:=tY n) (fn:=f200) mixed ⟨iX,c0,o0,s0,v0⟩ func200 (by kernel_rfl) (by kernel_rfl) (by kernel_rfl)
theorem iE:cL prog 226 (dT n):=aK (X:=dS n) (fn:=f226) mixed ⟨iX,c0,o0,sc (GI n) (s0),v0⟩ func226 (by kernel_rfl) (by kernel_rfl) (by kernel_rfl)
theorem gM:cL prog 199 (dC n):=aK (X:=dB n) (fn:=f199) mixed ⟨iX,c0,o0,sc (iE n) (s0),v0⟩ func199 (by kernel_rfl) (by kernel_rfl) (by kernel_rfl)
theorem LI:cL prog 150 (yT n):=aK (X:=yS n) (fn:=f150) mixed ⟨iX,c0,o0,sc (gM n) (s0),vc ahX (v0)⟩ func150 (by kernel_rfl) (by kernel_rfl) (by kernel_rfl)
theorem ti:cL prog 201 (kI n):=aK (X:=kH n) (fn:=f201) mixed ⟨iX,c0,o0,sc (kJ n) (s0),vc VK3 (vc Xd (v0))⟩ func201 (by kernel_rfl) (by kernel_rfl) (by kernel_rfl)
theorem I4:cL prog 151 (wu n):=aK (X:=wo n) (fn:=f151) mixed ⟨iX,c0,o0,sc (uz n) (sc (qb n) (sc (ti n) (s0))),vc VK3 (vc adV (vc afL (v0)))⟩ func151 (by kernel_rfl) (by kernel_rfl) (by kernel_rfl)
theorem GJ:cL prog 95 (ub n):=aK (X:=ua n) (fn:=f95) mixed ⟨iX,c0,o0,sc (sI n) (sc (LI n) (sc (I4 n) (sc (qb n) (s0)))),vc adV (v0)⟩ func95 (by kernel_rfl) (by kernel_rfl) (by kernel_rfl)
theorem xW:cL prog 39 (mW n):=aK (X:=mV n) (fn:=f39) mixed ⟨iX,cc (ux n) (c0),o0,sc (pH n) (sc (LF n) (sc (jy n) (sc (uy n) (sc (Bm n) (sc (GJ n) (s0)))))),vc VK3 (v0)⟩ func39 (by kernel_rfl) (by kernel_rfl) (by kernel_rfl)
theorem xX:cL prog 47 (mY n):=aK (X:=mX n) (fn:=f47) mixed ⟨iX,c0,o0,sc (pH n) (s0),v0⟩ func47 (by kernel_rfl) (by kernel_rfl) (by kernel_rfl)
theorem Dq:ar prog 23 (vm n):=mr (X:=Dk n) (fn:=f23) mixed ⟨iX,cc (PW n) (c0),o0,sc (aac n) (sc (Ux n) (sc (xW n) (sc (xX n) (s0)))),v0⟩ func23 (by kernel_rfl) (by kernel_rfl) (by kernel_rfl)
end
section
variable (n k:Nat)
theorem Dr:ar prog 24 (vo n):=bn (X:=vn n) c0 func24
end
end Go.Am
