import Derived.Test.YtllhngpojglipaaGreatDoorD3
import Derived.Test.YtllhngpojglipaaGreatDoorT1
import Derived.Test.YtllhngpojglipaaGreatDoorT2
set_option linter.unusedVariables false
set_option linter.unusedSimpArgs false
namespace Go.Am
set_option maxHeartbeats 4000000
open Go.Proofs.Tryz
section
variable (n k:Nat)
open Go Go.Proofs
theorem BZ:aq prog 104 (tm n):=aM (X:=Kb n) c0 func104
theorem EN:aq prog 67 (wk n):=aM (X:=NL n) (cc (BZ n) c0) func67
theorem agE:aq prog 68 (NN n):=aM (X:=NM n) c0 func68
theorem ajK:aq prog 69 (Rr n):=aM (X:=Rp n) c0 func69
theorem ajL:aq prog 70 (Rt n):=aM (X:=Rs n) c0 func70
theorem TO:aq prog 72 (GW n):=aM (X:=Ru n) (cc (EN n) c0) func72
theorem ajM:aq prog 105 (Rw n):=aM (X:=Rv n) c0 func105
theorem agF:aq prog 71 (NP n):=aM (X:=NO n) (cc (ajM n) c0) func71
theorem re:aq prog 181 (oG n):=aM (X:=NQ n) c0 func181
theorem HP:aq prog 182 (ze n):=aM (X:=GX n) (cc (re n) c0) func182
theorem Pb(n:Nat):(k:Nat)→aq prog 146 ⟨[(.int .i64)],[(.int .i64)],Eb n k⟩
 |0=>alZ func146 (by kernel_rfl) (by kernel_rfl) (by kernel_rfl)
 |k+1=>aM (X:=Rx n (Eb n k)) (cc (Pb n k) (cc (HP n) (cc (re n) c0))) func146
theorem ajN:aq prog 146 (Ry n):=Pb n n
theorem ajO:aq prog 189 (RA n):=aM (X:=Rz n) (cc (re n) c0) func189
theorem mg:aq prog 145 (jZ n):=aM (X:=Ec n) (cc (ajO n) c0) func145
theorem agG:aq prog 190 (NT n):=aM (X:=NR n) c0 func190
theorem pS:aq prog 147 (mz n):=aM (X:=Kc n) (cc (agG n) c0) func147
theorem ajP:aq prog 106 (RC n):=aM (X:=RB n) (cc (ajN n) (cc (mg n) (cc (pS n) c0))) func106
end
section
variable (n k:Nat)
theorem agH:aq prog 73 (NU n):=aM (X:=Ee n) (cc (ajP n) c0) func73
theorem amh:aq prog 74 (XP n):=aM (X:=XO n) c0 func74
theorem aek:aq prog 35 (Kd n):=aM (X:=An n) (cc (EN n) (cc (agE n) (cc (ajK n) (cc (ajL n) (cc (TO n) (cc (agF n) (cc (agH n) (cc (amh n) c0)))))))) func35
theorem Ym:aq prog 38 (Ke n):=aM (X:=XQ n) c0 func38
theorem aoD:aq prog 36 (acY n):=aM (X:=GY n) (fn:=f36) (cc (Ym n) c0) func36
theorem yk:aq prog 193 (rj n):=aM (X:=Ij n) c0 func193
theorem Pc:aq prog 151 (Ef n):=aM (X:=NW n) (cc (yk n) c0) func151
theorem ajQ:aq prog 203 (RG n):=aM (X:=RF n) c0 func203
theorem EO:aq prog 159 (wo n):=aM (X:=wn n) (cc (ajQ n) c0) func159
theorem agI:aq prog 152 (NY n):=aM (X:=NX n) (cc (EO n) c0) func152
theorem ajR:aq prog 194 (RI n):=aM (X:=RH n) (cc (Pc n) c0) func194
theorem TP:aq prog 224 (CC n):=aM (X:=tq n) c0 func224
theorem WX:aq prog 225 (Fh n):=aM (X:=Fg n) (cc (yk n) c0) func225
theorem pt:aq prog 156 (iZ n):=aM (X:=eW n) (cc (WX n) c0) func156
theorem nY:aq prog 118 (hU n):=aM (X:=gZ n) (cc (pt n) c0) func118
theorem L0:aq prog 196 (Ao n):=aM (X:=Kf n) (cc (nY n) c0) func196
end
section
variable (n k:Nat)
theorem agJ:aq prog 195 (N0 n):=aM (X:=NZ n) (cc (TP n) (cc (L0 n) c0)) func195
theorem agK:aq prog 153 (N1 n):=aM (X:=Eh n) (cc (ajR n) (cc (yk n) (cc (agJ n) (cc (L0 n) c0)))) func153
theorem HQ:aq prog 235 (RK n):=aM (X:=RJ n) c0 func235
theorem ami:aq Go.Proofs.Tryz.prog 226 (XR n):=Go.Proofs.Tryz.ajt (HQ n)
theorem xd:aq prog 208 (qM n):=aM (X:=N2 n) c0 func208
theorem ajS:aq prog 252 (RM n):=aM (X:=RL n) (cc (xd n) c0) func252
theorem oY:aq prog 227 (lT n):=aM (X:=N3 n) (cc (ajS n) c0) func227
theorem ajT:aq prog 197 (RN n):=aM (X:=G3 n) (cc (ami n) (cc (oY n) c0)) func197
theorem abe:aq prog 154 (Il n):=aM (X:=rk n) (cc (ajT n) c0) func154
theorem Pf:aq prog 111 (Ej n):=aM (X:=Ei n) (cc (Pc n) (cc (agI n) (cc (agK n) (cc (abe n) c0)))) func111
theorem ajU:aq prog 77 (RR n):=aM (X:=RQ n) (cc (Pf n) c0) func77
theorem L5:aq prog 112 (Ap n):=aM (X:=Ki n) c0 func112
theorem B0:aq prog 45 (se n):=aM (X:=sd n) c0 func45
theorem vk:aq prog 94 (pb n):=aM (X:=u6 n) (cc (B0 n) c0) func94
theorem TQ:aq prog 113 (G4 n):=aM (X:=RS n) (cc (vk n) c0) func113
theorem ael:aq prog 115 (Kl n):=aM (X:=Kk n) c0 func115
end
section
variable (n k:Nat)
theorem nZ:aq prog 155 (ic n):=aM (X:=ey n) (cc (ael n) c0) func155
theorem mv:aq prog 114 (gd n):=aM (X:=gc n) (cc (nZ n) c0) func114
theorem TS:aq prog 78 (G6 n):=aM (X:=G5 n) (cc (L5 n) (cc (TQ n) (cc (mv n) c0))) func78
theorem yl:aq prog 116 (rn n):=aM (X:=Im n) c0 func116
theorem Pg:aq prog 117 (Ek n):=dL (X:=qO n) (fn:=f117) mixed ⟨zc,c0,o0,s0,vc VK3 (v0)⟩ func117 (by kernel_rfl) (by kernel_rfl) (by kernel_rfl)
theorem EP:aq prog 79 (ww n):=aM (X:=wv n) (cc (yl n) (cc (Pg n) c0)) func79
theorem abf:aq prog 119 (Ir n):=aM (X:=Iq n) c0 func119
theorem pT:aq prog 156 (jc n):=aM (X:=fe n) (cc (abf n) c0) func156
theorem ov:aq prog 118 (ir n):=aM (X:=iq n) (cc (pT n) c0) func118
theorem agL:aq prog 81 (N5 n):=aM (X:=N4 n) (cc (ov n) c0) func81
theorem aem:aq prog 120 (Ko n):=aM (X:=Kn n) c0 func120
theorem TT:aq prog 121 (CG n):=aM (X:=CF n) c0 func121
theorem arl:aq prog 228 (ah3 n):=dL (X:=ah2 n) (fn:=f228) mixed ⟨zc,cc (HQ n) (c0),oc avY (o0),s0,v0⟩ func228 (by kernel_rfl) (by kernel_rfl) (by kernel_rfl)
theorem L6:aq prog 254 (As n):=aM (X:=tA n) c0 func254
theorem amj:aq prog 229 (XS n):=aM (X:=Kp n) (cc (L6 n) c0) func229
theorem abg:aq prog 198 (It n):=aM (X:=Is n) (cc (arl n) (cc (amj n) c0)) func198
end
section
variable (n k:Nat)
theorem WY:aq prog 123 (Fs n):=aM (X:=Fr n) c0 func123
theorem L7:aq prog 255 (Au n):=aM (X:=Kq n) c0 func255
theorem ajV:aq prog 261 (RT n):=aM (X:=G7 n) c0 func261
theorem amk:aq prog 233 (XT n):=aM (X:=Ks n) (cc (ajV n) c0) func233
theorem agM:aq prog 262 (N9 n):=aM (X:=N8 n) c0 func262
theorem uG:aq prog 234 (pA n):=aM (X:=Kt n) (cc (agM n) c0) func234
theorem HS:aq prog 200 (Av n):=aM (X:=PT n) (cc (amk n) (cc (oY n) (cc (uG n) c0))) func200
theorem ah9:aq prog 237 (ah4 n):=aM (X:=Vz n) c0 func237
theorem xQ:aq Go.Proofs.Tryz.prog 201 (sG n):=Go.Proofs.Tryz.ajr (HQ n) (ah9 n)
theorem Jq:aq prog 238 (yb n):=aM (X:=rt n) c0 func238
theorem DL:aq prog 202 (xt n):=aM (X:=Ku n) (cc (Jq n) (cc (oY n) c0)) func202
theorem TU:aq prog 272 (G9 n):=aM (X:=G8 n) (cc (DL n) (cc (uG n) c0)) func272
theorem Jr:aq prog 256 (yc n):=aM (X:=Iu n) (cc (xQ n) (cc (TU n) c0)) func256
theorem agN:aq prog 274 (Od n):=aM (X:=Oc n) c0 func274
theorem agO:aq prog 287 (Of n):=aM (X:=Oe n) (cc (oY n) (cc (uG n) c0)) func287
theorem B1:aq prog 273 (pD n):=aM (X:=kt n) (cc (agN n) (cc (agO n) c0)) func273
end
section
variable (n k:Nat)
theorem Yn:aq prog 257 (Kw n):=aM (X:=XV n) (cc (B1 n) c0) func257
theorem ajW:aq prog 231 (RY n):=aM (X:=RX n) (cc (L7 n) (cc (HS n) (cc (Jr n) (cc (Yn n) c0)))) func231
theorem HT:aq prog 288 (zl n):=aM (X:=Ha n) c0 func288
theorem abh:aq prog 289 (Iv n):=aM (X:=ye n) c0 func289
theorem arm:aq prog 309 (ah6 n):=aM (X:=ah5 n) (cc (L6 n) (cc (ah9 n) c0)) func309
theorem abi:aq prog 301 (Iw n):=aM (X:=yf n) (cc (HT n) (cc (arm n) (cc (oY n) c0))) func301
theorem Qw:aq prog 310 (Aw n):=aM (X:=sg n) c0 func310
theorem TV:aq prog 209 (Hc n):=aM (X:=Hb n) (cc (xd n) c0) func209
theorem aen:aq prog 302 (KB n):=aM (X:=Ax n) (cc (Qw n) (cc (TV n) c0)) func302
theorem TW:aq prog 311 (Hf n):=aM (X:=He n) c0 func311
theorem aml:aq prog 312 (XW n):=aM (X:=KD n) (cc (TW n) (cc (xd n) c0)) func312
theorem ajX:aq prog 303 (R5 n):=aM (X:=tI n) (cc (TW n) (cc (aml n) c0)) func303
theorem agP:aq prog 290 (Oi n):=aM (X:=Oh n) (cc (abi n) (cc (HT n) (cc (aen n) (cc (ajX n) c0)))) func290
theorem agQ:aq prog 275 (Oj n):=aM (X:=wB n) (cc (HT n) (cc (abh n) (cc (agP n) c0))) func275
theorem amm:aq prog 278 (XY n):=aM (X:=XX n) c0 func278
theorem aia:aq prog 260 (VD n):=aM (X:=VC n) (cc (Jq n) (cc (amm n) c0)) func260
end
section
variable (n k:Nat)
theorem aeo:aq prog 258 (KG n):=aM (X:=KF n) (cc (L7 n) (cc (HS n) (cc (Jr n) (cc (Yn n) (cc (agQ n) (cc (xQ n) (cc (DL n) (cc (aia n) c0)))))))) func258
theorem agR:aq prog 276 (Ol n):=aM (X:=Ok n) (cc (xQ n) (cc (TU n) c0)) func276
theorem ajY:aq prog 291 (R7 n):=aM (X:=R6 n) (cc (oY n) (cc (uG n) c0)) func291
theorem aoE:aq prog 277 (ac7 n):=aM (X:=PU n) (cc (ajY n) c0) func277
theorem ajZ:aq prog 259 (Sa n):=aM (X:=R9 n) (cc (agR n) (cc (aoE n) (cc (xQ n) (cc (DL n) c0)))) func259
theorem amn:aq prog 232 (X3 n):=aM (X:=X0 n) (cc (aeo n) (cc (HS n) (cc (ajZ n) (cc (aia n) c0)))) func232
theorem aj0:aq prog 199 (Sb n):=dL (X:=Hi n) (fn:=f199) mixed ⟨zc,cc (ajW n) (cc (amn n) (c0)),oc avX (o0),s0,v0⟩ func199 (by kernel_rfl) (by kernel_rfl) (by kernel_rfl)
theorem qA:aq prog 157 (jN n):=aM (X:=dV n) (cc (abg n) (cc (WY n) (cc (aj0 n) c0))) func157
theorem Qx:aq prog 158 (Az n):=aM (X:=Ay n) (cc (HS n) (cc (xQ n) (cc (DL n) c0))) func158
theorem sO:aq prog 122 (kN n):=aM (X:=gJ n) (cc (qA n) (cc (Qx n) c0)) func122
theorem aep:aq prog 82 (KI n):=aM (X:=AA n) (cc (Pf n) (cc (aem n) (cc (TT n) (cc (sO n) c0)))) func82
theorem TX:aq prog 160 (Hj n):=aM (X:=zq n) (cc (yl n) c0) func160
theorem aj1:aq prog 204 (Sd n):=aM (X:=Sc n) (cc (EP n) (cc (TX n) c0)) func204
theorem aj2:aq prog 161 (Sf n):=aM (X:=Se n) (cc (EO n) (cc (aj1 n) c0)) func161
theorem agS:aq prog 125 (Om n):=aM (X:=En n) (cc (aj2 n) c0) func125
theorem aj3:aq prog 124 (Sg n):=aM (X:=zu n) (cc (EO n) (cc (EP n) (cc (yl n) (cc (Pg n) (cc (TX n) c0))))) func124
end
section
variable (n k:Nat)
theorem WZ:aq prog 162 (Fy n):=aM (X:=Fx n) c0 func162
theorem ow:aq prog 205 (iu n):=aM (X:=eD n) (cc (WZ n) c0) func205
theorem ng:aq prog 163 (gC n):=aM (X:=gB n) (cc (ow n) c0) func163
theorem Nr:aq prog 206 (yz n):=aM (X:=qw n) c0 func206
theorem HU:aq prog 164 (tQ n):=aM (X:=tP n) (cc (Nr n) c0) func164
theorem W4:aq prog 166 (FB n):=aM (X:=FA n) c0 func166
theorem ym:aq prog 165 (oi n):=dL (X:=eF n) (fn:=f165) mixed ⟨zc,cc (W4 n) (cc (xd n) (cc (TV n) (c0))),oc avW (o0),s0,vc VK2 (v0)⟩ func165 (by kernel_rfl) (by kernel_rfl) (by kernel_rfl)
theorem TY:aq prog 265 (CT n):=aM (X:=CS n) c0 func265
theorem Ns:aq prog 241 (yB n):=aM (X:=yA n) (cc (TY n) c0) func241
theorem L8:aq prog 240 (AB n):=aM (X:=KK n) (cc (Ns n) c0) func240
theorem kU:qv prog 292 (fG n):=my (X:=cC n) (fn:=f292) mixed ⟨zc,cc (L8 n) (c0),o0,s0,vc VK3 (v0)⟩ func292 (by kernel_rfl) (by kernel_rfl) (by kernel_rfl)
theorem nh:qv prog 313 (gD n):=my (X:=eh n) (fn:=f313) mixed ⟨zc,c0,o0,s0,vc VK3 (v0)⟩ func313 (by kernel_rfl) (by kernel_rfl) (by kernel_rfl)
theorem ox:qv prog 304 (iv n):=my (X:=eG n) (fn:=f304) mixed ⟨zc,c0,o0,sc (nh n) (s0),v0⟩ func304 (by kernel_rfl) (by kernel_rfl) (by kernel_rfl)
theorem gF(n:Nat):(k:Nat)→qv prog 293 ⟨[(.gs 0),(.data (.int .i64)),(.data (.int .i64)),(.data (.int .i64)),(.data Y68)],[],[(0,G0)],[],ay n k⟩
 |0=>alX func293 (by kernel_rfl) (by kernel_rfl) (by kernel_rfl)
 |k+1=>my (X:=bv n (ay n k)) (fn:=f293) mixed ⟨zc,cc (L8 n) (c0),o0,sc (ox n) (sc (gF n k) (s0)),vc VK3 (v0)⟩ func293 (by kernel_rfl) (by kernel_rfl) (by kernel_rfl)
theorem nq:qv prog 293 (gN n):=gF n n
theorem oy:qv prog 279 (iw n):=my (X:=cu n) (fn:=f279) mixed ⟨zc,c0,o0,sc (kU n) (sc (nq n) (s0)),v0⟩ func279 (by kernel_rfl) (by kernel_rfl) (by kernel_rfl)
theorem n5:qv prog 264 (ii n):=my (X:=ig n) (fn:=f264) mixed ⟨zc,c0,o0,sc (oy n) (s0),v0⟩ func264 (by kernel_rfl) (by kernel_rfl) (by kernel_rfl)
end
section
variable (n k:Nat)
theorem yn:aq prog 239 (oj n):=dL (X:=jz n) (fn:=f239) mixed ⟨zc,c0,o0,sc (n5 n) (s0),vc VK3 (v0)⟩ func239 (by kernel_rfl) (by kernel_rfl) (by kernel_rfl)
theorem HV:aq prog 210 (zv n):=aM (X:=Sh n) (cc (yn n) c0) func210
theorem aoF:aq prog 168 (adb n):=dL (X:=ada n) (fn:=f168) mixed ⟨zc,cc (HV n) (c0),oc aoz (o0),s0,v0⟩ func168 (by kernel_rfl) (by kernel_rfl) (by kernel_rfl)
theorem amo:aq prog 167 (X4 n):=aM (X:=KL n) c0 func167
theorem aeq:aq prog 211 (PW n):=aM (X:=PV n) c0 func211
theorem aer:aq prog 169 (KM n):=dL (X:=AD n) (fn:=f169) mixed ⟨zc,cc (aeq n) (cc (HV n) (c0)),oc aoz (o0),s0,v0⟩ func169 (by kernel_rfl) (by kernel_rfl) (by kernel_rfl)
theorem aj4:aq prog 170 (Sj n):=aM (X:=zw n) (cc (aeq n) (cc (HV n) c0)) func170
theorem aes:aq prog 126 (KP n):=aM (X:=KO n) (cc (L5 n) (cc (ng n) (cc (TS n) (cc (HU n) (cc (ym n) (cc (aoF n) (cc (amo n) (cc (aer n) (cc (TQ n) (cc (aj4 n) c0)))))))))) func126
theorem aet:aq prog 83 (KR n):=aM (X:=KQ n) (cc (agS n) (cc (aj3 n) (cc (aes n) c0))) func83
theorem aeu:aq prog 39 (KT n):=dL (X:=KS n) (fn:=f39) mixed ⟨zc,cc (ajU n) (cc (TS n) (cc (EP n) (cc (agL n) (cc (aep n) (cc (aet n) (c0)))))),oc aoz (o0),s0,v0⟩ func39 (by kernel_rfl) (by kernel_rfl) (by kernel_rfl)
theorem MT:aq prog 57 (FD n):=aM (X:=VG n) c0 func57
theorem atp:aq prog 60 (amd n):=aM (X:=amc n) (cc (MT n) c0) func60
theorem TZ:aq prog 53 (CW n):=aM (X:=CV n) c0 func53
theorem B2:aq prog 20 (tU n):=aM (X:=KV n) (cc (TZ n) c0) func20
theorem agT:aq prog 56 (Oq n):=aM (X:=Oo n) (cc (B2 n) c0) func56
theorem agU:aq prog 84 (Ot n):=aM (X:=wF n) (cc (B2 n) (cc (MT n) (cc (agT n) c0))) func84
end
section
variable (n k:Nat)
theorem agV:aq prog 40 (Ou n):=aM (X:=wH n) (cc (atp n) (cc (agU n) c0)) func40
theorem Js:aq prog 11 (yg n):=aM (X:=rF n) (cc (aeu n) (cc (agV n) c0)) func11
theorem agW:aq prog 93 (Ow n):=aM (X:=Ov n) c0 func93
theorem aj5:aq prog 50 (Sn n):=aM (X:=Sl n) (cc (agW n) c0) func50
theorem Ph:aq prog 14 (Eo n):=aM (X:=Ox n) (cc (B0 n) c0) func14
theorem aj6:aq prog 51 (Sp n):=aM (X:=So n) (cc (vk n) c0) func51
theorem aj7:aq prog 29 (Sq n):=aM (X:=Hk n) (cc (B2 n) (cc (MT n) c0)) func29
theorem Pj:aq prog 18 (Ep n):=aM (X:=Oy n) (cc (Js n) (cc (aj5 n) (cc (Ph n) (cc (aj6 n) (cc (aj7 n) c0))))) func18
theorem aj8:aq prog 75 (Sr n):=aM (X:=Hl n) (cc (MT n) c0) func75
theorem HW:aq prog 107 (tY n):=aM (X:=nJ n) c0 func107
theorem Qy:aq prog 76 (AH n):=aM (X:=AG n) (cc (HW n) c0) func76
theorem L9:aq prog 37 (AJ n):=aM (X:=pH n) (cc (aj8 n) (cc (Qy n) c0)) func37
theorem Pk:aq prog 8 (Es n):=aM (X:=Oz n) (cc (aek n) (cc (aoD n) (cc (Pj n) (cc (L9 n) c0)))) func8
theorem aev:aq prog 9 (PY n):=aM (X:=Hm n) (fn:=f9) (cc (Ym n) c0) func9
theorem aew:aq prog 10 (PZ n):=aM (X:=Hn n) c0 func10
theorem aj9:aq prog 216 (Sw n):=aM (X:=Ho n) c0 func216
end
end Go.Am
