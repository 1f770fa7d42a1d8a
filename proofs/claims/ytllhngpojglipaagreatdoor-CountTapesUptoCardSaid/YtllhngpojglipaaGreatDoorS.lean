import Derived.Test.YtllhngpojglipaaGreatDoorD
import Derived.Test.YtllhngpojglipaaGreatDoorT
set_option linter.unusedVariables false
set_option linter.unusedSimpArgs false
namespace Go.Am
set_option maxHeartbeats 4000000
open Go.Proofs.Tryz
section
variable (n k:Nat)
open Go Go.Proofs
theorem Bd:aq prog 104 (sr n):=aL (X:=Js n) c0 func104
theorem DT:aq prog 67 (vo n):=aL (X:=MY n) (cc (Bd n) c0) func67
theorem afG:aq prog 68 (M0 n):=aL (X:=MZ n) c0 func68
theorem aiv:aq prog 69 (Qy n):=aL (X:=Qx n) c0 func69
theorem aiw:aq prog 70 (QA n):=aL (X:=Qz n) c0 func70
theorem SO:aq prog 72 (F1 n):=aL (X:=QB n) (cc (DT n) c0) func72
theorem aix:aq prog 105 (QD n):=aL (X:=QC n) c0 func105
theorem afH:aq prog 71 (M3 n):=aL (X:=M1 n) (cc (aix n) c0) func71
theorem qC:aq prog 181 (nU n):=aL (X:=M4 n) c0 func181
theorem G5:aq prog 182 (yB n):=aL (X:=F2 n) (cc (qC n) c0) func182
theorem Ok(n:Nat):(k:Nat)→aq prog 146 ⟨[(.int .i64)],[(.int .i64)],Dj n k⟩
 |0=>akx func146 (by kernel_rfl) (by kernel_rfl) (by kernel_rfl)
 |k+1=>aL (X:=QE n (Dj n k)) (cc (Ok n k) (cc (G5 n) (cc (qC n) c0))) func146
theorem aiy:aq prog 146 (QF n):=Ok n n
theorem aiz:aq prog 189 (QH n):=aL (X:=QG n) (cc (qC n) c0) func189
theorem lJ:aq prog 145 (jJ n):=aL (X:=Dk n) (cc (aiz n) c0) func145
theorem afI:aq prog 190 (M6 n):=aL (X:=M5 n) c0 func190
theorem pi:aq prog 147 (lW n):=aL (X:=Jt n) (cc (afI n) c0) func147
theorem aiA:aq prog 106 (QJ n):=aL (X:=QI n) (cc (aiy n) (cc (lJ n) (cc (pi n) c0))) func106
end
section
variable (n k:Nat)
theorem afJ:aq prog 73 (M7 n):=aL (X:=Dm n) (cc (aiA n) c0) func73
theorem akO:aq prog 74 (Xb n):=aL (X:=Xa n) c0 func74
theorem adr:aq prog 35 (Ju n):=aL (X:=zE n) (cc (DT n) (cc (afG n) (cc (aiv n) (cc (aiw n) (cc (SO n) (cc (afH n) (cc (afJ n) (cc (akO n) c0)))))))) func35
theorem XG:aq prog 38 (Jv n):=aL (X:=Xc n) c0 func38
theorem amZ:aq prog 36 (ab5 n):=aL (X:=F3 n) (fn:=f36) (cc (XG n) c0) func36
theorem xI:aq prog 193 (qJ n):=aL (X:=Hs n) c0 func193
theorem Ol:aq prog 151 (Dn n):=aL (X:=M9 n) (cc (xI n) c0) func151
theorem aiB:aq prog 203 (QN n):=aL (X:=QM n) c0 func203
theorem DU:aq prog 159 (vw n):=aL (X:=vu n) (cc (aiB n) c0) func159
theorem afK:aq prog 152 (Nb n):=aL (X:=Na n) (cc (DU n) c0) func152
theorem aiC:aq prog 194 (QP n):=aL (X:=QO n) (cc (Ol n) c0) func194
theorem SP:aq prog 224 (BQ n):=aL (X:=sv n) c0 func224
theorem Wf:aq prog 225 (Et n):=aL (X:=Es n) (cc (xI n) c0) func225
theorem oH:aq prog 156 (iK n):=aL (X:=eI n) (cc (Wf n) c0) func156
theorem ns:aq prog 118 (gK n):=aL (X:=gJ n) (cc (oH n) c0) func118
theorem Lf:aq prog 196 (zF n):=aL (X:=Jw n) (cc (ns n) c0) func196
end
section
variable (n k:Nat)
theorem afL:aq prog 195 (Nd n):=aL (X:=Nc n) (cc (SP n) (cc (Lf n) c0)) func195
theorem afM:aq prog 153 (Nf n):=aL (X:=Dp n) (cc (aiC n) (cc (xI n) (cc (afL n) (cc (Lf n) c0)))) func153
theorem G6:aq prog 235 (QR n):=aL (X:=QQ n) c0 func235
theorem akP:aq Go.Proofs.Tryz.prog 226 (Xd n):=Go.Proofs.Tryz.aie (G6 n)
theorem wu:aq prog 208 (qh n):=aL (X:=Ng n) c0 func208
theorem aiD:aq prog 252 (QT n):=aL (X:=QS n) (cc (wu n) c0) func252
theorem ol:aq prog 227 (lq n):=aL (X:=Nh n) (cc (aiD n) c0) func227
theorem aiE:aq prog 197 (QU n):=aL (X:=F5 n) (cc (akP n) (cc (ol n) c0)) func197
theorem aay:aq prog 154 (Hu n):=aL (X:=qK n) (cc (aiE n) c0) func154
theorem Om:aq prog 111 (Dr n):=aL (X:=Dq n) (cc (Ol n) (cc (afK n) (cc (afM n) (cc (aay n) c0)))) func111
theorem aiF:aq prog 77 (QY n):=aL (X:=QX n) (cc (Om n) c0) func77
theorem Lh:aq prog 112 (zG n):=aL (X:=Jz n) c0 func112
theorem Be:aq prog 45 (rz n):=aL (X:=ry n) c0 func45
theorem uD:aq prog 94 (oq n):=aL (X:=ut n) (cc (Be n) c0) func94
theorem SQ:aq prog 113 (F6 n):=aL (X:=QZ n) (cc (uD n) c0) func113
theorem ads:aq prog 115 (JC n):=aL (X:=JB n) c0 func115
end
section
variable (n k:Nat)
theorem nu:aq prog 155 (gN n):=aL (X:=eg n) (cc (ads n) c0) func155
theorem lU:aq prog 114 (fN n):=aL (X:=fM n) (cc (nu n) c0) func114
theorem SS:aq prog 78 (F8 n):=aL (X:=F7 n) (cc (Lh n) (cc (SQ n) (cc (lU n) c0))) func78
theorem xJ:aq prog 116 (qM n):=aL (X:=Hv n) c0 func116
theorem On:aq prog 117 (Ds n):=dH (X:=qj n) (fn:=f117) mixed ⟨yz,c0,o0,s0,vc VK3 (v0)⟩ func117 (by kernel_rfl) (by kernel_rfl) (by kernel_rfl)
theorem DV:aq prog 79 (vD n):=aL (X:=vC n) (cc (xJ n) (cc (On n) c0)) func79
theorem aaz:aq prog 119 (Hz n):=aL (X:=Hy n) c0 func119
theorem pj:aq prog 156 (iS n):=aL (X:=eP n) (cc (aaz n) c0) func156
theorem nL:aq prog 118 (g0 n):=aL (X:=gZ n) (cc (pj n) c0) func118
theorem afN:aq prog 81 (Nj n):=aL (X:=Ni n) (cc (nL n) c0) func81
theorem adt:aq prog 120 (JF n):=aL (X:=JE n) c0 func120
theorem SU:aq prog 121 (BU n):=aL (X:=BT n) c0 func121
theorem apt:aq prog 228 (agU n):=dH (X:=agT n) (fn:=f228) mixed ⟨yz,cc (G6 n) (c0),oc atL (o0),s0,v0⟩ func228 (by kernel_rfl) (by kernel_rfl) (by kernel_rfl)
theorem Li:aq prog 254 (zJ n):=aL (X:=sA n) c0 func254
theorem akQ:aq prog 229 (Xe n):=aL (X:=JG n) (cc (Li n) c0) func229
theorem aaA:aq prog 198 (HB n):=aL (X:=HA n) (cc (apt n) (cc (akQ n) c0)) func198
end
section
variable (n k:Nat)
theorem Wg:aq prog 123 (ED n):=aL (X:=EC n) c0 func123
theorem Lj:aq prog 255 (zK n):=aL (X:=JH n) c0 func255
theorem aiG:aq prog 261 (Q0 n):=aL (X:=F9 n) c0 func261
theorem akR:aq prog 233 (Xf n):=aL (X:=JJ n) (cc (aiG n) c0) func233
theorem afO:aq prog 262 (Nn n):=aL (X:=Nm n) c0 func262
theorem tV:aq prog 234 (oN n):=aL (X:=JK n) (cc (afO n) c0) func234
theorem G7:aq prog 200 (zL n):=aL (X:=O2 n) (cc (akR n) (cc (ol n) (cc (tV n) c0))) func200
theorem ag1:aq prog 237 (agV n):=aL (X:=UM n) c0 func237
theorem xf:aq Go.Proofs.Tryz.prog 201 (rP n):=Go.Proofs.Tryz.aic (G6 n) (ag1 n)
theorem IE:aq prog 238 (xy n):=aL (X:=qP n) c0 func238
theorem C0:aq prog 202 (wL n):=aL (X:=JL n) (cc (IE n) (cc (ol n) c0)) func202
theorem SV:aq prog 272 (Gb n):=aL (X:=Ga n) (cc (C0 n) (cc (tV n) c0)) func272
theorem IF:aq prog 256 (xz n):=aL (X:=HC n) (cc (xf n) (cc (SV n) c0)) func256
theorem afP:aq prog 274 (Nr n):=aL (X:=Nq n) c0 func274
theorem afQ:aq prog 287 (Nt n):=aL (X:=Ns n) (cc (ol n) (cc (tV n) c0)) func287
theorem Bf:aq prog 273 (oQ n):=aL (X:=j3 n) (cc (afP n) (cc (afQ n) c0)) func273
end
section
variable (n k:Nat)
theorem XH:aq prog 257 (JN n):=aL (X:=Xh n) (cc (Bf n) c0) func257
theorem aiH:aq prog 231 (Q5 n):=aL (X:=Q4 n) (cc (Lj n) (cc (G7 n) (cc (IF n) (cc (XH n) c0)))) func231
theorem G8:aq prog 288 (yI n):=aL (X:=Gc n) c0 func288
theorem aaB:aq prog 289 (HD n):=aL (X:=xB n) c0 func289
theorem apu:aq prog 309 (agX n):=aL (X:=agW n) (cc (Li n) (cc (ag1 n) c0)) func309
theorem aaC:aq prog 301 (HE n):=aL (X:=xC n) (cc (G8 n) (cc (apu n) (cc (ol n) c0))) func301
theorem PG:aq prog 310 (auE n):=aL (X:=rB n) c0 func310
theorem SW:aq prog 209 (Gf n):=aL (X:=Ge n) (cc (wu n) c0) func209
theorem adu:aq prog 302 (JS n):=aL (X:=zN n) (cc (PG n) (cc (SW n) c0)) func302
theorem SX:aq prog 311 (Gh n):=aL (X:=Gg n) c0 func311
theorem akS:aq prog 312 (Xi n):=aL (X:=JU n) (cc (SX n) (cc (wu n) c0)) func312
theorem aiI:aq prog 303 (Q8 n):=aL (X:=sI n) (cc (SX n) (cc (akS n) c0)) func303
theorem afR:aq prog 290 (Nw n):=aL (X:=Nv n) (cc (aaC n) (cc (G8 n) (cc (adu n) (cc (aiI n) c0)))) func290
theorem afS:aq prog 275 (Nx n):=aL (X:=vI n) (cc (G8 n) (cc (aaB n) (cc (afR n) c0))) func275
theorem akT:aq prog 278 (Xk n):=aL (X:=Xj n) c0 func278
theorem ag2:aq prog 260 (UQ n):=aL (X:=UP n) (cc (IE n) (cc (akT n) c0)) func260
end
section
variable (n k:Nat)
theorem adv:aq prog 258 (JX n):=aL (X:=JW n) (cc (Lj n) (cc (G7 n) (cc (IF n) (cc (XH n) (cc (afS n) (cc (xf n) (cc (C0 n) (cc (ag2 n) c0)))))))) func258
theorem afT:aq prog 276 (Nz n):=aL (X:=Ny n) (cc (xf n) (cc (SV n) c0)) func276
theorem aiJ:aq prog 291 (Ra n):=aL (X:=Q9 n) (cc (ol n) (cc (tV n) c0)) func291
theorem am0:aq prog 277 (acf n):=aL (X:=O3 n) (cc (aiJ n) c0) func277
theorem aiK:aq prog 259 (Rd n):=aL (X:=Rc n) (cc (afT n) (cc (am0 n) (cc (xf n) (cc (C0 n) c0)))) func259
theorem akU:aq prog 232 (Xn n):=aL (X:=Xm n) (cc (adv n) (cc (G7 n) (cc (aiK n) (cc (ag2 n) c0)))) func232
theorem aiL:aq prog 199 (Re n):=dH (X:=Gk n) (fn:=f199) mixed ⟨yz,cc (aiH n) (cc (akU n) (c0)),oc atK (o0),s0,v0⟩ func199 (by kernel_rfl) (by kernel_rfl) (by kernel_rfl)
theorem pZ:aq prog 157 (jw n):=aL (X:=dP n) (cc (aaA n) (cc (Wg n) (cc (aiL n) c0))) func157
theorem PH:aq prog 158 (zP n):=aL (X:=zO n) (cc (G7 n) (cc (xf n) (cc (C0 n) c0))) func158
theorem rW:aq prog 122 (kl n):=aL (X:=agY n) (cc (pZ n) (cc (PH n) c0)) func122
theorem adw:aq prog 82 (JZ n):=aL (X:=zQ n) (cc (Om n) (cc (adt n) (cc (SU n) (cc (rW n) c0)))) func82
theorem SY:aq prog 160 (Gl n):=aL (X:=yM n) (cc (xJ n) c0) func160
theorem aiM:aq prog 204 (Rh n):=aL (X:=Rg n) (cc (DV n) (cc (SY n) c0)) func204
theorem aiN:aq prog 161 (Rj n):=aL (X:=Ri n) (cc (DU n) (cc (aiM n) c0)) func161
theorem afU:aq prog 125 (NA n):=aL (X:=Dv n) (cc (aiN n) c0) func125
theorem aiO:aq prog 124 (Rk n):=aL (X:=yP n) (cc (DU n) (cc (DV n) (cc (xJ n) (cc (On n) (cc (SY n) c0))))) func124
end
section
variable (n k:Nat)
theorem Wh:aq prog 162 (EJ n):=aL (X:=EI n) c0 func162
theorem nM:aq prog 205 (hP n):=aL (X:=aaL n) (cc (Wh n) c0) func205
theorem mF:aq prog 163 (gc n):=aL (X:=gb n) (cc (nM n) c0) func163
theorem MG:aq prog 206 (xT n):=aL (X:=pU n) c0 func206
theorem G9:aq prog 164 (sS n):=aL (X:=sQ n) (cc (MG n) c0) func164
theorem Wi:aq prog 166 (EL n):=aL (X:=EK n) c0 func166
theorem xK:aq prog 165 (nE n):=dH (X:=ep n) (fn:=f165) mixed ⟨yz,cc (Wi n) (cc (wu n) (cc (SW n) (c0))),oc atJ (o0),s0,vc VK2 (v0)⟩ func165 (by kernel_rfl) (by kernel_rfl) (by kernel_rfl)
theorem SZ:aq prog 265 (B6 n):=aL (X:=B5 n) c0 func265
theorem MH:aq prog 241 (xV n):=aL (X:=xU n) (cc (SZ n) c0) func241
theorem Lk:aq prog 240 (zR n):=aL (X:=J1 n) (cc (MH n) c0) func240
theorem kw:pS prog 292 (fm n):=lV (X:=cz n) (fn:=f292) mixed ⟨yz,cc (Lk n) (c0),o0,s0,vc VK3 (v0)⟩ func292 (by kernel_rfl) (by kernel_rfl) (by kernel_rfl)
theorem mG:pS prog 313 (gd n):=lV (X:=dX n) (fn:=f313) mixed ⟨yz,c0,o0,s0,vc VK3 (v0)⟩ func313 (by kernel_rfl) (by kernel_rfl) (by kernel_rfl)
theorem nN:pS prog 304 (hU n):=lV (X:=er n) (fn:=f304) mixed ⟨yz,c0,o0,sc (mG n) (s0),v0⟩ func304 (by kernel_rfl) (by kernel_rfl) (by kernel_rfl)
theorem gj(n:Nat):(k:Nat)→pS prog 293 ⟨[(.gs 0),(.data (.int .i64)),(.data (.int .i64)),(.data (.int .i64)),(.data Y68)],[],[(0,G0)],[],ay n k⟩
 |0=>akv func293 (by kernel_rfl) (by kernel_rfl) (by kernel_rfl)
 |k+1=>lV (X:=bw n (ay n k)) (fn:=f293) mixed ⟨yz,cc (Lk n) (c0),o0,sc (nN n) (sc (gj n k) (s0)),vc VK3 (v0)⟩ func293 (by kernel_rfl) (by kernel_rfl) (by kernel_rfl)
theorem mN:pS prog 293 (gw n):=gj n n
theorem nO:pS prog 279 (ia n):=lV (X:=cu n) (fn:=f279) mixed ⟨yz,c0,o0,sc (kw n) (sc (mN n) (s0)),v0⟩ func279 (by kernel_rfl) (by kernel_rfl) (by kernel_rfl)
theorem nv:pS prog 264 (gP n):=lV (X:=gO n) (fn:=f264) mixed ⟨yz,c0,o0,sc (nO n) (s0),v0⟩ func264 (by kernel_rfl) (by kernel_rfl) (by kernel_rfl)
end
section
variable (n k:Nat)
theorem xL:aq prog 239 (nF n):=dH (X:=jj n) (fn:=f239) mixed ⟨yz,c0,o0,sc (nv n) (s0),vc VK3 (v0)⟩ func239 (by kernel_rfl) (by kernel_rfl) (by kernel_rfl)
theorem Ha:aq prog 210 (yQ n):=aL (X:=Rl n) (cc (xL n) c0) func210
theorem am1:aq prog 168 (acj n):=dH (X:=aci n) (fn:=f168) mixed ⟨yz,cc (Ha n) (c0),oc amV (o0),s0,v0⟩ func168 (by kernel_rfl) (by kernel_rfl) (by kernel_rfl)
theorem akV:aq prog 167 (Xo n):=aL (X:=J2 n) c0 func167
theorem adx:aq prog 211 (O5 n):=aL (X:=O4 n) c0 func211
theorem ady:aq prog 169 (J3 n):=dH (X:=zT n) (fn:=f169) mixed ⟨yz,cc (adx n) (cc (Ha n) (c0)),oc amV (o0),s0,v0⟩ func169 (by kernel_rfl) (by kernel_rfl) (by kernel_rfl)
theorem aiP:aq prog 170 (Ro n):=aL (X:=yR n) (cc (adx n) (cc (Ha n) c0)) func170
theorem adz:aq prog 126 (J6 n):=aL (X:=J5 n) (cc (Lh n) (cc (mF n) (cc (SS n) (cc (G9 n) (cc (xK n) (cc (am1 n) (cc (akV n) (cc (ady n) (cc (SQ n) (cc (aiP n) c0)))))))))) func126
theorem adA:aq prog 83 (J8 n):=aL (X:=J7 n) (cc (afU n) (cc (aiO n) (cc (adz n) c0))) func83
theorem adB:aq prog 39 (Ka n):=dH (X:=J9 n) (fn:=f39) mixed ⟨yz,cc (aiF n) (cc (SS n) (cc (DV n) (cc (afN n) (cc (adw n) (cc (adA n) (c0)))))),oc amV (o0),s0,v0⟩ func39 (by kernel_rfl) (by kernel_rfl) (by kernel_rfl)
theorem Fv:aq prog 57 (zt n):=aL (X:=UT n) c0 func57
theorem arn:aq prog 60 (akK n):=aL (X:=akJ n) (cc (Fv n) c0) func60
theorem S0:aq prog 53 (B9 n):=aL (X:=B8 n) c0 func53
theorem tW:aq prog 20 (oU n):=aL (X:=Kc n) (cc (S0 n) c0) func20
theorem Oo:aq prog 56 (Dw n):=aL (X:=NC n) (cc (tW n) c0) func56
theorem afV:aq prog 84 (ND n):=aL (X:=vL n) (cc (tW n) (cc (Fv n) (cc (Oo n) c0))) func84
end
section
variable (n k:Nat)
theorem afW:aq prog 40 (NE n):=aL (X:=vN n) (cc (arn n) (cc (afV n) c0)) func40
theorem IG:aq prog 11 (xD n):=aL (X:=qX n) (cc (adB n) (cc (afW n) c0)) func11
theorem afX:aq prog 93 (NG n):=aL (X:=NF n) c0 func93
theorem aiQ:aq prog 50 (Rs n):=aL (X:=Rr n) (cc (afX n) c0) func50
theorem Oq:aq prog 14 (Dx n):=aL (X:=NH n) (cc (Be n) c0) func14
theorem aiR:aq prog 51 (Ru n):=aL (X:=Rt n) (cc (uD n) c0) func51
theorem aiS:aq prog 29 (Rv n):=aL (X:=Gm n) (cc (tW n) (cc (Fv n) c0)) func29
theorem DW:aq prog 18 (vP n):=aL (X:=NI n) (cc (IG n) (cc (aiQ n) (cc (Oq n) (cc (aiR n) (cc (aiS n) c0))))) func18
theorem aiT:aq prog 75 (Rw n):=aL (X:=Gn n) (cc (Fv n) c0) func75
theorem Hb:aq prog 107 (sZ n):=aL (X:=m7 n) c0 func107
theorem PI:aq prog 76 (zX n):=aL (X:=zW n) (cc (Hb n) c0) func76
theorem Ll:aq prog 37 (zY n):=aL (X:=oV n) (cc (aiT n) (cc (PI n) c0)) func37
theorem DX:aq prog 8 (vQ n):=aL (X:=NJ n) (cc (adr n) (cc (amZ n) (cc (DW n) (cc (Ll n) c0)))) func8
theorem PJ:aq prog 9 (Gq n):=aL (X:=Gp n) (fn:=f9) (cc (XG n) c0) func9
theorem PK:aq prog 10 (Gs n):=aL (X:=Gr n) c0 func10
theorem aiU:aq prog 216 (RA n):=aL (X:=Gt n) c0 func216
end
section
variable (n k:Nat)
theorem afY:aq prog 250 (NN n):=aL (X:=NM n) c0 func250
theorem afZ:aq prog 217 (NO n):=aL (X:=Dz n) (cc (afY n) c0) func217
theorem DY:aq prog 176 (vT n):=aL (X:=vS n) (cc (aiU n) (cc (afZ n) c0)) func176
theorem af0:aq prog 212 (NP n):=aL (X:=DA n) (cc (Bd n) c0) func212
theorem af1:aq prog 171 (NQ n):=aL (X:=vV n) (cc (DT n) (cc (DY n) (cc (Bd n) (cc (SO n) (cc (af0 n) c0))))) func171
theorem Bg:aq prog 266 (ta n):=aL (X:=Kg n) c0 func266
theorem af2:aq prog 242 (NR n):=aL (X:=vX n) (cc (Bg n) c0) func242
theorem aiV:aq prog 213 (RB n):=aL (X:=Gu n) (cc (af2 n) (cc (lJ n) c0)) func213
theorem aaD:aq prog 172 (HW n):=aL (X:=nG n) (cc (aiV n) c0) func172
theorem Ot:aq prog 127 (DC n):=aL (X:=DB n) (cc (af1 n) (cc (aaD n) c0)) func127
theorem af3:aq prog 85 (NU n):=aL (X:=NT n) (cc (Ot n) c0) func85
theorem Ou:aq prog 128 (DD n):=aL (X:=NV n) c0 func128
theorem Ov:aq prog 86 (DE n):=aL (X:=wa n) (cc (Ou n) c0) func86
theorem wv:aq prog 173 (qr n):=aL (X:=NW n) c0 func173
theorem aiW:aq prog 129 (RD n):=aL (X:=Gv n) (cc (wv n) c0) func129
theorem Ow:aq prog 130 (DF n):=dH (X:=wb n) (fn:=f130) mixed ⟨yz,cc (wv n) (c0),o0,s0,vc VK4 (v0)⟩ func130 (by kernel_rfl) (by kernel_rfl) (by kernel_rfl)
end
section
variable (n k:Nat)
theorem DZ:aq prog 87 (wc n):=aL (X:=DG n) (cc (aiW n) (cc (Ow n) c0)) func87
theorem adC:aq prog 88 (Kj n):=aL (X:=auF n) c0 func88
theorem af4:aq prog 174 (NY n):=aL (X:=NX n) c0 func174
theorem akW:aq prog 243 (Xr n):=aL (X:=Xq n) (cc (Bg n) c0) func243
theorem af5:aq prog 244 (NZ n):=aL (X:=DI n) c0 func244
theorem af6:aq prog 246 (N1 n):=aL (X:=N0 n) c0 func246
theorem Lm:aq prog 280 (z7 n):=aL (X:=Kk n) c0 func280
theorem aiX:aq prog 286 (RE n):=aL (X:=Gw n) c0 func286
theorem aiY:aq prog 269 (RF n):=aL (X:=Gx n) (cc (aiX n) c0) func269
theorem Ln:aq prog 247 (Cd n):=aL (X:=Kn n) (cc (aiY n) (cc (lJ n) (cc (pi n) c0))) func247
theorem XI:aq prog 270 (Kp n):=aL (X:=Ko n) c0 func270
theorem qD:aq prog 248 (oe n):=aL (X:=DK n) (cc (Bg n) (cc (XI n) c0)) func248
theorem ww:aq prog 249 (qw n):=aL (X:=DL n) (cc (lJ n) c0) func249
theorem Lo:aq prog 295 (z9 n):=aL (X:=z8 n) (cc (ww n) (cc (pi n) c0)) func295
theorem IH:aq prog 282 (xE n):=aL (X:=H9 n) (cc (qD n) (cc (Lo n) c0)) func282
theorem aiZ:aq prog 314 (RH n):=aL (X:=RG n) (cc (lJ n) (cc (pi n) c0)) func314
end
section
variable (n k:Nat)
theorem adD:aq prog 305 (Kq n):=aL (X:=Aa n) (cc (aiZ n) c0) func305
theorem ai0:aq prog 294 (RJ n):=aL (X:=RI n) (cc (adD n) c0) func294
theorem Lp:aq prog 281 (Ac n):=aL (X:=Kr n) (cc (IH n) (cc (ai0 n) c0)) func281
theorem ai1:aq prog 267 (RL n):=aL (X:=RK n) (cc (Lm n) (cc (Ln n) (cc (Lp n) (cc (IH n) c0)))) func267
theorem D0:aq prog 296 (wd n):=aL (X:=DM n) c0 func296
theorem adE:aq prog 306 (Ks n):=aL (X:=Ad n) (cc (D0 n) (cc (XI n) (cc (lJ n) c0))) func306
theorem Wj:aq prog 315 (E0 n):=aL (X:=EZ n) c0 func315
theorem aaE:aq prog 307 (Ib n):=aL (X:=ao6 n) (cc (Wj n) (cc (G5 n) c0)) func307
theorem S1:aq prog 316 (GA n):=aL (X:=Gz n) c0 func316
theorem ai2:aq prog 317 (RN n):=aL (X:=GC n) (cc (S1 n) (cc (qC n) c0)) func317
theorem af7:aq prog 308 (N4 n):=aL (X:=qx n) (cc (S1 n) (cc (ai2 n) c0)) func308
theorem ai3:aq prog 297 (RP n):=aL (X:=RO n) (cc (adE n) (cc (D0 n) (cc (aaE n) (cc (af7 n) c0)))) func297
theorem ai4:aq prog 283 (RQ n):=aL (X:=tg n) (cc (D0 n) (cc (ai3 n) c0)) func283
theorem akX:aq prog 298 (Xt n):=aL (X:=Xs n) c0 func298
theorem akY:aq prog 284 (Xu n):=aL (X:=Kw n) (cc (akX n) c0) func284
theorem adF:aq prog 299 (Ky n):=aL (X:=Kx n) (cc (qD n) (cc (Lo n) c0)) func299
end
section
variable (n k:Nat)
theorem ai5:aq prog 300 (RR n):=aL (X:=GD n) (cc (lJ n) (cc (pi n) c0)) func300
theorem akZ:aq prog 285 (Xw n):=aL (X:=Xv n) (cc (adF n) (cc (ai5 n) (cc (qD n) (cc (ww n) c0)))) func285
theorem ak0:aq prog 268 (Xy n):=aL (X:=Xx n) (cc (Lm n) (cc (Ln n) (cc (Lp n) (cc (ai4 n) (cc (qD n) (cc (ww n) (cc (akY n) (cc (akZ n) c0)))))))) func268
theorem ai6:aq prog 245 (RS n):=aL (X:=GF n) (cc (ai1 n) (cc (ak0 n) c0)) func245
theorem ai7:aq prog 214 (RT n):=aL (X:=y8 n) (cc (akW n) (cc (af5 n) (cc (af6 n) (cc (ai6 n) c0)))) func214
theorem adG:aq prog 215 (KD n):=aL (X:=KC n) (cc (Ln n) (cc (qD n) (cc (ww n) c0))) func215
theorem ak1:aq prog 175 (Xz n):=aL (X:=KE n) (cc (ai7 n) (cc (adG n) c0)) func175
theorem adH:aq prog 131 (KG n):=aL (X:=Af n) (cc (Ot n) (cc (af4 n) (cc (ak1 n) c0))) func131
theorem S2:aq prog 177 (GH n):=aL (X:=y9 n) (cc (DZ n) (cc (wv n) c0)) func177
theorem ai8:aq prog 178 (RV n):=aL (X:=RU n) (cc (DY n) (cc (S2 n) c0)) func178
theorem af8:aq prog 133 (N7 n):=aL (X:=DN n) (cc (ai8 n) c0) func133
theorem ai9:aq prog 132 (RW n):=dH (X:=GI n) (fn:=f132) mixed ⟨yz,cc (DY n) (cc (DZ n) (cc (wv n) (cc (Ow n) (cc (S2 n) (c0))))),o0,s0,vc VK4 (v0)⟩ func132 (by kernel_rfl) (by kernel_rfl) (by kernel_rfl)
theorem XJ:aq prog 180 (KH n):=aL (X:=XA n) c0 func180
theorem af9:aq prog 179 (N8 n):=aL (X:=wg n) (cc (Ov n) (cc (XJ n) c0)) func179
theorem D2:aq prog 218 (wi n):=dH (X:=qz n) (fn:=f218) mixed ⟨yz,c0,o0,s0,vc VK3 (v0)⟩ func218 (by kernel_rfl) (by kernel_rfl) (by kernel_rfl)
theorem ak2:aq prog 184 (XC n):=aL (X:=XB n) (cc (D2 n) c0) func184
end
section
variable (n k:Nat)
theorem aja:aq prog 183 (RX n):=aL (X:=GJ n) c0 func183
theorem XK:aq prog 219 (KK n):=aL (X:=KJ n) c0 func219
theorem aaF:aq prog 185 (Iq n):=aL (X:=xF n) (cc (XK n) (cc (D2 n) c0)) func185
theorem aga:aq prog 186 (Oa n):=dH (X:=wj n) (fn:=f186) mixed ⟨yz,cc (XK n) (cc (D2 n) (c0)),o0,s0,vc VK2 (v0)⟩ func186 (by kernel_rfl) (by kernel_rfl) (by kernel_rfl)
theorem aaG:aq prog 134 (Is n):=dH (X:=nJ n) (fn:=f134) mixed ⟨yz,cc (af9 n) (cc (XJ n) (cc (qC n) (cc (G5 n) (cc (ak2 n) (cc (aja n) (cc (aaF n) (cc (Ou n) (cc (aga n) (c0))))))))),o0,s0,vc VK2 (v0)⟩ func134 (by kernel_rfl) (by kernel_rfl) (by kernel_rfl)
theorem ajb:aq prog 89 (R5 n):=aL (X:=R0 n) (cc (adH n) (cc (af8 n) (cc (ai9 n) (cc (aaG n) c0)))) func89
theorem aaH:aq prog 41 (Iu n):=aL (X:=It n) (cc (af3 n) (cc (Ov n) (cc (DZ n) (cc (adC n) (cc (ajb n) c0))))) func41
theorem adI:aq prog 43 (Ph n):=aL (X:=Pg n) c0 func43
theorem am2:aq prog 90 (acC n):=aL (X:=acB n) c0 func90
theorem XL:aq prog 91 (KM n):=aL (X:=KL n) c0 func91
theorem XM:aq prog 42 (KN n):=aL (X:=Ck n) (cc (am2 n) (cc (XL n) c0)) func42
theorem II:aq prog 12 (xG n):=aL (X:=rj n) (cc (aaH n) (cc (adI n) (cc (XM n) c0))) func12
end
end Go.Am
