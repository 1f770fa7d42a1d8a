import Derived.Test.YtllhngpojglipaaGreatDoorS1
set_option linter.unusedVariables false
set_option linter.unusedSimpArgs false
namespace Go.Am
set_option maxHeartbeats 4000000
open Go.Proofs.Tryz
section
variable (n k:Nat)
open Go Go.Proofs
theorem agX:aq prog 250 (OD n):=aM (X:=OC n) c0 func250
theorem agY:aq prog 217 (OE n):=aM (X:=Et n) (cc (agX n) c0) func217
theorem EQ:aq prog 176 (wM n):=aM (X:=wL n) (cc (aj9 n) (cc (agY n) c0)) func176
theorem agZ:aq prog 212 (OG n):=aM (X:=Eu n) (cc (BZ n) c0) func212
theorem ag0:aq prog 171 (OH n):=aM (X:=wO n) (cc (EN n) (cc (EQ n) (cc (BZ n) (cc (TO n) (cc (agZ n) c0))))) func171
theorem B3:aq prog 266 (tZ n):=aM (X:=KZ n) c0 func266
theorem ag1:aq prog 242 (OI n):=aM (X:=wQ n) (cc (B3 n) c0) func242
theorem aka:aq prog 213 (Sx n):=aM (X:=Hp n) (cc (ag1 n) (cc (mg n) c0)) func213
theorem abj:aq prog 172 (IM n):=aM (X:=ol n) (cc (aka n) c0) func172
theorem Pl:aq prog 127 (Ew n):=aM (X:=Ev n) (cc (ag0 n) (cc (abj n) c0)) func127
theorem ag2:aq prog 85 (OL n):=aM (X:=OJ n) (cc (Pl n) c0) func85
theorem Pm:aq prog 128 (Ey n):=aM (X:=OM n) c0 func128
theorem Pn:aq prog 86 (Ez n):=aM (X:=wT n) (cc (Pm n) c0) func86
theorem xe:aq prog 173 (qV n):=aM (X:=ON n) c0 func173
theorem akb:aq prog 129 (Sz n):=aM (X:=Hq n) (cc (xe n) c0) func129
theorem Po:aq prog 130 (EA n):=dL (X:=wU n) (fn:=f130) mixed ⟨zc,cc (xe n) (c0),o0,s0,vc VK4 (v0)⟩ func130 (by kernel_rfl) (by kernel_rfl) (by kernel_rfl)
end
section
variable (n k:Nat)
theorem ER:aq prog 87 (wV n):=aM (X:=EB n) (cc (akb n) (cc (Po n) c0)) func87
theorem aex:aq prog 88 (K6 n):=aM (X:=AO n) c0 func88
theorem ag3:aq prog 174 (OP n):=aM (X:=OO n) c0 func174
theorem amp:aq prog 243 (X7 n):=aM (X:=X6 n) (cc (B3 n) c0) func243
theorem ag4:aq prog 244 (OQ n):=aM (X:=ED n) c0 func244
theorem ag5:aq prog 246 (OS n):=aM (X:=OR n) c0 func246
theorem Ma:aq prog 280 (AP n):=aM (X:=K7 n) c0 func280
theorem akc:aq prog 286 (SA n):=aM (X:=Hr n) c0 func286
theorem akd:aq prog 269 (SB n):=aM (X:=Hs n) (cc (akc n) c0) func269
theorem Mb:aq prog 247 (C0 n):=aM (X:=La n) (cc (akd n) (cc (mg n) (cc (pS n) c0))) func247
theorem Yo:aq prog 270 (Lc n):=aM (X:=Lb n) c0 func270
theorem rf:aq prog 248 (oU n):=aM (X:=EF n) (cc (B3 n) (cc (Yo n) c0)) func248
theorem xf:aq prog 249 (qY n):=aM (X:=EG n) (cc (mg n) c0) func249
theorem Mc:aq prog 295 (AU n):=aM (X:=AQ n) (cc (xf n) (cc (pS n) c0)) func295
theorem Jt:aq prog 282 (yh n):=aM (X:=IZ n) (cc (rf n) (cc (Mc n) c0)) func282
theorem ake:aq prog 314 (SD n):=aM (X:=SC n) (cc (mg n) (cc (pS n) c0)) func314
end
section
variable (n k:Nat)
theorem aey:aq prog 305 (Ld n):=aM (X:=AV n) (cc (ake n) c0) func305
theorem akf:aq prog 294 (SF n):=aM (X:=SE n) (cc (aey n) c0) func294
theorem Md:aq prog 281 (AX n):=aM (X:=Lf n) (cc (Jt n) (cc (akf n) c0)) func281
theorem akg:aq prog 267 (SH n):=aM (X:=SG n) (cc (Ma n) (cc (Mb n) (cc (Md n) (cc (Jt n) c0)))) func267
theorem ES:aq prog 296 (wW n):=aM (X:=EH n) c0 func296
theorem aez:aq prog 306 (Lh n):=aM (X:=AY n) (cc (ES n) (cc (Yo n) (cc (mg n) c0))) func306
theorem W6:aq prog 315 (FR n):=aM (X:=FQ n) c0 func315
theorem abk:aq prog 307 (I1 n):=aM (X:=rL n) (cc (W6 n) (cc (HP n) c0)) func307
theorem T0:aq prog 316 (Hv n):=aM (X:=Hu n) c0 func316
theorem akh:aq prog 317 (SJ n):=aM (X:=Hw n) (cc (T0 n) (cc (re n) c0)) func317
theorem ag6:aq prog 308 (OV n):=aM (X:=qZ n) (cc (T0 n) (cc (akh n) c0)) func308
theorem aki:aq prog 297 (SM n):=aM (X:=SL n) (cc (aez n) (cc (ES n) (cc (abk n) (cc (ag6 n) c0)))) func297
theorem akj:aq prog 283 (SN n):=aM (X:=uc n) (cc (ES n) (cc (aki n) c0)) func283
theorem amq:aq prog 298 (X9 n):=aM (X:=X8 n) c0 func298
theorem amr:aq prog 284 (Ya n):=aM (X:=Ll n) (cc (amq n) c0) func284
theorem aeA:aq prog 299 (Ln n):=aM (X:=Lm n) (cc (rf n) (cc (Mc n) c0)) func299
end
section
variable (n k:Nat)
theorem akk:aq prog 300 (SO n):=aM (X:=Hx n) (cc (mg n) (cc (pS n) c0)) func300
theorem ams:aq prog 285 (Yc n):=aM (X:=Yb n) (cc (aeA n) (cc (akk n) (cc (rf n) (cc (xf n) c0)))) func285
theorem amt:aq prog 268 (Ye n):=aM (X:=Yd n) (cc (Ma n) (cc (Mb n) (cc (Md n) (cc (akj n) (cc (rf n) (cc (xf n) (cc (amr n) (cc (ams n) c0)))))))) func268
theorem akl:aq prog 245 (SP n):=aM (X:=Hy n) (cc (akg n) (cc (amt n) c0)) func245
theorem akm:aq prog 214 (SQ n):=aM (X:=zK n) (cc (amp n) (cc (ag4 n) (cc (ag5 n) (cc (akl n) c0)))) func214
theorem aeB:aq prog 215 (Lt n):=aM (X:=Lr n) (cc (Mb n) (cc (rf n) (cc (xf n) c0))) func215
theorem amu:aq prog 175 (Yf n):=aM (X:=Lu n) (cc (akm n) (cc (aeB n) c0)) func175
theorem aeC:aq prog 131 (Lw n):=aM (X:=A2 n) (cc (Pl n) (cc (ag3 n) (cc (amu n) c0))) func131
theorem T6:aq prog 177 (HA n):=aM (X:=zL n) (cc (ER n) (cc (xe n) c0)) func177
theorem akn:aq prog 178 (SU n):=aM (X:=SS n) (cc (EQ n) (cc (T6 n) c0)) func178
theorem ag7:aq prog 133 (OY n):=aM (X:=EI n) (cc (akn n) c0) func133
theorem ako:aq prog 132 (SV n):=dL (X:=HB n) (fn:=f132) mixed ⟨zc,cc (EQ n) (cc (ER n) (cc (xe n) (cc (Po n) (cc (T6 n) (c0))))),o0,s0,vc VK4 (v0)⟩ func132 (by kernel_rfl) (by kernel_rfl) (by kernel_rfl)
theorem Yp:aq prog 180 (Lx n):=aM (X:=Yg n) c0 func180
theorem ag8:aq prog 179 (OZ n):=aM (X:=wY n) (cc (Pn n) (cc (Yp n) c0)) func179
theorem ET:aq prog 218 (w6 n):=dL (X:=q9 n) (fn:=f218) mixed ⟨zc,c0,o0,s0,vc VK3 (v0)⟩ func218 (by kernel_rfl) (by kernel_rfl) (by kernel_rfl)
theorem amv:aq prog 184 (Yi n):=aM (X:=Yh n) (cc (ET n) c0) func184
end
section
variable (n k:Nat)
theorem akp:aq prog 183 (SW n):=aM (X:=HC n) c0 func183
theorem Yq:aq prog 219 (LA n):=aM (X:=Lz n) c0 func219
theorem abl:aq prog 185 (Jd n):=aM (X:=yi n) (cc (Yq n) (cc (ET n) c0)) func185
theorem ag9:aq prog 186 (O1 n):=dL (X:=w7 n) (fn:=f186) mixed ⟨zc,cc (Yq n) (cc (ET n) (c0)),o0,s0,vc VK2 (v0)⟩ func186 (by kernel_rfl) (by kernel_rfl) (by kernel_rfl)
theorem abm:aq prog 134 (Jf n):=dL (X:=oq n) (fn:=f134) mixed ⟨zc,cc (ag8 n) (cc (Yp n) (cc (re n) (cc (HP n) (cc (amv n) (cc (akp n) (cc (abl n) (cc (Pm n) (cc (ag9 n) (c0))))))))),o0,s0,vc VK2 (v0)⟩ func134 (by kernel_rfl) (by kernel_rfl) (by kernel_rfl)
theorem akq:aq prog 89 (S0 n):=aM (X:=SZ n) (cc (aeC n) (cc (ag7 n) (cc (ako n) (cc (abm n) c0)))) func89
theorem abn:aq prog 41 (Jh n):=aM (X:=Jg n) (cc (ag2 n) (cc (Pn n) (cc (ER n) (cc (aex n) (cc (akq n) c0))))) func41
theorem aeD:aq prog 43 (P8 n):=aM (X:=P7 n) c0 func43
theorem aoG:aq prog 90 (adw n):=aM (X:=adv n) c0 func90
theorem Yr:aq prog 91 (LC n):=aM (X:=LB n) c0 func91
theorem Ys:aq prog 42 (LD n):=aM (X:=C8 n) (cc (aoG n) (cc (Yr n) c0)) func42
theorem Ju:aq prog 12 (yj n):=aM (X:=rT n) (cc (abn n) (cc (aeD n) (cc (Ys n) c0))) func12
theorem aha:aq prog 92 (O5 n):=aM (X:=EJ n) (cc (Yr n) c0) func92
theorem akr:aq prog 44 (S3 n):=aM (X:=zO n) (cc (aha n) c0) func44
theorem aeE:aq prog 13 (Qa n):=aM (X:=adz n) (cc (L9 n) (cc (akr n) c0)) func13
theorem Yt:aq prog 46 (LI n):=aM (X:=LH n) c0 func46
end
section
variable (n k:Nat)
theorem Pp:aq prog 15 (EK n):=aM (X:=O7 n) (cc (Yt n) c0) func15
theorem akt:aq prog 16 (S4 n):=aM (X:=HF n) c0 func16
theorem aku:aq prog 47 (S5 n):=aM (X:=zQ n) c0 func47
theorem T7:aq prog 49 (HH n):=aM (X:=HG n) c0 func49
theorem aeF:aq prog 48 (LO n):=aM (X:=LN n) (cc (T7 n) c0) func48
theorem akv:aq prog 17 (S6 n):=aM (X:=HI n) (cc (aku n) (cc (aeF n) (cc (T7 n) c0))) func17
theorem JN:aq prog 3 (cF n):=aM (X:=u9 n) (cc (Pk n) (cc (aev n) (cc (aew n) (cc (Js n) (cc (Ju n) (cc (aeE n) (cc (Ph n) (cc (Pp n) (cc (akt n) (cc (akv n) c0)))))))))) func3
theorem akw:aq prog 21 (S8 n):=aM (X:=S7 n) (cc (Yt n) c0) func21
theorem akx:aq prog 135 (S9 n):=aM (X:=HJ n) c0 func135
theorem amw:aq prog 95 (Yk n):=aM (X:=Yj n) (cc (akx n) c0) func95
theorem aoH:aq prog 52 (adH n):=aM (X:=adG n) (cc (aeD n) (cc (Ys n) (cc (amw n) c0))) func52
theorem ahb:aq prog 19 (O9 n):=aM (X:=O8 n) (cc (Ju n) (cc (Pp n) (cc (akw n) (cc (aoH n) c0)))) func19
theorem Qz:aq prog 4 (dB n):=aM (X:=A9 n) (cc (Pk n) (cc (Pj n) (cc (aev n) (cc (aew n) (cc (ahb n) (cc (aeE n) c0)))))) func4
end
end Go.Am
