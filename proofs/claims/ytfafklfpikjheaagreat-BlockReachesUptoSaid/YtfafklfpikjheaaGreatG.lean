import Derived.Test.YtfafklfpikjheaaGreatA7
import Derived.Test.YtfafklfpikjheaaGreatT2
import Derived.Test.YtfafklfpikjheaaGreatProg
set_option linter.unusedVariables false
set_option linter.unusedSimpArgs false
/- The program's types, in the abstract machine's words. -/
namespace Go.Am
open Go Go.Proofs

abbrev Y0 : Ty := .pair (.int .i64) (.int .i64)
abbrev Y1 : Ty := .pair (.int .i64) Y0
abbrev Y2 : Ty := .pair (.int .i64) Y1
abbrev Y3 : Ty := .pair (.int .i64) Y2
abbrev Y4 : Ty := .pair (.int .i64) Y3
abbrev Y5 : Ty := .sl .str
abbrev Y6 : Ty := .sl Y1
abbrev Y7 : Ty := .pair Y5 Y6
abbrev Y8 : Ty := .sl (.int .i8)
abbrev Y9 : Ty := .pair Y8 Y1
abbrev Y10 : Ty := .pair Y8 Y9
abbrev Y11 : Ty := .pair Y8 Y10
abbrev Y12 : Ty := .pair (.int .i64) Y11
abbrev Y13 : Ty := .pair (.int .i64) Y12
abbrev Y14 : Ty := .pair (.int .i64) Y13
abbrev Y15 : Ty := .pair (.int .i64) Y14
abbrev Y16 : Ty := .pair (.int .i64) Y15
abbrev Y17 : Ty := .pair Y8 Y16
abbrev Y18 : Ty := .pair Y8 Y17
abbrev Y19 : Ty := .pair Y8 Y18
abbrev Y20 : Ty := .pair Y8 Y19
abbrev Y21 : Ty := .pair Y8 Y20
abbrev Y22 : Ty := .pair Y8 Y21
abbrev Y23 : Ty := .sl Y22
abbrev Y24 : Ty := .pair Y8 (.int .i64)
abbrev Y25 : Ty := .pair Y8 Y24
abbrev Y26 : Ty := .pair Y8 Y25
abbrev Y27 : Ty := .pair Y23 Y26
abbrev Y28 : Ty := .pair Y8 Y27
abbrev Y29 : Ty := .pair Y8 Y28
abbrev Y30 : Ty := .pair (.int .i64) Y29
abbrev Y31 : Ty := .pair Y8 Y30
abbrev Y32 : Ty := .pair Y7 Y31
abbrev Y33 : Ty := .pair Y4 Y32
abbrev Y34 : Ty := .pair Y8 Y8
abbrev Y35 : Ty := .pair Y8 Y34
abbrev Y36 : Ty := .pair (.int .i64) Y35
abbrev Y37 : Ty := .sl (.int .i64)
abbrev Y38 : Ty := .sl Y37
abbrev Y39 : Ty := .sl Y8
abbrev Y40 : Ty := .ref (.int .i64)
abbrev Y41 : Ty := .sl Y34
abbrev Y42 : Ty := .pair Y36 Y41
abbrev Y43 : Ty := .pair Y22 Y42
abbrev Y44 : Ty := .sl (.int .u8)
def T2 : TD := ⟨.int .i64, 1, 8, false, some (.int .i64), true, []⟩
def T3 : TD := ⟨.int .i64, 1, 8, false, some (.int .i64), true, []⟩
def T4 : TD := ⟨.bool, 1, 1, false, some .bool, true, []⟩
def T5 : TD := ⟨.int .u8, 1, 1, false, some (.int .u8), true, []⟩
def T9 : TD := ⟨.str, 1, 16, false, some .str, true, []⟩
def T22 : TD := ⟨.slice 67, 1, 24, false, some Y8, true, []⟩
def T24 : TD := ⟨.struct [(22, 0), (22, 1), (22, 2), (3, 3), (3, 4), (3, 5)], 6, 96, true, some Y11, true, []⟩
def T26 : TD := ⟨.struct [(22, 0), (22, 1), (22, 2), (22, 3), (22, 4), (22, 5), (3, 6), (3, 7), (3, 8), (3, 9), (3, 10), (24, 11)], 17, 280, true, some Y22, true, []⟩
def T28 : TD := ⟨.struct [(3, 0), (22, 1), (22, 2), (22, 3)], 4, 80, true, some Y36, true, []⟩
def T29 : TD := ⟨.slice 43, 1, 24, false, some Y41, true, []⟩
def T31 : TD := ⟨.struct [(26, 0), (28, 17), (29, 21)], 22, 384, true, some Y43, true, []⟩
def T32 : TD := ⟨.slice 2, 1, 24, false, some Y37, true, []⟩
def T34 : TD := ⟨.struct [(22, 0), (22, 1), (22, 2), (3, 3), (3, 4), (3, 5)], 6, 96, true, some Y11, true, []⟩
def T36 : TD := ⟨.struct [(22, 0), (22, 1), (22, 2), (22, 3), (22, 4), (22, 5), (3, 6), (3, 7), (3, 8), (3, 9), (3, 10), (34, 11)], 17, 280, true, some Y22, true, []⟩
def T38 : TD := ⟨.struct [(3, 0), (22, 1), (22, 2), (22, 3)], 4, 80, true, some Y36, true, []⟩
def T40 : TD := ⟨.slice 47, 1, 24, false, some Y41, true, []⟩
def T43 : TD := ⟨.struct [(22, 0), (22, 1)], 2, 48, true, some Y34, true, []⟩
def T44 : TD := ⟨.int .i64, 1, 8, false, some (.int .i64), true, []⟩
def T47 : TD := ⟨.struct [(22, 0), (22, 1)], 2, 48, true, some Y34, true, []⟩
def T58 : TD := ⟨.slice 32, 1, 24, false, some Y38, true, []⟩
def T67 : TD := ⟨.int .i8, 1, 1, false, some (.int .i8), true, []⟩
def T70 : TD := ⟨.struct [(3, 0), (3, 1), (3, 2), (3, 3), (3, 4), (3, 5)], 6, 48, true, some Y4, true, []⟩
def T71 : TD := ⟨.slice 9, 1, 24, false, some Y5, true, []⟩
def T72 : TD := ⟨.slice 118, 1, 24, false, some Y6, true, []⟩
def T74 : TD := ⟨.struct [(71, 0), (72, 1)], 2, 48, true, some Y7, true, []⟩
def T75 : TD := ⟨.slice 26, 1, 24, false, some Y23, true, []⟩
def T77 : TD := ⟨.struct [(70, 0), (74, 6), (22, 8), (3, 9), (22, 10), (22, 11), (75, 12), (22, 13), (22, 14), (22, 15), (3, 16)], 17, 280, true, some Y33, true, []⟩
def T78 : TD := ⟨.slice 3, 1, 24, false, some Y37, true, []⟩
def T81 : TD := ⟨.struct [(3, 0), (3, 1), (3, 2), (3, 3), (3, 4), (3, 5)], 6, 48, true, some Y4, true, [(.int .i64), (.int .i64), (.int .i64), (.int .i64), (.int .i64), (.int .i64)]⟩
def T82 : TD := ⟨.slice 119, 1, 24, false, some Y6, true, []⟩
def T84 : TD := ⟨.struct [(71, 0), (82, 1)], 2, 48, true, some Y7, true, []⟩
def T85 : TD := ⟨.slice 36, 1, 24, false, some Y23, true, []⟩
def T87 : TD := ⟨.struct [(81, 0), (84, 6), (22, 8), (3, 9), (22, 10), (22, 11), (85, 12), (22, 13), (22, 14), (22, 15), (3, 16)], 17, 280, true, some Y33, true, []⟩
def T90 : TD := ⟨.int .u64, 1, 8, false, some (.int .u64), true, []⟩
def T118 : TD := ⟨.struct [(3, 0), (3, 1), (3, 2)], 3, 24, true, some Y1, true, []⟩
def T119 : TD := ⟨.struct [(3, 0), (3, 1), (3, 2)], 3, 24, true, some Y1, true, [(.int .i64), (.int .i64), (.int .i64)]⟩
def T142 : TD := ⟨.slice 22, 1, 24, false, some Y39, true, []⟩
def T162 : TD := ⟨.int .u64, 1, 8, false, some (.int .u64), true, []⟩
def T185 : TD := ⟨.slice 5, 1, 24, false, some Y44, true, []⟩
def T207 : TD := ⟨.array 4 2, 4, 32, true, some Y2, true, []⟩
def tt : List (TypeId × TD) := [(2, T2), (3, T3), (4, T4), (5, T5), (9, T9), (22, T22), (24, T24), (26, T26), (28, T28), (29, T29), (31, T31), (32, T32), (34, T34), (36, T36), (38, T38), (40, T40), (43, T43), (44, T44), (47, T47), (58, T58), (67, T67), (70, T70), (71, T71), (72, T72), (74, T74), (75, T75), (77, T77), (78, T78), (81, T81), (82, T82), (84, T84), (85, T85), (87, T87), (90, T90), (118, T118), (119, T119), (142, T142), (162, T162), (185, T185), (207, T207)]

theorem TOK.z {P : Program} {t : TypeId} {d : TD} {τ : Ty} (h1 : (P.underlying t).map descK = some d.desc) (h2 : aggK d.desc = d.agg) (h3 : (P.info? t).map (fun i => (i.size, i.bytes)) = some (d.size, d.bytes)) (h4 : tyOK d = true) (h5 : d.zero = true) (h6 : d.ty = some τ)
    (h7 : (P.info? t).map (fun i => i.zero.map fun z => (z.cells.toList, aggV z)) = some (some (τ.zvals, d.agg))) (h8 : d.eq = [] ∨ flatB P t d.eq = true) : TOK P t d := ⟨h1, h2, h3, h4, h8, by rw [h5, h6]; exact h7⟩
theorem TOK.n {P : Program} {t : TypeId} {d : TD} (h1 : (P.underlying t).map descK = some d.desc) (h2 : aggK d.desc = d.agg) (h3 : (P.info? t).map (fun i => (i.size, i.bytes)) = some (d.size, d.bytes)) (h4 : tyOK d = true) (h5 : d.zero = false) (h8 : d.eq = [] ∨ flatB P t d.eq = true) : TOK P t d := ⟨h1, h2, h3, h4, h8, by rw [h5]; trivial⟩
theorem T2_ok : TOK Tryz.prog 2 T2 := TOK.z (by kernel_rfl) rfl (by kernel_rfl) rfl rfl rfl (by kernel_rfl) (.inl rfl)
theorem T3_ok : TOK Tryz.prog 3 T3 := TOK.z (by kernel_rfl) rfl (by kernel_rfl) rfl rfl rfl (by kernel_rfl) (.inl rfl)
theorem T4_ok : TOK Tryz.prog 4 T4 := TOK.z (by kernel_rfl) rfl (by kernel_rfl) rfl rfl rfl (by kernel_rfl) (.inl rfl)
theorem T5_ok : TOK Tryz.prog 5 T5 := TOK.z (by kernel_rfl) rfl (by kernel_rfl) rfl rfl rfl (by kernel_rfl) (.inl rfl)
theorem T9_ok : TOK Tryz.prog 9 T9 := TOK.z (by kernel_rfl) rfl (by kernel_rfl) rfl rfl rfl (by kernel_rfl) (.inl rfl)
theorem T22_ok : TOK Tryz.prog 22 T22 := TOK.z (by kernel_rfl) rfl (by kernel_rfl) rfl rfl rfl (by kernel_rfl) (.inl rfl)
theorem T24_ok : TOK Tryz.prog 24 T24 := TOK.z (by kernel_rfl) rfl (by kernel_rfl) rfl rfl rfl (by kernel_rfl) (.inl rfl)
theorem T26_ok : TOK Tryz.prog 26 T26 := TOK.z (by kernel_rfl) rfl (by kernel_rfl) rfl rfl rfl (by kernel_rfl) (.inl rfl)
theorem T28_ok : TOK Tryz.prog 28 T28 := TOK.z (by kernel_rfl) rfl (by kernel_rfl) rfl rfl rfl (by kernel_rfl) (.inl rfl)
theorem T29_ok : TOK Tryz.prog 29 T29 := TOK.z (by kernel_rfl) rfl (by kernel_rfl) rfl rfl rfl (by kernel_rfl) (.inl rfl)
theorem T31_ok : TOK Tryz.prog 31 T31 := TOK.z (by kernel_rfl) rfl (by kernel_rfl) rfl rfl rfl (by kernel_rfl) (.inl rfl)
theorem T32_ok : TOK Tryz.prog 32 T32 := TOK.z (by kernel_rfl) rfl (by kernel_rfl) rfl rfl rfl (by kernel_rfl) (.inl rfl)
theorem T34_ok : TOK Tryz.prog 34 T34 := TOK.z (by kernel_rfl) rfl (by kernel_rfl) rfl rfl rfl (by kernel_rfl) (.inl rfl)
theorem T36_ok : TOK Tryz.prog 36 T36 := TOK.z (by kernel_rfl) rfl (by kernel_rfl) rfl rfl rfl (by kernel_rfl) (.inl rfl)
theorem T38_ok : TOK Tryz.prog 38 T38 := TOK.z (by kernel_rfl) rfl (by kernel_rfl) rfl rfl rfl (by kernel_rfl) (.inl rfl)
theorem T40_ok : TOK Tryz.prog 40 T40 := TOK.z (by kernel_rfl) rfl (by kernel_rfl) rfl rfl rfl (by kernel_rfl) (.inl rfl)
theorem T43_ok : TOK Tryz.prog 43 T43 := TOK.z (by kernel_rfl) rfl (by kernel_rfl) rfl rfl rfl (by kernel_rfl) (.inl rfl)
theorem T44_ok : TOK Tryz.prog 44 T44 := TOK.z (by kernel_rfl) rfl (by kernel_rfl) rfl rfl rfl (by kernel_rfl) (.inl rfl)
theorem T47_ok : TOK Tryz.prog 47 T47 := TOK.z (by kernel_rfl) rfl (by kernel_rfl) rfl rfl rfl (by kernel_rfl) (.inl rfl)
theorem T58_ok : TOK Tryz.prog 58 T58 := TOK.z (by kernel_rfl) rfl (by kernel_rfl) rfl rfl rfl (by kernel_rfl) (.inl rfl)
theorem T67_ok : TOK Tryz.prog 67 T67 := TOK.z (by kernel_rfl) rfl (by kernel_rfl) rfl rfl rfl (by kernel_rfl) (.inl rfl)
theorem T70_ok : TOK Tryz.prog 70 T70 := TOK.z (by kernel_rfl) rfl (by kernel_rfl) rfl rfl rfl (by kernel_rfl) (.inl rfl)
theorem T71_ok : TOK Tryz.prog 71 T71 := TOK.z (by kernel_rfl) rfl (by kernel_rfl) rfl rfl rfl (by kernel_rfl) (.inl rfl)
theorem T72_ok : TOK Tryz.prog 72 T72 := TOK.z (by kernel_rfl) rfl (by kernel_rfl) rfl rfl rfl (by kernel_rfl) (.inl rfl)
theorem T74_ok : TOK Tryz.prog 74 T74 := TOK.z (by kernel_rfl) rfl (by kernel_rfl) rfl rfl rfl (by kernel_rfl) (.inl rfl)
theorem T75_ok : TOK Tryz.prog 75 T75 := TOK.z (by kernel_rfl) rfl (by kernel_rfl) rfl rfl rfl (by kernel_rfl) (.inl rfl)
theorem T77_ok : TOK Tryz.prog 77 T77 := TOK.z (by kernel_rfl) rfl (by kernel_rfl) rfl rfl rfl (by kernel_rfl) (.inl rfl)
theorem T78_ok : TOK Tryz.prog 78 T78 := TOK.z (by kernel_rfl) rfl (by kernel_rfl) rfl rfl rfl (by kernel_rfl) (.inl rfl)
theorem T81_ok : TOK Tryz.prog 81 T81 := TOK.z (by kernel_rfl) rfl (by kernel_rfl) rfl rfl rfl (by kernel_rfl) (.inr (by kernel_rfl))
theorem T82_ok : TOK Tryz.prog 82 T82 := TOK.z (by kernel_rfl) rfl (by kernel_rfl) rfl rfl rfl (by kernel_rfl) (.inl rfl)
theorem T84_ok : TOK Tryz.prog 84 T84 := TOK.z (by kernel_rfl) rfl (by kernel_rfl) rfl rfl rfl (by kernel_rfl) (.inl rfl)
theorem T85_ok : TOK Tryz.prog 85 T85 := TOK.z (by kernel_rfl) rfl (by kernel_rfl) rfl rfl rfl (by kernel_rfl) (.inl rfl)
theorem T87_ok : TOK Tryz.prog 87 T87 := TOK.z (by kernel_rfl) rfl (by kernel_rfl) rfl rfl rfl (by kernel_rfl) (.inl rfl)
theorem T90_ok : TOK Tryz.prog 90 T90 := TOK.z (by kernel_rfl) rfl (by kernel_rfl) rfl rfl rfl (by kernel_rfl) (.inl rfl)
theorem T118_ok : TOK Tryz.prog 118 T118 := TOK.z (by kernel_rfl) rfl (by kernel_rfl) rfl rfl rfl (by kernel_rfl) (.inl rfl)
theorem T119_ok : TOK Tryz.prog 119 T119 := TOK.z (by kernel_rfl) rfl (by kernel_rfl) rfl rfl rfl (by kernel_rfl) (.inr (by kernel_rfl))
theorem T142_ok : TOK Tryz.prog 142 T142 := TOK.z (by kernel_rfl) rfl (by kernel_rfl) rfl rfl rfl (by kernel_rfl) (.inl rfl)
theorem T162_ok : TOK Tryz.prog 162 T162 := TOK.z (by kernel_rfl) rfl (by kernel_rfl) rfl rfl rfl (by kernel_rfl) (.inl rfl)
theorem T185_ok : TOK Tryz.prog 185 T185 := TOK.z (by kernel_rfl) rfl (by kernel_rfl) rfl rfl rfl (by kernel_rfl) (.inl rfl)
theorem T207_ok : TOK Tryz.prog 207 T207 := TOK.z (by kernel_rfl) rfl (by kernel_rfl) rfl rfl rfl (by kernel_rfl) (.inl rfl)
theorem XOK_nil {P : Program} : XOK P [] := fun _ h => by cases h
theorem XOK_cons {P : Program} {t : TypeId} {d : TD} {l : List (TypeId × TD)} (h : TOK P t d) (k : XOK P l) : XOK P ((t, d) :: l) := fun p hp => by
  rcases List.mem_cons.1 hp with rfl | hp
  · exact h
  · exact k p hp
theorem ttOK : XOK Tryz.prog tt := XOK_cons T2_ok (XOK_cons T3_ok (XOK_cons T4_ok (XOK_cons T5_ok (XOK_cons T9_ok (XOK_cons T22_ok (XOK_cons T24_ok (XOK_cons T26_ok (XOK_cons T28_ok (XOK_cons T29_ok (XOK_cons T31_ok (XOK_cons T32_ok (XOK_cons T34_ok (XOK_cons T36_ok (XOK_cons T38_ok (XOK_cons T40_ok (XOK_cons T43_ok (XOK_cons T44_ok (XOK_cons T47_ok (XOK_cons T58_ok (XOK_cons T67_ok (XOK_cons T70_ok (XOK_cons T71_ok (XOK_cons T72_ok (XOK_cons T74_ok (XOK_cons T75_ok (XOK_cons T77_ok (XOK_cons T78_ok (XOK_cons T81_ok (XOK_cons T82_ok (XOK_cons T84_ok (XOK_cons T85_ok (XOK_cons T87_ok (XOK_cons T90_ok (XOK_cons T118_ok (XOK_cons T119_ok (XOK_cons T142_ok (XOK_cons T162_ok (XOK_cons T185_ok (XOK_cons T207_ok (XOK_nil))))))))))))))))))))))))))))))))))))))))
theorem callsOK_nil {P : Program} : ∀ f E, lookO f ([] : List (FuncId × Entry)) = some E → PSound P f E := fun _ _ h => by cases h
theorem callsOK_cons {P : Program} {g : FuncId} {D : Entry} {l : List (FuncId × Entry)} (h : PSound P g D) (k : ∀ f E, lookO f l = some E → PSound P f E) : ∀ f E, lookO f ((g, D) :: l) = some E → PSound P f E := fun f E he => by
  simp only [lookO] at he
  split at he
  · rename_i hb
    cases he
    rw [← Nat.eq_of_beq_eq_true hb]; exact h
  · exact k f E he
theorem ownsOK_nil {P : Program} : ∀ f E, lookO f ([] : List (FuncId × OEntry)) = some E → OSound P f E := fun _ _ h => by cases h
theorem ownsOK_cons {P : Program} {g : FuncId} {D : OEntry} {l : List (FuncId × OEntry)} (h : OSound P g D) (k : ∀ f E, lookO f l = some E → OSound P f E) : ∀ f E, lookO f ((g, D) :: l) = some E → OSound P f E := fun f E he => by
  simp only [lookO] at he
  split at he
  · rename_i hb
    cases he
    rw [← Nat.eq_of_beq_eq_true hb]; exact h
  · exact k f E he
theorem psound_none {P : Program} {f : FuncId} {fn : Func} {ps rs : List Ty} (hf : P.funcs[f]? = some fn) (hn : (fn.name == "runtime.NumGoroutine") = false) (hb : fn.body.isNone = false) (hnr : rs.all Ty.noRef = true) : PSound P f ⟨ps, rs, fun _ => none⟩ := ⟨⟨fn, hf, hn, hb⟩, hnr, fun _ _ _ _ _ _ _ _ _ h => by cases h⟩
theorem mixed : Tryz.prog.follows .mixedOrders = true := by kernel_rfl
def O45 : OEntry := ⟨[.sl Y34], Y34, fun x => app 48 [] x⟩
theorem O45_ok : OSound Tryz.prog 45 O45 := osound_of_body (X := { tt := tt, calls := [], owns := [], loops := [], joins := [], nt := 8, fuel := 0 }) (fn := Tryz.f45) (e0 := Y34) (eT := Y34) mixed ⟨ttOK, callsOK_nil, ownsOK_nil⟩ Tryz.func45 (by kernel_rfl) (by kernel_rfl) (by kernel_rfl) (by decide) fun x l h => by
  have hb : bodyRunO { tt := tt, calls := [], owns := [], loops := [], joins := [], nt := 8, fuel := 0 } Tryz.f45 Y34 [.v false [.sl Y34 x .nn]] = (app 48 [] x).bind fun l => some l := by kernel_rfl
  refine ⟨?_, fun hx => ?_⟩
  · rw [hb, h]; rfl
  · subst hx
    cases h
    kernel_rfl
end Go.Am
