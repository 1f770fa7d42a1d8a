import Derived.Test.YtfafklfpikjheaaGreatD1
set_option linter.unusedVariables false
set_option linter.unusedSimpArgs false
namespace Go.Am
open Go Go.Proofs

/-! ### 96: herald/vec.dot -/
def V_vec_dot_3 : NS := ⟨[(1, .data Y8), (5, .data (.int .i64)), (8, .data Y8), (9, .data (.int .i64)), (10, .data (.int .i64))], [], 5⟩
def S_vec_dot_3 : LS := ⟨V_vec_dot_3, [(.exit 0, ⟨[(5, .data (.int .i64))], [], 5⟩)]⟩
noncomputable def X_vec_dot (n : Nat) : Cx := { tt := tt, calls := [], owns := [], loops := [(3, S_vec_dot_3)], joins := [], nt := 27, fuel := n }
noncomputable def F_vec_dot (n : Nat) (x : (List Int) × (List Int)) : Option (Int) := bodyRun (X_vec_dot n) Tryz.f96 [Y8, Y8] [(.int .i64)] x
noncomputable def E_vec_dot (n : Nat) : Entry := ⟨[Y8, Y8], [(.int .i64)], F_vec_dot n⟩
noncomputable def L_vec_dot_3 (n k : Nat) (v : (List Int) × Int × (List Int) × Int × Int × Unit) : Option ((Int × Unit)) := loopRun (X_vec_dot n) Tryz.f96 S_vec_dot_3 3 k v

/-! ### 54: herald/vec.Times -/
noncomputable def F_vec_Times (n : Nat) (x : (List Int) × Int × (List Int)) : Option ((List Int) × Int) := Tryz.timesF (F_vec_matrix n) (F_vec_dot n) x
noncomputable def E_vec_Times (n : Nat) : Entry := ⟨[Y8, (.int .i64), Y8], [Y37, (.int .i64)], F_vec_Times n⟩

/-! ### 67: herald/vec.fit[int64] -/
def V_vec_fit_int64_2 : NS := ⟨[(0, .data Y38), (7, .data Y38), (8, .data (.int .i64)), (9, .data (.int .i64))], [], 4⟩
def S_vec_fit_int64_2 : LS := ⟨V_vec_fit_int64_2, [(.ret, ⟨[(2, .data (.int .i64))], [], 4⟩), (.exit 0, ⟨[(0, .data Y38)], [], 4⟩)]⟩
def V_vec_fit_int64_8 : NS := ⟨[(0, .data Y38), (17, .data Y38), (18, .data (.int .i64)), (19, .data (.int .i64))], [], 7⟩
def S_vec_fit_int64_8 : LS := ⟨V_vec_fit_int64_8, [(.ret, ⟨[(2, .data (.int .i64))], [], 7⟩), (.exit 2, ⟨[], [], 7⟩)]⟩
noncomputable def X_vec_fit_int64 (n : Nat) : Cx := { tt := tt, calls := [], owns := [], loops := [(2, S_vec_fit_int64_2), (8, S_vec_fit_int64_8)], joins := [], nt := 31, fuel := n }
noncomputable def F_vec_fit_int64 (n : Nat) (x : List (List Int)) : Option (Int) := bodyRun (X_vec_fit_int64 n) Tryz.f67 [Y38] [(.int .i64)] x
noncomputable def E_vec_fit_int64 (n : Nat) : Entry := ⟨[Y38], [(.int .i64)], F_vec_fit_int64 n⟩
noncomputable def L_vec_fit_int64_2 (n k : Nat) (v : (List (List Int)) × (List (List Int)) × Int × Int × Unit) : Option ((Int × Unit) ⊕ (((List (List Int)) × Unit))) := loopRun (X_vec_fit_int64 n) Tryz.f67 S_vec_fit_int64_2 2 k v
noncomputable def L_vec_fit_int64_8 (n k : Nat) (v : (List (List Int)) × (List (List Int)) × Int × Int × Unit) : Option ((Int × Unit) ⊕ Unit) := loopRun (X_vec_fit_int64 n) Tryz.f67 S_vec_fit_int64_8 8 k v

/-! ### 64: herald/vec.Scale -/
def V_vec_Scale_9 : NS := ⟨[(1, .data (.int .i64)), (9, .fix (.v false [.vec 19])), (29, .data Y37), (30, .data (.int .i64)), (31, .data (.int .i64))], [(19, .row (.int .i64))], 24⟩
def S_vec_Scale_9 : LS := ⟨V_vec_Scale_9, [(.exit 0, ⟨[(9, .fix (.v false [.vec 19]))], [(19, .row (.int .i64))], 24⟩)]⟩
noncomputable def X_vec_Scale (n : Nat) : Cx := { tt := tt, calls := [(67, E_vec_fit_int64 n), (52, E_fixed_Round n)], owns := [], loops := [(9, S_vec_Scale_9)], joins := [], nt := 47, fuel := n }
noncomputable def F_vec_Scale (n : Nat) (x : (List Int) × Int) : Option ((List Int) × Int) := bodyRun (X_vec_Scale n) Tryz.f64 [Y37, (.int .i64)] [Y37, (.int .i64)] x
noncomputable def E_vec_Scale (n : Nat) : Entry := ⟨[Y37, (.int .i64)], [Y37, (.int .i64)], F_vec_Scale n⟩
noncomputable def L_vec_Scale_9 (n k : Nat) (v : Int × Unit × (List Int) × Int × Int × (List Int) × Unit) : Option ((Unit × (List Int) × Unit)) := loopRun (X_vec_Scale n) Tryz.f64 S_vec_Scale_9 9 k v

/-! ### 55: herald/vec.Shrink -/
def V_vec_Shrink_6 : NS := ⟨[(8, .fix (.v false [.vec 14])), (23, .data Y37), (24, .data (.int .i64)), (25, .data (.int .i64))], [(14, .row (.int .i8))], 19⟩
def S_vec_Shrink_6 : LS := ⟨V_vec_Shrink_6, [(.exit 0, ⟨[(8, .fix (.v false [.vec 14]))], [(14, .row (.int .i8))], 19⟩)]⟩
noncomputable def X_vec_Shrink (n : Nat) : Cx := { tt := tt, calls := [(64, E_vec_Scale n), (53, E_fixed_Narrow n)], owns := [], loops := [(6, S_vec_Shrink_6)], joins := [], nt := 37, fuel := n }
noncomputable def F_vec_Shrink (n : Nat) (x : (List Int) × Int) : Option ((List Int) × Int) := bodyRun (X_vec_Shrink n) Tryz.f55 [Y37, (.int .i64)] [Y8, (.int .i64)] x
noncomputable def E_vec_Shrink (n : Nat) : Entry := ⟨[Y37, (.int .i64)], [Y8, (.int .i64)], F_vec_Shrink n⟩
noncomputable def L_vec_Shrink_6 (n k : Nat) (v : Unit × (List Int) × Int × Int × (List Int) × Unit) : Option ((Unit × (List Int) × Unit)) := loopRun (X_vec_Shrink n) Tryz.f55 S_vec_Shrink_6 6 k v

/-! ### 30: herald/block.through -/
noncomputable def X_block_through (n : Nat) : Cx := { tt := tt, calls := [(54, E_vec_Times n), (55, E_vec_Shrink n)], owns := [], loops := [], joins := [], nt := 26, fuel := n }
noncomputable def F_block_through (n : Nat) (x : (List Int) × (List Int) × Int) : Option ((List Int) × Int) := bodyRun (X_block_through n) Tryz.f30 [Y8, Y8, (.int .i64)] [Y8, (.int .i64)] x
noncomputable def E_block_through (n : Nat) : Entry := ⟨[Y8, Y8, (.int .i64)], [Y8, (.int .i64)], F_block_through n⟩

/-! ### 57: herald/rope.Turn$1 -/
noncomputable def X_rope_Turn_1 (n : Nat) : Cx := { tt := tt, calls := [], owns := [], loops := [], joins := [], nt := 24, fuel := n }
noncomputable def F_rope_Turn_1 (n : Nat) (x : Int × Int × Int × Int) : Option (Int × Int) := bodyRun (X_rope_Turn_1 n) Tryz.f57 [(.int .i64), (.int .i64), (.int .i64), (.int .i64)] [(.int .i64), (.int .i64)] x
noncomputable def E_rope_Turn_1 (n : Nat) : Entry := ⟨[(.int .i64), (.int .i64), (.int .i64), (.int .i64)], [(.int .i64), (.int .i64)], F_rope_Turn_1 n⟩

/-! ### 97: herald/rope.narrow -/
noncomputable def X_rope_narrow (n : Nat) : Cx := { tt := tt, calls := [(52, E_fixed_Round n), (53, E_fixed_Narrow n)], owns := [], loops := [], joins := [], nt := 12, fuel := n }
noncomputable def F_rope_narrow (n : Nat) (x : Int) : Option (Int) := bodyRun (X_rope_narrow n) Tryz.f97 [(.int .i64)] [(.int .i8)] x
noncomputable def E_rope_narrow (n : Nat) : Entry := ⟨[(.int .i64)], [(.int .i8)], F_rope_narrow n⟩

/-! ### 56: herald/rope.pairs -/
def V_rope_pairs_g_rope_Turn_1_7 : NS := ⟨[(0, .data Y8), (1, .data (.int .i64)), (2, .data Y8), (3, .data Y8), (4, .fix (.v false [.clos 57 []])), (12, .fix (.v false [.vec 30])), (13, .data (.int .i64))], [(30, .row (.int .i8))], 33⟩
def S_rope_pairs_g_rope_Turn_1_7 : LS := ⟨V_rope_pairs_g_rope_Turn_1_7, [(.exit 0, ⟨[(12, .fix (.v false [.vec 30]))], [(30, .row (.int .i8))], 33⟩)]⟩
noncomputable def X_rope_pairs_g_rope_Turn_1 (n : Nat) : Cx := { tt := tt, calls := [(57, E_rope_Turn_1 n), (97, E_rope_narrow n)], owns := [], loops := [(7, S_rope_pairs_g_rope_Turn_1_7)], joins := [], nt := 94, fuel := n }
noncomputable def F_rope_pairs_g_rope_Turn_1 (n : Nat) (x : (List Int) × Int × (List Int) × (List Int) × Unit) : Option ((List Int) × Int) := bodyRun (X_rope_pairs_g_rope_Turn_1 n) Tryz.f56 [Y8, (.int .i64), Y8, Y8, (.fn 57)] [Y8, (.int .i64)] x
noncomputable def E_rope_pairs_g_rope_Turn_1 (n : Nat) : Entry := ⟨[Y8, (.int .i64), Y8, Y8, (.fn 57)], [Y8, (.int .i64)], F_rope_pairs_g_rope_Turn_1 n⟩
noncomputable def L_rope_pairs_g_rope_Turn_1_7 (n k : Nat) (v : (List Int) × Int × (List Int) × (List Int) × Unit × Unit × Int × (List Int) × Unit) : Option ((Unit × (List Int) × Unit)) := loopRun (X_rope_pairs_g_rope_Turn_1 n) Tryz.f56 S_rope_pairs_g_rope_Turn_1_7 7 k v

/-! ### 31: herald/rope.Turn -/
noncomputable def X_rope_Turn (n : Nat) : Cx := { tt := tt, calls := [(56, E_rope_pairs_g_rope_Turn_1 n)], owns := [], loops := [], joins := [], nt := 17, fuel := n }
noncomputable def F_rope_Turn (n : Nat) (x : (List Int) × Int × (List Int) × (List Int)) : Option ((List Int) × Int) := bodyRun (X_rope_Turn n) Tryz.f31 [Y8, (.int .i64), Y8, Y8] [Y8, (.int .i64)] x
noncomputable def E_rope_Turn (n : Nat) : Entry := ⟨[Y8, (.int .i64), Y8, Y8], [Y8, (.int .i64)], F_rope_Turn n⟩

/-! ### 12: herald/block.Keys -/
noncomputable def X_block_Keys (n : Nat) : Cx := { tt := tt, calls := [(28, E_block_angles n), (29, E_norm_Row n), (30, E_block_through n), (31, E_rope_Turn n)], owns := [], loops := [], joins := [], nt := 82, fuel := n }
noncomputable def F_block_Keys (n : Nat) (x : ((List Int) × (List Int) × (List Int) × (List Int) × (List Int) × (List Int) × Int × Int × Int × Int × Int × (List Int) × (List Int) × (List Int) × Int × Int × Int) × (Int × (List Int) × (List Int) × (List Int)) × (List Int) × Int) : Option (((List Int) × (List Int)) × Int) := bodyRun (X_block_Keys n) Tryz.f12 [Y22, Y36, Y37, (.int .i64)] [Y34, (.int .i64)] x
noncomputable def E_block_Keys (n : Nat) : Entry := ⟨[Y22, Y36, Y37, (.int .i64)], [Y34, (.int .i64)], F_block_Keys n⟩

/-! ### 102: herald/attend.fit -/
def V_attend_fit_4 : NS := ⟨[(0, .data Y8), (25, .data Y39), (26, .data (.int .i64)), (27, .data (.int .i64))], [], 22⟩
def S_attend_fit_4 : LS := ⟨V_attend_fit_4, [(.ret, ⟨[(4, .data .bool)], [], 22⟩), (.exit 0, ⟨[], [], 22⟩)]⟩
noncomputable def X_attend_fit (n : Nat) : Cx := { tt := tt, calls := [], owns := [], loops := [(4, S_attend_fit_4)], joins := [], nt := 37, fuel := n }
noncomputable def F_attend_fit (n : Nat) (x : (List Int) × (List (List Int))) : Option (Bool) := bodyRun (X_attend_fit n) Tryz.f102 [Y8, Y39] [.bool] x
noncomputable def E_attend_fit (n : Nat) : Entry := ⟨[Y8, Y39], [.bool], F_attend_fit n⟩
noncomputable def L_attend_fit_4 (n k : Nat) (v : (List Int) × (List (List Int)) × Int × Int × Unit) : Option ((Bool × Unit) ⊕ Unit) := loopRun (X_attend_fit n) Tryz.f102 S_attend_fit_4 4 k v

/-! ### 103: herald/attend.Look$1 -/
def V_attend_Look_1_3 : NS := ⟨[(1, .ref (.int .i64)), (2, .ref (.int .i64)), (5, .own Y8), (8, .data Y39), (9, .data (.int .i64)), (10, .data (.int .i64))], [], 5⟩
def S_attend_Look_1_3 : LS := ⟨V_attend_Look_1_3, [(.exit 0, ⟨[(5, .own Y8)], [], 5⟩)]⟩
noncomputable def X_attend_Look_1 (n : Nat) : Cx := { tt := tt, calls := [], owns := [], loops := [(3, S_attend_Look_1_3)], joins := [], nt := 25, fuel := n }
noncomputable def F_attend_Look_1 (n : Nat) (x : (List (List Int)) × Int × Int) : Option (List (List Int)) := bodyRun (X_attend_Look_1 n) Tryz.f103 [Y39, Y40, Y40] [Y39] x
noncomputable def E_attend_Look_1 (n : Nat) : Entry := ⟨[Y39, Y40, Y40], [Y39], F_attend_Look_1 n⟩
noncomputable def L_attend_Look_1_3 (n k : Nat) (v : Int × Int × (List (List Int)) × (List (List Int)) × Int × Int × Unit) : Option (((List (List Int)) × Unit)) := loopRun (X_attend_Look_1 n) Tryz.f103 S_attend_Look_1_3 3 k v

/-! ### 132: herald/vec.fit[int8] -/
def V_vec_fit_int8_2 : NS := ⟨[(0, .data Y39), (7, .data Y39), (8, .data (.int .i64)), (9, .data (.int .i64))], [], 4⟩
def S_vec_fit_int8_2 : LS := ⟨V_vec_fit_int8_2, [(.ret, ⟨[(2, .data (.int .i64))], [], 4⟩), (.exit 0, ⟨[(0, .data Y39)], [], 4⟩)]⟩
def V_vec_fit_int8_8 : NS := ⟨[(0, .data Y39), (17, .data Y39), (18, .data (.int .i64)), (19, .data (.int .i64))], [], 7⟩
def S_vec_fit_int8_8 : LS := ⟨V_vec_fit_int8_8, [(.ret, ⟨[(2, .data (.int .i64))], [], 7⟩), (.exit 2, ⟨[], [], 7⟩)]⟩
noncomputable def X_vec_fit_int8 (n : Nat) : Cx := { tt := tt, calls := [], owns := [], loops := [(2, S_vec_fit_int8_2), (8, S_vec_fit_int8_8)], joins := [], nt := 31, fuel := n }
noncomputable def F_vec_fit_int8 (n : Nat) (x : List (List Int)) : Option (Int) := bodyRun (X_vec_fit_int8 n) Tryz.f132 [Y39] [(.int .i64)] x
noncomputable def E_vec_fit_int8 (n : Nat) : Entry := ⟨[Y39], [(.int .i64)], F_vec_fit_int8 n⟩
noncomputable def L_vec_fit_int8_2 (n k : Nat) (v : (List (List Int)) × (List (List Int)) × Int × Int × Unit) : Option ((Int × Unit) ⊕ (((List (List Int)) × Unit))) := loopRun (X_vec_fit_int8 n) Tryz.f132 S_vec_fit_int8_2 2 k v
noncomputable def L_vec_fit_int8_8 (n k : Nat) (v : (List (List Int)) × (List (List Int)) × Int × Int × Unit) : Option ((Int × Unit) ⊕ Unit) := loopRun (X_vec_fit_int8 n) Tryz.f132 S_vec_fit_int8_8 8 k v

/-! ### 127: herald/vec.Dot -/
noncomputable def X_vec_Dot (n : Nat) : Cx := { tt := tt, calls := [(132, E_vec_fit_int8 n), (96, E_vec_dot n)], owns := [], loops := [], joins := [], nt := 17, fuel := n }
noncomputable def F_vec_Dot (n : Nat) (x : (List Int) × (List Int)) : Option (Int × Int) := bodyRun (X_vec_Dot n) Tryz.f127 [Y8, Y8] [(.int .i64), (.int .i64)] x
noncomputable def E_vec_Dot (n : Nat) : Entry := ⟨[Y8, Y8], [(.int .i64), (.int .i64)], F_vec_Dot n⟩

/-! ### 118: herald/attend.Scores -/
def V_attend_Scores_7 : NS := ⟨[(0, .data Y8), (2, .data (.int .i64)), (8, .own (.int .i64)), (25, .data Y39), (26, .data (.int .i64)), (27, .data (.int .i64))], [], 18⟩
def S_attend_Scores_7 : LS := ⟨V_attend_Scores_7, [(.exit 1, ⟨[(8, .own (.int .i64))], [], 18⟩)]⟩
noncomputable def X_attend_Scores (n : Nat) : Cx := { tt := tt, calls := [(102, E_attend_fit n), (127, E_vec_Dot n), (52, E_fixed_Round n)], owns := [], loops := [(7, S_attend_Scores_7)], joins := [], nt := 49, fuel := n }
noncomputable def F_attend_Scores (n : Nat) (x : (List Int) × (List (List Int)) × Int) : Option ((List Int) × Int) := bodyRun (X_attend_Scores n) Tryz.f118 [Y8, Y39, (.int .i64)] [Y37, (.int .i64)] x
noncomputable def E_attend_Scores (n : Nat) : Entry := ⟨[Y8, Y39, (.int .i64)], [Y37, (.int .i64)], F_attend_Scores n⟩
noncomputable def L_attend_Scores_7 (n k : Nat) (v : (List Int) × Int × (List Int) × (List (List Int)) × Int × Int × Unit) : Option (((List Int) × Unit)) := loopRun (X_attend_Scores n) Tryz.f118 S_attend_Scores_7 7 k v

end Go.Am
