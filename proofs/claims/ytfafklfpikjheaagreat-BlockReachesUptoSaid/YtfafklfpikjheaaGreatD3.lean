import Derived.Test.YtfafklfpikjheaaGreatD2
set_option linter.unusedVariables false
set_option linter.unusedSimpArgs false
namespace Go.Am
open Go Go.Proofs

/-! ### 128: slices.Max[[]int64,int64] -/
def V_slices_Max_int64_5 : NS := ⟨[(0, .data Y37), (3, .data (.int .i64)), (4, .data (.int .i64))], [], 9⟩
def S_slices_Max_int64_5 : LS := ⟨V_slices_Max_int64_5, [(.exit 0, ⟨[(3, .data (.int .i64))], [], 9⟩)]⟩
def J_slices_Max_int64_7 : NS := ⟨[(0, .data Y37)], [], 4⟩
noncomputable def X_slices_Max_int64 (n : Nat) : Cx := { tt := tt, calls := [], owns := [], loops := [(5, S_slices_Max_int64_5)], joins := [(7, J_slices_Max_int64_7)], nt := 25, fuel := n }
noncomputable def F_slices_Max_int64 (n : Nat) (x : List Int) : Option (Int) := bodyRun (X_slices_Max_int64 n) Tryz.f128 [Y37] [(.int .i64)] x
noncomputable def E_slices_Max_int64 (n : Nat) : Entry := ⟨[Y37], [(.int .i64)], F_slices_Max_int64 n⟩
noncomputable def L_slices_Max_int64_5 (n k : Nat) (v : (List Int) × Int × Int × Unit) : Option ((Int × Unit)) := loopRun (X_slices_Max_int64 n) Tryz.f128 S_slices_Max_int64_5 5 k v

/-! ### 129: herald/fixed.Exp2 -/
def V_fixed_Exp2_8 : NS := ⟨[(3, .data (.int .i64)), (4, .data (.int .i64)), (6, .fix (.v false [.ptr 16 0])), (7, .data (.int .i64)), (22, .data (.int .i64))], [(16, .cells [.data (.int .i64), .data (.int .i64), .data (.int .i64), .data (.int .i64)])], 22⟩
def S_fixed_Exp2_8 : LS := ⟨V_fixed_Exp2_8, [(.exit 0, ⟨[(3, .data (.int .i64)), (7, .data (.int .i64))], [], 22⟩)]⟩
noncomputable def X_fixed_Exp2 (n : Nat) : Cx := { tt := tt, calls := [(114, E_fixed_Floor n)], owns := [], loops := [(8, S_fixed_Exp2_8)], joins := [], nt := 39, fuel := n }
noncomputable def F_fixed_Exp2 (n : Nat) (x : Int) : Option (Int) := bodyRun (X_fixed_Exp2 n) Tryz.f129 [(.int .i64)] [(.int .i64)] x
noncomputable def E_fixed_Exp2 (n : Nat) : Entry := ⟨[(.int .i64)], [(.int .i64)], F_fixed_Exp2 n⟩
noncomputable def L_fixed_Exp2_8 (n k : Nat) (v : Int × Int × Unit × Int × Int × (Int × Int × Int × Int × Unit) × Unit) : Option ((Int × Int × Unit)) := loopRun (X_fixed_Exp2 n) Tryz.f129 S_fixed_Exp2_8 8 k v

/-! ### 119: herald/soft.Weights -/
def V_soft_Weights_6 : NS := ⟨[(4, .data (.int .i64)), (5, .own (.int .i64)), (19, .data Y37), (20, .data (.int .i64)), (21, .data (.int .i64))], [], 17⟩
def S_soft_Weights_6 : LS := ⟨V_soft_Weights_6, [(.exit 0, ⟨[(5, .own (.int .i64))], [], 17⟩)]⟩
noncomputable def X_soft_Weights (n : Nat) : Cx := { tt := tt, calls := [(128, E_slices_Max_int64 n), (129, E_fixed_Exp2 n)], owns := [], loops := [(6, S_soft_Weights_6)], joins := [], nt := 40, fuel := n }
noncomputable def F_soft_Weights (n : Nat) (x : List Int) : Option ((List Int) × Int) := bodyRun (X_soft_Weights n) Tryz.f119 [Y37] [Y37, (.int .i64)] x
noncomputable def E_soft_Weights (n : Nat) : Entry := ⟨[Y37], [Y37, (.int .i64)], F_soft_Weights n⟩
noncomputable def L_soft_Weights_6 (n k : Nat) (v : Int × (List Int) × (List Int) × Int × Int × Unit) : Option (((List Int) × Unit)) := loopRun (X_soft_Weights n) Tryz.f119 S_soft_Weights_6 6 k v

/-! ### 130: herald/soft.total -/
def V_soft_total_3 : NS := ⟨[(4, .data (.int .i64)), (7, .data Y37), (8, .data (.int .i64)), (9, .data (.int .i64))], [], 6⟩
def S_soft_total_3 : LS := ⟨V_soft_total_3, [(.ret, ⟨[(2, .data (.int .i64)), (3, .data (.int .i64))], [], 6⟩), (.exit 0, ⟨[(4, .data (.int .i64))], [], 6⟩)]⟩
noncomputable def X_soft_total (n : Nat) : Cx := { tt := tt, calls := [], owns := [], loops := [(3, S_soft_total_3)], joins := [], nt := 26, fuel := n }
noncomputable def F_soft_total (n : Nat) (x : List Int) : Option (Int × Int) := bodyRun (X_soft_total n) Tryz.f130 [Y37] [(.int .i64), (.int .i64)] x
noncomputable def E_soft_total (n : Nat) : Entry := ⟨[Y37], [(.int .i64), (.int .i64)], F_soft_total n⟩
noncomputable def L_soft_total_3 (n k : Nat) (v : Int × (List Int) × Int × Int × Unit) : Option ((Int × Int × Unit) ⊕ (Int × Unit)) := loopRun (X_soft_total n) Tryz.f130 S_soft_total_3 3 k v

/-! ### 131: herald/soft.Mean -/
def V_soft_Mean_8 : NS := ⟨[(1, .data Y8), (6, .data (.int .i64)), (8, .data (.int .i64)), (32, .data Y37), (33, .data (.int .i64)), (34, .data (.int .i64))], [], 25⟩
def S_soft_Mean_8 : LS := ⟨V_soft_Mean_8, [(.exit 0, ⟨[(6, .data (.int .i64)), (8, .data (.int .i64))], [], 25⟩)]⟩
noncomputable def X_soft_Mean (n : Nat) : Cx := { tt := tt, calls := [(130, E_soft_total n), (114, E_fixed_Floor n)], owns := [], loops := [(8, S_soft_Mean_8)], joins := [], nt := 62, fuel := n }
noncomputable def F_soft_Mean (n : Nat) (x : (List Int) × (List Int)) : Option (Int × Int) := bodyRun (X_soft_Mean n) Tryz.f131 [Y37, Y8] [(.int .i8), (.int .i64)] x
noncomputable def E_soft_Mean (n : Nat) : Entry := ⟨[Y37, Y8], [(.int .i8), (.int .i64)], F_soft_Mean n⟩
noncomputable def L_soft_Mean_8 (n k : Nat) (v : (List Int) × Int × Int × (List Int) × Int × Int × Unit) : Option ((Int × Int × Unit)) := loopRun (X_soft_Mean n) Tryz.f131 S_soft_Mean_8 8 k v

/-! ### 120: herald/soft.Means -/
def V_soft_Means_4 : NS := ⟨[(0, .data Y37), (1, .data Y39), (27, .data Y39), (28, .data (.int .i64)), (29, .data (.int .i64))], [], 15⟩
def S_soft_Means_4 : LS := ⟨V_soft_Means_4, [(.ret, ⟨[(4, .own (.int .i8)), (5, .data (.int .i64))], [], 15⟩), (.exit 0, ⟨[(0, .data Y37), (1, .data Y39)], [], 15⟩)]⟩
def V_soft_Means_14 : NS := ⟨[(0, .data Y37), (1, .data Y39), (10, .own (.int .i8)), (52, .data (.int .i64)), (53, .data (.int .i64))], [], 30⟩
def S_soft_Means_14 : LS := ⟨V_soft_Means_14, [(.exit 2, ⟨[(10, .own (.int .i8))], [], 30⟩)]⟩
def V_soft_Means_18 : NS := ⟨[(0, .data Y37), (1, .data Y39), (10, .own (.int .i8)), (11, .data (.int .i64)), (12, .own (.int .i8)), (52, .data (.int .i64)), (53, .data (.int .i64)), (56, .data Y39), (57, .data (.int .i64)), (58, .data (.int .i64))], [], 38⟩
def S_soft_Means_18 : LS := ⟨V_soft_Means_18, [(.exit 4, ⟨[(0, .data Y37), (1, .data Y39), (10, .own (.int .i8)), (12, .own (.int .i8)), (52, .data (.int .i64)), (53, .data (.int .i64))], [], 38⟩)]⟩
noncomputable def X_soft_Means (n : Nat) : Cx := { tt := tt, calls := [(130, E_soft_total n), (131, E_soft_Mean n)], owns := [], loops := [(4, S_soft_Means_4), (14, S_soft_Means_14), (18, S_soft_Means_18)], joins := [], nt := 82, fuel := n }
noncomputable def F_soft_Means (n : Nat) (x : (List Int) × (List (List Int))) : Option ((List Int) × Int) := bodyRun (X_soft_Means n) Tryz.f120 [Y37, Y39] [Y8, (.int .i64)] x
noncomputable def E_soft_Means (n : Nat) : Entry := ⟨[Y37, Y39], [Y8, (.int .i64)], F_soft_Means n⟩
noncomputable def L_soft_Means_4 (n k : Nat) (v : (List Int) × (List (List Int)) × (List (List Int)) × Int × Int × Unit) : Option (((List Int) × Int × Unit) ⊕ (((List Int) × (List (List Int)) × Unit))) := loopRun (X_soft_Means n) Tryz.f120 S_soft_Means_4 4 k v
noncomputable def L_soft_Means_14 (n k : Nat) (v : (List Int) × (List (List Int)) × (List Int) × Int × Int × Unit) : Option (((List Int) × Unit)) := loopRun (X_soft_Means n) Tryz.f120 S_soft_Means_14 14 k v
noncomputable def L_soft_Means_18 (n k : Nat) (v : (List Int) × (List (List Int)) × (List Int) × Int × (List Int) × Int × Int × (List (List Int)) × Int × Int × Unit) : Option (((List Int) × (List (List Int)) × (List Int) × (List Int) × Int × Int × Unit)) := loopRun (X_soft_Means n) Tryz.f120 S_soft_Means_18 18 k v

/-! ### 104: herald/attend.Head -/
noncomputable def X_attend_Head (n : Nat) : Cx := { tt := tt, calls := [(118, E_attend_Scores n), (102, E_attend_fit n), (119, E_soft_Weights n), (120, E_soft_Means n)], owns := [], loops := [], joins := [], nt := 49, fuel := n }
noncomputable def F_attend_Head (n : Nat) (x : (List Int) × (List (List Int)) × (List (List Int)) × Int) : Option ((List Int) × Int) := bodyRun (X_attend_Head n) Tryz.f104 [Y8, Y39, Y39, (.int .i64)] [Y8, (.int .i64)] x
noncomputable def E_attend_Head (n : Nat) : Entry := ⟨[Y8, Y39, Y39, (.int .i64)], [Y8, (.int .i64)], F_attend_Head n⟩

/-! ### 63: herald/attend.Look -/
def V_attend_Look_5 : NS := ⟨[(0, .data Y8), (1, .data (.int .i64)), (3, .data (.int .i64)), (10, .own Y8), (11, .own Y8), (29, .data Y41), (30, .data (.int .i64)), (31, .data (.int .i64))], [], 16⟩
def S_attend_Look_5 : LS := ⟨V_attend_Look_5, [(.exit 0, ⟨[(0, .data Y8), (1, .data (.int .i64)), (3, .data (.int .i64)), (10, .own Y8), (11, .own Y8)], [], 16⟩)]⟩
def V_attend_Look_16 : NS := ⟨[(0, .data Y8), (3, .data (.int .i64)), (10, .own Y8), (11, .own Y8), (14, .fix (.v false [.ptr 40 0])), (15, .own (.int .i8)), (16, .box [.data (.int .i64)])], [(40, .cells [.data (.int .i64)])], 45⟩
def S_attend_Look_16 : LS := ⟨V_attend_Look_16, [(.ret, ⟨[(8, .own (.int .i8)), (9, .data (.int .i64))], [], 45⟩), (.exit 3, ⟨[(15, .own (.int .i8))], [], 45⟩)]⟩
noncomputable def X_attend_Look (n : Nat) : Cx := { tt := tt, calls := [(102, E_attend_fit n), (103, E_attend_Look_1 n), (104, E_attend_Head n)], owns := [], loops := [(5, S_attend_Look_5), (16, S_attend_Look_16)], joins := [], nt := 101, fuel := n }
noncomputable def F_attend_Look (n : Nat) (x : (List Int) × Int × (List ((List Int) × (List Int))) × Int) : Option ((List Int) × Int) := bodyRun (X_attend_Look n) Tryz.f63 [Y8, (.int .i64), Y41, (.int .i64)] [Y8, (.int .i64)] x
noncomputable def E_attend_Look (n : Nat) : Entry := ⟨[Y8, (.int .i64), Y41, (.int .i64)], [Y8, (.int .i64)], F_attend_Look n⟩
noncomputable def L_attend_Look_5 (n k : Nat) (v : (List Int) × Int × Int × (List (List Int)) × (List (List Int)) × (List ((List Int) × (List Int))) × Int × Int × Unit) : Option (((List Int) × Int × Int × (List (List Int)) × (List (List Int)) × Unit)) := loopRun (X_attend_Look n) Tryz.f63 S_attend_Look_5 5 k v
noncomputable def L_attend_Look_16 (n k : Nat) (v : (List Int) × Int × (List (List Int)) × (List (List Int)) × Unit × (List Int) × (Int × Unit) × (Int × Unit) × Unit) : Option (((List Int) × Int × Unit) ⊕ (((List Int) × Unit))) := loopRun (X_attend_Look n) Tryz.f63 S_attend_Look_16 16 k v

/-! ### 68: herald/fixed.Add -/
noncomputable def X_fixed_Add (n : Nat) : Cx := { tt := tt, calls := [], owns := [], loops := [], joins := [], nt := 23, fuel := n }
noncomputable def F_fixed_Add (n : Nat) (x : Int × Int) : Option (Int × Bool) := bodyRun (X_fixed_Add n) Tryz.f68 [(.int .i64), (.int .i64)] [(.int .i64), .bool] x
noncomputable def E_fixed_Add (n : Nat) : Entry := ⟨[(.int .i64), (.int .i64)], [(.int .i64), .bool], F_fixed_Add n⟩

/-! ### 38: herald/vec.Add -/
def V_vec_Add_6 : NS := ⟨[(1, .data Y37), (7, .fix (.v false [.vec 11])), (21, .data Y37), (22, .data (.int .i64)), (23, .data (.int .i64))], [(11, .row (.int .i64))], 16⟩
def S_vec_Add_6 : LS := ⟨V_vec_Add_6, [(.ret, ⟨[(4, .own (.int .i64)), (5, .data (.int .i64))], [], 16⟩), (.exit 0, ⟨[(7, .fix (.v false [.vec 11]))], [(11, .row (.int .i64))], 16⟩)]⟩
noncomputable def X_vec_Add (n : Nat) : Cx := { tt := tt, calls := [(67, E_vec_fit_int64 n), (68, E_fixed_Add n)], owns := [], loops := [(6, S_vec_Add_6)], joins := [], nt := 44, fuel := n }
noncomputable def F_vec_Add (n : Nat) (x : (List Int) × (List Int)) : Option ((List Int) × Int) := bodyRun (X_vec_Add n) Tryz.f38 [Y37, Y37] [Y37, (.int .i64)] x
noncomputable def E_vec_Add (n : Nat) : Entry := ⟨[Y37, Y37], [Y37, (.int .i64)], F_vec_Add n⟩
noncomputable def L_vec_Add_6 (n k : Nat) (v : (List Int) × Unit × (List Int) × Int × Int × (List Int) × Unit) : Option (((List Int) × Int × Unit) ⊕ ((Unit × (List Int) × Unit))) := loopRun (X_vec_Add n) Tryz.f38 S_vec_Add_6 6 k v

/-! ### 36: herald/block.looked -/
noncomputable def X_block_looked (n : Nat) : Cx := { tt := tt, calls := [(28, E_block_angles n), (29, E_norm_Row n), (30, E_block_through n), (31, E_rope_Turn n), (63, E_attend_Look n), (54, E_vec_Times n), (64, E_vec_Scale n), (38, E_vec_Add n)], owns := [], loops := [], joins := [], nt := 105, fuel := n }
noncomputable def F_block_looked (n : Nat) (x : ((List Int) × (List Int) × (List Int) × (List Int) × (List Int) × (List Int) × Int × Int × Int × Int × Int × (List Int) × (List Int) × (List Int) × Int × Int × Int) × (Int × (List Int) × (List Int) × (List Int)) × (List Int) × (List ((List Int) × (List Int)))) : Option ((List Int) × Int) := bodyRun (X_block_looked n) Tryz.f36 [Y22, Y36, Y37, Y41] [Y37, (.int .i64)] x
noncomputable def E_block_looked (n : Nat) : Entry := ⟨[Y22, Y36, Y37, Y41], [Y37, (.int .i64)], F_block_looked n⟩

/-! ### 65: herald/act.through -/
noncomputable def X_act_through (n : Nat) : Cx := { tt := tt, calls := [(54, E_vec_Times n), (55, E_vec_Shrink n)], owns := [], loops := [], joins := [], nt := 26, fuel := n }
noncomputable def F_act_through (n : Nat) (x : (List Int) × (List Int) × Int) : Option ((List Int) × Int) := bodyRun (X_act_through n) Tryz.f65 [Y8, Y8, (.int .i64)] [Y8, (.int .i64)] x
noncomputable def E_act_through (n : Nat) : Entry := ⟨[Y8, Y8, (.int .i64)], [Y8, (.int .i64)], F_act_through n⟩

/-! ### 105: herald/act.narrow -/
noncomputable def X_act_narrow (n : Nat) : Cx := { tt := tt, calls := [(52, E_fixed_Round n), (53, E_fixed_Narrow n)], owns := [], loops := [], joins := [], nt := 15, fuel := n }
noncomputable def F_act_narrow (n : Nat) (x : Int × Int) : Option (Int) := bodyRun (X_act_narrow n) Tryz.f105 [(.int .i64), (.int .i64)] [(.int .i8)] x
noncomputable def E_act_narrow (n : Nat) : Entry := ⟨[(.int .i64), (.int .i64)], [(.int .i8)], F_act_narrow n⟩

/-! ### 66: herald/act.Gate -/
def V_act_Gate_9 : NS := ⟨[(0, .data Y8), (2, .data Y8), (8, .fix (.v false [.vec 23])), (33, .data Y8), (34, .data (.int .i64)), (35, .data (.int .i64))], [(23, .row (.int .i8))], 28⟩
def S_act_Gate_9 : LS := ⟨V_act_Gate_9, [(.exit 1, ⟨[(8, .fix (.v false [.vec 23]))], [(23, .row (.int .i8))], 28⟩)]⟩
noncomputable def X_act_Gate (n : Nat) : Cx := { tt := tt, calls := [(105, E_act_narrow n)], owns := [], loops := [(9, S_act_Gate_9)], joins := [], nt := 58, fuel := n }
noncomputable def F_act_Gate (n : Nat) (x : (List Int) × (List Int) × (List Int)) : Option ((List Int) × Int) := bodyRun (X_act_Gate n) Tryz.f66 [Y8, Y8, Y8] [Y8, (.int .i64)] x
noncomputable def E_act_Gate (n : Nat) : Entry := ⟨[Y8, Y8, Y8], [Y8, (.int .i64)], F_act_Gate n⟩
noncomputable def L_act_Gate_9 (n k : Nat) (v : (List Int) × (List Int) × Unit × (List Int) × Int × Int × (List Int) × Unit) : Option ((Unit × (List Int) × Unit)) := loopRun (X_act_Gate n) Tryz.f66 S_act_Gate_9 9 k v

/-! ### 37: herald/act.Middle -/
noncomputable def X_act_Middle (n : Nat) : Cx := { tt := tt, calls := [(65, E_act_through n), (66, E_act_Gate n), (54, E_vec_Times n), (64, E_vec_Scale n)], owns := [], loops := [], joins := [], nt := 65, fuel := n }
noncomputable def F_act_Middle (n : Nat) (x : ((List Int) × (List Int) × (List Int) × Int × Int × Int) × (List Int) × (List Int)) : Option ((List Int) × Int) := bodyRun (X_act_Middle n) Tryz.f37 [Y11, Y8, Y8] [Y37, (.int .i64)] x
noncomputable def E_act_Middle (n : Nat) : Entry := ⟨[Y11, Y8, Y8], [Y37, (.int .i64)], F_act_Middle n⟩

/-! ### 15: herald/block.Run -/
noncomputable def X_block_Run (n : Nat) : Cx := { tt := tt, calls := [(36, E_block_looked n), (29, E_norm_Row n), (37, E_act_Middle n), (38, E_vec_Add n)], owns := [], loops := [], joins := [], nt := 52, fuel := n }
noncomputable def F_block_Run (n : Nat) (x : ((List Int) × (List Int) × (List Int) × (List Int) × (List Int) × (List Int) × Int × Int × Int × Int × Int × (List Int) × (List Int) × (List Int) × Int × Int × Int) × (Int × (List Int) × (List Int) × (List Int)) × (List Int) × (List ((List Int) × (List Int)))) : Option ((List Int) × Int) := bodyRun (X_block_Run n) Tryz.f15 [Y22, Y36, Y37, Y41] [Y37, (.int .i64)] x
noncomputable def E_block_Run (n : Nat) : Entry := ⟨[Y22, Y36, Y37, Y41], [Y37, (.int .i64)], F_block_Run n⟩

end Go.Am
