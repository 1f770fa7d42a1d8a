import Derived.Test.YtfafklfpikjheaaGreatD4
set_option linter.unusedVariables false
set_option linter.unusedSimpArgs false
namespace Go.Am
open Go Go.Proofs

/-! ### 61: herald/heraldref10.Turn -/
noncomputable def X_ref10_Turn (n : Nat) : Cx := { tt := tt, calls := [(101, E_ref10_turned n)], owns := [], loops := [], joins := [], nt := 17, fuel := n }
noncomputable def F_ref10_Turn (n : Nat) (x : (List Int) × Int × (List Int) × (List Int)) : Option ((List Int) × Int) := bodyRun (X_ref10_Turn n) Tryz.f61 [Y8, (.int .i64), Y8, Y8] [Y8, (.int .i64)] x
noncomputable def E_ref10_Turn (n : Nat) : Entry := ⟨[Y8, (.int .i64), Y8, Y8], [Y8, (.int .i64)], F_ref10_Turn n⟩

/-! ### 34: herald/heraldref20.turned -/
noncomputable def X_ref20_turned (n : Nat) : Cx := { tt := tt, calls := [(35, E_ref20_through n), (61, E_ref10_Turn n)], owns := [], loops := [], joins := [], nt := 33, fuel := n }
noncomputable def F_ref20_turned (n : Nat) (x : (List Int) × (List Int) × Int × Int × (List Int) × (List Int)) : Option ((List Int) × Int) := bodyRun (X_ref20_turned n) Tryz.f34 [Y8, Y8, (.int .i64), (.int .i64), Y8, Y8] [Y8, (.int .i64)] x
noncomputable def E_ref20_turned (n : Nat) : Entry := ⟨[Y8, Y8, (.int .i64), (.int .i64), Y8, Y8], [Y8, (.int .i64)], F_ref20_turned n⟩

/-! ### 13: herald/heraldref20.Keys -/
noncomputable def X_ref20_Keys (n : Nat) : Cx := { tt := tt, calls := [(32, E_ref20_angles n), (33, E_ref09_Row n), (34, E_ref20_turned n), (35, E_ref20_through n)], owns := [], loops := [], joins := [], nt := 74, fuel := n }
noncomputable def F_ref20_Keys (n : Nat) (x : ((List Int) × (List Int) × (List Int) × (List Int) × (List Int) × (List Int) × Int × Int × Int × Int × Int × (List Int) × (List Int) × (List Int) × Int × Int × Int) × (Int × (List Int) × (List Int) × (List Int)) × (List Int) × Int) : Option (((List Int) × (List Int)) × Int) := bodyRun (X_ref20_Keys n) Tryz.f13 [Y22, Y36, Y37, (.int .i64)] [Y34, (.int .i64)] x
noncomputable def E_ref20_Keys (n : Nat) : Entry := ⟨[Y22, Y36, Y37, (.int .i64)], [Y34, (.int .i64)], F_ref20_Keys n⟩

/-! ### 69: herald/heraldref19.wrong -/
def V_ref19_wrong_4 : NS := ⟨[(0, .data Y8), (1, .data Y39), (5, .data (.int .i64))], [], 20⟩
def S_ref19_wrong_4 : LS := ⟨V_ref19_wrong_4, [(.ret, ⟨[(4, .data .bool)], [], 20⟩), (.exit 0, ⟨[], [], 20⟩)]⟩
noncomputable def X_ref19_wrong (n : Nat) : Cx := { tt := tt, calls := [], owns := [], loops := [(4, S_ref19_wrong_4)], joins := [], nt := 38, fuel := n }
noncomputable def F_ref19_wrong (n : Nat) (x : (List Int) × (List (List Int))) : Option (Bool) := bodyRun (X_ref19_wrong n) Tryz.f69 [Y8, Y39] [.bool] x
noncomputable def E_ref19_wrong (n : Nat) : Entry := ⟨[Y8, Y39], [.bool], F_ref19_wrong n⟩
noncomputable def L_ref19_wrong_4 (n k : Nat) (v : (List Int) × (List (List Int)) × Int × Unit) : Option ((Bool × Unit) ⊕ Unit) := loopRun (X_ref19_wrong n) Tryz.f69 S_ref19_wrong_4 4 k v

/-! ### 106: herald/heraldref19.Scores -/
def V_ref19_Scores_7 : NS := ⟨[(0, .data Y8), (1, .data Y39), (2, .data (.int .i64)), (8, .own (.int .i64)), (9, .data (.int .i64))], [], 14⟩
def S_ref19_Scores_7 : LS := ⟨V_ref19_Scores_7, [(.exit 0, ⟨[(8, .own (.int .i64))], [], 14⟩)]⟩
noncomputable def X_ref19_Scores (n : Nat) : Cx := { tt := tt, calls := [(69, E_ref19_wrong n), (72, E_ref08_Dot n), (59, E_ref02_Round n)], owns := [], loops := [(7, S_ref19_Scores_7)], joins := [], nt := 52, fuel := n }
noncomputable def F_ref19_Scores (n : Nat) (x : (List Int) × (List (List Int)) × Int) : Option ((List Int) × Int) := bodyRun (X_ref19_Scores n) Tryz.f106 [Y8, Y39, (.int .i64)] [Y37, (.int .i64)] x
noncomputable def E_ref19_Scores (n : Nat) : Entry := ⟨[Y8, Y39, (.int .i64)], [Y37, (.int .i64)], F_ref19_Scores n⟩
noncomputable def L_ref19_Scores_7 (n k : Nat) (v : (List Int) × (List (List Int)) × Int × (List Int) × Int × Unit) : Option (((List Int) × Unit)) := loopRun (X_ref19_Scores n) Tryz.f106 S_ref19_Scores_7 7 k v

/-! ### 122: herald/heraldref11.distance -/
noncomputable def X_ref11_distance (n : Nat) : Cx := { tt := tt, calls := [], owns := [], loops := [], joins := [], nt := 26, fuel := n }
noncomputable def F_ref11_distance (n : Nat) (x : Int × Int) : Option (Int) := bodyRun (X_ref11_distance n) Tryz.f122 [(.int .i64), (.int .i64)] [(.int .i64)] x
noncomputable def E_ref11_distance (n : Nat) : Entry := ⟨[(.int .i64), (.int .i64)], [(.int .i64)], F_ref11_distance n⟩

/-! ### 107: herald/heraldref11.Weights -/
def V_ref11_Weights_5 : NS := ⟨[(0, .data Y37), (4, .data (.int .i64)), (5, .data (.int .i64))], [], 15⟩
def S_ref11_Weights_5 : LS := ⟨V_ref11_Weights_5, [(.exit 0, ⟨[(0, .data Y37), (4, .data (.int .i64))], [], 15⟩)]⟩
def V_ref11_Weights_11 : NS := ⟨[(0, .data Y37), (4, .data (.int .i64)), (6, .own (.int .i64)), (7, .data (.int .i64))], [], 18⟩
def S_ref11_Weights_11 : LS := ⟨V_ref11_Weights_11, [(.exit 2, ⟨[(6, .own (.int .i64))], [], 18⟩)]⟩
def J_ref11_Weights_31 : NS := ⟨[(0, .data Y37), (4, .data (.int .i64)), (5, .data (.int .i64))], [], 25⟩
noncomputable def X_ref11_Weights (n : Nat) : Cx := { tt := tt, calls := [(122, E_ref11_distance n), (121, E_ref02_Exp2 n)], owns := [], loops := [(5, S_ref11_Weights_5), (11, S_ref11_Weights_11)], joins := [(31, J_ref11_Weights_31)], nt := 55, fuel := n }
noncomputable def F_ref11_Weights (n : Nat) (x : List Int) : Option ((List Int) × Int) := bodyRun (X_ref11_Weights n) Tryz.f107 [Y37] [Y37, (.int .i64)] x
noncomputable def E_ref11_Weights (n : Nat) : Entry := ⟨[Y37], [Y37, (.int .i64)], F_ref11_Weights n⟩
noncomputable def L_ref11_Weights_5 (n k : Nat) (v : (List Int) × Int × Int × Unit) : Option (((List Int) × Int × Unit)) := loopRun (X_ref11_Weights n) Tryz.f107 S_ref11_Weights_5 5 k v
noncomputable def L_ref11_Weights_11 (n k : Nat) (v : (List Int) × Int × (List Int) × Int × Unit) : Option (((List Int) × Unit)) := loopRun (X_ref11_Weights n) Tryz.f107 S_ref11_Weights_11 11 k v

/-! ### 123: herald/heraldref11.good -/
def V_ref11_good_3 : NS := ⟨[(0, .data Y37), (4, .data (.int .i64)), (5, .data (.int .i64))], [], 4⟩
def S_ref11_good_3 : LS := ⟨V_ref11_good_3, [(.ret, ⟨[(2, .data (.int .i64)), (3, .data .bool)], [], 4⟩), (.exit 0, ⟨[(4, .data (.int .i64))], [], 4⟩)]⟩
noncomputable def X_ref11_good (n : Nat) : Cx := { tt := tt, calls := [], owns := [], loops := [(3, S_ref11_good_3)], joins := [], nt := 33, fuel := n }
noncomputable def F_ref11_good (n : Nat) (x : List Int) : Option (Int × Bool) := bodyRun (X_ref11_good n) Tryz.f123 [Y37] [(.int .i64), .bool] x
noncomputable def E_ref11_good (n : Nat) : Entry := ⟨[Y37], [(.int .i64), .bool], F_ref11_good n⟩
noncomputable def L_ref11_good_3 (n k : Nat) (v : (List Int) × Int × Int × Unit) : Option ((Int × Bool × Unit) ⊕ (Int × Unit)) := loopRun (X_ref11_good n) Tryz.f123 S_ref11_good_3 3 k v

/-! ### 124: herald/heraldref11.Mean -/
def V_ref11_Mean_8 : NS := ⟨[(0, .data Y37), (1, .data Y8), (6, .data (.int .i64)), (8, .data (.int .i64)), (9, .data (.int .i64))], [], 23⟩
def S_ref11_Mean_8 : LS := ⟨V_ref11_Mean_8, [(.exit 0, ⟨[(6, .data (.int .i64)), (8, .data (.int .i64))], [], 23⟩)]⟩
noncomputable def X_ref11_Mean (n : Nat) : Cx := { tt := tt, calls := [(123, E_ref11_good n), (116, E_ref02_Floor n)], owns := [], loops := [(8, S_ref11_Mean_8)], joins := [], nt := 61, fuel := n }
noncomputable def F_ref11_Mean (n : Nat) (x : (List Int) × (List Int)) : Option (Int × Int) := bodyRun (X_ref11_Mean n) Tryz.f124 [Y37, Y8] [(.int .i8), (.int .i64)] x
noncomputable def E_ref11_Mean (n : Nat) : Entry := ⟨[Y37, Y8], [(.int .i8), (.int .i64)], F_ref11_Mean n⟩
noncomputable def L_ref11_Mean_8 (n k : Nat) (v : (List Int) × (List Int) × Int × Int × Int × Unit) : Option ((Int × Int × Unit)) := loopRun (X_ref11_Mean n) Tryz.f124 S_ref11_Mean_8 8 k v

/-! ### 108: herald/heraldref11.Means -/
def V_ref11_Means_4 : NS := ⟨[(0, .data Y37), (1, .data Y39), (6, .data (.int .i64))], [], 13⟩
def S_ref11_Means_4 : LS := ⟨V_ref11_Means_4, [(.ret, ⟨[(4, .own (.int .i8)), (5, .data (.int .i64))], [], 13⟩), (.exit 0, ⟨[(0, .data Y37), (1, .data Y39)], [], 13⟩)]⟩
def V_ref11_Means_13 : NS := ⟨[(0, .data Y37), (1, .data Y39), (9, .own (.int .i8)), (10, .data (.int .i64))], [], 25⟩
def S_ref11_Means_13 : LS := ⟨V_ref11_Means_13, [(.exit 2, ⟨[(9, .own (.int .i8))], [], 25⟩)]⟩
def V_ref11_Means_17 : NS := ⟨[(0, .data Y37), (1, .data Y39), (9, .own (.int .i8)), (10, .data (.int .i64)), (11, .own (.int .i8)), (12, .data (.int .i64))], [], 35⟩
def S_ref11_Means_17 : LS := ⟨V_ref11_Means_17, [(.exit 4, ⟨[(0, .data Y37), (1, .data Y39), (9, .own (.int .i8)), (10, .data (.int .i64)), (11, .own (.int .i8))], [], 35⟩)]⟩
noncomputable def X_ref11_Means (n : Nat) : Cx := { tt := tt, calls := [(123, E_ref11_good n), (124, E_ref11_Mean n)], owns := [], loops := [(4, S_ref11_Means_4), (13, S_ref11_Means_13), (17, S_ref11_Means_17)], joins := [], nt := 88, fuel := n }
noncomputable def F_ref11_Means (n : Nat) (x : (List Int) × (List (List Int))) : Option ((List Int) × Int) := bodyRun (X_ref11_Means n) Tryz.f108 [Y37, Y39] [Y8, (.int .i64)] x
noncomputable def E_ref11_Means (n : Nat) : Entry := ⟨[Y37, Y39], [Y8, (.int .i64)], F_ref11_Means n⟩
noncomputable def L_ref11_Means_4 (n k : Nat) (v : (List Int) × (List (List Int)) × Int × Unit) : Option (((List Int) × Int × Unit) ⊕ (((List Int) × (List (List Int)) × Unit))) := loopRun (X_ref11_Means n) Tryz.f108 S_ref11_Means_4 4 k v
noncomputable def L_ref11_Means_13 (n k : Nat) (v : (List Int) × (List (List Int)) × (List Int) × Int × Unit) : Option (((List Int) × Unit)) := loopRun (X_ref11_Means n) Tryz.f108 S_ref11_Means_13 13 k v
noncomputable def L_ref11_Means_17 (n k : Nat) (v : (List Int) × (List (List Int)) × (List Int) × Int × (List Int) × Int × Unit) : Option (((List Int) × (List (List Int)) × (List Int) × Int × (List Int) × Unit)) := loopRun (X_ref11_Means n) Tryz.f108 S_ref11_Means_17 17 k v

/-! ### 70: herald/heraldref19.Head -/
noncomputable def X_ref19_Head (n : Nat) : Cx := { tt := tt, calls := [(106, E_ref19_Scores n), (69, E_ref19_wrong n), (107, E_ref11_Weights n), (108, E_ref11_Means n)], owns := [], loops := [], joins := [], nt := 50, fuel := n }
noncomputable def F_ref19_Head (n : Nat) (x : (List Int) × (List (List Int)) × (List (List Int)) × Int) : Option ((List Int) × Int) := bodyRun (X_ref19_Head n) Tryz.f70 [Y8, Y39, Y39, (.int .i64)] [Y8, (.int .i64)] x
noncomputable def E_ref19_Head (n : Nat) : Entry := ⟨[Y8, Y39, Y39, (.int .i64)], [Y8, (.int .i64)], F_ref19_Head n⟩

/-! ### 39: herald/heraldref19.Look -/
def V_ref19_Look_5 : NS := ⟨[(0, .data Y8), (1, .data (.int .i64)), (2, .data Y41), (3, .data (.int .i64)), (10, .own Y8), (11, .own Y8), (12, .data (.int .i64))], [], 16⟩
def S_ref19_Look_5 : LS := ⟨V_ref19_Look_5, [(.exit 0, ⟨[(0, .data Y8), (1, .data (.int .i64)), (2, .data Y41), (3, .data (.int .i64)), (10, .own Y8), (11, .own Y8)], [], 16⟩)]⟩
def V_ref19_Look_16 : NS := ⟨[(0, .data Y8), (1, .data (.int .i64)), (2, .data Y41), (3, .data (.int .i64)), (10, .own Y8), (11, .own Y8), (13, .data (.int .i64)), (14, .own (.int .i8)), (15, .data (.int .i64))], [], 40⟩
def S_ref19_Look_16 : LS := ⟨V_ref19_Look_16, [(.exit 2, ⟨[(14, .own (.int .i8))], [], 40⟩)]⟩
def V_ref19_Look_20 : NS := ⟨[(0, .data Y8), (1, .data (.int .i64)), (2, .data Y41), (3, .data (.int .i64)), (10, .own Y8), (11, .own Y8), (13, .data (.int .i64)), (14, .own (.int .i8)), (15, .data (.int .i64)), (16, .own Y8), (17, .own Y8), (18, .data (.int .i64))], [], 51⟩
def S_ref19_Look_20 : LS := ⟨V_ref19_Look_20, [(.exit 4, ⟨[(0, .data Y8), (1, .data (.int .i64)), (2, .data Y41), (3, .data (.int .i64)), (10, .own Y8), (11, .own Y8), (13, .data (.int .i64)), (14, .own (.int .i8)), (15, .data (.int .i64)), (16, .own Y8), (17, .own Y8)], [], 51⟩)]⟩
noncomputable def X_ref19_Look (n : Nat) : Cx := { tt := tt, calls := [(69, E_ref19_wrong n), (70, E_ref19_Head n)], owns := [], loops := [(5, S_ref19_Look_5), (16, S_ref19_Look_16), (20, S_ref19_Look_20)], joins := [], nt := 139, fuel := n }
noncomputable def F_ref19_Look (n : Nat) (x : (List Int) × Int × (List ((List Int) × (List Int))) × Int) : Option ((List Int) × Int) := bodyRun (X_ref19_Look n) Tryz.f39 [Y8, (.int .i64), Y41, (.int .i64)] [Y8, (.int .i64)] x
noncomputable def E_ref19_Look (n : Nat) : Entry := ⟨[Y8, (.int .i64), Y41, (.int .i64)], [Y8, (.int .i64)], F_ref19_Look n⟩
noncomputable def L_ref19_Look_5 (n k : Nat) (v : (List Int) × Int × (List ((List Int) × (List Int))) × Int × (List (List Int)) × (List (List Int)) × Int × Unit) : Option (((List Int) × Int × (List ((List Int) × (List Int))) × Int × (List (List Int)) × (List (List Int)) × Unit)) := loopRun (X_ref19_Look n) Tryz.f39 S_ref19_Look_5 5 k v
noncomputable def L_ref19_Look_16 (n k : Nat) (v : (List Int) × Int × (List ((List Int) × (List Int))) × Int × (List (List Int)) × (List (List Int)) × Int × (List Int) × Int × Unit) : Option (((List Int) × Unit)) := loopRun (X_ref19_Look n) Tryz.f39 S_ref19_Look_16 16 k v
noncomputable def L_ref19_Look_20 (n k : Nat) (v : (List Int) × Int × (List ((List Int) × (List Int))) × Int × (List (List Int)) × (List (List Int)) × Int × (List Int) × Int × (List (List Int)) × (List (List Int)) × Int × Unit) : Option (((List Int) × Int × (List ((List Int) × (List Int))) × Int × (List (List Int)) × (List (List Int)) × Int × (List Int) × Int × (List (List Int)) × (List (List Int)) × Unit)) := loopRun (X_ref19_Look n) Tryz.f39 S_ref19_Look_20 20 k v

/-! ### 73: herald/heraldref02.Add -/
noncomputable def X_ref02_Add (n : Nat) : Cx := { tt := tt, calls := [], owns := [], loops := [], joins := [], nt := 27, fuel := n }
noncomputable def F_ref02_Add (n : Nat) (x : Int × Int) : Option (Int × Bool) := bodyRun (X_ref02_Add n) Tryz.f73 [(.int .i64), (.int .i64)] [(.int .i64), .bool] x
noncomputable def E_ref02_Add (n : Nat) : Entry := ⟨[(.int .i64), (.int .i64)], [(.int .i64), .bool], F_ref02_Add n⟩

/-! ### 42: herald/heraldref08.Add -/
def V_ref08_Add_7 : NS := ⟨[(0, .data Y37), (1, .data Y37), (6, .own (.int .i64)), (25, .data (.int .i64)), (26, .data (.int .i64))], [], 20⟩
def S_ref08_Add_7 : LS := ⟨V_ref08_Add_7, [(.ret, ⟨[(4, .own (.int .i64)), (5, .data (.int .i64))], [], 20⟩), (.exit 0, ⟨[(6, .own (.int .i64))], [], 20⟩)]⟩
noncomputable def X_ref08_Add (n : Nat) : Cx := { tt := tt, calls := [(73, E_ref02_Add n)], owns := [], loops := [(7, S_ref08_Add_7)], joins := [], nt := 49, fuel := n }
noncomputable def F_ref08_Add (n : Nat) (x : (List Int) × (List Int)) : Option ((List Int) × Int) := bodyRun (X_ref08_Add n) Tryz.f42 [Y37, Y37] [Y37, (.int .i64)] x
noncomputable def E_ref08_Add (n : Nat) : Entry := ⟨[Y37, Y37], [Y37, (.int .i64)], F_ref08_Add n⟩
noncomputable def L_ref08_Add_7 (n k : Nat) (v : (List Int) × (List Int) × (List Int) × Int × Int × Unit) : Option (((List Int) × Int × Unit) ⊕ (((List Int) × Unit))) := loopRun (X_ref08_Add n) Tryz.f42 S_ref08_Add_7 7 k v

/-! ### 74: herald/heraldref12.shrunk -/
noncomputable def X_ref12_shrunk (n : Nat) : Cx := { tt := tt, calls := [(40, E_ref08_Times n), (62, E_ref08_Shrink n)], owns := [], loops := [], joins := [], nt := 26, fuel := n }
noncomputable def F_ref12_shrunk (n : Nat) (x : (List Int) × (List Int) × Int) : Option ((List Int) × Int) := bodyRun (X_ref12_shrunk n) Tryz.f74 [Y8, Y8, (.int .i64)] [Y8, (.int .i64)] x
noncomputable def E_ref12_shrunk (n : Nat) : Entry := ⟨[Y8, Y8, (.int .i64)], [Y8, (.int .i64)], F_ref12_shrunk n⟩

/-! ### 75: herald/heraldref12.Gate -/
def V_ref12_Gate_9 : NS := ⟨[(0, .data Y8), (2, .data Y8), (8, .own (.int .i8)), (31, .data Y8), (32, .data (.int .i64)), (33, .data (.int .i64))], [], 23⟩
def S_ref12_Gate_9 : LS := ⟨V_ref12_Gate_9, [(.exit 0, ⟨[(8, .own (.int .i8))], [], 23⟩)]⟩
def J_ref12_Gate_41 : NS := ⟨[(0, .data Y8), (2, .data Y8), (8, .own (.int .i8)), (9, .data (.int .i64)), (11, .data (.int .i64)), (31, .data Y8), (32, .data (.int .i64)), (33, .data (.int .i64))], [], 35⟩
noncomputable def X_ref12_Gate (n : Nat) : Cx := { tt := tt, calls := [(59, E_ref02_Round n), (60, E_ref02_Narrow n)], owns := [], loops := [(9, S_ref12_Gate_9)], joins := [(41, J_ref12_Gate_41)], nt := 66, fuel := n }
noncomputable def F_ref12_Gate (n : Nat) (x : (List Int) × (List Int) × (List Int)) : Option ((List Int) × Int) := bodyRun (X_ref12_Gate n) Tryz.f75 [Y8, Y8, Y8] [Y8, (.int .i64)] x
noncomputable def E_ref12_Gate (n : Nat) : Entry := ⟨[Y8, Y8, Y8], [Y8, (.int .i64)], F_ref12_Gate n⟩
noncomputable def L_ref12_Gate_9 (n k : Nat) (v : (List Int) × (List Int) × (List Int) × (List Int) × Int × Int × Unit) : Option (((List Int) × Unit)) := loopRun (X_ref12_Gate n) Tryz.f75 S_ref12_Gate_9 9 k v

end Go.Am
