import Derived.Test.YtfafklfpikjheaaGreatD3
set_option linter.unusedVariables false
set_option linter.unusedSimpArgs false
namespace Go.Am
open Go Go.Proofs

/-! ### 19: herald/block.Pass -/
def V_block_Pass_4 : NS := ⟨[(3, .data Y41), (4, .fix (.v false [.ptr 0 0])), (5, .fix (.v false [.ptr 1 0])), (11, .own Y34), (12, .own Y37), (20, .data Y38), (21, .data (.int .i64)), (22, .data (.int .i64))], [(0, .cells [.data Y8, .data Y8, .data Y8, .data Y8, .data Y8, .data Y8, .data (.int .i64), .data (.int .i64), .data (.int .i64), .data (.int .i64), .data (.int .i64), .data Y8, .data Y8, .data Y8, .data (.int .i64), .data (.int .i64), .data (.int .i64)]), (1, .cells [.data (.int .i64), .data Y8, .data Y8, .data Y8])], 12⟩
def S_block_Pass_4 : LS := ⟨V_block_Pass_4, [(.ret, ⟨[(8, .own Y37), (9, .own Y34), (10, .data (.int .i64))], [], 12⟩), (.exit 0, ⟨[(3, .data Y41), (11, .own Y34), (12, .own Y37)], [], 12⟩)]⟩
noncomputable def X_block_Pass (n : Nat) : Cx := { tt := tt, calls := [(12, E_block_Keys n), (15, E_block_Run n)], owns := [(45, O45)], loops := [(4, S_block_Pass_4)], joins := [], nt := 63, fuel := n }
noncomputable def F_block_Pass (n : Nat) (x : ((List Int) × (List Int) × (List Int) × (List Int) × (List Int) × (List Int) × Int × Int × Int × Int × Int × (List Int) × (List Int) × (List Int) × Int × Int × Int) × (Int × (List Int) × (List Int) × (List Int)) × (List (List Int)) × (List ((List Int) × (List Int)))) : Option ((List (List Int)) × (List ((List Int) × (List Int))) × Int) := bodyRun (X_block_Pass n) Tryz.f19 [Y22, Y36, Y38, Y41] [Y38, Y41, (.int .i64)] x
noncomputable def E_block_Pass (n : Nat) : Entry := ⟨[Y22, Y36, Y38, Y41], [Y38, Y41, (.int .i64)], F_block_Pass n⟩
noncomputable def L_block_Pass_4 (n k : Nat) (v : (List ((List Int) × (List Int))) × Unit × Unit × (List ((List Int) × (List Int))) × (List (List Int)) × (List (List Int)) × Int × Int × ((List Int) × (List Int) × (List Int) × (List Int) × (List Int) × (List Int) × Int × Int × Int × Int × Int × (List Int) × (List Int) × (List Int) × Int × Int × Int × Unit) × (Int × (List Int) × (List Int) × (List Int) × Unit) × Unit) : Option (((List (List Int)) × (List ((List Int) × (List Int))) × Int × Unit) ⊕ (((List ((List Int) × (List Int))) × (List ((List Int) × (List Int))) × (List (List Int)) × Unit))) := loopRun (X_block_Pass n) Tryz.f19 S_block_Pass_4 4 k v

/-! ### 25: herald/heraldref16.Of -/
def V_ref16_Of_6 : NS := ⟨[(1, .fix (.v false [.ptr 0 0])), (2, .fix (.v false [.ptr 1 0])), (4, .fix (.v false [.ptr 24 0])), (63, .data Y6), (64, .data (.int .i64)), (65, .data (.int .i64))], [(0, .cells [.data (.int .i64), .data (.int .i64), .data (.int .i64), .data (.int .i64), .data (.int .i64), .data (.int .i64), .data Y5, .data Y6, .data Y8, .data (.int .i64), .data Y8, .data Y8, .data Y23, .data Y8, .data Y8, .data Y8, .data (.int .i64)]), (1, .cells [.data (.int .i64), .data (.int .i64), .data (.int .i64), .data (.int .i64), .data (.int .i64), .data (.int .i64), .own .str, .own Y1, .own (.int .i8), .data (.int .i64), .own (.int .i8), .own (.int .i8), .own Y22, .own (.int .i8), .own (.int .i8), .own (.int .i8), .data (.int .i64)]), (24, .cells [.data (.int .i64), .data (.int .i64), .data (.int .i64), .data (.int .i64), .data (.int .i64), .data (.int .i64), .own .str, .own Y1, .data Y8, .data (.int .i64), .data Y8, .data Y8, .own Y22, .data Y8, .data Y8, .data Y8, .data (.int .i64)])], 69⟩
def S_ref16_Of_6 : LS := ⟨V_ref16_Of_6, [(.exit 0, ⟨[(1, .fix (.v false [.ptr 0 0])), (2, .fix (.v false [.ptr 1 0])), (4, .fix (.v false [.ptr 24 0]))], [(0, .cells [.data (.int .i64), .data (.int .i64), .data (.int .i64), .data (.int .i64), .data (.int .i64), .data (.int .i64), .data Y5, .data Y6, .data Y8, .data (.int .i64), .data Y8, .data Y8, .data Y23, .data Y8, .data Y8, .data Y8, .data (.int .i64)]), (1, .cells [.data (.int .i64), .data (.int .i64), .data (.int .i64), .data (.int .i64), .data (.int .i64), .data (.int .i64), .own .str, .own Y1, .own (.int .i8), .data (.int .i64), .own (.int .i8), .own (.int .i8), .own Y22, .own (.int .i8), .own (.int .i8), .own (.int .i8), .data (.int .i64)]), (24, .cells [.data (.int .i64), .data (.int .i64), .data (.int .i64), .data (.int .i64), .data (.int .i64), .data (.int .i64), .own .str, .own Y1, .data Y8, .data (.int .i64), .data Y8, .data Y8, .own Y22, .data Y8, .data Y8, .data Y8, .data (.int .i64)])], 69⟩)]⟩
def V_ref16_Of_11 : NS := ⟨[(2, .fix (.v false [.ptr 1 0])), (4, .fix (.v false [.ptr 24 0])), (85, .data Y23), (86, .data (.int .i64)), (87, .data (.int .i64))], [(1, .cells [.data (.int .i64), .data (.int .i64), .data (.int .i64), .data (.int .i64), .data (.int .i64), .data (.int .i64), .own .str, .own Y1, .own (.int .i8), .data (.int .i64), .own (.int .i8), .own (.int .i8), .own Y22, .own (.int .i8), .own (.int .i8), .own (.int .i8), .data (.int .i64)]), (24, .cells [.data (.int .i64), .data (.int .i64), .data (.int .i64), .data (.int .i64), .data (.int .i64), .data (.int .i64), .own .str, .own Y1, .data Y8, .data (.int .i64), .data Y8, .data Y8, .own Y22, .data Y8, .data Y8, .data Y8, .data (.int .i64)])], 85⟩
def S_ref16_Of_11 : LS := ⟨V_ref16_Of_11, [(.exit 2, ⟨[(2, .fix (.v false [.ptr 1 0])), (4, .fix (.v false [.ptr 24 0]))], [(1, .cells [.data (.int .i64), .data (.int .i64), .data (.int .i64), .data (.int .i64), .data (.int .i64), .data (.int .i64), .own .str, .own Y1, .own (.int .i8), .data (.int .i64), .own (.int .i8), .own (.int .i8), .own Y22, .own (.int .i8), .own (.int .i8), .own (.int .i8), .data (.int .i64)]), (24, .cells [.data (.int .i64), .data (.int .i64), .data (.int .i64), .data (.int .i64), .data (.int .i64), .data (.int .i64), .own .str, .own Y1, .data Y8, .data (.int .i64), .data Y8, .data Y8, .own Y22, .data Y8, .data Y8, .data Y8, .data (.int .i64)])], 85⟩)]⟩
noncomputable def X_ref16_Of (n : Nat) : Cx := { tt := tt, calls := [(48, E_ref16_own n)], owns := [], loops := [(6, S_ref16_Of_6), (11, S_ref16_Of_11)], joins := [], nt := 151, fuel := n }
noncomputable def F_ref16_Of (n : Nat) (x : (Int × Int × Int × Int × Int × Int) × ((List (List UInt8)) × (List (Int × Int × Int))) × (List Int) × Int × (List Int) × (List Int) × (List ((List Int) × (List Int) × (List Int) × (List Int) × (List Int) × (List Int) × Int × Int × Int × Int × Int × (List Int) × (List Int) × (List Int) × Int × Int × Int)) × (List Int) × (List Int) × (List Int) × Int) : Option ((Int × Int × Int × Int × Int × Int) × ((List (List UInt8)) × (List (Int × Int × Int))) × (List Int) × Int × (List Int) × (List Int) × (List ((List Int) × (List Int) × (List Int) × (List Int) × (List Int) × (List Int) × Int × Int × Int × Int × Int × (List Int) × (List Int) × (List Int) × Int × Int × Int)) × (List Int) × (List Int) × (List Int) × Int) := bodyRun (X_ref16_Of n) Tryz.f25 [Y33] [Y33] x
noncomputable def E_ref16_Of (n : Nat) : Entry := ⟨[Y33], [Y33], F_ref16_Of n⟩
noncomputable def L_ref16_Of_6 (n k : Nat) (v : Unit × Unit × Unit × (List (Int × Int × Int)) × Int × Int × (Int × Int × Int × Int × Int × Int × (List (List UInt8)) × (List (Int × Int × Int)) × (List Int) × Int × (List Int) × (List Int) × (List ((List Int) × (List Int) × (List Int) × (List Int) × (List Int) × (List Int) × Int × Int × Int × Int × Int × (List Int) × (List Int) × (List Int) × Int × Int × Int)) × (List Int) × (List Int) × (List Int) × Int × Unit) × (Int × Int × Int × Int × Int × Int × (List (List UInt8)) × (List (Int × Int × Int)) × (List Int) × Int × (List Int) × (List Int) × (List ((List Int) × (List Int) × (List Int) × (List Int) × (List Int) × (List Int) × Int × Int × Int × Int × Int × (List Int) × (List Int) × (List Int) × Int × Int × Int)) × (List Int) × (List Int) × (List Int) × Int × Unit) × (Int × Int × Int × Int × Int × Int × (List (List UInt8)) × (List (Int × Int × Int)) × (List Int) × Int × (List Int) × (List Int) × (List ((List Int) × (List Int) × (List Int) × (List Int) × (List Int) × (List Int) × Int × Int × Int × Int × Int × (List Int) × (List Int) × (List Int) × Int × Int × Int)) × (List Int) × (List Int) × (List Int) × Int × Unit) × Unit) : Option ((Unit × Unit × Unit × (Int × Int × Int × Int × Int × Int × (List (List UInt8)) × (List (Int × Int × Int)) × (List Int) × Int × (List Int) × (List Int) × (List ((List Int) × (List Int) × (List Int) × (List Int) × (List Int) × (List Int) × Int × Int × Int × Int × Int × (List Int) × (List Int) × (List Int) × Int × Int × Int)) × (List Int) × (List Int) × (List Int) × Int × Unit) × (Int × Int × Int × Int × Int × Int × (List (List UInt8)) × (List (Int × Int × Int)) × (List Int) × Int × (List Int) × (List Int) × (List ((List Int) × (List Int) × (List Int) × (List Int) × (List Int) × (List Int) × Int × Int × Int × Int × Int × (List Int) × (List Int) × (List Int) × Int × Int × Int)) × (List Int) × (List Int) × (List Int) × Int × Unit) × (Int × Int × Int × Int × Int × Int × (List (List UInt8)) × (List (Int × Int × Int)) × (List Int) × Int × (List Int) × (List Int) × (List ((List Int) × (List Int) × (List Int) × (List Int) × (List Int) × (List Int) × Int × Int × Int × Int × Int × (List Int) × (List Int) × (List Int) × Int × Int × Int)) × (List Int) × (List Int) × (List Int) × Int × Unit) × Unit)) := loopRun (X_ref16_Of n) Tryz.f25 S_ref16_Of_6 6 k v
noncomputable def L_ref16_Of_11 (n k : Nat) (v : Unit × Unit × (List ((List Int) × (List Int) × (List Int) × (List Int) × (List Int) × (List Int) × Int × Int × Int × Int × Int × (List Int) × (List Int) × (List Int) × Int × Int × Int)) × Int × Int × (Int × Int × Int × Int × Int × Int × (List (List UInt8)) × (List (Int × Int × Int)) × (List Int) × Int × (List Int) × (List Int) × (List ((List Int) × (List Int) × (List Int) × (List Int) × (List Int) × (List Int) × Int × Int × Int × Int × Int × (List Int) × (List Int) × (List Int) × Int × Int × Int)) × (List Int) × (List Int) × (List Int) × Int × Unit) × (Int × Int × Int × Int × Int × Int × (List (List UInt8)) × (List (Int × Int × Int)) × (List Int) × Int × (List Int) × (List Int) × (List ((List Int) × (List Int) × (List Int) × (List Int) × (List Int) × (List Int) × Int × Int × Int × Int × Int × (List Int) × (List Int) × (List Int) × Int × Int × Int)) × (List Int) × (List Int) × (List Int) × Int × Unit) × Unit) : Option ((Unit × Unit × (Int × Int × Int × Int × Int × Int × (List (List UInt8)) × (List (Int × Int × Int)) × (List Int) × Int × (List Int) × (List Int) × (List ((List Int) × (List Int) × (List Int) × (List Int) × (List Int) × (List Int) × Int × Int × Int × Int × Int × (List Int) × (List Int) × (List Int) × Int × Int × Int)) × (List Int) × (List Int) × (List Int) × Int × Unit) × (Int × Int × Int × Int × Int × Int × (List (List UInt8)) × (List (Int × Int × Int)) × (List Int) × Int × (List Int) × (List Int) × (List ((List Int) × (List Int) × (List Int) × (List Int) × (List Int) × (List Int) × Int × Int × Int × Int × Int × (List Int) × (List Int) × (List Int) × Int × Int × Int)) × (List Int) × (List Int) × (List Int) × Int × Unit) × Unit)) := loopRun (X_ref16_Of n) Tryz.f25 S_ref16_Of_11 11 k v

/-! ### 9: herald/heraldlaw20.plain -/
noncomputable def X_law20_plain (n : Nat) : Cx := { tt := tt, calls := [(25, E_ref16_Of n)], owns := [], loops := [], joins := [], nt := 10, fuel := n }
noncomputable def F_law20_plain (n : Nat) (x : (List Int) × (List Int) × (List Int) × (List Int) × (List Int) × (List Int) × Int × Int × Int × Int × Int × (List Int) × (List Int) × (List Int) × Int × Int × Int) : Option ((List Int) × (List Int) × (List Int) × (List Int) × (List Int) × (List Int) × Int × Int × Int × Int × Int × (List Int) × (List Int) × (List Int) × Int × Int × Int) := bodyRun (X_law20_plain n) Tryz.f9 [Y22] [Y22] x
noncomputable def E_law20_plain (n : Nat) : Entry := ⟨[Y22], [Y22], F_law20_plain n⟩

/-! ### 10: herald/heraldlaw20.frame -/
noncomputable def X_law20_frame (n : Nat) : Cx := { tt := tt, calls := [], owns := [], loops := [], joins := [], nt := 18, fuel := n }
noncomputable def F_law20_frame (n : Nat) (x : Int × (List Int) × (List Int) × (List Int)) : Option (Int × (List Int) × (List Int) × (List Int)) := bodyRun (X_law20_frame n) Tryz.f10 [Y36] [Y36] x
noncomputable def E_law20_frame (n : Nat) : Entry := ⟨[Y36], [Y36], F_law20_frame n⟩

/-! ### 32: herald/heraldref20.angles -/
noncomputable def X_ref20_angles (n : Nat) : Cx := { tt := tt, calls := [], owns := [], loops := [], joins := [], nt := 85, fuel := n }
noncomputable def F_ref20_angles (n : Nat) (x : (Int × (List Int) × (List Int) × (List Int)) × Int × Int) : Option (Int × (List Int) × (List Int) × Int) := bodyRun (X_ref20_angles n) Tryz.f32 [Y36, (.int .i64), (.int .i64)] [(.int .i64), Y8, Y8, (.int .i64)] x
noncomputable def E_ref20_angles (n : Nat) : Entry := ⟨[Y36, (.int .i64), (.int .i64)], [(.int .i64), Y8, Y8, (.int .i64)], F_ref20_angles n⟩

/-! ### 98: herald/heraldref02.Sqrt -/
def V_ref02_Sqrt_5 : NS := ⟨[(0, .data (.int .i64)), (4, .data (.int .i64)), (5, .data (.int .i64))], [], 6⟩
def S_ref02_Sqrt_5 : LS := ⟨V_ref02_Sqrt_5, [(.exit 0, ⟨[(4, .data (.int .i64))], [], 6⟩)]⟩
def J_ref02_Sqrt_24 : NS := ⟨[(0, .data (.int .i64)), (4, .data (.int .i64)), (5, .data (.int .i64))], [], 21⟩
noncomputable def X_ref02_Sqrt (n : Nat) : Cx := { tt := tt, calls := [], owns := [], loops := [(5, S_ref02_Sqrt_5)], joins := [(24, J_ref02_Sqrt_24)], nt := 27, fuel := n }
noncomputable def F_ref02_Sqrt (n : Nat) (x : Int) : Option (Int × Int) := bodyRun (X_ref02_Sqrt n) Tryz.f98 [(.int .i64)] [(.int .i64), (.int .i64)] x
noncomputable def E_ref02_Sqrt (n : Nat) : Entry := ⟨[(.int .i64)], [(.int .i64), (.int .i64)], F_ref02_Sqrt n⟩
noncomputable def L_ref02_Sqrt_5 (n k : Nat) (v : Int × Int × Int × Unit) : Option ((Int × Unit)) := loopRun (X_ref02_Sqrt n) Tryz.f98 S_ref02_Sqrt_5 5 k v

/-! ### 58: herald/heraldref09.Root -/
def V_ref09_Root_5 : NS := ⟨[(0, .data Y37), (4, .data (.int .i64)), (5, .data (.int .i64))], [], 12⟩
def S_ref09_Root_5 : LS := ⟨V_ref09_Root_5, [(.ret, ⟨[(2, .data (.int .i64)), (3, .data (.int .i64))], [], 12⟩), (.exit 0, ⟨[(0, .data Y37), (4, .data (.int .i64))], [], 12⟩)]⟩
def J_ref09_Root_54 : NS := ⟨[(6, .data (.int .i64))], [], 24⟩
noncomputable def X_ref09_Root (n : Nat) : Cx := { tt := tt, calls := [(98, E_ref02_Sqrt n)], owns := [], loops := [(5, S_ref09_Root_5)], joins := [(54, J_ref09_Root_54)], nt := 56, fuel := n }
noncomputable def F_ref09_Root (n : Nat) (x : List Int) : Option (Int × Int) := bodyRun (X_ref09_Root n) Tryz.f58 [Y37] [(.int .i64), (.int .i64)] x
noncomputable def E_ref09_Root (n : Nat) : Entry := ⟨[Y37], [(.int .i64), (.int .i64)], F_ref09_Root n⟩
noncomputable def L_ref09_Root_5 (n k : Nat) (v : (List Int) × Int × Int × Unit) : Option ((Int × Int × Unit) ⊕ (((List Int) × Int × Unit))) := loopRun (X_ref09_Root n) Tryz.f58 S_ref09_Root_5 5 k v

/-! ### 33: herald/heraldref09.Row -/
def V_ref09_Row_8 : NS := ⟨[(0, .data Y37), (1, .data Y8), (6, .data (.int .i64)), (8, .own (.int .i8)), (9, .data (.int .i64))], [], 19⟩
def S_ref09_Row_8 : LS := ⟨V_ref09_Row_8, [(.exit 0, ⟨[(8, .own (.int .i8))], [], 19⟩)]⟩
def J_ref09_Row_41 : NS := ⟨[(0, .data Y37), (1, .data Y8), (6, .data (.int .i64)), (8, .own (.int .i8)), (9, .data (.int .i64)), (10, .data (.int .i64))], [], 31⟩
def J_ref09_Row_52 : NS := ⟨[(0, .data Y37), (1, .data Y8), (6, .data (.int .i64)), (8, .own (.int .i8)), (9, .data (.int .i64)), (11, .data (.int .i64))], [], 42⟩
noncomputable def X_ref09_Row (n : Nat) : Cx := { tt := tt, calls := [(58, E_ref09_Root n), (59, E_ref02_Round n), (60, E_ref02_Narrow n)], owns := [], loops := [(8, S_ref09_Row_8)], joins := [(41, J_ref09_Row_41), (52, J_ref09_Row_52)], nt := 72, fuel := n }
noncomputable def F_ref09_Row (n : Nat) (x : (List Int) × (List Int)) : Option ((List Int) × Int) := bodyRun (X_ref09_Row n) Tryz.f33 [Y37, Y8] [Y8, (.int .i64)] x
noncomputable def E_ref09_Row (n : Nat) : Entry := ⟨[Y37, Y8], [Y8, (.int .i64)], F_ref09_Row n⟩
noncomputable def L_ref09_Row_8 (n k : Nat) (v : (List Int) × (List Int) × Int × (List Int) × Int × Unit) : Option (((List Int) × Unit)) := loopRun (X_ref09_Row n) Tryz.f33 S_ref09_Row_8 8 k v

/-! ### 71: herald/heraldref08.Matrix -/
noncomputable def X_ref08_Matrix (n : Nat) : Cx := { tt := tt, calls := [], owns := [], loops := [], joins := [], nt := 17, fuel := n }
noncomputable def F_ref08_Matrix (n : Nat) (x : (List Int) × Int) : Option (Int) := bodyRun (X_ref08_Matrix n) Tryz.f71 [Y8, (.int .i64)] [(.int .i64)] x
noncomputable def E_ref08_Matrix (n : Nat) : Entry := ⟨[Y8, (.int .i64)], [(.int .i64)], F_ref08_Matrix n⟩

/-! ### 72: herald/heraldref08.Dot -/
def V_ref08_Dot_7 : NS := ⟨[(0, .data Y8), (1, .data Y8), (6, .data (.int .i64)), (22, .data (.int .i64)), (23, .data (.int .i64))], [], 19⟩
def S_ref08_Dot_7 : LS := ⟨V_ref08_Dot_7, [(.exit 0, ⟨[(6, .data (.int .i64))], [], 19⟩)]⟩
noncomputable def X_ref08_Dot (n : Nat) : Cx := { tt := tt, calls := [], owns := [], loops := [(7, S_ref08_Dot_7)], joins := [], nt := 41, fuel := n }
noncomputable def F_ref08_Dot (n : Nat) (x : (List Int) × (List Int)) : Option (Int × Int) := bodyRun (X_ref08_Dot n) Tryz.f72 [Y8, Y8] [(.int .i64), (.int .i64)] x
noncomputable def E_ref08_Dot (n : Nat) : Entry := ⟨[Y8, Y8], [(.int .i64), (.int .i64)], F_ref08_Dot n⟩
noncomputable def L_ref08_Dot_7 (n k : Nat) (v : (List Int) × (List Int) × Int × Int × Int × Unit) : Option ((Int × Unit)) := loopRun (X_ref08_Dot n) Tryz.f72 S_ref08_Dot_7 7 k v

/-! ### 40: herald/heraldref08.Times -/
def V_ref08_Times_8 : NS := ⟨[(0, .data Y8), (1, .data (.int .i64)), (2, .data Y8), (9, .own (.int .i64)), (10, .data (.int .i64))], [], 15⟩
def S_ref08_Times_8 : LS := ⟨V_ref08_Times_8, [(.exit 0, ⟨[(9, .own (.int .i64))], [], 15⟩)]⟩
noncomputable def X_ref08_Times (n : Nat) : Cx := { tt := tt, calls := [(71, E_ref08_Matrix n), (72, E_ref08_Dot n)], owns := [], loops := [(8, S_ref08_Times_8)], joins := [], nt := 47, fuel := n }
noncomputable def F_ref08_Times (n : Nat) (x : (List Int) × Int × (List Int)) : Option ((List Int) × Int) := bodyRun (X_ref08_Times n) Tryz.f40 [Y8, (.int .i64), Y8] [Y37, (.int .i64)] x
noncomputable def E_ref08_Times (n : Nat) : Entry := ⟨[Y8, (.int .i64), Y8], [Y37, (.int .i64)], F_ref08_Times n⟩
noncomputable def L_ref08_Times_8 (n k : Nat) (v : (List Int) × Int × (List Int) × (List Int) × Int × Unit) : Option (((List Int) × Unit)) := loopRun (X_ref08_Times n) Tryz.f40 S_ref08_Times_8 8 k v

/-! ### 41: herald/heraldref08.Scale -/
def V_ref08_Scale_7 : NS := ⟨[(1, .data (.int .i64)), (6, .own (.int .i64)), (21, .data Y37), (22, .data (.int .i64)), (23, .data (.int .i64))], [], 16⟩
def S_ref08_Scale_7 : LS := ⟨V_ref08_Scale_7, [(.exit 0, ⟨[(6, .own (.int .i64))], [], 16⟩)]⟩
noncomputable def X_ref08_Scale (n : Nat) : Cx := { tt := tt, calls := [(59, E_ref02_Round n)], owns := [], loops := [(7, S_ref08_Scale_7)], joins := [], nt := 39, fuel := n }
noncomputable def F_ref08_Scale (n : Nat) (x : (List Int) × Int) : Option ((List Int) × Int) := bodyRun (X_ref08_Scale n) Tryz.f41 [Y37, (.int .i64)] [Y37, (.int .i64)] x
noncomputable def E_ref08_Scale (n : Nat) : Entry := ⟨[Y37, (.int .i64)], [Y37, (.int .i64)], F_ref08_Scale n⟩
noncomputable def L_ref08_Scale_7 (n k : Nat) (v : Int × (List Int) × (List Int) × Int × Int × Unit) : Option (((List Int) × Unit)) := loopRun (X_ref08_Scale n) Tryz.f41 S_ref08_Scale_7 7 k v

/-! ### 62: herald/heraldref08.Shrink -/
def V_ref08_Shrink_4 : NS := ⟨[(7, .data (.int .i64)), (8, .own (.int .i8)), (18, .data Y37), (19, .data (.int .i64)), (20, .data (.int .i64))], [], 15⟩
def S_ref08_Shrink_4 : LS := ⟨V_ref08_Shrink_4, [(.exit 0, ⟨[(7, .data (.int .i64)), (8, .own (.int .i8))], [], 15⟩)]⟩
noncomputable def X_ref08_Shrink (n : Nat) : Cx := { tt := tt, calls := [(41, E_ref08_Scale n), (60, E_ref02_Narrow n)], owns := [], loops := [(4, S_ref08_Shrink_4)], joins := [], nt := 32, fuel := n }
noncomputable def F_ref08_Shrink (n : Nat) (x : (List Int) × Int) : Option ((List Int) × Int) := bodyRun (X_ref08_Shrink n) Tryz.f62 [Y37, (.int .i64)] [Y8, (.int .i64)] x
noncomputable def E_ref08_Shrink (n : Nat) : Entry := ⟨[Y37, (.int .i64)], [Y8, (.int .i64)], F_ref08_Shrink n⟩
noncomputable def L_ref08_Shrink_4 (n k : Nat) (v : Int × (List Int) × (List Int) × Int × Int × Unit) : Option ((Int × (List Int) × Unit)) := loopRun (X_ref08_Shrink n) Tryz.f62 S_ref08_Shrink_4 4 k v

/-! ### 35: herald/heraldref20.through -/
noncomputable def X_ref20_through (n : Nat) : Cx := { tt := tt, calls := [(40, E_ref08_Times n), (62, E_ref08_Shrink n)], owns := [], loops := [], joins := [], nt := 26, fuel := n }
noncomputable def F_ref20_through (n : Nat) (x : (List Int) × (List Int) × Int) : Option ((List Int) × Int) := bodyRun (X_ref20_through n) Tryz.f35 [Y8, Y8, (.int .i64)] [Y8, (.int .i64)] x
noncomputable def E_ref20_through (n : Nat) : Entry := ⟨[Y8, Y8, (.int .i64)], [Y8, (.int .i64)], F_ref20_through n⟩

/-! ### 117: herald/heraldref10.both -/
noncomputable def X_ref10_both (n : Nat) : Cx := { tt := tt, calls := [(59, E_ref02_Round n), (60, E_ref02_Narrow n)], owns := [], loops := [], joins := [], nt := 40, fuel := n }
noncomputable def F_ref10_both (n : Nat) (x : Int × Int × Int × Int) : Option (Int × Int) := bodyRun (X_ref10_both n) Tryz.f117 [(.int .i64), (.int .i64), (.int .i64), (.int .i64)] [(.int .i8), (.int .i8)] x
noncomputable def E_ref10_both (n : Nat) : Entry := ⟨[(.int .i64), (.int .i64), (.int .i64), (.int .i64)], [(.int .i8), (.int .i8)], F_ref10_both n⟩

/-! ### 101: herald/heraldref10.turned -/
def V_ref10_turned_7 : NS := ⟨[(0, .data Y8), (1, .data (.int .i64)), (2, .data Y8), (3, .data Y8), (4, .data (.int .i64)), (12, .own (.int .i8)), (13, .data (.int .i64))], [], 31⟩
def S_ref10_turned_7 : LS := ⟨V_ref10_turned_7, [(.exit 0, ⟨[(12, .own (.int .i8))], [], 31⟩)]⟩
noncomputable def X_ref10_turned (n : Nat) : Cx := { tt := tt, calls := [(117, E_ref10_both n)], owns := [], loops := [(7, S_ref10_turned_7)], joins := [], nt := 87, fuel := n }
noncomputable def F_ref10_turned (n : Nat) (x : (List Int) × Int × (List Int) × (List Int) × Int) : Option ((List Int) × Int) := bodyRun (X_ref10_turned n) Tryz.f101 [Y8, (.int .i64), Y8, Y8, (.int .i64)] [Y8, (.int .i64)] x
noncomputable def E_ref10_turned (n : Nat) : Entry := ⟨[Y8, (.int .i64), Y8, Y8, (.int .i64)], [Y8, (.int .i64)], F_ref10_turned n⟩
noncomputable def L_ref10_turned_7 (n k : Nat) (v : (List Int) × Int × (List Int) × (List Int) × Int × (List Int) × Int × Unit) : Option (((List Int) × Unit)) := loopRun (X_ref10_turned n) Tryz.f101 S_ref10_turned_7 7 k v

end Go.Am
