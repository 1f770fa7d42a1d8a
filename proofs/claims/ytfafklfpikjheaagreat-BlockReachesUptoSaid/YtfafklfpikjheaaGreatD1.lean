import Derived.Test.YtfafklfpikjheaaGreatD0
set_option linter.unusedVariables false
set_option linter.unusedSimpArgs false
namespace Go.Am
open Go Go.Proofs

/-! ### 89: herald/heraldref12.Table -/
def V_ref12_Table_5 : NS := ⟨[(0, .data (.int .i64)), (4, .own (.int .i8)), (5, .data (.int .i64))], [], 11⟩
def S_ref12_Table_5 : LS := ⟨V_ref12_Table_5, [(.exit 0, ⟨[(4, .own (.int .i8))], [], 11⟩)]⟩
def J_ref12_Table_20 : NS := ⟨[(0, .data (.int .i64)), (4, .own (.int .i8)), (5, .data (.int .i64)), (6, .data (.int .i64))], [], 18⟩
noncomputable def X_ref12_Table (n : Nat) : Cx := { tt := tt, calls := [(113, E_ref12_bent n)], owns := [], loops := [(5, S_ref12_Table_5)], joins := [(20, J_ref12_Table_20)], nt := 30, fuel := n }
noncomputable def F_ref12_Table (n : Nat) (x : Int) : Option ((List Int) × Int) := bodyRun (X_ref12_Table n) Tryz.f89 [(.int .i64)] [Y8, (.int .i64)] x
noncomputable def E_ref12_Table (n : Nat) : Entry := ⟨[(.int .i64)], [Y8, (.int .i64)], F_ref12_Table n⟩
noncomputable def L_ref12_Table_5 (n k : Nat) (v : Int × (List Int) × Int × Unit) : Option (((List Int) × Unit)) := loopRun (X_ref12_Table n) Tryz.f89 S_ref12_Table_5 5 k v

/-! ### 90: herald/heraldref16.row -/
def V_ref16_row_3 : NS := ⟨[(0, .data (.int .u64)), (1, .data (.int .i64)), (6, .own (.int .i8)), (7, .data (.int .i64))], [], 5⟩
def S_ref16_row_3 : LS := ⟨V_ref16_row_3, [(.exit 0, ⟨[(0, .data (.int .u64)), (6, .own (.int .i8))], [], 5⟩)]⟩
def J_ref16_row_22 : NS := ⟨[(0, .data (.int .u64)), (1, .data (.int .i64)), (6, .own (.int .i8)), (7, .data (.int .i64)), (8, .data (.int .i64))], [], 19⟩
noncomputable def X_ref16_row (n : Nat) : Cx := { tt := tt, calls := [], owns := [], loops := [(3, S_ref16_row_3)], joins := [(22, J_ref16_row_22)], nt := 32, fuel := n }
noncomputable def F_ref16_row (n : Nat) (x : Int × Int) : Option ((List Int) × Int) := bodyRun (X_ref16_row n) Tryz.f90 [(.int .u64), (.int .i64)] [Y8, (.int .u64)] x
noncomputable def E_ref16_row (n : Nat) : Entry := ⟨[(.int .u64), (.int .i64)], [Y8, (.int .u64)], F_ref16_row n⟩
noncomputable def L_ref16_row_3 (n k : Nat) (v : Int × Int × (List Int) × Int × Unit) : Option ((Int × (List Int) × Unit)) := loopRun (X_ref16_row n) Tryz.f90 S_ref16_row_3 3 k v

/-! ### 49: herald/heraldref16.Sample -/
def V_ref16_Sample_11 : NS := ⟨[(2, .fix (.v false [.ptr 0 0])), (4, .fix (.v false [.ptr 1 0])), (7, .data (.int .i64)), (8, .data (.int .i64)), (9, .fix (.v false [.ptr 24 0])), (10, .data (.int .u64)), (11, .data (.int .i64))], [(0, .cells [.data (.int .i64), .data (.int .i64), .data (.int .i64), .data (.int .i64), .data (.int .i64), .data (.int .i64)]), (1, .cells [.data (.int .i64), .data (.int .i64), .data (.int .i64), .data (.int .i64), .data (.int .i64), .data (.int .i64), .own .str, .own Y1, .own (.int .i8), .data (.int .i64), .own (.int .i8), .own (.int .i8), .own Y22, .own (.int .i8), .own (.int .i8), .own (.int .i8), .data (.int .i64)]), (24, .cells [.data (.int .i64), .data (.int .i64), .data (.int .i64), .data (.int .i64), .data (.int .i64), .data (.int .i64), .data Y5, .data Y6, .data Y8, .data (.int .i64), .data Y8, .data Y8, .own Y22, .data Y8, .data Y8, .own (.int .i8), .data (.int .i64)])], 61⟩
def S_ref16_Sample_11 : LS := ⟨V_ref16_Sample_11, [(.exit 0, ⟨[(2, .fix (.v false [.ptr 0 0])), (4, .fix (.v false [.ptr 1 0])), (7, .data (.int .i64)), (9, .fix (.v false [.ptr 24 0])), (10, .data (.int .u64))], [(0, .cells [.data (.int .i64), .data (.int .i64), .data (.int .i64), .data (.int .i64), .data (.int .i64), .data (.int .i64)]), (1, .cells [.data (.int .i64), .data (.int .i64), .data (.int .i64), .data (.int .i64), .data (.int .i64), .data (.int .i64), .own .str, .own Y1, .own (.int .i8), .data (.int .i64), .own (.int .i8), .own (.int .i8), .own Y22, .own (.int .i8), .own (.int .i8), .own (.int .i8), .data (.int .i64)]), (24, .cells [.data (.int .i64), .data (.int .i64), .data (.int .i64), .data (.int .i64), .data (.int .i64), .data (.int .i64), .data Y5, .data Y6, .data Y8, .data (.int .i64), .data Y8, .data Y8, .own Y22, .data Y8, .data Y8, .own (.int .i8), .data (.int .i64)])], 61⟩)]⟩
noncomputable def X_ref16_Sample (n : Nat) : Cx := { tt := tt, calls := [(79, E_ref16_Check n), (85, E_ref16_texts n), (86, E_ref16_root n), (87, E_ref16_same n), (82, E_ref16_Half n), (88, E_ref10_Table n), (89, E_ref12_Table n), (90, E_ref16_row n)], owns := [], loops := [(11, S_ref16_Sample_11)], joins := [], nt := 182, fuel := n }
noncomputable def F_ref16_Sample (n : Nat) (x : (Int × Int × Int × Int × Int × Int) × Int) : Option (((Int × Int × Int × Int × Int × Int) × ((List (List UInt8)) × (List (Int × Int × Int))) × (List Int) × Int × (List Int) × (List Int) × (List ((List Int) × (List Int) × (List Int) × (List Int) × (List Int) × (List Int) × Int × Int × Int × Int × Int × (List Int) × (List Int) × (List Int) × Int × Int × Int)) × (List Int) × (List Int) × (List Int) × Int) × Int) := bodyRun (X_ref16_Sample n) Tryz.f49 [Y4, (.int .i64)] [Y33, (.int .i64)] x
noncomputable def E_ref16_Sample (n : Nat) : Entry := ⟨[Y4, (.int .i64)], [Y33, (.int .i64)], F_ref16_Sample n⟩
noncomputable def L_ref16_Sample_11 (n k : Nat) (v : Unit × Unit × Int × Int × Unit × Int × Int × (Int × Int × Int × Int × Int × Int × Unit) × (Int × Int × Int × Int × Int × Int × (List (List UInt8)) × (List (Int × Int × Int)) × (List Int) × Int × (List Int) × (List Int) × (List ((List Int) × (List Int) × (List Int) × (List Int) × (List Int) × (List Int) × Int × Int × Int × Int × Int × (List Int) × (List Int) × (List Int) × Int × Int × Int)) × (List Int) × (List Int) × (List Int) × Int × Unit) × (Int × Int × Int × Int × Int × Int × (List (List UInt8)) × (List (Int × Int × Int)) × (List Int) × Int × (List Int) × (List Int) × (List ((List Int) × (List Int) × (List Int) × (List Int) × (List Int) × (List Int) × Int × Int × Int × Int × Int × (List Int) × (List Int) × (List Int) × Int × Int × Int)) × (List Int) × (List Int) × (List Int) × Int × Unit) × Unit) : Option ((Unit × Unit × Int × Unit × Int × (Int × Int × Int × Int × Int × Int × Unit) × (Int × Int × Int × Int × Int × Int × (List (List UInt8)) × (List (Int × Int × Int)) × (List Int) × Int × (List Int) × (List Int) × (List ((List Int) × (List Int) × (List Int) × (List Int) × (List Int) × (List Int) × Int × Int × Int × Int × Int × (List Int) × (List Int) × (List Int) × Int × Int × Int)) × (List Int) × (List Int) × (List Int) × Int × Unit) × (Int × Int × Int × Int × Int × Int × (List (List UInt8)) × (List (Int × Int × Int)) × (List Int) × Int × (List Int) × (List Int) × (List ((List Int) × (List Int) × (List Int) × (List Int) × (List Int) × (List Int) × Int × Int × Int × Int × Int × (List Int) × (List Int) × (List Int) × Int × Int × Int)) × (List Int) × (List Int) × (List Int) × Int × Unit) × Unit)) := loopRun (X_ref16_Sample n) Tryz.f49 S_ref16_Sample_11 11 k v

/-! ### 48: herald/heraldref16.own -/
noncomputable def X_ref16_own (n : Nat) : Cx := { tt := tt, calls := [], owns := [], loops := [], joins := [], nt := 6, fuel := n }
noncomputable def F_ref16_own (n : Nat) (x : List Int) : Option (List Int) := bodyRun (X_ref16_own n) Tryz.f48 [Y8] [Y8] x
noncomputable def E_ref16_own (n : Nat) : Entry := ⟨[Y8], [Y8], F_ref16_own n⟩

/-! ### 50: herald/heraldref16.To -/
def V_ref16_To_6 : NS := ⟨[(1, .fix (.v false [.ptr 0 0])), (2, .fix (.v false [.ptr 1 0])), (4, .fix (.v false [.ptr 24 0])), (63, .data Y6), (64, .data (.int .i64)), (65, .data (.int .i64))], [(0, .cells [.data (.int .i64), .data (.int .i64), .data (.int .i64), .data (.int .i64), .data (.int .i64), .data (.int .i64), .data Y5, .data Y6, .data Y8, .data (.int .i64), .data Y8, .data Y8, .data Y23, .data Y8, .data Y8, .data Y8, .data (.int .i64)]), (1, .cells [.data (.int .i64), .data (.int .i64), .data (.int .i64), .data (.int .i64), .data (.int .i64), .data (.int .i64), .own .str, .own Y1, .own (.int .i8), .data (.int .i64), .own (.int .i8), .own (.int .i8), .own Y22, .own (.int .i8), .own (.int .i8), .own (.int .i8), .data (.int .i64)]), (24, .cells [.data (.int .i64), .data (.int .i64), .data (.int .i64), .data (.int .i64), .data (.int .i64), .data (.int .i64), .own .str, .own Y1, .data Y8, .data (.int .i64), .data Y8, .data Y8, .own Y22, .data Y8, .data Y8, .data Y8, .data (.int .i64)])], 69⟩
def S_ref16_To_6 : LS := ⟨V_ref16_To_6, [(.exit 0, ⟨[(1, .fix (.v false [.ptr 0 0])), (2, .fix (.v false [.ptr 1 0])), (4, .fix (.v false [.ptr 24 0]))], [(0, .cells [.data (.int .i64), .data (.int .i64), .data (.int .i64), .data (.int .i64), .data (.int .i64), .data (.int .i64), .data Y5, .data Y6, .data Y8, .data (.int .i64), .data Y8, .data Y8, .data Y23, .data Y8, .data Y8, .data Y8, .data (.int .i64)]), (1, .cells [.data (.int .i64), .data (.int .i64), .data (.int .i64), .data (.int .i64), .data (.int .i64), .data (.int .i64), .own .str, .own Y1, .own (.int .i8), .data (.int .i64), .own (.int .i8), .own (.int .i8), .own Y22, .own (.int .i8), .own (.int .i8), .own (.int .i8), .data (.int .i64)]), (24, .cells [.data (.int .i64), .data (.int .i64), .data (.int .i64), .data (.int .i64), .data (.int .i64), .data (.int .i64), .own .str, .own Y1, .data Y8, .data (.int .i64), .data Y8, .data Y8, .own Y22, .data Y8, .data Y8, .data Y8, .data (.int .i64)])], 69⟩)]⟩
def V_ref16_To_11 : NS := ⟨[(2, .fix (.v false [.ptr 1 0])), (4, .fix (.v false [.ptr 24 0])), (85, .data Y23), (86, .data (.int .i64)), (87, .data (.int .i64))], [(1, .cells [.data (.int .i64), .data (.int .i64), .data (.int .i64), .data (.int .i64), .data (.int .i64), .data (.int .i64), .own .str, .own Y1, .own (.int .i8), .data (.int .i64), .own (.int .i8), .own (.int .i8), .own Y22, .own (.int .i8), .own (.int .i8), .own (.int .i8), .data (.int .i64)]), (24, .cells [.data (.int .i64), .data (.int .i64), .data (.int .i64), .data (.int .i64), .data (.int .i64), .data (.int .i64), .own .str, .own Y1, .data Y8, .data (.int .i64), .data Y8, .data Y8, .own Y22, .data Y8, .data Y8, .data Y8, .data (.int .i64)])], 85⟩
def S_ref16_To_11 : LS := ⟨V_ref16_To_11, [(.exit 2, ⟨[(2, .fix (.v false [.ptr 1 0])), (4, .fix (.v false [.ptr 24 0]))], [(1, .cells [.data (.int .i64), .data (.int .i64), .data (.int .i64), .data (.int .i64), .data (.int .i64), .data (.int .i64), .own .str, .own Y1, .own (.int .i8), .data (.int .i64), .own (.int .i8), .own (.int .i8), .own Y22, .own (.int .i8), .own (.int .i8), .own (.int .i8), .data (.int .i64)]), (24, .cells [.data (.int .i64), .data (.int .i64), .data (.int .i64), .data (.int .i64), .data (.int .i64), .data (.int .i64), .own .str, .own Y1, .data Y8, .data (.int .i64), .data Y8, .data Y8, .own Y22, .data Y8, .data Y8, .data Y8, .data (.int .i64)])], 85⟩)]⟩
noncomputable def X_ref16_To (n : Nat) : Cx := { tt := tt, calls := [(48, E_ref16_own n)], owns := [], loops := [(6, S_ref16_To_6), (11, S_ref16_To_11)], joins := [], nt := 151, fuel := n }
noncomputable def F_ref16_To (n : Nat) (x : (Int × Int × Int × Int × Int × Int) × ((List (List UInt8)) × (List (Int × Int × Int))) × (List Int) × Int × (List Int) × (List Int) × (List ((List Int) × (List Int) × (List Int) × (List Int) × (List Int) × (List Int) × Int × Int × Int × Int × Int × (List Int) × (List Int) × (List Int) × Int × Int × Int)) × (List Int) × (List Int) × (List Int) × Int) : Option ((Int × Int × Int × Int × Int × Int) × ((List (List UInt8)) × (List (Int × Int × Int))) × (List Int) × Int × (List Int) × (List Int) × (List ((List Int) × (List Int) × (List Int) × (List Int) × (List Int) × (List Int) × Int × Int × Int × Int × Int × (List Int) × (List Int) × (List Int) × Int × Int × Int)) × (List Int) × (List Int) × (List Int) × Int) := bodyRun (X_ref16_To n) Tryz.f50 [Y33] [Y33] x
noncomputable def E_ref16_To (n : Nat) : Entry := ⟨[Y33], [Y33], F_ref16_To n⟩
noncomputable def L_ref16_To_6 (n k : Nat) (v : Unit × Unit × Unit × (List (Int × Int × Int)) × Int × Int × (Int × Int × Int × Int × Int × Int × (List (List UInt8)) × (List (Int × Int × Int)) × (List Int) × Int × (List Int) × (List Int) × (List ((List Int) × (List Int) × (List Int) × (List Int) × (List Int) × (List Int) × Int × Int × Int × Int × Int × (List Int) × (List Int) × (List Int) × Int × Int × Int)) × (List Int) × (List Int) × (List Int) × Int × Unit) × (Int × Int × Int × Int × Int × Int × (List (List UInt8)) × (List (Int × Int × Int)) × (List Int) × Int × (List Int) × (List Int) × (List ((List Int) × (List Int) × (List Int) × (List Int) × (List Int) × (List Int) × Int × Int × Int × Int × Int × (List Int) × (List Int) × (List Int) × Int × Int × Int)) × (List Int) × (List Int) × (List Int) × Int × Unit) × (Int × Int × Int × Int × Int × Int × (List (List UInt8)) × (List (Int × Int × Int)) × (List Int) × Int × (List Int) × (List Int) × (List ((List Int) × (List Int) × (List Int) × (List Int) × (List Int) × (List Int) × Int × Int × Int × Int × Int × (List Int) × (List Int) × (List Int) × Int × Int × Int)) × (List Int) × (List Int) × (List Int) × Int × Unit) × Unit) : Option ((Unit × Unit × Unit × (Int × Int × Int × Int × Int × Int × (List (List UInt8)) × (List (Int × Int × Int)) × (List Int) × Int × (List Int) × (List Int) × (List ((List Int) × (List Int) × (List Int) × (List Int) × (List Int) × (List Int) × Int × Int × Int × Int × Int × (List Int) × (List Int) × (List Int) × Int × Int × Int)) × (List Int) × (List Int) × (List Int) × Int × Unit) × (Int × Int × Int × Int × Int × Int × (List (List UInt8)) × (List (Int × Int × Int)) × (List Int) × Int × (List Int) × (List Int) × (List ((List Int) × (List Int) × (List Int) × (List Int) × (List Int) × (List Int) × Int × Int × Int × Int × Int × (List Int) × (List Int) × (List Int) × Int × Int × Int)) × (List Int) × (List Int) × (List Int) × Int × Unit) × (Int × Int × Int × Int × Int × Int × (List (List UInt8)) × (List (Int × Int × Int)) × (List Int) × Int × (List Int) × (List Int) × (List ((List Int) × (List Int) × (List Int) × (List Int) × (List Int) × (List Int) × Int × Int × Int × Int × Int × (List Int) × (List Int) × (List Int) × Int × Int × Int)) × (List Int) × (List Int) × (List Int) × Int × Unit) × Unit)) := loopRun (X_ref16_To n) Tryz.f50 S_ref16_To_6 6 k v
noncomputable def L_ref16_To_11 (n k : Nat) (v : Unit × Unit × (List ((List Int) × (List Int) × (List Int) × (List Int) × (List Int) × (List Int) × Int × Int × Int × Int × Int × (List Int) × (List Int) × (List Int) × Int × Int × Int)) × Int × Int × (Int × Int × Int × Int × Int × Int × (List (List UInt8)) × (List (Int × Int × Int)) × (List Int) × Int × (List Int) × (List Int) × (List ((List Int) × (List Int) × (List Int) × (List Int) × (List Int) × (List Int) × Int × Int × Int × Int × Int × (List Int) × (List Int) × (List Int) × Int × Int × Int)) × (List Int) × (List Int) × (List Int) × Int × Unit) × (Int × Int × Int × Int × Int × Int × (List (List UInt8)) × (List (Int × Int × Int)) × (List Int) × Int × (List Int) × (List Int) × (List ((List Int) × (List Int) × (List Int) × (List Int) × (List Int) × (List Int) × Int × Int × Int × Int × Int × (List Int) × (List Int) × (List Int) × Int × Int × Int)) × (List Int) × (List Int) × (List Int) × Int × Unit) × Unit) : Option ((Unit × Unit × (Int × Int × Int × Int × Int × Int × (List (List UInt8)) × (List (Int × Int × Int)) × (List Int) × Int × (List Int) × (List Int) × (List ((List Int) × (List Int) × (List Int) × (List Int) × (List Int) × (List Int) × Int × Int × Int × Int × Int × (List Int) × (List Int) × (List Int) × Int × Int × Int)) × (List Int) × (List Int) × (List Int) × Int × Unit) × (Int × Int × Int × Int × Int × Int × (List (List UInt8)) × (List (Int × Int × Int)) × (List Int) × Int × (List Int) × (List Int) × (List ((List Int) × (List Int) × (List Int) × (List Int) × (List Int) × (List Int) × Int × Int × Int × Int × Int × (List Int) × (List Int) × (List Int) × Int × Int × Int)) × (List Int) × (List Int) × (List Int) × Int × Unit) × Unit)) := loopRun (X_ref16_To n) Tryz.f50 S_ref16_To_11 11 k v

/-! ### 27: herald/heraldlaw20.small -/
noncomputable def X_law20_small (n : Nat) : Cx := { tt := tt, calls := [(49, E_ref16_Sample n), (50, E_ref16_To n)], owns := [], loops := [], joins := [], nt := 23, fuel := n }
noncomputable def F_law20_small (n : Nat) (x : Unit) : Option (((List Int) × (List Int) × (List Int) × (List Int) × (List Int) × (List Int) × Int × Int × Int × Int × Int × (List Int) × (List Int) × (List Int) × Int × Int × Int) × Int × (List Int) × (List Int) × (List Int)) := bodyRun (X_law20_small n) Tryz.f27 [] [Y22, Y36] x
noncomputable def E_law20_small (n : Nat) : Entry := ⟨[], [Y22, Y36], F_law20_small n⟩

/-! ### 28: herald/block.angles -/
noncomputable def X_block_angles (n : Nat) : Cx := { tt := tt, calls := [], owns := [], loops := [], joins := [], nt := 77, fuel := n }
noncomputable def F_block_angles (n : Nat) (x : (Int × (List Int) × (List Int) × (List Int)) × (List Int) × Int) : Option (Int × (List Int) × (List Int) × Int) := bodyRun (X_block_angles n) Tryz.f28 [Y36, Y37, (.int .i64)] [(.int .i64), Y8, Y8, (.int .i64)] x
noncomputable def E_block_angles (n : Nat) : Entry := ⟨[Y36, Y37, (.int .i64)], [(.int .i64), Y8, Y8, (.int .i64)], F_block_angles n⟩

/-! ### 91: herald/fixed.Sqrt -/
def V_fixed_Sqrt_5 : NS := ⟨[(0, .data (.int .i64)), (4, .data (.int .i64)), (5, .data (.int .i64))], [], 6⟩
def S_fixed_Sqrt_5 : LS := ⟨V_fixed_Sqrt_5, [(.exit 0, ⟨[(4, .data (.int .i64))], [], 6⟩)]⟩
def J_fixed_Sqrt_26 : NS := ⟨[(0, .data (.int .i64)), (4, .data (.int .i64)), (5, .data (.int .i64))], [], 23⟩
noncomputable def X_fixed_Sqrt (n : Nat) : Cx := { tt := tt, calls := [], owns := [], loops := [(5, S_fixed_Sqrt_5)], joins := [(26, J_fixed_Sqrt_26)], nt := 29, fuel := n }
noncomputable def F_fixed_Sqrt (n : Nat) (x : Int) : Option (Int × Int) := bodyRun (X_fixed_Sqrt n) Tryz.f91 [(.int .i64)] [(.int .i64), (.int .i64)] x
noncomputable def E_fixed_Sqrt (n : Nat) : Entry := ⟨[(.int .i64)], [(.int .i64), (.int .i64)], F_fixed_Sqrt n⟩
noncomputable def L_fixed_Sqrt_5 (n k : Nat) (v : Int × Int × Int × Unit) : Option ((Int × Unit)) := loopRun (X_fixed_Sqrt n) Tryz.f91 S_fixed_Sqrt_5 5 k v

/-! ### 51: herald/norm.root -/
def V_norm_root_5 : NS := ⟨[(0, .data Y37), (4, .data (.int .i64)), (17, .data Y37), (18, .data (.int .i64)), (19, .data (.int .i64))], [], 14⟩
def S_norm_root_5 : LS := ⟨V_norm_root_5, [(.ret, ⟨[(2, .data (.int .i64)), (3, .data (.int .i64))], [], 14⟩), (.exit 0, ⟨[(0, .data Y37), (4, .data (.int .i64))], [], 14⟩)]⟩
noncomputable def X_norm_root (n : Nat) : Cx := { tt := tt, calls := [(91, E_fixed_Sqrt n)], owns := [], loops := [(5, S_norm_root_5)], joins := [], nt := 45, fuel := n }
noncomputable def F_norm_root (n : Nat) (x : List Int) : Option (Int × Int) := bodyRun (X_norm_root n) Tryz.f51 [Y37] [(.int .i64), (.int .i64)] x
noncomputable def E_norm_root (n : Nat) : Entry := ⟨[Y37], [(.int .i64), (.int .i64)], F_norm_root n⟩
noncomputable def L_norm_root_5 (n k : Nat) (v : (List Int) × Int × (List Int) × Int × Int × Unit) : Option ((Int × Int × Unit) ⊕ (((List Int) × Int × Unit))) := loopRun (X_norm_root n) Tryz.f51 S_norm_root_5 5 k v

/-! ### 114: herald/fixed.Floor -/
def J_fixed_Floor_18 : NS := ⟨[(7, .data (.int .i64)), (8, .data (.int .i64))], [], 15⟩
noncomputable def X_fixed_Floor (n : Nat) : Cx := { tt := tt, calls := [], owns := [], loops := [], joins := [(18, J_fixed_Floor_18)], nt := 26, fuel := n }
noncomputable def F_fixed_Floor (n : Nat) (x : Int × Int) : Option (Int × Int × Int) := bodyRun (X_fixed_Floor n) Tryz.f114 [(.int .i64), (.int .i64)] [(.int .i64), (.int .i64), (.int .i64)] x
noncomputable def E_fixed_Floor (n : Nat) : Entry := ⟨[(.int .i64), (.int .i64)], [(.int .i64), (.int .i64), (.int .i64)], F_fixed_Floor n⟩

/-! ### 92: herald/fixed.Near -/
def J_fixed_Near_35 : NS := ⟨[(6, .data (.int .i64))], [], 31⟩
noncomputable def X_fixed_Near (n : Nat) : Cx := { tt := tt, calls := [(114, E_fixed_Floor n)], owns := [], loops := [], joins := [(35, J_fixed_Near_35)], nt := 39, fuel := n }
noncomputable def F_fixed_Near (n : Nat) (x : Int × Int) : Option (Int × Int) := bodyRun (X_fixed_Near n) Tryz.f92 [(.int .i64), (.int .i64)] [(.int .i64), (.int .i64)] x
noncomputable def E_fixed_Near (n : Nat) : Entry := ⟨[(.int .i64), (.int .i64)], [(.int .i64), (.int .i64)], F_fixed_Near n⟩

/-! ### 52: herald/fixed.Round -/
noncomputable def X_fixed_Round (n : Nat) : Cx := { tt := tt, calls := [(92, E_fixed_Near n)], owns := [], loops := [], joins := [], nt := 18, fuel := n }
noncomputable def F_fixed_Round (n : Nat) (x : Int × Int) : Option (Int × Int) := bodyRun (X_fixed_Round n) Tryz.f52 [(.int .i64), (.int .i64)] [(.int .i64), (.int .i64)] x
noncomputable def E_fixed_Round (n : Nat) : Entry := ⟨[(.int .i64), (.int .i64)], [(.int .i64), (.int .i64)], F_fixed_Round n⟩

/-! ### 93: herald/fixed.Clamp -/
noncomputable def X_fixed_Clamp (n : Nat) : Cx := { tt := tt, calls := [], owns := [], loops := [], joins := [], nt := 18, fuel := n }
noncomputable def F_fixed_Clamp (n : Nat) (x : Int × Int × Int) : Option (Int) := bodyRun (X_fixed_Clamp n) Tryz.f93 [(.int .i64), (.int .i64), (.int .i64)] [(.int .i64)] x
noncomputable def E_fixed_Clamp (n : Nat) : Entry := ⟨[(.int .i64), (.int .i64), (.int .i64)], [(.int .i64)], F_fixed_Clamp n⟩

/-! ### 53: herald/fixed.Narrow -/
noncomputable def X_fixed_Narrow (n : Nat) : Cx := { tt := tt, calls := [(93, E_fixed_Clamp n)], owns := [], loops := [], joins := [], nt := 6, fuel := n }
noncomputable def F_fixed_Narrow (n : Nat) (x : Int) : Option (Int) := bodyRun (X_fixed_Narrow n) Tryz.f53 [(.int .i64)] [(.int .i8)] x
noncomputable def E_fixed_Narrow (n : Nat) : Entry := ⟨[(.int .i64)], [(.int .i8)], F_fixed_Narrow n⟩

/-! ### 29: herald/norm.Row -/
def V_norm_Row_8 : NS := ⟨[(1, .data Y8), (6, .data (.int .i64)), (8, .fix (.v false [.vec 18])), (29, .data Y37), (30, .data (.int .i64)), (31, .data (.int .i64))], [(18, .row (.int .i8))], 23⟩
def S_norm_Row_8 : LS := ⟨V_norm_Row_8, [(.exit 0, ⟨[(8, .fix (.v false [.vec 18]))], [(18, .row (.int .i8))], 23⟩)]⟩
noncomputable def X_norm_Row (n : Nat) : Cx := { tt := tt, calls := [(51, E_norm_root n), (52, E_fixed_Round n), (53, E_fixed_Narrow n)], owns := [], loops := [(8, S_norm_Row_8)], joins := [], nt := 57, fuel := n }
noncomputable def F_norm_Row (n : Nat) (x : (List Int) × (List Int)) : Option ((List Int) × Int) := bodyRun (X_norm_Row n) Tryz.f29 [Y37, Y8] [Y8, (.int .i64)] x
noncomputable def E_norm_Row (n : Nat) : Entry := ⟨[Y37, Y8], [Y8, (.int .i64)], F_norm_Row n⟩
noncomputable def L_norm_Row_8 (n k : Nat) (v : (List Int) × Int × Unit × (List Int) × Int × Int × (List Int) × Unit) : Option ((Unit × (List Int) × Unit)) := loopRun (X_norm_Row n) Tryz.f29 S_norm_Row_8 8 k v

/-! ### 94: herald/vec.matrix -/
noncomputable def X_vec_matrix (n : Nat) : Cx := { tt := tt, calls := [], owns := [], loops := [], joins := [], nt := 19, fuel := n }
noncomputable def F_vec_matrix (n : Nat) (x : (List Int) × Int) : Option (Int) := bodyRun (X_vec_matrix n) Tryz.f94 [Y8, (.int .i64)] [(.int .i64)] x
noncomputable def E_vec_matrix (n : Nat) : Entry := ⟨[Y8, (.int .i64)], [(.int .i64)], F_vec_matrix n⟩

end Go.Am
