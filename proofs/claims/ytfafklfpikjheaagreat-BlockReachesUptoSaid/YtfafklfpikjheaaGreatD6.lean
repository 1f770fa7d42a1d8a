import Derived.Test.YtfafklfpikjheaaGreatD5
set_option linter.unusedVariables false
set_option linter.unusedSimpArgs false
namespace Go.Am
open Go Go.Proofs

/-! ### 43: herald/heraldref12.Run -/
noncomputable def X_ref12_Run (n : Nat) : Cx := { tt := tt, calls := [(74, E_ref12_shrunk n), (75, E_ref12_Gate n), (40, E_ref08_Times n), (41, E_ref08_Scale n)], owns := [], loops := [], joins := [], nt := 65, fuel := n }
noncomputable def F_ref12_Run (n : Nat) (x : ((List Int) × (List Int) × (List Int) × Int × Int × Int) × (List Int) × (List Int)) : Option ((List Int) × Int) := bodyRun (X_ref12_Run n) Tryz.f43 [Y11, Y8, Y8] [Y37, (.int .i64)] x
noncomputable def E_ref12_Run (n : Nat) : Entry := ⟨[Y11, Y8, Y8], [Y37, (.int .i64)], F_ref12_Run n⟩

/-! ### 16: herald/heraldref20.Run -/
noncomputable def X_ref20_Run (n : Nat) : Cx := { tt := tt, calls := [(32, E_ref20_angles n), (33, E_ref09_Row n), (34, E_ref20_turned n), (39, E_ref19_Look n), (40, E_ref08_Times n), (41, E_ref08_Scale n), (42, E_ref08_Add n), (43, E_ref12_Run n)], owns := [], loops := [], joins := [], nt := 132, fuel := n }
noncomputable def F_ref20_Run (n : Nat) (x : ((List Int) × (List Int) × (List Int) × (List Int) × (List Int) × (List Int) × Int × Int × Int × Int × Int × (List Int) × (List Int) × (List Int) × Int × Int × Int) × (Int × (List Int) × (List Int) × (List Int)) × (List Int) × (List ((List Int) × (List Int)))) : Option ((List Int) × Int) := bodyRun (X_ref20_Run n) Tryz.f16 [Y22, Y36, Y37, Y41] [Y37, (.int .i64)] x
noncomputable def E_ref20_Run (n : Nat) : Entry := ⟨[Y22, Y36, Y37, Y41], [Y37, (.int .i64)], F_ref20_Run n⟩

/-! ### 20: herald/heraldref20.Pass -/
def V_ref20_Pass_4 : NS := ⟨[(3, .data Y41), (4, .fix (.v false [.ptr 0 0])), (5, .fix (.v false [.ptr 1 0])), (11, .own Y34), (12, .own Y37), (22, .data Y38), (23, .data (.int .i64)), (24, .data (.int .i64))], [(0, .cells [.data Y8, .data Y8, .data Y8, .data Y8, .data Y8, .data Y8, .data (.int .i64), .data (.int .i64), .data (.int .i64), .data (.int .i64), .data (.int .i64), .data Y8, .data Y8, .data Y8, .data (.int .i64), .data (.int .i64), .data (.int .i64)]), (1, .cells [.data (.int .i64), .data Y8, .data Y8, .data Y8])], 14⟩
def S_ref20_Pass_4 : LS := ⟨V_ref20_Pass_4, [(.ret, ⟨[(8, .own Y37), (9, .own Y34), (10, .data (.int .i64))], [], 14⟩), (.exit 0, ⟨[(3, .data Y41), (11, .own Y34), (12, .own Y37)], [], 14⟩)]⟩
noncomputable def X_ref20_Pass (n : Nat) : Cx := { tt := tt, calls := [(13, E_ref20_Keys n), (16, E_ref20_Run n)], owns := [], loops := [(4, S_ref20_Pass_4)], joins := [], nt := 65, fuel := n }
noncomputable def F_ref20_Pass (n : Nat) (x : ((List Int) × (List Int) × (List Int) × (List Int) × (List Int) × (List Int) × Int × Int × Int × Int × Int × (List Int) × (List Int) × (List Int) × Int × Int × Int) × (Int × (List Int) × (List Int) × (List Int)) × (List (List Int)) × (List ((List Int) × (List Int)))) : Option ((List (List Int)) × (List ((List Int) × (List Int))) × Int) := bodyRun (X_ref20_Pass n) Tryz.f20 [Y22, Y36, Y38, Y41] [Y38, Y41, (.int .i64)] x
noncomputable def E_ref20_Pass (n : Nat) : Entry := ⟨[Y22, Y36, Y38, Y41], [Y38, Y41, (.int .i64)], F_ref20_Pass n⟩
noncomputable def L_ref20_Pass_4 (n k : Nat) (v : (List ((List Int) × (List Int))) × Unit × Unit × (List ((List Int) × (List Int))) × (List (List Int)) × (List (List Int)) × Int × Int × ((List Int) × (List Int) × (List Int) × (List Int) × (List Int) × (List Int) × Int × Int × Int × Int × Int × (List Int) × (List Int) × (List Int) × Int × Int × Int × Unit) × (Int × (List Int) × (List Int) × (List Int) × Unit) × Unit) : Option (((List (List Int)) × (List ((List Int) × (List Int))) × Int × Unit) ⊕ (((List ((List Int) × (List Int))) × (List ((List Int) × (List Int))) × (List (List Int)) × Unit))) := loopRun (X_ref20_Pass n) Tryz.f20 S_ref20_Pass_4 4 k v

/-! ### 17: herald/heraldlaw20.row[int64] -/
def V_law20_row_int64_4 : NS := ⟨[(0, .data Y37), (1, .data Y37), (12, .data (.int .i64)), (13, .data (.int .i64))], [], 9⟩
def S_law20_row_int64_4 : LS := ⟨V_law20_row_int64_4, [(.ret, ⟨[(4, .data .bool)], [], 9⟩), (.exit 0, ⟨[], [], 9⟩)]⟩
noncomputable def X_law20_row_int64 (n : Nat) : Cx := { tt := tt, calls := [], owns := [], loops := [(4, S_law20_row_int64_4)], joins := [], nt := 26, fuel := n }
noncomputable def F_law20_row_int64 (n : Nat) (x : (List Int) × (List Int)) : Option (Bool) := bodyRun (X_law20_row_int64 n) Tryz.f17 [Y37, Y37] [.bool] x
noncomputable def E_law20_row_int64 (n : Nat) : Entry := ⟨[Y37, Y37], [.bool], F_law20_row_int64 n⟩
noncomputable def L_law20_row_int64_4 (n k : Nat) (v : (List Int) × (List Int) × Int × Int × Unit) : Option ((Bool × Unit) ⊕ Unit) := loopRun (X_law20_row_int64 n) Tryz.f17 S_law20_row_int64_4 4 k v

/-! ### 23: herald/heraldlaw20.row[int8] -/
def V_law20_row_int8_4 : NS := ⟨[(0, .data Y8), (1, .data Y8), (12, .data (.int .i64)), (13, .data (.int .i64))], [], 9⟩
def S_law20_row_int8_4 : LS := ⟨V_law20_row_int8_4, [(.ret, ⟨[(4, .data .bool)], [], 9⟩), (.exit 0, ⟨[], [], 9⟩)]⟩
noncomputable def X_law20_row_int8 (n : Nat) : Cx := { tt := tt, calls := [], owns := [], loops := [(4, S_law20_row_int8_4)], joins := [], nt := 26, fuel := n }
noncomputable def F_law20_row_int8 (n : Nat) (x : (List Int) × (List Int)) : Option (Bool) := bodyRun (X_law20_row_int8 n) Tryz.f23 [Y8, Y8] [.bool] x
noncomputable def E_law20_row_int8 (n : Nat) : Entry := ⟨[Y8, Y8], [.bool], F_law20_row_int8 n⟩
noncomputable def L_law20_row_int8_4 (n k : Nat) (v : (List Int) × (List Int) × Int × Int × Unit) : Option ((Bool × Unit) ⊕ Unit) := loopRun (X_law20_row_int8 n) Tryz.f23 S_law20_row_int8_4 4 k v

/-! ### 14: herald/heraldlaw20.pair -/
noncomputable def X_law20_pair (n : Nat) : Cx := { tt := tt, calls := [(23, E_law20_row_int8 n)], owns := [], loops := [], joins := [], nt := 17, fuel := n }
noncomputable def F_law20_pair (n : Nat) (x : ((List Int) × (List Int)) × (List Int) × (List Int)) : Option (Bool) := bodyRun (X_law20_pair n) Tryz.f14 [Y34, Y34] [.bool] x
noncomputable def E_law20_pair (n : Nat) : Entry := ⟨[Y34, Y34], [.bool], F_law20_pair n⟩

/-! ### 22: herald/heraldlaw20.same -/
def V_law20_same_4 : NS := ⟨[(0, .data Y41), (1, .data Y41), (12, .data (.int .i64)), (13, .data (.int .i64))], [], 9⟩
def S_law20_same_4 : LS := ⟨V_law20_same_4, [(.ret, ⟨[(4, .data .bool)], [], 9⟩), (.exit 0, ⟨[], [], 9⟩)]⟩
noncomputable def X_law20_same (n : Nat) : Cx := { tt := tt, calls := [(14, E_law20_pair n)], owns := [], loops := [(4, S_law20_same_4)], joins := [], nt := 27, fuel := n }
noncomputable def F_law20_same (n : Nat) (x : (List ((List Int) × (List Int))) × (List ((List Int) × (List Int)))) : Option (Bool) := bodyRun (X_law20_same n) Tryz.f22 [Y41, Y41] [.bool] x
noncomputable def E_law20_same (n : Nat) : Entry := ⟨[Y41, Y41], [.bool], F_law20_same n⟩
noncomputable def L_law20_same_4 (n k : Nat) (v : (List ((List Int) × (List Int))) × (List ((List Int) × (List Int))) × Int × Int × Unit) : Option ((Bool × Unit) ⊕ Unit) := loopRun (X_law20_same n) Tryz.f22 S_law20_same_4 4 k v

/-! ### 8: herald/heraldlaw20.awake -/
noncomputable def X_law20_awake (n : Nat) : Cx := { tt := tt, calls := [(27, E_law20_small n), (19, E_block_Pass n), (9, E_law20_plain n), (10, E_law20_frame n), (20, E_ref20_Pass n), (17, E_law20_row_int64 n), (22, E_law20_same n)], owns := [], loops := [], joins := [], nt := 54, fuel := n }
noncomputable def F_law20_awake (n : Nat) (x : Unit) : Option (Bool) := bodyRun (X_law20_awake n) Tryz.f8 [] [.bool] x
noncomputable def E_law20_awake (n : Nat) : Entry := ⟨[], [.bool], F_law20_awake n⟩

/-! ### 11: herald/heraldlaw20.past -/
def V_law20_past_3 : NS := ⟨[(3, .own Y34), (6, .data Y41), (7, .data (.int .i64)), (8, .data (.int .i64))], [], 5⟩
def S_law20_past_3 : LS := ⟨V_law20_past_3, [(.exit 0, ⟨[(3, .own Y34)], [], 5⟩)]⟩
noncomputable def X_law20_past (n : Nat) : Cx := { tt := tt, calls := [], owns := [], loops := [(3, S_law20_past_3)], joins := [], nt := 26, fuel := n }
noncomputable def F_law20_past (n : Nat) (x : List ((List Int) × (List Int))) : Option (List ((List Int) × (List Int))) := bodyRun (X_law20_past n) Tryz.f11 [Y41] [Y41] x
noncomputable def E_law20_past (n : Nat) : Entry := ⟨[Y41], [Y41], F_law20_past n⟩
noncomputable def L_law20_past_3 (n k : Nat) (v : (List ((List Int) × (List Int))) × (List ((List Int) × (List Int))) × Int × Int × Unit) : Option (((List ((List Int) × (List Int))) × Unit)) := loopRun (X_law20_past n) Tryz.f11 S_law20_past_3 3 k v

/-! ### 76: herald/heraldref13.Same -/
def V_ref13_Same_4 : NS := ⟨[(2, .fix (.v false [.ptr 0 0])), (3, .fix (.v false [.ptr 1 0])), (5, .data (.int .i64))], [(0, .cells [.data Y5, .data Y6]), (1, .cells [.data Y5, .data Y6])], 20⟩
def S_ref13_Same_4 : LS := ⟨V_ref13_Same_4, [(.ret, ⟨[(4, .data .bool)], [], 20⟩), (.exit 0, ⟨[(2, .fix (.v false [.ptr 0 0])), (3, .fix (.v false [.ptr 1 0]))], [(0, .cells [.data Y5, .data Y6]), (1, .cells [.data Y5, .data Y6])], 20⟩)]⟩
def V_ref13_Same_9 : NS := ⟨[(2, .fix (.v false [.ptr 0 0])), (3, .fix (.v false [.ptr 1 0])), (6, .data (.int .i64))], [(0, .cells [.data Y5, .data Y6]), (1, .cells [.data Y5, .data Y6])], 21⟩
def S_ref13_Same_9 : LS := ⟨V_ref13_Same_9, [(.ret, ⟨[(4, .data .bool)], [], 21⟩), (.exit 2, ⟨[], [], 21⟩)]⟩
noncomputable def X_ref13_Same (n : Nat) : Cx := { tt := tt, calls := [], owns := [], loops := [(4, S_ref13_Same_4), (9, S_ref13_Same_9)], joins := [], nt := 59, fuel := n }
noncomputable def F_ref13_Same (n : Nat) (x : ((List (List UInt8)) × (List (Int × Int × Int))) × (List (List UInt8)) × (List (Int × Int × Int))) : Option (Bool) := bodyRun (X_ref13_Same n) Tryz.f76 [Y7, Y7] [.bool] x
noncomputable def E_ref13_Same (n : Nat) : Entry := ⟨[Y7, Y7], [.bool], F_ref13_Same n⟩
noncomputable def L_ref13_Same_4 (n k : Nat) (v : Unit × Unit × Int × ((List (List UInt8)) × (List (Int × Int × Int)) × Unit) × ((List (List UInt8)) × (List (Int × Int × Int)) × Unit) × Unit) : Option ((Bool × Unit) ⊕ ((Unit × Unit × ((List (List UInt8)) × (List (Int × Int × Int)) × Unit) × ((List (List UInt8)) × (List (Int × Int × Int)) × Unit) × Unit))) := loopRun (X_ref13_Same n) Tryz.f76 S_ref13_Same_4 4 k v
noncomputable def L_ref13_Same_9 (n k : Nat) (v : Unit × Unit × Int × ((List (List UInt8)) × (List (Int × Int × Int)) × Unit) × ((List (List UInt8)) × (List (Int × Int × Int)) × Unit) × Unit) : Option ((Bool × Unit) ⊕ Unit) := loopRun (X_ref13_Same n) Tryz.f76 S_ref13_Same_9 9 k v

/-! ### 78: herald/heraldref16.rows -/
def V_ref16_rows_4 : NS := ⟨[(0, .data Y8), (1, .data Y8), (12, .data (.int .i64)), (13, .data (.int .i64))], [], 9⟩
def S_ref16_rows_4 : LS := ⟨V_ref16_rows_4, [(.ret, ⟨[(4, .data .bool)], [], 9⟩), (.exit 0, ⟨[], [], 9⟩)]⟩
noncomputable def X_ref16_rows (n : Nat) : Cx := { tt := tt, calls := [], owns := [], loops := [(4, S_ref16_rows_4)], joins := [], nt := 26, fuel := n }
noncomputable def F_ref16_rows (n : Nat) (x : (List Int) × (List Int)) : Option (Bool) := bodyRun (X_ref16_rows n) Tryz.f78 [Y8, Y8] [.bool] x
noncomputable def E_ref16_rows (n : Nat) : Entry := ⟨[Y8, Y8], [.bool], F_ref16_rows n⟩
noncomputable def L_ref16_rows_4 (n k : Nat) (v : (List Int) × (List Int) × Int × Int × Unit) : Option ((Bool × Unit) ⊕ Unit) := loopRun (X_ref16_rows n) Tryz.f78 S_ref16_rows_4 4 k v

/-! ### 77: herald/heraldref16.blocks -/
noncomputable def X_ref16_blocks (n : Nat) : Cx := { tt := tt, calls := [(78, E_ref16_rows n)], owns := [], loops := [], joins := [], nt := 134, fuel := n }
noncomputable def F_ref16_blocks (n : Nat) (x : ((List Int) × (List Int) × (List Int) × (List Int) × (List Int) × (List Int) × Int × Int × Int × Int × Int × (List Int) × (List Int) × (List Int) × Int × Int × Int) × (List Int) × (List Int) × (List Int) × (List Int) × (List Int) × (List Int) × Int × Int × Int × Int × Int × (List Int) × (List Int) × (List Int) × Int × Int × Int) : Option (Bool) := bodyRun (X_ref16_blocks n) Tryz.f77 [Y22, Y22] [.bool] x
noncomputable def E_ref16_blocks (n : Nat) : Entry := ⟨[Y22, Y22], [.bool], F_ref16_blocks n⟩

/-! ### 44: herald/heraldref16.Same -/
def V_ref16_Same_4 : NS := ⟨[(2, .fix (.v false [.ptr 0 0])), (3, .fix (.v false [.ptr 1 0])), (44, .data (.int .i64)), (45, .data (.int .i64))], [(0, .cells [.data (.int .i64), .data (.int .i64), .data (.int .i64), .data (.int .i64), .data (.int .i64), .data (.int .i64), .data Y5, .data Y6, .data Y8, .data (.int .i64), .data Y8, .data Y8, .data Y23, .data Y8, .data Y8, .data Y8, .data (.int .i64)]), (1, .cells [.data (.int .i64), .data (.int .i64), .data (.int .i64), .data (.int .i64), .data (.int .i64), .data (.int .i64), .data Y5, .data Y6, .data Y8, .data (.int .i64), .data Y8, .data Y8, .data Y23, .data Y8, .data Y8, .data Y8, .data (.int .i64)])], 43⟩
def S_ref16_Same_4 : LS := ⟨V_ref16_Same_4, [(.ret, ⟨[(4, .data .bool)], [], 43⟩), (.exit 0, ⟨[(2, .fix (.v false [.ptr 0 0])), (3, .fix (.v false [.ptr 1 0]))], [(0, .cells [.data (.int .i64), .data (.int .i64), .data (.int .i64), .data (.int .i64), .data (.int .i64), .data (.int .i64), .data Y5, .data Y6, .data Y8, .data (.int .i64), .data Y8, .data Y8, .data Y23, .data Y8, .data Y8, .data Y8, .data (.int .i64)]), (1, .cells [.data (.int .i64), .data (.int .i64), .data (.int .i64), .data (.int .i64), .data (.int .i64), .data (.int .i64), .data Y5, .data Y6, .data Y8, .data (.int .i64), .data Y8, .data Y8, .data Y23, .data Y8, .data Y8, .data Y8, .data (.int .i64)])], 43⟩)]⟩
noncomputable def X_ref16_Same (n : Nat) : Cx := { tt := tt, calls := [(76, E_ref13_Same n), (77, E_ref16_blocks n), (78, E_ref16_rows n)], owns := [], loops := [(4, S_ref16_Same_4)], joins := [], nt := 101, fuel := n }
noncomputable def F_ref16_Same (n : Nat) (x : ((Int × Int × Int × Int × Int × Int) × ((List (List UInt8)) × (List (Int × Int × Int))) × (List Int) × Int × (List Int) × (List Int) × (List ((List Int) × (List Int) × (List Int) × (List Int) × (List Int) × (List Int) × Int × Int × Int × Int × Int × (List Int) × (List Int) × (List Int) × Int × Int × Int)) × (List Int) × (List Int) × (List Int) × Int) × (Int × Int × Int × Int × Int × Int) × ((List (List UInt8)) × (List (Int × Int × Int))) × (List Int) × Int × (List Int) × (List Int) × (List ((List Int) × (List Int) × (List Int) × (List Int) × (List Int) × (List Int) × Int × Int × Int × Int × Int × (List Int) × (List Int) × (List Int) × Int × Int × Int)) × (List Int) × (List Int) × (List Int) × Int) : Option (Bool) := bodyRun (X_ref16_Same n) Tryz.f44 [Y33, Y33] [.bool] x
noncomputable def E_ref16_Same (n : Nat) : Entry := ⟨[Y33, Y33], [.bool], F_ref16_Same n⟩
noncomputable def L_ref16_Same_4 (n k : Nat) (v : Unit × Unit × Int × Int × (Int × Int × Int × Int × Int × Int × (List (List UInt8)) × (List (Int × Int × Int)) × (List Int) × Int × (List Int) × (List Int) × (List ((List Int) × (List Int) × (List Int) × (List Int) × (List Int) × (List Int) × Int × Int × Int × Int × Int × (List Int) × (List Int) × (List Int) × Int × Int × Int)) × (List Int) × (List Int) × (List Int) × Int × Unit) × (Int × Int × Int × Int × Int × Int × (List (List UInt8)) × (List (Int × Int × Int)) × (List Int) × Int × (List Int) × (List Int) × (List ((List Int) × (List Int) × (List Int) × (List Int) × (List Int) × (List Int) × Int × Int × Int × Int × Int × (List Int) × (List Int) × (List Int) × Int × Int × Int)) × (List Int) × (List Int) × (List Int) × Int × Unit) × Unit) : Option ((Bool × Unit) ⊕ ((Unit × Unit × (Int × Int × Int × Int × Int × Int × (List (List UInt8)) × (List (Int × Int × Int)) × (List Int) × Int × (List Int) × (List Int) × (List ((List Int) × (List Int) × (List Int) × (List Int) × (List Int) × (List Int) × Int × Int × Int × Int × Int × (List Int) × (List Int) × (List Int) × Int × Int × Int)) × (List Int) × (List Int) × (List Int) × Int × Unit) × (Int × Int × Int × Int × Int × Int × (List (List UInt8)) × (List (Int × Int × Int)) × (List Int) × Int × (List Int) × (List Int) × (List ((List Int) × (List Int) × (List Int) × (List Int) × (List Int) × (List Int) × Int × Int × Int × Int × Int × (List Int) × (List Int) × (List Int) × Int × Int × Int)) × (List Int) × (List Int) × (List Int) × Int × Unit) × Unit))) := loopRun (X_ref16_Same n) Tryz.f44 S_ref16_Same_4 4 k v

/-! ### 18: (herald/heraldlaw20.Given).stays -/
noncomputable def X_law20_Given_stays (n : Nat) : Cx := { tt := tt, calls := [(9, E_law20_plain n), (44, E_ref16_Same n), (23, E_law20_row_int8 n), (22, E_law20_same n)], owns := [], loops := [], joins := [], nt := 52, fuel := n }
noncomputable def F_law20_Given_stays (n : Nat) (x : (((List Int) × (List Int) × (List Int) × (List Int) × (List Int) × (List Int) × Int × Int × Int × Int × Int × (List Int) × (List Int) × (List Int) × Int × Int × Int) × (Int × (List Int) × (List Int) × (List Int)) × (List ((List Int) × (List Int)))) × ((List Int) × (List Int) × (List Int) × (List Int) × (List Int) × (List Int) × Int × Int × Int × Int × Int × (List Int) × (List Int) × (List Int) × Int × Int × Int) × (Int × (List Int) × (List Int) × (List Int)) × (List ((List Int) × (List Int)))) : Option (Bool) := bodyRun (X_law20_Given_stays n) Tryz.f18 [Y43, Y22, Y36, Y41] [.bool] x
noncomputable def E_law20_Given_stays (n : Nat) : Entry := ⟨[Y43, Y22, Y36, Y41], [.bool], F_law20_Given_stays n⟩

/-! ### 3: herald/heraldlaw20.BlockRuns -/
noncomputable def X_law20_BlockRuns (n : Nat) : Cx := { tt := tt, calls := [(8, E_law20_awake n), (9, E_law20_plain n), (10, E_law20_frame n), (11, E_law20_past n), (12, E_block_Keys n), (13, E_ref20_Keys n), (14, E_law20_pair n), (15, E_block_Run n), (16, E_ref20_Run n), (17, E_law20_row_int64 n), (18, E_law20_Given_stays n)], owns := [], loops := [], joins := [], nt := 97, fuel := n }
noncomputable def F_law20_BlockRuns (n : Nat) (x : (((List Int) × (List Int) × (List Int) × (List Int) × (List Int) × (List Int) × Int × Int × Int × Int × Int × (List Int) × (List Int) × (List Int) × Int × Int × Int) × (Int × (List Int) × (List Int) × (List Int)) × (List ((List Int) × (List Int)))) × (List Int) × Int) : Option (Bool) := bodyRun (X_law20_BlockRuns n) Tryz.f3 [Y43, Y37, (.int .i64)] [.bool] x
noncomputable def E_law20_BlockRuns (n : Nat) : Entry := ⟨[Y43, Y37, (.int .i64)], [.bool], F_law20_BlockRuns n⟩

/-! ### 21: herald/heraldlaw20.rows -/
def V_law20_rows_4 : NS := ⟨[(0, .data Y38), (1, .data Y38), (12, .data (.int .i64)), (13, .data (.int .i64))], [], 9⟩
def S_law20_rows_4 : LS := ⟨V_law20_rows_4, [(.ret, ⟨[(4, .data .bool)], [], 9⟩), (.exit 0, ⟨[], [], 9⟩)]⟩
noncomputable def X_law20_rows (n : Nat) : Cx := { tt := tt, calls := [(17, E_law20_row_int64 n)], owns := [], loops := [(4, S_law20_rows_4)], joins := [], nt := 27, fuel := n }
noncomputable def F_law20_rows (n : Nat) (x : (List (List Int)) × (List (List Int))) : Option (Bool) := bodyRun (X_law20_rows n) Tryz.f21 [Y38, Y38] [.bool] x
noncomputable def E_law20_rows (n : Nat) : Entry := ⟨[Y38, Y38], [.bool], F_law20_rows n⟩
noncomputable def L_law20_rows_4 (n k : Nat) (v : (List (List Int)) × (List (List Int)) × Int × Int × Unit) : Option ((Bool × Unit) ⊕ Unit) := loopRun (X_law20_rows n) Tryz.f21 S_law20_rows_4 4 k v

end Go.Am
