import Derived.Test.YtfafklfpikjheaaGreatG
set_option linter.unusedVariables false
set_option linter.unusedSimpArgs false
namespace Go.Am
open Go Go.Proofs

/-! ### 81: herald/heraldref16.within -/
noncomputable def X_ref16_within (n : Nat) : Cx := { tt := tt, calls := [], owns := [], loops := [], joins := [], nt := 15, fuel := n }
noncomputable def F_ref16_within (n : Nat) (x : Int × Int × Int) : Option (Bool) := bodyRun (X_ref16_within n) Tryz.f81 [(.int .i64), (.int .i64), (.int .i64)] [.bool] x
noncomputable def E_ref16_within (n : Nat) : Entry := ⟨[(.int .i64), (.int .i64), (.int .i64)], [.bool], F_ref16_within n⟩

/-! ### 79: herald/heraldref16.Check -/
noncomputable def X_ref16_Check (n : Nat) : Cx := { tt := tt, calls := [(81, E_ref16_within n)], owns := [], loops := [], joins := [], nt := 51, fuel := n }
noncomputable def F_ref16_Check (n : Nat) (x : Int × Int × Int × Int × Int × Int) : Option (Int) := bodyRun (X_ref16_Check n) Tryz.f79 [Y4] [(.int .i64)] x
noncomputable def E_ref16_Check (n : Nat) : Entry := ⟨[Y4], [(.int .i64)], F_ref16_Check n⟩

/-! ### 85: herald/heraldref16.texts -/
def V_ref16_texts_3 : NS := ⟨[(0, .data (.int .i64)), (2, .fix (.v false [.ptr 0 0])), (3, .fix (.v false [.ptr 3 0])), (4, .data (.int .i64))], [(0, .cells [.own .str, .own Y1]), (3, .cells [.own .str, .own Y1])], 6⟩
def S_ref16_texts_3 : LS := ⟨V_ref16_texts_3, [(.exit 0, ⟨[(2, .fix (.v false [.ptr 0 0])), (3, .fix (.v false [.ptr 3 0]))], [(0, .cells [.own .str, .own Y1]), (3, .cells [.own .str, .own Y1])], 6⟩)]⟩
def J_ref16_texts_38 : NS := ⟨[(0, .data (.int .i64)), (2, .fix (.v false [.ptr 0 0])), (3, .fix (.v false [.ptr 3 0])), (4, .data (.int .i64))], [(0, .cells [.own .str, .own Y1]), (3, .cells [.own .str, .own Y1])], 30⟩
noncomputable def X_ref16_texts (n : Nat) : Cx := { tt := tt, calls := [], owns := [], loops := [(3, S_ref16_texts_3)], joins := [(38, J_ref16_texts_38)], nt := 49, fuel := n }
noncomputable def F_ref16_texts (n : Nat) (x : Int) : Option ((List (List UInt8)) × (List (Int × Int × Int))) := bodyRun (X_ref16_texts n) Tryz.f85 [(.int .i64)] [Y7] x
noncomputable def E_ref16_texts (n : Nat) : Entry := ⟨[(.int .i64)], [Y7], F_ref16_texts n⟩
noncomputable def L_ref16_texts_3 (n k : Nat) (v : Int × Unit × Unit × Int × ((List (List UInt8)) × (List (Int × Int × Int)) × Unit) × ((List (List UInt8)) × (List (Int × Int × Int)) × Unit) × Unit) : Option ((Unit × Unit × ((List (List UInt8)) × (List (Int × Int × Int)) × Unit) × ((List (List UInt8)) × (List (Int × Int × Int)) × Unit) × Unit)) := loopRun (X_ref16_texts n) Tryz.f85 S_ref16_texts_3 3 k v

/-! ### 86: herald/heraldref16.root -/
def V_ref16_root_3 : NS := ⟨[(0, .data (.int .i64)), (3, .data (.int .i64)), (4, .data (.int .i64))], [], 3⟩
def S_ref16_root_3 : LS := ⟨V_ref16_root_3, [(.exit 0, ⟨[(3, .data (.int .i64))], [], 3⟩)]⟩
noncomputable def X_ref16_root (n : Nat) : Cx := { tt := tt, calls := [], owns := [], loops := [(3, S_ref16_root_3)], joins := [], nt := 13, fuel := n }
noncomputable def F_ref16_root (n : Nat) (x : Int) : Option (Int) := bodyRun (X_ref16_root n) Tryz.f86 [(.int .i64)] [(.int .i64)] x
noncomputable def E_ref16_root (n : Nat) : Entry := ⟨[(.int .i64)], [(.int .i64)], F_ref16_root n⟩
noncomputable def L_ref16_root_3 (n k : Nat) (v : Int × Int × Int × Unit) : Option ((Int × Unit)) := loopRun (X_ref16_root n) Tryz.f86 S_ref16_root_3 3 k v

/-! ### 87: herald/heraldref16.same -/
def V_ref16_same_3 : NS := ⟨[(0, .data (.int .i8)), (1, .data (.int .i64)), (5, .own (.int .i8)), (6, .data (.int .i64))], [], 4⟩
def S_ref16_same_3 : LS := ⟨V_ref16_same_3, [(.exit 0, ⟨[(5, .own (.int .i8))], [], 4⟩)]⟩
noncomputable def X_ref16_same (n : Nat) : Cx := { tt := tt, calls := [], owns := [], loops := [(3, S_ref16_same_3)], joins := [], nt := 18, fuel := n }
noncomputable def F_ref16_same (n : Nat) (x : Int × Int) : Option (List Int) := bodyRun (X_ref16_same n) Tryz.f87 [(.int .i8), (.int .i64)] [Y8] x
noncomputable def E_ref16_same (n : Nat) : Entry := ⟨[(.int .i8), (.int .i64)], [Y8], F_ref16_same n⟩
noncomputable def L_ref16_same_3 (n k : Nat) (v : Int × Int × (List Int) × Int × Unit) : Option (((List Int) × Unit)) := loopRun (X_ref16_same n) Tryz.f87 S_ref16_same_3 3 k v

/-! ### 82: herald/heraldref16.Half -/
noncomputable def X_ref16_Half (n : Nat) : Cx := { tt := tt, calls := [(79, E_ref16_Check n)], owns := [], loops := [], joins := [], nt := 12, fuel := n }
noncomputable def F_ref16_Half (n : Nat) (x : Int × Int × Int × Int × Int × Int) : Option (Int) := bodyRun (X_ref16_Half n) Tryz.f82 [Y4] [(.int .i64)] x
noncomputable def E_ref16_Half (n : Nat) : Entry := ⟨[Y4], [(.int .i64)], F_ref16_Half n⟩

/-! ### 112: herald/heraldref10.Sine -/
def J_ref10_Sine_9 : NS := ⟨[(3, .own (.int .i8)), (4, .data (.int .i64))], [], 8⟩
noncomputable def X_ref10_Sine (n : Nat) : Cx := { tt := tt, calls := [], owns := [], loops := [], joins := [(9, J_ref10_Sine_9)], nt := 39, fuel := n }
noncomputable def F_ref10_Sine (n : Nat) (x : Int) : Option (Int) := bodyRun (X_ref10_Sine n) Tryz.f112 [(.int .i64)] [(.int .i8)] x
noncomputable def E_ref10_Sine (n : Nat) : Entry := ⟨[(.int .i64)], [(.int .i8)], F_ref10_Sine n⟩

/-! ### 88: herald/heraldref10.Table -/
def V_ref10_Table_5 : NS := ⟨[(0, .data (.int .i64)), (1, .data (.int .i64)), (7, .own (.int .i8)), (8, .own (.int .i8)), (9, .data (.int .i64))], [], 22⟩
def S_ref10_Table_5 : LS := ⟨V_ref10_Table_5, [(.exit 0, ⟨[(7, .own (.int .i8)), (8, .own (.int .i8))], [], 22⟩)]⟩
def V_ref10_Table_9 : NS := ⟨[(0, .data (.int .i64)), (1, .data (.int .i64)), (7, .own (.int .i8)), (8, .own (.int .i8)), (9, .data (.int .i64)), (10, .data (.int .i64)), (11, .data (.int .i64))], [], 29⟩
def S_ref10_Table_9 : LS := ⟨V_ref10_Table_9, [(.exit 2, ⟨[(0, .data (.int .i64)), (1, .data (.int .i64)), (7, .own (.int .i8)), (8, .own (.int .i8)), (9, .data (.int .i64))], [], 29⟩)]⟩
noncomputable def X_ref10_Table (n : Nat) : Cx := { tt := tt, calls := [(112, E_ref10_Sine n)], owns := [], loops := [(5, S_ref10_Table_5), (9, S_ref10_Table_9)], joins := [], nt := 58, fuel := n }
noncomputable def F_ref10_Table (n : Nat) (x : Int × Int) : Option ((List Int) × (List Int) × Int) := bodyRun (X_ref10_Table n) Tryz.f88 [(.int .i64), (.int .i64)] [Y8, Y8, (.int .i64)] x
noncomputable def E_ref10_Table (n : Nat) : Entry := ⟨[(.int .i64), (.int .i64)], [Y8, Y8, (.int .i64)], F_ref10_Table n⟩
noncomputable def L_ref10_Table_5 (n k : Nat) (v : Int × Int × (List Int) × (List Int) × Int × Unit) : Option (((List Int) × (List Int) × Unit)) := loopRun (X_ref10_Table n) Tryz.f88 S_ref10_Table_5 5 k v
noncomputable def L_ref10_Table_9 (n k : Nat) (v : Int × Int × (List Int) × (List Int) × Int × Int × Int × Unit) : Option ((Int × Int × (List Int) × (List Int) × Int × Unit)) := loopRun (X_ref10_Table n) Tryz.f88 S_ref10_Table_9 9 k v

/-! ### 116: herald/heraldref02.Floor -/
def J_ref02_Floor_18 : NS := ⟨[(7, .data (.int .i64)), (8, .data (.int .i64))], [], 15⟩
noncomputable def X_ref02_Floor (n : Nat) : Cx := { tt := tt, calls := [], owns := [], loops := [], joins := [(18, J_ref02_Floor_18)], nt := 26, fuel := n }
noncomputable def F_ref02_Floor (n : Nat) (x : Int × Int) : Option (Int × Int × Int) := bodyRun (X_ref02_Floor n) Tryz.f116 [(.int .i64), (.int .i64)] [(.int .i64), (.int .i64), (.int .i64)] x
noncomputable def E_ref02_Floor (n : Nat) : Entry := ⟨[(.int .i64), (.int .i64)], [(.int .i64), (.int .i64), (.int .i64)], F_ref02_Floor n⟩

/-! ### 121: herald/heraldref02.Exp2 -/
def V_ref02_Exp2_11 : NS := ⟨[(6, .data (.int .i64)), (9, .data (.int .i64)), (10, .data (.int .i64))], [], 35⟩
def S_ref02_Exp2_11 : LS := ⟨V_ref02_Exp2_11, [(.exit 0, ⟨[(9, .data (.int .i64))], [], 35⟩)]⟩
def J_ref02_Exp2_12 : NS := ⟨[(0, .data (.int .i64))], [], 3⟩
noncomputable def X_ref02_Exp2 (n : Nat) : Cx := { tt := tt, calls := [(116, E_ref02_Floor n)], owns := [], loops := [(11, S_ref02_Exp2_11)], joins := [(12, J_ref02_Exp2_12)], nt := 45, fuel := n }
noncomputable def F_ref02_Exp2 (n : Nat) (x : Int) : Option (Int) := bodyRun (X_ref02_Exp2 n) Tryz.f121 [(.int .i64)] [(.int .i64)] x
noncomputable def E_ref02_Exp2 (n : Nat) : Entry := ⟨[(.int .i64)], [(.int .i64)], F_ref02_Exp2 n⟩
noncomputable def L_ref02_Exp2_11 (n k : Nat) (v : Int × Int × Int × Unit) : Option ((Int × Unit)) := loopRun (X_ref02_Exp2 n) Tryz.f121 S_ref02_Exp2_11 11 k v

/-! ### 126: herald/heraldref12.part -/
noncomputable def X_ref12_part (n : Nat) (R : Int → Option (Int)) : Cx := { tt := tt, calls := [(126, ⟨[(.int .i64)], [(.int .i64)], R⟩), (121, E_ref02_Exp2 n), (116, E_ref02_Floor n)], owns := [], loops := [], joins := [], nt := 22, fuel := n }
noncomputable def F_ref12_partr (n k : Nat) (x : Int) : Option (Int) := Nat.rec (motive := fun _ => Int → Option (Int)) (fun _ => none) (fun _ R => bodyRun (X_ref12_part n R) Tryz.f126 [(.int .i64)] [(.int .i64)]) k x
noncomputable def F_ref12_part (n : Nat) (x : Int) : Option (Int) := F_ref12_partr n n x
noncomputable def E_ref12_part (n : Nat) : Entry := ⟨[(.int .i64)], [(.int .i64)], F_ref12_part n⟩

/-! ### 99: herald/heraldref02.Near -/
def J_ref02_Near_35 : NS := ⟨[(6, .data (.int .i64))], [], 31⟩
noncomputable def X_ref02_Near (n : Nat) : Cx := { tt := tt, calls := [(116, E_ref02_Floor n)], owns := [], loops := [], joins := [(35, J_ref02_Near_35)], nt := 39, fuel := n }
noncomputable def F_ref02_Near (n : Nat) (x : Int × Int) : Option (Int × Int) := bodyRun (X_ref02_Near n) Tryz.f99 [(.int .i64), (.int .i64)] [(.int .i64), (.int .i64)] x
noncomputable def E_ref02_Near (n : Nat) : Entry := ⟨[(.int .i64), (.int .i64)], [(.int .i64), (.int .i64)], F_ref02_Near n⟩

/-! ### 59: herald/heraldref02.Round -/
def V_ref02_Round_5 : NS := ⟨[(0, .data (.int .i64)), (1, .data (.int .i64)), (6, .data (.int .i64)), (7, .data (.int .i64))], [], 10⟩
def S_ref02_Round_5 : LS := ⟨V_ref02_Round_5, [(.exit 0, ⟨[(0, .data (.int .i64)), (6, .data (.int .i64))], [], 10⟩)]⟩
noncomputable def X_ref02_Round (n : Nat) : Cx := { tt := tt, calls := [(99, E_ref02_Near n)], owns := [], loops := [(5, S_ref02_Round_5)], joins := [], nt := 26, fuel := n }
noncomputable def F_ref02_Round (n : Nat) (x : Int × Int) : Option (Int × Int) := bodyRun (X_ref02_Round n) Tryz.f59 [(.int .i64), (.int .i64)] [(.int .i64), (.int .i64)] x
noncomputable def E_ref02_Round (n : Nat) : Entry := ⟨[(.int .i64), (.int .i64)], [(.int .i64), (.int .i64)], F_ref02_Round n⟩
noncomputable def L_ref02_Round_5 (n k : Nat) (v : Int × Int × Int × Int × Unit) : Option ((Int × Int × Unit)) := loopRun (X_ref02_Round n) Tryz.f59 S_ref02_Round_5 5 k v

/-! ### 100: herald/heraldref02.Clamp -/
noncomputable def X_ref02_Clamp (n : Nat) : Cx := { tt := tt, calls := [], owns := [], loops := [], joins := [], nt := 16, fuel := n }
noncomputable def F_ref02_Clamp (n : Nat) (x : Int × Int × Int) : Option (Int) := bodyRun (X_ref02_Clamp n) Tryz.f100 [(.int .i64), (.int .i64), (.int .i64)] [(.int .i64)] x
noncomputable def E_ref02_Clamp (n : Nat) : Entry := ⟨[(.int .i64), (.int .i64), (.int .i64)], [(.int .i64)], F_ref02_Clamp n⟩

/-! ### 60: herald/heraldref02.Narrow -/
noncomputable def X_ref02_Narrow (n : Nat) : Cx := { tt := tt, calls := [(100, E_ref02_Clamp n)], owns := [], loops := [], joins := [], nt := 6, fuel := n }
noncomputable def F_ref02_Narrow (n : Nat) (x : Int) : Option (Int) := bodyRun (X_ref02_Narrow n) Tryz.f60 [(.int .i64)] [(.int .i8)] x
noncomputable def E_ref02_Narrow (n : Nat) : Entry := ⟨[(.int .i64)], [(.int .i8)], F_ref02_Narrow n⟩

/-! ### 113: herald/heraldref12.bent -/
def J_ref12_bent_7 : NS := ⟨[(5, .data (.int .i64))], [], 4⟩
def J_ref12_bent_21 : NS := ⟨[(5, .data (.int .i64))], [], 10⟩
def J_ref12_bent_24 : NS := ⟨[(5, .data (.int .i64))], [], 12⟩
noncomputable def X_ref12_bent (n : Nat) : Cx := { tt := tt, calls := [(126, E_ref12_part n), (59, E_ref02_Round n), (60, E_ref02_Narrow n)], owns := [], loops := [], joins := [(7, J_ref12_bent_7), (21, J_ref12_bent_21), (24, J_ref12_bent_24)], nt := 34, fuel := n }
noncomputable def F_ref12_bent (n : Nat) (x : Int × Int) : Option (Int) := bodyRun (X_ref12_bent n) Tryz.f113 [(.int .i64), (.int .i64)] [(.int .i8)] x
noncomputable def E_ref12_bent (n : Nat) : Entry := ⟨[(.int .i64), (.int .i64)], [(.int .i8)], F_ref12_bent n⟩

end Go.Am
