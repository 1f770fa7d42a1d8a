import Derived.Test.YtfafklfpikjheaaGreatS0
import Derived.Test.YtfafklfpikjheaaGreatD1
import Derived.KernelRfl
set_option linter.unusedVariables false
set_option linter.unusedSimpArgs false
namespace Go.Am
open Go Go.Proofs

theorem P_ref12_Table (n : Nat) : PSound Tryz.prog 89 (E_ref12_Table n) := psound_of_body (X := X_ref12_Table n) (fn := Tryz.f89) (ps := [(.int .i64)]) (rs := [Y8, (.int .i64)]) mixed ⟨ttOK, callsOK_cons (P_ref12_bent n) (callsOK_nil), ownsOK_nil⟩ Tryz.func89 (by kernel_rfl) (by kernel_rfl) (by kernel_rfl)
theorem P_ref16_row (n : Nat) : PSound Tryz.prog 90 (E_ref16_row n) := psound_of_body (X := X_ref16_row n) (fn := Tryz.f90) (ps := [(.int .u64), (.int .i64)]) (rs := [Y8, (.int .u64)]) mixed ⟨ttOK, callsOK_nil, ownsOK_nil⟩ Tryz.func90 (by kernel_rfl) (by kernel_rfl) (by kernel_rfl)
theorem P_ref16_Sample (n : Nat) : PSound Tryz.prog 49 (E_ref16_Sample n) := psound_of_body (X := X_ref16_Sample n) (fn := Tryz.f49) (ps := [Y4, (.int .i64)]) (rs := [Y33, (.int .i64)]) mixed ⟨ttOK, callsOK_cons (P_ref16_Check n) (callsOK_cons (P_ref16_texts n) (callsOK_cons (P_ref16_root n) (callsOK_cons (P_ref16_same n) (callsOK_cons (P_ref16_Half n) (callsOK_cons (P_ref10_Table n) (callsOK_cons (P_ref12_Table n) (callsOK_cons (P_ref16_row n) (callsOK_nil)))))))), ownsOK_nil⟩ Tryz.func49 (by kernel_rfl) (by kernel_rfl) (by kernel_rfl)
theorem P_ref16_own (n : Nat) : PSound Tryz.prog 48 (E_ref16_own n) := psound_of_body (X := X_ref16_own n) (fn := Tryz.f48) (ps := [Y8]) (rs := [Y8]) mixed ⟨ttOK, callsOK_nil, ownsOK_nil⟩ Tryz.func48 (by kernel_rfl) (by kernel_rfl) (by kernel_rfl)
theorem P_ref16_To (n : Nat) : PSound Tryz.prog 50 (E_ref16_To n) := psound_of_body (X := X_ref16_To n) (fn := Tryz.f50) (ps := [Y33]) (rs := [Y33]) mixed ⟨ttOK, callsOK_cons (P_ref16_own n) (callsOK_nil), ownsOK_nil⟩ Tryz.func50 (by kernel_rfl) (by kernel_rfl) (by kernel_rfl)
theorem P_law20_small (n : Nat) : PSound Tryz.prog 27 (E_law20_small n) := psound_of_body (X := X_law20_small n) (fn := Tryz.f27) (ps := []) (rs := [Y22, Y36]) mixed ⟨ttOK, callsOK_cons (P_ref16_Sample n) (callsOK_cons (P_ref16_To n) (callsOK_nil)), ownsOK_nil⟩ Tryz.func27 (by kernel_rfl) (by kernel_rfl) (by kernel_rfl)
theorem P_block_angles (n : Nat) : PSound Tryz.prog 28 (E_block_angles n) := psound_of_body (X := X_block_angles n) (fn := Tryz.f28) (ps := [Y36, Y37, (.int .i64)]) (rs := [(.int .i64), Y8, Y8, (.int .i64)]) mixed ⟨ttOK, callsOK_nil, ownsOK_nil⟩ Tryz.func28 (by kernel_rfl) (by kernel_rfl) (by kernel_rfl)
theorem P_fixed_Sqrt (n : Nat) : PSound Tryz.prog 91 (E_fixed_Sqrt n) := psound_of_body (X := X_fixed_Sqrt n) (fn := Tryz.f91) (ps := [(.int .i64)]) (rs := [(.int .i64), (.int .i64)]) mixed ⟨ttOK, callsOK_nil, ownsOK_nil⟩ Tryz.func91 (by kernel_rfl) (by kernel_rfl) (by kernel_rfl)
theorem P_norm_root (n : Nat) : PSound Tryz.prog 51 (E_norm_root n) := psound_of_body (X := X_norm_root n) (fn := Tryz.f51) (ps := [Y37]) (rs := [(.int .i64), (.int .i64)]) mixed ⟨ttOK, callsOK_cons (P_fixed_Sqrt n) (callsOK_nil), ownsOK_nil⟩ Tryz.func51 (by kernel_rfl) (by kernel_rfl) (by kernel_rfl)
theorem P_fixed_Floor (n : Nat) : PSound Tryz.prog 114 (E_fixed_Floor n) := psound_of_body (X := X_fixed_Floor n) (fn := Tryz.f114) (ps := [(.int .i64), (.int .i64)]) (rs := [(.int .i64), (.int .i64), (.int .i64)]) mixed ⟨ttOK, callsOK_nil, ownsOK_nil⟩ Tryz.func114 (by kernel_rfl) (by kernel_rfl) (by kernel_rfl)
theorem P_fixed_Near (n : Nat) : PSound Tryz.prog 92 (E_fixed_Near n) := psound_of_body (X := X_fixed_Near n) (fn := Tryz.f92) (ps := [(.int .i64), (.int .i64)]) (rs := [(.int .i64), (.int .i64)]) mixed ⟨ttOK, callsOK_cons (P_fixed_Floor n) (callsOK_nil), ownsOK_nil⟩ Tryz.func92 (by kernel_rfl) (by kernel_rfl) (by kernel_rfl)
theorem P_fixed_Round (n : Nat) : PSound Tryz.prog 52 (E_fixed_Round n) := psound_of_body (X := X_fixed_Round n) (fn := Tryz.f52) (ps := [(.int .i64), (.int .i64)]) (rs := [(.int .i64), (.int .i64)]) mixed ⟨ttOK, callsOK_cons (P_fixed_Near n) (callsOK_nil), ownsOK_nil⟩ Tryz.func52 (by kernel_rfl) (by kernel_rfl) (by kernel_rfl)
theorem P_fixed_Clamp (n : Nat) : PSound Tryz.prog 93 (E_fixed_Clamp n) := psound_of_body (X := X_fixed_Clamp n) (fn := Tryz.f93) (ps := [(.int .i64), (.int .i64), (.int .i64)]) (rs := [(.int .i64)]) mixed ⟨ttOK, callsOK_nil, ownsOK_nil⟩ Tryz.func93 (by kernel_rfl) (by kernel_rfl) (by kernel_rfl)
theorem P_fixed_Narrow (n : Nat) : PSound Tryz.prog 53 (E_fixed_Narrow n) := psound_of_body (X := X_fixed_Narrow n) (fn := Tryz.f53) (ps := [(.int .i64)]) (rs := [(.int .i8)]) mixed ⟨ttOK, callsOK_cons (P_fixed_Clamp n) (callsOK_nil), ownsOK_nil⟩ Tryz.func53 (by kernel_rfl) (by kernel_rfl) (by kernel_rfl)
theorem P_norm_Row (n : Nat) : PSound Tryz.prog 29 (E_norm_Row n) := psound_of_body (X := X_norm_Row n) (fn := Tryz.f29) (ps := [Y37, Y8]) (rs := [Y8, (.int .i64)]) mixed ⟨ttOK, callsOK_cons (P_norm_root n) (callsOK_cons (P_fixed_Round n) (callsOK_cons (P_fixed_Narrow n) (callsOK_nil))), ownsOK_nil⟩ Tryz.func29 (by kernel_rfl) (by kernel_rfl) (by kernel_rfl)
theorem P_vec_matrix (n : Nat) : PSound Tryz.prog 94 (E_vec_matrix n) := psound_of_body (X := X_vec_matrix n) (fn := Tryz.f94) (ps := [Y8, (.int .i64)]) (rs := [(.int .i64)]) mixed ⟨ttOK, callsOK_nil, ownsOK_nil⟩ Tryz.func94 (by kernel_rfl) (by kernel_rfl) (by kernel_rfl)
end Go.Am

namespace Go.Am
open Go Go.Proofs
set_option maxRecDepth 100000

theorem F_ref12_Table_eq (n : Nat) (a0 : Int) : F_ref12_Table n a0 =
    brk (decide (a0 < (1 : Int)))
      (some ([], (121 : Int)))
      (brk (decide (a0 > (3 : Int)))
        (some ([], (121 : Int)))
        ((L_ref12_Table_5 n n (a0, ([], ((0 : Int), ())))).bind fun v1 =>
        some (v1.1, (0 : Int)))) := (by kernel_rfl)

theorem L_ref12_Table_5_eq (n k : Nat) (s0 : Int) (s4 : List Int) (s5 : Int) : L_ref12_Table_5 n (k + 1) (s0, s4, s5, ()) =
    brk (decide (s5 < (256 : Int)))
      ((brk (decide (s5 > (127 : Int)))
          (some (s0, (s4, (s5, ((IntKind.wrap IntKind.i64 (s5 - (256 : Int))), ())))))
          (some (s0, (s4, (s5, (s5, ())))))).bind fun v1 =>
      ((F_ref12_bent n (v1.1, v1.2.2.2.1))).bind fun v2 =>
      ((app (1 : Nat) v1.2.1 [v2])).bind fun v3 =>
      L_ref12_Table_5 n k (v1.1, (v3, ((IntKind.wrap IntKind.i64 (v1.2.2.1 + (1 : Int))), ()))))
      (some (s4, ())) := (by kernel_rfl)

theorem F_ref16_row_eq (n : Nat) (a0 : Int) (a1 : Int) : F_ref16_row n (a0, a1) =
    (L_ref16_row_3 n n (a0, (a1, ([], ((0 : Int), ()))))).bind fun v1 =>
    some (v1.2.1, v1.1) := (by kernel_rfl)

theorem L_ref16_row_3_eq (n k : Nat) (s0 : Int) (s1 : Int) (s6 : List Int) (s7 : Int) : L_ref16_row_3 n (k + 1) (s0, s1, s6, s7, ()) =
    brk (decide (s7 < s1))
      (((shro IntKind.u64 (IntKind.wrap IntKind.u64 ((IntKind.wrap IntKind.u64 (s0 * (6364136223846793005 : Int))) + (1442695040888963407 : Int))) (56 : Int))).bind fun v1 =>
      (brk (decide ((IntKind.wrap IntKind.i64 v1) > (127 : Int)))
          (some ((IntKind.wrap IntKind.u64 ((IntKind.wrap IntKind.u64 (s0 * (6364136223846793005 : Int))) + (1442695040888963407 : Int))), (s1, (s6, (s7, ((IntKind.wrap IntKind.i64 ((IntKind.wrap IntKind.i64 v1) - (256 : Int))), ()))))))
          (some ((IntKind.wrap IntKind.u64 ((IntKind.wrap IntKind.u64 (s0 * (6364136223846793005 : Int))) + (1442695040888963407 : Int))), (s1, (s6, (s7, ((IntKind.wrap IntKind.i64 v1), ()))))))).bind fun v2 =>
      ((app (1 : Nat) v2.2.2.1 [(IntKind.wrap IntKind.i8 v2.2.2.2.2.1)])).bind fun v3 =>
      L_ref16_row_3 n k (v2.1, (v2.2.1, (v3, ((IntKind.wrap IntKind.i64 (v2.2.2.2.1 + (1 : Int))), ())))))
      (some (s0, (s6, ()))) := (by kernel_rfl)

theorem F_ref16_Sample_eq (n : Nat) (a0 : Int × Int × Int × Int × Int × Int) (a1 : Int) : F_ref16_Sample n (a0, a1) =
    ((F_ref16_Check n a0)).bind fun v1 =>
    brk (v1 != (0 : Int))
      (some ((((0 : Int), ((0 : Int), ((0 : Int), ((0 : Int), ((0 : Int), (0 : Int)))))), (([], []), ([], ((0 : Int), ([], ([], ([], ([], ([], ([], (0 : Int))))))))))), v1))
      (((F_ref16_texts n a0.1)).bind fun v2 =>
      ((F_ref16_root n a0.2.2.1)).bind fun v3 =>
      ((F_ref16_same n ((64 : Int), a0.2.2.1))).bind fun v4 =>
      ((F_ref16_Half n a0)).bind fun v5 =>
      ((F_ref10_Table n (a0.2.1, v5))).bind fun v6 =>
      ((F_ref12_Table n (2 : Int))).bind fun v7 =>
      ((F_ref16_row n ((IntKind.wrap IntKind.u64 a1), (IntKind.wrap IntKind.i64 (a0.1 * a0.2.2.1))))).bind fun v8 =>
      (L_ref16_Sample_11 n n ((), ((), (a0.2.2.1, (a0.2.2.2.2.2, ((), (v8.2, ((0 : Int), ((a0.1, (a0.2.1, (a0.2.2.1, (a0.2.2.2.1, (a0.2.2.2.2.1, (a0.2.2.2.2.2, ())))))), (((0 : Int), ((0 : Int), ((0 : Int), ((0 : Int), ((0 : Int), ((0 : Int), ([], ([], ([], ((0 : Int), ([], ([], ([], ([], ([], ([], ((0 : Int), ()))))))))))))))))), ((a0.1, (a0.2.1, (a0.2.2.1, (a0.2.2.2.1, (a0.2.2.2.2.1, (a0.2.2.2.2.2, (v2.1, (v2.2, (v8.1, ((2 : Int), (v6.1, (v6.2.1, ([], (v7.1, (v4, ([], ((IntKind.wrap IntKind.i64 ((4 : Int) + v3)), ()))))))))))))))))), ()))))))))))).bind fun v9 =>
      ((F_ref16_row n (v9.2.2.2.2.1, (IntKind.wrap IntKind.i64 (v9.2.2.2.2.2.1.1 * v9.2.2.1))))).bind fun v10 =>
      some (((v9.2.2.2.2.2.2.2.1.1, (v9.2.2.2.2.2.2.2.1.2.1, (v9.2.2.2.2.2.2.2.1.2.2.1, (v9.2.2.2.2.2.2.2.1.2.2.2.1, (v9.2.2.2.2.2.2.2.1.2.2.2.2.1, v9.2.2.2.2.2.2.2.1.2.2.2.2.2.1))))), ((v9.2.2.2.2.2.2.2.1.2.2.2.2.2.2.1, v9.2.2.2.2.2.2.2.1.2.2.2.2.2.2.2.1), (v9.2.2.2.2.2.2.2.1.2.2.2.2.2.2.2.2.1, (v9.2.2.2.2.2.2.2.1.2.2.2.2.2.2.2.2.2.1, (v9.2.2.2.2.2.2.2.1.2.2.2.2.2.2.2.2.2.2.1, (v9.2.2.2.2.2.2.2.1.2.2.2.2.2.2.2.2.2.2.2.1, (v9.2.2.2.2.2.2.2.1.2.2.2.2.2.2.2.2.2.2.2.2.1, (v9.2.2.2.2.2.2.2.1.2.2.2.2.2.2.2.2.2.2.2.2.2.1, (v9.2.2.2.2.2.2.2.1.2.2.2.2.2.2.2.2.2.2.2.2.2.2.1, (v10.1, v9.2.2.2.2.2.2.2.1.2.2.2.2.2.2.2.2.2.2.2.2.2.2.2.2.1)))))))))), (0 : Int))) := (by kernel_rfl)

theorem L_ref16_Sample_11_eq (n k : Nat) (s7 : Int) (s8 : Int) (s10 : Int) (s11 : Int) (o0_0 : Int) (o0_1 : Int) (o0_2 : Int) (o0_3 : Int) (o0_4 : Int) (o0_5 : Int) (o1_0 : Int) (o1_1 : Int) (o1_2 : Int) (o1_3 : Int) (o1_4 : Int) (o1_5 : Int) (o1_6 : List (List UInt8)) (o1_7 : List (Int × Int × Int)) (o1_8 : List Int) (o1_9 : Int) (o1_10 : List Int) (o1_11 : List Int) (o1_12 : List ((List Int) × (List Int) × (List Int) × (List Int) × (List Int) × (List Int) × Int × Int × Int × Int × Int × (List Int) × (List Int) × (List Int) × Int × Int × Int)) (o1_13 : List Int) (o1_14 : List Int) (o1_15 : List Int) (o1_16 : Int) (o24_0 : Int) (o24_1 : Int) (o24_2 : Int) (o24_3 : Int) (o24_4 : Int) (o24_5 : Int) (o24_6 : List (List UInt8)) (o24_7 : List (Int × Int × Int)) (o24_8 : List Int) (o24_9 : Int) (o24_10 : List Int) (o24_11 : List Int) (o24_12 : List ((List Int) × (List Int) × (List Int) × (List Int) × (List Int) × (List Int) × Int × Int × Int × Int × Int × (List Int) × (List Int) × (List Int) × Int × Int × Int)) (o24_13 : List Int) (o24_14 : List Int) (o24_15 : List Int) (o24_16 : Int) : L_ref16_Sample_11 n (k + 1) ((), (), s7, s8, (), s10, s11, (o0_0, o0_1, o0_2, o0_3, o0_4, o0_5, ()), (o1_0, o1_1, o1_2, o1_3, o1_4, o1_5, o1_6, o1_7, o1_8, o1_9, o1_10, o1_11, o1_12, o1_13, o1_14, o1_15, o1_16, ()), (o24_0, o24_1, o24_2, o24_3, o24_4, o24_5, o24_6, o24_7, o24_8, o24_9, o24_10, o24_11, o24_12, o24_13, o24_14, o24_15, o24_16, ()), ()) =
    brk (decide (s11 < o0_4))
      (((F_ref16_same n ((64 : Int), s7))).bind fun v1 =>
      ((F_ref16_same n ((64 : Int), s7))).bind fun v2 =>
      ((F_ref16_root n s7)).bind fun v3 =>
      ((F_ref16_root n s7)).bind fun v4 =>
      ((F_ref16_root n s7)).bind fun v5 =>
      ((F_ref16_root n s7)).bind fun v6 =>
      ((F_ref16_root n s7)).bind fun v7 =>
      ((F_ref16_root n s7)).bind fun v8 =>
      ((F_ref16_root n s8)).bind fun v9 =>
      ((F_ref16_row n (s10, (IntKind.wrap IntKind.i64 (s7 * s7))))).bind fun v10 =>
      ((F_ref16_row n (v10.2, (IntKind.wrap IntKind.i64 (s7 * s7))))).bind fun v11 =>
      ((F_ref16_row n (v11.2, (IntKind.wrap IntKind.i64 (s7 * s7))))).bind fun v12 =>
      ((F_ref16_row n (v12.2, (IntKind.wrap IntKind.i64 (s7 * s7))))).bind fun v13 =>
      ((F_ref16_row n (v13.2, (IntKind.wrap IntKind.i64 (s8 * s7))))).bind fun v14 =>
      ((F_ref16_row n (v14.2, (IntKind.wrap IntKind.i64 (s8 * s7))))).bind fun v15 =>
      ((F_ref16_row n (v15.2, (IntKind.wrap IntKind.i64 (s7 * s8))))).bind fun v16 =>
      ((app (280 : Nat) o24_12 [(v1, (v10.1, (v11.1, (v12.1, (v13.1, (v2, ((IntKind.wrap IntKind.i64 ((7 : Int) + v3)), ((IntKind.wrap IntKind.i64 ((7 : Int) + v4)), ((IntKind.wrap IntKind.i64 ((7 : Int) + v5)), ((IntKind.wrap IntKind.i64 ((4 : Int) + v6)), ((3 : Int), (v14.1, (v15.1, (v16.1, ((IntKind.wrap IntKind.i64 ((7 : Int) + v7)), ((IntKind.wrap IntKind.i64 ((7 : Int) + v8)), (IntKind.wrap IntKind.i64 ((4 : Int) + v9))))))))))))))))))])).bind fun v17 =>
      L_ref16_Sample_11 n k ((), ((), (s7, (s8, ((), (v16.2, ((IntKind.wrap IntKind.i64 (s11 + (1 : Int))), ((o0_0, (o0_1, (o0_2, (o0_3, (o0_4, (o0_5, ())))))), ((o1_0, (o1_1, (o1_2, (o1_3, (o1_4, (o1_5, (o1_6, (o1_7, (o1_8, (o1_9, (o1_10, (o1_11, (o1_12, (o1_13, (o1_14, (o1_15, (o1_16, ()))))))))))))))))), ((o24_0, (o24_1, (o24_2, (o24_3, (o24_4, (o24_5, (o24_6, (o24_7, (o24_8, (o24_9, (o24_10, (o24_11, (v17, (o24_13, (o24_14, (o24_15, (o24_16, ()))))))))))))))))), ())))))))))))
      (some ((), ((), (s7, ((), (s10, ((o0_0, (o0_1, (o0_2, (o0_3, (o0_4, (o0_5, ())))))), ((o1_0, (o1_1, (o1_2, (o1_3, (o1_4, (o1_5, (o1_6, (o1_7, (o1_8, (o1_9, (o1_10, (o1_11, (o1_12, (o1_13, (o1_14, (o1_15, (o1_16, ()))))))))))))))))), ((o24_0, (o24_1, (o24_2, (o24_3, (o24_4, (o24_5, (o24_6, (o24_7, (o24_8, (o24_9, (o24_10, (o24_11, (o24_12, (o24_13, (o24_14, (o24_15, (o24_16, ()))))))))))))))))), ()))))))))) := (by kernel_rfl)

theorem F_ref16_own_eq (n : Nat) (a0 : List Int) : F_ref16_own n a0 =
    ((app (1 : Nat) [] a0)).bind fun v1 =>
    some v1 := (by kernel_rfl)

theorem F_ref16_To_eq (n : Nat) (a0 : (Int × Int × Int × Int × Int × Int) × ((List (List UInt8)) × (List (Int × Int × Int))) × (List Int) × Int × (List Int) × (List Int) × (List ((List Int) × (List Int) × (List Int) × (List Int) × (List Int) × (List Int) × Int × Int × Int × Int × Int × (List Int) × (List Int) × (List Int) × Int × Int × Int)) × (List Int) × (List Int) × (List Int) × Int) : F_ref16_To n a0 =
    ((F_ref16_own n a0.2.2.1)).bind fun v1 =>
    ((F_ref16_own n a0.2.2.2.2.1)).bind fun v2 =>
    ((F_ref16_own n a0.2.2.2.2.2.1)).bind fun v3 =>
    ((F_ref16_own n a0.2.2.2.2.2.2.2.1)).bind fun v4 =>
    ((F_ref16_own n a0.2.2.2.2.2.2.2.2.1)).bind fun v5 =>
    ((F_ref16_own n a0.2.2.2.2.2.2.2.2.2.1)).bind fun v6 =>
    ((app (16 : Nat) [] a0.2.1.1)).bind fun v7 =>
    (L_ref16_To_6 n n ((), ((), ((), (a0.2.1.2, ((((List.length a0.2.1.2) : Nat) : Int), ((0 : Int), ((a0.1.1, (a0.1.2.1, (a0.1.2.2.1, (a0.1.2.2.2.1, (a0.1.2.2.2.2.1, (a0.1.2.2.2.2.2, (a0.2.1.1, (a0.2.1.2, (a0.2.2.1, (a0.2.2.2.1, (a0.2.2.2.2.1, (a0.2.2.2.2.2.1, (a0.2.2.2.2.2.2.1, (a0.2.2.2.2.2.2.2.1, (a0.2.2.2.2.2.2.2.2.1, (a0.2.2.2.2.2.2.2.2.2.1, (a0.2.2.2.2.2.2.2.2.2.2, ()))))))))))))))))), (((0 : Int), ((0 : Int), ((0 : Int), ((0 : Int), ((0 : Int), ((0 : Int), ([], ([], ([], ((0 : Int), ([], ([], ([], ([], ([], ([], ((0 : Int), ()))))))))))))))))), ((a0.1.1, (a0.1.2.1, (a0.1.2.2.1, (a0.1.2.2.2.1, (a0.1.2.2.2.2.1, (a0.1.2.2.2.2.2, (v7, ([], (v1, (a0.2.2.2.1, (v2, (v3, ([], (v4, (v5, (v6, (a0.2.2.2.2.2.2.2.2.2.2, ()))))))))))))))))), ())))))))))).bind fun v8 =>
    (L_ref16_To_11 n n ((), ((), (v8.2.2.2.1.2.2.2.2.2.2.2.2.2.2.2.2.1, ((((List.length v8.2.2.2.1.2.2.2.2.2.2.2.2.2.2.2.2.1) : Nat) : Int), ((0 : Int), (v8.2.2.2.2.1, (v8.2.2.2.2.2.1, ())))))))).bind fun v9 =>
    some ((v9.2.2.2.1.1, (v9.2.2.2.1.2.1, (v9.2.2.2.1.2.2.1, (v9.2.2.2.1.2.2.2.1, (v9.2.2.2.1.2.2.2.2.1, v9.2.2.2.1.2.2.2.2.2.1))))), ((v9.2.2.2.1.2.2.2.2.2.2.1, v9.2.2.2.1.2.2.2.2.2.2.2.1), (v9.2.2.2.1.2.2.2.2.2.2.2.2.1, (v9.2.2.2.1.2.2.2.2.2.2.2.2.2.1, (v9.2.2.2.1.2.2.2.2.2.2.2.2.2.2.1, (v9.2.2.2.1.2.2.2.2.2.2.2.2.2.2.2.1, (v9.2.2.2.1.2.2.2.2.2.2.2.2.2.2.2.2.1, (v9.2.2.2.1.2.2.2.2.2.2.2.2.2.2.2.2.2.1, (v9.2.2.2.1.2.2.2.2.2.2.2.2.2.2.2.2.2.2.1, (v9.2.2.2.1.2.2.2.2.2.2.2.2.2.2.2.2.2.2.2.1, v9.2.2.2.1.2.2.2.2.2.2.2.2.2.2.2.2.2.2.2.2.1)))))))))) := (by kernel_rfl)

theorem L_ref16_To_6_eq (n k : Nat) (s63 : List (Int × Int × Int)) (s64 : Int) (s65 : Int) (o0_0 : Int) (o0_1 : Int) (o0_2 : Int) (o0_3 : Int) (o0_4 : Int) (o0_5 : Int) (o0_6 : List (List UInt8)) (o0_7 : List (Int × Int × Int)) (o0_8 : List Int) (o0_9 : Int) (o0_10 : List Int) (o0_11 : List Int) (o0_12 : List ((List Int) × (List Int) × (List Int) × (List Int) × (List Int) × (List Int) × Int × Int × Int × Int × Int × (List Int) × (List Int) × (List Int) × Int × Int × Int)) (o0_13 : List Int) (o0_14 : List Int) (o0_15 : List Int) (o0_16 : Int) (o1_0 : Int) (o1_1 : Int) (o1_2 : Int) (o1_3 : Int) (o1_4 : Int) (o1_5 : Int) (o1_6 : List (List UInt8)) (o1_7 : List (Int × Int × Int)) (o1_8 : List Int) (o1_9 : Int) (o1_10 : List Int) (o1_11 : List Int) (o1_12 : List ((List Int) × (List Int) × (List Int) × (List Int) × (List Int) × (List Int) × Int × Int × Int × Int × Int × (List Int) × (List Int) × (List Int) × Int × Int × Int)) (o1_13 : List Int) (o1_14 : List Int) (o1_15 : List Int) (o1_16 : Int) (o24_0 : Int) (o24_1 : Int) (o24_2 : Int) (o24_3 : Int) (o24_4 : Int) (o24_5 : Int) (o24_6 : List (List UInt8)) (o24_7 : List (Int × Int × Int)) (o24_8 : List Int) (o24_9 : Int) (o24_10 : List Int) (o24_11 : List Int) (o24_12 : List ((List Int) × (List Int) × (List Int) × (List Int) × (List Int) × (List Int) × Int × Int × Int × Int × Int × (List Int) × (List Int) × (List Int) × Int × Int × Int)) (o24_13 : List Int) (o24_14 : List Int) (o24_15 : List Int) (o24_16 : Int) : L_ref16_To_6 n (k + 1) ((), (), (), s63, s64, s65, (o0_0, o0_1, o0_2, o0_3, o0_4, o0_5, o0_6, o0_7, o0_8, o0_9, o0_10, o0_11, o0_12, o0_13, o0_14, o0_15, o0_16, ()), (o1_0, o1_1, o1_2, o1_3, o1_4, o1_5, o1_6, o1_7, o1_8, o1_9, o1_10, o1_11, o1_12, o1_13, o1_14, o1_15, o1_16, ()), (o24_0, o24_1, o24_2, o24_3, o24_4, o24_5, o24_6, o24_7, o24_8, o24_9, o24_10, o24_11, o24_12, o24_13, o24_14, o24_15, o24_16, ()), ()) =
    brk (decide (s65 < s64))
      (((idx s63 s65)).bind fun v1 =>
      ((app (24 : Nat) o24_7 [v1])).bind fun v2 =>
      L_ref16_To_6 n k ((), ((), ((), (s63, (s64, ((IntKind.wrap IntKind.i64 (s65 + (1 : Int))), ((o0_0, (o0_1, (o0_2, (o0_3, (o0_4, (o0_5, (o0_6, (o0_7, (o0_8, (o0_9, (o0_10, (o0_11, (o0_12, (o0_13, (o0_14, (o0_15, (o0_16, ()))))))))))))))))), ((o1_0, (o1_1, (o1_2, (o1_3, (o1_4, (o1_5, (o1_6, (o1_7, (o1_8, (o1_9, (o1_10, (o1_11, (o1_12, (o1_13, (o1_14, (o1_15, (o1_16, ()))))))))))))))))), ((o24_0, (o24_1, (o24_2, (o24_3, (o24_4, (o24_5, (o24_6, (v2, (o24_8, (o24_9, (o24_10, (o24_11, (o24_12, (o24_13, (o24_14, (o24_15, (o24_16, ()))))))))))))))))), ()))))))))))
      (some ((), ((), ((), ((o0_0, (o0_1, (o0_2, (o0_3, (o0_4, (o0_5, (o0_6, (o0_7, (o0_8, (o0_9, (o0_10, (o0_11, (o0_12, (o0_13, (o0_14, (o0_15, (o0_16, ()))))))))))))))))), ((o1_0, (o1_1, (o1_2, (o1_3, (o1_4, (o1_5, (o1_6, (o1_7, (o1_8, (o1_9, (o1_10, (o1_11, (o1_12, (o1_13, (o1_14, (o1_15, (o1_16, ()))))))))))))))))), ((o24_0, (o24_1, (o24_2, (o24_3, (o24_4, (o24_5, (o24_6, (o24_7, (o24_8, (o24_9, (o24_10, (o24_11, (o24_12, (o24_13, (o24_14, (o24_15, (o24_16, ()))))))))))))))))), ()))))))) := (by kernel_rfl)

theorem L_ref16_To_11_eq (n k : Nat) (s85 : List ((List Int) × (List Int) × (List Int) × (List Int) × (List Int) × (List Int) × Int × Int × Int × Int × Int × (List Int) × (List Int) × (List Int) × Int × Int × Int)) (s86 : Int) (s87 : Int) (o1_0 : Int) (o1_1 : Int) (o1_2 : Int) (o1_3 : Int) (o1_4 : Int) (o1_5 : Int) (o1_6 : List (List UInt8)) (o1_7 : List (Int × Int × Int)) (o1_8 : List Int) (o1_9 : Int) (o1_10 : List Int) (o1_11 : List Int) (o1_12 : List ((List Int) × (List Int) × (List Int) × (List Int) × (List Int) × (List Int) × Int × Int × Int × Int × Int × (List Int) × (List Int) × (List Int) × Int × Int × Int)) (o1_13 : List Int) (o1_14 : List Int) (o1_15 : List Int) (o1_16 : Int) (o24_0 : Int) (o24_1 : Int) (o24_2 : Int) (o24_3 : Int) (o24_4 : Int) (o24_5 : Int) (o24_6 : List (List UInt8)) (o24_7 : List (Int × Int × Int)) (o24_8 : List Int) (o24_9 : Int) (o24_10 : List Int) (o24_11 : List Int) (o24_12 : List ((List Int) × (List Int) × (List Int) × (List Int) × (List Int) × (List Int) × Int × Int × Int × Int × Int × (List Int) × (List Int) × (List Int) × Int × Int × Int)) (o24_13 : List Int) (o24_14 : List Int) (o24_15 : List Int) (o24_16 : Int) : L_ref16_To_11 n (k + 1) ((), (), s85, s86, s87, (o1_0, o1_1, o1_2, o1_3, o1_4, o1_5, o1_6, o1_7, o1_8, o1_9, o1_10, o1_11, o1_12, o1_13, o1_14, o1_15, o1_16, ()), (o24_0, o24_1, o24_2, o24_3, o24_4, o24_5, o24_6, o24_7, o24_8, o24_9, o24_10, o24_11, o24_12, o24_13, o24_14, o24_15, o24_16, ()), ()) =
    brk (decide (s87 < s86))
      (((idx s85 s87)).bind fun v1 =>
      ((F_ref16_own n v1.1)).bind fun v2 =>
      ((F_ref16_own n v1.2.1)).bind fun v3 =>
      ((F_ref16_own n v1.2.2.1)).bind fun v4 =>
      ((F_ref16_own n v1.2.2.2.1)).bind fun v5 =>
      ((F_ref16_own n v1.2.2.2.2.1)).bind fun v6 =>
      ((F_ref16_own n v1.2.2.2.2.2.1)).bind fun v7 =>
      ((F_ref16_own n v1.2.2.2.2.2.2.2.2.2.2.2.1)).bind fun v8 =>
      ((F_ref16_own n v1.2.2.2.2.2.2.2.2.2.2.2.2.1)).bind fun v9 =>
      ((F_ref16_own n v1.2.2.2.2.2.2.2.2.2.2.2.2.2.1)).bind fun v10 =>
      ((app (280 : Nat) o24_12 [(v2, (v3, (v4, (v5, (v6, (v7, (v1.2.2.2.2.2.2.1, (v1.2.2.2.2.2.2.2.1, (v1.2.2.2.2.2.2.2.2.1, (v1.2.2.2.2.2.2.2.2.2.1, (v1.2.2.2.2.2.2.2.2.2.2.1, (v8, (v9, (v10, v1.2.2.2.2.2.2.2.2.2.2.2.2.2.2))))))))))))))])).bind fun v11 =>
      L_ref16_To_11 n k ((), ((), (s85, (s86, ((IntKind.wrap IntKind.i64 (s87 + (1 : Int))), ((o1_0, (o1_1, (o1_2, (o1_3, (o1_4, (o1_5, (o1_6, (o1_7, (o1_8, (o1_9, (o1_10, (o1_11, (o1_12, (o1_13, (o1_14, (o1_15, (o1_16, ()))))))))))))))))), ((o24_0, (o24_1, (o24_2, (o24_3, (o24_4, (o24_5, (o24_6, (o24_7, (o24_8, (o24_9, (o24_10, (o24_11, (v11, (o24_13, (o24_14, (o24_15, (o24_16, ()))))))))))))))))), ()))))))))
      (some ((), ((), ((o1_0, (o1_1, (o1_2, (o1_3, (o1_4, (o1_5, (o1_6, (o1_7, (o1_8, (o1_9, (o1_10, (o1_11, (o1_12, (o1_13, (o1_14, (o1_15, (o1_16, ()))))))))))))))))), ((o24_0, (o24_1, (o24_2, (o24_3, (o24_4, (o24_5, (o24_6, (o24_7, (o24_8, (o24_9, (o24_10, (o24_11, (o24_12, (o24_13, (o24_14, (o24_15, (o24_16, ()))))))))))))))))), ()))))) := (by kernel_rfl)

theorem F_law20_small_eq (n : Nat) : F_law20_small n () =
    ((F_ref16_Sample n (((3 : Int), ((4 : Int), ((2 : Int), ((1 : Int), ((1 : Int), (2 : Int)))))), (0 : Int)))).bind fun v1 =>
    ((F_ref16_To n (v1.1.1, (v1.1.2.1, v1.1.2.2)))).bind fun v2 =>
    ((idx v2.2.2.2.2.2.2.1 (0 : Int))).bind fun v3 =>
    some (v3, ((1 : Int), (v2.2.2.2.2.1, (v2.2.2.2.2.2.1, v2.2.2.2.2.2.2.2.1)))) := (by kernel_rfl)

theorem F_block_angles_eq (n : Nat) (a0 : Int × (List Int) × (List Int) × (List Int)) (a1 : List Int) (a2 : Int) : F_block_angles n (a0, a1, a2) =
    brk (decide (a0.1 < (1 : Int)))
      (some ((0 : Int), ([], ([], (200 : Int)))))
      (((rm (((List.length a1) : Nat) : Int) a0.1)).bind fun v1 =>
      brk (v1 != (0 : Int))
        (some ((0 : Int), ([], ([], (200 : Int)))))
        (((qt IntKind.i64 (((List.length a1) : Nat) : Int) a0.1)).bind fun v2 =>
        brk (v2 == (0 : Int))
          (some ((0 : Int), ([], ([], (200 : Int)))))
          (((rm v2 (2 : Int))).bind fun v3 =>
          brk (v3 != (0 : Int))
            (some ((0 : Int), ([], ([], (200 : Int)))))
            (((qt IntKind.i64 v2 (2 : Int))).bind fun v4 =>
            brk (decide (a2 < (0 : Int)))
              (some ((0 : Int), ([], ([], (201 : Int)))))
              (((qt IntKind.i64 (((List.length a0.2.1) : Nat) : Int) v4)).bind fun v5 =>
              brk (decide (a2 ≥ v5))
                (some ((0 : Int), ([], ([], (201 : Int)))))
                (((qt IntKind.i64 (((List.length a0.2.2.1) : Nat) : Int) v4)).bind fun v6 =>
                brk (decide (a2 ≥ v6))
                  (some ((0 : Int), ([], ([], (201 : Int)))))
                  (((slc a0.2.1 (IntKind.wrap IntKind.i64 (a2 * v4)) (IntKind.wrap IntKind.i64 ((IntKind.wrap IntKind.i64 (a2 + (1 : Int))) * v4)))).bind fun v7 =>
                  ((slc a0.2.2.1 (IntKind.wrap IntKind.i64 (a2 * v4)) (IntKind.wrap IntKind.i64 ((IntKind.wrap IntKind.i64 (a2 + (1 : Int))) * v4)))).bind fun v8 =>
                  some (v2, (v7, (v8, (0 : Int))))))))))) := (by kernel_rfl)

theorem F_fixed_Sqrt_eq (n : Nat) (a0 : Int) : F_fixed_Sqrt n a0 =
    brk (decide (a0 < (0 : Int)))
      (some ((0 : Int), (22 : Int)))
      ((L_fixed_Sqrt_5 n n (a0, ((0 : Int), ((2147483648 : Int), ())))).bind fun v1 =>
      some (v1.1, (0 : Int))) := (by kernel_rfl)

theorem L_fixed_Sqrt_5_eq (n k : Nat) (s0 : Int) (s4 : Int) (s5 : Int) : L_fixed_Sqrt_5 n (k + 1) (s0, s4, s5, ()) =
    brk (decide (s5 > (0 : Int)))
      (((qt IntKind.i64 (9223372036854775807 : Int) (bito BinOp.or IntKind.i64 s4 s5))).bind fun v1 =>
      brk (decide ((bito BinOp.or IntKind.i64 s4 s5) ≤ v1))
        ((brk (decide ((IntKind.wrap IntKind.i64 ((bito BinOp.or IntKind.i64 s4 s5) * (bito BinOp.or IntKind.i64 s4 s5))) ≤ s0))
            (some (s0, ((bito BinOp.or IntKind.i64 s4 s5), (s5, ()))))
            (some (s0, (s4, (s5, ()))))).bind fun v2 =>
        ((shro IntKind.i64 v2.2.2.1 (1 : Int))).bind fun v3 =>
        L_fixed_Sqrt_5 n k (v2.1, (v2.2.1, (v3, ()))))
        ((some (s0, (s4, (s5, ())))).bind fun v4 =>
        ((shro IntKind.i64 v4.2.2.1 (1 : Int))).bind fun v5 =>
        L_fixed_Sqrt_5 n k (v4.1, (v4.2.1, (v5, ())))))
      (some (s4, ())) := (by kernel_rfl)

theorem F_norm_root_eq (n : Nat) (a0 : List Int) : F_norm_root n a0 =
    brk ((((List.length a0) : Nat) : Int) == (0 : Int))
      (some ((0 : Int), (1 : Int)))
      (brk (decide ((((List.length a0) : Nat) : Int) > (64 : Int)))
        (some ((0 : Int), (1 : Int)))
        ((L_norm_root_5 n n (a0, ((0 : Int), (a0, ((((List.length a0) : Nat) : Int), ((0 : Int), ())))))).bind fun v1 =>
        sumk v1
          (fun v2 =>
            some (v2.1, v2.2.1))
          (fun v3 =>
            ((qt IntKind.i64 v3.2.1 (((List.length v3.1) : Nat) : Int))).bind fun v4 =>
            ((F_fixed_Sqrt n v4)).bind fun v5 =>
            some ((imax (1 : Int) v5.1), (0 : Int))))) := (by kernel_rfl)

theorem L_norm_root_5_eq (n k : Nat) (s0 : List Int) (s4 : Int) (s17 : List Int) (s18 : Int) (s19 : Int) : L_norm_root_5 n (k + 1) (s0, s4, s17, s18, s19, ()) =
    brk (decide (s19 < s18))
      (((idx s17 s19)).bind fun v1 =>
      brk (decide (v1 < (-(268435456 : Int))))
        (some (Sum.inl ((0 : Int), ((90 : Int), ()))))
        (brk (decide (v1 > (268435456 : Int)))
          (some (Sum.inl ((0 : Int), ((90 : Int), ()))))
          (L_norm_root_5 n k (s0, ((IntKind.wrap IntKind.i64 (s4 + (IntKind.wrap IntKind.i64 (v1 * v1)))), (s17, (s18, ((IntKind.wrap IntKind.i64 (s19 + (1 : Int))), ()))))))))
      (some (Sum.inr (s0, (s4, ())))) := (by kernel_rfl)

theorem F_fixed_Floor_eq (n : Nat) (a0 : Int) (a1 : Int) : F_fixed_Floor n (a0, a1) =
    brk (decide (a1 < (1 : Int)))
      (some ((0 : Int), ((0 : Int), (21 : Int))))
      (((qt IntKind.i64 a0 a1)).bind fun v1 =>
      ((rm a0 a1)).bind fun v2 =>
      (brk (decide (v2 < (0 : Int)))
          (some ((IntKind.wrap IntKind.i64 (v1 - (1 : Int))), ((IntKind.wrap IntKind.i64 (v2 + a1)), ())))
          (some (v1, (v2, ())))).bind fun v3 =>
      some (v3.1, (v3.2.1, (0 : Int)))) := (by kernel_rfl)

theorem F_fixed_Near_eq (n : Nat) (a0 : Int) (a1 : Int) : F_fixed_Near n (a0, a1) =
    ((F_fixed_Floor n (a0, a1))).bind fun v1 =>
    brk (v1.2.2 != (0 : Int))
      (some ((0 : Int), v1.2.2))
      (brk (decide (v1.2.1 > (IntKind.wrap IntKind.i64 (a1 - v1.2.1))))
        ((some ((IntKind.wrap IntKind.i64 (v1.1 + (1 : Int))), ())).bind fun v2 =>
        some (v2.1, (0 : Int)))
        (brk (v1.2.1 == (IntKind.wrap IntKind.i64 (a1 - v1.2.1)))
          ((brk ((bito BinOp.and IntKind.i64 v1.1 (1 : Int)) == (1 : Int))
              (some ((IntKind.wrap IntKind.i64 (v1.1 + (1 : Int))), ()))
              (some (v1.1, ()))).bind fun v3 =>
          some (v3.1, (0 : Int)))
          ((some (v1.1, ())).bind fun v4 =>
          some (v4.1, (0 : Int))))) := (by kernel_rfl)

theorem F_fixed_Round_eq (n : Nat) (a0 : Int) (a1 : Int) : F_fixed_Round n (a0, a1) =
    brk (decide (a1 < (0 : Int)))
      (some ((0 : Int), (20 : Int)))
      (brk (decide (a1 > (62 : Int)))
        (some ((0 : Int), (20 : Int)))
        (((shlo IntKind.i64 (1 : Int) a1)).bind fun v1 =>
        ((F_fixed_Near n (a0, v1))).bind fun v2 =>
        some v2)) := (by kernel_rfl)

theorem F_fixed_Clamp_eq (n : Nat) (a0 : Int) (a1 : Int) (a2 : Int) : F_fixed_Clamp n (a0, a1, a2) =
    brk (decide (a0 < a1))
      (some a1)
      (brk (decide (a0 > a2))
        (some a2)
        (some a0)) := (by kernel_rfl)

theorem F_fixed_Narrow_eq (n : Nat) (a0 : Int) : F_fixed_Narrow n a0 =
    ((F_fixed_Clamp n (a0, ((-(127 : Int)), (127 : Int))))).bind fun v1 =>
    some (IntKind.wrap IntKind.i8 v1) := (by kernel_rfl)

theorem F_norm_Row_eq (n : Nat) (a0 : List Int) (a1 : List Int) : F_norm_Row n (a0, a1) =
    brk ((((List.length a0) : Nat) : Int) != (((List.length a1) : Nat) : Int))
      (some ([], (1 : Int)))
      (((F_norm_root n a0)).bind fun v1 =>
      brk (v1.2 != (0 : Int))
        (some ([], v1.2))
        (((mkn (1 : Nat) (((List.length a0) : Nat) : Int))).bind fun v2 =>
        (L_norm_Row_8 n n (a1, (v1.1, ((), (a0, ((((List.length a0) : Nat) : Int), ((0 : Int), ((List.replicate v2 (0 : Int)), ())))))))).bind fun v3 =>
        some (v3.2.1, (0 : Int)))) := (by kernel_rfl)

theorem L_norm_Row_8_eq (n k : Nat) (s1 : List Int) (s6 : Int) (s29 : List Int) (s30 : Int) (s31 : Int) (o18 : List Int) : L_norm_Row_8 n (k + 1) (s1, s6, (), s29, s30, s31, o18, ()) =
    brk (decide (s31 < s30))
      (((idx s29 s31)).bind fun v1 =>
      ((qt IntKind.i64 (IntKind.wrap IntKind.i64 ((64 : Int) * v1)) s6)).bind fun v2 =>
      ((idx s1 s31)).bind fun v3 =>
      ((F_fixed_Round n ((IntKind.wrap IntKind.i64 (v2 * (IntKind.wrap IntKind.i64 v3))), (6 : Int)))).bind fun v4 =>
      ((F_fixed_Narrow n v4.1)).bind fun v5 =>
      ((ck s31 (List.length o18))).bind fun v6 =>
      ((o18)[v6]?).bind fun _ =>
      L_norm_Row_8 n k (s1, (s6, ((), (s29, (s30, ((IntKind.wrap IntKind.i64 (s31 + (1 : Int))), ((List.set o18 v6 v5), ()))))))))
      (some ((), (o18, ()))) := (by kernel_rfl)

theorem F_vec_matrix_eq (n : Nat) (a0 : List Int) (a1 : Int) : F_vec_matrix n (a0, a1) =
    brk (decide ((((List.length a0) : Nat) : Int) > (1048576 : Int)))
      (some (81 : Int))
      (brk (decide (a1 < (1 : Int)))
        (some (80 : Int))
        (((rm (((List.length a0) : Nat) : Int) a1)).bind fun v1 =>
        brk (v1 != (0 : Int))
          (some (80 : Int))
          (some (0 : Int)))) := (by kernel_rfl)

end Go.Am
