import Derived.Test.YtfafklfpikjheaaGreatS2
import Derived.Test.YtfafklfpikjheaaGreatD3
import Derived.KernelRfl
set_option linter.unusedVariables false
set_option linter.unusedSimpArgs false
namespace Go.Am
open Go Go.Proofs

theorem P_slices_Max_int64 (n : Nat) : PSound Tryz.prog 128 (E_slices_Max_int64 n) := psound_of_body (X := X_slices_Max_int64 n) (fn := Tryz.f128) (ps := [Y37]) (rs := [(.int .i64)]) mixed ⟨ttOK, callsOK_nil, ownsOK_nil⟩ Tryz.func128 (by kernel_rfl) (by kernel_rfl) (by kernel_rfl)
theorem P_fixed_Exp2 (n : Nat) : PSound Tryz.prog 129 (E_fixed_Exp2 n) := psound_of_body (X := X_fixed_Exp2 n) (fn := Tryz.f129) (ps := [(.int .i64)]) (rs := [(.int .i64)]) mixed ⟨ttOK, callsOK_cons (P_fixed_Floor n) (callsOK_nil), ownsOK_nil⟩ Tryz.func129 (by kernel_rfl) (by kernel_rfl) (by kernel_rfl)
theorem P_soft_Weights (n : Nat) : PSound Tryz.prog 119 (E_soft_Weights n) := psound_of_body (X := X_soft_Weights n) (fn := Tryz.f119) (ps := [Y37]) (rs := [Y37, (.int .i64)]) mixed ⟨ttOK, callsOK_cons (P_slices_Max_int64 n) (callsOK_cons (P_fixed_Exp2 n) (callsOK_nil)), ownsOK_nil⟩ Tryz.func119 (by kernel_rfl) (by kernel_rfl) (by kernel_rfl)
theorem P_soft_total (n : Nat) : PSound Tryz.prog 130 (E_soft_total n) := psound_of_body (X := X_soft_total n) (fn := Tryz.f130) (ps := [Y37]) (rs := [(.int .i64), (.int .i64)]) mixed ⟨ttOK, callsOK_nil, ownsOK_nil⟩ Tryz.func130 (by kernel_rfl) (by kernel_rfl) (by kernel_rfl)
theorem P_soft_Mean (n : Nat) : PSound Tryz.prog 131 (E_soft_Mean n) := psound_of_body (X := X_soft_Mean n) (fn := Tryz.f131) (ps := [Y37, Y8]) (rs := [(.int .i8), (.int .i64)]) mixed ⟨ttOK, callsOK_cons (P_soft_total n) (callsOK_cons (P_fixed_Floor n) (callsOK_nil)), ownsOK_nil⟩ Tryz.func131 (by kernel_rfl) (by kernel_rfl) (by kernel_rfl)
theorem P_soft_Means (n : Nat) : PSound Tryz.prog 120 (E_soft_Means n) := psound_of_body (X := X_soft_Means n) (fn := Tryz.f120) (ps := [Y37, Y39]) (rs := [Y8, (.int .i64)]) mixed ⟨ttOK, callsOK_cons (P_soft_total n) (callsOK_cons (P_soft_Mean n) (callsOK_nil)), ownsOK_nil⟩ Tryz.func120 (by kernel_rfl) (by kernel_rfl) (by kernel_rfl)
theorem P_attend_Head (n : Nat) : PSound Tryz.prog 104 (E_attend_Head n) := psound_of_body (X := X_attend_Head n) (fn := Tryz.f104) (ps := [Y8, Y39, Y39, (.int .i64)]) (rs := [Y8, (.int .i64)]) mixed ⟨ttOK, callsOK_cons (P_attend_Scores n) (callsOK_cons (P_attend_fit n) (callsOK_cons (P_soft_Weights n) (callsOK_cons (P_soft_Means n) (callsOK_nil)))), ownsOK_nil⟩ Tryz.func104 (by kernel_rfl) (by kernel_rfl) (by kernel_rfl)
theorem P_attend_Look (n : Nat) : PSound Tryz.prog 63 (E_attend_Look n) := psound_of_body (X := X_attend_Look n) (fn := Tryz.f63) (ps := [Y8, (.int .i64), Y41, (.int .i64)]) (rs := [Y8, (.int .i64)]) mixed ⟨ttOK, callsOK_cons (P_attend_fit n) (callsOK_cons (P_attend_Look_1 n) (callsOK_cons (P_attend_Head n) (callsOK_nil))), ownsOK_nil⟩ Tryz.func63 (by kernel_rfl) (by kernel_rfl) (by kernel_rfl)
theorem P_fixed_Add (n : Nat) : PSound Tryz.prog 68 (E_fixed_Add n) := psound_of_body (X := X_fixed_Add n) (fn := Tryz.f68) (ps := [(.int .i64), (.int .i64)]) (rs := [(.int .i64), .bool]) mixed ⟨ttOK, callsOK_nil, ownsOK_nil⟩ Tryz.func68 (by kernel_rfl) (by kernel_rfl) (by kernel_rfl)
theorem P_vec_Add (n : Nat) : PSound Tryz.prog 38 (E_vec_Add n) := psound_of_body (X := X_vec_Add n) (fn := Tryz.f38) (ps := [Y37, Y37]) (rs := [Y37, (.int .i64)]) mixed ⟨ttOK, callsOK_cons (P_vec_fit_int64 n) (callsOK_cons (P_fixed_Add n) (callsOK_nil)), ownsOK_nil⟩ Tryz.func38 (by kernel_rfl) (by kernel_rfl) (by kernel_rfl)
theorem P_block_looked (n : Nat) : PSound Tryz.prog 36 (E_block_looked n) := psound_of_body (X := X_block_looked n) (fn := Tryz.f36) (ps := [Y22, Y36, Y37, Y41]) (rs := [Y37, (.int .i64)]) mixed ⟨ttOK, callsOK_cons (P_block_angles n) (callsOK_cons (P_norm_Row n) (callsOK_cons (P_block_through n) (callsOK_cons (P_rope_Turn n) (callsOK_cons (P_attend_Look n) (callsOK_cons (P_vec_Times n) (callsOK_cons (P_vec_Scale n) (callsOK_cons (P_vec_Add n) (callsOK_nil)))))))), ownsOK_nil⟩ Tryz.func36 (by kernel_rfl) (by kernel_rfl) (by kernel_rfl)
theorem P_act_through (n : Nat) : PSound Tryz.prog 65 (E_act_through n) := psound_of_body (X := X_act_through n) (fn := Tryz.f65) (ps := [Y8, Y8, (.int .i64)]) (rs := [Y8, (.int .i64)]) mixed ⟨ttOK, callsOK_cons (P_vec_Times n) (callsOK_cons (P_vec_Shrink n) (callsOK_nil)), ownsOK_nil⟩ Tryz.func65 (by kernel_rfl) (by kernel_rfl) (by kernel_rfl)
theorem P_act_narrow (n : Nat) : PSound Tryz.prog 105 (E_act_narrow n) := psound_of_body (X := X_act_narrow n) (fn := Tryz.f105) (ps := [(.int .i64), (.int .i64)]) (rs := [(.int .i8)]) mixed ⟨ttOK, callsOK_cons (P_fixed_Round n) (callsOK_cons (P_fixed_Narrow n) (callsOK_nil)), ownsOK_nil⟩ Tryz.func105 (by kernel_rfl) (by kernel_rfl) (by kernel_rfl)
theorem P_act_Gate (n : Nat) : PSound Tryz.prog 66 (E_act_Gate n) := psound_of_body (X := X_act_Gate n) (fn := Tryz.f66) (ps := [Y8, Y8, Y8]) (rs := [Y8, (.int .i64)]) mixed ⟨ttOK, callsOK_cons (P_act_narrow n) (callsOK_nil), ownsOK_nil⟩ Tryz.func66 (by kernel_rfl) (by kernel_rfl) (by kernel_rfl)
theorem P_act_Middle (n : Nat) : PSound Tryz.prog 37 (E_act_Middle n) := psound_of_body (X := X_act_Middle n) (fn := Tryz.f37) (ps := [Y11, Y8, Y8]) (rs := [Y37, (.int .i64)]) mixed ⟨ttOK, callsOK_cons (P_act_through n) (callsOK_cons (P_act_Gate n) (callsOK_cons (P_vec_Times n) (callsOK_cons (P_vec_Scale n) (callsOK_nil)))), ownsOK_nil⟩ Tryz.func37 (by kernel_rfl) (by kernel_rfl) (by kernel_rfl)
theorem P_block_Run (n : Nat) : PSound Tryz.prog 15 (E_block_Run n) := psound_of_body (X := X_block_Run n) (fn := Tryz.f15) (ps := [Y22, Y36, Y37, Y41]) (rs := [Y37, (.int .i64)]) mixed ⟨ttOK, callsOK_cons (P_block_looked n) (callsOK_cons (P_norm_Row n) (callsOK_cons (P_act_Middle n) (callsOK_cons (P_vec_Add n) (callsOK_nil)))), ownsOK_nil⟩ Tryz.func15 (by kernel_rfl) (by kernel_rfl) (by kernel_rfl)
end Go.Am

namespace Go.Am
open Go Go.Proofs
set_option maxRecDepth 100000

theorem F_slices_Max_int64_eq (n : Nat) (a0 : List Int) : F_slices_Max_int64 n a0 =
    (brk (decide ((((List.length a0) : Nat) : Int) < (1 : Int)))
        (none)
        (some (a0, ()))).bind fun v1 =>
    ((idx v1.1 (0 : Int))).bind fun v2 =>
    (L_slices_Max_int64_5 n n (v1.1, (v2, ((1 : Int), ())))).bind fun v3 =>
    some v3.1 := (by kernel_rfl)

theorem L_slices_Max_int64_5_eq (n k : Nat) (s0 : List Int) (s3 : Int) (s4 : Int) : L_slices_Max_int64_5 n (k + 1) (s0, s3, s4, ()) =
    brk (decide (s4 < (((List.length s0) : Nat) : Int)))
      (((idx s0 s4)).bind fun v1 =>
      L_slices_Max_int64_5 n k (s0, ((imax s3 v1), ((IntKind.wrap IntKind.i64 (s4 + (1 : Int))), ()))))
      (some (s3, ())) := (by kernel_rfl)

theorem F_fixed_Exp2_eq (n : Nat) (a0 : Int) : F_fixed_Exp2 n a0 =
    ((F_fixed_Floor n ((imin a0 (0 : Int)), (65536 : Int)))).bind fun v1 =>
    brk (decide (v1.1 ≤ (-(31 : Int))))
      (some (0 : Int))
      (((ck (0 : Int) (4 : Nat))).bind fun v2 =>
      (([(84941200 : Int), (241400000 : Int), (747400624 : Int), (1073741824 : Int)])[v2]?).bind fun v3 =>
      (L_fixed_Exp2_8 n n (v1.1, (v1.2.1, ((), (v3, ((0 : Int), (((84941200 : Int), ((241400000 : Int), ((747400624 : Int), ((1073741824 : Int), ())))), ()))))))).bind fun v4 =>
      ((shro IntKind.i64 v4.2.1 (IntKind.wrap IntKind.i64 ((0 : Int) - v4.1)))).bind fun v5 =>
      some v5) := (by kernel_rfl)

theorem L_fixed_Exp2_8_eq (n k : Nat) (s3 : Int) (s4 : Int) (s7 : Int) (s22 : Int) (o16_0 : Int) (o16_1 : Int) (o16_2 : Int) (o16_3 : Int) : L_fixed_Exp2_8 n (k + 1) (s3, s4, (), s7, s22, (o16_0, o16_1, o16_2, o16_3, ()), ()) =
    brk (decide (s22 < (3 : Int)))
      (((ck (IntKind.wrap IntKind.i64 (s22 + (1 : Int))) (4 : Nat))).bind fun v1 =>
      (([o16_0, o16_1, o16_2, o16_3])[v1]?).bind fun v2 =>
      ((qt IntKind.i64 (IntKind.wrap IntKind.i64 (s7 * s4)) (65536 : Int))).bind fun v3 =>
      L_fixed_Exp2_8 n k (s3, (s4, ((), ((IntKind.wrap IntKind.i64 (v2 + v3)), ((IntKind.wrap IntKind.i64 (s22 + (1 : Int))), ((o16_0, (o16_1, (o16_2, (o16_3, ())))), ())))))))
      (some (s3, (s7, ()))) := (by kernel_rfl)

theorem F_soft_Weights_eq (n : Nat) (a0 : List Int) : F_soft_Weights n a0 =
    brk ((((List.length a0) : Nat) : Int) == (0 : Int))
      (some ([], (1 : Int)))
      (brk (decide ((((List.length a0) : Nat) : Int) > (512 : Int)))
        (some ([], (1 : Int)))
        (((F_slices_Max_int64 n a0)).bind fun v1 =>
        (L_soft_Weights_6 n n (v1, ([], (a0, ((((List.length a0) : Nat) : Int), ((0 : Int), ())))))).bind fun v2 =>
        some (v2.1, (0 : Int)))) := (by kernel_rfl)

theorem L_soft_Weights_6_eq (n k : Nat) (s4 : Int) (s5 : List Int) (s19 : List Int) (s20 : Int) (s21 : Int) : L_soft_Weights_6 n (k + 1) (s4, s5, s19, s20, s21, ()) =
    brk (decide (s21 < s20))
      (((idx s19 s21)).bind fun v1 =>
      ((F_fixed_Exp2 n (IntKind.wrap IntKind.i64 ((-(256 : Int)) * (IntKind.wrap IntKind.i64 (imin (1099511627776 : Int) (IntKind.wrap IntKind.u64 ((IntKind.wrap IntKind.u64 s4) - (IntKind.wrap IntKind.u64 v1))))))))).bind fun v2 =>
      ((app (8 : Nat) s5 [v2])).bind fun v3 =>
      L_soft_Weights_6 n k (s4, (v3, (s19, (s20, ((IntKind.wrap IntKind.i64 (s21 + (1 : Int))), ()))))))
      (some (s5, ())) := (by kernel_rfl)

theorem F_soft_total_eq (n : Nat) (a0 : List Int) : F_soft_total n a0 =
    (L_soft_total_3 n n ((0 : Int), (a0, ((((List.length a0) : Nat) : Int), ((0 : Int), ()))))).bind fun v1 =>
    sumk v1
      (fun v2 =>
        some (v2.1, v2.2.1))
      (fun v3 =>
        brk (v3.1 == (0 : Int))
          (some ((0 : Int), (110 : Int)))
          (some (v3.1, (0 : Int)))) := (by kernel_rfl)

theorem L_soft_total_3_eq (n k : Nat) (s4 : Int) (s7 : List Int) (s8 : Int) (s9 : Int) : L_soft_total_3 n (k + 1) (s4, s7, s8, s9, ()) =
    brk (decide (s9 < s8))
      (((idx s7 s9)).bind fun v1 =>
      brk (decide (v1 < (0 : Int)))
        (some (Sum.inl ((0 : Int), ((110 : Int), ()))))
        (brk (decide (v1 > (1073741824 : Int)))
          (some (Sum.inl ((0 : Int), ((110 : Int), ()))))
          (L_soft_total_3 n k ((IntKind.wrap IntKind.i64 (s4 + v1)), (s7, (s8, ((IntKind.wrap IntKind.i64 (s9 + (1 : Int))), ())))))))
      (some (Sum.inr (s4, ()))) := (by kernel_rfl)

theorem F_soft_Mean_eq (n : Nat) (a0 : List Int) (a1 : List Int) : F_soft_Mean n (a0, a1) =
    brk ((((List.length a0) : Nat) : Int) != (((List.length a1) : Nat) : Int))
      (some ((0 : Int), (1 : Int)))
      (brk (decide ((((List.length a0) : Nat) : Int) > (512 : Int)))
        (some ((0 : Int), (1 : Int)))
        (((F_soft_total n a0)).bind fun v1 =>
        brk (v1.2 != (0 : Int))
          (some ((0 : Int), v1.2))
          ((L_soft_Mean_8 n n (a1, (v1.1, ((0 : Int), (a0, ((((List.length a0) : Nat) : Int), ((0 : Int), ()))))))).bind fun v2 =>
          ((F_fixed_Floor n ((IntKind.wrap IntKind.i64 ((IntKind.wrap IntKind.i64 ((2 : Int) * v2.2.1)) + v2.1)), (IntKind.wrap IntKind.i64 ((2 : Int) * v2.1))))).bind fun v3 =>
          some ((IntKind.wrap IntKind.i8 v3.1), (0 : Int))))) := (by kernel_rfl)

theorem L_soft_Mean_8_eq (n k : Nat) (s1 : List Int) (s6 : Int) (s8 : Int) (s32 : List Int) (s33 : Int) (s34 : Int) : L_soft_Mean_8 n (k + 1) (s1, s6, s8, s32, s33, s34, ()) =
    brk (decide (s34 < s33))
      (((idx s32 s34)).bind fun v1 =>
      ((idx s1 s34)).bind fun v2 =>
      L_soft_Mean_8 n k (s1, (s6, ((IntKind.wrap IntKind.i64 (s8 + (IntKind.wrap IntKind.i64 (v1 * (IntKind.wrap IntKind.i64 v2))))), (s32, (s33, ((IntKind.wrap IntKind.i64 (s34 + (1 : Int))), ())))))))
      (some (s6, (s8, ()))) := (by kernel_rfl)

theorem F_soft_Means_eq (n : Nat) (a0 : List Int) (a1 : List (List Int)) : F_soft_Means n (a0, a1) =
    brk ((((List.length a0) : Nat) : Int) != (((List.length a1) : Nat) : Int))
      (some ([], (1 : Int)))
      (brk (decide ((((List.length a0) : Nat) : Int) > (512 : Int)))
        (some ([], (1 : Int)))
        ((L_soft_Means_4 n n (a0, (a1, (a1, ((((List.length a1) : Nat) : Int), ((0 : Int), ())))))).bind fun v1 =>
        sumk v1
          (fun v2 =>
            some (v2.1, v2.2.1))
          (fun v3 =>
            ((F_soft_total n v3.1)).bind fun v4 =>
            brk (v4.2 != (0 : Int))
              (some ([], v4.2))
              (((idx v3.2.1 (0 : Int))).bind fun v5 =>
              (L_soft_Means_14 n n (v3.1, (v3.2.1, ([], ((((List.length v5) : Nat) : Int), ((0 : Int), ())))))).bind fun v6 =>
              some (v6.1, (0 : Int)))))) := (by kernel_rfl)

theorem L_soft_Means_4_eq (n k : Nat) (s0 : List Int) (s1 : List (List Int)) (s27 : List (List Int)) (s28 : Int) (s29 : Int) : L_soft_Means_4 n (k + 1) (s0, s1, s27, s28, s29, ()) =
    brk (decide (s29 < s28))
      (((idx s27 s29)).bind fun v1 =>
      ((idx s1 (0 : Int))).bind fun v2 =>
      brk ((((List.length v1) : Nat) : Int) != (((List.length v2) : Nat) : Int))
        (some (Sum.inl ([], ((1 : Int), ()))))
        (L_soft_Means_4 n k (s0, (s1, (s27, (s28, ((IntKind.wrap IntKind.i64 (s29 + (1 : Int))), ())))))))
      (some (Sum.inr (s0, (s1, ())))) := (by kernel_rfl)

theorem L_soft_Means_14_eq (n k : Nat) (s0 : List Int) (s1 : List (List Int)) (s10 : List Int) (s52 : Int) (s53 : Int) : L_soft_Means_14 n (k + 1) (s0, s1, s10, s52, s53, ()) =
    brk (decide (s53 < s52))
      ((L_soft_Means_18 n n (s0, (s1, (s10, (s53, ([], (s52, (s53, (s1, ((((List.length s1) : Nat) : Int), ((0 : Int), ()))))))))))).bind fun v1 =>
      ((F_soft_Mean n (v1.1, v1.2.2.2.1))).bind fun v2 =>
      ((app (1 : Nat) v1.2.2.1 [v2.1])).bind fun v3 =>
      L_soft_Means_14 n k (v1.1, (v1.2.1, (v3, (v1.2.2.2.2.1, ((IntKind.wrap IntKind.i64 (v1.2.2.2.2.2.1 + (1 : Int))), ()))))))
      (some (s10, ())) := (by kernel_rfl)

theorem L_soft_Means_18_eq (n k : Nat) (s0 : List Int) (s1 : List (List Int)) (s10 : List Int) (s11 : Int) (s12 : List Int) (s52 : Int) (s53 : Int) (s56 : List (List Int)) (s57 : Int) (s58 : Int) : L_soft_Means_18 n (k + 1) (s0, s1, s10, s11, s12, s52, s53, s56, s57, s58, ()) =
    brk (decide (s58 < s57))
      (((idx s56 s58)).bind fun v1 =>
      ((idx v1 s11)).bind fun v2 =>
      ((app (1 : Nat) s12 [v2])).bind fun v3 =>
      L_soft_Means_18 n k (s0, (s1, (s10, (s11, (v3, (s52, (s53, (s56, (s57, ((IntKind.wrap IntKind.i64 (s58 + (1 : Int))), ())))))))))))
      (some (s0, (s1, (s10, (s12, (s52, (s53, ()))))))) := (by kernel_rfl)

theorem F_attend_Head_eq (n : Nat) (a0 : List Int) (a1 : List (List Int)) (a2 : List (List Int)) (a3 : Int) : F_attend_Head n (a0, a1, a2, a3) =
    ((F_attend_Scores n (a0, (a1, a3)))).bind fun v1 =>
    brk (v1.2 != (0 : Int))
      (some ([], v1.2))
      (brk ((((List.length a2) : Nat) : Int) != (((List.length a1) : Nat) : Int))
        (some ([], (191 : Int)))
        (((F_attend_fit n (a0, a2))).bind fun v2 =>
        brk (!v2)
          (some ([], (191 : Int)))
          (((F_soft_Weights n v1.1)).bind fun v3 =>
          brk (v3.2 != (0 : Int))
            (some ([], v3.2))
            (((F_soft_Means n (v3.1, a2))).bind fun v4 =>
            some v4)))) := (by kernel_rfl)

theorem F_attend_Look_eq (n : Nat) (a0 : List Int) (a1 : Int) (a2 : List ((List Int) × (List Int))) (a3 : Int) : F_attend_Look n (a0, a1, a2, a3) =
    brk (decide (a1 < (1 : Int)))
      (some ([], (190 : Int)))
      (((rm (((List.length a0) : Nat) : Int) a1)).bind fun v1 =>
      brk (v1 != (0 : Int))
        (some ([], (190 : Int)))
        ((L_attend_Look_5 n n (a0, (a1, (a3, ([], ([], (a2, ((((List.length a2) : Nat) : Int), ((0 : Int), ()))))))))).bind fun v2 =>
        ((F_attend_fit n (v2.1, v2.2.2.2.1))).bind fun v3 =>
        brk (!v3)
          (some ([], (191 : Int)))
          (((F_attend_fit n (v2.1, v2.2.2.2.2.1))).bind fun v4 =>
          brk (!v4)
            (some ([], (191 : Int)))
            (brk (decide (v2.2.2.1 < (0 : Int)))
              (some ([], (20 : Int)))
              (brk (decide (v2.2.2.1 > (31 : Int)))
                (some ([], (20 : Int)))
                (((qt IntKind.i64 (((List.length v2.1) : Nat) : Int) v2.2.1)).bind fun v5 =>
                (L_attend_Look_16 n n (v2.1, (v2.2.2.1, (v2.2.2.2.1, (v2.2.2.2.2.1, ((), ([], (((0 : Int), ()), ((v5, ()), ()))))))))).bind fun v6 =>
                sumk v6
                  (fun v7 =>
                    some (v7.1, v7.2.1))
                  (fun v8 =>
                    some (v8.1, (0 : Int))))))))) := (by kernel_rfl)

theorem L_attend_Look_5_eq (n k : Nat) (s0 : List Int) (s1 : Int) (s3 : Int) (s10 : List (List Int)) (s11 : List (List Int)) (s29 : List ((List Int) × (List Int))) (s30 : Int) (s31 : Int) : L_attend_Look_5 n (k + 1) (s0, s1, s3, s10, s11, s29, s30, s31, ()) =
    brk (decide (s31 < s30))
      (((idx s29 s31)).bind fun v1 =>
      ((app (24 : Nat) s10 [v1.1])).bind fun v2 =>
      ((app (24 : Nat) s11 [v1.2])).bind fun v3 =>
      L_attend_Look_5 n k (s0, (s1, (s3, (v2, (v3, (s29, (s30, ((IntKind.wrap IntKind.i64 (s31 + (1 : Int))), ())))))))))
      (some (s0, (s1, (s3, (s10, (s11, ())))))) := (by kernel_rfl)

theorem L_attend_Look_16_eq (n k : Nat) (s0 : List Int) (s3 : Int) (s10 : List (List Int)) (s11 : List (List Int)) (s15 : List Int) (s16_0 : Int) (o40_0 : Int) : L_attend_Look_16 n (k + 1) (s0, s3, s10, s11, (), s15, (s16_0, ()), (o40_0, ()), ()) =
    brk (decide (s16_0 < (((List.length s0) : Nat) : Int)))
      (((slc s0 s16_0 (IntKind.wrap IntKind.i64 (s16_0 + o40_0)))).bind fun v1 =>
      ((F_attend_Look_1 n (s10, (s16_0, o40_0)))).bind fun v2 =>
      ((F_attend_Look_1 n (s11, (s16_0, o40_0)))).bind fun v3 =>
      ((F_attend_Head n (v1, (v2, (v3, s3))))).bind fun v4 =>
      brk (v4.2 != (0 : Int))
        (some (Sum.inl ([], (v4.2, ()))))
        (((app (1 : Nat) s15 v4.1)).bind fun v5 =>
        L_attend_Look_16 n k (s0, (s3, (s10, (s11, ((), (v5, (((IntKind.wrap IntKind.i64 (s16_0 + o40_0)), ()), ((o40_0, ()), ()))))))))))
      (some (Sum.inr (s15, ()))) := (by kernel_rfl)

theorem F_fixed_Add_eq (n : Nat) (a0 : Int) (a1 : Int) : F_fixed_Add n (a0, a1) =
    brk ((decide (a0 < (0 : Int))) == (decide (a1 < (0 : Int))))
      (brk (!((decide ((IntKind.wrap IntKind.i64 (a0 + a1)) < (0 : Int))) == (decide (a0 < (0 : Int)))))
        (some ((0 : Int), false))
        (some ((IntKind.wrap IntKind.i64 (a0 + a1)), true)))
      (some ((IntKind.wrap IntKind.i64 (a0 + a1)), true)) := (by kernel_rfl)

theorem F_vec_Add_eq (n : Nat) (a0 : List Int) (a1 : List Int) : F_vec_Add n (a0, a1) =
    ((F_vec_fit_int64 n [a0, a1])).bind fun v1 =>
    brk (v1 != (0 : Int))
      (some ([], v1))
      (((mkn (8 : Nat) (((List.length a0) : Nat) : Int))).bind fun v2 =>
      (L_vec_Add_6 n n (a1, ((), (a0, ((((List.length a0) : Nat) : Int), ((0 : Int), ((List.replicate v2 (0 : Int)), ()))))))).bind fun v3 =>
      sumk v3
        (fun v4 =>
          some (v4.1, v4.2.1))
        (fun v5 =>
          some (v5.2.1, (0 : Int)))) := (by kernel_rfl)

theorem L_vec_Add_6_eq (n k : Nat) (s1 : List Int) (s21 : List Int) (s22 : Int) (s23 : Int) (o11 : List Int) : L_vec_Add_6 n (k + 1) (s1, (), s21, s22, s23, o11, ()) =
    brk (decide (s23 < s22))
      (((idx s21 s23)).bind fun v1 =>
      ((idx s1 s23)).bind fun v2 =>
      ((F_fixed_Add n (v1, v2))).bind fun v3 =>
      ((ck s23 (List.length o11))).bind fun v4 =>
      ((o11)[v4]?).bind fun _ =>
      brk (!v3.2)
        (some (Sum.inl ([], ((82 : Int), ()))))
        (L_vec_Add_6 n k (s1, ((), (s21, (s22, ((IntKind.wrap IntKind.i64 (s23 + (1 : Int))), ((List.set o11 v4 v3.1), ()))))))))
      (some (Sum.inr ((), (o11, ())))) := (by kernel_rfl)

theorem F_block_looked_eq (n : Nat) (a0 : (List Int) × (List Int) × (List Int) × (List Int) × (List Int) × (List Int) × Int × Int × Int × Int × Int × (List Int) × (List Int) × (List Int) × Int × Int × Int) (a1 : Int × (List Int) × (List Int) × (List Int)) (a2 : List Int) (a3 : List ((List Int) × (List Int))) : F_block_looked n (a0, a1, a2, a3) =
    ((F_block_angles n (a1, (a2, (IntKind.wrap IntKind.i64 ((((List.length a3) : Nat) : Int) - (1 : Int))))))).bind fun v1 =>
    brk (v1.2.2.2 != (0 : Int))
      (some ([], v1.2.2.2))
      (((F_norm_Row n (a2, a0.1))).bind fun v2 =>
      brk (v2.2 != (0 : Int))
        (some ([], v2.2))
        (((F_block_through n (a0.2.1, (v2.1, a0.2.2.2.2.2.2.1)))).bind fun v3 =>
        brk (v3.2 != (0 : Int))
          (some ([], v3.2))
          (((F_rope_Turn n (v3.1, (v1.1, (v1.2.1, v1.2.2.1))))).bind fun v4 =>
          brk (v4.2 != (0 : Int))
            (some ([], v4.2))
            (((F_attend_Look n (v4.1, (a1.1, (a3, a0.2.2.2.2.2.2.2.2.2.2.1))))).bind fun v5 =>
            brk (v5.2 != (0 : Int))
              (some ([], v5.2))
              (((F_vec_Times n (a0.2.2.2.2.1, ((((List.length a2) : Nat) : Int), v5.1)))).bind fun v6 =>
              brk (v6.2 != (0 : Int))
                (some ([], v6.2))
                (((F_vec_Scale n (v6.1, a0.2.2.2.2.2.2.2.2.2.1))).bind fun v7 =>
                brk (v7.2 != (0 : Int))
                  (some ([], v7.2))
                  (((F_vec_Add n (a2, v7.1))).bind fun v8 =>
                  some v8))))))) := (by kernel_rfl)

theorem F_act_through_eq (n : Nat) (a0 : List Int) (a1 : List Int) (a2 : Int) : F_act_through n (a0, a1, a2) =
    ((F_vec_Times n (a0, ((((List.length a1) : Nat) : Int), a1)))).bind fun v1 =>
    brk (v1.2 != (0 : Int))
      (some ([], v1.2))
      (((F_vec_Shrink n (v1.1, a2))).bind fun v2 =>
      some v2) := (by kernel_rfl)

theorem F_act_narrow_eq (n : Nat) (a0 : Int) (a1 : Int) : F_act_narrow n (a0, a1) =
    ((F_fixed_Round n (a0, a1))).bind fun v1 =>
    ((F_fixed_Narrow n v1.1)).bind fun v2 =>
    some v2 := (by kernel_rfl)

theorem F_act_Gate_eq (n : Nat) (a0 : List Int) (a1 : List Int) (a2 : List Int) : F_act_Gate n (a0, a1, a2) =
    brk ((((List.length a0) : Nat) : Int) != (256 : Int))
      (some ([], (120 : Int)))
      (brk (decide ((((List.length a1) : Nat) : Int) > (1048576 : Int)))
        (some ([], (81 : Int)))
        (brk (decide ((((List.length a2) : Nat) : Int) > (1048576 : Int)))
          (some ([], (81 : Int)))
          (brk ((((List.length a1) : Nat) : Int) != (((List.length a2) : Nat) : Int))
            (some ([], (80 : Int)))
            (((mkn (1 : Nat) (((List.length a1) : Nat) : Int))).bind fun v1 =>
            (L_act_Gate_9 n n (a0, (a2, ((), (a1, ((((List.length a1) : Nat) : Int), ((0 : Int), ((List.replicate v1 (0 : Int)), ())))))))).bind fun v2 =>
            some (v2.2.1, (0 : Int)))))) := (by kernel_rfl)

theorem L_act_Gate_9_eq (n k : Nat) (s0 : List Int) (s2 : List Int) (s33 : List Int) (s34 : Int) (s35 : Int) (o23 : List Int) : L_act_Gate_9 n (k + 1) (s0, s2, (), s33, s34, s35, o23, ()) =
    brk (decide (s35 < s34))
      (((idx s33 s35)).bind fun v1 =>
      ((idx s0 (IntKind.wrap IntKind.u8 v1))).bind fun v2 =>
      ((idx s2 s35)).bind fun v3 =>
      ((F_act_narrow n ((IntKind.wrap IntKind.i64 ((IntKind.wrap IntKind.i64 v2) * (IntKind.wrap IntKind.i64 v3))), (6 : Int)))).bind fun v4 =>
      ((ck s35 (List.length o23))).bind fun v5 =>
      ((o23)[v5]?).bind fun _ =>
      L_act_Gate_9 n k (s0, (s2, ((), (s33, (s34, ((IntKind.wrap IntKind.i64 (s35 + (1 : Int))), ((List.set o23 v5 v4), ()))))))))
      (some ((), (o23, ()))) := (by kernel_rfl)

theorem F_act_Middle_eq (n : Nat) (a0 : (List Int) × (List Int) × (List Int) × Int × Int × Int) (a1 : List Int) (a2 : List Int) : F_act_Middle n (a0, a1, a2) =
    ((F_act_through n (a0.1, (a2, a0.2.2.2.1)))).bind fun v1 =>
    brk (v1.2 != (0 : Int))
      (some ([], v1.2))
      (((F_act_through n (a0.2.1, (a2, a0.2.2.2.2.1)))).bind fun v2 =>
      brk (v2.2 != (0 : Int))
        (some ([], v2.2))
        (((F_act_Gate n (a1, (v1.1, v2.1)))).bind fun v3 =>
        brk (v3.2 != (0 : Int))
          (some ([], v3.2))
          (((F_vec_Times n (a0.2.2.1, ((((List.length v3.1) : Nat) : Int), v3.1)))).bind fun v4 =>
          brk (v4.2 != (0 : Int))
            (some ([], v4.2))
            (((F_vec_Scale n (v4.1, a0.2.2.2.2.2))).bind fun v5 =>
            some v5)))) := (by kernel_rfl)

theorem F_block_Run_eq (n : Nat) (a0 : (List Int) × (List Int) × (List Int) × (List Int) × (List Int) × (List Int) × Int × Int × Int × Int × Int × (List Int) × (List Int) × (List Int) × Int × Int × Int) (a1 : Int × (List Int) × (List Int) × (List Int)) (a2 : List Int) (a3 : List ((List Int) × (List Int))) : F_block_Run n (a0, a1, a2, a3) =
    ((F_block_looked n (a0, (a1, (a2, a3))))).bind fun v1 =>
    brk (v1.2 != (0 : Int))
      (some ([], v1.2))
      (((F_norm_Row n (v1.1, a0.2.2.2.2.2.1))).bind fun v2 =>
      brk (v2.2 != (0 : Int))
        (some ([], v2.2))
        (((F_act_Middle n (a0.2.2.2.2.2.2.2.2.2.2.2, (a1.2.2.2, v2.1)))).bind fun v3 =>
        brk (v3.2 != (0 : Int))
          (some ([], v3.2))
          (((F_vec_Add n (v1.1, v3.1))).bind fun v4 =>
          some v4))) := (by kernel_rfl)

end Go.Am
