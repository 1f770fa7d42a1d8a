import Derived.Test.YtfafklfpikjheaaGreatS1
import Derived.Test.YtfafklfpikjheaaGreatD2
import Derived.KernelRfl
set_option linter.unusedVariables false
set_option linter.unusedSimpArgs false
namespace Go.Am
open Go Go.Proofs

theorem P_vec_dot (n : Nat) : PSound Tryz.prog 96 (E_vec_dot n) := psound_of_body (X := X_vec_dot n) (fn := Tryz.f96) (ps := [Y8, Y8]) (rs := [(.int .i64)]) mixed ⟨ttOK, callsOK_nil, ownsOK_nil⟩ Tryz.func96 (by kernel_rfl) (by kernel_rfl) (by kernel_rfl)
theorem P_vec_Times (n : Nat) : PSound Tryz.prog 54 (E_vec_Times n) := Tryz.times_psound (P_vec_matrix n) (P_vec_dot n)
theorem P_vec_fit_int64 (n : Nat) : PSound Tryz.prog 67 (E_vec_fit_int64 n) := psound_of_body (X := X_vec_fit_int64 n) (fn := Tryz.f67) (ps := [Y38]) (rs := [(.int .i64)]) mixed ⟨ttOK, callsOK_nil, ownsOK_nil⟩ Tryz.func67 (by kernel_rfl) (by kernel_rfl) (by kernel_rfl)
theorem P_vec_Scale (n : Nat) : PSound Tryz.prog 64 (E_vec_Scale n) := psound_of_body (X := X_vec_Scale n) (fn := Tryz.f64) (ps := [Y37, (.int .i64)]) (rs := [Y37, (.int .i64)]) mixed ⟨ttOK, callsOK_cons (P_vec_fit_int64 n) (callsOK_cons (P_fixed_Round n) (callsOK_nil)), ownsOK_nil⟩ Tryz.func64 (by kernel_rfl) (by kernel_rfl) (by kernel_rfl)
theorem P_vec_Shrink (n : Nat) : PSound Tryz.prog 55 (E_vec_Shrink n) := psound_of_body (X := X_vec_Shrink n) (fn := Tryz.f55) (ps := [Y37, (.int .i64)]) (rs := [Y8, (.int .i64)]) mixed ⟨ttOK, callsOK_cons (P_vec_Scale n) (callsOK_cons (P_fixed_Narrow n) (callsOK_nil)), ownsOK_nil⟩ Tryz.func55 (by kernel_rfl) (by kernel_rfl) (by kernel_rfl)
theorem P_block_through (n : Nat) : PSound Tryz.prog 30 (E_block_through n) := psound_of_body (X := X_block_through n) (fn := Tryz.f30) (ps := [Y8, Y8, (.int .i64)]) (rs := [Y8, (.int .i64)]) mixed ⟨ttOK, callsOK_cons (P_vec_Times n) (callsOK_cons (P_vec_Shrink n) (callsOK_nil)), ownsOK_nil⟩ Tryz.func30 (by kernel_rfl) (by kernel_rfl) (by kernel_rfl)
theorem P_rope_Turn_1 (n : Nat) : PSound Tryz.prog 57 (E_rope_Turn_1 n) := psound_of_body (X := X_rope_Turn_1 n) (fn := Tryz.f57) (ps := [(.int .i64), (.int .i64), (.int .i64), (.int .i64)]) (rs := [(.int .i64), (.int .i64)]) mixed ⟨ttOK, callsOK_nil, ownsOK_nil⟩ Tryz.func57 (by kernel_rfl) (by kernel_rfl) (by kernel_rfl)
theorem P_rope_narrow (n : Nat) : PSound Tryz.prog 97 (E_rope_narrow n) := psound_of_body (X := X_rope_narrow n) (fn := Tryz.f97) (ps := [(.int .i64)]) (rs := [(.int .i8)]) mixed ⟨ttOK, callsOK_cons (P_fixed_Round n) (callsOK_cons (P_fixed_Narrow n) (callsOK_nil)), ownsOK_nil⟩ Tryz.func97 (by kernel_rfl) (by kernel_rfl) (by kernel_rfl)
theorem P_rope_pairs_g_rope_Turn_1 (n : Nat) : PSound Tryz.prog 56 (E_rope_pairs_g_rope_Turn_1 n) := psound_of_body (X := X_rope_pairs_g_rope_Turn_1 n) (fn := Tryz.f56) (ps := [Y8, (.int .i64), Y8, Y8, (.fn 57)]) (rs := [Y8, (.int .i64)]) mixed ⟨ttOK, callsOK_cons (P_rope_Turn_1 n) (callsOK_cons (P_rope_narrow n) (callsOK_nil)), ownsOK_nil⟩ Tryz.func56 (by kernel_rfl) (by kernel_rfl) (by kernel_rfl)
theorem P_rope_Turn (n : Nat) : PSound Tryz.prog 31 (E_rope_Turn n) := psound_of_body (X := X_rope_Turn n) (fn := Tryz.f31) (ps := [Y8, (.int .i64), Y8, Y8]) (rs := [Y8, (.int .i64)]) mixed ⟨ttOK, callsOK_cons (P_rope_pairs_g_rope_Turn_1 n) (callsOK_nil), ownsOK_nil⟩ Tryz.func31 (by kernel_rfl) (by kernel_rfl) (by kernel_rfl)
theorem P_block_Keys (n : Nat) : PSound Tryz.prog 12 (E_block_Keys n) := psound_of_body (X := X_block_Keys n) (fn := Tryz.f12) (ps := [Y22, Y36, Y37, (.int .i64)]) (rs := [Y34, (.int .i64)]) mixed ⟨ttOK, callsOK_cons (P_block_angles n) (callsOK_cons (P_norm_Row n) (callsOK_cons (P_block_through n) (callsOK_cons (P_rope_Turn n) (callsOK_nil)))), ownsOK_nil⟩ Tryz.func12 (by kernel_rfl) (by kernel_rfl) (by kernel_rfl)
theorem P_attend_fit (n : Nat) : PSound Tryz.prog 102 (E_attend_fit n) := psound_of_body (X := X_attend_fit n) (fn := Tryz.f102) (ps := [Y8, Y39]) (rs := [.bool]) mixed ⟨ttOK, callsOK_nil, ownsOK_nil⟩ Tryz.func102 (by kernel_rfl) (by kernel_rfl) (by kernel_rfl)
theorem P_attend_Look_1 (n : Nat) : PSound Tryz.prog 103 (E_attend_Look_1 n) := psound_of_body (X := X_attend_Look_1 n) (fn := Tryz.f103) (ps := [Y39, Y40, Y40]) (rs := [Y39]) mixed ⟨ttOK, callsOK_nil, ownsOK_nil⟩ Tryz.func103 (by kernel_rfl) (by kernel_rfl) (by kernel_rfl)
theorem P_vec_fit_int8 (n : Nat) : PSound Tryz.prog 132 (E_vec_fit_int8 n) := psound_of_body (X := X_vec_fit_int8 n) (fn := Tryz.f132) (ps := [Y39]) (rs := [(.int .i64)]) mixed ⟨ttOK, callsOK_nil, ownsOK_nil⟩ Tryz.func132 (by kernel_rfl) (by kernel_rfl) (by kernel_rfl)
theorem P_vec_Dot (n : Nat) : PSound Tryz.prog 127 (E_vec_Dot n) := psound_of_body (X := X_vec_Dot n) (fn := Tryz.f127) (ps := [Y8, Y8]) (rs := [(.int .i64), (.int .i64)]) mixed ⟨ttOK, callsOK_cons (P_vec_fit_int8 n) (callsOK_cons (P_vec_dot n) (callsOK_nil)), ownsOK_nil⟩ Tryz.func127 (by kernel_rfl) (by kernel_rfl) (by kernel_rfl)
theorem P_attend_Scores (n : Nat) : PSound Tryz.prog 118 (E_attend_Scores n) := psound_of_body (X := X_attend_Scores n) (fn := Tryz.f118) (ps := [Y8, Y39, (.int .i64)]) (rs := [Y37, (.int .i64)]) mixed ⟨ttOK, callsOK_cons (P_attend_fit n) (callsOK_cons (P_vec_Dot n) (callsOK_cons (P_fixed_Round n) (callsOK_nil))), ownsOK_nil⟩ Tryz.func118 (by kernel_rfl) (by kernel_rfl) (by kernel_rfl)
end Go.Am

namespace Go.Am
open Go Go.Proofs
set_option maxRecDepth 100000

theorem F_vec_dot_eq (n : Nat) (a0 : List Int) (a1 : List Int) : F_vec_dot n (a0, a1) =
    (L_vec_dot_3 n n (a1, ((0 : Int), (a0, ((((List.length a0) : Nat) : Int), ((0 : Int), ())))))).bind fun v1 =>
    some v1.1 := (by kernel_rfl)

theorem L_vec_dot_3_eq (n k : Nat) (s1 : List Int) (s5 : Int) (s8 : List Int) (s9 : Int) (s10 : Int) : L_vec_dot_3 n (k + 1) (s1, s5, s8, s9, s10, ()) =
    brk (decide (s10 < s9))
      (((idx s8 s10)).bind fun v1 =>
      ((idx s1 s10)).bind fun v2 =>
      L_vec_dot_3 n k (s1, ((IntKind.wrap IntKind.i64 (s5 + (IntKind.wrap IntKind.i64 ((IntKind.wrap IntKind.i64 v1) * (IntKind.wrap IntKind.i64 v2))))), (s8, (s9, ((IntKind.wrap IntKind.i64 (s10 + (1 : Int))), ()))))))
      (some (s5, ())) := (by kernel_rfl)

theorem F_vec_fit_int64_eq (n : Nat) (a0 : List (List Int)) : F_vec_fit_int64 n a0 =
    (L_vec_fit_int64_2 n n (a0, (a0, ((((List.length a0) : Nat) : Int), ((0 : Int), ()))))).bind fun v1 =>
    sumk v1
      (fun v2 =>
        some v2.1)
      (fun v3 =>
        (L_vec_fit_int64_8 n n (v3.1, (v3.1, ((((List.length v3.1) : Nat) : Int), ((0 : Int), ()))))).bind fun v4 =>
        sumk v4
          (fun v5 =>
            some v5.1)
          (fun _ =>
            some (0 : Int))) := (by kernel_rfl)

theorem L_vec_fit_int64_2_eq (n k : Nat) (s0 : List (List Int)) (s7 : List (List Int)) (s8 : Int) (s9 : Int) : L_vec_fit_int64_2 n (k + 1) (s0, s7, s8, s9, ()) =
    brk (decide (s9 < s8))
      (((idx s7 s9)).bind fun v1 =>
      brk (decide ((((List.length v1) : Nat) : Int) > (1048576 : Int)))
        (some (Sum.inl ((81 : Int), ())))
        (L_vec_fit_int64_2 n k (s0, (s7, (s8, ((IntKind.wrap IntKind.i64 (s9 + (1 : Int))), ()))))))
      (some (Sum.inr (s0, ()))) := (by kernel_rfl)

theorem L_vec_fit_int64_8_eq (n k : Nat) (s0 : List (List Int)) (s17 : List (List Int)) (s18 : Int) (s19 : Int) : L_vec_fit_int64_8 n (k + 1) (s0, s17, s18, s19, ()) =
    brk (decide (s19 < s18))
      (((idx s17 s19)).bind fun v1 =>
      ((idx s0 (0 : Int))).bind fun v2 =>
      brk ((((List.length v1) : Nat) : Int) != (((List.length v2) : Nat) : Int))
        (some (Sum.inl ((80 : Int), ())))
        (L_vec_fit_int64_8 n k (s0, (s17, (s18, ((IntKind.wrap IntKind.i64 (s19 + (1 : Int))), ()))))))
      (some (Sum.inr ())) := (by kernel_rfl)

theorem F_vec_Scale_eq (n : Nat) (a0 : List Int) (a1 : Int) : F_vec_Scale n (a0, a1) =
    ((F_vec_fit_int64 n [a0])).bind fun v1 =>
    brk (v1 != (0 : Int))
      (some ([], v1))
      (((F_fixed_Round n ((0 : Int), a1))).bind fun v2 =>
      brk (v2.2 != (0 : Int))
        (some ([], v2.2))
        (((mkn (8 : Nat) (((List.length a0) : Nat) : Int))).bind fun v3 =>
        (L_vec_Scale_9 n n (a1, ((), (a0, ((((List.length a0) : Nat) : Int), ((0 : Int), ((List.replicate v3 (0 : Int)), ()))))))).bind fun v4 =>
        some (v4.2.1, (0 : Int)))) := (by kernel_rfl)

theorem L_vec_Scale_9_eq (n k : Nat) (s1 : Int) (s29 : List Int) (s30 : Int) (s31 : Int) (o19 : List Int) : L_vec_Scale_9 n (k + 1) (s1, (), s29, s30, s31, o19, ()) =
    brk (decide (s31 < s30))
      (((idx s29 s31)).bind fun v1 =>
      ((F_fixed_Round n (v1, s1))).bind fun v2 =>
      ((ck s31 (List.length o19))).bind fun v3 =>
      ((o19)[v3]?).bind fun _ =>
      L_vec_Scale_9 n k (s1, ((), (s29, (s30, ((IntKind.wrap IntKind.i64 (s31 + (1 : Int))), ((List.set o19 v3 v2.1), ())))))))
      (some ((), (o19, ()))) := (by kernel_rfl)

theorem F_vec_Shrink_eq (n : Nat) (a0 : List Int) (a1 : Int) : F_vec_Shrink n (a0, a1) =
    ((F_vec_Scale n (a0, a1))).bind fun v1 =>
    brk (v1.2 != (0 : Int))
      (some ([], v1.2))
      (((mkn (1 : Nat) (((List.length v1.1) : Nat) : Int))).bind fun v2 =>
      (L_vec_Shrink_6 n n ((), (v1.1, ((((List.length v1.1) : Nat) : Int), ((0 : Int), ((List.replicate v2 (0 : Int)), ())))))).bind fun v3 =>
      some (v3.2.1, (0 : Int))) := (by kernel_rfl)

theorem L_vec_Shrink_6_eq (n k : Nat) (s23 : List Int) (s24 : Int) (s25 : Int) (o14 : List Int) : L_vec_Shrink_6 n (k + 1) ((), s23, s24, s25, o14, ()) =
    brk (decide (s25 < s24))
      (((idx s23 s25)).bind fun v1 =>
      ((F_fixed_Narrow n v1)).bind fun v2 =>
      ((ck s25 (List.length o14))).bind fun v3 =>
      ((o14)[v3]?).bind fun _ =>
      L_vec_Shrink_6 n k ((), (s23, (s24, ((IntKind.wrap IntKind.i64 (s25 + (1 : Int))), ((List.set o14 v3 v2), ()))))))
      (some ((), (o14, ()))) := (by kernel_rfl)

theorem F_block_through_eq (n : Nat) (a0 : List Int) (a1 : List Int) (a2 : Int) : F_block_through n (a0, a1, a2) =
    ((F_vec_Times n (a0, ((((List.length a1) : Nat) : Int), a1)))).bind fun v1 =>
    brk (v1.2 != (0 : Int))
      (some ([], v1.2))
      (((F_vec_Shrink n (v1.1, a2))).bind fun v2 =>
      some v2) := (by kernel_rfl)

theorem F_rope_Turn_1_eq (n : Nat) (a0 : Int) (a1 : Int) (a2 : Int) (a3 : Int) : F_rope_Turn_1 n (a0, a1, a2, a3) =
    some ((IntKind.wrap IntKind.i64 ((IntKind.wrap IntKind.i64 (a0 * a2)) - (IntKind.wrap IntKind.i64 (a1 * a3)))), (IntKind.wrap IntKind.i64 ((IntKind.wrap IntKind.i64 (a0 * a3)) + (IntKind.wrap IntKind.i64 (a1 * a2))))) := (by kernel_rfl)

theorem F_rope_narrow_eq (n : Nat) (a0 : Int) : F_rope_narrow n a0 =
    ((F_fixed_Round n (a0, (6 : Int)))).bind fun v1 =>
    ((F_fixed_Narrow n v1.1)).bind fun v2 =>
    some v2 := (by kernel_rfl)

theorem F_rope_pairs_g_rope_Turn_1_eq (n : Nat) (a0 : List Int) (a1 : Int) (a2 : List Int) (a3 : List Int) (a4 : Unit) : F_rope_pairs_g_rope_Turn_1 n (a0, a1, a2, a3, a4) =
    brk (decide (a1 < (2 : Int)))
      (some ([], (100 : Int)))
      (((rm a1 (2 : Int))).bind fun v1 =>
      brk (v1 != (0 : Int))
        (some ([], (100 : Int)))
        (((rm (((List.length a0) : Nat) : Int) a1)).bind fun v2 =>
        brk (v2 != (0 : Int))
          (some ([], (100 : Int)))
          (((qt IntKind.i64 a1 (2 : Int))).bind fun v3 =>
          brk ((((List.length a2) : Nat) : Int) != v3)
            (some ([], (101 : Int)))
            (((qt IntKind.i64 a1 (2 : Int))).bind fun v4 =>
            brk ((((List.length a3) : Nat) : Int) != v4)
              (some ([], (101 : Int)))
              (((mkn (1 : Nat) (((List.length a0) : Nat) : Int))).bind fun v5 =>
              (L_rope_pairs_g_rope_Turn_1_7 n n (a0, (a1, (a2, (a3, ((), ((), ((0 : Int), ((List.replicate v5 (0 : Int)), ()))))))))).bind fun v6 =>
              some (v6.2.1, (0 : Int))))))) := (by kernel_rfl)

theorem L_rope_pairs_g_rope_Turn_1_7_eq (n k : Nat) (s0 : List Int) (s1 : Int) (s2 : List Int) (s3 : List Int) (s13 : Int) (o30 : List Int) : L_rope_pairs_g_rope_Turn_1_7 n (k + 1) (s0, s1, s2, s3, (), (), s13, o30, ()) =
    brk (decide (s13 < (((List.length s0) : Nat) : Int)))
      (((rm s13 s1)).bind fun v1 =>
      ((qt IntKind.i64 v1 (2 : Int))).bind fun v2 =>
      ((idx s0 s13)).bind fun v3 =>
      ((idx s0 (IntKind.wrap IntKind.i64 (s13 + (1 : Int))))).bind fun v4 =>
      ((idx s2 v2)).bind fun v5 =>
      ((idx s3 v2)).bind fun v6 =>
      ((F_rope_Turn_1 n ((IntKind.wrap IntKind.i64 v3), ((IntKind.wrap IntKind.i64 v4), ((IntKind.wrap IntKind.i64 v5), (IntKind.wrap IntKind.i64 v6)))))).bind fun v7 =>
      ((F_rope_narrow n v7.1)).bind fun v8 =>
      ((F_rope_narrow n v7.2)).bind fun v9 =>
      ((ck s13 (List.length o30))).bind fun v10 =>
      ((o30)[v10]?).bind fun _ =>
      ((ck (IntKind.wrap IntKind.i64 (s13 + (1 : Int))) (List.length (List.set o30 v10 v8)))).bind fun v12 =>
      (((List.set o30 v10 v8))[v12]?).bind fun _ =>
      L_rope_pairs_g_rope_Turn_1_7 n k (s0, (s1, (s2, (s3, ((), ((), ((IntKind.wrap IntKind.i64 (s13 + (2 : Int))), ((List.set (List.set o30 v10 v8) v12 v9), ())))))))))
      (some ((), (o30, ()))) := (by kernel_rfl)

theorem F_rope_Turn_eq (n : Nat) (a0 : List Int) (a1 : Int) (a2 : List Int) (a3 : List Int) : F_rope_Turn n (a0, a1, a2, a3) =
    ((F_rope_pairs_g_rope_Turn_1 n (a0, (a1, (a2, (a3, ())))))).bind fun v1 =>
    some v1 := (by kernel_rfl)

theorem F_block_Keys_eq (n : Nat) (a0 : (List Int) × (List Int) × (List Int) × (List Int) × (List Int) × (List Int) × Int × Int × Int × Int × Int × (List Int) × (List Int) × (List Int) × Int × Int × Int) (a1 : Int × (List Int) × (List Int) × (List Int)) (a2 : List Int) (a3 : Int) : F_block_Keys n (a0, a1, a2, a3) =
    ((F_block_angles n (a1, (a2, a3)))).bind fun v1 =>
    brk (v1.2.2.2 != (0 : Int))
      (some (([], []), v1.2.2.2))
      (((F_norm_Row n (a2, a0.1))).bind fun v2 =>
      brk (v2.2 != (0 : Int))
        (some (([], []), v2.2))
        (((F_block_through n (a0.2.2.1, (v2.1, a0.2.2.2.2.2.2.2.1)))).bind fun v3 =>
        brk (v3.2 != (0 : Int))
          (some (([], []), v3.2))
          (((F_rope_Turn n (v3.1, (v1.1, (v1.2.1, v1.2.2.1))))).bind fun v4 =>
          brk (v4.2 != (0 : Int))
            (some (([], []), v4.2))
            (((F_block_through n (a0.2.2.2.1, (v2.1, a0.2.2.2.2.2.2.2.2.1)))).bind fun v5 =>
            brk (v5.2 != (0 : Int))
              (some (([], []), v5.2))
              (some ((v4.1, v5.1), (0 : Int))))))) := (by kernel_rfl)

theorem F_attend_fit_eq (n : Nat) (a0 : List Int) (a1 : List (List Int)) : F_attend_fit n (a0, a1) =
    brk ((((List.length a1) : Nat) : Int) == (0 : Int))
      (some false)
      (brk (decide ((((List.length a1) : Nat) : Int) > (512 : Int)))
        (some false)
        (brk ((((List.length a0) : Nat) : Int) == (0 : Int))
          (some false)
          (brk (decide ((((List.length a0) : Nat) : Int) > (64 : Int)))
            (some false)
            ((L_attend_fit_4 n n (a0, (a1, ((((List.length a1) : Nat) : Int), ((0 : Int), ()))))).bind fun v1 =>
            sumk v1
              (fun v2 =>
                some v2.1)
              (fun _ =>
                some true))))) := (by kernel_rfl)

theorem L_attend_fit_4_eq (n k : Nat) (s0 : List Int) (s25 : List (List Int)) (s26 : Int) (s27 : Int) : L_attend_fit_4 n (k + 1) (s0, s25, s26, s27, ()) =
    brk (decide (s27 < s26))
      (((idx s25 s27)).bind fun v1 =>
      brk ((((List.length v1) : Nat) : Int) != (((List.length s0) : Nat) : Int))
        (some (Sum.inl (false, ())))
        (L_attend_fit_4 n k (s0, (s25, (s26, ((IntKind.wrap IntKind.i64 (s27 + (1 : Int))), ()))))))
      (some (Sum.inr ())) := (by kernel_rfl)

theorem F_attend_Look_1_eq (n : Nat) (a0 : List (List Int)) (a1 : Int) (a2 : Int) : F_attend_Look_1 n (a0, a1, a2) =
    (L_attend_Look_1_3 n n (a1, (a2, ([], (a0, ((((List.length a0) : Nat) : Int), ((0 : Int), ()))))))).bind fun v1 =>
    some v1.1 := (by kernel_rfl)

theorem L_attend_Look_1_3_eq (n k : Nat) (s1 : Int) (s2 : Int) (s5 : List (List Int)) (s8 : List (List Int)) (s9 : Int) (s10 : Int) : L_attend_Look_1_3 n (k + 1) (s1, s2, s5, s8, s9, s10, ()) =
    brk (decide (s10 < s9))
      (((idx s8 s10)).bind fun v1 =>
      ((slc v1 s1 (IntKind.wrap IntKind.i64 (s1 + s2)))).bind fun v2 =>
      ((app (24 : Nat) s5 [v2])).bind fun v3 =>
      L_attend_Look_1_3 n k (s1, (s2, (v3, (s8, (s9, ((IntKind.wrap IntKind.i64 (s10 + (1 : Int))), ())))))))
      (some (s5, ())) := (by kernel_rfl)

theorem F_vec_fit_int8_eq (n : Nat) (a0 : List (List Int)) : F_vec_fit_int8 n a0 =
    (L_vec_fit_int8_2 n n (a0, (a0, ((((List.length a0) : Nat) : Int), ((0 : Int), ()))))).bind fun v1 =>
    sumk v1
      (fun v2 =>
        some v2.1)
      (fun v3 =>
        (L_vec_fit_int8_8 n n (v3.1, (v3.1, ((((List.length v3.1) : Nat) : Int), ((0 : Int), ()))))).bind fun v4 =>
        sumk v4
          (fun v5 =>
            some v5.1)
          (fun _ =>
            some (0 : Int))) := (by kernel_rfl)

theorem L_vec_fit_int8_2_eq (n k : Nat) (s0 : List (List Int)) (s7 : List (List Int)) (s8 : Int) (s9 : Int) : L_vec_fit_int8_2 n (k + 1) (s0, s7, s8, s9, ()) =
    brk (decide (s9 < s8))
      (((idx s7 s9)).bind fun v1 =>
      brk (decide ((((List.length v1) : Nat) : Int) > (1048576 : Int)))
        (some (Sum.inl ((81 : Int), ())))
        (L_vec_fit_int8_2 n k (s0, (s7, (s8, ((IntKind.wrap IntKind.i64 (s9 + (1 : Int))), ()))))))
      (some (Sum.inr (s0, ()))) := (by kernel_rfl)

theorem L_vec_fit_int8_8_eq (n k : Nat) (s0 : List (List Int)) (s17 : List (List Int)) (s18 : Int) (s19 : Int) : L_vec_fit_int8_8 n (k + 1) (s0, s17, s18, s19, ()) =
    brk (decide (s19 < s18))
      (((idx s17 s19)).bind fun v1 =>
      ((idx s0 (0 : Int))).bind fun v2 =>
      brk ((((List.length v1) : Nat) : Int) != (((List.length v2) : Nat) : Int))
        (some (Sum.inl ((80 : Int), ())))
        (L_vec_fit_int8_8 n k (s0, (s17, (s18, ((IntKind.wrap IntKind.i64 (s19 + (1 : Int))), ()))))))
      (some (Sum.inr ())) := (by kernel_rfl)

theorem F_vec_Dot_eq (n : Nat) (a0 : List Int) (a1 : List Int) : F_vec_Dot n (a0, a1) =
    ((F_vec_fit_int8 n [a0, a1])).bind fun v1 =>
    brk (v1 != (0 : Int))
      (some ((0 : Int), v1))
      (((F_vec_dot n (a0, a1))).bind fun v2 =>
      some (v2, (0 : Int))) := (by kernel_rfl)

theorem F_attend_Scores_eq (n : Nat) (a0 : List Int) (a1 : List (List Int)) (a2 : Int) : F_attend_Scores n (a0, a1, a2) =
    ((F_attend_fit n (a0, a1))).bind fun v1 =>
    brk (!v1)
      (some ([], (191 : Int)))
      (brk (decide (a2 < (0 : Int)))
        (some ([], (20 : Int)))
        (brk (decide (a2 > (31 : Int)))
          (some ([], (20 : Int)))
          ((L_attend_Scores_7 n n (a0, (a2, ([], (a1, ((((List.length a1) : Nat) : Int), ((0 : Int), ()))))))).bind fun v2 =>
          some (v2.1, (0 : Int))))) := (by kernel_rfl)

theorem L_attend_Scores_7_eq (n k : Nat) (s0 : List Int) (s2 : Int) (s8 : List Int) (s25 : List (List Int)) (s26 : Int) (s27 : Int) : L_attend_Scores_7 n (k + 1) (s0, s2, s8, s25, s26, s27, ()) =
    brk (decide (s27 < s26))
      (((idx s25 s27)).bind fun v1 =>
      ((F_vec_Dot n (s0, v1))).bind fun v2 =>
      ((F_fixed_Round n (v2.1, s2))).bind fun v3 =>
      ((app (8 : Nat) s8 [v3.1])).bind fun v4 =>
      L_attend_Scores_7 n k (s0, (s2, (v4, (s25, (s26, ((IntKind.wrap IntKind.i64 (s27 + (1 : Int))), ())))))))
      (some (s8, ())) := (by kernel_rfl)

end Go.Am
