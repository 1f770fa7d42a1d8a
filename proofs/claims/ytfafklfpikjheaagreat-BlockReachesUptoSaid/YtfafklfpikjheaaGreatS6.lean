import Derived.Test.YtfafklfpikjheaaGreatS5
import Derived.Test.YtfafklfpikjheaaGreatD6
import Derived.KernelRfl
set_option linter.unusedVariables false
set_option linter.unusedSimpArgs false
namespace Go.Am
open Go Go.Proofs

theorem P_ref12_Run (n : Nat) : PSound Tryz.prog 43 (E_ref12_Run n) := psound_of_body (X := X_ref12_Run n) (fn := Tryz.f43) (ps := [Y11, Y8, Y8]) (rs := [Y37, (.int .i64)]) mixed ⟨ttOK, callsOK_cons (P_ref12_shrunk n) (callsOK_cons (P_ref12_Gate n) (callsOK_cons (P_ref08_Times n) (callsOK_cons (P_ref08_Scale n) (callsOK_nil)))), ownsOK_nil⟩ Tryz.func43 (by kernel_rfl) (by kernel_rfl) (by kernel_rfl)
theorem P_ref20_Run (n : Nat) : PSound Tryz.prog 16 (E_ref20_Run n) := psound_of_body (X := X_ref20_Run n) (fn := Tryz.f16) (ps := [Y22, Y36, Y37, Y41]) (rs := [Y37, (.int .i64)]) mixed ⟨ttOK, callsOK_cons (P_ref20_angles n) (callsOK_cons (P_ref09_Row n) (callsOK_cons (P_ref20_turned n) (callsOK_cons (P_ref19_Look n) (callsOK_cons (P_ref08_Times n) (callsOK_cons (P_ref08_Scale n) (callsOK_cons (P_ref08_Add n) (callsOK_cons (P_ref12_Run n) (callsOK_nil)))))))), ownsOK_nil⟩ Tryz.func16 (by kernel_rfl) (by kernel_rfl) (by kernel_rfl)
theorem P_ref20_Pass (n : Nat) : PSound Tryz.prog 20 (E_ref20_Pass n) := psound_of_body (X := X_ref20_Pass n) (fn := Tryz.f20) (ps := [Y22, Y36, Y38, Y41]) (rs := [Y38, Y41, (.int .i64)]) mixed ⟨ttOK, callsOK_cons (P_ref20_Keys n) (callsOK_cons (P_ref20_Run n) (callsOK_nil)), ownsOK_nil⟩ Tryz.func20 (by kernel_rfl) (by kernel_rfl) (by kernel_rfl)
theorem P_law20_row_int64 (n : Nat) : PSound Tryz.prog 17 (E_law20_row_int64 n) := psound_of_body (X := X_law20_row_int64 n) (fn := Tryz.f17) (ps := [Y37, Y37]) (rs := [.bool]) mixed ⟨ttOK, callsOK_nil, ownsOK_nil⟩ Tryz.func17 (by kernel_rfl) (by kernel_rfl) (by kernel_rfl)
theorem P_law20_row_int8 (n : Nat) : PSound Tryz.prog 23 (E_law20_row_int8 n) := psound_of_body (X := X_law20_row_int8 n) (fn := Tryz.f23) (ps := [Y8, Y8]) (rs := [.bool]) mixed ⟨ttOK, callsOK_nil, ownsOK_nil⟩ Tryz.func23 (by kernel_rfl) (by kernel_rfl) (by kernel_rfl)
theorem P_law20_pair (n : Nat) : PSound Tryz.prog 14 (E_law20_pair n) := psound_of_body (X := X_law20_pair n) (fn := Tryz.f14) (ps := [Y34, Y34]) (rs := [.bool]) mixed ⟨ttOK, callsOK_cons (P_law20_row_int8 n) (callsOK_nil), ownsOK_nil⟩ Tryz.func14 (by kernel_rfl) (by kernel_rfl) (by kernel_rfl)
theorem P_law20_same (n : Nat) : PSound Tryz.prog 22 (E_law20_same n) := psound_of_body (X := X_law20_same n) (fn := Tryz.f22) (ps := [Y41, Y41]) (rs := [.bool]) mixed ⟨ttOK, callsOK_cons (P_law20_pair n) (callsOK_nil), ownsOK_nil⟩ Tryz.func22 (by kernel_rfl) (by kernel_rfl) (by kernel_rfl)
theorem P_law20_awake (n : Nat) : PSound Tryz.prog 8 (E_law20_awake n) := psound_of_body (X := X_law20_awake n) (fn := Tryz.f8) (ps := []) (rs := [.bool]) mixed ⟨ttOK, callsOK_cons (P_law20_small n) (callsOK_cons (P_block_Pass n) (callsOK_cons (P_law20_plain n) (callsOK_cons (P_law20_frame n) (callsOK_cons (P_ref20_Pass n) (callsOK_cons (P_law20_row_int64 n) (callsOK_cons (P_law20_same n) (callsOK_nil))))))), ownsOK_nil⟩ Tryz.func8 (by kernel_rfl) (by kernel_rfl) (by kernel_rfl)
theorem P_law20_past (n : Nat) : PSound Tryz.prog 11 (E_law20_past n) := psound_of_body (X := X_law20_past n) (fn := Tryz.f11) (ps := [Y41]) (rs := [Y41]) mixed ⟨ttOK, callsOK_nil, ownsOK_nil⟩ Tryz.func11 (by kernel_rfl) (by kernel_rfl) (by kernel_rfl)
theorem P_ref13_Same (n : Nat) : PSound Tryz.prog 76 (E_ref13_Same n) := psound_of_body (X := X_ref13_Same n) (fn := Tryz.f76) (ps := [Y7, Y7]) (rs := [.bool]) mixed ⟨ttOK, callsOK_nil, ownsOK_nil⟩ Tryz.func76 (by kernel_rfl) (by kernel_rfl) (by kernel_rfl)
theorem P_ref16_rows (n : Nat) : PSound Tryz.prog 78 (E_ref16_rows n) := psound_of_body (X := X_ref16_rows n) (fn := Tryz.f78) (ps := [Y8, Y8]) (rs := [.bool]) mixed ⟨ttOK, callsOK_nil, ownsOK_nil⟩ Tryz.func78 (by kernel_rfl) (by kernel_rfl) (by kernel_rfl)
theorem P_ref16_blocks (n : Nat) : PSound Tryz.prog 77 (E_ref16_blocks n) := psound_of_body (X := X_ref16_blocks n) (fn := Tryz.f77) (ps := [Y22, Y22]) (rs := [.bool]) mixed ⟨ttOK, callsOK_cons (P_ref16_rows n) (callsOK_nil), ownsOK_nil⟩ Tryz.func77 (by kernel_rfl) (by kernel_rfl) (by kernel_rfl)
theorem P_ref16_Same (n : Nat) : PSound Tryz.prog 44 (E_ref16_Same n) := psound_of_body (X := X_ref16_Same n) (fn := Tryz.f44) (ps := [Y33, Y33]) (rs := [.bool]) mixed ⟨ttOK, callsOK_cons (P_ref13_Same n) (callsOK_cons (P_ref16_blocks n) (callsOK_cons (P_ref16_rows n) (callsOK_nil))), ownsOK_nil⟩ Tryz.func44 (by kernel_rfl) (by kernel_rfl) (by kernel_rfl)
theorem P_law20_Given_stays (n : Nat) : PSound Tryz.prog 18 (E_law20_Given_stays n) := psound_of_body (X := X_law20_Given_stays n) (fn := Tryz.f18) (ps := [Y43, Y22, Y36, Y41]) (rs := [.bool]) mixed ⟨ttOK, callsOK_cons (P_law20_plain n) (callsOK_cons (P_ref16_Same n) (callsOK_cons (P_law20_row_int8 n) (callsOK_cons (P_law20_same n) (callsOK_nil)))), ownsOK_nil⟩ Tryz.func18 (by kernel_rfl) (by kernel_rfl) (by kernel_rfl)
theorem P_law20_BlockRuns (n : Nat) : PSound Tryz.prog 3 (E_law20_BlockRuns n) := psound_of_body (X := X_law20_BlockRuns n) (fn := Tryz.f3) (ps := [Y43, Y37, (.int .i64)]) (rs := [.bool]) mixed ⟨ttOK, callsOK_cons (P_law20_awake n) (callsOK_cons (P_law20_plain n) (callsOK_cons (P_law20_frame n) (callsOK_cons (P_law20_past n) (callsOK_cons (P_block_Keys n) (callsOK_cons (P_ref20_Keys n) (callsOK_cons (P_law20_pair n) (callsOK_cons (P_block_Run n) (callsOK_cons (P_ref20_Run n) (callsOK_cons (P_law20_row_int64 n) (callsOK_cons (P_law20_Given_stays n) (callsOK_nil))))))))))), ownsOK_nil⟩ Tryz.func3 (by kernel_rfl) (by kernel_rfl) (by kernel_rfl)
theorem P_law20_rows (n : Nat) : PSound Tryz.prog 21 (E_law20_rows n) := psound_of_body (X := X_law20_rows n) (fn := Tryz.f21) (ps := [Y38, Y38]) (rs := [.bool]) mixed ⟨ttOK, callsOK_cons (P_law20_row_int64 n) (callsOK_nil), ownsOK_nil⟩ Tryz.func21 (by kernel_rfl) (by kernel_rfl) (by kernel_rfl)
end Go.Am

namespace Go.Am
open Go Go.Proofs
set_option maxRecDepth 100000

theorem F_ref12_Run_eq (n : Nat) (a0 : (List Int) × (List Int) × (List Int) × Int × Int × Int) (a1 : List Int) (a2 : List Int) : F_ref12_Run n (a0, a1, a2) =
    ((F_ref12_shrunk n (a0.1, (a2, a0.2.2.2.1)))).bind fun v1 =>
    brk (v1.2 != (0 : Int))
      (some ([], v1.2))
      (((F_ref12_shrunk n (a0.2.1, (a2, a0.2.2.2.2.1)))).bind fun v2 =>
      brk (v2.2 != (0 : Int))
        (some ([], v2.2))
        (((F_ref12_Gate n (a1, (v1.1, v2.1)))).bind fun v3 =>
        brk (v3.2 != (0 : Int))
          (some ([], v3.2))
          (((F_ref08_Times n (a0.2.2.1, ((((List.length v3.1) : Nat) : Int), v3.1)))).bind fun v4 =>
          brk (v4.2 != (0 : Int))
            (some ([], v4.2))
            (((F_ref08_Scale n (v4.1, a0.2.2.2.2.2))).bind fun v5 =>
            some v5)))) := (by kernel_rfl)

theorem F_ref20_Run_eq (n : Nat) (a0 : (List Int) × (List Int) × (List Int) × (List Int) × (List Int) × (List Int) × Int × Int × Int × Int × Int × (List Int) × (List Int) × (List Int) × Int × Int × Int) (a1 : Int × (List Int) × (List Int) × (List Int)) (a2 : List Int) (a3 : List ((List Int) × (List Int))) : F_ref20_Run n (a0, a1, a2, a3) =
    ((F_ref20_angles n (a1, ((((List.length a2) : Nat) : Int), (IntKind.wrap IntKind.i64 ((((List.length a3) : Nat) : Int) - (1 : Int))))))).bind fun v1 =>
    brk (v1.2.2.2 != (0 : Int))
      (some ([], v1.2.2.2))
      (((F_ref09_Row n (a2, a0.1))).bind fun v2 =>
      brk (v2.2 != (0 : Int))
        (some ([], v2.2))
        (((F_ref20_turned n (a0.2.1, (v2.1, (a0.2.2.2.2.2.2.1, (v1.1, (v1.2.1, v1.2.2.1))))))).bind fun v3 =>
        brk (v3.2 != (0 : Int))
          (some ([], v3.2))
          (((F_ref19_Look n (v3.1, (a1.1, (a3, a0.2.2.2.2.2.2.2.2.2.2.1))))).bind fun v4 =>
          brk (v4.2 != (0 : Int))
            (some ([], v4.2))
            (((F_ref08_Times n (a0.2.2.2.2.1, ((((List.length a2) : Nat) : Int), v4.1)))).bind fun v5 =>
            brk (v5.2 != (0 : Int))
              (some ([], v5.2))
              (((F_ref08_Scale n (v5.1, a0.2.2.2.2.2.2.2.2.2.1))).bind fun v6 =>
              brk (v6.2 != (0 : Int))
                (some ([], v6.2))
                (((F_ref08_Add n (a2, v6.1))).bind fun v7 =>
                brk (v7.2 != (0 : Int))
                  (some ([], v7.2))
                  (((F_ref09_Row n (v7.1, a0.2.2.2.2.2.1))).bind fun v8 =>
                  brk (v8.2 != (0 : Int))
                    (some ([], v8.2))
                    (((F_ref12_Run n (a0.2.2.2.2.2.2.2.2.2.2.2, (a1.2.2.2, v8.1)))).bind fun v9 =>
                    brk (v9.2 != (0 : Int))
                      (some ([], v9.2))
                      (((F_ref08_Add n (v7.1, v9.1))).bind fun v10 =>
                      some v10))))))))) := (by kernel_rfl)

theorem F_ref20_Pass_eq (n : Nat) (a0 : (List Int) × (List Int) × (List Int) × (List Int) × (List Int) × (List Int) × Int × Int × Int × Int × Int × (List Int) × (List Int) × (List Int) × Int × Int × Int) (a1 : Int × (List Int) × (List Int) × (List Int)) (a2 : List (List Int)) (a3 : List ((List Int) × (List Int))) : F_ref20_Pass n (a0, a1, a2, a3) =
    ((app (48 : Nat) [] a3)).bind fun v1 =>
    (L_ref20_Pass_4 n n (a3, ((), ((), (v1, ([], (a2, ((((List.length a2) : Nat) : Int), ((0 : Int), ((a0.1, (a0.2.1, (a0.2.2.1, (a0.2.2.2.1, (a0.2.2.2.2.1, (a0.2.2.2.2.2.1, (a0.2.2.2.2.2.2.1, (a0.2.2.2.2.2.2.2.1, (a0.2.2.2.2.2.2.2.2.1, (a0.2.2.2.2.2.2.2.2.2.1, (a0.2.2.2.2.2.2.2.2.2.2.1, (a0.2.2.2.2.2.2.2.2.2.2.2.1, (a0.2.2.2.2.2.2.2.2.2.2.2.2.1, (a0.2.2.2.2.2.2.2.2.2.2.2.2.2.1, (a0.2.2.2.2.2.2.2.2.2.2.2.2.2.2.1, (a0.2.2.2.2.2.2.2.2.2.2.2.2.2.2.2.1, (a0.2.2.2.2.2.2.2.2.2.2.2.2.2.2.2.2, ()))))))))))))))))), ((a1.1, (a1.2.1, (a1.2.2.1, (a1.2.2.2, ())))), ()))))))))))).bind fun v2 =>
    sumk v2
      (fun v3 =>
        some (v3.1, (v3.2.1, v3.2.2.1)))
      (fun v4 =>
        ((slc v4.2.1 (((List.length v4.1) : Nat) : Int) (((List.length v4.2.1) : Nat) : Int))).bind fun v5 =>
        some (v4.2.2.1, (v5, (0 : Int)))) := (by kernel_rfl)

theorem L_ref20_Pass_4_eq (n k : Nat) (s3 : List ((List Int) × (List Int))) (s11 : List ((List Int) × (List Int))) (s12 : List (List Int)) (s22 : List (List Int)) (s23 : Int) (s24 : Int) (o0_0 : List Int) (o0_1 : List Int) (o0_2 : List Int) (o0_3 : List Int) (o0_4 : List Int) (o0_5 : List Int) (o0_6 : Int) (o0_7 : Int) (o0_8 : Int) (o0_9 : Int) (o0_10 : Int) (o0_11 : List Int) (o0_12 : List Int) (o0_13 : List Int) (o0_14 : Int) (o0_15 : Int) (o0_16 : Int) (o1_0 : Int) (o1_1 : List Int) (o1_2 : List Int) (o1_3 : List Int) : L_ref20_Pass_4 n (k + 1) (s3, (), (), s11, s12, s22, s23, s24, (o0_0, o0_1, o0_2, o0_3, o0_4, o0_5, o0_6, o0_7, o0_8, o0_9, o0_10, o0_11, o0_12, o0_13, o0_14, o0_15, o0_16, ()), (o1_0, o1_1, o1_2, o1_3, ()), ()) =
    brk (decide (s24 < s23))
      (((idx s22 s24)).bind fun v1 =>
      ((F_ref20_Keys n ((o0_0, (o0_1, (o0_2, (o0_3, (o0_4, (o0_5, (o0_6, (o0_7, (o0_8, (o0_9, (o0_10, (o0_11, (o0_12, (o0_13, (o0_14, (o0_15, o0_16)))))))))))))))), ((o1_0, (o1_1, (o1_2, o1_3))), (v1, (((List.length s11) : Nat) : Int)))))).bind fun v2 =>
      brk (v2.2 != (0 : Int))
        (some (Sum.inl ([], ([], (v2.2, ())))))
        (((app (48 : Nat) s11 [v2.1])).bind fun v3 =>
        ((F_ref20_Run n ((o0_0, (o0_1, (o0_2, (o0_3, (o0_4, (o0_5, (o0_6, (o0_7, (o0_8, (o0_9, (o0_10, (o0_11, (o0_12, (o0_13, (o0_14, (o0_15, o0_16)))))))))))))))), ((o1_0, (o1_1, (o1_2, o1_3))), (v1, v3))))).bind fun v4 =>
        brk (v4.2 != (0 : Int))
          (some (Sum.inl ([], ([], (v4.2, ())))))
          (((app (24 : Nat) s12 [v4.1])).bind fun v5 =>
          L_ref20_Pass_4 n k (s3, ((), ((), (v3, (v5, (s22, (s23, ((IntKind.wrap IntKind.i64 (s24 + (1 : Int))), ((o0_0, (o0_1, (o0_2, (o0_3, (o0_4, (o0_5, (o0_6, (o0_7, (o0_8, (o0_9, (o0_10, (o0_11, (o0_12, (o0_13, (o0_14, (o0_15, (o0_16, ()))))))))))))))))), ((o1_0, (o1_1, (o1_2, (o1_3, ())))), ())))))))))))))
      (some (Sum.inr (s3, (s11, (s12, ()))))) := (by kernel_rfl)

theorem F_law20_row_int64_eq (n : Nat) (a0 : List Int) (a1 : List Int) : F_law20_row_int64 n (a0, a1) =
    brk ((((List.length a0) : Nat) : Int) != (((List.length a1) : Nat) : Int))
      (some false)
      ((L_law20_row_int64_4 n n (a0, (a1, ((((List.length a0) : Nat) : Int), ((0 : Int), ()))))).bind fun v1 =>
      sumk v1
        (fun v2 =>
          some v2.1)
        (fun _ =>
          some true)) := (by kernel_rfl)

theorem L_law20_row_int64_4_eq (n k : Nat) (s0 : List Int) (s1 : List Int) (s12 : Int) (s13 : Int) : L_law20_row_int64_4 n (k + 1) (s0, s1, s12, s13, ()) =
    brk (decide (s13 < s12))
      (((idx s0 s13)).bind fun v1 =>
      ((idx s1 s13)).bind fun v2 =>
      brk (v1 != v2)
        (some (Sum.inl (false, ())))
        (L_law20_row_int64_4 n k (s0, (s1, (s12, ((IntKind.wrap IntKind.i64 (s13 + (1 : Int))), ()))))))
      (some (Sum.inr ())) := (by kernel_rfl)

theorem F_law20_row_int8_eq (n : Nat) (a0 : List Int) (a1 : List Int) : F_law20_row_int8 n (a0, a1) =
    brk ((((List.length a0) : Nat) : Int) != (((List.length a1) : Nat) : Int))
      (some false)
      ((L_law20_row_int8_4 n n (a0, (a1, ((((List.length a0) : Nat) : Int), ((0 : Int), ()))))).bind fun v1 =>
      sumk v1
        (fun v2 =>
          some v2.1)
        (fun _ =>
          some true)) := (by kernel_rfl)

theorem L_law20_row_int8_4_eq (n k : Nat) (s0 : List Int) (s1 : List Int) (s12 : Int) (s13 : Int) : L_law20_row_int8_4 n (k + 1) (s0, s1, s12, s13, ()) =
    brk (decide (s13 < s12))
      (((idx s0 s13)).bind fun v1 =>
      ((idx s1 s13)).bind fun v2 =>
      brk (v1 != v2)
        (some (Sum.inl (false, ())))
        (L_law20_row_int8_4 n k (s0, (s1, (s12, ((IntKind.wrap IntKind.i64 (s13 + (1 : Int))), ()))))))
      (some (Sum.inr ())) := (by kernel_rfl)

theorem F_law20_pair_eq (n : Nat) (a0 : (List Int) × (List Int)) (a1 : (List Int) × (List Int)) : F_law20_pair n (a0, a1) =
    ((F_law20_row_int8 n (a0.1, a1.1))).bind fun v1 =>
    brk v1
      (((F_law20_row_int8 n (a0.2, a1.2))).bind fun v2 =>
      some v2)
      (some false) := (by kernel_rfl)

theorem F_law20_same_eq (n : Nat) (a0 : List ((List Int) × (List Int))) (a1 : List ((List Int) × (List Int))) : F_law20_same n (a0, a1) =
    brk ((((List.length a0) : Nat) : Int) != (((List.length a1) : Nat) : Int))
      (some false)
      ((L_law20_same_4 n n (a0, (a1, ((((List.length a0) : Nat) : Int), ((0 : Int), ()))))).bind fun v1 =>
      sumk v1
        (fun v2 =>
          some v2.1)
        (fun _ =>
          some true)) := (by kernel_rfl)

theorem L_law20_same_4_eq (n k : Nat) (s0 : List ((List Int) × (List Int))) (s1 : List ((List Int) × (List Int))) (s12 : Int) (s13 : Int) : L_law20_same_4 n (k + 1) (s0, s1, s12, s13, ()) =
    brk (decide (s13 < s12))
      (((idx s0 s13)).bind fun v1 =>
      ((idx s1 s13)).bind fun v2 =>
      ((F_law20_pair n (v1, v2))).bind fun v3 =>
      brk (!v3)
        (some (Sum.inl (false, ())))
        (L_law20_same_4 n k (s0, (s1, (s12, ((IntKind.wrap IntKind.i64 (s13 + (1 : Int))), ()))))))
      (some (Sum.inr ())) := (by kernel_rfl)

theorem F_law20_awake_eq (n : Nat) : F_law20_awake n () =
    ((F_law20_small n ())).bind fun v1 =>
    ((F_block_Pass n (v1.1, (v1.2, ([[(80 : Int), (-(40 : Int))]], []))))).bind fun v2 =>
    ((F_law20_plain n v1.1)).bind fun v3 =>
    ((F_law20_frame n v1.2)).bind fun v4 =>
    ((F_ref20_Pass n (v3, (v4, ([[(80 : Int), (-(40 : Int))]], []))))).bind fun v5 =>
    brk (v2.2.2 == (0 : Int))
      (brk ((((List.length v2.1) : Nat) : Int) == (1 : Int))
        (((idx v2.1 (0 : Int))).bind fun v6 =>
        ((idx v5.1 (0 : Int))).bind fun v7 =>
        ((F_law20_row_int64 n (v6, v7))).bind fun v8 =>
        brk v8
          (((F_law20_same n (v2.2.1, v5.2.1))).bind fun v9 =>
          some v9)
          (some false))
        (some false))
      (some false) := (by kernel_rfl)

theorem F_law20_past_eq (n : Nat) (a0 : List ((List Int) × (List Int))) : F_law20_past n a0 =
    (L_law20_past_3 n n ([], (a0, ((((List.length a0) : Nat) : Int), ((0 : Int), ()))))).bind fun v1 =>
    some v1.1 := (by kernel_rfl)

theorem L_law20_past_3_eq (n k : Nat) (s3 : List ((List Int) × (List Int))) (s6 : List ((List Int) × (List Int))) (s7 : Int) (s8 : Int) : L_law20_past_3 n (k + 1) (s3, s6, s7, s8, ()) =
    brk (decide (s8 < s7))
      (((idx s6 s8)).bind fun v1 =>
      ((app (1 : Nat) [] v1.1)).bind fun v2 =>
      ((app (1 : Nat) [] v1.2)).bind fun v3 =>
      ((app (48 : Nat) s3 [(v2, v3)])).bind fun v4 =>
      L_law20_past_3 n k (v4, (s6, (s7, ((IntKind.wrap IntKind.i64 (s8 + (1 : Int))), ())))))
      (some (s3, ())) := (by kernel_rfl)

theorem F_ref13_Same_eq (n : Nat) (a0 : (List (List UInt8)) × (List (Int × Int × Int))) (a1 : (List (List UInt8)) × (List (Int × Int × Int))) : F_ref13_Same n (a0, a1) =
    brk ((((List.length a0.1) : Nat) : Int) != (((List.length a1.1) : Nat) : Int))
      (some false)
      (brk ((((List.length a0.2) : Nat) : Int) != (((List.length a1.2) : Nat) : Int))
        (some false)
        ((L_ref13_Same_4 n n ((), ((), ((0 : Int), ((a0.1, (a0.2, ())), ((a1.1, (a1.2, ())), ())))))).bind fun v1 =>
        sumk v1
          (fun v2 =>
            some v2.1)
          (fun v3 =>
            (L_ref13_Same_9 n n ((), ((), ((0 : Int), (v3.2.2.1, (v3.2.2.2.1, ())))))).bind fun v4 =>
            sumk v4
              (fun v5 =>
                some v5.1)
              (fun _ =>
                some true)))) := (by kernel_rfl)

theorem L_ref13_Same_4_eq (n k : Nat) (s5 : Int) (o0_0 : List (List UInt8)) (o0_1 : List (Int × Int × Int)) (o1_0 : List (List UInt8)) (o1_1 : List (Int × Int × Int)) : L_ref13_Same_4 n (k + 1) ((), (), s5, (o0_0, o0_1, ()), (o1_0, o1_1, ()), ()) =
    brk (decide (s5 < (((List.length o0_0) : Nat) : Int)))
      (((idx o0_0 s5)).bind fun v1 =>
      ((idx o1_0 s5)).bind fun v2 =>
      brk (!(v1 == v2))
        (some (Sum.inl (false, ())))
        (L_ref13_Same_4 n k ((), ((), ((IntKind.wrap IntKind.i64 (s5 + (1 : Int))), ((o0_0, (o0_1, ())), ((o1_0, (o1_1, ())), ())))))))
      (some (Sum.inr ((), ((), ((o0_0, (o0_1, ())), ((o1_0, (o1_1, ())), ())))))) := (by kernel_rfl)

theorem L_ref13_Same_9_eq (n k : Nat) (s6 : Int) (o0_0 : List (List UInt8)) (o0_1 : List (Int × Int × Int)) (o1_0 : List (List UInt8)) (o1_1 : List (Int × Int × Int)) : L_ref13_Same_9 n (k + 1) ((), (), s6, (o0_0, o0_1, ()), (o1_0, o1_1, ()), ()) =
    brk (decide (s6 < (((List.length o0_1) : Nat) : Int)))
      (((idx o0_1 s6)).bind fun v1 =>
      ((idx o1_1 s6)).bind fun v2 =>
      brk (!((v1.1 == v2.1) && ((v1.2.1 == v2.2.1) && ((v1.2.2 == v2.2.2) && true))))
        (some (Sum.inl (false, ())))
        (L_ref13_Same_9 n k ((), ((), ((IntKind.wrap IntKind.i64 (s6 + (1 : Int))), ((o0_0, (o0_1, ())), ((o1_0, (o1_1, ())), ())))))))
      (some (Sum.inr ())) := (by kernel_rfl)

theorem F_ref16_rows_eq (n : Nat) (a0 : List Int) (a1 : List Int) : F_ref16_rows n (a0, a1) =
    brk ((((List.length a0) : Nat) : Int) != (((List.length a1) : Nat) : Int))
      (some false)
      ((L_ref16_rows_4 n n (a0, (a1, ((((List.length a0) : Nat) : Int), ((0 : Int), ()))))).bind fun v1 =>
      sumk v1
        (fun v2 =>
          some v2.1)
        (fun _ =>
          some true)) := (by kernel_rfl)

theorem L_ref16_rows_4_eq (n k : Nat) (s0 : List Int) (s1 : List Int) (s12 : Int) (s13 : Int) : L_ref16_rows_4 n (k + 1) (s0, s1, s12, s13, ()) =
    brk (decide (s13 < s12))
      (((idx s0 s13)).bind fun v1 =>
      ((idx s1 s13)).bind fun v2 =>
      brk (v1 != v2)
        (some (Sum.inl (false, ())))
        (L_ref16_rows_4 n k (s0, (s1, (s12, ((IntKind.wrap IntKind.i64 (s13 + (1 : Int))), ()))))))
      (some (Sum.inr ())) := (by kernel_rfl)

theorem F_ref16_blocks_eq (n : Nat) (a0 : (List Int) × (List Int) × (List Int) × (List Int) × (List Int) × (List Int) × Int × Int × Int × Int × Int × (List Int) × (List Int) × (List Int) × Int × Int × Int) (a1 : (List Int) × (List Int) × (List Int) × (List Int) × (List Int) × (List Int) × Int × Int × Int × Int × Int × (List Int) × (List Int) × (List Int) × Int × Int × Int) : F_ref16_blocks n (a0, a1) =
    brk (a0.2.2.2.2.2.2.1 != a1.2.2.2.2.2.2.1)
      (some false)
      (brk (a0.2.2.2.2.2.2.2.1 != a1.2.2.2.2.2.2.2.1)
        (some false)
        (brk (a0.2.2.2.2.2.2.2.2.1 != a1.2.2.2.2.2.2.2.2.1)
          (some false)
          (brk (a0.2.2.2.2.2.2.2.2.2.1 != a1.2.2.2.2.2.2.2.2.2.1)
            (some false)
            (brk (a0.2.2.2.2.2.2.2.2.2.2.1 != a1.2.2.2.2.2.2.2.2.2.2.1)
              (some false)
              (brk (a0.2.2.2.2.2.2.2.2.2.2.2.2.2.2.1 != a1.2.2.2.2.2.2.2.2.2.2.2.2.2.2.1)
                (some false)
                (brk (a0.2.2.2.2.2.2.2.2.2.2.2.2.2.2.2.1 != a1.2.2.2.2.2.2.2.2.2.2.2.2.2.2.2.1)
                  (some false)
                  (brk (a0.2.2.2.2.2.2.2.2.2.2.2.2.2.2.2.2 != a1.2.2.2.2.2.2.2.2.2.2.2.2.2.2.2.2)
                    (some false)
                    (((F_ref16_rows n (a0.1, a1.1))).bind fun v1 =>
                    brk v1
                      (((F_ref16_rows n (a0.2.1, a1.2.1))).bind fun v2 =>
                      brk v2
                        (((F_ref16_rows n (a0.2.2.1, a1.2.2.1))).bind fun v3 =>
                        brk v3
                          (((F_ref16_rows n (a0.2.2.2.1, a1.2.2.2.1))).bind fun v4 =>
                          brk v4
                            (((F_ref16_rows n (a0.2.2.2.2.1, a1.2.2.2.2.1))).bind fun v5 =>
                            brk v5
                              (((F_ref16_rows n (a0.2.2.2.2.2.1, a1.2.2.2.2.2.1))).bind fun v6 =>
                              brk v6
                                (((F_ref16_rows n (a0.2.2.2.2.2.2.2.2.2.2.2.1, a1.2.2.2.2.2.2.2.2.2.2.2.1))).bind fun v7 =>
                                brk v7
                                  (((F_ref16_rows n (a0.2.2.2.2.2.2.2.2.2.2.2.2.1, a1.2.2.2.2.2.2.2.2.2.2.2.2.1))).bind fun v8 =>
                                  brk v8
                                    (((F_ref16_rows n (a0.2.2.2.2.2.2.2.2.2.2.2.2.2.1, a1.2.2.2.2.2.2.2.2.2.2.2.2.2.1))).bind fun v9 =>
                                    some v9)
                                    (some false))
                                  (some false))
                                (some false))
                              (some false))
                            (some false))
                          (some false))
                        (some false))
                      (some false))))))))) := (by kernel_rfl)

theorem F_ref16_Same_eq (n : Nat) (a0 : (Int × Int × Int × Int × Int × Int) × ((List (List UInt8)) × (List (Int × Int × Int))) × (List Int) × Int × (List Int) × (List Int) × (List ((List Int) × (List Int) × (List Int) × (List Int) × (List Int) × (List Int) × Int × Int × Int × Int × Int × (List Int) × (List Int) × (List Int) × Int × Int × Int)) × (List Int) × (List Int) × (List Int) × Int) (a1 : (Int × Int × Int × Int × Int × Int) × ((List (List UInt8)) × (List (Int × Int × Int))) × (List Int) × Int × (List Int) × (List Int) × (List ((List Int) × (List Int) × (List Int) × (List Int) × (List Int) × (List Int) × Int × Int × Int × Int × Int × (List Int) × (List Int) × (List Int) × Int × Int × Int)) × (List Int) × (List Int) × (List Int) × Int) : F_ref16_Same n (a0, a1) =
    brk (!((a0.1.1 == a1.1.1) && ((a0.1.2.1 == a1.1.2.1) && ((a0.1.2.2.1 == a1.1.2.2.1) && ((a0.1.2.2.2.1 == a1.1.2.2.2.1) && ((a0.1.2.2.2.2.1 == a1.1.2.2.2.2.1) && ((a0.1.2.2.2.2.2 == a1.1.2.2.2.2.2) && true)))))))
      (some false)
      (((F_ref13_Same n (a0.2.1, a1.2.1))).bind fun v1 =>
      brk (!v1)
        (some false)
        (brk (a0.2.2.2.1 != a1.2.2.2.1)
          (some false)
          (brk (a0.2.2.2.2.2.2.2.2.2.2 != a1.2.2.2.2.2.2.2.2.2.2)
            (some false)
            (brk ((((List.length a0.2.2.2.2.2.2.1) : Nat) : Int) != (((List.length a1.2.2.2.2.2.2.1) : Nat) : Int))
              (some false)
              ((L_ref16_Same_4 n n ((), ((), ((((List.length a0.2.2.2.2.2.2.1) : Nat) : Int), ((0 : Int), ((a0.1.1, (a0.1.2.1, (a0.1.2.2.1, (a0.1.2.2.2.1, (a0.1.2.2.2.2.1, (a0.1.2.2.2.2.2, (a0.2.1.1, (a0.2.1.2, (a0.2.2.1, (a0.2.2.2.1, (a0.2.2.2.2.1, (a0.2.2.2.2.2.1, (a0.2.2.2.2.2.2.1, (a0.2.2.2.2.2.2.2.1, (a0.2.2.2.2.2.2.2.2.1, (a0.2.2.2.2.2.2.2.2.2.1, (a0.2.2.2.2.2.2.2.2.2.2, ()))))))))))))))))), ((a1.1.1, (a1.1.2.1, (a1.1.2.2.1, (a1.1.2.2.2.1, (a1.1.2.2.2.2.1, (a1.1.2.2.2.2.2, (a1.2.1.1, (a1.2.1.2, (a1.2.2.1, (a1.2.2.2.1, (a1.2.2.2.2.1, (a1.2.2.2.2.2.1, (a1.2.2.2.2.2.2.1, (a1.2.2.2.2.2.2.2.1, (a1.2.2.2.2.2.2.2.2.1, (a1.2.2.2.2.2.2.2.2.2.1, (a1.2.2.2.2.2.2.2.2.2.2, ()))))))))))))))))), ()))))))).bind fun v2 =>
              sumk v2
                (fun v3 =>
                  some v3.1)
                (fun v4 =>
                  ((F_ref16_rows n (v4.2.2.1.2.2.2.2.2.2.2.2.1, v4.2.2.2.1.2.2.2.2.2.2.2.2.1))).bind fun v5 =>
                  brk v5
                    (((F_ref16_rows n (v4.2.2.1.2.2.2.2.2.2.2.2.2.2.1, v4.2.2.2.1.2.2.2.2.2.2.2.2.2.2.1))).bind fun v6 =>
                    brk v6
                      (((F_ref16_rows n (v4.2.2.1.2.2.2.2.2.2.2.2.2.2.2.1, v4.2.2.2.1.2.2.2.2.2.2.2.2.2.2.2.1))).bind fun v7 =>
                      brk v7
                        (((F_ref16_rows n (v4.2.2.1.2.2.2.2.2.2.2.2.2.2.2.2.2.1, v4.2.2.2.1.2.2.2.2.2.2.2.2.2.2.2.2.2.1))).bind fun v8 =>
                        brk v8
                          (((F_ref16_rows n (v4.2.2.1.2.2.2.2.2.2.2.2.2.2.2.2.2.2.1, v4.2.2.2.1.2.2.2.2.2.2.2.2.2.2.2.2.2.2.1))).bind fun v9 =>
                          brk v9
                            (((F_ref16_rows n (v4.2.2.1.2.2.2.2.2.2.2.2.2.2.2.2.2.2.2.1, v4.2.2.2.1.2.2.2.2.2.2.2.2.2.2.2.2.2.2.2.1))).bind fun v10 =>
                            some v10)
                            (some false))
                          (some false))
                        (some false))
                      (some false))
                    (some false))))))) := (by kernel_rfl)

theorem L_ref16_Same_4_eq (n k : Nat) (s44 : Int) (s45 : Int) (o0_0 : Int) (o0_1 : Int) (o0_2 : Int) (o0_3 : Int) (o0_4 : Int) (o0_5 : Int) (o0_6 : List (List UInt8)) (o0_7 : List (Int × Int × Int)) (o0_8 : List Int) (o0_9 : Int) (o0_10 : List Int) (o0_11 : List Int) (o0_12 : List ((List Int) × (List Int) × (List Int) × (List Int) × (List Int) × (List Int) × Int × Int × Int × Int × Int × (List Int) × (List Int) × (List Int) × Int × Int × Int)) (o0_13 : List Int) (o0_14 : List Int) (o0_15 : List Int) (o0_16 : Int) (o1_0 : Int) (o1_1 : Int) (o1_2 : Int) (o1_3 : Int) (o1_4 : Int) (o1_5 : Int) (o1_6 : List (List UInt8)) (o1_7 : List (Int × Int × Int)) (o1_8 : List Int) (o1_9 : Int) (o1_10 : List Int) (o1_11 : List Int) (o1_12 : List ((List Int) × (List Int) × (List Int) × (List Int) × (List Int) × (List Int) × Int × Int × Int × Int × Int × (List Int) × (List Int) × (List Int) × Int × Int × Int)) (o1_13 : List Int) (o1_14 : List Int) (o1_15 : List Int) (o1_16 : Int) : L_ref16_Same_4 n (k + 1) ((), (), s44, s45, (o0_0, o0_1, o0_2, o0_3, o0_4, o0_5, o0_6, o0_7, o0_8, o0_9, o0_10, o0_11, o0_12, o0_13, o0_14, o0_15, o0_16, ()), (o1_0, o1_1, o1_2, o1_3, o1_4, o1_5, o1_6, o1_7, o1_8, o1_9, o1_10, o1_11, o1_12, o1_13, o1_14, o1_15, o1_16, ()), ()) =
    brk (decide (s45 < s44))
      (((idx o0_12 s45)).bind fun v1 =>
      ((idx o1_12 s45)).bind fun v2 =>
      ((F_ref16_blocks n (v1, v2))).bind fun v3 =>
      brk (!v3)
        (some (Sum.inl (false, ())))
        (L_ref16_Same_4 n k ((), ((), (s44, ((IntKind.wrap IntKind.i64 (s45 + (1 : Int))), ((o0_0, (o0_1, (o0_2, (o0_3, (o0_4, (o0_5, (o0_6, (o0_7, (o0_8, (o0_9, (o0_10, (o0_11, (o0_12, (o0_13, (o0_14, (o0_15, (o0_16, ()))))))))))))))))), ((o1_0, (o1_1, (o1_2, (o1_3, (o1_4, (o1_5, (o1_6, (o1_7, (o1_8, (o1_9, (o1_10, (o1_11, (o1_12, (o1_13, (o1_14, (o1_15, (o1_16, ()))))))))))))))))), ()))))))))
      (some (Sum.inr ((), ((), ((o0_0, (o0_1, (o0_2, (o0_3, (o0_4, (o0_5, (o0_6, (o0_7, (o0_8, (o0_9, (o0_10, (o0_11, (o0_12, (o0_13, (o0_14, (o0_15, (o0_16, ()))))))))))))))))), ((o1_0, (o1_1, (o1_2, (o1_3, (o1_4, (o1_5, (o1_6, (o1_7, (o1_8, (o1_9, (o1_10, (o1_11, (o1_12, (o1_13, (o1_14, (o1_15, (o1_16, ()))))))))))))))))), ())))))) := (by kernel_rfl)

theorem F_law20_Given_stays_eq (n : Nat) (a0 : ((List Int) × (List Int) × (List Int) × (List Int) × (List Int) × (List Int) × Int × Int × Int × Int × Int × (List Int) × (List Int) × (List Int) × Int × Int × Int) × (Int × (List Int) × (List Int) × (List Int)) × (List ((List Int) × (List Int)))) (a1 : (List Int) × (List Int) × (List Int) × (List Int) × (List Int) × (List Int) × Int × Int × Int × Int × Int × (List Int) × (List Int) × (List Int) × Int × Int × Int) (a2 : Int × (List Int) × (List Int) × (List Int)) (a3 : List ((List Int) × (List Int))) : F_law20_Given_stays n (a0, a1, a2, a3) =
    ((F_law20_plain n a0.1)).bind fun v1 =>
    ((F_ref16_Same n ((((0 : Int), ((0 : Int), ((0 : Int), ((0 : Int), ((0 : Int), (0 : Int)))))), (([], []), ([], ((0 : Int), ([], ([], ([v1], ([], ([], ([], (0 : Int))))))))))), (((0 : Int), ((0 : Int), ((0 : Int), ((0 : Int), ((0 : Int), (0 : Int)))))), (([], []), ([], ((0 : Int), ([], ([], ([a1], ([], ([], ([], (0 : Int)))))))))))))).bind fun v2 =>
    brk v2
      (((F_law20_row_int8 n (a0.2.1.2.1, a2.2.1))).bind fun v3 =>
      brk v3
        (((F_law20_row_int8 n (a0.2.1.2.2.1, a2.2.2.1))).bind fun v4 =>
        brk v4
          (((F_law20_row_int8 n (a0.2.1.2.2.2, a2.2.2.2))).bind fun v5 =>
          brk v5
            (((F_law20_same n (a0.2.2, a3))).bind fun v6 =>
            some v6)
            (some false))
          (some false))
        (some false))
      (some false) := (by kernel_rfl)

theorem F_law20_BlockRuns_eq (n : Nat) (a0 : ((List Int) × (List Int) × (List Int) × (List Int) × (List Int) × (List Int) × Int × Int × Int × Int × Int × (List Int) × (List Int) × (List Int) × Int × Int × Int) × (Int × (List Int) × (List Int) × (List Int)) × (List ((List Int) × (List Int)))) (a1 : List Int) (a2 : Int) : F_law20_BlockRuns n (a0, a1, a2) =
    ((F_law20_awake n ())).bind fun v1 =>
    brk (!v1)
      (some false)
      (((F_law20_plain n a0.1)).bind fun v2 =>
      ((F_law20_frame n a0.2.1)).bind fun v3 =>
      ((F_law20_past n a0.2.2)).bind fun v4 =>
      ((app (8 : Nat) [] a1)).bind fun v5 =>
      ((F_block_Keys n (a0.1, (a0.2.1, (v5, a2))))).bind fun v6 =>
      ((F_ref20_Keys n (v2, (v3, (a1, a2))))).bind fun v7 =>
      ((F_law20_pair n (v6.1, v7.1))).bind fun v8 =>
      brk (!v8)
        (some false)
        (brk (v6.2 != v7.2)
          (some false)
          (((F_block_Run n (a0.1, (a0.2.1, (v5, a0.2.2))))).bind fun v9 =>
          ((F_ref20_Run n (v2, (v3, (a1, v4))))).bind fun v10 =>
          ((F_law20_row_int64 n (v9.1, v10.1))).bind fun v11 =>
          brk v11
            (brk (v9.2 == v10.2)
              (((F_law20_row_int64 n (v5, a1))).bind fun v12 =>
              brk v12
                (((F_law20_Given_stays n ((a0.1, (a0.2.1, a0.2.2)), (v2, (v3, v4))))).bind fun v13 =>
                some v13)
                (some false))
              (some false))
            (some false)))) := (by kernel_rfl)

theorem F_law20_rows_eq (n : Nat) (a0 : List (List Int)) (a1 : List (List Int)) : F_law20_rows n (a0, a1) =
    brk ((((List.length a0) : Nat) : Int) != (((List.length a1) : Nat) : Int))
      (some false)
      ((L_law20_rows_4 n n (a0, (a1, ((((List.length a0) : Nat) : Int), ((0 : Int), ()))))).bind fun v1 =>
      sumk v1
        (fun v2 =>
          some v2.1)
        (fun _ =>
          some true)) := (by kernel_rfl)

theorem L_law20_rows_4_eq (n k : Nat) (s0 : List (List Int)) (s1 : List (List Int)) (s12 : Int) (s13 : Int) : L_law20_rows_4 n (k + 1) (s0, s1, s12, s13, ()) =
    brk (decide (s13 < s12))
      (((idx s0 s13)).bind fun v1 =>
      ((idx s1 s13)).bind fun v2 =>
      ((F_law20_row_int64 n (v1, v2))).bind fun v3 =>
      brk (!v3)
        (some (Sum.inl (false, ())))
        (L_law20_rows_4 n k (s0, (s1, (s12, ((IntKind.wrap IntKind.i64 (s13 + (1 : Int))), ()))))))
      (some (Sum.inr ())) := (by kernel_rfl)

end Go.Am
