import Derived.Test.YtfafklfpikjheaaGreatS4
import Derived.Test.YtfafklfpikjheaaGreatD5
import Derived.KernelRfl
set_option linter.unusedVariables false
set_option linter.unusedSimpArgs false
namespace Go.Am
open Go Go.Proofs

theorem P_ref10_Turn (n : Nat) : PSound Tryz.prog 61 (E_ref10_Turn n) := psound_of_body (X := X_ref10_Turn n) (fn := Tryz.f61) (ps := [Y8, (.int .i64), Y8, Y8]) (rs := [Y8, (.int .i64)]) mixed ⟨ttOK, callsOK_cons (P_ref10_turned n) (callsOK_nil), ownsOK_nil⟩ Tryz.func61 (by kernel_rfl) (by kernel_rfl) (by kernel_rfl)
theorem P_ref20_turned (n : Nat) : PSound Tryz.prog 34 (E_ref20_turned n) := psound_of_body (X := X_ref20_turned n) (fn := Tryz.f34) (ps := [Y8, Y8, (.int .i64), (.int .i64), Y8, Y8]) (rs := [Y8, (.int .i64)]) mixed ⟨ttOK, callsOK_cons (P_ref20_through n) (callsOK_cons (P_ref10_Turn n) (callsOK_nil)), ownsOK_nil⟩ Tryz.func34 (by kernel_rfl) (by kernel_rfl) (by kernel_rfl)
theorem P_ref20_Keys (n : Nat) : PSound Tryz.prog 13 (E_ref20_Keys n) := psound_of_body (X := X_ref20_Keys n) (fn := Tryz.f13) (ps := [Y22, Y36, Y37, (.int .i64)]) (rs := [Y34, (.int .i64)]) mixed ⟨ttOK, callsOK_cons (P_ref20_angles n) (callsOK_cons (P_ref09_Row n) (callsOK_cons (P_ref20_turned n) (callsOK_cons (P_ref20_through n) (callsOK_nil)))), ownsOK_nil⟩ Tryz.func13 (by kernel_rfl) (by kernel_rfl) (by kernel_rfl)
theorem P_ref19_wrong (n : Nat) : PSound Tryz.prog 69 (E_ref19_wrong n) := psound_of_body (X := X_ref19_wrong n) (fn := Tryz.f69) (ps := [Y8, Y39]) (rs := [.bool]) mixed ⟨ttOK, callsOK_nil, ownsOK_nil⟩ Tryz.func69 (by kernel_rfl) (by kernel_rfl) (by kernel_rfl)
theorem P_ref19_Scores (n : Nat) : PSound Tryz.prog 106 (E_ref19_Scores n) := psound_of_body (X := X_ref19_Scores n) (fn := Tryz.f106) (ps := [Y8, Y39, (.int .i64)]) (rs := [Y37, (.int .i64)]) mixed ⟨ttOK, callsOK_cons (P_ref19_wrong n) (callsOK_cons (P_ref08_Dot n) (callsOK_cons (P_ref02_Round n) (callsOK_nil))), ownsOK_nil⟩ Tryz.func106 (by kernel_rfl) (by kernel_rfl) (by kernel_rfl)
theorem P_ref11_distance (n : Nat) : PSound Tryz.prog 122 (E_ref11_distance n) := psound_of_body (X := X_ref11_distance n) (fn := Tryz.f122) (ps := [(.int .i64), (.int .i64)]) (rs := [(.int .i64)]) mixed ⟨ttOK, callsOK_nil, ownsOK_nil⟩ Tryz.func122 (by kernel_rfl) (by kernel_rfl) (by kernel_rfl)
theorem P_ref11_Weights (n : Nat) : PSound Tryz.prog 107 (E_ref11_Weights n) := psound_of_body (X := X_ref11_Weights n) (fn := Tryz.f107) (ps := [Y37]) (rs := [Y37, (.int .i64)]) mixed ⟨ttOK, callsOK_cons (P_ref11_distance n) (callsOK_cons (P_ref02_Exp2 n) (callsOK_nil)), ownsOK_nil⟩ Tryz.func107 (by kernel_rfl) (by kernel_rfl) (by kernel_rfl)
theorem P_ref11_good (n : Nat) : PSound Tryz.prog 123 (E_ref11_good n) := psound_of_body (X := X_ref11_good n) (fn := Tryz.f123) (ps := [Y37]) (rs := [(.int .i64), .bool]) mixed ⟨ttOK, callsOK_nil, ownsOK_nil⟩ Tryz.func123 (by kernel_rfl) (by kernel_rfl) (by kernel_rfl)
theorem P_ref11_Mean (n : Nat) : PSound Tryz.prog 124 (E_ref11_Mean n) := psound_of_body (X := X_ref11_Mean n) (fn := Tryz.f124) (ps := [Y37, Y8]) (rs := [(.int .i8), (.int .i64)]) mixed ⟨ttOK, callsOK_cons (P_ref11_good n) (callsOK_cons (P_ref02_Floor n) (callsOK_nil)), ownsOK_nil⟩ Tryz.func124 (by kernel_rfl) (by kernel_rfl) (by kernel_rfl)
theorem P_ref11_Means (n : Nat) : PSound Tryz.prog 108 (E_ref11_Means n) := psound_of_body (X := X_ref11_Means n) (fn := Tryz.f108) (ps := [Y37, Y39]) (rs := [Y8, (.int .i64)]) mixed ⟨ttOK, callsOK_cons (P_ref11_good n) (callsOK_cons (P_ref11_Mean n) (callsOK_nil)), ownsOK_nil⟩ Tryz.func108 (by kernel_rfl) (by kernel_rfl) (by kernel_rfl)
theorem P_ref19_Head (n : Nat) : PSound Tryz.prog 70 (E_ref19_Head n) := psound_of_body (X := X_ref19_Head n) (fn := Tryz.f70) (ps := [Y8, Y39, Y39, (.int .i64)]) (rs := [Y8, (.int .i64)]) mixed ⟨ttOK, callsOK_cons (P_ref19_Scores n) (callsOK_cons (P_ref19_wrong n) (callsOK_cons (P_ref11_Weights n) (callsOK_cons (P_ref11_Means n) (callsOK_nil)))), ownsOK_nil⟩ Tryz.func70 (by kernel_rfl) (by kernel_rfl) (by kernel_rfl)
theorem P_ref19_Look (n : Nat) : PSound Tryz.prog 39 (E_ref19_Look n) := psound_of_body (X := X_ref19_Look n) (fn := Tryz.f39) (ps := [Y8, (.int .i64), Y41, (.int .i64)]) (rs := [Y8, (.int .i64)]) mixed ⟨ttOK, callsOK_cons (P_ref19_wrong n) (callsOK_cons (P_ref19_Head n) (callsOK_nil)), ownsOK_nil⟩ Tryz.func39 (by kernel_rfl) (by kernel_rfl) (by kernel_rfl)
theorem P_ref02_Add (n : Nat) : PSound Tryz.prog 73 (E_ref02_Add n) := psound_of_body (X := X_ref02_Add n) (fn := Tryz.f73) (ps := [(.int .i64), (.int .i64)]) (rs := [(.int .i64), .bool]) mixed ⟨ttOK, callsOK_nil, ownsOK_nil⟩ Tryz.func73 (by kernel_rfl) (by kernel_rfl) (by kernel_rfl)
theorem P_ref08_Add (n : Nat) : PSound Tryz.prog 42 (E_ref08_Add n) := psound_of_body (X := X_ref08_Add n) (fn := Tryz.f42) (ps := [Y37, Y37]) (rs := [Y37, (.int .i64)]) mixed ⟨ttOK, callsOK_cons (P_ref02_Add n) (callsOK_nil), ownsOK_nil⟩ Tryz.func42 (by kernel_rfl) (by kernel_rfl) (by kernel_rfl)
theorem P_ref12_shrunk (n : Nat) : PSound Tryz.prog 74 (E_ref12_shrunk n) := psound_of_body (X := X_ref12_shrunk n) (fn := Tryz.f74) (ps := [Y8, Y8, (.int .i64)]) (rs := [Y8, (.int .i64)]) mixed ⟨ttOK, callsOK_cons (P_ref08_Times n) (callsOK_cons (P_ref08_Shrink n) (callsOK_nil)), ownsOK_nil⟩ Tryz.func74 (by kernel_rfl) (by kernel_rfl) (by kernel_rfl)
theorem P_ref12_Gate (n : Nat) : PSound Tryz.prog 75 (E_ref12_Gate n) := psound_of_body (X := X_ref12_Gate n) (fn := Tryz.f75) (ps := [Y8, Y8, Y8]) (rs := [Y8, (.int .i64)]) mixed ⟨ttOK, callsOK_cons (P_ref02_Round n) (callsOK_cons (P_ref02_Narrow n) (callsOK_nil)), ownsOK_nil⟩ Tryz.func75 (by kernel_rfl) (by kernel_rfl) (by kernel_rfl)
end Go.Am

namespace Go.Am
open Go Go.Proofs
set_option maxRecDepth 100000

theorem F_ref10_Turn_eq (n : Nat) (a0 : List Int) (a1 : Int) (a2 : List Int) (a3 : List Int) : F_ref10_Turn n (a0, a1, a2, a3) =
    ((F_ref10_turned n (a0, (a1, (a2, (a3, (-(1 : Int)))))))).bind fun v1 =>
    some v1 := (by kernel_rfl)

theorem F_ref20_turned_eq (n : Nat) (a0 : List Int) (a1 : List Int) (a2 : Int) (a3 : Int) (a4 : List Int) (a5 : List Int) : F_ref20_turned n (a0, a1, a2, a3, a4, a5) =
    ((F_ref20_through n (a0, (a1, a2)))).bind fun v1 =>
    brk (v1.2 != (0 : Int))
      (some ([], v1.2))
      (((F_ref10_Turn n (v1.1, (a3, (a4, a5))))).bind fun v2 =>
      some v2) := (by kernel_rfl)

theorem F_ref20_Keys_eq (n : Nat) (a0 : (List Int) × (List Int) × (List Int) × (List Int) × (List Int) × (List Int) × Int × Int × Int × Int × Int × (List Int) × (List Int) × (List Int) × Int × Int × Int) (a1 : Int × (List Int) × (List Int) × (List Int)) (a2 : List Int) (a3 : Int) : F_ref20_Keys n (a0, a1, a2, a3) =
    ((F_ref20_angles n (a1, ((((List.length a2) : Nat) : Int), a3)))).bind fun v1 =>
    brk (v1.2.2.2 != (0 : Int))
      (some (([], []), v1.2.2.2))
      (((F_ref09_Row n (a2, a0.1))).bind fun v2 =>
      brk (v2.2 != (0 : Int))
        (some (([], []), v2.2))
        (((F_ref20_turned n (a0.2.2.1, (v2.1, (a0.2.2.2.2.2.2.2.1, (v1.1, (v1.2.1, v1.2.2.1))))))).bind fun v3 =>
        brk (v3.2 != (0 : Int))
          (some (([], []), v3.2))
          (((F_ref20_through n (a0.2.2.2.1, (v2.1, a0.2.2.2.2.2.2.2.2.1)))).bind fun v4 =>
          brk (v4.2 != (0 : Int))
            (some (([], []), v4.2))
            (some ((v3.1, v4.1), (0 : Int)))))) := (by kernel_rfl)

theorem F_ref19_wrong_eq (n : Nat) (a0 : List Int) (a1 : List (List Int)) : F_ref19_wrong n (a0, a1) =
    brk (decide ((((List.length a1) : Nat) : Int) < (1 : Int)))
      (some true)
      (brk (decide ((((List.length a1) : Nat) : Int) > (512 : Int)))
        (some true)
        (brk (decide ((((List.length a0) : Nat) : Int) < (1 : Int)))
          (some true)
          (brk (decide ((((List.length a0) : Nat) : Int) > (64 : Int)))
            (some true)
            ((L_ref19_wrong_4 n n (a0, (a1, ((0 : Int), ())))).bind fun v1 =>
            sumk v1
              (fun v2 =>
                some v2.1)
              (fun _ =>
                some false))))) := (by kernel_rfl)

theorem L_ref19_wrong_4_eq (n k : Nat) (s0 : List Int) (s1 : List (List Int)) (s5 : Int) : L_ref19_wrong_4 n (k + 1) (s0, s1, s5, ()) =
    brk (decide (s5 < (((List.length s1) : Nat) : Int)))
      (((idx s1 s5)).bind fun v1 =>
      brk ((((List.length v1) : Nat) : Int) != (((List.length s0) : Nat) : Int))
        (some (Sum.inl (true, ())))
        (L_ref19_wrong_4 n k (s0, (s1, ((IntKind.wrap IntKind.i64 (s5 + (1 : Int))), ())))))
      (some (Sum.inr ())) := (by kernel_rfl)

theorem F_ref19_Scores_eq (n : Nat) (a0 : List Int) (a1 : List (List Int)) (a2 : Int) : F_ref19_Scores n (a0, a1, a2) =
    ((F_ref19_wrong n (a0, a1))).bind fun v1 =>
    brk v1
      (some ([], (191 : Int)))
      (brk (decide (a2 < (0 : Int)))
        (some ([], (20 : Int)))
        (brk (decide (a2 > (31 : Int)))
          (some ([], (20 : Int)))
          ((L_ref19_Scores_7 n n (a0, (a1, (a2, ([], ((0 : Int), ())))))).bind fun v2 =>
          some (v2.1, (0 : Int))))) := (by kernel_rfl)

theorem L_ref19_Scores_7_eq (n k : Nat) (s0 : List Int) (s1 : List (List Int)) (s2 : Int) (s8 : List Int) (s9 : Int) : L_ref19_Scores_7 n (k + 1) (s0, s1, s2, s8, s9, ()) =
    brk (decide (s9 < (((List.length s1) : Nat) : Int)))
      (((idx s1 s9)).bind fun v1 =>
      ((F_ref08_Dot n (s0, v1))).bind fun v2 =>
      ((F_ref02_Round n (v2.1, s2))).bind fun v3 =>
      ((app (8 : Nat) s8 [v3.1])).bind fun v4 =>
      L_ref19_Scores_7 n k (s0, (s1, (s2, (v4, ((IntKind.wrap IntKind.i64 (s9 + (1 : Int))), ()))))))
      (some (s8, ())) := (by kernel_rfl)

theorem F_ref11_distance_eq (n : Nat) (a0 : Int) (a1 : Int) : F_ref11_distance n (a0, a1) =
    brk (decide (a0 < (0 : Int)))
      (brk (decide (a1 ≥ (0 : Int)))
        (brk (decide (a1 > (1099511627776 : Int)))
          (some (-(1099511627776 : Int)))
          (brk (decide (a0 < (-(1099511627776 : Int))))
            (some (-(1099511627776 : Int)))
            (brk (decide ((IntKind.wrap IntKind.i64 (a0 - a1)) < (-(1099511627776 : Int))))
              (some (-(1099511627776 : Int)))
              (some (IntKind.wrap IntKind.i64 (a0 - a1))))))
        (brk (decide ((IntKind.wrap IntKind.i64 (a0 - a1)) < (-(1099511627776 : Int))))
          (some (-(1099511627776 : Int)))
          (some (IntKind.wrap IntKind.i64 (a0 - a1)))))
      (brk (decide ((IntKind.wrap IntKind.i64 (a0 - a1)) < (-(1099511627776 : Int))))
        (some (-(1099511627776 : Int)))
        (some (IntKind.wrap IntKind.i64 (a0 - a1)))) := (by kernel_rfl)

theorem F_ref11_Weights_eq (n : Nat) (a0 : List Int) : F_ref11_Weights n a0 =
    brk (decide ((((List.length a0) : Nat) : Int) < (1 : Int)))
      (some ([], (1 : Int)))
      (brk (decide ((((List.length a0) : Nat) : Int) > (512 : Int)))
        (some ([], (1 : Int)))
        (((idx a0 (0 : Int))).bind fun v1 =>
        (L_ref11_Weights_5 n n (a0, (v1, ((0 : Int), ())))).bind fun v2 =>
        (L_ref11_Weights_11 n n (v2.1, (v2.2.1, ([], ((0 : Int), ()))))).bind fun v3 =>
        some (v3.1, (0 : Int)))) := (by kernel_rfl)

theorem L_ref11_Weights_5_eq (n k : Nat) (s0 : List Int) (s4 : Int) (s5 : Int) : L_ref11_Weights_5 n (k + 1) (s0, s4, s5, ()) =
    brk (decide (s5 < (((List.length s0) : Nat) : Int)))
      (((idx s0 s5)).bind fun v1 =>
      (brk (decide (v1 > s4))
          (((idx s0 s5)).bind fun v3 =>
          some (s0, (v3, (s5, ()))))
          (some (s0, (s4, (s5, ()))))).bind fun v2 =>
      L_ref11_Weights_5 n k (v2.1, (v2.2.1, ((IntKind.wrap IntKind.i64 (v2.2.2.1 + (1 : Int))), ()))))
      (some (s0, (s4, ()))) := (by kernel_rfl)

theorem L_ref11_Weights_11_eq (n k : Nat) (s0 : List Int) (s4 : Int) (s6 : List Int) (s7 : Int) : L_ref11_Weights_11 n (k + 1) (s0, s4, s6, s7, ()) =
    brk (decide (s7 < (((List.length s0) : Nat) : Int)))
      (((idx s0 s7)).bind fun v1 =>
      ((F_ref11_distance n (v1, s4))).bind fun v2 =>
      ((F_ref02_Exp2 n (IntKind.wrap IntKind.i64 ((256 : Int) * v2)))).bind fun v3 =>
      ((app (8 : Nat) s6 [v3])).bind fun v4 =>
      L_ref11_Weights_11 n k (s0, (s4, (v4, ((IntKind.wrap IntKind.i64 (s7 + (1 : Int))), ())))))
      (some (s6, ())) := (by kernel_rfl)

theorem F_ref11_good_eq (n : Nat) (a0 : List Int) : F_ref11_good n a0 =
    (L_ref11_good_3 n n (a0, ((0 : Int), ((0 : Int), ())))).bind fun v1 =>
    sumk v1
      (fun v2 =>
        some (v2.1, v2.2.1))
      (fun v3 =>
        some (v3.1, (decide (v3.1 > (0 : Int))))) := (by kernel_rfl)

theorem L_ref11_good_3_eq (n k : Nat) (s0 : List Int) (s4 : Int) (s5 : Int) : L_ref11_good_3 n (k + 1) (s0, s4, s5, ()) =
    brk (decide (s5 < (((List.length s0) : Nat) : Int)))
      (((idx s0 s5)).bind fun v1 =>
      brk (decide (v1 < (0 : Int)))
        (some (Sum.inl ((0 : Int), (false, ()))))
        (((idx s0 s5)).bind fun v2 =>
        brk (decide (v2 > (1073741824 : Int)))
          (some (Sum.inl ((0 : Int), (false, ()))))
          (((idx s0 s5)).bind fun v3 =>
          L_ref11_good_3 n k (s0, ((IntKind.wrap IntKind.i64 (s4 + v3)), ((IntKind.wrap IntKind.i64 (s5 + (1 : Int))), ()))))))
      (some (Sum.inr (s4, ()))) := (by kernel_rfl)

theorem F_ref11_Mean_eq (n : Nat) (a0 : List Int) (a1 : List Int) : F_ref11_Mean n (a0, a1) =
    brk ((((List.length a0) : Nat) : Int) != (((List.length a1) : Nat) : Int))
      (some ((0 : Int), (1 : Int)))
      (brk (decide ((((List.length a0) : Nat) : Int) > (512 : Int)))
        (some ((0 : Int), (1 : Int)))
        (((F_ref11_good n a0)).bind fun v1 =>
        brk (!v1.2)
          (some ((0 : Int), (110 : Int)))
          ((L_ref11_Mean_8 n n (a0, (a1, (v1.1, ((0 : Int), ((0 : Int), ())))))).bind fun v2 =>
          ((F_ref02_Floor n ((IntKind.wrap IntKind.i64 ((IntKind.wrap IntKind.i64 ((2 : Int) * v2.2.1)) + v2.1)), (IntKind.wrap IntKind.i64 ((2 : Int) * v2.1))))).bind fun v3 =>
          some ((IntKind.wrap IntKind.i8 v3.1), (0 : Int))))) := (by kernel_rfl)

theorem L_ref11_Mean_8_eq (n k : Nat) (s0 : List Int) (s1 : List Int) (s6 : Int) (s8 : Int) (s9 : Int) : L_ref11_Mean_8 n (k + 1) (s0, s1, s6, s8, s9, ()) =
    brk (decide (s9 < (((List.length s0) : Nat) : Int)))
      (((idx s0 s9)).bind fun v1 =>
      ((idx s1 s9)).bind fun v2 =>
      L_ref11_Mean_8 n k (s0, (s1, (s6, ((IntKind.wrap IntKind.i64 (s8 + (IntKind.wrap IntKind.i64 (v1 * (IntKind.wrap IntKind.i64 v2))))), ((IntKind.wrap IntKind.i64 (s9 + (1 : Int))), ()))))))
      (some (s6, (s8, ()))) := (by kernel_rfl)

theorem F_ref11_Means_eq (n : Nat) (a0 : List Int) (a1 : List (List Int)) : F_ref11_Means n (a0, a1) =
    brk ((((List.length a0) : Nat) : Int) != (((List.length a1) : Nat) : Int))
      (some ([], (1 : Int)))
      (brk (decide ((((List.length a0) : Nat) : Int) > (512 : Int)))
        (some ([], (1 : Int)))
        ((L_ref11_Means_4 n n (a0, (a1, ((0 : Int), ())))).bind fun v1 =>
        sumk v1
          (fun v2 =>
            some (v2.1, v2.2.1))
          (fun v3 =>
            ((F_ref11_good n v3.1)).bind fun v4 =>
            brk (!v4.2)
              (some ([], (110 : Int)))
              ((L_ref11_Means_13 n n (v3.1, (v3.2.1, ([], ((0 : Int), ()))))).bind fun v5 =>
              some (v5.1, (0 : Int)))))) := (by kernel_rfl)

theorem L_ref11_Means_4_eq (n k : Nat) (s0 : List Int) (s1 : List (List Int)) (s6 : Int) : L_ref11_Means_4 n (k + 1) (s0, s1, s6, ()) =
    brk (decide (s6 < (((List.length s1) : Nat) : Int)))
      (((idx s1 s6)).bind fun v1 =>
      ((idx s1 (0 : Int))).bind fun v2 =>
      brk ((((List.length v1) : Nat) : Int) != (((List.length v2) : Nat) : Int))
        (some (Sum.inl ([], ((1 : Int), ()))))
        (L_ref11_Means_4 n k (s0, (s1, ((IntKind.wrap IntKind.i64 (s6 + (1 : Int))), ())))))
      (some (Sum.inr (s0, (s1, ())))) := (by kernel_rfl)

theorem L_ref11_Means_13_eq (n k : Nat) (s0 : List Int) (s1 : List (List Int)) (s9 : List Int) (s10 : Int) : L_ref11_Means_13 n (k + 1) (s0, s1, s9, s10, ()) =
    ((idx s1 (0 : Int))).bind fun v1 =>
    brk (decide (s10 < (((List.length v1) : Nat) : Int)))
      ((L_ref11_Means_17 n n (s0, (s1, (s9, (s10, ([], ((0 : Int), ()))))))).bind fun v2 =>
      ((F_ref11_Mean n (v2.1, v2.2.2.2.2.1))).bind fun v3 =>
      ((app (1 : Nat) v2.2.2.1 [v3.1])).bind fun v4 =>
      L_ref11_Means_13 n k (v2.1, (v2.2.1, (v4, ((IntKind.wrap IntKind.i64 (v2.2.2.2.1 + (1 : Int))), ())))))
      (some (s9, ())) := (by kernel_rfl)

theorem L_ref11_Means_17_eq (n k : Nat) (s0 : List Int) (s1 : List (List Int)) (s9 : List Int) (s10 : Int) (s11 : List Int) (s12 : Int) : L_ref11_Means_17 n (k + 1) (s0, s1, s9, s10, s11, s12, ()) =
    brk (decide (s12 < (((List.length s1) : Nat) : Int)))
      (((idx s1 s12)).bind fun v1 =>
      ((idx v1 s10)).bind fun v2 =>
      ((app (1 : Nat) s11 [v2])).bind fun v3 =>
      L_ref11_Means_17 n k (s0, (s1, (s9, (s10, (v3, ((IntKind.wrap IntKind.i64 (s12 + (1 : Int))), ())))))))
      (some (s0, (s1, (s9, (s10, (s11, ())))))) := (by kernel_rfl)

theorem F_ref19_Head_eq (n : Nat) (a0 : List Int) (a1 : List (List Int)) (a2 : List (List Int)) (a3 : Int) : F_ref19_Head n (a0, a1, a2, a3) =
    ((F_ref19_Scores n (a0, (a1, a3)))).bind fun v1 =>
    brk (v1.2 != (0 : Int))
      (some ([], v1.2))
      (brk ((((List.length a2) : Nat) : Int) != (((List.length a1) : Nat) : Int))
        (some ([], (191 : Int)))
        (((F_ref19_wrong n (a0, a2))).bind fun v2 =>
        brk v2
          (some ([], (191 : Int)))
          (((F_ref11_Weights n v1.1)).bind fun v3 =>
          ((F_ref11_Means n (v3.1, a2))).bind fun v4 =>
          some (v4.1, (0 : Int))))) := (by kernel_rfl)

theorem F_ref19_Look_eq (n : Nat) (a0 : List Int) (a1 : Int) (a2 : List ((List Int) × (List Int))) (a3 : Int) : F_ref19_Look n (a0, a1, a2, a3) =
    brk (decide (a1 < (1 : Int)))
      (some ([], (190 : Int)))
      (((rm (((List.length a0) : Nat) : Int) a1)).bind fun v1 =>
      brk (v1 != (0 : Int))
        (some ([], (190 : Int)))
        ((L_ref19_Look_5 n n (a0, (a1, (a2, (a3, ([], ([], ((0 : Int), ())))))))).bind fun v2 =>
        ((F_ref19_wrong n (v2.1, v2.2.2.2.2.1))).bind fun v3 =>
        brk v3
          (some ([], (191 : Int)))
          (((F_ref19_wrong n (v2.1, v2.2.2.2.2.2.1))).bind fun v4 =>
          brk v4
            (some ([], (191 : Int)))
            (brk (decide (v2.2.2.2.1 < (0 : Int)))
              (some ([], (20 : Int)))
              (brk (decide (v2.2.2.2.1 > (31 : Int)))
                (some ([], (20 : Int)))
                (((qt IntKind.i64 (((List.length v2.1) : Nat) : Int) v2.2.1)).bind fun v5 =>
                (L_ref19_Look_16 n n (v2.1, (v2.2.1, (v2.2.2.1, (v2.2.2.2.1, (v2.2.2.2.2.1, (v2.2.2.2.2.2.1, (v5, ([], ((0 : Int), ())))))))))).bind fun v6 =>
                some (v6.1, (0 : Int)))))))) := (by kernel_rfl)

theorem L_ref19_Look_5_eq (n k : Nat) (s0 : List Int) (s1 : Int) (s2 : List ((List Int) × (List Int))) (s3 : Int) (s10 : List (List Int)) (s11 : List (List Int)) (s12 : Int) : L_ref19_Look_5 n (k + 1) (s0, s1, s2, s3, s10, s11, s12, ()) =
    brk (decide (s12 < (((List.length s2) : Nat) : Int)))
      (((idx s2 s12)).bind fun v1 =>
      ((app (24 : Nat) s10 [v1.1])).bind fun v2 =>
      ((idx s2 s12)).bind fun v3 =>
      ((app (24 : Nat) s11 [v3.2])).bind fun v4 =>
      L_ref19_Look_5 n k (s0, (s1, (s2, (s3, (v2, (v4, ((IntKind.wrap IntKind.i64 (s12 + (1 : Int))), ()))))))))
      (some (s0, (s1, (s2, (s3, (s10, (s11, ()))))))) := (by kernel_rfl)

theorem L_ref19_Look_16_eq (n k : Nat) (s0 : List Int) (s1 : Int) (s2 : List ((List Int) × (List Int))) (s3 : Int) (s10 : List (List Int)) (s11 : List (List Int)) (s13 : Int) (s14 : List Int) (s15 : Int) : L_ref19_Look_16 n (k + 1) (s0, s1, s2, s3, s10, s11, s13, s14, s15, ()) =
    brk (decide (s15 < s1))
      ((L_ref19_Look_20 n n (s0, (s1, (s2, (s3, (s10, (s11, (s13, (s14, (s15, ([], ([], ((0 : Int), ()))))))))))))).bind fun v1 =>
      ((slc v1.1 (IntKind.wrap IntKind.i64 (v1.2.2.2.2.2.2.2.2.1 * v1.2.2.2.2.2.2.1)) (IntKind.wrap IntKind.i64 ((IntKind.wrap IntKind.i64 (v1.2.2.2.2.2.2.2.2.1 + (1 : Int))) * v1.2.2.2.2.2.2.1)))).bind fun v2 =>
      ((F_ref19_Head n (v2, (v1.2.2.2.2.2.2.2.2.2.1, (v1.2.2.2.2.2.2.2.2.2.2.1, v1.2.2.2.1))))).bind fun v3 =>
      ((app (1 : Nat) v1.2.2.2.2.2.2.2.1 v3.1)).bind fun v4 =>
      L_ref19_Look_16 n k (v1.1, (v1.2.1, (v1.2.2.1, (v1.2.2.2.1, (v1.2.2.2.2.1, (v1.2.2.2.2.2.1, (v1.2.2.2.2.2.2.1, (v4, ((IntKind.wrap IntKind.i64 (v1.2.2.2.2.2.2.2.2.1 + (1 : Int))), ()))))))))))
      (some (s14, ())) := (by kernel_rfl)

theorem L_ref19_Look_20_eq (n k : Nat) (s0 : List Int) (s1 : Int) (s2 : List ((List Int) × (List Int))) (s3 : Int) (s10 : List (List Int)) (s11 : List (List Int)) (s13 : Int) (s14 : List Int) (s15 : Int) (s16 : List (List Int)) (s17 : List (List Int)) (s18 : Int) : L_ref19_Look_20 n (k + 1) (s0, s1, s2, s3, s10, s11, s13, s14, s15, s16, s17, s18, ()) =
    brk (decide (s18 < (((List.length s2) : Nat) : Int)))
      (((idx s10 s18)).bind fun v1 =>
      ((slc v1 (IntKind.wrap IntKind.i64 (s15 * s13)) (IntKind.wrap IntKind.i64 ((IntKind.wrap IntKind.i64 (s15 + (1 : Int))) * s13)))).bind fun v2 =>
      ((app (24 : Nat) s16 [v2])).bind fun v3 =>
      ((idx s11 s18)).bind fun v4 =>
      ((slc v4 (IntKind.wrap IntKind.i64 (s15 * s13)) (IntKind.wrap IntKind.i64 ((IntKind.wrap IntKind.i64 (s15 + (1 : Int))) * s13)))).bind fun v5 =>
      ((app (24 : Nat) s17 [v5])).bind fun v6 =>
      L_ref19_Look_20 n k (s0, (s1, (s2, (s3, (s10, (s11, (s13, (s14, (s15, (v3, (v6, ((IntKind.wrap IntKind.i64 (s18 + (1 : Int))), ())))))))))))))
      (some (s0, (s1, (s2, (s3, (s10, (s11, (s13, (s14, (s15, (s16, (s17, ())))))))))))) := (by kernel_rfl)

theorem F_ref02_Add_eq (n : Nat) (a0 : Int) (a1 : Int) : F_ref02_Add n (a0, a1) =
    brk (decide (a1 > (0 : Int)))
      (brk (decide (a0 > (IntKind.wrap IntKind.i64 ((9223372036854775807 : Int) - a1))))
        (some ((0 : Int), false))
        (brk (decide (a1 < (0 : Int)))
          (brk (decide (a0 < (IntKind.wrap IntKind.i64 ((-(9223372036854775808 : Int)) - a1))))
            (some ((0 : Int), false))
            (some ((IntKind.wrap IntKind.i64 (a0 + a1)), true)))
          (some ((IntKind.wrap IntKind.i64 (a0 + a1)), true))))
      (brk (decide (a1 < (0 : Int)))
        (brk (decide (a0 < (IntKind.wrap IntKind.i64 ((-(9223372036854775808 : Int)) - a1))))
          (some ((0 : Int), false))
          (some ((IntKind.wrap IntKind.i64 (a0 + a1)), true)))
        (some ((IntKind.wrap IntKind.i64 (a0 + a1)), true))) := (by kernel_rfl)

theorem F_ref08_Add_eq (n : Nat) (a0 : List Int) (a1 : List Int) : F_ref08_Add n (a0, a1) =
    brk (decide ((((List.length a0) : Nat) : Int) > (1048576 : Int)))
      (some ([], (81 : Int)))
      (brk (decide ((((List.length a1) : Nat) : Int) > (1048576 : Int)))
        (some ([], (81 : Int)))
        (brk ((((List.length a0) : Nat) : Int) != (((List.length a1) : Nat) : Int))
          (some ([], (80 : Int)))
          ((L_ref08_Add_7 n n (a0, (a1, ([], ((((List.length a0) : Nat) : Int), ((0 : Int), ())))))).bind fun v1 =>
          sumk v1
            (fun v2 =>
              some (v2.1, v2.2.1))
            (fun v3 =>
              some (v3.1, (0 : Int)))))) := (by kernel_rfl)

theorem L_ref08_Add_7_eq (n k : Nat) (s0 : List Int) (s1 : List Int) (s6 : List Int) (s25 : Int) (s26 : Int) : L_ref08_Add_7 n (k + 1) (s0, s1, s6, s25, s26, ()) =
    brk (decide (s26 < s25))
      (((idx s0 s26)).bind fun v1 =>
      ((idx s1 s26)).bind fun v2 =>
      ((F_ref02_Add n (v1, v2))).bind fun v3 =>
      brk (!v3.2)
        (some (Sum.inl ([], ((82 : Int), ()))))
        (((app (8 : Nat) s6 [v3.1])).bind fun v4 =>
        L_ref08_Add_7 n k (s0, (s1, (v4, (s25, ((IntKind.wrap IntKind.i64 (s26 + (1 : Int))), ())))))))
      (some (Sum.inr (s6, ()))) := (by kernel_rfl)

theorem F_ref12_shrunk_eq (n : Nat) (a0 : List Int) (a1 : List Int) (a2 : Int) : F_ref12_shrunk n (a0, a1, a2) =
    ((F_ref08_Times n (a0, ((((List.length a1) : Nat) : Int), a1)))).bind fun v1 =>
    brk (v1.2 != (0 : Int))
      (some ([], v1.2))
      (((F_ref08_Shrink n (v1.1, a2))).bind fun v2 =>
      some v2) := (by kernel_rfl)

theorem F_ref12_Gate_eq (n : Nat) (a0 : List Int) (a1 : List Int) (a2 : List Int) : F_ref12_Gate n (a0, a1, a2) =
    brk ((((List.length a0) : Nat) : Int) != (256 : Int))
      (some ([], (120 : Int)))
      (brk (decide ((((List.length a1) : Nat) : Int) > (1048576 : Int)))
        (some ([], (81 : Int)))
        (brk (decide ((((List.length a2) : Nat) : Int) > (1048576 : Int)))
          (some ([], (81 : Int)))
          (brk ((((List.length a1) : Nat) : Int) != (((List.length a2) : Nat) : Int))
            (some ([], (80 : Int)))
            ((L_ref12_Gate_9 n n (a0, (a2, ([], (a1, ((((List.length a1) : Nat) : Int), ((0 : Int), ()))))))).bind fun v1 =>
            some (v1.1, (0 : Int)))))) := (by kernel_rfl)

theorem L_ref12_Gate_9_eq (n k : Nat) (s0 : List Int) (s2 : List Int) (s8 : List Int) (s31 : List Int) (s32 : Int) (s33 : Int) : L_ref12_Gate_9 n (k + 1) (s0, s2, s8, s31, s32, s33, ()) =
    brk (decide (s33 < s32))
      (((idx s31 s33)).bind fun v1 =>
      (brk (decide ((IntKind.wrap IntKind.i64 v1) < (0 : Int)))
          (some (s0, (s2, (s8, (s33, ((IntKind.wrap IntKind.i64 ((IntKind.wrap IntKind.i64 v1) + (256 : Int))), (s31, (s32, (s33, ())))))))))
          (some (s0, (s2, (s8, (s33, ((IntKind.wrap IntKind.i64 v1), (s31, (s32, (s33, ())))))))))).bind fun v2 =>
      ((idx v2.1 v2.2.2.2.2.1)).bind fun v3 =>
      ((idx v2.2.1 v2.2.2.2.1)).bind fun v4 =>
      ((F_ref02_Round n ((IntKind.wrap IntKind.i64 ((IntKind.wrap IntKind.i64 v3) * (IntKind.wrap IntKind.i64 v4))), (6 : Int)))).bind fun v5 =>
      ((F_ref02_Narrow n v5.1)).bind fun v6 =>
      ((app (1 : Nat) v2.2.2.1 [v6])).bind fun v7 =>
      L_ref12_Gate_9 n k (v2.1, (v2.2.1, (v7, (v2.2.2.2.2.2.1, (v2.2.2.2.2.2.2.1, ((IntKind.wrap IntKind.i64 (v2.2.2.2.2.2.2.2.1 + (1 : Int))), ())))))))
      (some (s8, ())) := (by kernel_rfl)

end Go.Am
