import Derived.Test.YtfafklfpikjheaaGreatS3
import Derived.Test.YtfafklfpikjheaaGreatD4
import Derived.KernelRfl
set_option linter.unusedVariables false
set_option linter.unusedSimpArgs false
namespace Go.Am
open Go Go.Proofs

theorem P_block_Pass (n : Nat) : PSound Tryz.prog 19 (E_block_Pass n) := psound_of_body (X := X_block_Pass n) (fn := Tryz.f19) (ps := [Y22, Y36, Y38, Y41]) (rs := [Y38, Y41, (.int .i64)]) mixed ⟨ttOK, callsOK_cons (P_block_Keys n) (callsOK_cons (P_block_Run n) (callsOK_nil)), ownsOK_cons O45_ok (ownsOK_nil)⟩ Tryz.func19 (by kernel_rfl) (by kernel_rfl) (by kernel_rfl)
theorem P_ref16_Of (n : Nat) : PSound Tryz.prog 25 (E_ref16_Of n) := psound_of_body (X := X_ref16_Of n) (fn := Tryz.f25) (ps := [Y33]) (rs := [Y33]) mixed ⟨ttOK, callsOK_cons (P_ref16_own n) (callsOK_nil), ownsOK_nil⟩ Tryz.func25 (by kernel_rfl) (by kernel_rfl) (by kernel_rfl)
theorem P_law20_plain (n : Nat) : PSound Tryz.prog 9 (E_law20_plain n) := psound_of_body (X := X_law20_plain n) (fn := Tryz.f9) (ps := [Y22]) (rs := [Y22]) mixed ⟨ttOK, callsOK_cons (P_ref16_Of n) (callsOK_nil), ownsOK_nil⟩ Tryz.func9 (by kernel_rfl) (by kernel_rfl) (by kernel_rfl)
theorem P_law20_frame (n : Nat) : PSound Tryz.prog 10 (E_law20_frame n) := psound_of_body (X := X_law20_frame n) (fn := Tryz.f10) (ps := [Y36]) (rs := [Y36]) mixed ⟨ttOK, callsOK_nil, ownsOK_nil⟩ Tryz.func10 (by kernel_rfl) (by kernel_rfl) (by kernel_rfl)
theorem P_ref20_angles (n : Nat) : PSound Tryz.prog 32 (E_ref20_angles n) := psound_of_body (X := X_ref20_angles n) (fn := Tryz.f32) (ps := [Y36, (.int .i64), (.int .i64)]) (rs := [(.int .i64), Y8, Y8, (.int .i64)]) mixed ⟨ttOK, callsOK_nil, ownsOK_nil⟩ Tryz.func32 (by kernel_rfl) (by kernel_rfl) (by kernel_rfl)
theorem P_ref02_Sqrt (n : Nat) : PSound Tryz.prog 98 (E_ref02_Sqrt n) := psound_of_body (X := X_ref02_Sqrt n) (fn := Tryz.f98) (ps := [(.int .i64)]) (rs := [(.int .i64), (.int .i64)]) mixed ⟨ttOK, callsOK_nil, ownsOK_nil⟩ Tryz.func98 (by kernel_rfl) (by kernel_rfl) (by kernel_rfl)
theorem P_ref09_Root (n : Nat) : PSound Tryz.prog 58 (E_ref09_Root n) := psound_of_body (X := X_ref09_Root n) (fn := Tryz.f58) (ps := [Y37]) (rs := [(.int .i64), (.int .i64)]) mixed ⟨ttOK, callsOK_cons (P_ref02_Sqrt n) (callsOK_nil), ownsOK_nil⟩ Tryz.func58 (by kernel_rfl) (by kernel_rfl) (by kernel_rfl)
theorem P_ref09_Row (n : Nat) : PSound Tryz.prog 33 (E_ref09_Row n) := psound_of_body (X := X_ref09_Row n) (fn := Tryz.f33) (ps := [Y37, Y8]) (rs := [Y8, (.int .i64)]) mixed ⟨ttOK, callsOK_cons (P_ref09_Root n) (callsOK_cons (P_ref02_Round n) (callsOK_cons (P_ref02_Narrow n) (callsOK_nil))), ownsOK_nil⟩ Tryz.func33 (by kernel_rfl) (by kernel_rfl) (by kernel_rfl)
theorem P_ref08_Matrix (n : Nat) : PSound Tryz.prog 71 (E_ref08_Matrix n) := psound_of_body (X := X_ref08_Matrix n) (fn := Tryz.f71) (ps := [Y8, (.int .i64)]) (rs := [(.int .i64)]) mixed ⟨ttOK, callsOK_nil, ownsOK_nil⟩ Tryz.func71 (by kernel_rfl) (by kernel_rfl) (by kernel_rfl)
theorem P_ref08_Dot (n : Nat) : PSound Tryz.prog 72 (E_ref08_Dot n) := psound_of_body (X := X_ref08_Dot n) (fn := Tryz.f72) (ps := [Y8, Y8]) (rs := [(.int .i64), (.int .i64)]) mixed ⟨ttOK, callsOK_nil, ownsOK_nil⟩ Tryz.func72 (by kernel_rfl) (by kernel_rfl) (by kernel_rfl)
theorem P_ref08_Times (n : Nat) : PSound Tryz.prog 40 (E_ref08_Times n) := psound_of_body (X := X_ref08_Times n) (fn := Tryz.f40) (ps := [Y8, (.int .i64), Y8]) (rs := [Y37, (.int .i64)]) mixed ⟨ttOK, callsOK_cons (P_ref08_Matrix n) (callsOK_cons (P_ref08_Dot n) (callsOK_nil)), ownsOK_nil⟩ Tryz.func40 (by kernel_rfl) (by kernel_rfl) (by kernel_rfl)
theorem P_ref08_Scale (n : Nat) : PSound Tryz.prog 41 (E_ref08_Scale n) := psound_of_body (X := X_ref08_Scale n) (fn := Tryz.f41) (ps := [Y37, (.int .i64)]) (rs := [Y37, (.int .i64)]) mixed ⟨ttOK, callsOK_cons (P_ref02_Round n) (callsOK_nil), ownsOK_nil⟩ Tryz.func41 (by kernel_rfl) (by kernel_rfl) (by kernel_rfl)
theorem P_ref08_Shrink (n : Nat) : PSound Tryz.prog 62 (E_ref08_Shrink n) := psound_of_body (X := X_ref08_Shrink n) (fn := Tryz.f62) (ps := [Y37, (.int .i64)]) (rs := [Y8, (.int .i64)]) mixed ⟨ttOK, callsOK_cons (P_ref08_Scale n) (callsOK_cons (P_ref02_Narrow n) (callsOK_nil)), ownsOK_nil⟩ Tryz.func62 (by kernel_rfl) (by kernel_rfl) (by kernel_rfl)
theorem P_ref20_through (n : Nat) : PSound Tryz.prog 35 (E_ref20_through n) := psound_of_body (X := X_ref20_through n) (fn := Tryz.f35) (ps := [Y8, Y8, (.int .i64)]) (rs := [Y8, (.int .i64)]) mixed ⟨ttOK, callsOK_cons (P_ref08_Times n) (callsOK_cons (P_ref08_Shrink n) (callsOK_nil)), ownsOK_nil⟩ Tryz.func35 (by kernel_rfl) (by kernel_rfl) (by kernel_rfl)
theorem P_ref10_both (n : Nat) : PSound Tryz.prog 117 (E_ref10_both n) := psound_of_body (X := X_ref10_both n) (fn := Tryz.f117) (ps := [(.int .i64), (.int .i64), (.int .i64), (.int .i64)]) (rs := [(.int .i8), (.int .i8)]) mixed ⟨ttOK, callsOK_cons (P_ref02_Round n) (callsOK_cons (P_ref02_Narrow n) (callsOK_nil)), ownsOK_nil⟩ Tryz.func117 (by kernel_rfl) (by kernel_rfl) (by kernel_rfl)
theorem P_ref10_turned (n : Nat) : PSound Tryz.prog 101 (E_ref10_turned n) := psound_of_body (X := X_ref10_turned n) (fn := Tryz.f101) (ps := [Y8, (.int .i64), Y8, Y8, (.int .i64)]) (rs := [Y8, (.int .i64)]) mixed ⟨ttOK, callsOK_cons (P_ref10_both n) (callsOK_nil), ownsOK_nil⟩ Tryz.func101 (by kernel_rfl) (by kernel_rfl) (by kernel_rfl)
end Go.Am

namespace Go.Am
open Go Go.Proofs
set_option maxRecDepth 100000

theorem F_block_Pass_eq (n : Nat) (a0 : (List Int) × (List Int) × (List Int) × (List Int) × (List Int) × (List Int) × Int × Int × Int × Int × Int × (List Int) × (List Int) × (List Int) × Int × Int × Int) (a1 : Int × (List Int) × (List Int) × (List Int)) (a2 : List (List Int)) (a3 : List ((List Int) × (List Int))) : F_block_Pass n (a0, a1, a2, a3) =
    ((app (48 : Nat) [] a3)).bind fun v1 =>
    (L_block_Pass_4 n n (a3, ((), ((), (v1, ([], (a2, ((((List.length a2) : Nat) : Int), ((0 : Int), ((a0.1, (a0.2.1, (a0.2.2.1, (a0.2.2.2.1, (a0.2.2.2.2.1, (a0.2.2.2.2.2.1, (a0.2.2.2.2.2.2.1, (a0.2.2.2.2.2.2.2.1, (a0.2.2.2.2.2.2.2.2.1, (a0.2.2.2.2.2.2.2.2.2.1, (a0.2.2.2.2.2.2.2.2.2.2.1, (a0.2.2.2.2.2.2.2.2.2.2.2.1, (a0.2.2.2.2.2.2.2.2.2.2.2.2.1, (a0.2.2.2.2.2.2.2.2.2.2.2.2.2.1, (a0.2.2.2.2.2.2.2.2.2.2.2.2.2.2.1, (a0.2.2.2.2.2.2.2.2.2.2.2.2.2.2.2.1, (a0.2.2.2.2.2.2.2.2.2.2.2.2.2.2.2.2, ()))))))))))))))))), ((a1.1, (a1.2.1, (a1.2.2.1, (a1.2.2.2, ())))), ()))))))))))).bind fun v2 =>
    sumk v2
      (fun v3 =>
        some (v3.1, (v3.2.1, v3.2.2.1)))
      (fun v4 =>
        ((slc v4.2.1 (((List.length v4.1) : Nat) : Int) (((List.length v4.2.1) : Nat) : Int))).bind fun v5 =>
        some (v4.2.2.1, (v5, (0 : Int)))) := (by kernel_rfl)

theorem L_block_Pass_4_eq (n k : Nat) (s3 : List ((List Int) × (List Int))) (s11 : List ((List Int) × (List Int))) (s12 : List (List Int)) (s20 : List (List Int)) (s21 : Int) (s22 : Int) (o0_0 : List Int) (o0_1 : List Int) (o0_2 : List Int) (o0_3 : List Int) (o0_4 : List Int) (o0_5 : List Int) (o0_6 : Int) (o0_7 : Int) (o0_8 : Int) (o0_9 : Int) (o0_10 : Int) (o0_11 : List Int) (o0_12 : List Int) (o0_13 : List Int) (o0_14 : Int) (o0_15 : Int) (o0_16 : Int) (o1_0 : Int) (o1_1 : List Int) (o1_2 : List Int) (o1_3 : List Int) : L_block_Pass_4 n (k + 1) (s3, (), (), s11, s12, s20, s21, s22, (o0_0, o0_1, o0_2, o0_3, o0_4, o0_5, o0_6, o0_7, o0_8, o0_9, o0_10, o0_11, o0_12, o0_13, o0_14, o0_15, o0_16, ()), (o1_0, o1_1, o1_2, o1_3, ()), ()) =
    brk (decide (s22 < s21))
      (((idx s20 s22)).bind fun v1 =>
      ((F_block_Keys n ((o0_0, (o0_1, (o0_2, (o0_3, (o0_4, (o0_5, (o0_6, (o0_7, (o0_8, (o0_9, (o0_10, (o0_11, (o0_12, (o0_13, (o0_14, (o0_15, o0_16)))))))))))))))), ((o1_0, (o1_1, (o1_2, o1_3))), (v1, (((List.length s11) : Nat) : Int)))))).bind fun v2 =>
      brk (v2.2 != (0 : Int))
        (some (Sum.inl ([], ([], (v2.2, ())))))
        (((app (48 : Nat) s11 [v2.1])).bind fun v3 =>
        ((F_block_Run n ((o0_0, (o0_1, (o0_2, (o0_3, (o0_4, (o0_5, (o0_6, (o0_7, (o0_8, (o0_9, (o0_10, (o0_11, (o0_12, (o0_13, (o0_14, (o0_15, o0_16)))))))))))))))), ((o1_0, (o1_1, (o1_2, o1_3))), (v1, v3))))).bind fun v4 =>
        brk (v4.2 != (0 : Int))
          (some (Sum.inl ([], ([], (v4.2, ())))))
          (((app (24 : Nat) s12 [v4.1])).bind fun v5 =>
          L_block_Pass_4 n k (s3, ((), ((), (v3, (v5, (s20, (s21, ((IntKind.wrap IntKind.i64 (s22 + (1 : Int))), ((o0_0, (o0_1, (o0_2, (o0_3, (o0_4, (o0_5, (o0_6, (o0_7, (o0_8, (o0_9, (o0_10, (o0_11, (o0_12, (o0_13, (o0_14, (o0_15, (o0_16, ()))))))))))))))))), ((o1_0, (o1_1, (o1_2, (o1_3, ())))), ())))))))))))))
      (some (Sum.inr (s3, (s11, (s12, ()))))) := (by kernel_rfl)

theorem F_ref16_Of_eq (n : Nat) (a0 : (Int × Int × Int × Int × Int × Int) × ((List (List UInt8)) × (List (Int × Int × Int))) × (List Int) × Int × (List Int) × (List Int) × (List ((List Int) × (List Int) × (List Int) × (List Int) × (List Int) × (List Int) × Int × Int × Int × Int × Int × (List Int) × (List Int) × (List Int) × Int × Int × Int)) × (List Int) × (List Int) × (List Int) × Int) : F_ref16_Of n a0 =
    ((F_ref16_own n a0.2.2.1)).bind fun v1 =>
    ((F_ref16_own n a0.2.2.2.2.1)).bind fun v2 =>
    ((F_ref16_own n a0.2.2.2.2.2.1)).bind fun v3 =>
    ((F_ref16_own n a0.2.2.2.2.2.2.2.1)).bind fun v4 =>
    ((F_ref16_own n a0.2.2.2.2.2.2.2.2.1)).bind fun v5 =>
    ((F_ref16_own n a0.2.2.2.2.2.2.2.2.2.1)).bind fun v6 =>
    ((app (16 : Nat) [] a0.2.1.1)).bind fun v7 =>
    (L_ref16_Of_6 n n ((), ((), ((), (a0.2.1.2, ((((List.length a0.2.1.2) : Nat) : Int), ((0 : Int), ((a0.1.1, (a0.1.2.1, (a0.1.2.2.1, (a0.1.2.2.2.1, (a0.1.2.2.2.2.1, (a0.1.2.2.2.2.2, (a0.2.1.1, (a0.2.1.2, (a0.2.2.1, (a0.2.2.2.1, (a0.2.2.2.2.1, (a0.2.2.2.2.2.1, (a0.2.2.2.2.2.2.1, (a0.2.2.2.2.2.2.2.1, (a0.2.2.2.2.2.2.2.2.1, (a0.2.2.2.2.2.2.2.2.2.1, (a0.2.2.2.2.2.2.2.2.2.2, ()))))))))))))))))), (((0 : Int), ((0 : Int), ((0 : Int), ((0 : Int), ((0 : Int), ((0 : Int), ([], ([], ([], ((0 : Int), ([], ([], ([], ([], ([], ([], ((0 : Int), ()))))))))))))))))), ((a0.1.1, (a0.1.2.1, (a0.1.2.2.1, (a0.1.2.2.2.1, (a0.1.2.2.2.2.1, (a0.1.2.2.2.2.2, (v7, ([], (v1, (a0.2.2.2.1, (v2, (v3, ([], (v4, (v5, (v6, (a0.2.2.2.2.2.2.2.2.2.2, ()))))))))))))))))), ())))))))))).bind fun v8 =>
    (L_ref16_Of_11 n n ((), ((), (v8.2.2.2.1.2.2.2.2.2.2.2.2.2.2.2.2.1, ((((List.length v8.2.2.2.1.2.2.2.2.2.2.2.2.2.2.2.2.1) : Nat) : Int), ((0 : Int), (v8.2.2.2.2.1, (v8.2.2.2.2.2.1, ())))))))).bind fun v9 =>
    some ((v9.2.2.2.1.1, (v9.2.2.2.1.2.1, (v9.2.2.2.1.2.2.1, (v9.2.2.2.1.2.2.2.1, (v9.2.2.2.1.2.2.2.2.1, v9.2.2.2.1.2.2.2.2.2.1))))), ((v9.2.2.2.1.2.2.2.2.2.2.1, v9.2.2.2.1.2.2.2.2.2.2.2.1), (v9.2.2.2.1.2.2.2.2.2.2.2.2.1, (v9.2.2.2.1.2.2.2.2.2.2.2.2.2.1, (v9.2.2.2.1.2.2.2.2.2.2.2.2.2.2.1, (v9.2.2.2.1.2.2.2.2.2.2.2.2.2.2.2.1, (v9.2.2.2.1.2.2.2.2.2.2.2.2.2.2.2.2.1, (v9.2.2.2.1.2.2.2.2.2.2.2.2.2.2.2.2.2.1, (v9.2.2.2.1.2.2.2.2.2.2.2.2.2.2.2.2.2.2.1, (v9.2.2.2.1.2.2.2.2.2.2.2.2.2.2.2.2.2.2.2.1, v9.2.2.2.1.2.2.2.2.2.2.2.2.2.2.2.2.2.2.2.2.1)))))))))) := (by kernel_rfl)

theorem L_ref16_Of_6_eq (n k : Nat) (s63 : List (Int × Int × Int)) (s64 : Int) (s65 : Int) (o0_0 : Int) (o0_1 : Int) (o0_2 : Int) (o0_3 : Int) (o0_4 : Int) (o0_5 : Int) (o0_6 : List (List UInt8)) (o0_7 : List (Int × Int × Int)) (o0_8 : List Int) (o0_9 : Int) (o0_10 : List Int) (o0_11 : List Int) (o0_12 : List ((List Int) × (List Int) × (List Int) × (List Int) × (List Int) × (List Int) × Int × Int × Int × Int × Int × (List Int) × (List Int) × (List Int) × Int × Int × Int)) (o0_13 : List Int) (o0_14 : List Int) (o0_15 : List Int) (o0_16 : Int) (o1_0 : Int) (o1_1 : Int) (o1_2 : Int) (o1_3 : Int) (o1_4 : Int) (o1_5 : Int) (o1_6 : List (List UInt8)) (o1_7 : List (Int × Int × Int)) (o1_8 : List Int) (o1_9 : Int) (o1_10 : List Int) (o1_11 : List Int) (o1_12 : List ((List Int) × (List Int) × (List Int) × (List Int) × (List Int) × (List Int) × Int × Int × Int × Int × Int × (List Int) × (List Int) × (List Int) × Int × Int × Int)) (o1_13 : List Int) (o1_14 : List Int) (o1_15 : List Int) (o1_16 : Int) (o24_0 : Int) (o24_1 : Int) (o24_2 : Int) (o24_3 : Int) (o24_4 : Int) (o24_5 : Int) (o24_6 : List (List UInt8)) (o24_7 : List (Int × Int × Int)) (o24_8 : List Int) (o24_9 : Int) (o24_10 : List Int) (o24_11 : List Int) (o24_12 : List ((List Int) × (List Int) × (List Int) × (List Int) × (List Int) × (List Int) × Int × Int × Int × Int × Int × (List Int) × (List Int) × (List Int) × Int × Int × Int)) (o24_13 : List Int) (o24_14 : List Int) (o24_15 : List Int) (o24_16 : Int) : L_ref16_Of_6 n (k + 1) ((), (), (), s63, s64, s65, (o0_0, o0_1, o0_2, o0_3, o0_4, o0_5, o0_6, o0_7, o0_8, o0_9, o0_10, o0_11, o0_12, o0_13, o0_14, o0_15, o0_16, ()), (o1_0, o1_1, o1_2, o1_3, o1_4, o1_5, o1_6, o1_7, o1_8, o1_9, o1_10, o1_11, o1_12, o1_13, o1_14, o1_15, o1_16, ()), (o24_0, o24_1, o24_2, o24_3, o24_4, o24_5, o24_6, o24_7, o24_8, o24_9, o24_10, o24_11, o24_12, o24_13, o24_14, o24_15, o24_16, ()), ()) =
    brk (decide (s65 < s64))
      (((idx s63 s65)).bind fun v1 =>
      ((app (24 : Nat) o24_7 [v1])).bind fun v2 =>
      L_ref16_Of_6 n k ((), ((), ((), (s63, (s64, ((IntKind.wrap IntKind.i64 (s65 + (1 : Int))), ((o0_0, (o0_1, (o0_2, (o0_3, (o0_4, (o0_5, (o0_6, (o0_7, (o0_8, (o0_9, (o0_10, (o0_11, (o0_12, (o0_13, (o0_14, (o0_15, (o0_16, ()))))))))))))))))), ((o1_0, (o1_1, (o1_2, (o1_3, (o1_4, (o1_5, (o1_6, (o1_7, (o1_8, (o1_9, (o1_10, (o1_11, (o1_12, (o1_13, (o1_14, (o1_15, (o1_16, ()))))))))))))))))), ((o24_0, (o24_1, (o24_2, (o24_3, (o24_4, (o24_5, (o24_6, (v2, (o24_8, (o24_9, (o24_10, (o24_11, (o24_12, (o24_13, (o24_14, (o24_15, (o24_16, ()))))))))))))))))), ()))))))))))
      (some ((), ((), ((), ((o0_0, (o0_1, (o0_2, (o0_3, (o0_4, (o0_5, (o0_6, (o0_7, (o0_8, (o0_9, (o0_10, (o0_11, (o0_12, (o0_13, (o0_14, (o0_15, (o0_16, ()))))))))))))))))), ((o1_0, (o1_1, (o1_2, (o1_3, (o1_4, (o1_5, (o1_6, (o1_7, (o1_8, (o1_9, (o1_10, (o1_11, (o1_12, (o1_13, (o1_14, (o1_15, (o1_16, ()))))))))))))))))), ((o24_0, (o24_1, (o24_2, (o24_3, (o24_4, (o24_5, (o24_6, (o24_7, (o24_8, (o24_9, (o24_10, (o24_11, (o24_12, (o24_13, (o24_14, (o24_15, (o24_16, ()))))))))))))))))), ()))))))) := (by kernel_rfl)

theorem L_ref16_Of_11_eq (n k : Nat) (s85 : List ((List Int) × (List Int) × (List Int) × (List Int) × (List Int) × (List Int) × Int × Int × Int × Int × Int × (List Int) × (List Int) × (List Int) × Int × Int × Int)) (s86 : Int) (s87 : Int) (o1_0 : Int) (o1_1 : Int) (o1_2 : Int) (o1_3 : Int) (o1_4 : Int) (o1_5 : Int) (o1_6 : List (List UInt8)) (o1_7 : List (Int × Int × Int)) (o1_8 : List Int) (o1_9 : Int) (o1_10 : List Int) (o1_11 : List Int) (o1_12 : List ((List Int) × (List Int) × (List Int) × (List Int) × (List Int) × (List Int) × Int × Int × Int × Int × Int × (List Int) × (List Int) × (List Int) × Int × Int × Int)) (o1_13 : List Int) (o1_14 : List Int) (o1_15 : List Int) (o1_16 : Int) (o24_0 : Int) (o24_1 : Int) (o24_2 : Int) (o24_3 : Int) (o24_4 : Int) (o24_5 : Int) (o24_6 : List (List UInt8)) (o24_7 : List (Int × Int × Int)) (o24_8 : List Int) (o24_9 : Int) (o24_10 : List Int) (o24_11 : List Int) (o24_12 : List ((List Int) × (List Int) × (List Int) × (List Int) × (List Int) × (List Int) × Int × Int × Int × Int × Int × (List Int) × (List Int) × (List Int) × Int × Int × Int)) (o24_13 : List Int) (o24_14 : List Int) (o24_15 : List Int) (o24_16 : Int) : L_ref16_Of_11 n (k + 1) ((), (), s85, s86, s87, (o1_0, o1_1, o1_2, o1_3, o1_4, o1_5, o1_6, o1_7, o1_8, o1_9, o1_10, o1_11, o1_12, o1_13, o1_14, o1_15, o1_16, ()), (o24_0, o24_1, o24_2, o24_3, o24_4, o24_5, o24_6, o24_7, o24_8, o24_9, o24_10, o24_11, o24_12, o24_13, o24_14, o24_15, o24_16, ()), ()) =
    brk (decide (s87 < s86))
      (((idx s85 s87)).bind fun v1 =>
      ((F_ref16_own n v1.1)).bind fun v2 =>
      ((F_ref16_own n v1.2.1)).bind fun v3 =>
      ((F_ref16_own n v1.2.2.1)).bind fun v4 =>
      ((F_ref16_own n v1.2.2.2.1)).bind fun v5 =>
      ((F_ref16_own n v1.2.2.2.2.1)).bind fun v6 =>
      ((F_ref16_own n v1.2.2.2.2.2.1)).bind fun v7 =>
      ((F_ref16_own n v1.2.2.2.2.2.2.2.2.2.2.2.1)).bind fun v8 =>
      ((F_ref16_own n v1.2.2.2.2.2.2.2.2.2.2.2.2.1)).bind fun v9 =>
      ((F_ref16_own n v1.2.2.2.2.2.2.2.2.2.2.2.2.2.1)).bind fun v10 =>
      ((app (280 : Nat) o24_12 [(v2, (v3, (v4, (v5, (v6, (v7, (v1.2.2.2.2.2.2.1, (v1.2.2.2.2.2.2.2.1, (v1.2.2.2.2.2.2.2.2.1, (v1.2.2.2.2.2.2.2.2.2.1, (v1.2.2.2.2.2.2.2.2.2.2.1, (v8, (v9, (v10, v1.2.2.2.2.2.2.2.2.2.2.2.2.2.2))))))))))))))])).bind fun v11 =>
      L_ref16_Of_11 n k ((), ((), (s85, (s86, ((IntKind.wrap IntKind.i64 (s87 + (1 : Int))), ((o1_0, (o1_1, (o1_2, (o1_3, (o1_4, (o1_5, (o1_6, (o1_7, (o1_8, (o1_9, (o1_10, (o1_11, (o1_12, (o1_13, (o1_14, (o1_15, (o1_16, ()))))))))))))))))), ((o24_0, (o24_1, (o24_2, (o24_3, (o24_4, (o24_5, (o24_6, (o24_7, (o24_8, (o24_9, (o24_10, (o24_11, (v11, (o24_13, (o24_14, (o24_15, (o24_16, ()))))))))))))))))), ()))))))))
      (some ((), ((), ((o1_0, (o1_1, (o1_2, (o1_3, (o1_4, (o1_5, (o1_6, (o1_7, (o1_8, (o1_9, (o1_10, (o1_11, (o1_12, (o1_13, (o1_14, (o1_15, (o1_16, ()))))))))))))))))), ((o24_0, (o24_1, (o24_2, (o24_3, (o24_4, (o24_5, (o24_6, (o24_7, (o24_8, (o24_9, (o24_10, (o24_11, (o24_12, (o24_13, (o24_14, (o24_15, (o24_16, ()))))))))))))))))), ()))))) := (by kernel_rfl)

theorem F_law20_plain_eq (n : Nat) (a0 : (List Int) × (List Int) × (List Int) × (List Int) × (List Int) × (List Int) × Int × Int × Int × Int × Int × (List Int) × (List Int) × (List Int) × Int × Int × Int) : F_law20_plain n a0 =
    ((F_ref16_Of n (((0 : Int), ((0 : Int), ((0 : Int), ((0 : Int), ((0 : Int), (0 : Int)))))), (([], []), ([], ((0 : Int), ([], ([], ([a0], ([], ([], ([], (0 : Int))))))))))))).bind fun v1 =>
    ((idx v1.2.2.2.2.2.2.1 (0 : Int))).bind fun v2 =>
    some v2 := (by kernel_rfl)

theorem F_law20_frame_eq (n : Nat) (a0 : Int × (List Int) × (List Int) × (List Int)) : F_law20_frame n a0 =
    ((app (1 : Nat) [] a0.2.1)).bind fun v1 =>
    ((app (1 : Nat) [] a0.2.2.1)).bind fun v2 =>
    ((app (1 : Nat) [] a0.2.2.2)).bind fun v3 =>
    some (a0.1, (v1, (v2, v3))) := (by kernel_rfl)

theorem F_ref20_angles_eq (n : Nat) (a0 : Int × (List Int) × (List Int) × (List Int)) (a1 : Int) (a2 : Int) : F_ref20_angles n (a0, a1, a2) =
    brk (decide (a0.1 < (1 : Int)))
      (some ((0 : Int), ([], ([], (200 : Int)))))
      (((rm a1 a0.1)).bind fun v1 =>
      brk (v1 != (0 : Int))
        (some ((0 : Int), ([], ([], (200 : Int)))))
        (((qt IntKind.i64 a1 a0.1)).bind fun v2 =>
        brk (decide (v2 < (2 : Int)))
          (some ((0 : Int), ([], ([], (200 : Int)))))
          (((qt IntKind.i64 a1 a0.1)).bind fun v3 =>
          ((rm v3 (2 : Int))).bind fun v4 =>
          brk (v4 != (0 : Int))
            (some ((0 : Int), ([], ([], (200 : Int)))))
            (((qt IntKind.i64 a1 a0.1)).bind fun v5 =>
            ((qt IntKind.i64 v5 (2 : Int))).bind fun v6 =>
            brk (decide (a2 < (0 : Int)))
              (some ((0 : Int), ([], ([], (201 : Int)))))
              (((qt IntKind.i64 (((List.length a0.2.1) : Nat) : Int) v6)).bind fun v7 =>
              brk (decide (a2 ≥ v7))
                (some ((0 : Int), ([], ([], (201 : Int)))))
                (((qt IntKind.i64 (((List.length a0.2.2.1) : Nat) : Int) v6)).bind fun v8 =>
                brk (decide (a2 ≥ v8))
                  (some ((0 : Int), ([], ([], (201 : Int)))))
                  (((slc a0.2.1 (IntKind.wrap IntKind.i64 (a2 * v6)) (IntKind.wrap IntKind.i64 ((IntKind.wrap IntKind.i64 (a2 * v6)) + v6)))).bind fun v9 =>
                  ((slc a0.2.2.1 (IntKind.wrap IntKind.i64 (a2 * v6)) (IntKind.wrap IntKind.i64 ((IntKind.wrap IntKind.i64 (a2 * v6)) + v6)))).bind fun v10 =>
                  some ((IntKind.wrap IntKind.i64 ((2 : Int) * v6)), (v9, (v10, (0 : Int))))))))))) := (by kernel_rfl)

theorem F_ref02_Sqrt_eq (n : Nat) (a0 : Int) : F_ref02_Sqrt n a0 =
    brk (decide (a0 < (0 : Int)))
      (some ((0 : Int), (22 : Int)))
      ((L_ref02_Sqrt_5 n n (a0, ((0 : Int), ((2147483648 : Int), ())))).bind fun v1 =>
      some (v1.1, (0 : Int))) := (by kernel_rfl)

theorem L_ref02_Sqrt_5_eq (n k : Nat) (s0 : Int) (s4 : Int) (s5 : Int) : L_ref02_Sqrt_5 n (k + 1) (s0, s4, s5, ()) =
    brk (decide (s5 > (0 : Int)))
      (brk (decide ((IntKind.wrap IntKind.i64 (s4 + s5)) ≤ (3037000499 : Int)))
        ((brk (decide ((IntKind.wrap IntKind.i64 ((IntKind.wrap IntKind.i64 (s4 + s5)) * (IntKind.wrap IntKind.i64 (s4 + s5)))) ≤ s0))
            (some (s0, ((IntKind.wrap IntKind.i64 (s4 + s5)), (s5, ()))))
            (some (s0, (s4, (s5, ()))))).bind fun v1 =>
        ((qt IntKind.i64 v1.2.2.1 (2 : Int))).bind fun v2 =>
        L_ref02_Sqrt_5 n k (v1.1, (v1.2.1, (v2, ()))))
        ((some (s0, (s4, (s5, ())))).bind fun v3 =>
        ((qt IntKind.i64 v3.2.2.1 (2 : Int))).bind fun v4 =>
        L_ref02_Sqrt_5 n k (v3.1, (v3.2.1, (v4, ())))))
      (some (s4, ())) := (by kernel_rfl)

theorem F_ref09_Root_eq (n : Nat) (a0 : List Int) : F_ref09_Root n a0 =
    brk (decide ((((List.length a0) : Nat) : Int) < (1 : Int)))
      (some ((0 : Int), (1 : Int)))
      (brk (decide ((((List.length a0) : Nat) : Int) > (64 : Int)))
        (some ((0 : Int), (1 : Int)))
        ((L_ref09_Root_5 n n (a0, ((0 : Int), ((0 : Int), ())))).bind fun v1 =>
        sumk v1
          (fun v2 =>
            some (v2.1, v2.2.1))
          (fun v3 =>
            ((qt IntKind.i64 v3.2.1 (((List.length v3.1) : Nat) : Int))).bind fun v4 =>
            ((F_ref02_Sqrt n v4)).bind fun v5 =>
            (brk (v5.1 == (0 : Int))
                (some ((1 : Int), ()))
                (some (v5.1, ()))).bind fun v6 =>
            some (v6.1, (0 : Int))))) := (by kernel_rfl)

theorem L_ref09_Root_5_eq (n k : Nat) (s0 : List Int) (s4 : Int) (s5 : Int) : L_ref09_Root_5 n (k + 1) (s0, s4, s5, ()) =
    brk (decide (s5 < (((List.length s0) : Nat) : Int)))
      (((idx s0 s5)).bind fun v1 =>
      brk (decide (v1 > (268435456 : Int)))
        (some (Sum.inl ((0 : Int), ((90 : Int), ()))))
        (((idx s0 s5)).bind fun v2 =>
        brk (decide (v2 < (-(268435456 : Int))))
          (some (Sum.inl ((0 : Int), ((90 : Int), ()))))
          (((idx s0 s5)).bind fun v3 =>
          ((idx s0 s5)).bind fun v4 =>
          L_ref09_Root_5 n k (s0, ((IntKind.wrap IntKind.i64 (s4 + (IntKind.wrap IntKind.i64 (v3 * v4)))), ((IntKind.wrap IntKind.i64 (s5 + (1 : Int))), ()))))))
      (some (Sum.inr (s0, (s4, ())))) := (by kernel_rfl)

theorem F_ref09_Row_eq (n : Nat) (a0 : List Int) (a1 : List Int) : F_ref09_Row n (a0, a1) =
    brk ((((List.length a0) : Nat) : Int) != (((List.length a1) : Nat) : Int))
      (some ([], (1 : Int)))
      (((F_ref09_Root n a0)).bind fun v1 =>
      brk (v1.2 != (0 : Int))
        (some ([], v1.2))
        ((L_ref09_Row_8 n n (a0, (a1, (v1.1, ([], ((0 : Int), ())))))).bind fun v2 =>
        some (v2.1, (0 : Int)))) := (by kernel_rfl)

theorem L_ref09_Row_8_eq (n k : Nat) (s0 : List Int) (s1 : List Int) (s6 : Int) (s8 : List Int) (s9 : Int) : L_ref09_Row_8 n (k + 1) (s0, s1, s6, s8, s9, ()) =
    brk (decide (s9 < (((List.length s0) : Nat) : Int)))
      (((idx s0 s9)).bind fun v1 =>
      (brk (decide (v1 < (0 : Int)))
          (some (s0, (s1, (s6, (s8, (s9, ((IntKind.wrap IntKind.i64 ((0 : Int) - v1)), ())))))))
          (some (s0, (s1, (s6, (s8, (s9, (v1, ())))))))).bind fun v2 =>
      ((qt IntKind.i64 (IntKind.wrap IntKind.i64 ((64 : Int) * v2.2.2.2.2.2.1)) v2.2.2.1)).bind fun v3 =>
      ((idx v2.1 v2.2.2.2.2.1)).bind fun v4 =>
      (brk (decide (v4 < (0 : Int)))
          (some (v2.1, (v2.2.1, (v2.2.2.1, (v2.2.2.2.1, (v2.2.2.2.2.1, ((IntKind.wrap IntKind.i64 ((0 : Int) - v3)), ())))))))
          (some (v2.1, (v2.2.1, (v2.2.2.1, (v2.2.2.2.1, (v2.2.2.2.2.1, (v3, ())))))))).bind fun v5 =>
      ((idx v5.2.1 v5.2.2.2.2.1)).bind fun v6 =>
      ((F_ref02_Round n ((IntKind.wrap IntKind.i64 (v5.2.2.2.2.2.1 * (IntKind.wrap IntKind.i64 v6))), (6 : Int)))).bind fun v7 =>
      ((F_ref02_Narrow n v7.1)).bind fun v8 =>
      ((app (1 : Nat) v5.2.2.2.1 [v8])).bind fun v9 =>
      L_ref09_Row_8 n k (v5.1, (v5.2.1, (v5.2.2.1, (v9, ((IntKind.wrap IntKind.i64 (v5.2.2.2.2.1 + (1 : Int))), ()))))))
      (some (s8, ())) := (by kernel_rfl)

theorem F_ref08_Matrix_eq (n : Nat) (a0 : List Int) (a1 : Int) : F_ref08_Matrix n (a0, a1) =
    brk (decide ((((List.length a0) : Nat) : Int) > (1048576 : Int)))
      (some (81 : Int))
      (brk (decide (a1 < (1 : Int)))
        (some (80 : Int))
        (((rm (((List.length a0) : Nat) : Int) a1)).bind fun v1 =>
        brk (v1 != (0 : Int))
          (some (80 : Int))
          (some (0 : Int)))) := (by kernel_rfl)

theorem F_ref08_Dot_eq (n : Nat) (a0 : List Int) (a1 : List Int) : F_ref08_Dot n (a0, a1) =
    brk (decide ((((List.length a0) : Nat) : Int) > (1048576 : Int)))
      (some ((0 : Int), (81 : Int)))
      (brk (decide ((((List.length a1) : Nat) : Int) > (1048576 : Int)))
        (some ((0 : Int), (81 : Int)))
        (brk ((((List.length a0) : Nat) : Int) != (((List.length a1) : Nat) : Int))
          (some ((0 : Int), (80 : Int)))
          ((L_ref08_Dot_7 n n (a0, (a1, ((0 : Int), ((((List.length a0) : Nat) : Int), ((0 : Int), ())))))).bind fun v1 =>
          some (v1.1, (0 : Int))))) := (by kernel_rfl)

theorem L_ref08_Dot_7_eq (n k : Nat) (s0 : List Int) (s1 : List Int) (s6 : Int) (s22 : Int) (s23 : Int) : L_ref08_Dot_7 n (k + 1) (s0, s1, s6, s22, s23, ()) =
    brk (decide (s23 < s22))
      (((idx s0 s23)).bind fun v1 =>
      ((idx s1 s23)).bind fun v2 =>
      L_ref08_Dot_7 n k (s0, (s1, ((IntKind.wrap IntKind.i64 (s6 + (IntKind.wrap IntKind.i64 ((IntKind.wrap IntKind.i64 v1) * (IntKind.wrap IntKind.i64 v2))))), (s22, ((IntKind.wrap IntKind.i64 (s23 + (1 : Int))), ()))))))
      (some (s6, ())) := (by kernel_rfl)

theorem F_ref08_Times_eq (n : Nat) (a0 : List Int) (a1 : Int) (a2 : List Int) : F_ref08_Times n (a0, a1, a2) =
    ((F_ref08_Matrix n (a0, a1))).bind fun v1 =>
    brk (v1 != (0 : Int))
      (some ([], v1))
      (brk ((((List.length a2) : Nat) : Int) != a1)
        (some ([], (80 : Int)))
        ((L_ref08_Times_8 n n (a0, (a1, (a2, ([], ((0 : Int), ())))))).bind fun v2 =>
        some (v2.1, (0 : Int)))) := (by kernel_rfl)

theorem L_ref08_Times_8_eq (n k : Nat) (s0 : List Int) (s1 : Int) (s2 : List Int) (s9 : List Int) (s10 : Int) : L_ref08_Times_8 n (k + 1) (s0, s1, s2, s9, s10, ()) =
    brk (decide (s10 < (((List.length s0) : Nat) : Int)))
      (((slc s0 s10 (IntKind.wrap IntKind.i64 (s10 + s1)))).bind fun v1 =>
      ((F_ref08_Dot n (v1, s2))).bind fun v2 =>
      ((app (8 : Nat) s9 [v2.1])).bind fun v3 =>
      L_ref08_Times_8 n k (s0, (s1, (s2, (v3, ((IntKind.wrap IntKind.i64 (s10 + s1)), ()))))))
      (some (s9, ())) := (by kernel_rfl)

theorem F_ref08_Scale_eq (n : Nat) (a0 : List Int) (a1 : Int) : F_ref08_Scale n (a0, a1) =
    brk (decide ((((List.length a0) : Nat) : Int) > (1048576 : Int)))
      (some ([], (81 : Int)))
      (brk (decide (a1 < (0 : Int)))
        (some ([], (20 : Int)))
        (brk (decide (a1 > (62 : Int)))
          (some ([], (20 : Int)))
          ((L_ref08_Scale_7 n n (a1, ([], (a0, ((((List.length a0) : Nat) : Int), ((0 : Int), ())))))).bind fun v1 =>
          some (v1.1, (0 : Int))))) := (by kernel_rfl)

theorem L_ref08_Scale_7_eq (n k : Nat) (s1 : Int) (s6 : List Int) (s21 : List Int) (s22 : Int) (s23 : Int) : L_ref08_Scale_7 n (k + 1) (s1, s6, s21, s22, s23, ()) =
    brk (decide (s23 < s22))
      (((idx s21 s23)).bind fun v1 =>
      ((F_ref02_Round n (v1, s1))).bind fun v2 =>
      ((app (8 : Nat) s6 [v2.1])).bind fun v3 =>
      L_ref08_Scale_7 n k (s1, (v3, (s21, (s22, ((IntKind.wrap IntKind.i64 (s23 + (1 : Int))), ()))))))
      (some (s6, ())) := (by kernel_rfl)

theorem F_ref08_Shrink_eq (n : Nat) (a0 : List Int) (a1 : Int) : F_ref08_Shrink n (a0, a1) =
    ((F_ref08_Scale n (a0, a1))).bind fun v1 =>
    (L_ref08_Shrink_4 n n (v1.2, ([], (v1.1, ((((List.length v1.1) : Nat) : Int), ((0 : Int), ())))))).bind fun v2 =>
    some (v2.2.1, v2.1) := (by kernel_rfl)

theorem L_ref08_Shrink_4_eq (n k : Nat) (s7 : Int) (s8 : List Int) (s18 : List Int) (s19 : Int) (s20 : Int) : L_ref08_Shrink_4 n (k + 1) (s7, s8, s18, s19, s20, ()) =
    brk (decide (s20 < s19))
      (((idx s18 s20)).bind fun v1 =>
      ((F_ref02_Narrow n v1)).bind fun v2 =>
      ((app (1 : Nat) s8 [v2])).bind fun v3 =>
      L_ref08_Shrink_4 n k (s7, (v3, (s18, (s19, ((IntKind.wrap IntKind.i64 (s20 + (1 : Int))), ()))))))
      (some (s7, (s8, ()))) := (by kernel_rfl)

theorem F_ref20_through_eq (n : Nat) (a0 : List Int) (a1 : List Int) (a2 : Int) : F_ref20_through n (a0, a1, a2) =
    ((F_ref08_Times n (a0, ((((List.length a1) : Nat) : Int), a1)))).bind fun v1 =>
    brk (v1.2 != (0 : Int))
      (some ([], v1.2))
      (((F_ref08_Shrink n (v1.1, a2))).bind fun v2 =>
      some v2) := (by kernel_rfl)

theorem F_ref10_both_eq (n : Nat) (a0 : Int) (a1 : Int) (a2 : Int) (a3 : Int) : F_ref10_both n (a0, a1, a2, a3) =
    ((F_ref02_Round n ((IntKind.wrap IntKind.i64 ((IntKind.wrap IntKind.i64 (a0 * a2)) + (IntKind.wrap IntKind.i64 (a1 * a3)))), (6 : Int)))).bind fun v1 =>
    ((F_ref02_Round n ((IntKind.wrap IntKind.i64 ((IntKind.wrap IntKind.i64 (a1 * a2)) - (IntKind.wrap IntKind.i64 (a0 * a3)))), (6 : Int)))).bind fun v2 =>
    ((F_ref02_Narrow n v1.1)).bind fun v3 =>
    ((F_ref02_Narrow n v2.1)).bind fun v4 =>
    some (v3, v4) := (by kernel_rfl)

theorem F_ref10_turned_eq (n : Nat) (a0 : List Int) (a1 : Int) (a2 : List Int) (a3 : List Int) (a4 : Int) : F_ref10_turned n (a0, a1, a2, a3, a4) =
    brk (decide (a1 < (2 : Int)))
      (some ([], (100 : Int)))
      (((rm a1 (2 : Int))).bind fun v1 =>
      brk (v1 != (0 : Int))
        (some ([], (100 : Int)))
        (((rm (((List.length a0) : Nat) : Int) a1)).bind fun v2 =>
        brk (v2 != (0 : Int))
          (some ([], (100 : Int)))
          (((qt IntKind.i64 a1 (2 : Int))).bind fun v3 =>
          brk ((((List.length a2) : Nat) : Int) != v3)
            (some ([], (101 : Int)))
            (((qt IntKind.i64 a1 (2 : Int))).bind fun v4 =>
            brk ((((List.length a3) : Nat) : Int) != v4)
              (some ([], (101 : Int)))
              ((L_ref10_turned_7 n n (a0, (a1, (a2, (a3, (a4, ([], ((0 : Int), ())))))))).bind fun v5 =>
              some (v5.1, (0 : Int))))))) := (by kernel_rfl)

theorem L_ref10_turned_7_eq (n k : Nat) (s0 : List Int) (s1 : Int) (s2 : List Int) (s3 : List Int) (s4 : Int) (s12 : List Int) (s13 : Int) : L_ref10_turned_7 n (k + 1) (s0, s1, s2, s3, s4, s12, s13, ()) =
    brk (decide (s13 < (((List.length s0) : Nat) : Int)))
      (((rm s13 s1)).bind fun v1 =>
      ((qt IntKind.i64 v1 (2 : Int))).bind fun v2 =>
      ((idx s0 s13)).bind fun v3 =>
      ((idx s0 (IntKind.wrap IntKind.i64 (s13 + (1 : Int))))).bind fun v4 =>
      ((idx s2 v2)).bind fun v5 =>
      ((idx s3 v2)).bind fun v6 =>
      ((F_ref10_both n ((IntKind.wrap IntKind.i64 v3), ((IntKind.wrap IntKind.i64 v4), ((IntKind.wrap IntKind.i64 v5), (IntKind.wrap IntKind.i64 (s4 * (IntKind.wrap IntKind.i64 v6)))))))).bind fun v7 =>
      ((app (1 : Nat) s12 [v7.1, v7.2])).bind fun v8 =>
      L_ref10_turned_7 n k (s0, (s1, (s2, (s3, (s4, (v8, ((IntKind.wrap IntKind.i64 (s13 + (2 : Int))), ()))))))))
      (some (s12, ())) := (by kernel_rfl)

end Go.Am
