import Derived.Test.YtfafklfpikjheaaGreatS6
import Derived.Test.YtfafklfpikjheaaGreatD7
import Derived.KernelRfl
set_option linter.unusedVariables false
set_option linter.unusedSimpArgs false
namespace Go.Am
open Go Go.Proofs

theorem P_law20_BlockPasses (n : Nat) : PSound Tryz.prog 4 (E_law20_BlockPasses n) := psound_of_body (X := X_law20_BlockPasses n) (fn := Tryz.f4) (ps := [Y43, Y38]) (rs := [.bool]) mixed ⟨ttOK, callsOK_cons (P_law20_awake n) (callsOK_cons (P_law20_plain n) (callsOK_cons (P_law20_frame n) (callsOK_cons (P_law20_past n) (callsOK_cons (P_block_Pass n) (callsOK_cons (P_ref20_Pass n) (callsOK_cons (P_law20_rows n) (callsOK_cons (P_law20_same n) (callsOK_cons (P_law20_Given_stays n) (callsOK_nil))))))))), ownsOK_nil⟩ Tryz.func4 (by kernel_rfl) (by kernel_rfl) (by kernel_rfl)
theorem P_law20_BlockOnes (n : Nat) : PSound Tryz.prog 5 (E_law20_BlockOnes n) := psound_of_body (X := X_law20_BlockOnes n) (fn := Tryz.f5) (ps := [Y43, Y38, (.int .i64)]) (rs := [.bool]) mixed ⟨ttOK, callsOK_cons (P_law20_awake n) (callsOK_cons (P_block_Pass n) (callsOK_cons (P_law20_plain n) (callsOK_cons (P_law20_frame n) (callsOK_cons (P_law20_past n) (callsOK_cons (P_ref20_Pass n) (callsOK_cons (P_block_Keys n) (callsOK_cons (P_law20_row_int8 n) (callsOK_cons (P_block_Run n) (callsOK_cons (P_law20_row_int64 n) (callsOK_cons (P_law20_rows n) (callsOK_nil))))))))))), ownsOK_nil⟩ Tryz.func5 (by kernel_rfl) (by kernel_rfl) (by kernel_rfl)
theorem P_ref13_text (n : Nat) : PSound Tryz.prog 109 (E_ref13_text n) := psound_of_body (X := X_ref13_text n) (fn := Tryz.f109) (ps := [Y7, (.int .i64)]) (rs := [.bool]) mixed ⟨ttOK, callsOK_nil, ownsOK_nil⟩ Tryz.func109 (by kernel_rfl) (by kernel_rfl) (by kernel_rfl)
theorem P_ref13_token (n : Nat) : PSound Tryz.prog 125 (E_ref13_token n) := psound_of_body (X := X_ref13_token n) (fn := Tryz.f125) (ps := [Y7, (.int .i64)]) (rs := [.bool]) mixed ⟨ttOK, callsOK_nil, ownsOK_nil⟩ Tryz.func125 (by kernel_rfl) (by kernel_rfl) (by kernel_rfl)
theorem P_ref13_merge (n : Nat) : PSound Tryz.prog 110 (E_ref13_merge n) := psound_of_body (X := X_ref13_merge n) (fn := Tryz.f110) (ps := [Y7, (.int .i64)]) (rs := [.bool]) mixed ⟨ttOK, callsOK_cons (P_ref13_token n) (callsOK_nil), ownsOK_nil⟩ Tryz.func110 (by kernel_rfl) (by kernel_rfl) (by kernel_rfl)
theorem P_ref13_Check (n : Nat) : PSound Tryz.prog 80 (E_ref13_Check n) := psound_of_body (X := X_ref13_Check n) (fn := Tryz.f80) (ps := [Y7]) (rs := [(.int .i64), (.int .i64)]) mixed ⟨ttOK, callsOK_cons (P_ref13_text n) (callsOK_cons (P_ref13_merge n) (callsOK_nil)), ownsOK_nil⟩ Tryz.func80 (by kernel_rfl) (by kernel_rfl) (by kernel_rfl)
theorem P_ref16_block (n : Nat) : PSound Tryz.prog 83 (E_ref16_block n) := psound_of_body (X := X_ref16_block n) (fn := Tryz.f83) (ps := [Y4, Y22]) (rs := [(.int .i64)]) mixed ⟨ttOK, callsOK_cons (P_ref16_within n) (callsOK_nil), ownsOK_nil⟩ Tryz.func83 (by kernel_rfl) (by kernel_rfl) (by kernel_rfl)
theorem P_ref16_parts (n : Nat) : PSound Tryz.prog 46 (E_ref16_parts n) := psound_of_body (X := X_ref16_parts n) (fn := Tryz.f46) (ps := [Y33]) (rs := [(.int .i64), (.int .i64), (.int .i64)]) mixed ⟨ttOK, callsOK_cons (P_ref16_Check n) (callsOK_cons (P_ref13_Check n) (callsOK_cons (P_ref16_within n) (callsOK_cons (P_ref16_Half n) (callsOK_cons (P_ref16_block n) (callsOK_nil))))), ownsOK_nil⟩ Tryz.func46 (by kernel_rfl) (by kernel_rfl) (by kernel_rfl)
theorem P_ref08_Sizes (n : Nat) : PSound Tryz.prog 111 (E_ref08_Sizes n) := psound_of_body (X := X_ref08_Sizes n) (fn := Tryz.f111) (ps := [Y8, (.int .i64)]) (rs := [Y37, (.int .i64)]) mixed ⟨ttOK, callsOK_cons (P_ref08_Matrix n) (callsOK_nil), ownsOK_nil⟩ Tryz.func111 (by kernel_rfl) (by kernel_rfl) (by kernel_rfl)
theorem P_ref16_most (n : Nat) : PSound Tryz.prog 84 (E_ref16_most n) := psound_of_body (X := X_ref16_most n) (fn := Tryz.f84) (ps := [Y8, (.int .i64), (.int .i64)]) (rs := [(.int .i64)]) mixed ⟨ttOK, callsOK_cons (P_ref08_Sizes n) (callsOK_cons (P_ref02_Round n) (callsOK_nil)), ownsOK_nil⟩ Tryz.func84 (by kernel_rfl) (by kernel_rfl) (by kernel_rfl)
theorem P_ref16_reaches (n : Nat) : PSound Tryz.prog 47 (E_ref16_reaches n) := psound_of_body (X := X_ref16_reaches n) (fn := Tryz.f47) (ps := [Y33]) (rs := [Y37]) mixed ⟨ttOK, callsOK_cons (P_ref16_most n) (callsOK_nil), ownsOK_nil⟩ Tryz.func47 (by kernel_rfl) (by kernel_rfl) (by kernel_rfl)
theorem P_ref16_Valid (n : Nat) : PSound Tryz.prog 24 (E_ref16_Valid n) := psound_of_body (X := X_ref16_Valid n) (fn := Tryz.f24) (ps := [Y33]) (rs := [(.int .i64), (.int .i64), (.int .i64)]) mixed ⟨ttOK, callsOK_cons (P_ref16_parts n) (callsOK_cons (P_ref16_reaches n) (callsOK_nil)), ownsOK_nil⟩ Tryz.func24 (by kernel_rfl) (by kernel_rfl) (by kernel_rfl)
theorem P_ref16_Reaches (n : Nat) : PSound Tryz.prog 26 (E_ref16_Reaches n) := psound_of_body (X := X_ref16_Reaches n) (fn := Tryz.f26) (ps := [Y33]) (rs := [Y37, (.int .i64)]) mixed ⟨ttOK, callsOK_cons (P_ref16_parts n) (callsOK_cons (P_ref16_reaches n) (callsOK_nil)), ownsOK_nil⟩ Tryz.func26 (by kernel_rfl) (by kernel_rfl) (by kernel_rfl)
theorem P_law20_BlockReaches (n : Nat) : PSound Tryz.prog 6 (E_law20_BlockReaches n) := psound_of_body (X := X_law20_BlockReaches n) (fn := Tryz.f6) (ps := [Y33, Y37]) (rs := [.bool]) mixed ⟨ttOK, callsOK_cons (P_law20_awake n) (callsOK_cons (P_ref16_Of n) (callsOK_cons (P_ref16_Valid n) (callsOK_cons (P_ref16_Reaches n) (callsOK_cons (P_block_Pass n) (callsOK_nil))))), ownsOK_nil⟩ Tryz.func6 (by kernel_rfl) (by kernel_rfl) (by kernel_rfl)
end Go.Am

namespace Go.Am
open Go Go.Proofs
set_option maxRecDepth 100000

theorem F_law20_BlockPasses_eq (n : Nat) (a0 : ((List Int) × (List Int) × (List Int) × (List Int) × (List Int) × (List Int) × Int × Int × Int × Int × Int × (List Int) × (List Int) × (List Int) × Int × Int × Int) × (Int × (List Int) × (List Int) × (List Int)) × (List ((List Int) × (List Int)))) (a1 : List (List Int)) : F_law20_BlockPasses n (a0, a1) =
    ((F_law20_awake n ())).bind fun v1 =>
    brk (!v1)
      (some false)
      (((F_law20_plain n a0.1)).bind fun v2 =>
      ((F_law20_frame n a0.2.1)).bind fun v3 =>
      ((F_law20_past n a0.2.2)).bind fun v4 =>
      (L_law20_BlockPasses_6 n n (a1, ((), ((), ((), (v4, ([], (a1, ((((List.length a1) : Nat) : Int), ((0 : Int), ((a0.1.1, (a0.1.2.1, (a0.1.2.2.1, (a0.1.2.2.2.1, (a0.1.2.2.2.2.1, (a0.1.2.2.2.2.2.1, (a0.1.2.2.2.2.2.2.1, (a0.1.2.2.2.2.2.2.2.1, (a0.1.2.2.2.2.2.2.2.2.1, (a0.1.2.2.2.2.2.2.2.2.2.1, (a0.1.2.2.2.2.2.2.2.2.2.2.1, (a0.1.2.2.2.2.2.2.2.2.2.2.2.1, (a0.1.2.2.2.2.2.2.2.2.2.2.2.2.1, (a0.1.2.2.2.2.2.2.2.2.2.2.2.2.2.1, (a0.1.2.2.2.2.2.2.2.2.2.2.2.2.2.2.1, (a0.1.2.2.2.2.2.2.2.2.2.2.2.2.2.2.2.1, (a0.1.2.2.2.2.2.2.2.2.2.2.2.2.2.2.2.2, (a0.2.1.1, (a0.2.1.2.1, (a0.2.1.2.2.1, (a0.2.1.2.2.2, (a0.2.2, ())))))))))))))))))))))), ((v2.1, (v2.2.1, (v2.2.2.1, (v2.2.2.2.1, (v2.2.2.2.2.1, (v2.2.2.2.2.2.1, (v2.2.2.2.2.2.2.1, (v2.2.2.2.2.2.2.2.1, (v2.2.2.2.2.2.2.2.2.1, (v2.2.2.2.2.2.2.2.2.2.1, (v2.2.2.2.2.2.2.2.2.2.2.1, (v2.2.2.2.2.2.2.2.2.2.2.2.1, (v2.2.2.2.2.2.2.2.2.2.2.2.2.1, (v2.2.2.2.2.2.2.2.2.2.2.2.2.2.1, (v2.2.2.2.2.2.2.2.2.2.2.2.2.2.2.1, (v2.2.2.2.2.2.2.2.2.2.2.2.2.2.2.2.1, (v2.2.2.2.2.2.2.2.2.2.2.2.2.2.2.2.2, ()))))))))))))))))), ((v3.1, (v3.2.1, (v3.2.2.1, (v3.2.2.2, ())))), ()))))))))))))).bind fun v5 =>
      ((F_block_Pass n ((v5.2.2.2.2.2.2.1.1, (v5.2.2.2.2.2.2.1.2.1, (v5.2.2.2.2.2.2.1.2.2.1, (v5.2.2.2.2.2.2.1.2.2.2.1, (v5.2.2.2.2.2.2.1.2.2.2.2.1, (v5.2.2.2.2.2.2.1.2.2.2.2.2.1, (v5.2.2.2.2.2.2.1.2.2.2.2.2.2.1, (v5.2.2.2.2.2.2.1.2.2.2.2.2.2.2.1, (v5.2.2.2.2.2.2.1.2.2.2.2.2.2.2.2.1, (v5.2.2.2.2.2.2.1.2.2.2.2.2.2.2.2.2.1, (v5.2.2.2.2.2.2.1.2.2.2.2.2.2.2.2.2.2.1, (v5.2.2.2.2.2.2.1.2.2.2.2.2.2.2.2.2.2.2.1, (v5.2.2.2.2.2.2.1.2.2.2.2.2.2.2.2.2.2.2.2.1, (v5.2.2.2.2.2.2.1.2.2.2.2.2.2.2.2.2.2.2.2.2.1, (v5.2.2.2.2.2.2.1.2.2.2.2.2.2.2.2.2.2.2.2.2.2.1, (v5.2.2.2.2.2.2.1.2.2.2.2.2.2.2.2.2.2.2.2.2.2.2.1, v5.2.2.2.2.2.2.1.2.2.2.2.2.2.2.2.2.2.2.2.2.2.2.2.1)))))))))))))))), ((v5.2.2.2.2.2.2.1.2.2.2.2.2.2.2.2.2.2.2.2.2.2.2.2.2.1, (v5.2.2.2.2.2.2.1.2.2.2.2.2.2.2.2.2.2.2.2.2.2.2.2.2.2.1, (v5.2.2.2.2.2.2.1.2.2.2.2.2.2.2.2.2.2.2.2.2.2.2.2.2.2.2.1, v5.2.2.2.2.2.2.1.2.2.2.2.2.2.2.2.2.2.2.2.2.2.2.2.2.2.2.2.1))), (v5.2.2.2.2.2.1, v5.2.2.2.2.2.2.1.2.2.2.2.2.2.2.2.2.2.2.2.2.2.2.2.2.2.2.2.2.1))))).bind fun v6 =>
      ((F_ref20_Pass n ((v5.2.2.2.2.2.2.2.1.1, (v5.2.2.2.2.2.2.2.1.2.1, (v5.2.2.2.2.2.2.2.1.2.2.1, (v5.2.2.2.2.2.2.2.1.2.2.2.1, (v5.2.2.2.2.2.2.2.1.2.2.2.2.1, (v5.2.2.2.2.2.2.2.1.2.2.2.2.2.1, (v5.2.2.2.2.2.2.2.1.2.2.2.2.2.2.1, (v5.2.2.2.2.2.2.2.1.2.2.2.2.2.2.2.1, (v5.2.2.2.2.2.2.2.1.2.2.2.2.2.2.2.2.1, (v5.2.2.2.2.2.2.2.1.2.2.2.2.2.2.2.2.2.1, (v5.2.2.2.2.2.2.2.1.2.2.2.2.2.2.2.2.2.2.1, (v5.2.2.2.2.2.2.2.1.2.2.2.2.2.2.2.2.2.2.2.1, (v5.2.2.2.2.2.2.2.1.2.2.2.2.2.2.2.2.2.2.2.2.1, (v5.2.2.2.2.2.2.2.1.2.2.2.2.2.2.2.2.2.2.2.2.2.1, (v5.2.2.2.2.2.2.2.1.2.2.2.2.2.2.2.2.2.2.2.2.2.2.1, (v5.2.2.2.2.2.2.2.1.2.2.2.2.2.2.2.2.2.2.2.2.2.2.2.1, v5.2.2.2.2.2.2.2.1.2.2.2.2.2.2.2.2.2.2.2.2.2.2.2.2.1)))))))))))))))), ((v5.2.2.2.2.2.2.2.2.1.1, (v5.2.2.2.2.2.2.2.2.1.2.1, (v5.2.2.2.2.2.2.2.2.1.2.2.1, v5.2.2.2.2.2.2.2.2.1.2.2.2.1))), (v5.1, v5.2.2.2.2.1))))).bind fun v7 =>
      ((F_law20_rows n (v6.1, v7.1))).bind fun v8 =>
      brk v8
        (((F_law20_same n (v6.2.1, v7.2.1))).bind fun v9 =>
        brk v9
          (brk (v6.2.2 == v7.2.2)
            (((F_law20_rows n (v5.2.2.2.2.2.1, v5.1))).bind fun v10 =>
            brk v10
              (((F_law20_Given_stays n (((v5.2.2.2.2.2.2.1.1, (v5.2.2.2.2.2.2.1.2.1, (v5.2.2.2.2.2.2.1.2.2.1, (v5.2.2.2.2.2.2.1.2.2.2.1, (v5.2.2.2.2.2.2.1.2.2.2.2.1, (v5.2.2.2.2.2.2.1.2.2.2.2.2.1, (v5.2.2.2.2.2.2.1.2.2.2.2.2.2.1, (v5.2.2.2.2.2.2.1.2.2.2.2.2.2.2.1, (v5.2.2.2.2.2.2.1.2.2.2.2.2.2.2.2.1, (v5.2.2.2.2.2.2.1.2.2.2.2.2.2.2.2.2.1, (v5.2.2.2.2.2.2.1.2.2.2.2.2.2.2.2.2.2.1, (v5.2.2.2.2.2.2.1.2.2.2.2.2.2.2.2.2.2.2.1, (v5.2.2.2.2.2.2.1.2.2.2.2.2.2.2.2.2.2.2.2.1, (v5.2.2.2.2.2.2.1.2.2.2.2.2.2.2.2.2.2.2.2.2.1, (v5.2.2.2.2.2.2.1.2.2.2.2.2.2.2.2.2.2.2.2.2.2.1, (v5.2.2.2.2.2.2.1.2.2.2.2.2.2.2.2.2.2.2.2.2.2.2.1, v5.2.2.2.2.2.2.1.2.2.2.2.2.2.2.2.2.2.2.2.2.2.2.2.1)))))))))))))))), ((v5.2.2.2.2.2.2.1.2.2.2.2.2.2.2.2.2.2.2.2.2.2.2.2.2.1, (v5.2.2.2.2.2.2.1.2.2.2.2.2.2.2.2.2.2.2.2.2.2.2.2.2.2.1, (v5.2.2.2.2.2.2.1.2.2.2.2.2.2.2.2.2.2.2.2.2.2.2.2.2.2.2.1, v5.2.2.2.2.2.2.1.2.2.2.2.2.2.2.2.2.2.2.2.2.2.2.2.2.2.2.2.1))), v5.2.2.2.2.2.2.1.2.2.2.2.2.2.2.2.2.2.2.2.2.2.2.2.2.2.2.2.2.1)), ((v5.2.2.2.2.2.2.2.1.1, (v5.2.2.2.2.2.2.2.1.2.1, (v5.2.2.2.2.2.2.2.1.2.2.1, (v5.2.2.2.2.2.2.2.1.2.2.2.1, (v5.2.2.2.2.2.2.2.1.2.2.2.2.1, (v5.2.2.2.2.2.2.2.1.2.2.2.2.2.1, (v5.2.2.2.2.2.2.2.1.2.2.2.2.2.2.1, (v5.2.2.2.2.2.2.2.1.2.2.2.2.2.2.2.1, (v5.2.2.2.2.2.2.2.1.2.2.2.2.2.2.2.2.1, (v5.2.2.2.2.2.2.2.1.2.2.2.2.2.2.2.2.2.1, (v5.2.2.2.2.2.2.2.1.2.2.2.2.2.2.2.2.2.2.1, (v5.2.2.2.2.2.2.2.1.2.2.2.2.2.2.2.2.2.2.2.1, (v5.2.2.2.2.2.2.2.1.2.2.2.2.2.2.2.2.2.2.2.2.1, (v5.2.2.2.2.2.2.2.1.2.2.2.2.2.2.2.2.2.2.2.2.2.1, (v5.2.2.2.2.2.2.2.1.2.2.2.2.2.2.2.2.2.2.2.2.2.2.1, (v5.2.2.2.2.2.2.2.1.2.2.2.2.2.2.2.2.2.2.2.2.2.2.2.1, v5.2.2.2.2.2.2.2.1.2.2.2.2.2.2.2.2.2.2.2.2.2.2.2.2.1)))))))))))))))), ((v5.2.2.2.2.2.2.2.2.1.1, (v5.2.2.2.2.2.2.2.2.1.2.1, (v5.2.2.2.2.2.2.2.2.1.2.2.1, v5.2.2.2.2.2.2.2.2.1.2.2.2.1))), v5.2.2.2.2.1))))).bind fun v11 =>
              some v11)
              (some false))
            (some false))
          (some false))
        (some false)) := (by kernel_rfl)

theorem L_law20_BlockPasses_6_eq (n k : Nat) (s1 : List (List Int)) (s7 : List ((List Int) × (List Int))) (s8 : List (List Int)) (s28 : List (List Int)) (s29 : Int) (s30 : Int) (o0_0 : List Int) (o0_1 : List Int) (o0_2 : List Int) (o0_3 : List Int) (o0_4 : List Int) (o0_5 : List Int) (o0_6 : Int) (o0_7 : Int) (o0_8 : Int) (o0_9 : Int) (o0_10 : Int) (o0_11 : List Int) (o0_12 : List Int) (o0_13 : List Int) (o0_14 : Int) (o0_15 : Int) (o0_16 : Int) (o0_17 : Int) (o0_18 : List Int) (o0_19 : List Int) (o0_20 : List Int) (o0_21 : List ((List Int) × (List Int))) (o13_0 : List Int) (o13_1 : List Int) (o13_2 : List Int) (o13_3 : List Int) (o13_4 : List Int) (o13_5 : List Int) (o13_6 : Int) (o13_7 : Int) (o13_8 : Int) (o13_9 : Int) (o13_10 : Int) (o13_11 : List Int) (o13_12 : List Int) (o13_13 : List Int) (o13_14 : Int) (o13_15 : Int) (o13_16 : Int) (o14_0 : Int) (o14_1 : List Int) (o14_2 : List Int) (o14_3 : List Int) : L_law20_BlockPasses_6 n (k + 1) (s1, (), (), (), s7, s8, s28, s29, s30, (o0_0, o0_1, o0_2, o0_3, o0_4, o0_5, o0_6, o0_7, o0_8, o0_9, o0_10, o0_11, o0_12, o0_13, o0_14, o0_15, o0_16, o0_17, o0_18, o0_19, o0_20, o0_21, ()), (o13_0, o13_1, o13_2, o13_3, o13_4, o13_5, o13_6, o13_7, o13_8, o13_9, o13_10, o13_11, o13_12, o13_13, o13_14, o13_15, o13_16, ()), (o14_0, o14_1, o14_2, o14_3, ()), ()) =
    brk (decide (s30 < s29))
      (((idx s28 s30)).bind fun v1 =>
      ((app (8 : Nat) [] v1)).bind fun v2 =>
      ((app (24 : Nat) s8 [v2])).bind fun v3 =>
      L_law20_BlockPasses_6 n k (s1, ((), ((), ((), (s7, (v3, (s28, (s29, ((IntKind.wrap IntKind.i64 (s30 + (1 : Int))), ((o0_0, (o0_1, (o0_2, (o0_3, (o0_4, (o0_5, (o0_6, (o0_7, (o0_8, (o0_9, (o0_10, (o0_11, (o0_12, (o0_13, (o0_14, (o0_15, (o0_16, (o0_17, (o0_18, (o0_19, (o0_20, (o0_21, ())))))))))))))))))))))), ((o13_0, (o13_1, (o13_2, (o13_3, (o13_4, (o13_5, (o13_6, (o13_7, (o13_8, (o13_9, (o13_10, (o13_11, (o13_12, (o13_13, (o13_14, (o13_15, (o13_16, ()))))))))))))))))), ((o14_0, (o14_1, (o14_2, (o14_3, ())))), ())))))))))))))
      (some (s1, ((), ((), ((), (s7, (s8, ((o0_0, (o0_1, (o0_2, (o0_3, (o0_4, (o0_5, (o0_6, (o0_7, (o0_8, (o0_9, (o0_10, (o0_11, (o0_12, (o0_13, (o0_14, (o0_15, (o0_16, (o0_17, (o0_18, (o0_19, (o0_20, (o0_21, ())))))))))))))))))))))), ((o13_0, (o13_1, (o13_2, (o13_3, (o13_4, (o13_5, (o13_6, (o13_7, (o13_8, (o13_9, (o13_10, (o13_11, (o13_12, (o13_13, (o13_14, (o13_15, (o13_16, ()))))))))))))))))), ((o14_0, (o14_1, (o14_2, (o14_3, ())))), ())))))))))) := (by kernel_rfl)

theorem F_law20_BlockOnes_eq (n : Nat) (a0 : ((List Int) × (List Int) × (List Int) × (List Int) × (List Int) × (List Int) × Int × Int × Int × Int × Int × (List Int) × (List Int) × (List Int) × Int × Int × Int) × (Int × (List Int) × (List Int) × (List Int)) × (List ((List Int) × (List Int)))) (a1 : List (List Int)) (a2 : Int) : F_law20_BlockOnes n (a0, a1, a2) =
    ((F_law20_awake n ())).bind fun v1 =>
    brk (!v1)
      (some false)
      (((F_block_Pass n (a0.1, (a0.2.1, (a1, a0.2.2))))).bind fun v2 =>
      brk (v2.2.2 != (0 : Int))
        (((F_law20_plain n a0.1)).bind fun v3 =>
        ((F_law20_frame n a0.2.1)).bind fun v4 =>
        ((F_law20_past n a0.2.2)).bind fun v5 =>
        ((F_ref20_Pass n (v3, (v4, (a1, v5))))).bind fun v6 =>
        brk (v2.2.2 == v6.2.2)
          (brk ((((List.length v2.1) : Nat) : Int) == (0 : Int))
            (some ((((List.length v2.2.1) : Nat) : Int) == (0 : Int)))
            (some false))
          (some false))
        (brk ((((List.length v2.1) : Nat) : Int) != (((List.length a1) : Nat) : Int))
          (some false)
          (brk ((((List.length v2.2.1) : Nat) : Int) != (((List.length a1) : Nat) : Int))
            (some false)
            (((app (48 : Nat) [] a0.2.2)).bind fun v7 =>
            (L_law20_BlockOnes_11 n n (a1, (a2, ((), (v2.1, (v2.2.1, (v7, (a1, ((((List.length a1) : Nat) : Int), ((0 : Int), ((a0.1.1, (a0.1.2.1, (a0.1.2.2.1, (a0.1.2.2.2.1, (a0.1.2.2.2.2.1, (a0.1.2.2.2.2.2.1, (a0.1.2.2.2.2.2.2.1, (a0.1.2.2.2.2.2.2.2.1, (a0.1.2.2.2.2.2.2.2.2.1, (a0.1.2.2.2.2.2.2.2.2.2.1, (a0.1.2.2.2.2.2.2.2.2.2.2.1, (a0.1.2.2.2.2.2.2.2.2.2.2.2.1, (a0.1.2.2.2.2.2.2.2.2.2.2.2.2.1, (a0.1.2.2.2.2.2.2.2.2.2.2.2.2.2.1, (a0.1.2.2.2.2.2.2.2.2.2.2.2.2.2.2.1, (a0.1.2.2.2.2.2.2.2.2.2.2.2.2.2.2.2.1, (a0.1.2.2.2.2.2.2.2.2.2.2.2.2.2.2.2.2, (a0.2.1.1, (a0.2.1.2.1, (a0.2.1.2.2.1, (a0.2.1.2.2.2, (a0.2.2, ())))))))))))))))))))))), ()))))))))))).bind fun v8 =>
            sumk v8
              (fun v9 =>
                some v9.1)
              (fun v10 =>
                brk (decide (v10.2.1 < (0 : Int)))
                  (some true)
                  (brk (decide (v10.2.1 > (((List.length v10.1) : Nat) : Int)))
                    (some true)
                    (((slc v10.1 (0 : Int) v10.2.1)).bind fun v11 =>
                    ((F_block_Pass n ((v10.2.2.2.2.2.1.1, (v10.2.2.2.2.2.1.2.1, (v10.2.2.2.2.2.1.2.2.1, (v10.2.2.2.2.2.1.2.2.2.1, (v10.2.2.2.2.2.1.2.2.2.2.1, (v10.2.2.2.2.2.1.2.2.2.2.2.1, (v10.2.2.2.2.2.1.2.2.2.2.2.2.1, (v10.2.2.2.2.2.1.2.2.2.2.2.2.2.1, (v10.2.2.2.2.2.1.2.2.2.2.2.2.2.2.1, (v10.2.2.2.2.2.1.2.2.2.2.2.2.2.2.2.1, (v10.2.2.2.2.2.1.2.2.2.2.2.2.2.2.2.2.1, (v10.2.2.2.2.2.1.2.2.2.2.2.2.2.2.2.2.2.1, (v10.2.2.2.2.2.1.2.2.2.2.2.2.2.2.2.2.2.2.1, (v10.2.2.2.2.2.1.2.2.2.2.2.2.2.2.2.2.2.2.2.1, (v10.2.2.2.2.2.1.2.2.2.2.2.2.2.2.2.2.2.2.2.2.1, (v10.2.2.2.2.2.1.2.2.2.2.2.2.2.2.2.2.2.2.2.2.2.1, v10.2.2.2.2.2.1.2.2.2.2.2.2.2.2.2.2.2.2.2.2.2.2.1)))))))))))))))), ((v10.2.2.2.2.2.1.2.2.2.2.2.2.2.2.2.2.2.2.2.2.2.2.2.1, (v10.2.2.2.2.2.1.2.2.2.2.2.2.2.2.2.2.2.2.2.2.2.2.2.2.1, (v10.2.2.2.2.2.1.2.2.2.2.2.2.2.2.2.2.2.2.2.2.2.2.2.2.2.1, v10.2.2.2.2.2.1.2.2.2.2.2.2.2.2.2.2.2.2.2.2.2.2.2.2.2.2.1))), (v11, v10.2.2.2.2.2.1.2.2.2.2.2.2.2.2.2.2.2.2.2.2.2.2.2.2.2.2.2.1))))).bind fun v12 =>
                    ((slc v10.1 v10.2.1 (((List.length v10.1) : Nat) : Int))).bind fun v13 =>
                    ((app (48 : Nat) [] v10.2.2.2.2.2.1.2.2.2.2.2.2.2.2.2.2.2.2.2.2.2.2.2.2.2.2.2.1)).bind fun v14 =>
                    ((app (48 : Nat) v14 v12.2.1)).bind fun v15 =>
                    ((F_block_Pass n ((v10.2.2.2.2.2.1.1, (v10.2.2.2.2.2.1.2.1, (v10.2.2.2.2.2.1.2.2.1, (v10.2.2.2.2.2.1.2.2.2.1, (v10.2.2.2.2.2.1.2.2.2.2.1, (v10.2.2.2.2.2.1.2.2.2.2.2.1, (v10.2.2.2.2.2.1.2.2.2.2.2.2.1, (v10.2.2.2.2.2.1.2.2.2.2.2.2.2.1, (v10.2.2.2.2.2.1.2.2.2.2.2.2.2.2.1, (v10.2.2.2.2.2.1.2.2.2.2.2.2.2.2.2.1, (v10.2.2.2.2.2.1.2.2.2.2.2.2.2.2.2.2.1, (v10.2.2.2.2.2.1.2.2.2.2.2.2.2.2.2.2.2.1, (v10.2.2.2.2.2.1.2.2.2.2.2.2.2.2.2.2.2.2.1, (v10.2.2.2.2.2.1.2.2.2.2.2.2.2.2.2.2.2.2.2.1, (v10.2.2.2.2.2.1.2.2.2.2.2.2.2.2.2.2.2.2.2.2.1, (v10.2.2.2.2.2.1.2.2.2.2.2.2.2.2.2.2.2.2.2.2.2.1, v10.2.2.2.2.2.1.2.2.2.2.2.2.2.2.2.2.2.2.2.2.2.2.1)))))))))))))))), ((v10.2.2.2.2.2.1.2.2.2.2.2.2.2.2.2.2.2.2.2.2.2.2.2.1, (v10.2.2.2.2.2.1.2.2.2.2.2.2.2.2.2.2.2.2.2.2.2.2.2.2.1, (v10.2.2.2.2.2.1.2.2.2.2.2.2.2.2.2.2.2.2.2.2.2.2.2.2.2.1, v10.2.2.2.2.2.1.2.2.2.2.2.2.2.2.2.2.2.2.2.2.2.2.2.2.2.2.1))), (v13, v15))))).bind fun v16 =>
                    brk (v12.2.2 != (0 : Int))
                      (some false)
                      (brk (v16.2.2 != (0 : Int))
                        (some false)
                        (((app (24 : Nat) [] v12.1)).bind fun v17 =>
                        ((app (24 : Nat) v17 v16.1)).bind fun v18 =>
                        ((F_law20_rows n (v18, v10.2.2.2.1))).bind fun v19 =>
                        brk (!v19)
                          (some false)
                          (brk ((IntKind.wrap IntKind.i64 ((((List.length v12.2.1) : Nat) : Int) + (((List.length v16.2.1) : Nat) : Int))) != (((List.length v10.2.2.2.2.1) : Nat) : Int))
                            (some false)
                            (((app (48 : Nat) [] v12.2.1)).bind fun v20 =>
                            ((app (48 : Nat) v20 v16.2.1)).bind fun v21 =>
                            (L_law20_BlockOnes_28 n n (v10.2.2.2.2.1, (v21, ((((List.length v21) : Nat) : Int), ((0 : Int), ()))))).bind fun v22 =>
                            sumk v22
                              (fun v23 =>
                                some v23.1)
                              (fun _ =>
                                some true)))))))))))) := (by kernel_rfl)

theorem L_law20_BlockOnes_11_eq (n k : Nat) (s1 : List (List Int)) (s2 : Int) (s7 : List (List Int)) (s8 : List ((List Int) × (List Int))) (s13 : List ((List Int) × (List Int))) (s86 : List (List Int)) (s87 : Int) (s88 : Int) (o0_0 : List Int) (o0_1 : List Int) (o0_2 : List Int) (o0_3 : List Int) (o0_4 : List Int) (o0_5 : List Int) (o0_6 : Int) (o0_7 : Int) (o0_8 : Int) (o0_9 : Int) (o0_10 : Int) (o0_11 : List Int) (o0_12 : List Int) (o0_13 : List Int) (o0_14 : Int) (o0_15 : Int) (o0_16 : Int) (o0_17 : Int) (o0_18 : List Int) (o0_19 : List Int) (o0_20 : List Int) (o0_21 : List ((List Int) × (List Int))) : L_law20_BlockOnes_11 n (k + 1) (s1, s2, (), s7, s8, s13, s86, s87, s88, (o0_0, o0_1, o0_2, o0_3, o0_4, o0_5, o0_6, o0_7, o0_8, o0_9, o0_10, o0_11, o0_12, o0_13, o0_14, o0_15, o0_16, o0_17, o0_18, o0_19, o0_20, o0_21, ()), ()) =
    brk (decide (s88 < s87))
      (((idx s86 s88)).bind fun v1 =>
      ((F_block_Keys n ((o0_0, (o0_1, (o0_2, (o0_3, (o0_4, (o0_5, (o0_6, (o0_7, (o0_8, (o0_9, (o0_10, (o0_11, (o0_12, (o0_13, (o0_14, (o0_15, o0_16)))))))))))))))), ((o0_17, (o0_18, (o0_19, o0_20))), (v1, (((List.length s13) : Nat) : Int)))))).bind fun v2 =>
      brk (v2.2 != (0 : Int))
        (some (Sum.inl (false, ())))
        (((idx s8 s88)).bind fun v3 =>
        ((F_law20_row_int8 n (v2.1.1, v3.1))).bind fun v4 =>
        brk (!v4)
          (some (Sum.inl (false, ())))
          (((idx s8 s88)).bind fun v5 =>
          ((F_law20_row_int8 n (v2.1.2, v5.2))).bind fun v6 =>
          brk (!v6)
            (some (Sum.inl (false, ())))
            (((app (48 : Nat) s13 [v2.1])).bind fun v7 =>
            ((F_block_Run n ((o0_0, (o0_1, (o0_2, (o0_3, (o0_4, (o0_5, (o0_6, (o0_7, (o0_8, (o0_9, (o0_10, (o0_11, (o0_12, (o0_13, (o0_14, (o0_15, o0_16)))))))))))))))), ((o0_17, (o0_18, (o0_19, o0_20))), (v1, v7))))).bind fun v8 =>
            brk (v8.2 != (0 : Int))
              (some (Sum.inl (false, ())))
              (((idx s7 s88)).bind fun v9 =>
              ((F_law20_row_int64 n (v8.1, v9))).bind fun v10 =>
              brk (!v10)
                (some (Sum.inl (false, ())))
                (L_law20_BlockOnes_11 n k (s1, (s2, ((), (s7, (s8, (v7, (s86, (s87, ((IntKind.wrap IntKind.i64 (s88 + (1 : Int))), ((o0_0, (o0_1, (o0_2, (o0_3, (o0_4, (o0_5, (o0_6, (o0_7, (o0_8, (o0_9, (o0_10, (o0_11, (o0_12, (o0_13, (o0_14, (o0_15, (o0_16, (o0_17, (o0_18, (o0_19, (o0_20, (o0_21, ())))))))))))))))))))))), ()))))))))))))))))
      (some (Sum.inr (s1, (s2, ((), (s7, (s8, ((o0_0, (o0_1, (o0_2, (o0_3, (o0_4, (o0_5, (o0_6, (o0_7, (o0_8, (o0_9, (o0_10, (o0_11, (o0_12, (o0_13, (o0_14, (o0_15, (o0_16, (o0_17, (o0_18, (o0_19, (o0_20, (o0_21, ())))))))))))))))))))))), ())))))))) := (by kernel_rfl)

theorem L_law20_BlockOnes_28_eq (n k : Nat) (s8 : List ((List Int) × (List Int))) (s224 : List ((List Int) × (List Int))) (s225 : Int) (s226 : Int) : L_law20_BlockOnes_28 n (k + 1) (s8, s224, s225, s226, ()) =
    brk (decide (s226 < s225))
      (((idx s224 s226)).bind fun v1 =>
      ((idx s8 s226)).bind fun v2 =>
      ((F_law20_row_int8 n (v1.1, v2.1))).bind fun v3 =>
      brk (!v3)
        (some (Sum.inl (false, ())))
        (((idx s8 s226)).bind fun v4 =>
        ((F_law20_row_int8 n (v1.2, v4.2))).bind fun v5 =>
        brk (!v5)
          (some (Sum.inl (false, ())))
          (L_law20_BlockOnes_28 n k (s8, (s224, (s225, ((IntKind.wrap IntKind.i64 (s226 + (1 : Int))), ())))))))
      (some (Sum.inr ())) := (by kernel_rfl)

theorem F_ref13_text_eq (n : Nat) (a0 : (List (List UInt8)) × (List (Int × Int × Int))) (a1 : Int) : F_ref13_text n (a0, a1) =
    ((idx a0.1 a1)).bind fun v1 =>
    (L_ref13_text_3 n n (a1, ((), (v1, ((0 : Int), ((a0.1, (a0.2, ())), ())))))).bind fun v2 =>
    sumk v2
      (fun v3 =>
        some v3.1)
      (fun v4 =>
        brk ((v4.2.1 == (Array.toList (ByteArray.data (ByteArray.mk (List.toArray []))))) == (v4.1 == (0 : Int)))
          (some (decide ((((List.length v4.2.1) : Nat) : Int) ≤ (64 : Int))))
          (some false)) := (by kernel_rfl)

theorem L_ref13_text_3_eq (n k : Nat) (s1 : Int) (s5 : List UInt8) (s6 : Int) (o0_0 : List (List UInt8)) (o0_1 : List (Int × Int × Int)) : L_ref13_text_3 n (k + 1) (s1, (), s5, s6, (o0_0, o0_1, ()), ()) =
    brk (decide (s6 < s1))
      (((idx o0_0 s6)).bind fun v1 =>
      brk (v1 == s5)
        (some (Sum.inl (false, ())))
        (L_ref13_text_3 n k (s1, ((), (s5, ((IntKind.wrap IntKind.i64 (s6 + (1 : Int))), ((o0_0, (o0_1, ())), ())))))))
      (some (Sum.inr (s1, (s5, ())))) := (by kernel_rfl)

theorem F_ref13_token_eq (n : Nat) (a0 : (List (List UInt8)) × (List (Int × Int × Int))) (a1 : Int) : F_ref13_token n (a0, a1) =
    brk (decide (a1 > (0 : Int)))
      (some (decide (a1 < (((List.length a0.1) : Nat) : Int))))
      (some false) := (by kernel_rfl)

theorem F_ref13_merge_eq (n : Nat) (a0 : (List (List UInt8)) × (List (Int × Int × Int))) (a1 : Int) : F_ref13_merge n (a0, a1) =
    ((idx a0.2 a1)).bind fun v1 =>
    ((F_ref13_token n (a0, v1.1))).bind fun v2 =>
    brk (!v2)
      (some false)
      (((F_ref13_token n (a0, v1.2.1))).bind fun v3 =>
      brk (!v3)
        (some false)
        (((F_ref13_token n (a0, v1.2.2))).bind fun v4 =>
        brk (!v4)
          (some false)
          (((idx a0.1 v1.2.2)).bind fun v5 =>
          ((idx a0.1 v1.1)).bind fun v6 =>
          ((idx a0.1 v1.2.1)).bind fun v7 =>
          ((cat v6 v7)).bind fun v8 =>
          brk (!(v5 == v8))
            (some false)
            ((L_ref13_merge_5 n n (a1, ((), ((), ((0 : Int), ((a0.1, (a0.2, ())), ((v1.1, (v1.2.1, (v1.2.2, ()))), ()))))))).bind fun v9 =>
            sumk v9
              (fun v10 =>
                some v10.1)
              (fun _ =>
                some true))))) := (by kernel_rfl)

theorem L_ref13_merge_5_eq (n k : Nat) (s1 : Int) (s6 : Int) (o0_0 : List (List UInt8)) (o0_1 : List (Int × Int × Int)) (o7_0 : Int) (o7_1 : Int) (o7_2 : Int) : L_ref13_merge_5 n (k + 1) (s1, (), (), s6, (o0_0, o0_1, ()), (o7_0, o7_1, o7_2, ()), ()) =
    brk (decide (s6 < s1))
      (((idx o0_1 s6)).bind fun v1 =>
      brk (v1.1 == o7_0)
        (((idx o0_1 s6)).bind fun v2 =>
        brk (v2.2.1 == o7_1)
          (some (Sum.inl (false, ())))
          (L_ref13_merge_5 n k (s1, ((), ((), ((IntKind.wrap IntKind.i64 (s6 + (1 : Int))), ((o0_0, (o0_1, ())), ((o7_0, (o7_1, (o7_2, ()))), ()))))))))
        (L_ref13_merge_5 n k (s1, ((), ((), ((IntKind.wrap IntKind.i64 (s6 + (1 : Int))), ((o0_0, (o0_1, ())), ((o7_0, (o7_1, (o7_2, ()))), ()))))))))
      (some (Sum.inr ())) := (by kernel_rfl)

theorem F_ref13_Check_eq (n : Nat) (a0 : (List (List UInt8)) × (List (Int × Int × Int))) : F_ref13_Check n a0 =
    brk (decide ((((List.length a0.1) : Nat) : Int) > (512 : Int)))
      (some ((512 : Int), (130 : Int)))
      ((L_ref13_Check_4 n n ((), ((0 : Int), ((a0.1, (a0.2, ())), ())))).bind fun v1 =>
      sumk v1
        (fun v2 =>
          some (v2.1, v2.2.1))
        (fun v3 =>
          brk (decide ((((List.length v3.2.1.1) : Nat) : Int) < (2 : Int)))
            (some ((((List.length v3.2.1.1) : Nat) : Int), (130 : Int)))
            (brk (decide ((((List.length v3.2.1.2.1) : Nat) : Int) > (1024 : Int)))
              (some ((1024 : Int), (131 : Int)))
              ((L_ref13_Check_13 n n ((), ((0 : Int), (v3.2.1, ())))).bind fun v4 =>
              sumk v4
                (fun v5 =>
                  some (v5.1, v5.2.1))
                (fun _ =>
                  some ((0 : Int), (0 : Int))))))) := (by kernel_rfl)

theorem L_ref13_Check_4_eq (n k : Nat) (s4 : Int) (o0_0 : List (List UInt8)) (o0_1 : List (Int × Int × Int)) : L_ref13_Check_4 n (k + 1) ((), s4, (o0_0, o0_1, ()), ()) =
    brk (decide (s4 < (((List.length o0_0) : Nat) : Int)))
      (((F_ref13_text n ((o0_0, o0_1), s4))).bind fun v1 =>
      brk (!v1)
        (some (Sum.inl (s4, ((130 : Int), ()))))
        (L_ref13_Check_4 n k ((), ((IntKind.wrap IntKind.i64 (s4 + (1 : Int))), ((o0_0, (o0_1, ())), ())))))
      (some (Sum.inr ((), ((o0_0, (o0_1, ())), ())))) := (by kernel_rfl)

theorem L_ref13_Check_13_eq (n k : Nat) (s5 : Int) (o0_0 : List (List UInt8)) (o0_1 : List (Int × Int × Int)) : L_ref13_Check_13 n (k + 1) ((), s5, (o0_0, o0_1, ()), ()) =
    brk (decide (s5 < (((List.length o0_1) : Nat) : Int)))
      (((F_ref13_merge n ((o0_0, o0_1), s5))).bind fun v1 =>
      brk (!v1)
        (some (Sum.inl (s5, ((131 : Int), ()))))
        (L_ref13_Check_13 n k ((), ((IntKind.wrap IntKind.i64 (s5 + (1 : Int))), ((o0_0, (o0_1, ())), ())))))
      (some (Sum.inr ())) := (by kernel_rfl)

theorem F_ref16_block_eq (n : Nat) (a0 : Int × Int × Int × Int × Int × Int) (a1 : (List Int) × (List Int) × (List Int) × (List Int) × (List Int) × (List Int) × Int × Int × Int × Int × Int × (List Int) × (List Int) × (List Int) × Int × Int × Int) : F_ref16_block n (a0, a1) =
    brk ((((List.length a1.1) : Nat) : Int) != a0.2.2.1)
      (some (161 : Int))
      (brk ((((List.length a1.2.2.2.2.2.1) : Nat) : Int) != a0.2.2.1)
        (some (161 : Int))
        (brk ((((List.length a1.2.1) : Nat) : Int) != (IntKind.wrap IntKind.i64 (a0.2.2.1 * a0.2.2.1)))
          (some (161 : Int))
          (brk ((((List.length a1.2.2.1) : Nat) : Int) != (IntKind.wrap IntKind.i64 (a0.2.2.1 * a0.2.2.1)))
            (some (161 : Int))
            (brk ((((List.length a1.2.2.2.1) : Nat) : Int) != (IntKind.wrap IntKind.i64 (a0.2.2.1 * a0.2.2.1)))
              (some (161 : Int))
              (brk ((((List.length a1.2.2.2.2.1) : Nat) : Int) != (IntKind.wrap IntKind.i64 (a0.2.2.1 * a0.2.2.1)))
                (some (161 : Int))
                (brk ((((List.length a1.2.2.2.2.2.2.2.2.2.2.2.1) : Nat) : Int) != (IntKind.wrap IntKind.i64 (a0.2.2.2.2.2 * a0.2.2.1)))
                  (some (161 : Int))
                  (brk ((((List.length a1.2.2.2.2.2.2.2.2.2.2.2.2.1) : Nat) : Int) != (IntKind.wrap IntKind.i64 (a0.2.2.2.2.2 * a0.2.2.1)))
                    (some (161 : Int))
                    (brk ((((List.length a1.2.2.2.2.2.2.2.2.2.2.2.2.2.1) : Nat) : Int) != (IntKind.wrap IntKind.i64 (a0.2.2.1 * a0.2.2.2.2.2)))
                      (some (161 : Int))
                      ((L_ref16_block_7 n n ([a1.2.2.2.2.2.2.1, a1.2.2.2.2.2.2.2.1, a1.2.2.2.2.2.2.2.2.1, a1.2.2.2.2.2.2.2.2.2.1, a1.2.2.2.2.2.2.2.2.2.2.1, a1.2.2.2.2.2.2.2.2.2.2.2.2.2.2.1, a1.2.2.2.2.2.2.2.2.2.2.2.2.2.2.2.1, a1.2.2.2.2.2.2.2.2.2.2.2.2.2.2.2.2], ((((List.length [a1.2.2.2.2.2.2.1, a1.2.2.2.2.2.2.2.1, a1.2.2.2.2.2.2.2.2.1, a1.2.2.2.2.2.2.2.2.2.1, a1.2.2.2.2.2.2.2.2.2.2.1, a1.2.2.2.2.2.2.2.2.2.2.2.2.2.2.1, a1.2.2.2.2.2.2.2.2.2.2.2.2.2.2.2.1, a1.2.2.2.2.2.2.2.2.2.2.2.2.2.2.2.2]) : Nat) : Int), ((0 : Int), ())))).bind fun v1 =>
                      sumk v1
                        (fun v2 =>
                          some v2.1)
                        (fun _ =>
                          some (0 : Int))))))))))) := (by kernel_rfl)

theorem L_ref16_block_7_eq (n k : Nat) (s108 : List Int) (s109 : Int) (s110 : Int) : L_ref16_block_7 n (k + 1) (s108, s109, s110, ()) =
    brk (decide (s110 < s109))
      (((idx s108 s110)).bind fun v1 =>
      ((F_ref16_within n (v1, ((0 : Int), (31 : Int))))).bind fun v2 =>
      brk (!v2)
        (some (Sum.inl ((162 : Int), ())))
        (L_ref16_block_7 n k (s108, (s109, ((IntKind.wrap IntKind.i64 (s110 + (1 : Int))), ())))))
      (some (Sum.inr ())) := (by kernel_rfl)

theorem F_ref16_parts_eq (n : Nat) (a0 : (Int × Int × Int × Int × Int × Int) × ((List (List UInt8)) × (List (Int × Int × Int))) × (List Int) × Int × (List Int) × (List Int) × (List ((List Int) × (List Int) × (List Int) × (List Int) × (List Int) × (List Int) × Int × Int × Int × Int × Int × (List Int) × (List Int) × (List Int) × Int × Int × Int)) × (List Int) × (List Int) × (List Int) × Int) : F_ref16_parts n a0 =
    ((F_ref16_Check n a0.1)).bind fun v1 =>
    brk (v1 != (0 : Int))
      (some ((1 : Int), ((0 : Int), v1)))
      (((F_ref13_Check n a0.2.1)).bind fun v2 =>
      brk (v2.2 != (0 : Int))
        (some ((2 : Int), v2))
        (brk ((((List.length a0.2.1.1) : Nat) : Int) != a0.1.1)
          (some ((2 : Int), ((((List.length a0.2.1.1) : Nat) : Int), (161 : Int))))
          (brk ((((List.length a0.2.2.1) : Nat) : Int) != (IntKind.wrap IntKind.i64 (a0.1.1 * a0.1.2.2.1)))
            (some ((3 : Int), ((0 : Int), (161 : Int))))
            (((F_ref16_within n (a0.2.2.2.1, ((0 : Int), (24 : Int))))).bind fun v3 =>
            brk (!v3)
              (some ((3 : Int), ((0 : Int), (162 : Int))))
              ((L_ref16_parts_15 n n ((), ((), ([a0.2.2.2.2.1, a0.2.2.2.2.2.1], ((((List.length [a0.2.2.2.2.1, a0.2.2.2.2.2.1]) : Nat) : Int), ((0 : Int), ((a0.1.1, (a0.1.2.1, (a0.1.2.2.1, (a0.1.2.2.2.1, (a0.1.2.2.2.2.1, (a0.1.2.2.2.2.2, (a0.2.1.1, (a0.2.1.2, (a0.2.2.1, (a0.2.2.2.1, (a0.2.2.2.2.1, (a0.2.2.2.2.2.1, (a0.2.2.2.2.2.2.1, (a0.2.2.2.2.2.2.2.1, (a0.2.2.2.2.2.2.2.2.1, (a0.2.2.2.2.2.2.2.2.2.1, (a0.2.2.2.2.2.2.2.2.2.2, ()))))))))))))))))), ((a0.1.1, (a0.1.2.1, (a0.1.2.2.1, (a0.1.2.2.2.1, (a0.1.2.2.2.2.1, (a0.1.2.2.2.2.2, ())))))), ())))))))).bind fun v4 =>
              sumk v4
                (fun v5 =>
                  some (v5.1, (v5.2.1, v5.2.2.1)))
                (fun v6 =>
                  (L_ref16_parts_21 n n ((), ((), (v6.2.2.1.2.2.2.2.2.2.2.2.2.2.2.2.1, ((((List.length v6.2.2.1.2.2.2.2.2.2.2.2.2.2.2.2.1) : Nat) : Int), ((0 : Int), (v6.2.2.1, (v6.2.2.2.1, ())))))))).bind fun v7 =>
                  sumk v7
                    (fun v8 =>
                      some (v8.1, (v8.2.1, v8.2.2.1)))
                    (fun v9 =>
                      brk (decide ((((List.length v9.2.2.1.2.2.2.2.2.2.2.2.2.2.2.2.1) : Nat) : Int) < v9.2.2.2.1.2.2.2.2.1))
                        (some ((5 : Int), ((((List.length v9.2.2.1.2.2.2.2.2.2.2.2.2.2.2.2.1) : Nat) : Int), (161 : Int))))
                        (brk ((((List.length v9.2.2.1.2.2.2.2.2.2.2.2.2.2.2.2.2.1) : Nat) : Int) != (256 : Int))
                          (some ((6 : Int), ((0 : Int), (161 : Int))))
                          (brk ((((List.length v9.2.2.1.2.2.2.2.2.2.2.2.2.2.2.2.2.2.1) : Nat) : Int) != v9.2.2.2.1.2.2.1)
                            (some ((7 : Int), ((0 : Int), (161 : Int))))
                            (brk ((((List.length v9.2.2.1.2.2.2.2.2.2.2.2.2.2.2.2.2.2.2.1) : Nat) : Int) != (IntKind.wrap IntKind.i64 (v9.2.2.2.1.1 * v9.2.2.2.1.2.2.1)))
                              (some ((8 : Int), ((0 : Int), (161 : Int))))
                              (((F_ref16_within n (v9.2.2.1.2.2.2.2.2.2.2.2.2.2.2.2.2.2.2.2.1, ((0 : Int), (31 : Int))))).bind fun v10 =>
                              brk (!v10)
                                (some ((8 : Int), ((0 : Int), (162 : Int))))
                                (some ((0 : Int), ((0 : Int), (0 : Int))))))))))))))) := (by kernel_rfl)

theorem L_ref16_parts_15_eq (n k : Nat) (s59 : List (List Int)) (s60 : Int) (s61 : Int) (o0_0 : Int) (o0_1 : Int) (o0_2 : Int) (o0_3 : Int) (o0_4 : Int) (o0_5 : Int) (o0_6 : List (List UInt8)) (o0_7 : List (Int × Int × Int)) (o0_8 : List Int) (o0_9 : Int) (o0_10 : List Int) (o0_11 : List Int) (o0_12 : List ((List Int) × (List Int) × (List Int) × (List Int) × (List Int) × (List Int) × Int × Int × Int × Int × Int × (List Int) × (List Int) × (List Int) × Int × Int × Int)) (o0_13 : List Int) (o0_14 : List Int) (o0_15 : List Int) (o0_16 : Int) (o6_0 : Int) (o6_1 : Int) (o6_2 : Int) (o6_3 : Int) (o6_4 : Int) (o6_5 : Int) : L_ref16_parts_15 n (k + 1) ((), (), s59, s60, s61, (o0_0, o0_1, o0_2, o0_3, o0_4, o0_5, o0_6, o0_7, o0_8, o0_9, o0_10, o0_11, o0_12, o0_13, o0_14, o0_15, o0_16, ()), (o6_0, o6_1, o6_2, o6_3, o6_4, o6_5, ()), ()) =
    brk (decide (s61 < s60))
      (((idx s59 s61)).bind fun v1 =>
      ((F_ref16_Half n (o6_0, (o6_1, (o6_2, (o6_3, (o6_4, o6_5))))))).bind fun v2 =>
      brk ((((List.length v1) : Nat) : Int) != (IntKind.wrap IntKind.i64 (o6_1 * v2)))
        (some (Sum.inl ((4 : Int), (s61, ((161 : Int), ())))))
        (L_ref16_parts_15 n k ((), ((), (s59, (s60, ((IntKind.wrap IntKind.i64 (s61 + (1 : Int))), ((o0_0, (o0_1, (o0_2, (o0_3, (o0_4, (o0_5, (o0_6, (o0_7, (o0_8, (o0_9, (o0_10, (o0_11, (o0_12, (o0_13, (o0_14, (o0_15, (o0_16, ()))))))))))))))))), ((o6_0, (o6_1, (o6_2, (o6_3, (o6_4, (o6_5, ())))))), ())))))))))
      (some (Sum.inr ((), ((), ((o0_0, (o0_1, (o0_2, (o0_3, (o0_4, (o0_5, (o0_6, (o0_7, (o0_8, (o0_9, (o0_10, (o0_11, (o0_12, (o0_13, (o0_14, (o0_15, (o0_16, ()))))))))))))))))), ((o6_0, (o6_1, (o6_2, (o6_3, (o6_4, (o6_5, ())))))), ())))))) := (by kernel_rfl)

theorem L_ref16_parts_21_eq (n k : Nat) (s77 : List ((List Int) × (List Int) × (List Int) × (List Int) × (List Int) × (List Int) × Int × Int × Int × Int × Int × (List Int) × (List Int) × (List Int) × Int × Int × Int)) (s78 : Int) (s79 : Int) (o0_0 : Int) (o0_1 : Int) (o0_2 : Int) (o0_3 : Int) (o0_4 : Int) (o0_5 : Int) (o0_6 : List (List UInt8)) (o0_7 : List (Int × Int × Int)) (o0_8 : List Int) (o0_9 : Int) (o0_10 : List Int) (o0_11 : List Int) (o0_12 : List ((List Int) × (List Int) × (List Int) × (List Int) × (List Int) × (List Int) × Int × Int × Int × Int × Int × (List Int) × (List Int) × (List Int) × Int × Int × Int)) (o0_13 : List Int) (o0_14 : List Int) (o0_15 : List Int) (o0_16 : Int) (o6_0 : Int) (o6_1 : Int) (o6_2 : Int) (o6_3 : Int) (o6_4 : Int) (o6_5 : Int) : L_ref16_parts_21 n (k + 1) ((), (), s77, s78, s79, (o0_0, o0_1, o0_2, o0_3, o0_4, o0_5, o0_6, o0_7, o0_8, o0_9, o0_10, o0_11, o0_12, o0_13, o0_14, o0_15, o0_16, ()), (o6_0, o6_1, o6_2, o6_3, o6_4, o6_5, ()), ()) =
    brk (decide (s79 < s78))
      (((idx s77 s79)).bind fun v1 =>
      brk (decide (s79 ≥ o6_4))
        (some (Sum.inl ((5 : Int), (s79, ((161 : Int), ())))))
        (((F_ref16_block n ((o6_0, (o6_1, (o6_2, (o6_3, (o6_4, o6_5))))), v1))).bind fun v2 =>
        brk (v2 != (0 : Int))
          (some (Sum.inl ((5 : Int), (s79, (v2, ())))))
          (L_ref16_parts_21 n k ((), ((), (s77, (s78, ((IntKind.wrap IntKind.i64 (s79 + (1 : Int))), ((o0_0, (o0_1, (o0_2, (o0_3, (o0_4, (o0_5, (o0_6, (o0_7, (o0_8, (o0_9, (o0_10, (o0_11, (o0_12, (o0_13, (o0_14, (o0_15, (o0_16, ()))))))))))))))))), ((o6_0, (o6_1, (o6_2, (o6_3, (o6_4, (o6_5, ())))))), ()))))))))))
      (some (Sum.inr ((), ((), ((o0_0, (o0_1, (o0_2, (o0_3, (o0_4, (o0_5, (o0_6, (o0_7, (o0_8, (o0_9, (o0_10, (o0_11, (o0_12, (o0_13, (o0_14, (o0_15, (o0_16, ()))))))))))))))))), ((o6_0, (o6_1, (o6_2, (o6_3, (o6_4, (o6_5, ())))))), ())))))) := (by kernel_rfl)

theorem F_ref08_Sizes_eq (n : Nat) (a0 : List Int) (a1 : Int) : F_ref08_Sizes n (a0, a1) =
    ((F_ref08_Matrix n (a0, a1))).bind fun v1 =>
    brk (v1 != (0 : Int))
      (some ([], v1))
      ((L_ref08_Sizes_6 n n (a0, (a1, ([], ((0 : Int), ()))))).bind fun v2 =>
      some (v2.1, (0 : Int))) := (by kernel_rfl)

theorem L_ref08_Sizes_6_eq (n k : Nat) (s0 : List Int) (s1 : Int) (s7 : List Int) (s8 : Int) : L_ref08_Sizes_6 n (k + 1) (s0, s1, s7, s8, ()) =
    brk (decide (s8 < (((List.length s0) : Nat) : Int)))
      (((slc s0 s8 (IntKind.wrap IntKind.i64 (s8 + s1)))).bind fun v1 =>
      (L_ref08_Sizes_10 n n (s0, (s1, (s7, (s8, ((0 : Int), (v1, ((((List.length v1) : Nat) : Int), ((0 : Int), ()))))))))).bind fun v2 =>
      ((app (8 : Nat) v2.2.2.1 [v2.2.2.2.2.1])).bind fun v3 =>
      L_ref08_Sizes_6 n k (v2.1, (v2.2.1, (v3, ((IntKind.wrap IntKind.i64 (v2.2.2.2.1 + v2.2.1)), ())))))
      (some (s7, ())) := (by kernel_rfl)

theorem L_ref08_Sizes_10_eq (n k : Nat) (s0 : List Int) (s1 : Int) (s7 : List Int) (s8 : Int) (s9 : Int) (s31 : List Int) (s32 : Int) (s33 : Int) : L_ref08_Sizes_10 n (k + 1) (s0, s1, s7, s8, s9, s31, s32, s33, ()) =
    brk (decide (s33 < s32))
      (((idx s31 s33)).bind fun v1 =>
      (brk (decide (v1 < (0 : Int)))
          (some (s0, (s1, (s7, (s8, ((IntKind.wrap IntKind.i64 (s9 - (IntKind.wrap IntKind.i64 v1))), (s31, (s32, (s33, ())))))))))
          (some (s0, (s1, (s7, (s8, ((IntKind.wrap IntKind.i64 (s9 + (IntKind.wrap IntKind.i64 v1))), (s31, (s32, (s33, ())))))))))).bind fun v2 =>
      L_ref08_Sizes_10 n k (v2.1, (v2.2.1, (v2.2.2.1, (v2.2.2.2.1, (v2.2.2.2.2.1, (v2.2.2.2.2.2.1, (v2.2.2.2.2.2.2.1, ((IntKind.wrap IntKind.i64 (v2.2.2.2.2.2.2.2.1 + (1 : Int))), ())))))))))
      (some (s0, (s1, (s7, (s8, (s9, ())))))) := (by kernel_rfl)

theorem F_ref16_most_eq (n : Nat) (a0 : List Int) (a1 : Int) (a2 : Int) : F_ref16_most n (a0, a1, a2) =
    ((F_ref08_Sizes n (a0, a1))).bind fun v1 =>
    (L_ref16_most_4 n n (a2, ((0 : Int), (v1.1, ((((List.length v1.1) : Nat) : Int), ((0 : Int), ())))))).bind fun v2 =>
    some v2.1 := (by kernel_rfl)

theorem L_ref16_most_4_eq (n k : Nat) (s2 : Int) (s7 : Int) (s20 : List Int) (s21 : Int) (s22 : Int) : L_ref16_most_4 n (k + 1) (s2, s7, s20, s21, s22, ()) =
    brk (decide (s22 < s21))
      (((idx s20 s22)).bind fun v1 =>
      ((F_ref02_Round n ((IntKind.wrap IntKind.i64 ((127 : Int) * v1)), s2))).bind fun v2 =>
      (brk (decide (v2.1 > s7))
          (some (s2, (v2.1, (s20, (s21, (s22, ()))))))
          (some (s2, (s7, (s20, (s21, (s22, ()))))))).bind fun v3 =>
      L_ref16_most_4 n k (v3.1, (v3.2.1, (v3.2.2.1, (v3.2.2.2.1, ((IntKind.wrap IntKind.i64 (v3.2.2.2.2.1 + (1 : Int))), ()))))))
      (some (s7, ())) := (by kernel_rfl)

theorem F_ref16_reaches_eq (n : Nat) (a0 : (Int × Int × Int × Int × Int × Int) × ((List (List UInt8)) × (List (Int × Int × Int))) × (List Int) × Int × (List Int) × (List Int) × (List ((List Int) × (List Int) × (List Int) × (List Int) × (List Int) × (List Int) × Int × Int × Int × Int × Int × (List Int) × (List Int) × (List Int) × Int × Int × Int)) × (List Int) × (List Int) × (List Int) × Int) : F_ref16_reaches n a0 =
    (L_ref16_reaches_3 n n ((), ((0 : Int), (a0.2.2.1, ((((List.length a0.2.2.1) : Nat) : Int), ((0 : Int), ((a0.1.1, (a0.1.2.1, (a0.1.2.2.1, (a0.1.2.2.2.1, (a0.1.2.2.2.2.1, (a0.1.2.2.2.2.2, (a0.2.1.1, (a0.2.1.2, (a0.2.2.1, (a0.2.2.2.1, (a0.2.2.2.2.1, (a0.2.2.2.2.2.1, (a0.2.2.2.2.2.2.1, (a0.2.2.2.2.2.2.2.1, (a0.2.2.2.2.2.2.2.2.1, (a0.2.2.2.2.2.2.2.2.2.1, (a0.2.2.2.2.2.2.2.2.2.2, ()))))))))))))))))), ()))))))).bind fun v1 =>
    (L_ref16_reaches_12 n n ((), (v1.2.1, ((0 : Int), (v1.2.2.1, ()))))).bind fun v2 =>
    (L_ref16_reaches_17 n n ((), ([v2.2.1], (v2.2.2.1.2.2.2.2.2.2.2.2.2.2.2.2.1, ((((List.length v2.2.2.1.2.2.2.2.2.2.2.2.2.2.2.2.1) : Nat) : Int), ((0 : Int), (v2.2.2.1, ()))))))).bind fun v3 =>
    some v3.1 := (by kernel_rfl)

theorem L_ref16_reaches_3_eq (n k : Nat) (s3 : Int) (s13 : List Int) (s14 : Int) (s15 : Int) (o0_0 : Int) (o0_1 : Int) (o0_2 : Int) (o0_3 : Int) (o0_4 : Int) (o0_5 : Int) (o0_6 : List (List UInt8)) (o0_7 : List (Int × Int × Int)) (o0_8 : List Int) (o0_9 : Int) (o0_10 : List Int) (o0_11 : List Int) (o0_12 : List ((List Int) × (List Int) × (List Int) × (List Int) × (List Int) × (List Int) × Int × Int × Int × Int × Int × (List Int) × (List Int) × (List Int) × Int × Int × Int)) (o0_13 : List Int) (o0_14 : List Int) (o0_15 : List Int) (o0_16 : Int) : L_ref16_reaches_3 n (k + 1) ((), s3, s13, s14, s15, (o0_0, o0_1, o0_2, o0_3, o0_4, o0_5, o0_6, o0_7, o0_8, o0_9, o0_10, o0_11, o0_12, o0_13, o0_14, o0_15, o0_16, ()), ()) =
    brk (decide (s15 < s14))
      (((idx s13 s15)).bind fun v1 =>
      (brk (decide ((IntKind.wrap IntKind.i64 v1) < (0 : Int)))
          (some ((), (s3, ((IntKind.wrap IntKind.i64 ((0 : Int) - (IntKind.wrap IntKind.i64 v1))), (s13, (s14, (s15, ((o0_0, (o0_1, (o0_2, (o0_3, (o0_4, (o0_5, (o0_6, (o0_7, (o0_8, (o0_9, (o0_10, (o0_11, (o0_12, (o0_13, (o0_14, (o0_15, (o0_16, ()))))))))))))))))), ()))))))))
          (some ((), (s3, ((IntKind.wrap IntKind.i64 v1), (s13, (s14, (s15, ((o0_0, (o0_1, (o0_2, (o0_3, (o0_4, (o0_5, (o0_6, (o0_7, (o0_8, (o0_9, (o0_10, (o0_11, (o0_12, (o0_13, (o0_14, (o0_15, (o0_16, ()))))))))))))))))), ()))))))))).bind fun v2 =>
      (brk (decide (v2.2.2.1 > v2.2.1))
          (some ((), v2.2.2))
          (some ((), (v2.2.1, v2.2.2.2)))).bind fun v3 =>
      L_ref16_reaches_3 n k ((), (v3.2.1, (v3.2.2.1, (v3.2.2.2.1, ((IntKind.wrap IntKind.i64 (v3.2.2.2.2.1 + (1 : Int))), (v3.2.2.2.2.2.1, ())))))))
      (some ((), (s3, ((o0_0, (o0_1, (o0_2, (o0_3, (o0_4, (o0_5, (o0_6, (o0_7, (o0_8, (o0_9, (o0_10, (o0_11, (o0_12, (o0_13, (o0_14, (o0_15, (o0_16, ()))))))))))))))))), ())))) := (by kernel_rfl)

theorem L_ref16_reaches_12_eq (n k : Nat) (s3 : Int) (s7 : Int) (o0_0 : Int) (o0_1 : Int) (o0_2 : Int) (o0_3 : Int) (o0_4 : Int) (o0_5 : Int) (o0_6 : List (List UInt8)) (o0_7 : List (Int × Int × Int)) (o0_8 : List Int) (o0_9 : Int) (o0_10 : List Int) (o0_11 : List Int) (o0_12 : List ((List Int) × (List Int) × (List Int) × (List Int) × (List Int) × (List Int) × Int × Int × Int × Int × Int × (List Int) × (List Int) × (List Int) × Int × Int × Int)) (o0_13 : List Int) (o0_14 : List Int) (o0_15 : List Int) (o0_16 : Int) : L_ref16_reaches_12 n (k + 1) ((), s3, s7, (o0_0, o0_1, o0_2, o0_3, o0_4, o0_5, o0_6, o0_7, o0_8, o0_9, o0_10, o0_11, o0_12, o0_13, o0_14, o0_15, o0_16, ()), ()) =
    brk (decide (s7 < o0_9))
      (L_ref16_reaches_12 n k ((), ((IntKind.wrap IntKind.i64 (s3 * (2 : Int))), ((IntKind.wrap IntKind.i64 (s7 + (1 : Int))), ((o0_0, (o0_1, (o0_2, (o0_3, (o0_4, (o0_5, (o0_6, (o0_7, (o0_8, (o0_9, (o0_10, (o0_11, (o0_12, (o0_13, (o0_14, (o0_15, (o0_16, ()))))))))))))))))), ())))))
      (some ((), (s3, ((o0_0, (o0_1, (o0_2, (o0_3, (o0_4, (o0_5, (o0_6, (o0_7, (o0_8, (o0_9, (o0_10, (o0_11, (o0_12, (o0_13, (o0_14, (o0_15, (o0_16, ()))))))))))))))))), ())))) := (by kernel_rfl)

theorem L_ref16_reaches_17_eq (n k : Nat) (s8 : List Int) (s41 : List ((List Int) × (List Int) × (List Int) × (List Int) × (List Int) × (List Int) × Int × Int × Int × Int × Int × (List Int) × (List Int) × (List Int) × Int × Int × Int)) (s42 : Int) (s43 : Int) (o0_0 : Int) (o0_1 : Int) (o0_2 : Int) (o0_3 : Int) (o0_4 : Int) (o0_5 : Int) (o0_6 : List (List UInt8)) (o0_7 : List (Int × Int × Int)) (o0_8 : List Int) (o0_9 : Int) (o0_10 : List Int) (o0_11 : List Int) (o0_12 : List ((List Int) × (List Int) × (List Int) × (List Int) × (List Int) × (List Int) × Int × Int × Int × Int × Int × (List Int) × (List Int) × (List Int) × Int × Int × Int)) (o0_13 : List Int) (o0_14 : List Int) (o0_15 : List Int) (o0_16 : Int) : L_ref16_reaches_17 n (k + 1) ((), s8, s41, s42, s43, (o0_0, o0_1, o0_2, o0_3, o0_4, o0_5, o0_6, o0_7, o0_8, o0_9, o0_10, o0_11, o0_12, o0_13, o0_14, o0_15, o0_16, ()), ()) =
    brk (decide (s43 < s42))
      (((idx s41 s43)).bind fun v1 =>
      ((idx s8 (IntKind.wrap IntKind.i64 ((((List.length s8) : Nat) : Int) - (1 : Int))))).bind fun v2 =>
      ((F_ref16_most n (v1.2.2.2.2.1, (o0_2, v1.2.2.2.2.2.2.2.2.2.1)))).bind fun v3 =>
      ((F_ref16_most n (v1.2.2.2.2.2.2.2.2.2.2.2.2.2.1, (o0_5, v1.2.2.2.2.2.2.2.2.2.2.2.2.2.2.2.2)))).bind fun v4 =>
      ((app (8 : Nat) s8 [(IntKind.wrap IntKind.i64 (v2 + v3)), (IntKind.wrap IntKind.i64 ((IntKind.wrap IntKind.i64 (v2 + v3)) + v4))])).bind fun v5 =>
      L_ref16_reaches_17 n k ((), (v5, (s41, (s42, ((IntKind.wrap IntKind.i64 (s43 + (1 : Int))), ((o0_0, (o0_1, (o0_2, (o0_3, (o0_4, (o0_5, (o0_6, (o0_7, (o0_8, (o0_9, (o0_10, (o0_11, (o0_12, (o0_13, (o0_14, (o0_15, (o0_16, ()))))))))))))))))), ())))))))
      (some (s8, ())) := (by kernel_rfl)

theorem F_ref16_Valid_eq (n : Nat) (a0 : (Int × Int × Int × Int × Int × Int) × ((List (List UInt8)) × (List (Int × Int × Int))) × (List Int) × Int × (List Int) × (List Int) × (List ((List Int) × (List Int) × (List Int) × (List Int) × (List Int) × (List Int) × Int × Int × Int × Int × Int × (List Int) × (List Int) × (List Int) × Int × Int × Int)) × (List Int) × (List Int) × (List Int) × Int) : F_ref16_Valid n a0 =
    ((F_ref16_parts n (a0.1, (a0.2.1, a0.2.2)))).bind fun v1 =>
    brk (v1.2.2 != (0 : Int))
      (some v1)
      (((F_ref16_reaches n (a0.1, (a0.2.1, a0.2.2)))).bind fun v2 =>
      (L_ref16_Valid_5 n n (v2, ((((List.length v2) : Nat) : Int), ((0 : Int), ())))).bind fun v3 =>
      sumk v3
        (fun v4 =>
          some (v4.1, (v4.2.1, v4.2.2.1)))
        (fun _ =>
          some ((0 : Int), ((0 : Int), (0 : Int))))) := (by kernel_rfl)

theorem L_ref16_Valid_5_eq (n k : Nat) (s22 : List Int) (s23 : Int) (s24 : Int) : L_ref16_Valid_5 n (k + 1) (s22, s23, s24, ()) =
    brk (decide (s24 < s23))
      (((idx s22 s24)).bind fun v1 =>
      brk (decide (v1 > (268435456 : Int)))
        (some (Sum.inl ((9 : Int), (s24, ((163 : Int), ())))))
        (L_ref16_Valid_5 n k (s22, (s23, ((IntKind.wrap IntKind.i64 (s24 + (1 : Int))), ())))))
      (some (Sum.inr ())) := (by kernel_rfl)

theorem F_ref16_Reaches_eq (n : Nat) (a0 : (Int × Int × Int × Int × Int × Int) × ((List (List UInt8)) × (List (Int × Int × Int))) × (List Int) × Int × (List Int) × (List Int) × (List ((List Int) × (List Int) × (List Int) × (List Int) × (List Int) × (List Int) × Int × Int × Int × Int × Int × (List Int) × (List Int) × (List Int) × Int × Int × Int)) × (List Int) × (List Int) × (List Int) × Int) : F_ref16_Reaches n a0 =
    ((F_ref16_parts n (a0.1, (a0.2.1, a0.2.2)))).bind fun v1 =>
    brk (v1.2.2 != (0 : Int))
      (some ([], v1.2.2))
      (((F_ref16_reaches n (a0.1, (a0.2.1, a0.2.2)))).bind fun v2 =>
      some (v2, (0 : Int))) := (by kernel_rfl)

theorem F_law20_BlockReaches_eq (n : Nat) (a0 : (Int × Int × Int × Int × Int × Int) × ((List (List UInt8)) × (List (Int × Int × Int))) × (List Int) × Int × (List Int) × (List Int) × (List ((List Int) × (List Int) × (List Int) × (List Int) × (List Int) × (List Int) × Int × Int × Int × Int × Int × (List Int) × (List Int) × (List Int) × Int × Int × Int)) × (List Int) × (List Int) × (List Int) × Int) (a1 : List Int) : F_law20_BlockReaches n (a0, a1) =
    ((F_law20_awake n ())).bind fun v1 =>
    brk (!v1)
      (some false)
      (((F_ref16_Of n (a0.1, (a0.2.1, a0.2.2)))).bind fun v2 =>
      ((F_ref16_Valid n (v2.1, (v2.2.1, v2.2.2)))).bind fun v3 =>
      brk (v3.2.2 != (0 : Int))
        (some true)
        (((F_ref16_Of n (a0.1, (a0.2.1, a0.2.2)))).bind fun v4 =>
        ((F_ref16_Reaches n (v4.1, (v4.2.1, v4.2.2)))).bind fun v5 =>
        (L_law20_BlockReaches_10 n n ((), (v5.1, ([], (a0.1.2.2.1, (a1, ((((List.length a1) : Nat) : Int), ((0 : Int), ((a0.1.1, (a0.1.2.1, (a0.1.2.2.1, (a0.1.2.2.2.1, (a0.1.2.2.2.2.1, (a0.1.2.2.2.2.2, (a0.2.1.1, (a0.2.1.2, (a0.2.2.1, (a0.2.2.2.1, (a0.2.2.2.2.1, (a0.2.2.2.2.2.1, (a0.2.2.2.2.2.2.1, (a0.2.2.2.2.2.2.2.1, (a0.2.2.2.2.2.2.2.2.1, (a0.2.2.2.2.2.2.2.2.2.1, (a0.2.2.2.2.2.2.2.2.2.2, ()))))))))))))))))), ()))))))))).bind fun v6 =>
        (L_law20_BlockReaches_24 n n (v6.2.1, (v6.2.2.1, (v6.2.2.2.1, ((), (v6.2.2.2.2.1.2.2.2.2.2.2.2.2.2.2.2.2.1, ((((List.length v6.2.2.2.2.1.2.2.2.2.2.2.2.2.2.2.2.2.1) : Nat) : Int), ((0 : Int), ((v6.2.2.2.2.1.2.2.2.1, (v6.2.2.2.2.1.2.2.2.2.2.2.2.2.2.2.1, (v6.2.2.2.2.1.2.2.2.2.2.2.2.2.2.2.2.1, (v6.2.2.2.2.1.2.2.2.2.2.2.2.2.2.2.2.2.2.1, ())))), ()))))))))).bind fun v7 =>
        sumk v7
          (fun v8 =>
            some v8.1)
          (fun _ =>
            some true))) := (by kernel_rfl)

theorem L_law20_BlockReaches_10_eq (n k : Nat) (s8 : List Int) (s10 : List (List Int)) (s11 : Int) (s50 : List Int) (s51 : Int) (s52 : Int) (o0_0 : Int) (o0_1 : Int) (o0_2 : Int) (o0_3 : Int) (o0_4 : Int) (o0_5 : Int) (o0_6 : List (List UInt8)) (o0_7 : List (Int × Int × Int)) (o0_8 : List Int) (o0_9 : Int) (o0_10 : List Int) (o0_11 : List Int) (o0_12 : List ((List Int) × (List Int) × (List Int) × (List Int) × (List Int) × (List Int) × Int × Int × Int × Int × Int × (List Int) × (List Int) × (List Int) × Int × Int × Int)) (o0_13 : List Int) (o0_14 : List Int) (o0_15 : List Int) (o0_16 : Int) : L_law20_BlockReaches_10 n (k + 1) ((), s8, s10, s11, s50, s51, s52, (o0_0, o0_1, o0_2, o0_3, o0_4, o0_5, o0_6, o0_7, o0_8, o0_9, o0_10, o0_11, o0_12, o0_13, o0_14, o0_15, o0_16, ()), ()) =
    brk (decide (s52 < s51))
      (((idx s50 s52)).bind fun v1 =>
      brk ((((List.length s10) : Nat) : Int) == o0_1)
        (some ((), (s8, (s10, (s11, ((o0_0, (o0_1, (o0_2, (o0_3, (o0_4, (o0_5, (o0_6, (o0_7, (o0_8, (o0_9, (o0_10, (o0_11, (o0_12, (o0_13, (o0_14, (o0_15, (o0_16, ()))))))))))))))))), ()))))))
        (((rm v1 o0_0)).bind fun v2 =>
        ((rm (IntKind.wrap IntKind.i64 (v2 + o0_0)) o0_0)).bind fun v3 =>
        ((slc o0_8 (IntKind.wrap IntKind.i64 (v3 * s11)) (IntKind.wrap IntKind.i64 ((IntKind.wrap IntKind.i64 (v3 * s11)) + s11)))).bind fun v4 =>
        (L_law20_BlockReaches_16 n n ((), (s8, (s10, (s11, ([], (s50, (s51, (s52, (v4, ((((List.length v4) : Nat) : Int), ((0 : Int), ((o0_0, (o0_1, (o0_2, (o0_3, (o0_4, (o0_5, (o0_6, (o0_7, (o0_8, (o0_9, (o0_10, (o0_11, (o0_12, (o0_13, (o0_14, (o0_15, (o0_16, ()))))))))))))))))), ()))))))))))))).bind fun v5 =>
        ((app (24 : Nat) v5.2.2.1 [v5.2.2.2.2.1])).bind fun v6 =>
        L_law20_BlockReaches_10 n k ((), (v5.2.1, (v6, (v5.2.2.2.1, (v5.2.2.2.2.2.1, (v5.2.2.2.2.2.2.1, ((IntKind.wrap IntKind.i64 (v5.2.2.2.2.2.2.2.1 + (1 : Int))), (v5.2.2.2.2.2.2.2.2.1, ()))))))))))
      (some ((), (s8, (s10, (s11, ((o0_0, (o0_1, (o0_2, (o0_3, (o0_4, (o0_5, (o0_6, (o0_7, (o0_8, (o0_9, (o0_10, (o0_11, (o0_12, (o0_13, (o0_14, (o0_15, (o0_16, ()))))))))))))))))), ())))))) := (by kernel_rfl)

theorem L_law20_BlockReaches_16_eq (n k : Nat) (s8 : List Int) (s10 : List (List Int)) (s11 : Int) (s14 : List Int) (s50 : List Int) (s51 : Int) (s52 : Int) (s85 : List Int) (s86 : Int) (s87 : Int) (o0_0 : Int) (o0_1 : Int) (o0_2 : Int) (o0_3 : Int) (o0_4 : Int) (o0_5 : Int) (o0_6 : List (List UInt8)) (o0_7 : List (Int × Int × Int)) (o0_8 : List Int) (o0_9 : Int) (o0_10 : List Int) (o0_11 : List Int) (o0_12 : List ((List Int) × (List Int) × (List Int) × (List Int) × (List Int) × (List Int) × Int × Int × Int × Int × Int × (List Int) × (List Int) × (List Int) × Int × Int × Int)) (o0_13 : List Int) (o0_14 : List Int) (o0_15 : List Int) (o0_16 : Int) : L_law20_BlockReaches_16 n (k + 1) ((), s8, s10, s11, s14, s50, s51, s52, s85, s86, s87, (o0_0, o0_1, o0_2, o0_3, o0_4, o0_5, o0_6, o0_7, o0_8, o0_9, o0_10, o0_11, o0_12, o0_13, o0_14, o0_15, o0_16, ()), ()) =
    brk (decide (s87 < s86))
      (((idx s85 s87)).bind fun v1 =>
      ((shlo IntKind.i64 (IntKind.wrap IntKind.i64 v1) (IntKind.wrap IntKind.u64 o0_9))).bind fun v2 =>
      ((app (8 : Nat) s14 [v2])).bind fun v3 =>
      L_law20_BlockReaches_16 n k ((), (s8, (s10, (s11, (v3, (s50, (s51, (s52, (s85, (s86, ((IntKind.wrap IntKind.i64 (s87 + (1 : Int))), ((o0_0, (o0_1, (o0_2, (o0_3, (o0_4, (o0_5, (o0_6, (o0_7, (o0_8, (o0_9, (o0_10, (o0_11, (o0_12, (o0_13, (o0_14, (o0_15, (o0_16, ()))))))))))))))))), ())))))))))))))
      (some ((), (s8, (s10, (s11, (s14, (s50, (s51, (s52, ((o0_0, (o0_1, (o0_2, (o0_3, (o0_4, (o0_5, (o0_6, (o0_7, (o0_8, (o0_9, (o0_10, (o0_11, (o0_12, (o0_13, (o0_14, (o0_15, (o0_16, ()))))))))))))))))), ())))))))))) := (by kernel_rfl)

theorem L_law20_BlockReaches_24_eq (n k : Nat) (s8 : List Int) (s10 : List (List Int)) (s11 : Int) (s117 : List ((List Int) × (List Int) × (List Int) × (List Int) × (List Int) × (List Int) × Int × Int × Int × Int × Int × (List Int) × (List Int) × (List Int) × Int × Int × Int)) (s118 : Int) (s119 : Int) (o43_0 : Int) (o43_1 : List Int) (o43_2 : List Int) (o43_3 : List Int) : L_law20_BlockReaches_24 n (k + 1) (s8, s10, s11, (), s117, s118, s119, (o43_0, o43_1, o43_2, o43_3, ()), ()) =
    brk (decide (s119 < s118))
      (((idx s117 s119)).bind fun v1 =>
      ((F_block_Pass n (v1, ((o43_0, (o43_1, (o43_2, o43_3))), (s10, []))))).bind fun v2 =>
      brk (v2.2.2 != (0 : Int))
        (some (Sum.inl (false, ())))
        (brk ((((List.length v2.1) : Nat) : Int) != (((List.length s10) : Nat) : Int))
          (some (Sum.inl (false, ())))
          (brk ((((List.length v2.2.1) : Nat) : Int) != (((List.length s10) : Nat) : Int))
            (some (Sum.inl (false, ())))
            ((L_law20_BlockReaches_30 n n (s8, (s11, ((), (s119, (v2.1, (v2.2.1, (s117, (s118, (s119, (v2.1, ((((List.length v2.1) : Nat) : Int), ((0 : Int), ((o43_0, (o43_1, (o43_2, (o43_3, ())))), ())))))))))))))).bind fun v3 =>
            sumk v3
              (fun v4 =>
                some (Sum.inl v4))
              (fun v5 =>
                (L_law20_BlockReaches_42 n n (v5.1, (v5.2.1, ((), (v5.2.2.2.1, (v5.2.2.2.2.2.1, (v5.2.2.2.2.2.2.1, (v5.2.2.2.2.2.2.2.1, (v5.2.2.2.2.1, ((((List.length v5.2.2.2.2.1) : Nat) : Int), ((0 : Int), (v5.2.2.2.2.2.2.2.2.1, ())))))))))))).bind fun v6 =>
                sumk v6
                  (fun v7 =>
                    some (Sum.inl v7))
                  (fun v8 =>
                    L_law20_BlockReaches_24 n k (v8.1, (v8.2.2.2.1, (v8.2.1, ((), (v8.2.2.2.2.1, (v8.2.2.2.2.2.1, ((IntKind.wrap IntKind.i64 (v8.2.2.2.2.2.2.1 + (1 : Int))), (v8.2.2.2.2.2.2.2.1, ()))))))))))))))
      (some (Sum.inr ())) := (by kernel_rfl)

theorem L_law20_BlockReaches_30_eq (n k : Nat) (s8 : List Int) (s11 : Int) (s18 : Int) (s20 : List (List Int)) (s21 : List ((List Int) × (List Int))) (s117 : List ((List Int) × (List Int) × (List Int) × (List Int) × (List Int) × (List Int) × Int × Int × Int × Int × Int × (List Int) × (List Int) × (List Int) × Int × Int × Int)) (s118 : Int) (s119 : Int) (s148 : List (List Int)) (s149 : Int) (s150 : Int) (o43_0 : Int) (o43_1 : List Int) (o43_2 : List Int) (o43_3 : List Int) : L_law20_BlockReaches_30 n (k + 1) (s8, s11, (), s18, s20, s21, s117, s118, s119, s148, s149, s150, (o43_0, o43_1, o43_2, o43_3, ()), ()) =
    brk (decide (s150 < s149))
      (((idx s148 s150)).bind fun v1 =>
      brk ((((List.length v1) : Nat) : Int) != s11)
        (some (Sum.inl (false, ())))
        ((L_law20_BlockReaches_35 n n (s8, (s11, ((), (s18, (s20, (s21, (s117, (s118, (s119, (s148, (s149, (s150, (v1, ((((List.length v1) : Nat) : Int), ((0 : Int), ((o43_0, (o43_1, (o43_2, (o43_3, ())))), ()))))))))))))))))).bind fun v2 =>
        sumk v2
          (fun v3 =>
            some (Sum.inl v3))
          (fun v4 =>
            L_law20_BlockReaches_30 n k (v4.1, (v4.2.1, ((), (v4.2.2.2.1, (v4.2.2.2.2.1, (v4.2.2.2.2.2.1, (v4.2.2.2.2.2.2.1, (v4.2.2.2.2.2.2.2.1, (v4.2.2.2.2.2.2.2.2.1, (v4.2.2.2.2.2.2.2.2.2.1, (v4.2.2.2.2.2.2.2.2.2.2.1, ((IntKind.wrap IntKind.i64 (v4.2.2.2.2.2.2.2.2.2.2.2.1 + (1 : Int))), (v4.2.2.2.2.2.2.2.2.2.2.2.2.1, ()))))))))))))))))
      (some (Sum.inr (s8, (s11, ((), (s20, (s21, (s117, (s118, (s119, ((o43_0, (o43_1, (o43_2, (o43_3, ())))), ()))))))))))) := (by kernel_rfl)

theorem L_law20_BlockReaches_35_eq (n k : Nat) (s8 : List Int) (s11 : Int) (s18 : Int) (s20 : List (List Int)) (s21 : List ((List Int) × (List Int))) (s117 : List ((List Int) × (List Int) × (List Int) × (List Int) × (List Int) × (List Int) × Int × Int × Int × Int × Int × (List Int) × (List Int) × (List Int) × Int × Int × Int)) (s118 : Int) (s119 : Int) (s148 : List (List Int)) (s149 : Int) (s150 : Int) (s158 : List Int) (s159 : Int) (s160 : Int) (o43_0 : Int) (o43_1 : List Int) (o43_2 : List Int) (o43_3 : List Int) : L_law20_BlockReaches_35 n (k + 1) (s8, s11, (), s18, s20, s21, s117, s118, s119, s148, s149, s150, s158, s159, s160, (o43_0, o43_1, o43_2, o43_3, ()), ()) =
    brk (decide (s160 < s159))
      (((idx s158 s160)).bind fun v1 =>
      ((idx s8 (IntKind.wrap IntKind.i64 ((IntKind.wrap IntKind.i64 ((2 : Int) * s18)) + (2 : Int))))).bind fun v2 =>
      brk (decide (v1 > v2))
        (some (Sum.inl (false, ())))
        (((idx s8 (IntKind.wrap IntKind.i64 ((IntKind.wrap IntKind.i64 ((2 : Int) * s18)) + (2 : Int))))).bind fun v3 =>
        brk (decide (v1 < (IntKind.wrap IntKind.i64 ((0 : Int) - v3))))
          (some (Sum.inl (false, ())))
          (L_law20_BlockReaches_35 n k (s8, (s11, ((), (s18, (s20, (s21, (s117, (s118, (s119, (s148, (s149, (s150, (s158, (s159, ((IntKind.wrap IntKind.i64 (s160 + (1 : Int))), ((o43_0, (o43_1, (o43_2, (o43_3, ())))), ())))))))))))))))))))
      (some (Sum.inr (s8, (s11, ((), (s18, (s20, (s21, (s117, (s118, (s119, (s148, (s149, (s150, ((o43_0, (o43_1, (o43_2, (o43_3, ())))), ()))))))))))))))) := (by kernel_rfl)

theorem L_law20_BlockReaches_42_eq (n k : Nat) (s8 : List Int) (s11 : Int) (s20 : List (List Int)) (s117 : List ((List Int) × (List Int) × (List Int) × (List Int) × (List Int) × (List Int) × Int × Int × Int × Int × Int × (List Int) × (List Int) × (List Int) × Int × Int × Int)) (s118 : Int) (s119 : Int) (s185 : List ((List Int) × (List Int))) (s186 : Int) (s187 : Int) (o43_0 : Int) (o43_1 : List Int) (o43_2 : List Int) (o43_3 : List Int) : L_law20_BlockReaches_42 n (k + 1) (s8, s11, (), s20, s117, s118, s119, s185, s186, s187, (o43_0, o43_1, o43_2, o43_3, ()), ()) =
    brk (decide (s187 < s186))
      (((idx s185 s187)).bind fun v1 =>
      brk ((((List.length v1.1) : Nat) : Int) != s11)
        (some (Sum.inl (false, ())))
        (brk ((((List.length v1.2) : Nat) : Int) != s11)
          (some (Sum.inl (false, ())))
          ((L_law20_BlockReaches_47 n n (s8, (s11, ((), (s20, ((v1.1, (v1.2, ())), (s117, (s118, (s119, (s185, (s186, (s187, ((((List.length v1.1) : Nat) : Int), ((0 : Int), ((o43_0, (o43_1, (o43_2, (o43_3, ())))), ()))))))))))))))).bind fun v2 =>
          sumk v2
            (fun v3 =>
              some (Sum.inl v3))
            (fun v4 =>
              L_law20_BlockReaches_42 n k (v4.1, (v4.2.1, ((), (v4.2.2.2.1, (v4.2.2.2.2.1, (v4.2.2.2.2.2.1, (v4.2.2.2.2.2.2.1, (v4.2.2.2.2.2.2.2.1, (v4.2.2.2.2.2.2.2.2.1, ((IntKind.wrap IntKind.i64 (v4.2.2.2.2.2.2.2.2.2.1 + (1 : Int))), (v4.2.2.2.2.2.2.2.2.2.2.1, ())))))))))))))))
      (some (Sum.inr (s8, (s11, ((), (s20, (s117, (s118, (s119, ((o43_0, (o43_1, (o43_2, (o43_3, ())))), ())))))))))) := (by kernel_rfl)

theorem L_law20_BlockReaches_47_eq (n k : Nat) (s8 : List Int) (s11 : Int) (s20 : List (List Int)) (s28_0 : List Int) (s28_1 : List Int) (s117 : List ((List Int) × (List Int) × (List Int) × (List Int) × (List Int) × (List Int) × Int × Int × Int × Int × Int × (List Int) × (List Int) × (List Int) × Int × Int × Int)) (s118 : Int) (s119 : Int) (s185 : List ((List Int) × (List Int))) (s186 : Int) (s187 : Int) (s205 : Int) (s206 : Int) (o43_0 : Int) (o43_1 : List Int) (o43_2 : List Int) (o43_3 : List Int) : L_law20_BlockReaches_47 n (k + 1) (s8, s11, (), s20, (s28_0, s28_1, ()), s117, s118, s119, s185, s186, s187, s205, s206, (o43_0, o43_1, o43_2, o43_3, ()), ()) =
    brk (decide (s206 < s205))
      (((idx s28_0 s206)).bind fun v1 =>
      brk (v1 == (-(128 : Int)))
        (some (Sum.inl (false, ())))
        (((idx s28_1 s206)).bind fun v2 =>
        brk (v2 == (-(128 : Int)))
          (some (Sum.inl (false, ())))
          (L_law20_BlockReaches_47 n k (s8, (s11, ((), (s20, ((s28_0, (s28_1, ())), (s117, (s118, (s119, (s185, (s186, (s187, (s205, ((IntKind.wrap IntKind.i64 (s206 + (1 : Int))), ((o43_0, (o43_1, (o43_2, (o43_3, ())))), ())))))))))))))))))
      (some (Sum.inr (s8, (s11, ((), (s20, (s117, (s118, (s119, (s185, (s186, (s187, ((o43_0, (o43_1, (o43_2, (o43_3, ())))), ()))))))))))))) := (by kernel_rfl)

end Go.Am
