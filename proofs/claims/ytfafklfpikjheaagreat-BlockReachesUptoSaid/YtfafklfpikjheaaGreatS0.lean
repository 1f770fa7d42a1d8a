import Derived.Test.YtfafklfpikjheaaGreatD7
import Derived.Test.YtfafklfpikjheaaGreatD0
import Derived.KernelRfl
set_option linter.unusedVariables false
set_option linter.unusedSimpArgs false
namespace Go.Am
open Go Go.Proofs

theorem P_ref16_within (n : Nat) : PSound Tryz.prog 81 (E_ref16_within n) := psound_of_body (X := X_ref16_within n) (fn := Tryz.f81) (ps := [(.int .i64), (.int .i64), (.int .i64)]) (rs := [.bool]) mixed ⟨ttOK, callsOK_nil, ownsOK_nil⟩ Tryz.func81 (by kernel_rfl) (by kernel_rfl) (by kernel_rfl)
theorem P_ref16_Check (n : Nat) : PSound Tryz.prog 79 (E_ref16_Check n) := psound_of_body (X := X_ref16_Check n) (fn := Tryz.f79) (ps := [Y4]) (rs := [(.int .i64)]) mixed ⟨ttOK, callsOK_cons (P_ref16_within n) (callsOK_nil), ownsOK_nil⟩ Tryz.func79 (by kernel_rfl) (by kernel_rfl) (by kernel_rfl)
theorem P_ref16_texts (n : Nat) : PSound Tryz.prog 85 (E_ref16_texts n) := psound_of_body (X := X_ref16_texts n) (fn := Tryz.f85) (ps := [(.int .i64)]) (rs := [Y7]) mixed ⟨ttOK, callsOK_nil, ownsOK_nil⟩ Tryz.func85 (by kernel_rfl) (by kernel_rfl) (by kernel_rfl)
theorem P_ref16_root (n : Nat) : PSound Tryz.prog 86 (E_ref16_root n) := psound_of_body (X := X_ref16_root n) (fn := Tryz.f86) (ps := [(.int .i64)]) (rs := [(.int .i64)]) mixed ⟨ttOK, callsOK_nil, ownsOK_nil⟩ Tryz.func86 (by kernel_rfl) (by kernel_rfl) (by kernel_rfl)
theorem P_ref16_same (n : Nat) : PSound Tryz.prog 87 (E_ref16_same n) := psound_of_body (X := X_ref16_same n) (fn := Tryz.f87) (ps := [(.int .i8), (.int .i64)]) (rs := [Y8]) mixed ⟨ttOK, callsOK_nil, ownsOK_nil⟩ Tryz.func87 (by kernel_rfl) (by kernel_rfl) (by kernel_rfl)
theorem P_ref16_Half (n : Nat) : PSound Tryz.prog 82 (E_ref16_Half n) := psound_of_body (X := X_ref16_Half n) (fn := Tryz.f82) (ps := [Y4]) (rs := [(.int .i64)]) mixed ⟨ttOK, callsOK_cons (P_ref16_Check n) (callsOK_nil), ownsOK_nil⟩ Tryz.func82 (by kernel_rfl) (by kernel_rfl) (by kernel_rfl)
theorem P_ref10_Sine (n : Nat) : PSound Tryz.prog 112 (E_ref10_Sine n) := psound_of_body (X := X_ref10_Sine n) (fn := Tryz.f112) (ps := [(.int .i64)]) (rs := [(.int .i8)]) mixed ⟨ttOK, callsOK_nil, ownsOK_nil⟩ Tryz.func112 (by kernel_rfl) (by kernel_rfl) (by kernel_rfl)
theorem P_ref10_Table (n : Nat) : PSound Tryz.prog 88 (E_ref10_Table n) := psound_of_body (X := X_ref10_Table n) (fn := Tryz.f88) (ps := [(.int .i64), (.int .i64)]) (rs := [Y8, Y8, (.int .i64)]) mixed ⟨ttOK, callsOK_cons (P_ref10_Sine n) (callsOK_nil), ownsOK_nil⟩ Tryz.func88 (by kernel_rfl) (by kernel_rfl) (by kernel_rfl)
theorem P_ref02_Floor (n : Nat) : PSound Tryz.prog 116 (E_ref02_Floor n) := psound_of_body (X := X_ref02_Floor n) (fn := Tryz.f116) (ps := [(.int .i64), (.int .i64)]) (rs := [(.int .i64), (.int .i64), (.int .i64)]) mixed ⟨ttOK, callsOK_nil, ownsOK_nil⟩ Tryz.func116 (by kernel_rfl) (by kernel_rfl) (by kernel_rfl)
theorem P_ref02_Exp2 (n : Nat) : PSound Tryz.prog 121 (E_ref02_Exp2 n) := psound_of_body (X := X_ref02_Exp2 n) (fn := Tryz.f121) (ps := [(.int .i64)]) (rs := [(.int .i64)]) mixed ⟨ttOK, callsOK_cons (P_ref02_Floor n) (callsOK_nil), ownsOK_nil⟩ Tryz.func121 (by kernel_rfl) (by kernel_rfl) (by kernel_rfl)
theorem P_ref12_partr (n : Nat) : (k : Nat) → PSound Tryz.prog 126 ⟨[(.int .i64)], [(.int .i64)], F_ref12_partr n k⟩
  | 0 => psound_none Tryz.func126 (by kernel_rfl) (by kernel_rfl) (by kernel_rfl)
  | k + 1 => psound_of_body (X := X_ref12_part n (F_ref12_partr n k)) (fn := Tryz.f126) (ps := [(.int .i64)]) (rs := [(.int .i64)]) mixed ⟨ttOK, callsOK_cons (P_ref12_partr n k) (callsOK_cons (P_ref02_Exp2 n) (callsOK_cons (P_ref02_Floor n) (callsOK_nil))), ownsOK_nil⟩ Tryz.func126 (by kernel_rfl) (by kernel_rfl) (by kernel_rfl)
theorem P_ref12_part (n : Nat) : PSound Tryz.prog 126 (E_ref12_part n) := P_ref12_partr n n
theorem P_ref02_Near (n : Nat) : PSound Tryz.prog 99 (E_ref02_Near n) := psound_of_body (X := X_ref02_Near n) (fn := Tryz.f99) (ps := [(.int .i64), (.int .i64)]) (rs := [(.int .i64), (.int .i64)]) mixed ⟨ttOK, callsOK_cons (P_ref02_Floor n) (callsOK_nil), ownsOK_nil⟩ Tryz.func99 (by kernel_rfl) (by kernel_rfl) (by kernel_rfl)
theorem P_ref02_Round (n : Nat) : PSound Tryz.prog 59 (E_ref02_Round n) := psound_of_body (X := X_ref02_Round n) (fn := Tryz.f59) (ps := [(.int .i64), (.int .i64)]) (rs := [(.int .i64), (.int .i64)]) mixed ⟨ttOK, callsOK_cons (P_ref02_Near n) (callsOK_nil), ownsOK_nil⟩ Tryz.func59 (by kernel_rfl) (by kernel_rfl) (by kernel_rfl)
theorem P_ref02_Clamp (n : Nat) : PSound Tryz.prog 100 (E_ref02_Clamp n) := psound_of_body (X := X_ref02_Clamp n) (fn := Tryz.f100) (ps := [(.int .i64), (.int .i64), (.int .i64)]) (rs := [(.int .i64)]) mixed ⟨ttOK, callsOK_nil, ownsOK_nil⟩ Tryz.func100 (by kernel_rfl) (by kernel_rfl) (by kernel_rfl)
theorem P_ref02_Narrow (n : Nat) : PSound Tryz.prog 60 (E_ref02_Narrow n) := psound_of_body (X := X_ref02_Narrow n) (fn := Tryz.f60) (ps := [(.int .i64)]) (rs := [(.int .i8)]) mixed ⟨ttOK, callsOK_cons (P_ref02_Clamp n) (callsOK_nil), ownsOK_nil⟩ Tryz.func60 (by kernel_rfl) (by kernel_rfl) (by kernel_rfl)
theorem P_ref12_bent (n : Nat) : PSound Tryz.prog 113 (E_ref12_bent n) := psound_of_body (X := X_ref12_bent n) (fn := Tryz.f113) (ps := [(.int .i64), (.int .i64)]) (rs := [(.int .i8)]) mixed ⟨ttOK, callsOK_cons (P_ref12_part n) (callsOK_cons (P_ref02_Round n) (callsOK_cons (P_ref02_Narrow n) (callsOK_nil))), ownsOK_nil⟩ Tryz.func113 (by kernel_rfl) (by kernel_rfl) (by kernel_rfl)
end Go.Am

namespace Go.Am
open Go Go.Proofs
set_option maxRecDepth 100000

theorem F_ref16_within_eq (n : Nat) (a0 : Int) (a1 : Int) (a2 : Int) : F_ref16_within n (a0, a1, a2) =
    brk (decide (a0 ≥ a1))
      (some (decide (a0 ≤ a2)))
      (some false) := (by kernel_rfl)

theorem F_ref16_Check_eq (n : Nat) (a0 : Int × Int × Int × Int × Int × Int) : F_ref16_Check n a0 =
    ((F_ref16_within n (a0.1, ((2 : Int), (512 : Int))))).bind fun v1 =>
    brk (!v1)
      (some (160 : Int))
      (((F_ref16_within n (a0.2.1, ((1 : Int), (512 : Int))))).bind fun v2 =>
      brk (!v2)
        (some (160 : Int))
        (((F_ref16_within n (a0.2.2.1, ((2 : Int), (64 : Int))))).bind fun v3 =>
        brk (!v3)
          (some (160 : Int))
          (((F_ref16_within n (a0.2.2.2.2.1, ((1 : Int), (8 : Int))))).bind fun v4 =>
          brk (!v4)
            (some (160 : Int))
            (((F_ref16_within n (a0.2.2.2.2.2, ((1 : Int), (256 : Int))))).bind fun v5 =>
            brk (!v5)
              (some (160 : Int))
              (brk (decide (a0.2.2.2.1 < (1 : Int)))
                (some (160 : Int))
                (((rm a0.2.2.1 a0.2.2.2.1)).bind fun v6 =>
                brk (v6 != (0 : Int))
                  (some (160 : Int))
                  (((qt IntKind.i64 a0.2.2.1 a0.2.2.2.1)).bind fun v7 =>
                  ((rm v7 (2 : Int))).bind fun v8 =>
                  brk (v8 != (0 : Int))
                    (some (160 : Int))
                    (some (0 : Int))))))))) := (by kernel_rfl)

theorem F_ref16_texts_eq (n : Nat) (a0 : Int) : F_ref16_texts n a0 =
    (L_ref16_texts_3 n n (a0, ((), ((), ((1 : Int), (([], ([], ())), (([(Array.toList (ByteArray.data (ByteArray.mk (List.toArray []))))], ([], ())), ()))))))).bind fun v1 =>
    some (v1.2.2.2.1.1, v1.2.2.2.1.2.1) := (by kernel_rfl)

theorem L_ref16_texts_3_eq (n k : Nat) (s0 : Int) (s4 : Int) (o0_0 : List (List UInt8)) (o0_1 : List (Int × Int × Int)) (o3_0 : List (List UInt8)) (o3_1 : List (Int × Int × Int)) : L_ref16_texts_3 n (k + 1) (s0, (), (), s4, (o0_0, o0_1, ()), (o3_0, o3_1, ()), ()) =
    brk (decide (s4 < s0))
      (brk (decide (s4 < (256 : Int)))
        (((rm (IntKind.wrap IntKind.i64 ((96 : Int) + s4)) (256 : Int))).bind fun v1 =>
        ((app (16 : Nat) o3_0 [(bytesOf [(IntKind.wrap IntKind.u8 v1)])])).bind fun v2 =>
        L_ref16_texts_3 n k (s0, ((), ((), ((IntKind.wrap IntKind.i64 (s4 + (1 : Int))), ((o0_0, (o0_1, ())), ((v2, (o3_1, ())), ())))))))
        (((rm (IntKind.wrap IntKind.i64 ((IntKind.wrap IntKind.i64 ((97 : Int) + s4)) - (256 : Int))) (256 : Int))).bind fun v3 =>
        ((app (16 : Nat) o3_0 [(bytesOf [(97 : Int), (IntKind.wrap IntKind.u8 v3)])])).bind fun v4 =>
        (brk (decide (s4 ≤ (510 : Int)))
            (((app (24 : Nat) o3_1 [((1 : Int), ((IntKind.wrap IntKind.i64 (s4 - (255 : Int))), s4))])).bind fun v6 =>
            some (s0, ((), ((), (s4, ((o0_0, (o0_1, ())), ((v4, (v6, ())), ())))))))
            (some (s0, ((), ((), (s4, ((o0_0, (o0_1, ())), ((v4, (o3_1, ())), ())))))))).bind fun v5 =>
        L_ref16_texts_3 n k (v5.1, ((), ((), ((IntKind.wrap IntKind.i64 (v5.2.2.2.1 + (1 : Int))), (v5.2.2.2.2.1, (v5.2.2.2.2.2.1, ()))))))))
      (some ((), ((), ((o0_0, (o0_1, ())), ((o3_0, (o3_1, ())), ()))))) := (by kernel_rfl)

theorem F_ref16_root_eq (n : Nat) (a0 : Int) : F_ref16_root n a0 =
    (L_ref16_root_3 n n (a0, ((0 : Int), ((1 : Int), ())))).bind fun v1 =>
    some v1.1 := (by kernel_rfl)

theorem L_ref16_root_3_eq (n k : Nat) (s0 : Int) (s3 : Int) (s4 : Int) : L_ref16_root_3 n (k + 1) (s0, s3, s4, ()) =
    brk (decide (s4 < s0))
      (L_ref16_root_3 n k (s0, ((IntKind.wrap IntKind.i64 (s3 + (1 : Int))), ((IntKind.wrap IntKind.i64 (s4 * (4 : Int))), ()))))
      (some (s3, ())) := (by kernel_rfl)

theorem F_ref16_same_eq (n : Nat) (a0 : Int) (a1 : Int) : F_ref16_same n (a0, a1) =
    (L_ref16_same_3 n n (a0, (a1, ([], ((0 : Int), ()))))).bind fun v1 =>
    some v1.1 := (by kernel_rfl)

theorem L_ref16_same_3_eq (n k : Nat) (s0 : Int) (s1 : Int) (s5 : List Int) (s6 : Int) : L_ref16_same_3 n (k + 1) (s0, s1, s5, s6, ()) =
    brk (decide (s6 < s1))
      (((app (1 : Nat) s5 [s0])).bind fun v1 =>
      L_ref16_same_3 n k (s0, (s1, (v1, ((IntKind.wrap IntKind.i64 (s6 + (1 : Int))), ())))))
      (some (s5, ())) := (by kernel_rfl)

theorem F_ref16_Half_eq (n : Nat) (a0 : Int × Int × Int × Int × Int × Int) : F_ref16_Half n a0 =
    ((F_ref16_Check n a0)).bind fun v1 =>
    brk (v1 != (0 : Int))
      (some (0 : Int))
      (((qt IntKind.i64 a0.2.2.1 a0.2.2.2.1)).bind fun v2 =>
      ((qt IntKind.i64 v2 (2 : Int))).bind fun v3 =>
      some v3) := (by kernel_rfl)

theorem F_ref10_Sine_eq (n : Nat) (a0 : Int) : F_ref10_Sine n a0 =
    ((rm a0 (256 : Int))).bind fun v1 =>
    (brk (decide (v1 < (0 : Int)))
        (some ([(0 : Int), (2 : Int), (3 : Int), (5 : Int), (6 : Int), (8 : Int), (9 : Int), (11 : Int), (12 : Int), (14 : Int), (16 : Int), (17 : Int), (19 : Int), (20 : Int), (22 : Int), (23 : Int), (24 : Int), (26 : Int), (27 : Int), (29 : Int), (30 : Int), (32 : Int), (33 : Int), (34 : Int), (36 : Int), (37 : Int), (38 : Int), (39 : Int), (41 : Int), (42 : Int), (43 : Int), (44 : Int), (45 : Int), (46 : Int), (47 : Int), (48 : Int), (49 : Int), (50 : Int), (51 : Int), (52 : Int), (53 : Int), (54 : Int), (55 : Int), (56 : Int), (56 : Int), (57 : Int), (58 : Int), (59 : Int), (59 : Int), (60 : Int), (60 : Int), (61 : Int), (61 : Int), (62 : Int), (62 : Int), (62 : Int), (63 : Int), (63 : Int), (63 : Int), (64 : Int), (64 : Int), (64 : Int), (64 : Int), (64 : Int), (64 : Int)], ((IntKind.wrap IntKind.i64 (v1 + (256 : Int))), ())))
        (some ([(0 : Int), (2 : Int), (3 : Int), (5 : Int), (6 : Int), (8 : Int), (9 : Int), (11 : Int), (12 : Int), (14 : Int), (16 : Int), (17 : Int), (19 : Int), (20 : Int), (22 : Int), (23 : Int), (24 : Int), (26 : Int), (27 : Int), (29 : Int), (30 : Int), (32 : Int), (33 : Int), (34 : Int), (36 : Int), (37 : Int), (38 : Int), (39 : Int), (41 : Int), (42 : Int), (43 : Int), (44 : Int), (45 : Int), (46 : Int), (47 : Int), (48 : Int), (49 : Int), (50 : Int), (51 : Int), (52 : Int), (53 : Int), (54 : Int), (55 : Int), (56 : Int), (56 : Int), (57 : Int), (58 : Int), (59 : Int), (59 : Int), (60 : Int), (60 : Int), (61 : Int), (61 : Int), (62 : Int), (62 : Int), (62 : Int), (63 : Int), (63 : Int), (63 : Int), (64 : Int), (64 : Int), (64 : Int), (64 : Int), (64 : Int), (64 : Int)], (v1, ())))).bind fun v2 =>
    brk (decide (v2.2.1 ≤ (64 : Int)))
      (((idx v2.1 v2.2.1)).bind fun v3 =>
      some v3)
      (brk (decide (v2.2.1 ≤ (128 : Int)))
        (((idx v2.1 (IntKind.wrap IntKind.i64 ((128 : Int) - v2.2.1)))).bind fun v4 =>
        some v4)
        (brk (decide (v2.2.1 ≤ (192 : Int)))
          (((idx v2.1 (IntKind.wrap IntKind.i64 (v2.2.1 - (128 : Int))))).bind fun v5 =>
          some (IntKind.wrap IntKind.i8 ((0 : Int) - v5)))
          (((idx v2.1 (IntKind.wrap IntKind.i64 ((256 : Int) - v2.2.1)))).bind fun v6 =>
          some (IntKind.wrap IntKind.i8 ((0 : Int) - v6))))) := (by kernel_rfl)

theorem F_ref10_Table_eq (n : Nat) (a0 : Int) (a1 : Int) : F_ref10_Table n (a0, a1) =
    brk (decide (a0 < (1 : Int)))
      (some ([], ([], (102 : Int))))
      (brk (decide (a0 > (512 : Int)))
        (some ([], ([], (102 : Int))))
        (brk (decide (a1 < (1 : Int)))
          (some ([], ([], (102 : Int))))
          (brk (decide (a1 > (32 : Int)))
            (some ([], ([], (102 : Int))))
            ((L_ref10_Table_5 n n (a0, (a1, ([], ([], ((0 : Int), ())))))).bind fun v1 =>
            some (v1.1, (v1.2.1, (0 : Int))))))) := (by kernel_rfl)

theorem L_ref10_Table_5_eq (n k : Nat) (s0 : Int) (s1 : Int) (s7 : List Int) (s8 : List Int) (s9 : Int) : L_ref10_Table_5 n (k + 1) (s0, s1, s7, s8, s9, ()) =
    brk (decide (s9 < s0))
      ((L_ref10_Table_9 n n (s0, (s1, (s7, (s8, (s9, ((1 : Int), ((0 : Int), ())))))))).bind fun v1 =>
      L_ref10_Table_5 n k (v1.1, (v1.2.1, (v1.2.2.1, (v1.2.2.2.1, ((IntKind.wrap IntKind.i64 (v1.2.2.2.2.1 + (1 : Int))), ()))))))
      (some (s7, (s8, ()))) := (by kernel_rfl)

theorem L_ref10_Table_9_eq (n k : Nat) (s0 : Int) (s1 : Int) (s7 : List Int) (s8 : List Int) (s9 : Int) (s10 : Int) (s11 : Int) : L_ref10_Table_9 n (k + 1) (s0, s1, s7, s8, s9, s10, s11, ()) =
    brk (decide (s11 < s1))
      (((qt IntKind.i64 (IntKind.wrap IntKind.i64 ((64 : Int) * s9)) s10)).bind fun v1 =>
      ((F_ref10_Sine n (IntKind.wrap IntKind.i64 (v1 + (64 : Int))))).bind fun v2 =>
      ((app (1 : Nat) s7 [v2])).bind fun v3 =>
      ((F_ref10_Sine n v1)).bind fun v4 =>
      ((app (1 : Nat) s8 [v4])).bind fun v5 =>
      L_ref10_Table_9 n k (s0, (s1, (v3, (v5, (s9, ((IntKind.wrap IntKind.i64 (s10 * (2 : Int))), ((IntKind.wrap IntKind.i64 (s11 + (1 : Int))), ()))))))))
      (some (s0, (s1, (s7, (s8, (s9, ())))))) := (by kernel_rfl)

theorem F_ref02_Floor_eq (n : Nat) (a0 : Int) (a1 : Int) : F_ref02_Floor n (a0, a1) =
    brk (decide (a1 < (1 : Int)))
      (some ((0 : Int), ((0 : Int), (21 : Int))))
      (((qt IntKind.i64 a0 a1)).bind fun v1 =>
      ((rm a0 a1)).bind fun v2 =>
      (brk (decide (v2 < (0 : Int)))
          (some ((IntKind.wrap IntKind.i64 (v1 - (1 : Int))), ((IntKind.wrap IntKind.i64 (v2 + a1)), ())))
          (some (v1, (v2, ())))).bind fun v3 =>
      some (v3.1, (v3.2.1, (0 : Int)))) := (by kernel_rfl)

theorem F_ref02_Exp2_eq (n : Nat) (a0 : Int) : F_ref02_Exp2 n a0 =
    (brk (decide (a0 > (0 : Int)))
        (some ((0 : Int), ()))
        (some (a0, ()))).bind fun v1 =>
    ((F_ref02_Floor n (v1.1, (65536 : Int)))).bind fun v2 =>
    ((qt IntKind.i64 (IntKind.wrap IntKind.i64 ((84941200 : Int) * v2.2.1)) (65536 : Int))).bind fun v3 =>
    ((qt IntKind.i64 (IntKind.wrap IntKind.i64 ((IntKind.wrap IntKind.i64 ((241400000 : Int) + v3)) * v2.2.1)) (65536 : Int))).bind fun v4 =>
    ((qt IntKind.i64 (IntKind.wrap IntKind.i64 ((IntKind.wrap IntKind.i64 ((747400624 : Int) + v4)) * v2.2.1)) (65536 : Int))).bind fun v5 =>
    brk (decide ((IntKind.wrap IntKind.i64 ((0 : Int) - v2.1)) ≥ (31 : Int)))
      (some (0 : Int))
      ((L_ref02_Exp2_11 n n ((IntKind.wrap IntKind.i64 ((0 : Int) - v2.1)), ((IntKind.wrap IntKind.i64 ((1073741824 : Int) + v5)), ((0 : Int), ())))).bind fun v6 =>
      some v6.1) := (by kernel_rfl)

theorem L_ref02_Exp2_11_eq (n k : Nat) (s6 : Int) (s9 : Int) (s10 : Int) : L_ref02_Exp2_11 n (k + 1) (s6, s9, s10, ()) =
    brk (decide (s10 < s6))
      (((qt IntKind.i64 s9 (2 : Int))).bind fun v1 =>
      L_ref02_Exp2_11 n k (s6, (v1, ((IntKind.wrap IntKind.i64 (s10 + (1 : Int))), ()))))
      (some (s9, ())) := (by kernel_rfl)

theorem F_ref12_partr_eq (n k : Nat) (a0 : Int) : F_ref12_partr n (k + 1) a0 =
    brk (decide (a0 < (0 : Int)))
      (((F_ref12_partr n k (IntKind.wrap IntKind.i64 ((0 : Int) - a0)))).bind fun v1 =>
      some (IntKind.wrap IntKind.i64 ((64 : Int) - v1)))
      (((F_ref02_Exp2 n (IntKind.wrap IntKind.i64 ((-(8192 : Int)) * a0)))).bind fun v2 =>
      ((F_ref02_Floor n ((68719476736 : Int), (IntKind.wrap IntKind.i64 ((1073741824 : Int) + v2))))).bind fun v3 =>
      some v3.1) := (by kernel_rfl)

theorem F_ref02_Near_eq (n : Nat) (a0 : Int) (a1 : Int) : F_ref02_Near n (a0, a1) =
    ((F_ref02_Floor n (a0, a1))).bind fun v1 =>
    brk (v1.2.2 != (0 : Int))
      (some ((0 : Int), v1.2.2))
      (brk (decide (v1.2.1 > (IntKind.wrap IntKind.i64 (a1 - v1.2.1))))
        ((some ((IntKind.wrap IntKind.i64 (v1.1 + (1 : Int))), ())).bind fun v2 =>
        some (v2.1, (0 : Int)))
        (brk (v1.2.1 == (IntKind.wrap IntKind.i64 (a1 - v1.2.1)))
          (((rm v1.1 (2 : Int))).bind fun v3 =>
          (brk (v3 != (0 : Int))
              (some ((IntKind.wrap IntKind.i64 (v1.1 + (1 : Int))), ()))
              (some (v1.1, ()))).bind fun v4 =>
          some (v4.1, (0 : Int)))
          ((some (v1.1, ())).bind fun v5 =>
          some (v5.1, (0 : Int))))) := (by kernel_rfl)

theorem F_ref02_Round_eq (n : Nat) (a0 : Int) (a1 : Int) : F_ref02_Round n (a0, a1) =
    brk (decide (a1 < (0 : Int)))
      (some ((0 : Int), (20 : Int)))
      (brk (decide (a1 > (62 : Int)))
        (some ((0 : Int), (20 : Int)))
        ((L_ref02_Round_5 n n (a0, (a1, ((1 : Int), ((0 : Int), ()))))).bind fun v1 =>
        ((F_ref02_Near n (v1.1, v1.2.1))).bind fun v2 =>
        some v2)) := (by kernel_rfl)

theorem L_ref02_Round_5_eq (n k : Nat) (s0 : Int) (s1 : Int) (s6 : Int) (s7 : Int) : L_ref02_Round_5 n (k + 1) (s0, s1, s6, s7, ()) =
    brk (decide (s7 < s1))
      (L_ref02_Round_5 n k (s0, (s1, ((IntKind.wrap IntKind.i64 (s6 * (2 : Int))), ((IntKind.wrap IntKind.i64 (s7 + (1 : Int))), ())))))
      (some (s0, (s6, ()))) := (by kernel_rfl)

theorem F_ref02_Clamp_eq (n : Nat) (a0 : Int) (a1 : Int) (a2 : Int) : F_ref02_Clamp n (a0, a1, a2) =
    brk (decide (a0 < a1))
      (some a1)
      (brk (decide (a0 > a2))
        (some a2)
        (some a0)) := (by kernel_rfl)

theorem F_ref02_Narrow_eq (n : Nat) (a0 : Int) : F_ref02_Narrow n a0 =
    ((F_ref02_Clamp n (a0, ((-(127 : Int)), (127 : Int))))).bind fun v1 =>
    some (IntKind.wrap IntKind.i8 v1) := (by kernel_rfl)

theorem F_ref12_bent_eq (n : Nat) (a0 : Int) (a1 : Int) : F_ref12_bent n (a0, a1) =
    (brk (a0 == (2 : Int))
        (((F_ref12_part n a1)).bind fun v2 =>
        ((F_ref02_Round n ((IntKind.wrap IntKind.i64 (a1 * v2)), (6 : Int)))).bind fun v3 =>
        some (v3.1, ()))
        (brk (decide (a1 > (0 : Int)))
          ((brk (a0 == (1 : Int))
              (some (a1, ()))
              ((brk (decide (a1 > (0 : Int)))
                  (((F_ref02_Round n ((IntKind.wrap IntKind.i64 (a1 * a1)), (7 : Int)))).bind fun v6 =>
                  some (v6.1, ()))
                  (some ((0 : Int), ()))).bind fun v5 =>
              some v5)).bind fun v4 =>
          some v4)
          (((brk (decide (a1 > (0 : Int)))
                (((F_ref02_Round n ((IntKind.wrap IntKind.i64 (a1 * a1)), (7 : Int)))).bind fun v9 =>
                some (v9.1, ()))
                (some ((0 : Int), ()))).bind fun v8 =>
            some v8).bind fun v7 =>
          some v7))).bind fun v1 =>
    ((F_ref02_Narrow n v1.1)).bind fun v10 =>
    some v10 := (by kernel_rfl)

end Go.Am
