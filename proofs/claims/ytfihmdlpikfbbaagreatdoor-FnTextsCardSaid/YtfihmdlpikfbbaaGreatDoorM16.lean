/- Part 16 of 20 of a claim; what is proved, and under which conditions, stands in the last part. Here: Zm05. -/
import Derived.Test.YtfihmdlpikfbbaaGreatDoorM15
set_option linter.unusedVariables false
set_option linter.unusedSimpArgs false
set_option linter.unusedSectionVars false
section
/- Models of functions, and that they are what the functions do: spec.ShowOp, spec.l1Text, spec.l1Spoil, spec.l1Pick, spec.DrawReadOp, spec.l29Cut, spec.ReadDec, spec.l29Num. -/
namespace Go.Proofs.YtfihmdlpikfbbaaGreatDoor
open Go Go.Eng
set_option maxRecDepth 100000
set_option maxHeartbeats 400000
noncomputable section

/- loop.example/g01538/spec.ShowOp -/
noncomputable def env_m37 : List (Nat × Nat × Ct) := [(14, 0, ct_m14), (36, 0, ct_m36), (44, 0, ct_m44), (59, 0, ct_m59)]
noncomputable def cx_m37 : Cx := mkCx kn env_m37 [0, 1, 2, 3, 6, 12, 21] 34
noncomputable def c_m37 : Code := codeOf Tryz.f37
noncomputable def m37 (a1 : (Int × (Int × (Int × (Int × Unit))))) : Option (List UInt8 × Unit) :=
  (m14 a1).bind fun r1 =>
  bif (!r1.1) then
    some (([] : List UInt8), ())
  else
    (m44 a1.1).bind fun r2 =>
    (m36 a1.1).bind fun r3 =>
    bif r3.1 then
      bif (decide (List.length r2.1 + List.length ([32] : List UInt8) < 4611686018427387904)) then
        (m59 a1.2.1).bind fun r4 =>
        bif (decide (List.length (r2.1 ++ ([32] : List UInt8)) + List.length r4.1 < 4611686018427387904)) then
          bif (a1.1 == 1) then
            bif (decide (List.length ((r2.1 ++ ([32] : List UInt8)) ++ r4.1) + List.length ([32] : List UInt8) < 4611686018427387904)) then
              (m59 a1.2.2.1).bind fun r5 =>
              bif (decide (List.length (((r2.1 ++ ([32] : List UInt8)) ++ r4.1) ++ ([32] : List UInt8)) + List.length r5.1 < 4611686018427387904)) then
                bif (decide (List.length ((((r2.1 ++ ([32] : List UInt8)) ++ r4.1) ++ ([32] : List UInt8)) ++ r5.1) + List.length ([32] : List UInt8) < 4611686018427387904)) then
                  (m59 a1.2.2.2.1).bind fun r6 =>
                  bif (decide (List.length (((((r2.1 ++ ([32] : List UInt8)) ++ r4.1) ++ ([32] : List UInt8)) ++ r5.1) ++ ([32] : List UInt8)) + List.length r6.1 < 4611686018427387904)) then
                    some (((((((r2.1 ++ ([32] : List UInt8)) ++ r4.1) ++ ([32] : List UInt8)) ++ r5.1) ++ ([32] : List UInt8)) ++ r6.1), ())
                  else
                    none
                else
                  none
              else
                none
            else
              none
          else
            some (((r2.1 ++ ([32] : List UInt8)) ++ r4.1), ())
        else
          none
      else
        none
    else
      bif (a1.1 == 1) then
        bif (decide (List.length r2.1 + List.length ([32] : List UInt8) < 4611686018427387904)) then
          (m59 a1.2.2.1).bind fun r7 =>
          bif (decide (List.length (r2.1 ++ ([32] : List UInt8)) + List.length r7.1 < 4611686018427387904)) then
            bif (decide (List.length ((r2.1 ++ ([32] : List UInt8)) ++ r7.1) + List.length ([32] : List UInt8) < 4611686018427387904)) then
              (m59 a1.2.2.2.1).bind fun r8 =>
              bif (decide (List.length (((r2.1 ++ ([32] : List UInt8)) ++ r7.1) ++ ([32] : List UInt8)) + List.length r8.1 < 4611686018427387904)) then
                some (((((r2.1 ++ ([32] : List UInt8)) ++ r7.1) ++ ([32] : List UInt8)) ++ r8.1), ())
              else
                none
            else
              none
          else
            none
        else
          none
      else
        some (r2.1, ())
theorem m37_eq (a1 : (Int × (Int × (Int × (Int × Unit))))) : run cx_m37 c_m37 [.tmp 2] false [.bor (.pair (.int .i64) (.pair (.int .i64) (.pair (.int .i64) (.pair (.int .i64) .unit))))] [(.str, .own)] [] [⟨(.pair (.int .i64) (.pair (.int .i64) (.pair (.int .i64) (.pair (.int .i64) .unit)))), a1⟩] = m37 a1 := by kernel_rfl
noncomputable def ct_m37 : Ct := ⟨[.bor (.pair (.int .i64) (.pair (.int .i64) (.pair (.int .i64) (.pair (.int .i64) .unit))))], [(.str, .own)], [], M1 (.pair (.int .i64) (.pair (.int .i64) (.pair (.int .i64) (.pair (.int .i64) .unit)))) m37, false⟩
theorem h_m37 : Holds Tryz.prog kn.G 37 ct_m37 :=
  Holds.of_run (kn := kn) (env := env_m37) (kp := [0, 1, 2, 3, 6, 12, 21]) Tryz.func37 (c := c_m37) (by kernel_rfl) tab_ok (EnvL.cons h_m14 e_m14 (EnvL.cons h_m36 e_m36 (EnvL.cons h_m44 e_m44 (EnvL.cons h_m59 e_m59 EnvL.nil)))) (ct := ct_m37) (n := 34) (by kernel_rfl) (by kernel_rfl) (rv := [.tmp 2]) (by kernel_rfl) (M1_ok (r := run cx_m37 c_m37 [.tmp 2] false [.bor (.pair (.int .i64) (.pair (.int .i64) (.pair (.int .i64) (.pair (.int .i64) .unit))))] [(.str, .own)] []) m37_eq)
theorem e_m37 : Eng.Enters Tryz.prog 37 := Eng.Enters.of Tryz.func37 (c := c_m37) (by kernel_rfl) (by kernel_rfl)

/- loop.example/g01538/spec.l1Text -/
noncomputable def env_m62 : List (Nat × Nat × Ct) := [(39, 0, ct_m39), (61, 0, ct_m61)]
noncomputable def cx_m62 : Cx := mkCx kn env_m62 [0, 1, 4, 5, 6, 7, 8, 17, 23, 27] 38
noncomputable def c_m62 : Code := codeOf Tryz.f62
noncomputable def m62_1_st (p1 : Int) (p2 : Int) (d : Int × ((List Int) × (Int × (Int × Unit))) × (List Int)) : St :=
  ⟨[(0, .ptr 15 []), (1, .val (.int .i64) (p1 : Int)), (4, .val .str (([] : List UInt8) : List UInt8)), (5, .place 81 []), (6, .val (.int .i64) (p2 : Int)), (7, .val (.int .i64) (d.1 : Int))], [(15, ⟨(.pair (.slice (.int .u8)) (.pair (.int .i64) (.pair (.int .i64) .unit))), (.pair .shr .own), (d.2.1 : ((List Int) × (Int × (Int × Unit)))), true⟩), (81, ⟨(.slice (.int .u8)), .own, (d.2.2 : (List Int)), false⟩), (145, ⟨(.slice (.int .u8)), .gone, ([] : (List Int)), false⟩)]⟩
noncomputable def m62_1_x1 (p1 : Int) (p2 : Int) (x1 : Int) (x2 : Bool) (x3 : ((List Int) × (Int × (Int × Unit)))) (x4 : (List Int)) : St :=
  ⟨[(0, .ptr 15 []), (1, .val (.int .i64) (p1 : Int)), (4, .val .str (([] : List UInt8) : List UInt8)), (5, .place 81 []), (6, .val (.int .i64) (p2 : Int)), (7, .val (.int .i64) (x1 : Int)), (17, .val .bool (x2 : Bool))], [(15, ⟨(.pair (.slice (.int .u8)) (.pair (.int .i64) (.pair (.int .i64) .unit))), (.pair .shr .own), (x3 : ((List Int) × (Int × (Int × Unit)))), true⟩), (81, ⟨(.slice (.int .u8)), .own, (x4 : (List Int)), false⟩), (145, ⟨(.slice (.int .u8)), .gone, ([] : (List Int)), false⟩)]⟩
noncomputable def m62_1_body {T : Type} (p1 : Int) (p2 : Int) (X1 : Int → Bool → ((List Int) × (Int × (Int × Unit))) → (List Int) → Option T) (K : Int × ((List Int) × (Int × (Int × Unit))) × (List Int) → Option T) (d : Int × ((List Int) × (Int × (Int × Unit))) × (List Int)) : Option T :=
  bif (decide (d.1 > 0)) then
    (m61 d.2.1).bind fun r11 =>
    bif (p2 == 1) then
      bif (p2 == 2) then
        bif (decide (List.length d.2.2 + List.length [(IntKind.wrap .u8 (IntKind.wrap .i64 (97 + (Int.tmod (Int.tmod r11.1 2) 4))))] < 1073741824)) then
          K ((IntKind.wrap .i64 (d.1 - 1)), r11.2.1, (List.append d.2.2 [(IntKind.wrap .u8 (IntKind.wrap .i64 (97 + (Int.tmod (Int.tmod r11.1 2) 4))))]))
        else
          none
      else
        bif (decide (List.length d.2.2 + List.length [(IntKind.wrap .u8 (Int.tmod r11.1 2))] < 1073741824)) then
          K ((IntKind.wrap .i64 (d.1 - 1)), r11.2.1, (List.append d.2.2 [(IntKind.wrap .u8 (Int.tmod r11.1 2))]))
        else
          none
    else
      bif (p2 == 2) then
        bif (decide (List.length d.2.2 + List.length [(IntKind.wrap .u8 (IntKind.wrap .i64 (97 + (Int.tmod r11.1 4))))] < 1073741824)) then
          K ((IntKind.wrap .i64 (d.1 - 1)), r11.2.1, (List.append d.2.2 [(IntKind.wrap .u8 (IntKind.wrap .i64 (97 + (Int.tmod r11.1 4))))]))
        else
          none
      else
        bif (decide (List.length d.2.2 + List.length [(IntKind.wrap .u8 r11.1)] < 1073741824)) then
          K ((IntKind.wrap .i64 (d.1 - 1)), r11.2.1, (List.append d.2.2 [(IntKind.wrap .u8 r11.1)]))
        else
          none
  else
    X1 d.1 (decide (d.1 > 0)) d.2.1 d.2.2
theorem m62_1_body_eq {R : Type} (p1 : Int) (p2 : Int) (kk : Ex → St → Option R) (d0 d : Int × ((List Int) × (Int × (Int × Unit))) × (List Int)) (K : St → Option R) : execL cx_m62 (loopH cx_m62) (codeAt c_m62 [1, 1, 1, 0, 1, 0, 0]) (m62_1_st p1 p2 d) (bodyK (restr (m62_1_st p1 p2 d0)) K kk) = m62_1_body p1 p2 (fun x1 x2 x3 x4 => kk (.exit 0) (m62_1_x1 p1 p2 x1 x2 x3 x4)) (fun d => K (m62_1_st p1 p2 d)) d := by kernel_rfl
noncomputable def m62_1_p1 (p1 : Int) (p2 : Int) (x1 : Int) (x2 : Bool) (x3 : ((List Int) × (Int × (Int × Unit)))) (x4 : (List Int)) : Option (List UInt8 × ((List Int) × (Int × (Int × Unit))) × Unit) :=
  some ((List.map (fun x : Int => UInt8.ofNat (Int.toNat x)) x4), x3, ())
theorem m62_1_p1_eq (L : Code → St → (Ex → St → Option (Tup ([(.str, .own)] ++ [((.pair (.slice (.int .u8)) (.pair (.int .i64) (.pair (.int .i64) .unit))), (.pair .shr .own))]))) → Option (Tup ([(.str, .own)] ++ [((.pair (.slice (.int .u8)) (.pair (.int .i64) (.pair (.int .i64) .unit))), (.pair .shr .own))]))) (p1 : Int) (p2 : Int) (x1 : Int) (x2 : Bool) (x3 : ((List Int) × (Int × (Int × Unit)))) (x4 : (List Int)) : ctxL cx_m62 L c_m62 [1, 1, 1, 0, 1, 0] (finK cx_m62 [.tmp 4] false [15] [(.str, .own)] [((.pair (.slice (.int .u8)) (.pair (.int .i64) (.pair (.int .i64) .unit))), (.pair .shr .own))]) (.exit 0) (m62_1_x1 p1 p2 x1 x2 x3 x4) = m62_1_p1 p1 p2 x1 x2 x3 x4 := by kernel_rfl
noncomputable def m62_1 (p1 : Int) (p2 : Int) : Nat → Int × ((List Int) × (Int × (Int × Unit))) × (List Int) → Option (List UInt8 × ((List Int) × (Int × (Int × Unit))) × Unit) :=
  loopM (m62_1_body p1 p2 (fun x1 x2 x3 x4 => m62_1_p1 p1 p2 x1 x2 x3 x4))
theorem m62_1_eq (p1 : Int) (p2 : Int) (d : Int × ((List Int) × (Int × (Int × Unit))) × (List Int)) : loopH cx_m62 (codeAt c_m62 [1, 1, 1, 0, 1, 0, 0]) (m62_1_st p1 p2 d) (ctxL cx_m62 (loopH cx_m62) c_m62 [1, 1, 1, 0, 1, 0] (finK cx_m62 [.tmp 4] false [15] [(.str, .own)] [((.pair (.slice (.int .u8)) (.pair (.int .i64) (.pair (.int .i64) .unit))), (.pair .shr .own))])) = m62_1 p1 p2 fuel d := by
  refine (loop_eq (m62_1_st p1 p2) (m62_1_body p1 p2 (fun x1 x2 x3 x4 => ctxL cx_m62 (loopH cx_m62) c_m62 [1, 1, 1, 0, 1, 0] (finK cx_m62 [.tmp 4] false [15] [(.str, .own)] [((.pair (.slice (.int .u8)) (.pair (.int .i64) (.pair (.int .i64) .unit))), (.pair .shr .own))]) (.exit 0) (m62_1_x1 p1 p2 x1 x2 x3 x4))) d (fun K d2 => m62_1_body_eq p1 p2 _ d d2 K)).trans ?_
  unfold m62_1
  simp only [m62_1_p1_eq]
noncomputable def m62_pre (F1 : Int → Int → (Int × ((List Int) × (Int × (Int × Unit))) × (List Int)) → Option (List UInt8 × ((List Int) × (Int × (Int × Unit))) × Unit)) (a1 : ((List Int) × (Int × (Int × Unit)))) (a2 : Int) : Option (List UInt8 × ((List Int) × (Int × (Int × Unit))) × Unit) :=
  (m39 a1 4).bind fun r1 =>
  (m39 r1.2.1 (IntKind.wrap .i64 (a2 + 1))).bind fun r2 =>
  F1 a2 r1.1 (r2.1, r2.2.1, [])
theorem m62_pre_eq (L : Code → St → (Ex → St → Option (Tup ([(.str, .own)] ++ [((.pair (.slice (.int .u8)) (.pair (.int .i64) (.pair (.int .i64) .unit))), (.pair .shr .own))]))) → Option (Tup ([(.str, .own)] ++ [((.pair (.slice (.int .u8)) (.pair (.int .i64) (.pair (.int .i64) .unit))), (.pair .shr .own))]))) (a1 : ((List Int) × (Int × (Int × Unit)))) (a2 : Int) : runL (rs := [(.str, .own)]) (os := [((.pair (.slice (.int .u8)) (.pair (.int .i64) (.pair (.int .i64) .unit))), (.pair .shr .own))]) cx_m62 L c_m62 [.tmp 4] false [.ptr (.pair (.slice (.int .u8)) (.pair (.int .i64) (.pair (.int .i64) .unit))) (.pair .shr .own), .bor (.int .i64)] [⟨(.pair (.slice (.int .u8)) (.pair (.int .i64) (.pair (.int .i64) .unit))), a1⟩, ⟨(.int .i64), a2⟩] = m62_pre (fun p1 p2 d => L (codeAt c_m62 [1, 1, 1, 0, 1, 0, 0]) (m62_1_st p1 p2 d) (ctxL cx_m62 L c_m62 [1, 1, 1, 0, 1, 0] (finK cx_m62 [.tmp 4] false [15] [(.str, .own)] [((.pair (.slice (.int .u8)) (.pair (.int .i64) (.pair (.int .i64) .unit))), (.pair .shr .own))]))) a1 a2 := by kernel_rfl
noncomputable def m62 (a1 : ((List Int) × (Int × (Int × Unit)))) (a2 : Int) : Option (List UInt8 × ((List Int) × (Int × (Int × Unit))) × Unit) := m62_pre (fun p1 p2 d => m62_1 p1 p2 fuel d) a1 a2
theorem m62_eq (a1 : ((List Int) × (Int × (Int × Unit)))) (a2 : Int) : run cx_m62 c_m62 [.tmp 4] false [.ptr (.pair (.slice (.int .u8)) (.pair (.int .i64) (.pair (.int .i64) .unit))) (.pair .shr .own), .bor (.int .i64)] [(.str, .own)] [((.pair (.slice (.int .u8)) (.pair (.int .i64) (.pair (.int .i64) .unit))), (.pair .shr .own))] [⟨(.pair (.slice (.int .u8)) (.pair (.int .i64) (.pair (.int .i64) .unit))), a1⟩, ⟨(.int .i64), a2⟩] = m62 a1 a2 := by
  rw [run_L, m62_pre_eq]
  unfold m62
  simp only [m62_1_eq]
noncomputable def ct_m62 : Ct := ⟨[.ptr (.pair (.slice (.int .u8)) (.pair (.int .i64) (.pair (.int .i64) .unit))) (.pair .shr .own), .bor (.int .i64)], [(.str, .own)], [((.pair (.slice (.int .u8)) (.pair (.int .i64) (.pair (.int .i64) .unit))), (.pair .shr .own))], M2 (.pair (.slice (.int .u8)) (.pair (.int .i64) (.pair (.int .i64) .unit))) (.int .i64) m62, false⟩
theorem h_m62 : Holds Tryz.prog kn.G 62 ct_m62 :=
  Holds.of_run (kn := kn) (env := env_m62) (kp := [0, 1, 4, 5, 6, 7, 8, 17, 23, 27]) Tryz.func62 (c := c_m62) (by kernel_rfl) tab_ok (EnvL.cons h_m39 e_m39 (EnvL.cons h_m61 e_m61 EnvL.nil)) (ct := ct_m62) (n := 38) (by kernel_rfl) (by kernel_rfl) (rv := [.tmp 4]) (by kernel_rfl) (M2_ok (r := run cx_m62 c_m62 [.tmp 4] false [.ptr (.pair (.slice (.int .u8)) (.pair (.int .i64) (.pair (.int .i64) .unit))) (.pair .shr .own), .bor (.int .i64)] [(.str, .own)] [((.pair (.slice (.int .u8)) (.pair (.int .i64) (.pair (.int .i64) .unit))), (.pair .shr .own))]) m62_eq)
theorem e_m62 : Eng.Enters Tryz.prog 62 := Eng.Enters.of Tryz.func62 (c := c_m62) (by kernel_rfl) (by kernel_rfl)

/- loop.example/g01538/spec.l1Spoil -/
noncomputable def env_m40 : List (Nat × Nat × Ct) := [(39, 0, ct_m39), (61, 0, ct_m61), (62, 0, ct_m62)]
noncomputable def cx_m40 : Cx := mkCx kn env_m40 [0, 1, 4, 5, 8, 16, 17, 27, 42] 67
noncomputable def c_m40 : Code := codeOf Tryz.f40
noncomputable def m40 (a1 : ((List Int) × (Int × (Int × Unit)))) (a2 : List UInt8) : Option (List UInt8 × ((List Int) × (Int × (Int × Unit))) × Unit) :=
  bif (((List.length a2 : Int)) == 0) then
    (m62 a1 3).bind fun r1 =>
    some (r1.1, r1.2.1, ())
  else
    (m39 a1 ((List.length a2 : Int))).bind fun r2 =>
    (m39 r2.2.1 4).bind fun r3 =>
    bif (r3.1 == 0) then
      bif ((decide (0 ≤ r2.1)) && (decide (r2.1 ≤ ((List.length a2 : Int))))) then
        bif (((decide (0 ≤ (IntKind.wrap .i64 (r2.1 + 1)))) && (decide ((IntKind.wrap .i64 (r2.1 + 1)) ≤ ((List.length a2 : Int))))) && (decide (((List.length a2 : Int)) ≤ ((List.length a2 : Int))))) then
          bif (decide (List.length (List.drop (0) (List.take (Int.toNat r2.1) a2)) + List.length (List.drop (Int.toNat (IntKind.wrap .i64 (r2.1 + 1))) (List.take (Int.toNat ((List.length a2 : Int))) a2)) < 4611686018427387904)) then
            some (((List.drop (0) (List.take (Int.toNat r2.1) a2)) ++ (List.drop (Int.toNat (IntKind.wrap .i64 (r2.1 + 1))) (List.take (Int.toNat ((List.length a2 : Int))) a2))), r3.2.1, ())
          else
            none
        else
          none
      else
        none
    else
      bif (r3.1 == 1) then
        bif ((decide (0 ≤ r2.1)) && (decide (r2.1 ≤ ((List.length a2 : Int))))) then
          (m61 r3.2.1).bind fun r4 =>
          bif (decide (List.length (List.drop (0) (List.take (Int.toNat r2.1) a2)) + List.length (List.map (fun x : Int => UInt8.ofNat (Int.toNat x)) [(IntKind.wrap .u8 r4.1)]) < 4611686018427387904)) then
            bif (((decide (0 ≤ r2.1)) && (decide (r2.1 ≤ ((List.length a2 : Int))))) && (decide (((List.length a2 : Int)) ≤ ((List.length a2 : Int))))) then
              bif (decide (List.length ((List.drop (0) (List.take (Int.toNat r2.1) a2)) ++ (List.map (fun x : Int => UInt8.ofNat (Int.toNat x)) [(IntKind.wrap .u8 r4.1)])) + List.length (List.drop (Int.toNat r2.1) (List.take (Int.toNat ((List.length a2 : Int))) a2)) < 4611686018427387904)) then
                some ((((List.drop (0) (List.take (Int.toNat r2.1) a2)) ++ (List.map (fun x : Int => UInt8.ofNat (Int.toNat x)) [(IntKind.wrap .u8 r4.1)])) ++ (List.drop (Int.toNat r2.1) (List.take (Int.toNat ((List.length a2 : Int))) a2))), r4.2.1, ())
              else
                none
            else
              none
          else
            none
        else
          none
      else
        bif (r3.1 == 2) then
          bif ((decide (0 ≤ r2.1)) && (decide (r2.1 ≤ ((List.length a2 : Int))))) then
            some ((List.drop (0) (List.take (Int.toNat r2.1) a2)), r3.2.1, ())
          else
            none
        else
          bif ((decide (0 ≤ r2.1)) && (decide (r2.1 ≤ ((List.length a2 : Int))))) then
            bif ((decide (0 ≤ r2.1)) && (decide (r2.1 < ((List.length a2 : Int))))) then
              (m39 r3.2.1 255).bind fun r5 =>
              bif (decide (List.length (List.drop (0) (List.take (Int.toNat r2.1) a2)) + List.length (List.map (fun x : Int => UInt8.ofNat (Int.toNat x)) [(IntKind.wrap .u8 (bitXor .i64 (IntKind.wrap .i64 ((UInt8.toNat (List.getD a2 (Int.toNat r2.1) 0) : Int))) (IntKind.wrap .i64 (1 + r5.1))))]) < 4611686018427387904)) then
                bif (((decide (0 ≤ (IntKind.wrap .i64 (r2.1 + 1)))) && (decide ((IntKind.wrap .i64 (r2.1 + 1)) ≤ ((List.length a2 : Int))))) && (decide (((List.length a2 : Int)) ≤ ((List.length a2 : Int))))) then
                  bif (decide (List.length ((List.drop (0) (List.take (Int.toNat r2.1) a2)) ++ (List.map (fun x : Int => UInt8.ofNat (Int.toNat x)) [(IntKind.wrap .u8 (bitXor .i64 (IntKind.wrap .i64 ((UInt8.toNat (List.getD a2 (Int.toNat r2.1) 0) : Int))) (IntKind.wrap .i64 (1 + r5.1))))])) + List.length (List.drop (Int.toNat (IntKind.wrap .i64 (r2.1 + 1))) (List.take (Int.toNat ((List.length a2 : Int))) a2)) < 4611686018427387904)) then
                    some ((((List.drop (0) (List.take (Int.toNat r2.1) a2)) ++ (List.map (fun x : Int => UInt8.ofNat (Int.toNat x)) [(IntKind.wrap .u8 (bitXor .i64 (IntKind.wrap .i64 ((UInt8.toNat (List.getD a2 (Int.toNat r2.1) 0) : Int))) (IntKind.wrap .i64 (1 + r5.1))))])) ++ (List.drop (Int.toNat (IntKind.wrap .i64 (r2.1 + 1))) (List.take (Int.toNat ((List.length a2 : Int))) a2))), r5.2.1, ())
                  else
                    none
                else
                  none
              else
                none
            else
              none
          else
            none
theorem m40_eq (a1 : ((List Int) × (Int × (Int × Unit)))) (a2 : List UInt8) : run cx_m40 c_m40 [.tmp 4] false [.ptr (.pair (.slice (.int .u8)) (.pair (.int .i64) (.pair (.int .i64) .unit))) (.pair .shr .own), .bor .str] [(.str, .own)] [((.pair (.slice (.int .u8)) (.pair (.int .i64) (.pair (.int .i64) .unit))), (.pair .shr .own))] [⟨(.pair (.slice (.int .u8)) (.pair (.int .i64) (.pair (.int .i64) .unit))), a1⟩, ⟨.str, a2⟩] = m40 a1 a2 := by kernel_rfl
noncomputable def ct_m40 : Ct := ⟨[.ptr (.pair (.slice (.int .u8)) (.pair (.int .i64) (.pair (.int .i64) .unit))) (.pair .shr .own), .bor .str], [(.str, .own)], [((.pair (.slice (.int .u8)) (.pair (.int .i64) (.pair (.int .i64) .unit))), (.pair .shr .own))], M2 (.pair (.slice (.int .u8)) (.pair (.int .i64) (.pair (.int .i64) .unit))) .str m40, false⟩
theorem h_m40 : Holds Tryz.prog kn.G 40 ct_m40 :=
  Holds.of_run (kn := kn) (env := env_m40) (kp := [0, 1, 4, 5, 8, 16, 17, 27, 42]) Tryz.func40 (c := c_m40) (by kernel_rfl) tab_ok (EnvL.cons h_m39 e_m39 (EnvL.cons h_m61 e_m61 (EnvL.cons h_m62 e_m62 EnvL.nil))) (ct := ct_m40) (n := 67) (by kernel_rfl) (by kernel_rfl) (rv := [.tmp 4]) (by kernel_rfl) (M2_ok (r := run cx_m40 c_m40 [.tmp 4] false [.ptr (.pair (.slice (.int .u8)) (.pair (.int .i64) (.pair (.int .i64) .unit))) (.pair .shr .own), .bor .str] [(.str, .own)] [((.pair (.slice (.int .u8)) (.pair (.int .i64) (.pair (.int .i64) .unit))), (.pair .shr .own))]) m40_eq)
theorem e_m40 : Eng.Enters Tryz.prog 40 := Eng.Enters.of Tryz.func40 (c := c_m40) (by kernel_rfl) (by kernel_rfl)

/- loop.example/g01538/spec.l1Pick -/
noncomputable def env_m41 : List (Nat × Nat × Ct) := [(39, 0, ct_m39)]
noncomputable def cx_m41 : Cx := mkCx kn env_m41 [0, 1, 4] 12
noncomputable def c_m41 : Code := codeOf Tryz.f41
noncomputable def m41 (a1 : ((List Int) × (Int × (Int × Unit)))) (a2 : (List (List UInt8))) : Option (List UInt8 × ((List Int) × (Int × (Int × Unit))) × Unit) :=
  (m39 a1 ((List.length a2 : Int))).bind fun r1 =>
  bif ((decide (0 ≤ r1.1)) && (decide (r1.1 < ((List.length a2 : Int))))) then
    some ((List.getD a2 (Int.toNat r1.1) ([] : List UInt8)), r1.2.1, ())
  else
    none
theorem m41_eq (a1 : ((List Int) × (Int × (Int × Unit)))) (a2 : (List (List UInt8))) : run cx_m41 c_m41 [.tmp 4] false [.ptr (.pair (.slice (.int .u8)) (.pair (.int .i64) (.pair (.int .i64) .unit))) (.pair .shr .own), .own (.slice .str) .own] [(.str, .own)] [((.pair (.slice (.int .u8)) (.pair (.int .i64) (.pair (.int .i64) .unit))), (.pair .shr .own))] [⟨(.pair (.slice (.int .u8)) (.pair (.int .i64) (.pair (.int .i64) .unit))), a1⟩, ⟨(.slice .str), a2⟩] = m41 a1 a2 := by kernel_rfl
noncomputable def ct_m41 : Ct := ⟨[.ptr (.pair (.slice (.int .u8)) (.pair (.int .i64) (.pair (.int .i64) .unit))) (.pair .shr .own), .own (.slice .str) .own], [(.str, .own)], [((.pair (.slice (.int .u8)) (.pair (.int .i64) (.pair (.int .i64) .unit))), (.pair .shr .own))], M2 (.pair (.slice (.int .u8)) (.pair (.int .i64) (.pair (.int .i64) .unit))) (.slice .str) m41, false⟩
theorem h_m41 : Holds Tryz.prog kn.G 41 ct_m41 :=
  Holds.of_run (kn := kn) (env := env_m41) (kp := [0, 1, 4]) Tryz.func41 (c := c_m41) (by kernel_rfl) tab_ok (EnvL.cons h_m39 e_m39 EnvL.nil) (ct := ct_m41) (n := 12) (by kernel_rfl) (by kernel_rfl) (rv := [.tmp 4]) (by kernel_rfl) (M2_ok (r := run cx_m41 c_m41 [.tmp 4] false [.ptr (.pair (.slice (.int .u8)) (.pair (.int .i64) (.pair (.int .i64) .unit))) (.pair .shr .own), .own (.slice .str) .own] [(.str, .own)] [((.pair (.slice (.int .u8)) (.pair (.int .i64) (.pair (.int .i64) .unit))), (.pair .shr .own))]) m41_eq)
theorem e_m41 : Eng.Enters Tryz.prog 41 := Eng.Enters.of Tryz.func41 (c := c_m41) (by kernel_rfl) (by kernel_rfl)

/- loop.example/g01538/spec.DrawReadOp -/
noncomputable def env_m17 : List (Nat × Nat × Ct) := [(28, 0, ct_m28), (37, 0, ct_m37), (38, 0, ct_m38), (39, 0, ct_m39), (40, 0, ct_m40), (41, 0, ct_m41)]
noncomputable def cx_m17 : Cx := mkCx kn env_m17 [0, 2, 3, 4, 11, 12, 17] 25
noncomputable def c_m17 : Code := codeOf Tryz.f17
noncomputable def m17 (a1 : (List Int)) : Option (List UInt8 × Unit) :=
  (m28 a1).bind fun r1 =>
  (m38 r1.1).bind fun r2 =>
  (m37 r2.1).bind fun r3 =>
  (m39 r2.2.1 5).bind fun r4 =>
  bif (r4.1 == 0) then
    (m40 r4.2.1 r3.1).bind fun r5 =>
    some (r5.1, ())
  else
    bif (r4.1 == 1) then
      (m41 r4.2.1 [([32] : List UInt8), ([32, 49] : List UInt8), ([120] : List UInt8)]).bind fun r6 =>
      bif (decide (List.length r3.1 + List.length r6.1 < 4611686018427387904)) then
        some ((r3.1 ++ r6.1), ())
      else
        none
    else
      some (r3.1, ())
theorem m17_eq (a1 : (List Int)) : run cx_m17 c_m17 [.tmp 2] false [.bor (.slice (.int .u8))] [(.str, .own)] [] [⟨(.slice (.int .u8)), a1⟩] = m17 a1 := by kernel_rfl
noncomputable def ct_m17 : Ct := ⟨[.bor (.slice (.int .u8))], [(.str, .own)], [], M1 (.slice (.int .u8)) m17, false⟩
theorem h_m17 : Holds Tryz.prog kn.G 17 ct_m17 :=
  Holds.of_run (kn := kn) (env := env_m17) (kp := [0, 2, 3, 4, 11, 12, 17]) Tryz.func17 (c := c_m17) (by kernel_rfl) tab_ok (EnvL.cons h_m28 e_m28 (EnvL.cons h_m37 e_m37 (EnvL.cons h_m38 e_m38 (EnvL.cons h_m39 e_m39 (EnvL.cons h_m40 e_m40 (EnvL.cons h_m41 e_m41 EnvL.nil)))))) (ct := ct_m17) (n := 25) (by kernel_rfl) (by kernel_rfl) (rv := [.tmp 2]) (by kernel_rfl) (M1_ok (r := run cx_m17 c_m17 [.tmp 2] false [.bor (.slice (.int .u8))] [(.str, .own)] []) m17_eq)
theorem e_m17 : Eng.Enters Tryz.prog 17 := Eng.Enters.of Tryz.func17 (c := c_m17) (by kernel_rfl) (by kernel_rfl)

/- loop.example/g01538/spec.l29Cut -/
noncomputable def env_m42 : List (Nat × Nat × Ct) := []
noncomputable def cx_m42 : Cx := mkCx kn env_m42 [0, 1, 4, 5, 6, 7, 12, 19] 35
noncomputable def c_m42 : Code := codeOf Tryz.f42
noncomputable def m42_1_st (p1 : List UInt8) (p2 : Int) (d : Int × Int × (List (List UInt8))) : St :=
  ⟨[(0, .val .str (p1 : List UInt8)), (1, .val (.int .u8) (p2 : Int)), (4, .place 65 []), (5, .place 81 []), (6, .val (.int .i64) (d.1 : Int)), (7, .val (.int .i64) (d.2.1 : Int))], [(65, ⟨(.slice .str), .own, ([] : (List (List UInt8))), false⟩), (81, ⟨(.slice .str), .own, (d.2.2 : (List (List UInt8))), false⟩), (129, ⟨(.slice .str), .gone, ([] : (List (List UInt8))), false⟩)]⟩
noncomputable def m42_1_x1 (p1 : List UInt8) (p2 : Int) (x1 : Int) (x2 : Int) (x3 : Bool) (x4 : (List (List UInt8))) : St :=
  ⟨[(0, .val .str (p1 : List UInt8)), (1, .val (.int .u8) (p2 : Int)), (4, .place 65 []), (5, .place 81 []), (6, .val (.int .i64) (x1 : Int)), (7, .val (.int .i64) (x2 : Int)), (12, .val .bool (x3 : Bool))], [(65, ⟨(.slice .str), .own, ([] : (List (List UInt8))), false⟩), (81, ⟨(.slice .str), .own, (x4 : (List (List UInt8))), false⟩), (129, ⟨(.slice .str), .gone, ([] : (List (List UInt8))), false⟩)]⟩
noncomputable def m42_1_body {T : Type} (p1 : List UInt8) (p2 : Int) (X1 : Int → Int → Bool → (List (List UInt8)) → Option T) (K : Int × Int × (List (List UInt8)) → Option T) (d : Int × Int × (List (List UInt8))) : Option T :=
  bif (decide (d.2.1 < ((List.length p1 : Int)))) then
    bif ((decide (0 ≤ d.2.1)) && (decide (d.2.1 < ((List.length p1 : Int))))) then
      bif (((UInt8.toNat (List.getD p1 (Int.toNat d.2.1) 0) : Int)) == p2) then
        bif (((decide (0 ≤ d.1)) && (decide (d.1 ≤ d.2.1))) && (decide (d.2.1 ≤ ((List.length p1 : Int))))) then
          bif (decide (List.length d.2.2 + List.length [(List.drop (Int.toNat d.1) (List.take (Int.toNat d.2.1) p1))] < 1073741824)) then
            K ((IntKind.wrap .i64 (d.2.1 + 1)), (IntKind.wrap .i64 (d.2.1 + 1)), (List.append d.2.2 [(List.drop (Int.toNat d.1) (List.take (Int.toNat d.2.1) p1))]))
          else
            none
        else
          none
      else
        K (d.1, (IntKind.wrap .i64 (d.2.1 + 1)), d.2.2)
    else
      none
  else
    X1 d.1 d.2.1 (decide (d.2.1 < ((List.length p1 : Int)))) d.2.2
theorem m42_1_body_eq {R : Type} (p1 : List UInt8) (p2 : Int) (kk : Ex → St → Option R) (d0 d : Int × Int × (List (List UInt8))) (K : St → Option R) : execL cx_m42 (loopH cx_m42) (codeAt c_m42 [1, 1, 1, 0, 1, 0, 0]) (m42_1_st p1 p2 d) (bodyK (restr (m42_1_st p1 p2 d0)) K kk) = m42_1_body p1 p2 (fun x1 x2 x3 x4 => kk (.exit 0) (m42_1_x1 p1 p2 x1 x2 x3 x4)) (fun d => K (m42_1_st p1 p2 d)) d := by kernel_rfl
noncomputable def m42_1_p1 (p1 : List UInt8) (p2 : Int) (x1 : Int) (x2 : Int) (x3 : Bool) (x4 : (List (List UInt8))) : Option ((List (List UInt8)) × Unit) :=
  bif (((decide (0 ≤ x1)) && (decide (x1 ≤ ((List.length p1 : Int))))) && (decide (((List.length p1 : Int)) ≤ ((List.length p1 : Int))))) then
    bif (decide (List.length x4 + List.length [(List.drop (Int.toNat x1) (List.take (Int.toNat ((List.length p1 : Int))) p1))] < 1073741824)) then
      some ((List.append x4 [(List.drop (Int.toNat x1) (List.take (Int.toNat ((List.length p1 : Int))) p1))]), ())
    else
      none
  else
    none
theorem m42_1_p1_eq (L : Code → St → (Ex → St → Option (Tup ([((.slice .str), .own)] ++ []))) → Option (Tup ([((.slice .str), .own)] ++ []))) (p1 : List UInt8) (p2 : Int) (x1 : Int) (x2 : Int) (x3 : Bool) (x4 : (List (List UInt8))) : ctxL cx_m42 L c_m42 [1, 1, 1, 0, 1, 0] (finK cx_m42 [.tmp 4] false [] [((.slice .str), .own)] []) (.exit 0) (m42_1_x1 p1 p2 x1 x2 x3 x4) = m42_1_p1 p1 p2 x1 x2 x3 x4 := by kernel_rfl
noncomputable def m42_1 (p1 : List UInt8) (p2 : Int) : Nat → Int × Int × (List (List UInt8)) → Option ((List (List UInt8)) × Unit) :=
  loopM (m42_1_body p1 p2 (fun x1 x2 x3 x4 => m42_1_p1 p1 p2 x1 x2 x3 x4))
theorem m42_1_eq (p1 : List UInt8) (p2 : Int) (d : Int × Int × (List (List UInt8))) : loopH cx_m42 (codeAt c_m42 [1, 1, 1, 0, 1, 0, 0]) (m42_1_st p1 p2 d) (ctxL cx_m42 (loopH cx_m42) c_m42 [1, 1, 1, 0, 1, 0] (finK cx_m42 [.tmp 4] false [] [((.slice .str), .own)] [])) = m42_1 p1 p2 fuel d := by
  refine (loop_eq (m42_1_st p1 p2) (m42_1_body p1 p2 (fun x1 x2 x3 x4 => ctxL cx_m42 (loopH cx_m42) c_m42 [1, 1, 1, 0, 1, 0] (finK cx_m42 [.tmp 4] false [] [((.slice .str), .own)] []) (.exit 0) (m42_1_x1 p1 p2 x1 x2 x3 x4))) d (fun K d2 => m42_1_body_eq p1 p2 _ d d2 K)).trans ?_
  unfold m42_1
  simp only [m42_1_p1_eq]
noncomputable def m42_pre (F1 : List UInt8 → Int → (Int × Int × (List (List UInt8))) → Option ((List (List UInt8)) × Unit)) (a1 : List UInt8) (a2 : Int) : Option ((List (List UInt8)) × Unit) :=
  F1 a1 a2 (0, 0, [])
theorem m42_pre_eq (L : Code → St → (Ex → St → Option (Tup ([((.slice .str), .own)] ++ []))) → Option (Tup ([((.slice .str), .own)] ++ []))) (a1 : List UInt8) (a2 : Int) : runL (rs := [((.slice .str), .own)]) (os := []) cx_m42 L c_m42 [.tmp 4] false [.bor .str, .bor (.int .u8)] [⟨.str, a1⟩, ⟨(.int .u8), a2⟩] = m42_pre (fun p1 p2 d => L (codeAt c_m42 [1, 1, 1, 0, 1, 0, 0]) (m42_1_st p1 p2 d) (ctxL cx_m42 L c_m42 [1, 1, 1, 0, 1, 0] (finK cx_m42 [.tmp 4] false [] [((.slice .str), .own)] []))) a1 a2 := by kernel_rfl
noncomputable def m42 (a1 : List UInt8) (a2 : Int) : Option ((List (List UInt8)) × Unit) := m42_pre (fun p1 p2 d => m42_1 p1 p2 fuel d) a1 a2
theorem m42_eq (a1 : List UInt8) (a2 : Int) : run cx_m42 c_m42 [.tmp 4] false [.bor .str, .bor (.int .u8)] [((.slice .str), .own)] [] [⟨.str, a1⟩, ⟨(.int .u8), a2⟩] = m42 a1 a2 := by
  rw [run_L, m42_pre_eq]
  unfold m42
  simp only [m42_1_eq]
noncomputable def ct_m42 : Ct := ⟨[.bor .str, .bor (.int .u8)], [((.slice .str), .own)], [], M2 .str (.int .u8) m42, false⟩
theorem h_m42 : Holds Tryz.prog kn.G 42 ct_m42 :=
  Holds.of_run (kn := kn) (env := env_m42) (kp := [0, 1, 4, 5, 6, 7, 12, 19]) Tryz.func42 (c := c_m42) (by kernel_rfl) tab_ok EnvL.nil (ct := ct_m42) (n := 35) (by kernel_rfl) (by kernel_rfl) (rv := [.tmp 4]) (by kernel_rfl) (M2_ok (r := run cx_m42 c_m42 [.tmp 4] false [.bor .str, .bor (.int .u8)] [((.slice .str), .own)] []) m42_eq)
theorem e_m42 : Eng.Enters Tryz.prog 42 := Eng.Enters.of Tryz.func42 (c := c_m42) (by kernel_rfl) (by kernel_rfl)

/- loop.example/g01538/spec.ReadDec -/
noncomputable def env_m63 : List (Nat × Nat × Ct) := [(59, 0, ct_m59)]
noncomputable def cx_m63 : Cx := mkCx kn env_m63 [0, 2, 3, 4, 5, 6, 14, 26, 44, 59] 61
noncomputable def c_m63 : Code := codeOf Tryz.f63
noncomputable def m63_1_st (p1 : List UInt8) (d : Int × Int × Int) : St :=
  ⟨[(0, .val .str (p1 : List UInt8)), (2, .val (.int .i64) (0 : Int)), (3, .val .bool (false : Bool)), (4, .val (.int .i64) (d.1 : Int)), (5, .val (.int .i64) (d.2.1 : Int)), (6, .val (.int .i64) (d.2.2 : Int))], []⟩
noncomputable def m63_1_x1 (p1 : List UInt8) (x1 : Int) (x2 : Int) (x3 : Int) (x4 : Bool) : St :=
  ⟨[(0, .val .str (p1 : List UInt8)), (2, .val (.int .i64) (0 : Int)), (3, .val .bool (false : Bool)), (4, .val (.int .i64) (x1 : Int)), (5, .val (.int .i64) (x2 : Int)), (6, .val (.int .i64) (x3 : Int)), (14, .val .bool (x4 : Bool))], []⟩
noncomputable def m63_1_x2 (p1 : List UInt8) (x1 : Int) (x2 : Int) (x3 : Int) : St :=
  ⟨[(0, .val .str (p1 : List UInt8)), (2, .val (.int .i64) (0 : Int)), (3, .val .bool (false : Bool)), (4, .val (.int .i64) (x1 : Int)), (5, .val (.int .i64) (x2 : Int)), (6, .val (.int .i64) (x3 : Int)), (14, .val .bool (false : Bool))], []⟩
noncomputable def m63_1_body {T : Type} (p1 : List UInt8) (X1 : Int → Int → Int → Bool → Option T) (X2 : Int → Int → Int → Option T) (K : Int × Int × Int → Option T) (d : Int × Int × Int) : Option T :=
  bif (decide (d.2.2 < ((List.length p1 : Int)))) then
    bif (decide (d.2.2 < 11)) then
      bif ((decide (0 ≤ d.2.2)) && (decide (d.2.2 < ((List.length p1 : Int))))) then
        bif (decide (((UInt8.toNat (List.getD p1 (Int.toNat d.2.2) 0) : Int)) ≥ 48)) then
          bif ((decide (0 ≤ d.2.2)) && (decide (d.2.2 < ((List.length p1 : Int))))) then
            bif (decide (((UInt8.toNat (List.getD p1 (Int.toNat d.2.2) 0) : Int)) ≤ 57)) then
              bif ((decide (0 ≤ d.2.2)) && (decide (d.2.2 < ((List.length p1 : Int))))) then
                K ((IntKind.wrap .i64 ((IntKind.wrap .i64 (d.1 * 10)) + (IntKind.wrap .i64 (IntKind.wrap .u8 (((UInt8.toNat (List.getD p1 (Int.toNat d.2.2) 0) : Int)) - 48))))), (IntKind.wrap .i64 (d.2.1 + 1)), (IntKind.wrap .i64 (d.2.2 + 1)))
              else
                none
            else
              K (d.1, d.2.1, (IntKind.wrap .i64 (d.2.2 + 1)))
          else
            none
        else
          K (d.1, d.2.1, (IntKind.wrap .i64 (d.2.2 + 1)))
      else
        none
    else
      X1 d.1 d.2.1 d.2.2 (decide (d.2.2 < 11))
  else
    X2 d.1 d.2.1 d.2.2
theorem m63_1_body_eq {R : Type} (p1 : List UInt8) (kk : Ex → St → Option R) (d0 d : Int × Int × Int) (K : St → Option R) : execL cx_m63 (loopH cx_m63) (codeAt c_m63 [1, 1, 1, 0, 1, 0, 0]) (m63_1_st p1 d) (bodyK (restr (m63_1_st p1 d0)) K kk) = m63_1_body p1 (fun x1 x2 x3 x4 => kk (.exit 0) (m63_1_x1 p1 x1 x2 x3 x4)) (fun x1 x2 x3 => kk (.exit 0) (m63_1_x2 p1 x1 x2 x3)) (fun d => K (m63_1_st p1 d)) d := by kernel_rfl
noncomputable def m63_1_p1 (p1 : List UInt8) (x1 : Int) (x2 : Int) (x3 : Int) (x4 : Bool) : Option (Int × Bool × Unit) :=
  bif (decide (((List.length p1 : Int)) > 0)) then
    bif (decide (0 < ((List.length p1 : Int)))) then
      bif (((UInt8.toNat (List.getD p1 (0) 0) : Int)) == 45) then
        bif (decide (x2 > 9)) then
          some (0, false, ())
        else
          bif (decide (((List.length p1 : Int)) > 10)) then
            some (0, false, ())
          else
            (m59 (IntKind.wrap .i64 (0 - x1))).bind fun r7 =>
            bif (!(List.beq r7.1 p1)) then
              some (0, false, ())
            else
              some ((IntKind.wrap .i64 (0 - x1)), true, ())
      else
        bif (decide (x2 > 9)) then
          some (0, false, ())
        else
          bif (decide (((List.length p1 : Int)) > 10)) then
            some (0, false, ())
          else
            (m59 x1).bind fun r8 =>
            bif (!(List.beq r8.1 p1)) then
              some (0, false, ())
            else
              some (x1, true, ())
    else
      none
  else
    bif (decide (x2 > 9)) then
      some (0, false, ())
    else
      bif (decide (((List.length p1 : Int)) > 10)) then
        some (0, false, ())
      else
        (m59 x1).bind fun r9 =>
        bif (!(List.beq r9.1 p1)) then
          some (0, false, ())
        else
          some (x1, true, ())
theorem m63_1_p1_eq (L : Code → St → (Ex → St → Option (Tup ([((.int .i64), .own), (.bool, .own)] ++ []))) → Option (Tup ([((.int .i64), .own), (.bool, .own)] ++ []))) (p1 : List UInt8) (x1 : Int) (x2 : Int) (x3 : Int) (x4 : Bool) : ctxL cx_m63 L c_m63 [1, 1, 1, 0, 1, 0] (finK cx_m63 [.tmp 2, .tmp 3] false [] [((.int .i64), .own), (.bool, .own)] []) (.exit 0) (m63_1_x1 p1 x1 x2 x3 x4) = m63_1_p1 p1 x1 x2 x3 x4 := by kernel_rfl
noncomputable def m63_1_p2 (p1 : List UInt8) (x1 : Int) (x2 : Int) (x3 : Int) : Option (Int × Bool × Unit) :=
  bif (decide (((List.length p1 : Int)) > 0)) then
    bif (decide (0 < ((List.length p1 : Int)))) then
      bif (((UInt8.toNat (List.getD p1 (0) 0) : Int)) == 45) then
        bif (decide (x2 > 9)) then
          some (0, false, ())
        else
          bif (decide (((List.length p1 : Int)) > 10)) then
            some (0, false, ())
          else
            (m59 (IntKind.wrap .i64 (0 - x1))).bind fun r10 =>
            bif (!(List.beq r10.1 p1)) then
              some (0, false, ())
            else
              some ((IntKind.wrap .i64 (0 - x1)), true, ())
      else
        bif (decide (x2 > 9)) then
          some (0, false, ())
        else
          bif (decide (((List.length p1 : Int)) > 10)) then
            some (0, false, ())
          else
            (m59 x1).bind fun r11 =>
            bif (!(List.beq r11.1 p1)) then
              some (0, false, ())
            else
              some (x1, true, ())
    else
      none
  else
    bif (decide (x2 > 9)) then
      some (0, false, ())
    else
      bif (decide (((List.length p1 : Int)) > 10)) then
        some (0, false, ())
      else
        (m59 x1).bind fun r12 =>
        bif (!(List.beq r12.1 p1)) then
          some (0, false, ())
        else
          some (x1, true, ())
theorem m63_1_p2_eq (L : Code → St → (Ex → St → Option (Tup ([((.int .i64), .own), (.bool, .own)] ++ []))) → Option (Tup ([((.int .i64), .own), (.bool, .own)] ++ []))) (p1 : List UInt8) (x1 : Int) (x2 : Int) (x3 : Int) : ctxL cx_m63 L c_m63 [1, 1, 1, 0, 1, 0] (finK cx_m63 [.tmp 2, .tmp 3] false [] [((.int .i64), .own), (.bool, .own)] []) (.exit 0) (m63_1_x2 p1 x1 x2 x3) = m63_1_p2 p1 x1 x2 x3 := by kernel_rfl
noncomputable def m63_1 (p1 : List UInt8) : Nat → Int × Int × Int → Option (Int × Bool × Unit) :=
  loopM (m63_1_body p1 (fun x1 x2 x3 x4 => m63_1_p1 p1 x1 x2 x3 x4) (fun x1 x2 x3 => m63_1_p2 p1 x1 x2 x3))
theorem m63_1_eq (p1 : List UInt8) (d : Int × Int × Int) : loopH cx_m63 (codeAt c_m63 [1, 1, 1, 0, 1, 0, 0]) (m63_1_st p1 d) (ctxL cx_m63 (loopH cx_m63) c_m63 [1, 1, 1, 0, 1, 0] (finK cx_m63 [.tmp 2, .tmp 3] false [] [((.int .i64), .own), (.bool, .own)] [])) = m63_1 p1 fuel d := by
  refine (loop_eq (m63_1_st p1) (m63_1_body p1 (fun x1 x2 x3 x4 => ctxL cx_m63 (loopH cx_m63) c_m63 [1, 1, 1, 0, 1, 0] (finK cx_m63 [.tmp 2, .tmp 3] false [] [((.int .i64), .own), (.bool, .own)] []) (.exit 0) (m63_1_x1 p1 x1 x2 x3 x4)) (fun x1 x2 x3 => ctxL cx_m63 (loopH cx_m63) c_m63 [1, 1, 1, 0, 1, 0] (finK cx_m63 [.tmp 2, .tmp 3] false [] [((.int .i64), .own), (.bool, .own)] []) (.exit 0) (m63_1_x2 p1 x1 x2 x3))) d (fun K d2 => m63_1_body_eq p1 _ d d2 K)).trans ?_
  unfold m63_1
  simp only [m63_1_p1_eq, m63_1_p2_eq]
noncomputable def m63_pre (F1 : List UInt8 → (Int × Int × Int) → Option (Int × Bool × Unit)) (a1 : List UInt8) : Option (Int × Bool × Unit) :=
  F1 a1 (0, 0, 0)
theorem m63_pre_eq (L : Code → St → (Ex → St → Option (Tup ([((.int .i64), .own), (.bool, .own)] ++ []))) → Option (Tup ([((.int .i64), .own), (.bool, .own)] ++ []))) (a1 : List UInt8) : runL (rs := [((.int .i64), .own), (.bool, .own)]) (os := []) cx_m63 L c_m63 [.tmp 2, .tmp 3] false [.bor .str] [⟨.str, a1⟩] = m63_pre (fun p1 d => L (codeAt c_m63 [1, 1, 1, 0, 1, 0, 0]) (m63_1_st p1 d) (ctxL cx_m63 L c_m63 [1, 1, 1, 0, 1, 0] (finK cx_m63 [.tmp 2, .tmp 3] false [] [((.int .i64), .own), (.bool, .own)] []))) a1 := by kernel_rfl
noncomputable def m63 (a1 : List UInt8) : Option (Int × Bool × Unit) := m63_pre (fun p1 d => m63_1 p1 fuel d) a1
theorem m63_eq (a1 : List UInt8) : run cx_m63 c_m63 [.tmp 2, .tmp 3] false [.bor .str] [((.int .i64), .own), (.bool, .own)] [] [⟨.str, a1⟩] = m63 a1 := by
  rw [run_L, m63_pre_eq]
  unfold m63
  simp only [m63_1_eq]
noncomputable def ct_m63 : Ct := ⟨[.bor .str], [((.int .i64), .own), (.bool, .own)], [], M1 .str m63, false⟩
theorem h_m63 : Holds Tryz.prog kn.G 63 ct_m63 :=
  Holds.of_run (kn := kn) (env := env_m63) (kp := [0, 2, 3, 4, 5, 6, 14, 26, 44, 59]) Tryz.func63 (c := c_m63) (by kernel_rfl) tab_ok (EnvL.cons h_m59 e_m59 EnvL.nil) (ct := ct_m63) (n := 61) (by kernel_rfl) (by kernel_rfl) (rv := [.tmp 2, .tmp 3]) (by kernel_rfl) (M1_ok (r := run cx_m63 c_m63 [.tmp 2, .tmp 3] false [.bor .str] [((.int .i64), .own), (.bool, .own)] []) m63_eq)
theorem e_m63 : Eng.Enters Tryz.prog 63 := Eng.Enters.of Tryz.func63 (c := c_m63) (by kernel_rfl) (by kernel_rfl)

/- loop.example/g01538/spec.l29Num -/
noncomputable def env_m43 : List (Nat × Nat × Ct) := [(63, 0, ct_m63)]
noncomputable def cx_m43 : Cx := mkCx kn env_m43 [0, 1, 4, 5, 10] 20
noncomputable def c_m43 : Code := codeOf Tryz.f43
noncomputable def m43 (a1 : (List (List UInt8))) (a2 : Int) : Option (Int × Unit) :=
  bif (decide (a2 ≥ ((List.length a1 : Int)))) then
    some (0, ())
  else
    bif ((decide (0 ≤ a2)) && (decide (a2 < ((List.length a1 : Int))))) then
      (m63 (List.getD a1 (Int.toNat a2) ([] : List UInt8))).bind fun r1 =>
      some (r1.1, ())
    else
      none
theorem m43_eq (a1 : (List (List UInt8))) (a2 : Int) : run cx_m43 c_m43 [.tmp 4] false [.bor (.slice .str), .bor (.int .i64)] [((.int .i64), .own)] [] [⟨(.slice .str), a1⟩, ⟨(.int .i64), a2⟩] = m43 a1 a2 := by kernel_rfl
noncomputable def ct_m43 : Ct := ⟨[.bor (.slice .str), .bor (.int .i64)], [((.int .i64), .own)], [], M2 (.slice .str) (.int .i64) m43, false⟩
theorem h_m43 : Holds Tryz.prog kn.G 43 ct_m43 :=
  Holds.of_run (kn := kn) (env := env_m43) (kp := [0, 1, 4, 5, 10]) Tryz.func43 (c := c_m43) (by kernel_rfl) tab_ok (EnvL.cons h_m63 e_m63 EnvL.nil) (ct := ct_m43) (n := 20) (by kernel_rfl) (by kernel_rfl) (rv := [.tmp 4]) (by kernel_rfl) (M2_ok (r := run cx_m43 c_m43 [.tmp 4] false [.bor (.slice .str), .bor (.int .i64)] [((.int .i64), .own)] []) m43_eq)
theorem e_m43 : Eng.Enters Tryz.prog 43 := Eng.Enters.of Tryz.func43 (c := c_m43) (by kernel_rfl) (by kernel_rfl)

end
end Go.Proofs.YtfihmdlpikfbbaaGreatDoor
end
