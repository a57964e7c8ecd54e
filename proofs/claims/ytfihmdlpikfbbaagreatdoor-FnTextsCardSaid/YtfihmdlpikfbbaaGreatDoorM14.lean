/- Part 14 of 20 of a claim; what is proved, and under which conditions, stands in the last part. Here: Zm03. -/
import Derived.Test.YtfihmdlpikfbbaaGreatDoorM13
set_option linter.unusedVariables false
set_option linter.unusedSimpArgs false
set_option linter.unusedSectionVars false
section
/- Models of functions, and that they are what the functions do: impl.ShowCmd, slices.Index[[]string,string], impl.ReadCmd, spec.l23Draw, spec.DrawBatchOk, spec.DrawShowBatch, impl.BatchOk$1, impl.Cmd], impl.Cmd], impl.BatchOk. -/
namespace Go.Proofs.YtfihmdlpikfbbaaGreatDoor
open Go Go.Eng
set_option maxRecDepth 100000
set_option maxHeartbeats 400000
noncomputable section

/- loop.example/g01538/impl.ShowCmd -/
noncomputable def env_m9 : List (Nat × Nat × Ct) := [(24, 0, ct_m24), (29, 0, ct_m29)]
noncomputable def cx_m9 : Cx := mkCx kn env_m9 [0, 1, 2, 3, 7] 38
noncomputable def c_m9 : Code := codeOf Tryz.f9
noncomputable def m9 (a1 : (Int × (Int × (Int × Unit)))) : Option (List UInt8 × Unit) :=
  (m29 a1).bind fun r1 =>
  bif (!r1.1) then
    some (([] : List UInt8), ())
  else
    bif (a1.1 == 2) then
      bif ((decide (0 ≤ (IntKind.wrap .i64 (a1.1 - 1)))) && (decide ((IntKind.wrap .i64 (a1.1 - 1)) < 4))) then
        (m24 [a1.2.1, a1.2.2.1]).bind fun r2 =>
        bif (decide (List.length (List.getD [([103, 101, 116] : List UInt8), ([112, 117, 116] : List UInt8), ([100, 101, 108] : List UInt8), ([97, 100, 100] : List UInt8)] (Int.toNat (IntKind.wrap .i64 (a1.1 - 1))) ([] : List UInt8)) + List.length r2.1 < 4611686018427387904)) then
          some (((List.getD [([103, 101, 116] : List UInt8), ([112, 117, 116] : List UInt8), ([100, 101, 108] : List UInt8), ([97, 100, 100] : List UInt8)] (Int.toNat (IntKind.wrap .i64 (a1.1 - 1))) ([] : List UInt8)) ++ r2.1), ())
        else
          none
      else
        none
    else
      bif (a1.1 == 4) then
        bif ((decide (0 ≤ (IntKind.wrap .i64 (a1.1 - 1)))) && (decide ((IntKind.wrap .i64 (a1.1 - 1)) < 4))) then
          (m24 [a1.2.1, a1.2.2.1]).bind fun r3 =>
          bif (decide (List.length (List.getD [([103, 101, 116] : List UInt8), ([112, 117, 116] : List UInt8), ([100, 101, 108] : List UInt8), ([97, 100, 100] : List UInt8)] (Int.toNat (IntKind.wrap .i64 (a1.1 - 1))) ([] : List UInt8)) + List.length r3.1 < 4611686018427387904)) then
            some (((List.getD [([103, 101, 116] : List UInt8), ([112, 117, 116] : List UInt8), ([100, 101, 108] : List UInt8), ([97, 100, 100] : List UInt8)] (Int.toNat (IntKind.wrap .i64 (a1.1 - 1))) ([] : List UInt8)) ++ r3.1), ())
          else
            none
        else
          none
      else
        bif ((decide (0 ≤ (IntKind.wrap .i64 (a1.1 - 1)))) && (decide ((IntKind.wrap .i64 (a1.1 - 1)) < 4))) then
          (m24 [a1.2.1]).bind fun r4 =>
          bif (decide (List.length (List.getD [([103, 101, 116] : List UInt8), ([112, 117, 116] : List UInt8), ([100, 101, 108] : List UInt8), ([97, 100, 100] : List UInt8)] (Int.toNat (IntKind.wrap .i64 (a1.1 - 1))) ([] : List UInt8)) + List.length r4.1 < 4611686018427387904)) then
            some (((List.getD [([103, 101, 116] : List UInt8), ([112, 117, 116] : List UInt8), ([100, 101, 108] : List UInt8), ([97, 100, 100] : List UInt8)] (Int.toNat (IntKind.wrap .i64 (a1.1 - 1))) ([] : List UInt8)) ++ r4.1), ())
          else
            none
        else
          none
theorem m9_eq (a1 : (Int × (Int × (Int × Unit)))) : run cx_m9 c_m9 [.tmp 2] false [.bor (.pair (.int .i64) (.pair (.int .i64) (.pair (.int .i64) .unit)))] [(.str, .own)] [] [⟨(.pair (.int .i64) (.pair (.int .i64) (.pair (.int .i64) .unit))), a1⟩] = m9 a1 := by kernel_rfl
noncomputable def ct_m9 : Ct := ⟨[.bor (.pair (.int .i64) (.pair (.int .i64) (.pair (.int .i64) .unit)))], [(.str, .own)], [], M1 (.pair (.int .i64) (.pair (.int .i64) (.pair (.int .i64) .unit))) m9, false⟩
theorem h_m9 : Holds Tryz.prog kn.G 9 ct_m9 :=
  Holds.of_run (kn := kn) (env := env_m9) (kp := [0, 1, 2, 3, 7]) Tryz.func9 (c := c_m9) (by kernel_rfl) tab_ok (EnvL.cons h_m24 e_m24 (EnvL.cons h_m29 e_m29 EnvL.nil)) (ct := ct_m9) (n := 38) (by kernel_rfl) (by kernel_rfl) (rv := [.tmp 2]) (by kernel_rfl) (M1_ok (r := run cx_m9 c_m9 [.tmp 2] false [.bor (.pair (.int .i64) (.pair (.int .i64) (.pair (.int .i64) .unit)))] [(.str, .own)] []) m9_eq)
theorem e_m9 : Eng.Enters Tryz.prog 9 := Eng.Enters.of Tryz.func9 (c := c_m9) (by kernel_rfl) (by kernel_rfl)

/- slices.Index[[]string,string] -/
noncomputable def env_m30 : List (Nat × Nat × Ct) := []
noncomputable def cx_m30 : Cx := mkCx kn env_m30 [0, 1, 4, 5, 7, 8, 9, 16] 19
noncomputable def c_m30 : Code := codeOf Tryz.f30
noncomputable def m30_1_st (p1 : (List (List UInt8))) (p2 : List UInt8) (p3 : Int) (d : Int) : St :=
  ⟨[(0, .val (.slice .str) (p1 : (List (List UInt8)))), (1, .val .str (p2 : List UInt8)), (4, .val (.int .i64) (0 : Int)), (7, .val (.int .i64) (p3 : Int)), (8, .val (.int .i64) (d : Int))], []⟩
noncomputable def m30_1_x1 (p1 : (List (List UInt8))) (p2 : List UInt8) (p3 : Int) (x1 : Int) (x2 : Bool) (x3 : Bool) : St :=
  ⟨[(0, .val (.slice .str) (p1 : (List (List UInt8)))), (1, .val .str (p2 : List UInt8)), (4, .val (.int .i64) (x1 : Int)), (5, .val (.int .i64) (x1 : Int)), (7, .val (.int .i64) (p3 : Int)), (8, .val (.int .i64) (x1 : Int)), (9, .val .bool (x2 : Bool)), (16, .val .bool (x3 : Bool))], []⟩
noncomputable def m30_1_x2 (p1 : (List (List UInt8))) (p2 : List UInt8) (p3 : Int) (x1 : Int) (x2 : Bool) : St :=
  ⟨[(0, .val (.slice .str) (p1 : (List (List UInt8)))), (1, .val .str (p2 : List UInt8)), (4, .val (.int .i64) (0 : Int)), (7, .val (.int .i64) (p3 : Int)), (8, .val (.int .i64) (x1 : Int)), (9, .val .bool (x2 : Bool))], []⟩
noncomputable def m30_1_body {T : Type} (p1 : (List (List UInt8))) (p2 : List UInt8) (p3 : Int) (X1 : Int → Bool → Bool → Option T) (X2 : Int → Bool → Option T) (K : Int → Option T) (d : Int) : Option T :=
  bif (decide (d < p3)) then
    bif ((decide (0 ≤ d)) && (decide (d < ((List.length p1 : Int))))) then
      bif (List.beq p2 (List.getD p1 (Int.toNat d) ([] : List UInt8))) then
        X1 d (decide (d < p3)) (List.beq p2 (List.getD p1 (Int.toNat d) ([] : List UInt8)))
      else
        K (IntKind.wrap .i64 (d + 1))
    else
      none
  else
    X2 d (decide (d < p3))
theorem m30_1_body_eq {R : Type} (p1 : (List (List UInt8))) (p2 : List UInt8) (p3 : Int) (kk : Ex → St → Option R) (d0 d : Int) (K : St → Option R) : execL cx_m30 (loopH cx_m30) (codeAt c_m30 [1, 0, 1, 0, 0]) (m30_1_st p1 p2 p3 d) (bodyK (restr (m30_1_st p1 p2 p3 d0)) K kk) = m30_1_body p1 p2 p3 (fun x1 x2 x3 => kk .ret (m30_1_x1 p1 p2 p3 x1 x2 x3)) (fun x1 x2 => kk (.exit 0) (m30_1_x2 p1 p2 p3 x1 x2)) (fun d => K (m30_1_st p1 p2 p3 d)) d := by kernel_rfl
noncomputable def m30_1_p1 (p1 : (List (List UInt8))) (p2 : List UInt8) (p3 : Int) (x1 : Int) (x2 : Bool) (x3 : Bool) : Option (Int × Unit) :=
  some (x1, ())
theorem m30_1_p1_eq (L : Code → St → (Ex → St → Option (Tup ([((.int .i64), .own)] ++ []))) → Option (Tup ([((.int .i64), .own)] ++ []))) (p1 : (List (List UInt8))) (p2 : List UInt8) (p3 : Int) (x1 : Int) (x2 : Bool) (x3 : Bool) : ctxL cx_m30 L c_m30 [1, 0, 1, 0] (finK cx_m30 [.tmp 4] false [] [((.int .i64), .own)] []) .ret (m30_1_x1 p1 p2 p3 x1 x2 x3) = m30_1_p1 p1 p2 p3 x1 x2 x3 := by kernel_rfl
noncomputable def m30_1_p2 (p1 : (List (List UInt8))) (p2 : List UInt8) (p3 : Int) (x1 : Int) (x2 : Bool) : Option (Int × Unit) :=
  some ((-1), ())
theorem m30_1_p2_eq (L : Code → St → (Ex → St → Option (Tup ([((.int .i64), .own)] ++ []))) → Option (Tup ([((.int .i64), .own)] ++ []))) (p1 : (List (List UInt8))) (p2 : List UInt8) (p3 : Int) (x1 : Int) (x2 : Bool) : ctxL cx_m30 L c_m30 [1, 0, 1, 0] (finK cx_m30 [.tmp 4] false [] [((.int .i64), .own)] []) (.exit 0) (m30_1_x2 p1 p2 p3 x1 x2) = m30_1_p2 p1 p2 p3 x1 x2 := by kernel_rfl
noncomputable def m30_1 (p1 : (List (List UInt8))) (p2 : List UInt8) (p3 : Int) : Nat → Int → Option (Int × Unit) :=
  loopM (m30_1_body p1 p2 p3 (fun x1 x2 x3 => m30_1_p1 p1 p2 p3 x1 x2 x3) (fun x1 x2 => m30_1_p2 p1 p2 p3 x1 x2))
theorem m30_1_eq (p1 : (List (List UInt8))) (p2 : List UInt8) (p3 : Int) (d : Int) : loopH cx_m30 (codeAt c_m30 [1, 0, 1, 0, 0]) (m30_1_st p1 p2 p3 d) (ctxL cx_m30 (loopH cx_m30) c_m30 [1, 0, 1, 0] (finK cx_m30 [.tmp 4] false [] [((.int .i64), .own)] [])) = m30_1 p1 p2 p3 fuel d := by
  refine (loop_eq (m30_1_st p1 p2 p3) (m30_1_body p1 p2 p3 (fun x1 x2 x3 => ctxL cx_m30 (loopH cx_m30) c_m30 [1, 0, 1, 0] (finK cx_m30 [.tmp 4] false [] [((.int .i64), .own)] []) .ret (m30_1_x1 p1 p2 p3 x1 x2 x3)) (fun x1 x2 => ctxL cx_m30 (loopH cx_m30) c_m30 [1, 0, 1, 0] (finK cx_m30 [.tmp 4] false [] [((.int .i64), .own)] []) (.exit 0) (m30_1_x2 p1 p2 p3 x1 x2))) d (fun K d2 => m30_1_body_eq p1 p2 p3 _ d d2 K)).trans ?_
  unfold m30_1
  simp only [m30_1_p1_eq, m30_1_p2_eq]
noncomputable def m30_pre (F1 : (List (List UInt8)) → List UInt8 → Int → (Int) → Option (Int × Unit)) (a1 : (List (List UInt8))) (a2 : List UInt8) : Option (Int × Unit) :=
  F1 a1 a2 ((List.length a1 : Int)) 0
theorem m30_pre_eq (L : Code → St → (Ex → St → Option (Tup ([((.int .i64), .own)] ++ []))) → Option (Tup ([((.int .i64), .own)] ++ []))) (a1 : (List (List UInt8))) (a2 : List UInt8) : runL (rs := [((.int .i64), .own)]) (os := []) cx_m30 L c_m30 [.tmp 4] false [.bor (.slice .str), .bor .str] [⟨(.slice .str), a1⟩, ⟨.str, a2⟩] = m30_pre (fun p1 p2 p3 d => L (codeAt c_m30 [1, 0, 1, 0, 0]) (m30_1_st p1 p2 p3 d) (ctxL cx_m30 L c_m30 [1, 0, 1, 0] (finK cx_m30 [.tmp 4] false [] [((.int .i64), .own)] []))) a1 a2 := by kernel_rfl
noncomputable def m30 (a1 : (List (List UInt8))) (a2 : List UInt8) : Option (Int × Unit) := m30_pre (fun p1 p2 p3 d => m30_1 p1 p2 p3 fuel d) a1 a2
theorem m30_eq (a1 : (List (List UInt8))) (a2 : List UInt8) : run cx_m30 c_m30 [.tmp 4] false [.bor (.slice .str), .bor .str] [((.int .i64), .own)] [] [⟨(.slice .str), a1⟩, ⟨.str, a2⟩] = m30 a1 a2 := by
  rw [run_L, m30_pre_eq]
  unfold m30
  simp only [m30_1_eq]
noncomputable def ct_m30 : Ct := ⟨[.bor (.slice .str), .bor .str], [((.int .i64), .own)], [], M2 (.slice .str) .str m30, false⟩
theorem h_m30 : Holds Tryz.prog kn.G 30 ct_m30 :=
  Holds.of_run (kn := kn) (env := env_m30) (kp := [0, 1, 4, 5, 7, 8, 9, 16]) Tryz.func30 (c := c_m30) (by kernel_rfl) tab_ok EnvL.nil (ct := ct_m30) (n := 19) (by kernel_rfl) (by kernel_rfl) (rv := [.tmp 4]) (by kernel_rfl) (M2_ok (r := run cx_m30 c_m30 [.tmp 4] false [.bor (.slice .str), .bor .str] [((.int .i64), .own)] []) m30_eq)
theorem e_m30 : Eng.Enters Tryz.prog 30 := Eng.Enters.of Tryz.func30 (c := c_m30) (by kernel_rfl) (by kernel_rfl)

/- loop.example/g01538/impl.ReadCmd -/
noncomputable def env_m10 : List (Nat × Nat × Ct) := [(9, 0, ct_m9), (25, 0, ct_m25), (26, 0, ct_m26), (30, 0, ct_m30)]
noncomputable def cx_m10 : Cx := mkCx kn env_m10 [0, 2, 3, 4, 5, 6, 30] 33
noncomputable def c_m10 : Code := codeOf Tryz.f10
noncomputable def m10 (a1 : List UInt8) : Option ((Int × (Int × (Int × Unit))) × Bool × Unit) :=
  (m25 a1 ([32] : List UInt8)).bind fun r1 =>
  bif ((decide (1 ≤ ((List.length r1.1 : Int)))) && (decide (((List.length r1.1 : Int)) ≤ ((List.length r1.1 : Int))))) then
    (m26 (List.drop (1) (List.take (Int.toNat ((List.length r1.1 : Int))) r1.1))).bind fun r2 =>
    bif (decide (0 < ((List.length r1.1 : Int)))) then
      (m30 [([103, 101, 116] : List UInt8), ([112, 117, 116] : List UInt8), ([100, 101, 108] : List UInt8), ([97, 100, 100] : List UInt8)] (List.getD r1.1 0 ([] : List UInt8))).bind fun r3 =>
      bif (List.beq a1 ([] : List UInt8)) then
        some ((0, 0, 0, ()), false, ())
      else
        (m9 ((IntKind.wrap .i64 (r3.1 + 1)), (List.getD r2.1 0 0), (List.getD r2.1 1 0), ())).bind fun r4 =>
        bif (!(List.beq r4.1 a1)) then
          some ((0, 0, 0, ()), false, ())
        else
          some (((IntKind.wrap .i64 (r3.1 + 1)), (List.getD r2.1 0 0), (List.getD r2.1 1 0), ()), true, ())
    else
      none
  else
    none
theorem m10_eq (a1 : List UInt8) : run cx_m10 c_m10 [.cell 2 31, .tmp 3] false [.bor .str] [((.pair (.int .i64) (.pair (.int .i64) (.pair (.int .i64) .unit))), .own), (.bool, .own)] [] [⟨.str, a1⟩] = m10 a1 := by kernel_rfl
noncomputable def ct_m10 : Ct := ⟨[.bor .str], [((.pair (.int .i64) (.pair (.int .i64) (.pair (.int .i64) .unit))), .own), (.bool, .own)], [], M1 .str m10, false⟩
theorem h_m10 : Holds Tryz.prog kn.G 10 ct_m10 :=
  Holds.of_run (kn := kn) (env := env_m10) (kp := [0, 2, 3, 4, 5, 6, 30]) Tryz.func10 (c := c_m10) (by kernel_rfl) tab_ok (EnvL.cons h_m9 e_m9 (EnvL.cons h_m25 e_m25 (EnvL.cons h_m26 e_m26 (EnvL.cons h_m30 e_m30 EnvL.nil)))) (ct := ct_m10) (n := 33) (by kernel_rfl) (by kernel_rfl) (rv := [.cell 2 31, .tmp 3]) (by kernel_rfl) (M1_ok (r := run cx_m10 c_m10 [.cell 2 31, .tmp 3] false [.bor .str] [((.pair (.int .i64) (.pair (.int .i64) (.pair (.int .i64) .unit))), .own), (.bool, .own)] []) m10_eq)
theorem e_m10 : Eng.Enters Tryz.prog 10 := Eng.Enters.of Tryz.func10 (c := c_m10) (by kernel_rfl) (by kernel_rfl)

/- loop.example/g01538/spec.l23Draw -/
noncomputable def env_m46 : List (Nat × Nat × Ct) := [(39, 0, ct_m39), (53, 0, ct_m53), (60, 0, ct_m60)]
noncomputable def cx_m46 : Cx := mkCx kn env_m46 [0, 2, 3, 4, 6, 13] 24
noncomputable def c_m46 : Code := codeOf Tryz.f46
noncomputable def m46_1_st (p1 : Bool) (d : Int × ((List Int) × (Int × (Int × Unit))) × (Bool × ((List (Int × (Int × (Int × Unit)))) × Unit))) : St :=
  ⟨[(0, .ptr 15 []), (2, .ptr 32 []), (3, .ptr 48 []), (4, .val (.int .i64) (d.1 : Int)), (6, .val .bool (p1 : Bool))], [(15, ⟨(.pair (.slice (.int .u8)) (.pair (.int .i64) (.pair (.int .i64) .unit))), (.pair .shr .own), (d.2.1 : ((List Int) × (Int × (Int × Unit)))), true⟩), (32, ⟨(.pair .bool (.pair (.slice (.pair (.int .i64) (.pair (.int .i64) (.pair (.int .i64) .unit)))) .unit)), .own, ((false, [], ()) : (Bool × ((List (Int × (Int × (Int × Unit)))) × Unit))), true⟩), (48, ⟨(.pair .bool (.pair (.slice (.pair (.int .i64) (.pair (.int .i64) (.pair (.int .i64) .unit)))) .unit)), .own, (d.2.2 : (Bool × ((List (Int × (Int × (Int × Unit)))) × Unit))), true⟩), (129, ⟨(.pair .bool (.pair (.slice (.pair (.int .i64) (.pair (.int .i64) (.pair (.int .i64) .unit)))) .unit)), .gone, ((false, [], ()) : (Bool × ((List (Int × (Int × (Int × Unit)))) × Unit))), false⟩)]⟩
noncomputable def m46_1_x1 (p1 : Bool) (x1 : Int) (x2 : Bool) (x3 : ((List Int) × (Int × (Int × Unit)))) (x4 : (Bool × ((List (Int × (Int × (Int × Unit)))) × Unit))) : St :=
  ⟨[(0, .ptr 15 []), (2, .ptr 32 []), (3, .ptr 48 []), (4, .val (.int .i64) (x1 : Int)), (6, .val .bool (p1 : Bool)), (13, .val .bool (x2 : Bool))], [(15, ⟨(.pair (.slice (.int .u8)) (.pair (.int .i64) (.pair (.int .i64) .unit))), (.pair .shr .own), (x3 : ((List Int) × (Int × (Int × Unit)))), true⟩), (32, ⟨(.pair .bool (.pair (.slice (.pair (.int .i64) (.pair (.int .i64) (.pair (.int .i64) .unit)))) .unit)), .own, ((false, [], ()) : (Bool × ((List (Int × (Int × (Int × Unit)))) × Unit))), true⟩), (48, ⟨(.pair .bool (.pair (.slice (.pair (.int .i64) (.pair (.int .i64) (.pair (.int .i64) .unit)))) .unit)), .own, (x4 : (Bool × ((List (Int × (Int × (Int × Unit)))) × Unit))), true⟩), (129, ⟨(.pair .bool (.pair (.slice (.pair (.int .i64) (.pair (.int .i64) (.pair (.int .i64) .unit)))) .unit)), .gone, ((false, [], ()) : (Bool × ((List (Int × (Int × (Int × Unit)))) × Unit))), false⟩)]⟩
noncomputable def m46_1_body {T : Type} (p1 : Bool) (X1 : Int → Bool → ((List Int) × (Int × (Int × Unit))) → (Bool × ((List (Int × (Int × (Int × Unit)))) × Unit)) → Option T) (K : Int × ((List Int) × (Int × (Int × Unit))) × (Bool × ((List (Int × (Int × (Int × Unit)))) × Unit)) → Option T) (d : Int × ((List Int) × (Int × (Int × Unit))) × (Bool × ((List (Int × (Int × (Int × Unit)))) × Unit))) : Option T :=
  bif (decide (d.1 > 0)) then
    (m53 d.2.1).bind fun r10 =>
    bif (decide (List.length d.2.2.2.1 + List.length [r10.1] < 1073741824)) then
      K ((IntKind.wrap .i64 (d.1 - 1)), r10.2.1, (d.2.2.1, (List.append d.2.2.2.1 [r10.1]), d.2.2.2.2))
    else
      none
  else
    X1 d.1 (decide (d.1 > 0)) d.2.1 d.2.2
theorem m46_1_body_eq {R : Type} (p1 : Bool) (kk : Ex → St → Option R) (d0 d : Int × ((List Int) × (Int × (Int × Unit))) × (Bool × ((List (Int × (Int × (Int × Unit)))) × Unit))) (K : St → Option R) : execL cx_m46 (loopH cx_m46) (codeAt c_m46 [1, 1, 1, 0, 1, 0, 0]) (m46_1_st p1 d) (bodyK (restr (m46_1_st p1 d0)) K kk) = m46_1_body p1 (fun x1 x2 x3 x4 => kk (.exit 0) (m46_1_x1 p1 x1 x2 x3 x4)) (fun d => K (m46_1_st p1 d)) d := by kernel_rfl
noncomputable def m46_1_p1 (p1 : Bool) (x1 : Int) (x2 : Bool) (x3 : ((List Int) × (Int × (Int × Unit)))) (x4 : (Bool × ((List (Int × (Int × (Int × Unit)))) × Unit))) : Option ((Bool × ((List (Int × (Int × (Int × Unit)))) × Unit)) × ((List Int) × (Int × (Int × Unit))) × Unit) :=
  some (x4, x3, ())
theorem m46_1_p1_eq (L : Code → St → (Ex → St → Option (Tup ([((.pair .bool (.pair (.slice (.pair (.int .i64) (.pair (.int .i64) (.pair (.int .i64) .unit)))) .unit)), .own)] ++ [((.pair (.slice (.int .u8)) (.pair (.int .i64) (.pair (.int .i64) .unit))), (.pair .shr .own))]))) → Option (Tup ([((.pair .bool (.pair (.slice (.pair (.int .i64) (.pair (.int .i64) (.pair (.int .i64) .unit)))) .unit)), .own)] ++ [((.pair (.slice (.int .u8)) (.pair (.int .i64) (.pair (.int .i64) .unit))), (.pair .shr .own))]))) (p1 : Bool) (x1 : Int) (x2 : Bool) (x3 : ((List Int) × (Int × (Int × Unit)))) (x4 : (Bool × ((List (Int × (Int × (Int × Unit)))) × Unit))) : ctxL cx_m46 L c_m46 [1, 1, 1, 0, 1, 0] (finK cx_m46 [.cell 2 38] false [15] [((.pair .bool (.pair (.slice (.pair (.int .i64) (.pair (.int .i64) (.pair (.int .i64) .unit)))) .unit)), .own)] [((.pair (.slice (.int .u8)) (.pair (.int .i64) (.pair (.int .i64) .unit))), (.pair .shr .own))]) (.exit 0) (m46_1_x1 p1 x1 x2 x3 x4) = m46_1_p1 p1 x1 x2 x3 x4 := by kernel_rfl
noncomputable def m46_1 (p1 : Bool) : Nat → Int × ((List Int) × (Int × (Int × Unit))) × (Bool × ((List (Int × (Int × (Int × Unit)))) × Unit)) → Option ((Bool × ((List (Int × (Int × (Int × Unit)))) × Unit)) × ((List Int) × (Int × (Int × Unit))) × Unit) :=
  loopM (m46_1_body p1 (fun x1 x2 x3 x4 => m46_1_p1 p1 x1 x2 x3 x4))
theorem m46_1_eq (p1 : Bool) (d : Int × ((List Int) × (Int × (Int × Unit))) × (Bool × ((List (Int × (Int × (Int × Unit)))) × Unit))) : loopH cx_m46 (codeAt c_m46 [1, 1, 1, 0, 1, 0, 0]) (m46_1_st p1 d) (ctxL cx_m46 (loopH cx_m46) c_m46 [1, 1, 1, 0, 1, 0] (finK cx_m46 [.cell 2 38] false [15] [((.pair .bool (.pair (.slice (.pair (.int .i64) (.pair (.int .i64) (.pair (.int .i64) .unit)))) .unit)), .own)] [((.pair (.slice (.int .u8)) (.pair (.int .i64) (.pair (.int .i64) .unit))), (.pair .shr .own))])) = m46_1 p1 fuel d := by
  refine (loop_eq (m46_1_st p1) (m46_1_body p1 (fun x1 x2 x3 x4 => ctxL cx_m46 (loopH cx_m46) c_m46 [1, 1, 1, 0, 1, 0] (finK cx_m46 [.cell 2 38] false [15] [((.pair .bool (.pair (.slice (.pair (.int .i64) (.pair (.int .i64) (.pair (.int .i64) .unit)))) .unit)), .own)] [((.pair (.slice (.int .u8)) (.pair (.int .i64) (.pair (.int .i64) .unit))), (.pair .shr .own))]) (.exit 0) (m46_1_x1 p1 x1 x2 x3 x4))) d (fun K d2 => m46_1_body_eq p1 _ d d2 K)).trans ?_
  unfold m46_1
  simp only [m46_1_p1_eq]
noncomputable def m46_pre (F1 : Bool → (Int × ((List Int) × (Int × (Int × Unit))) × (Bool × ((List (Int × (Int × (Int × Unit)))) × Unit))) → Option ((Bool × ((List (Int × (Int × (Int × Unit)))) × Unit)) × ((List Int) × (Int × (Int × Unit))) × Unit)) (a1 : ((List Int) × (Int × (Int × Unit)))) : Option ((Bool × ((List (Int × (Int × (Int × Unit)))) × Unit)) × ((List Int) × (Int × (Int × Unit))) × Unit) :=
  (m60 a1 4).bind fun r1 =>
  bif r1.1 then
    some ((true, [], ()), r1.2.1, ())
  else
    (m39 r1.2.1 3).bind fun r2 =>
    F1 r1.1 ((IntKind.wrap .i64 (1 + r2.1)), r2.2.1, false, [], ())
theorem m46_pre_eq (L : Code → St → (Ex → St → Option (Tup ([((.pair .bool (.pair (.slice (.pair (.int .i64) (.pair (.int .i64) (.pair (.int .i64) .unit)))) .unit)), .own)] ++ [((.pair (.slice (.int .u8)) (.pair (.int .i64) (.pair (.int .i64) .unit))), (.pair .shr .own))]))) → Option (Tup ([((.pair .bool (.pair (.slice (.pair (.int .i64) (.pair (.int .i64) (.pair (.int .i64) .unit)))) .unit)), .own)] ++ [((.pair (.slice (.int .u8)) (.pair (.int .i64) (.pair (.int .i64) .unit))), (.pair .shr .own))]))) (a1 : ((List Int) × (Int × (Int × Unit)))) : runL (rs := [((.pair .bool (.pair (.slice (.pair (.int .i64) (.pair (.int .i64) (.pair (.int .i64) .unit)))) .unit)), .own)]) (os := [((.pair (.slice (.int .u8)) (.pair (.int .i64) (.pair (.int .i64) .unit))), (.pair .shr .own))]) cx_m46 L c_m46 [.cell 2 38] false [.ptr (.pair (.slice (.int .u8)) (.pair (.int .i64) (.pair (.int .i64) .unit))) (.pair .shr .own)] [⟨(.pair (.slice (.int .u8)) (.pair (.int .i64) (.pair (.int .i64) .unit))), a1⟩] = m46_pre (fun p1 d => L (codeAt c_m46 [1, 1, 1, 0, 1, 0, 0]) (m46_1_st p1 d) (ctxL cx_m46 L c_m46 [1, 1, 1, 0, 1, 0] (finK cx_m46 [.cell 2 38] false [15] [((.pair .bool (.pair (.slice (.pair (.int .i64) (.pair (.int .i64) (.pair (.int .i64) .unit)))) .unit)), .own)] [((.pair (.slice (.int .u8)) (.pair (.int .i64) (.pair (.int .i64) .unit))), (.pair .shr .own))]))) a1 := by kernel_rfl
noncomputable def m46 (a1 : ((List Int) × (Int × (Int × Unit)))) : Option ((Bool × ((List (Int × (Int × (Int × Unit)))) × Unit)) × ((List Int) × (Int × (Int × Unit))) × Unit) := m46_pre (fun p1 d => m46_1 p1 fuel d) a1
theorem m46_eq (a1 : ((List Int) × (Int × (Int × Unit)))) : run cx_m46 c_m46 [.cell 2 38] false [.ptr (.pair (.slice (.int .u8)) (.pair (.int .i64) (.pair (.int .i64) .unit))) (.pair .shr .own)] [((.pair .bool (.pair (.slice (.pair (.int .i64) (.pair (.int .i64) (.pair (.int .i64) .unit)))) .unit)), .own)] [((.pair (.slice (.int .u8)) (.pair (.int .i64) (.pair (.int .i64) .unit))), (.pair .shr .own))] [⟨(.pair (.slice (.int .u8)) (.pair (.int .i64) (.pair (.int .i64) .unit))), a1⟩] = m46 a1 := by
  rw [run_L, m46_pre_eq]
  unfold m46
  simp only [m46_1_eq]
noncomputable def ct_m46 : Ct := ⟨[.ptr (.pair (.slice (.int .u8)) (.pair (.int .i64) (.pair (.int .i64) .unit))) (.pair .shr .own)], [((.pair .bool (.pair (.slice (.pair (.int .i64) (.pair (.int .i64) (.pair (.int .i64) .unit)))) .unit)), .own)], [((.pair (.slice (.int .u8)) (.pair (.int .i64) (.pair (.int .i64) .unit))), (.pair .shr .own))], M1 (.pair (.slice (.int .u8)) (.pair (.int .i64) (.pair (.int .i64) .unit))) m46, false⟩
theorem h_m46 : Holds Tryz.prog kn.G 46 ct_m46 :=
  Holds.of_run (kn := kn) (env := env_m46) (kp := [0, 2, 3, 4, 6, 13]) Tryz.func46 (c := c_m46) (by kernel_rfl) tab_ok (EnvL.cons h_m39 e_m39 (EnvL.cons h_m53 e_m53 (EnvL.cons h_m60 e_m60 EnvL.nil))) (ct := ct_m46) (n := 24) (by kernel_rfl) (by kernel_rfl) (rv := [.cell 2 38]) (by kernel_rfl) (M1_ok (r := run cx_m46 c_m46 [.cell 2 38] false [.ptr (.pair (.slice (.int .u8)) (.pair (.int .i64) (.pair (.int .i64) .unit))) (.pair .shr .own)] [((.pair .bool (.pair (.slice (.pair (.int .i64) (.pair (.int .i64) (.pair (.int .i64) .unit)))) .unit)), .own)] [((.pair (.slice (.int .u8)) (.pair (.int .i64) (.pair (.int .i64) .unit))), (.pair .shr .own))]) m46_eq)
theorem e_m46 : Eng.Enters Tryz.prog 46 := Eng.Enters.of Tryz.func46 (c := c_m46) (by kernel_rfl) (by kernel_rfl)

/- loop.example/g01538/spec.DrawBatchOk -/
noncomputable def env_m31 : List (Nat × Nat × Ct) := [(27, 0, ct_m27), (28, 0, ct_m28), (39, 0, ct_m39), (46, 0, ct_m46), (53, 0, ct_m53)]
noncomputable def cx_m31 : Cx := mkCx kn env_m31 [0, 2, 3, 4, 10, 11, 20, 28, 36] 43
noncomputable def c_m31 : Code := codeOf Tryz.f31
noncomputable def m31_1_st (p1 : (List Int)) (p2 : Int) (p3 : Bool) (p4 : Bool) (p5 : (Bool × ((List (Int × (Int × (Int × Unit)))) × Unit))) (d : (Bool × ((List (Int × (Int × (Int × Unit)))) × Unit)) × ((List Int) × (Int × (Int × Unit)))) : St :=
  ⟨[(0, .val (.slice (.int .u8)) (p1 : (List Int))), (2, .ptr 32 []), (3, .ptr 96 []), (4, .ptr 64 []), (10, .val (.int .i64) (p2 : Int)), (11, .val .bool (p3 : Bool)), (20, .val .bool (p4 : Bool))], [(32, ⟨(.pair .bool (.pair (.slice (.pair (.int .i64) (.pair (.int .i64) (.pair (.int .i64) .unit)))) .unit)), .own, ((false, [], ()) : (Bool × ((List (Int × (Int × (Int × Unit)))) × Unit))), true⟩), (64, ⟨(.pair .bool (.pair (.slice (.pair (.int .i64) (.pair (.int .i64) (.pair (.int .i64) .unit)))) .unit)), .own, (d.1 : (Bool × ((List (Int × (Int × (Int × Unit)))) × Unit))), true⟩), (96, ⟨(.pair (.slice (.int .u8)) (.pair (.int .i64) (.pair (.int .i64) .unit))), (.pair .shr .own), (d.2 : ((List Int) × (Int × (Int × Unit)))), true⟩), (130, ⟨(.pair .bool (.pair (.slice (.pair (.int .i64) (.pair (.int .i64) (.pair (.int .i64) .unit)))) .unit)), .gone, (p5 : (Bool × ((List (Int × (Int × (Int × Unit)))) × Unit))), false⟩)]⟩
noncomputable def m31_1_x1 (p1 : (List Int)) (p2 : Int) (p3 : Bool) (p4 : Bool) (p5 : (Bool × ((List (Int × (Int × (Int × Unit)))) × Unit))) (x1 : Bool) (x2 : (Bool × ((List (Int × (Int × (Int × Unit)))) × Unit))) (x3 : ((List Int) × (Int × (Int × Unit)))) : St :=
  ⟨[(0, .val (.slice (.int .u8)) (p1 : (List Int))), (2, .ptr 32 []), (3, .ptr 96 []), (4, .ptr 64 []), (10, .val (.int .i64) (p2 : Int)), (11, .val .bool (p3 : Bool)), (20, .val .bool (p4 : Bool)), (28, .val .bool (x1 : Bool))], [(32, ⟨(.pair .bool (.pair (.slice (.pair (.int .i64) (.pair (.int .i64) (.pair (.int .i64) .unit)))) .unit)), .own, ((false, [], ()) : (Bool × ((List (Int × (Int × (Int × Unit)))) × Unit))), true⟩), (64, ⟨(.pair .bool (.pair (.slice (.pair (.int .i64) (.pair (.int .i64) (.pair (.int .i64) .unit)))) .unit)), .own, (x2 : (Bool × ((List (Int × (Int × (Int × Unit)))) × Unit))), true⟩), (96, ⟨(.pair (.slice (.int .u8)) (.pair (.int .i64) (.pair (.int .i64) .unit))), (.pair .shr .own), (x3 : ((List Int) × (Int × (Int × Unit)))), true⟩), (130, ⟨(.pair .bool (.pair (.slice (.pair (.int .i64) (.pair (.int .i64) (.pair (.int .i64) .unit)))) .unit)), .gone, (p5 : (Bool × ((List (Int × (Int × (Int × Unit)))) × Unit))), false⟩)]⟩
noncomputable def m31_1_body {T : Type} (p1 : (List Int)) (p2 : Int) (p3 : Bool) (p4 : Bool) (p5 : (Bool × ((List (Int × (Int × (Int × Unit)))) × Unit))) (X1 : Bool → (Bool × ((List (Int × (Int × (Int × Unit)))) × Unit)) → ((List Int) × (Int × (Int × Unit))) → Option T) (K : (Bool × ((List (Int × (Int × (Int × Unit)))) × Unit)) × ((List Int) × (Int × (Int × Unit))) → Option T) (d : (Bool × ((List (Int × (Int × (Int × Unit)))) × Unit)) × ((List Int) × (Int × (Int × Unit)))) : Option T :=
  (m39 d.2 2).bind fun r15 =>
  bif (decide (((List.length d.1.2.1 : Int)) < (IntKind.wrap .i64 (6 + r15.1)))) then
    (m53 r15.2.1).bind fun r16 =>
    bif (decide (List.length d.1.2.1 + List.length [r16.1] < 1073741824)) then
      K ((d.1.1, (List.append d.1.2.1 [r16.1]), d.1.2.2), r16.2.1)
    else
      none
  else
    X1 (decide (((List.length d.1.2.1 : Int)) < (IntKind.wrap .i64 (6 + r15.1)))) d.1 r15.2.1
theorem m31_1_body_eq {R : Type} (p1 : (List Int)) (p2 : Int) (p3 : Bool) (p4 : Bool) (p5 : (Bool × ((List (Int × (Int × (Int × Unit)))) × Unit))) (kk : Ex → St → Option R) (d0 d : (Bool × ((List (Int × (Int × (Int × Unit)))) × Unit)) × ((List Int) × (Int × (Int × Unit)))) (K : St → Option R) : execL cx_m31 (loopH cx_m31) (codeAt c_m31 [1, 1, 1, 0, 1, 0, 1, 1, 1, 0, 0, 0]) (m31_1_st p1 p2 p3 p4 p5 d) (bodyK (restr (m31_1_st p1 p2 p3 p4 p5 d0)) K kk) = m31_1_body p1 p2 p3 p4 p5 (fun x1 x2 x3 => kk (.exit 1) (m31_1_x1 p1 p2 p3 p4 p5 x1 x2 x3)) (fun d => K (m31_1_st p1 p2 p3 p4 p5 d)) d := by kernel_rfl
noncomputable def m31_1_p1 (p1 : (List Int)) (p2 : Int) (p3 : Bool) (p4 : Bool) (p5 : (Bool × ((List (Int × (Int × (Int × Unit)))) × Unit))) (x1 : Bool) (x2 : (Bool × ((List (Int × (Int × (Int × Unit)))) × Unit))) (x3 : ((List Int) × (Int × (Int × Unit)))) : Option ((Bool × ((List (Int × (Int × (Int × Unit)))) × Unit)) × Unit) :=
  some (x2, ())
theorem m31_1_p1_eq (L : Code → St → (Ex → St → Option (Tup ([((.pair .bool (.pair (.slice (.pair (.int .i64) (.pair (.int .i64) (.pair (.int .i64) .unit)))) .unit)), .own)] ++ []))) → Option (Tup ([((.pair .bool (.pair (.slice (.pair (.int .i64) (.pair (.int .i64) (.pair (.int .i64) .unit)))) .unit)), .own)] ++ []))) (p1 : (List Int)) (p2 : Int) (p3 : Bool) (p4 : Bool) (p5 : (Bool × ((List (Int × (Int × (Int × Unit)))) × Unit))) (x1 : Bool) (x2 : (Bool × ((List (Int × (Int × (Int × Unit)))) × Unit))) (x3 : ((List Int) × (Int × (Int × Unit)))) : ctxL cx_m31 L c_m31 [1, 1, 1, 0, 1, 0, 1, 1, 1, 0, 0] (finK cx_m31 [.cell 2 38] false [] [((.pair .bool (.pair (.slice (.pair (.int .i64) (.pair (.int .i64) (.pair (.int .i64) .unit)))) .unit)), .own)] []) (.exit 1) (m31_1_x1 p1 p2 p3 p4 p5 x1 x2 x3) = m31_1_p1 p1 p2 p3 p4 p5 x1 x2 x3 := by kernel_rfl
noncomputable def m31_1 (p1 : (List Int)) (p2 : Int) (p3 : Bool) (p4 : Bool) (p5 : (Bool × ((List (Int × (Int × (Int × Unit)))) × Unit))) : Nat → (Bool × ((List (Int × (Int × (Int × Unit)))) × Unit)) × ((List Int) × (Int × (Int × Unit))) → Option ((Bool × ((List (Int × (Int × (Int × Unit)))) × Unit)) × Unit) :=
  loopM (m31_1_body p1 p2 p3 p4 p5 (fun x1 x2 x3 => m31_1_p1 p1 p2 p3 p4 p5 x1 x2 x3))
theorem m31_1_eq (p1 : (List Int)) (p2 : Int) (p3 : Bool) (p4 : Bool) (p5 : (Bool × ((List (Int × (Int × (Int × Unit)))) × Unit))) (d : (Bool × ((List (Int × (Int × (Int × Unit)))) × Unit)) × ((List Int) × (Int × (Int × Unit)))) : loopH cx_m31 (codeAt c_m31 [1, 1, 1, 0, 1, 0, 1, 1, 1, 0, 0, 0]) (m31_1_st p1 p2 p3 p4 p5 d) (ctxL cx_m31 (loopH cx_m31) c_m31 [1, 1, 1, 0, 1, 0, 1, 1, 1, 0, 0] (finK cx_m31 [.cell 2 38] false [] [((.pair .bool (.pair (.slice (.pair (.int .i64) (.pair (.int .i64) (.pair (.int .i64) .unit)))) .unit)), .own)] [])) = m31_1 p1 p2 p3 p4 p5 fuel d := by
  refine (loop_eq (m31_1_st p1 p2 p3 p4 p5) (m31_1_body p1 p2 p3 p4 p5 (fun x1 x2 x3 => ctxL cx_m31 (loopH cx_m31) c_m31 [1, 1, 1, 0, 1, 0, 1, 1, 1, 0, 0] (finK cx_m31 [.cell 2 38] false [] [((.pair .bool (.pair (.slice (.pair (.int .i64) (.pair (.int .i64) (.pair (.int .i64) .unit)))) .unit)), .own)] []) (.exit 1) (m31_1_x1 p1 p2 p3 p4 p5 x1 x2 x3))) d (fun K d2 => m31_1_body_eq p1 p2 p3 p4 p5 _ d d2 K)).trans ?_
  unfold m31_1
  simp only [m31_1_p1_eq]
noncomputable def m31_pre (F1 : (List Int) → Int → Bool → Bool → (Bool × ((List (Int × (Int × (Int × Unit)))) × Unit)) → ((Bool × ((List (Int × (Int × (Int × Unit)))) × Unit)) × ((List Int) × (Int × (Int × Unit)))) → Option ((Bool × ((List (Int × (Int × (Int × Unit)))) × Unit)) × Unit)) (a1 : (List Int)) : Option ((Bool × ((List (Int × (Int × (Int × Unit)))) × Unit)) × Unit) :=
  (m28 a1).bind fun r1 =>
  (m46 r1.1).bind fun r2 =>
  (m39 r2.2.1 8).bind fun r3 =>
  bif (r3.1 == 0) then
    (m27 r3.2.1).bind fun r4 =>
    bif (decide (List.length r2.1.2.1 + List.length [r4.1] < 1073741824)) then
      some ((r2.1.1, (List.append r2.1.2.1 [r4.1]), r2.1.2.2), ())
    else
      none
  else
    bif (r3.1 == 1) then
      F1 a1 r3.1 (r3.1 == 0) (r3.1 == 1) r2.1 (r2.1, r3.2.1)
    else
      bif (r3.1 == 2) then
        some (((!r2.1.1), r2.1.2), ())
      else
        some (r2.1, ())
theorem m31_pre_eq (L : Code → St → (Ex → St → Option (Tup ([((.pair .bool (.pair (.slice (.pair (.int .i64) (.pair (.int .i64) (.pair (.int .i64) .unit)))) .unit)), .own)] ++ []))) → Option (Tup ([((.pair .bool (.pair (.slice (.pair (.int .i64) (.pair (.int .i64) (.pair (.int .i64) .unit)))) .unit)), .own)] ++ []))) (a1 : (List Int)) : runL (rs := [((.pair .bool (.pair (.slice (.pair (.int .i64) (.pair (.int .i64) (.pair (.int .i64) .unit)))) .unit)), .own)]) (os := []) cx_m31 L c_m31 [.cell 2 38] false [.bor (.slice (.int .u8))] [⟨(.slice (.int .u8)), a1⟩] = m31_pre (fun p1 p2 p3 p4 p5 d => L (codeAt c_m31 [1, 1, 1, 0, 1, 0, 1, 1, 1, 0, 0, 0]) (m31_1_st p1 p2 p3 p4 p5 d) (ctxL cx_m31 L c_m31 [1, 1, 1, 0, 1, 0, 1, 1, 1, 0, 0] (finK cx_m31 [.cell 2 38] false [] [((.pair .bool (.pair (.slice (.pair (.int .i64) (.pair (.int .i64) (.pair (.int .i64) .unit)))) .unit)), .own)] []))) a1 := by kernel_rfl
noncomputable def m31 (a1 : (List Int)) : Option ((Bool × ((List (Int × (Int × (Int × Unit)))) × Unit)) × Unit) := m31_pre (fun p1 p2 p3 p4 p5 d => m31_1 p1 p2 p3 p4 p5 fuel d) a1
theorem m31_eq (a1 : (List Int)) : run cx_m31 c_m31 [.cell 2 38] false [.bor (.slice (.int .u8))] [((.pair .bool (.pair (.slice (.pair (.int .i64) (.pair (.int .i64) (.pair (.int .i64) .unit)))) .unit)), .own)] [] [⟨(.slice (.int .u8)), a1⟩] = m31 a1 := by
  rw [run_L, m31_pre_eq]
  unfold m31
  simp only [m31_1_eq]
noncomputable def ct_m31 : Ct := ⟨[.bor (.slice (.int .u8))], [((.pair .bool (.pair (.slice (.pair (.int .i64) (.pair (.int .i64) (.pair (.int .i64) .unit)))) .unit)), .own)], [], M1 (.slice (.int .u8)) m31, false⟩
theorem h_m31 : Holds Tryz.prog kn.G 31 ct_m31 :=
  Holds.of_run (kn := kn) (env := env_m31) (kp := [0, 2, 3, 4, 10, 11, 20, 28, 36]) Tryz.func31 (c := c_m31) (by kernel_rfl) tab_ok (EnvL.cons h_m27 e_m27 (EnvL.cons h_m28 e_m28 (EnvL.cons h_m39 e_m39 (EnvL.cons h_m46 e_m46 (EnvL.cons h_m53 e_m53 EnvL.nil))))) (ct := ct_m31) (n := 43) (by kernel_rfl) (by kernel_rfl) (rv := [.cell 2 38]) (by kernel_rfl) (M1_ok (r := run cx_m31 c_m31 [.cell 2 38] false [.bor (.slice (.int .u8))] [((.pair .bool (.pair (.slice (.pair (.int .i64) (.pair (.int .i64) (.pair (.int .i64) .unit)))) .unit)), .own)] []) m31_eq)
theorem e_m31 : Eng.Enters Tryz.prog 31 := Eng.Enters.of Tryz.func31 (c := c_m31) (by kernel_rfl) (by kernel_rfl)

/- loop.example/g01538/spec.DrawShowBatch -/
noncomputable def env_m11 : List (Nat × Nat × Ct) := [(31, 0, ct_m31)]
noncomputable def cx_m11 : Cx := mkCx kn env_m11 [0, 2] 5
noncomputable def c_m11 : Code := codeOf Tryz.f11
noncomputable def m11 (a1 : (List Int)) : Option ((Bool × ((List (Int × (Int × (Int × Unit)))) × Unit)) × Unit) :=
  (m31 a1).bind fun r1 =>
  some (r1.1, ())
theorem m11_eq (a1 : (List Int)) : run cx_m11 c_m11 [.cell 2 38] false [.bor (.slice (.int .u8))] [((.pair .bool (.pair (.slice (.pair (.int .i64) (.pair (.int .i64) (.pair (.int .i64) .unit)))) .unit)), .own)] [] [⟨(.slice (.int .u8)), a1⟩] = m11 a1 := by kernel_rfl
noncomputable def ct_m11 : Ct := ⟨[.bor (.slice (.int .u8))], [((.pair .bool (.pair (.slice (.pair (.int .i64) (.pair (.int .i64) (.pair (.int .i64) .unit)))) .unit)), .own)], [], M1 (.slice (.int .u8)) m11, false⟩
theorem h_m11 : Holds Tryz.prog kn.G 11 ct_m11 :=
  Holds.of_run (kn := kn) (env := env_m11) (kp := [0, 2]) Tryz.func11 (c := c_m11) (by kernel_rfl) tab_ok (EnvL.cons h_m31 e_m31 EnvL.nil) (ct := ct_m11) (n := 5) (by kernel_rfl) (by kernel_rfl) (rv := [.cell 2 38]) (by kernel_rfl) (M1_ok (r := run cx_m11 c_m11 [.cell 2 38] false [.bor (.slice (.int .u8))] [((.pair .bool (.pair (.slice (.pair (.int .i64) (.pair (.int .i64) (.pair (.int .i64) .unit)))) .unit)), .own)] []) m11_eq)
theorem e_m11 : Eng.Enters Tryz.prog 11 := Eng.Enters.of Tryz.func11 (c := c_m11) (by kernel_rfl) (by kernel_rfl)

/- loop.example/g01538/impl.BatchOk$1 -/
noncomputable def env_m55 : List (Nat × Nat × Ct) := [(29, 0, ct_m29)]
noncomputable def cx_m55 : Cx := mkCx kn env_m55 [0, 1, 2] 6
noncomputable def c_m55 : Code := codeOf Tryz.f55
noncomputable def m55 (a1 : (Int × (Int × (Int × Unit)))) : Option (Bool × Unit) :=
  (m29 a1).bind fun r1 =>
  some ((!r1.1), ())
theorem m55_eq (a1 : (Int × (Int × (Int × Unit)))) : run cx_m55 c_m55 [.tmp 2] false [.bor (.pair (.int .i64) (.pair (.int .i64) (.pair (.int .i64) .unit)))] [(.bool, .own)] [] [⟨(.pair (.int .i64) (.pair (.int .i64) (.pair (.int .i64) .unit))), a1⟩] = m55 a1 := by kernel_rfl
noncomputable def ct_m55 : Ct := ⟨[.bor (.pair (.int .i64) (.pair (.int .i64) (.pair (.int .i64) .unit)))], [(.bool, .own)], [], M1 (.pair (.int .i64) (.pair (.int .i64) (.pair (.int .i64) .unit))) m55, false⟩
theorem h_m55 : Holds Tryz.prog kn.G 55 ct_m55 :=
  Holds.of_run (kn := kn) (env := env_m55) (kp := [0, 1, 2]) Tryz.func55 (c := c_m55) (by kernel_rfl) tab_ok (EnvL.cons h_m29 e_m29 EnvL.nil) (ct := ct_m55) (n := 6) (by kernel_rfl) (by kernel_rfl) (rv := [.tmp 2]) (by kernel_rfl) (M1_ok (r := run cx_m55 c_m55 [.tmp 2] false [.bor (.pair (.int .i64) (.pair (.int .i64) (.pair (.int .i64) .unit)))] [(.bool, .own)] []) m55_eq)
theorem e_m55 : Eng.Enters Tryz.prog 55 := Eng.Enters.of Tryz.func55 (c := c_m55) (by kernel_rfl) (by kernel_rfl)

/- slices.IndexFunc[[]loop.example/g01538/impl.Cmd,loop.example/g01538/impl.Cmd] -/
noncomputable def env_m71_55 : List (Nat × Nat × Ct) := [(55, 0, ct_m55)]
noncomputable def cx_m71_55 : Cx := mkCx kn env_m71_55 [0, 1, 4, 5, 7, 8, 9, 16] 19
noncomputable def c_m71_55 : Code := codeOf Tryz.f71
noncomputable def m71_55_1_st (p1 : (List (Int × (Int × (Int × Unit))))) (p2 : Int) (d : Int) : St :=
  ⟨[(0, .val (.slice (.pair (.int .i64) (.pair (.int .i64) (.pair (.int .i64) .unit)))) (p1 : (List (Int × (Int × (Int × Unit)))))), (1, .fn 55 (.tnil)), (4, .val (.int .i64) (0 : Int)), (7, .val (.int .i64) (p2 : Int)), (8, .val (.int .i64) (d : Int))], []⟩
noncomputable def m71_55_1_x1 (p1 : (List (Int × (Int × (Int × Unit))))) (p2 : Int) (x1 : Int) (x2 : Bool) (x3 : Bool) : St :=
  ⟨[(0, .val (.slice (.pair (.int .i64) (.pair (.int .i64) (.pair (.int .i64) .unit)))) (p1 : (List (Int × (Int × (Int × Unit)))))), (1, .fn 55 (.tnil)), (4, .val (.int .i64) (x1 : Int)), (5, .val (.int .i64) (x1 : Int)), (7, .val (.int .i64) (p2 : Int)), (8, .val (.int .i64) (x1 : Int)), (9, .val .bool (x2 : Bool)), (16, .val .bool (x3 : Bool))], []⟩
noncomputable def m71_55_1_x2 (p1 : (List (Int × (Int × (Int × Unit))))) (p2 : Int) (x1 : Int) (x2 : Bool) : St :=
  ⟨[(0, .val (.slice (.pair (.int .i64) (.pair (.int .i64) (.pair (.int .i64) .unit)))) (p1 : (List (Int × (Int × (Int × Unit)))))), (1, .fn 55 (.tnil)), (4, .val (.int .i64) (0 : Int)), (7, .val (.int .i64) (p2 : Int)), (8, .val (.int .i64) (x1 : Int)), (9, .val .bool (x2 : Bool))], []⟩
noncomputable def m71_55_1_body {T : Type} (p1 : (List (Int × (Int × (Int × Unit))))) (p2 : Int) (X1 : Int → Bool → Bool → Option T) (X2 : Int → Bool → Option T) (K : Int → Option T) (d : Int) : Option T :=
  bif (decide (d < p2)) then
    bif ((decide (0 ≤ d)) && (decide (d < ((List.length p1 : Int))))) then
      (m55 (List.getD p1 (Int.toNat d) (0, 0, 0, ()))).bind fun r6 =>
      bif r6.1 then
        X1 d (decide (d < p2)) r6.1
      else
        K (IntKind.wrap .i64 (d + 1))
    else
      none
  else
    X2 d (decide (d < p2))
theorem m71_55_1_body_eq {R : Type} (p1 : (List (Int × (Int × (Int × Unit))))) (p2 : Int) (kk : Ex → St → Option R) (d0 d : Int) (K : St → Option R) : execL cx_m71_55 (loopH cx_m71_55) (codeAt c_m71_55 [1, 0, 1, 0, 0]) (m71_55_1_st p1 p2 d) (bodyK (restr (m71_55_1_st p1 p2 d0)) K kk) = m71_55_1_body p1 p2 (fun x1 x2 x3 => kk .ret (m71_55_1_x1 p1 p2 x1 x2 x3)) (fun x1 x2 => kk (.exit 0) (m71_55_1_x2 p1 p2 x1 x2)) (fun d => K (m71_55_1_st p1 p2 d)) d := by kernel_rfl
noncomputable def m71_55_1_p1 (p1 : (List (Int × (Int × (Int × Unit))))) (p2 : Int) (x1 : Int) (x2 : Bool) (x3 : Bool) : Option (Int × Unit) :=
  some (x1, ())
theorem m71_55_1_p1_eq (L : Code → St → (Ex → St → Option (Tup ([((.int .i64), .own)] ++ []))) → Option (Tup ([((.int .i64), .own)] ++ []))) (p1 : (List (Int × (Int × (Int × Unit))))) (p2 : Int) (x1 : Int) (x2 : Bool) (x3 : Bool) : ctxL cx_m71_55 L c_m71_55 [1, 0, 1, 0] (finK cx_m71_55 [.tmp 4] false [] [((.int .i64), .own)] []) .ret (m71_55_1_x1 p1 p2 x1 x2 x3) = m71_55_1_p1 p1 p2 x1 x2 x3 := by kernel_rfl
noncomputable def m71_55_1_p2 (p1 : (List (Int × (Int × (Int × Unit))))) (p2 : Int) (x1 : Int) (x2 : Bool) : Option (Int × Unit) :=
  some ((-1), ())
theorem m71_55_1_p2_eq (L : Code → St → (Ex → St → Option (Tup ([((.int .i64), .own)] ++ []))) → Option (Tup ([((.int .i64), .own)] ++ []))) (p1 : (List (Int × (Int × (Int × Unit))))) (p2 : Int) (x1 : Int) (x2 : Bool) : ctxL cx_m71_55 L c_m71_55 [1, 0, 1, 0] (finK cx_m71_55 [.tmp 4] false [] [((.int .i64), .own)] []) (.exit 0) (m71_55_1_x2 p1 p2 x1 x2) = m71_55_1_p2 p1 p2 x1 x2 := by kernel_rfl
noncomputable def m71_55_1 (p1 : (List (Int × (Int × (Int × Unit))))) (p2 : Int) : Nat → Int → Option (Int × Unit) :=
  loopM (m71_55_1_body p1 p2 (fun x1 x2 x3 => m71_55_1_p1 p1 p2 x1 x2 x3) (fun x1 x2 => m71_55_1_p2 p1 p2 x1 x2))
theorem m71_55_1_eq (p1 : (List (Int × (Int × (Int × Unit))))) (p2 : Int) (d : Int) : loopH cx_m71_55 (codeAt c_m71_55 [1, 0, 1, 0, 0]) (m71_55_1_st p1 p2 d) (ctxL cx_m71_55 (loopH cx_m71_55) c_m71_55 [1, 0, 1, 0] (finK cx_m71_55 [.tmp 4] false [] [((.int .i64), .own)] [])) = m71_55_1 p1 p2 fuel d := by
  refine (loop_eq (m71_55_1_st p1 p2) (m71_55_1_body p1 p2 (fun x1 x2 x3 => ctxL cx_m71_55 (loopH cx_m71_55) c_m71_55 [1, 0, 1, 0] (finK cx_m71_55 [.tmp 4] false [] [((.int .i64), .own)] []) .ret (m71_55_1_x1 p1 p2 x1 x2 x3)) (fun x1 x2 => ctxL cx_m71_55 (loopH cx_m71_55) c_m71_55 [1, 0, 1, 0] (finK cx_m71_55 [.tmp 4] false [] [((.int .i64), .own)] []) (.exit 0) (m71_55_1_x2 p1 p2 x1 x2))) d (fun K d2 => m71_55_1_body_eq p1 p2 _ d d2 K)).trans ?_
  unfold m71_55_1
  simp only [m71_55_1_p1_eq, m71_55_1_p2_eq]
noncomputable def m71_55_pre (F1 : (List (Int × (Int × (Int × Unit)))) → Int → (Int) → Option (Int × Unit)) (a1 : (List (Int × (Int × (Int × Unit))))) : Option (Int × Unit) :=
  F1 a1 ((List.length a1 : Int)) 0
theorem m71_55_pre_eq (L : Code → St → (Ex → St → Option (Tup ([((.int .i64), .own)] ++ []))) → Option (Tup ([((.int .i64), .own)] ++ []))) (a1 : (List (Int × (Int × (Int × Unit))))) : runL (rs := [((.int .i64), .own)]) (os := []) cx_m71_55 L c_m71_55 [.tmp 4] false [.bor (.slice (.pair (.int .i64) (.pair (.int .i64) (.pair (.int .i64) .unit)))), .fnc 55 []] [⟨(.slice (.pair (.int .i64) (.pair (.int .i64) (.pair (.int .i64) .unit)))), a1⟩] = m71_55_pre (fun p1 p2 d => L (codeAt c_m71_55 [1, 0, 1, 0, 0]) (m71_55_1_st p1 p2 d) (ctxL cx_m71_55 L c_m71_55 [1, 0, 1, 0] (finK cx_m71_55 [.tmp 4] false [] [((.int .i64), .own)] []))) a1 := by kernel_rfl
noncomputable def m71_55 (a1 : (List (Int × (Int × (Int × Unit))))) : Option (Int × Unit) := m71_55_pre (fun p1 p2 d => m71_55_1 p1 p2 fuel d) a1
theorem m71_55_eq (a1 : (List (Int × (Int × (Int × Unit))))) : run cx_m71_55 c_m71_55 [.tmp 4] false [.bor (.slice (.pair (.int .i64) (.pair (.int .i64) (.pair (.int .i64) .unit)))), .fnc 55 []] [((.int .i64), .own)] [] [⟨(.slice (.pair (.int .i64) (.pair (.int .i64) (.pair (.int .i64) .unit)))), a1⟩] = m71_55 a1 := by
  rw [run_L, m71_55_pre_eq]
  unfold m71_55
  simp only [m71_55_1_eq]
noncomputable def ct_m71_55 : Ct := ⟨[.bor (.slice (.pair (.int .i64) (.pair (.int .i64) (.pair (.int .i64) .unit)))), .fnc 55 []], [((.int .i64), .own)], [], M1 (.slice (.pair (.int .i64) (.pair (.int .i64) (.pair (.int .i64) .unit)))) m71_55, false⟩
theorem h_m71_55 : Holds Tryz.prog kn.G 71 ct_m71_55 :=
  Holds.of_run (kn := kn) (env := env_m71_55) (kp := [0, 1, 4, 5, 7, 8, 9, 16]) Tryz.func71 (c := c_m71_55) (by kernel_rfl) tab_ok (EnvL.cons h_m55 e_m55 EnvL.nil) (ct := ct_m71_55) (n := 19) (by kernel_rfl) (by kernel_rfl) (rv := [.tmp 4]) (by kernel_rfl) (M1_ok (r := run cx_m71_55 c_m71_55 [.tmp 4] false [.bor (.slice (.pair (.int .i64) (.pair (.int .i64) (.pair (.int .i64) .unit)))), .fnc 55 []] [((.int .i64), .own)] []) m71_55_eq)
theorem e_m71_55 : Eng.Enters Tryz.prog 71 := Eng.Enters.of Tryz.func71 (c := c_m71_55) (by kernel_rfl) (by kernel_rfl)

/- slices.ContainsFunc[[]loop.example/g01538/impl.Cmd,loop.example/g01538/impl.Cmd] -/
noncomputable def env_m54_55 : List (Nat × Nat × Ct) := [(71, 56, ct_m71_55)]
noncomputable def cx_m54_55 : Cx := mkCx kn env_m54_55 [0, 1, 4] 9
noncomputable def c_m54_55 : Code := codeOf Tryz.f54
noncomputable def m54_55 (a1 : (List (Int × (Int × (Int × Unit))))) : Option (Bool × Unit) :=
  (m71_55 a1).bind fun r1 =>
  some ((decide (r1.1 ≥ 0)), ())
theorem m54_55_eq (a1 : (List (Int × (Int × (Int × Unit))))) : run cx_m54_55 c_m54_55 [.tmp 4] false [.bor (.slice (.pair (.int .i64) (.pair (.int .i64) (.pair (.int .i64) .unit)))), .fnc 55 []] [(.bool, .own)] [] [⟨(.slice (.pair (.int .i64) (.pair (.int .i64) (.pair (.int .i64) .unit)))), a1⟩] = m54_55 a1 := by kernel_rfl
noncomputable def ct_m54_55 : Ct := ⟨[.bor (.slice (.pair (.int .i64) (.pair (.int .i64) (.pair (.int .i64) .unit)))), .fnc 55 []], [(.bool, .own)], [], M1 (.slice (.pair (.int .i64) (.pair (.int .i64) (.pair (.int .i64) .unit)))) m54_55, false⟩
theorem h_m54_55 : Holds Tryz.prog kn.G 54 ct_m54_55 :=
  Holds.of_run (kn := kn) (env := env_m54_55) (kp := [0, 1, 4]) Tryz.func54 (c := c_m54_55) (by kernel_rfl) tab_ok (EnvL.cons h_m71_55 e_m71_55 EnvL.nil) (ct := ct_m54_55) (n := 9) (by kernel_rfl) (by kernel_rfl) (rv := [.tmp 4]) (by kernel_rfl) (M1_ok (r := run cx_m54_55 c_m54_55 [.tmp 4] false [.bor (.slice (.pair (.int .i64) (.pair (.int .i64) (.pair (.int .i64) .unit)))), .fnc 55 []] [(.bool, .own)] []) m54_55_eq)
theorem e_m54_55 : Eng.Enters Tryz.prog 54 := Eng.Enters.of Tryz.func54 (c := c_m54_55) (by kernel_rfl) (by kernel_rfl)

/- loop.example/g01538/impl.BatchOk -/
noncomputable def env_m32 : List (Nat × Nat × Ct) := [(49, 0, ct_m49), (54, 56, ct_m54_55)]
noncomputable def cx_m32 : Cx := mkCx kn env_m32 [0, 1, 2, 4] 19
noncomputable def c_m32 : Code := codeOf Tryz.f32
noncomputable def m32 (a1 : (Bool × ((List (Int × (Int × (Int × Unit)))) × Unit))) : Option (Bool × Unit) :=
  bif a1.1 then
    some ((((List.length a1.2.1 : Int)) == 0), ())
  else
    (m49 ((List.length a1.2.1 : Int)) 1 6).bind fun r1 =>
    bif r1.1 then
      (m54_55 a1.2.1).bind fun r2 =>
      some ((!r2.1), ())
    else
      some (false, ())
theorem m32_eq (a1 : (Bool × ((List (Int × (Int × (Int × Unit)))) × Unit))) : run cx_m32 c_m32 [.tmp 2] false [.bor (.pair .bool (.pair (.slice (.pair (.int .i64) (.pair (.int .i64) (.pair (.int .i64) .unit)))) .unit))] [(.bool, .own)] [] [⟨(.pair .bool (.pair (.slice (.pair (.int .i64) (.pair (.int .i64) (.pair (.int .i64) .unit)))) .unit)), a1⟩] = m32 a1 := by kernel_rfl
noncomputable def ct_m32 : Ct := ⟨[.bor (.pair .bool (.pair (.slice (.pair (.int .i64) (.pair (.int .i64) (.pair (.int .i64) .unit)))) .unit))], [(.bool, .own)], [], M1 (.pair .bool (.pair (.slice (.pair (.int .i64) (.pair (.int .i64) (.pair (.int .i64) .unit)))) .unit)) m32, false⟩
theorem h_m32 : Holds Tryz.prog kn.G 32 ct_m32 :=
  Holds.of_run (kn := kn) (env := env_m32) (kp := [0, 1, 2, 4]) Tryz.func32 (c := c_m32) (by kernel_rfl) tab_ok (EnvL.cons h_m49 e_m49 (EnvL.cons h_m54_55 e_m54_55 EnvL.nil)) (ct := ct_m32) (n := 19) (by kernel_rfl) (by kernel_rfl) (rv := [.tmp 2]) (by kernel_rfl) (M1_ok (r := run cx_m32 c_m32 [.tmp 2] false [.bor (.pair .bool (.pair (.slice (.pair (.int .i64) (.pair (.int .i64) (.pair (.int .i64) .unit)))) .unit))] [(.bool, .own)] []) m32_eq)
theorem e_m32 : Eng.Enters Tryz.prog 32 := Eng.Enters.of Tryz.func32 (c := c_m32) (by kernel_rfl) (by kernel_rfl)

end
end Go.Proofs.YtfihmdlpikfbbaaGreatDoor
end
