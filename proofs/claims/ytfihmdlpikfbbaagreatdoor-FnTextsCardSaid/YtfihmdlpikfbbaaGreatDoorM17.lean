/- Part 17 of 20 of a claim; what is proved, and under which conditions, stands in the last part. Here: Zm06, Zm07. -/
import Derived.Test.YtfihmdlpikfbbaaGreatDoorM16
set_option linter.unusedVariables false
set_option linter.unusedSimpArgs false
set_option linter.unusedSectionVars false
section
/- Models of functions, and that they are what the functions do: spec.ReadOp, spec.ShowCmd, spec.ShowBatch, spec.DrawReadBatch, spec.ReadCmd, spec.ReadBatch. -/
namespace Go.Proofs.YtfihmdlpikfbbaaGreatDoor
open Go Go.Eng
set_option maxRecDepth 100000
set_option maxHeartbeats 400000
noncomputable section

/- loop.example/g01538/spec.ReadOp -/
noncomputable def env_m18 : List (Nat × Nat × Ct) := [(37, 0, ct_m37), (42, 0, ct_m42), (43, 0, ct_m43), (44, 0, ct_m44)]
noncomputable def cx_m18 : Cx := mkCx kn env_m18 [0, 2, 3, 4, 5, 6, 17, 25, 35] 38
noncomputable def c_m18 : Code := codeOf Tryz.f18
noncomputable def m18_1_st (p1 : List UInt8) (p2 : (List (List UInt8))) (d : Int × (Int × (Int × (Int × (Int × Unit))))) : St :=
  ⟨[(0, .val .str (p1 : List UInt8)), (2, .ptr 32 []), (3, .val .bool (false : Bool)), (4, .place 65 []), (5, .ptr 80 []), (6, .val (.int .i64) (d.1 : Int))], [(32, ⟨(.pair (.int .i64) (.pair (.int .i64) (.pair (.int .i64) (.pair (.int .i64) .unit)))), .own, ((0, 0, 0, 0, ()) : (Int × (Int × (Int × (Int × Unit))))), true⟩), (65, ⟨(.slice .str), .own, (p2 : (List (List UInt8))), false⟩), (80, ⟨(.pair (.int .i64) (.pair (.int .i64) (.pair (.int .i64) (.pair (.int .i64) .unit)))), .own, (d.2 : (Int × (Int × (Int × (Int × Unit))))), true⟩), (130, ⟨(.slice .str), .gone, (p2 : (List (List UInt8))), false⟩)]⟩
noncomputable def m18_1_x1 (p1 : List UInt8) (p2 : (List (List UInt8))) (x1 : Int) (x2 : Bool) (x3 : (Int × (Int × (Int × (Int × Unit))))) : St :=
  ⟨[(0, .val .str (p1 : List UInt8)), (2, .ptr 32 []), (3, .val .bool (false : Bool)), (4, .place 65 []), (5, .ptr 80 []), (6, .val (.int .i64) (x1 : Int)), (17, .val .bool (x2 : Bool))], [(32, ⟨(.pair (.int .i64) (.pair (.int .i64) (.pair (.int .i64) (.pair (.int .i64) .unit)))), .own, ((0, 0, 0, 0, ()) : (Int × (Int × (Int × (Int × Unit))))), true⟩), (65, ⟨(.slice .str), .own, (p2 : (List (List UInt8))), false⟩), (80, ⟨(.pair (.int .i64) (.pair (.int .i64) (.pair (.int .i64) (.pair (.int .i64) .unit)))), .own, (x3 : (Int × (Int × (Int × (Int × Unit))))), true⟩), (130, ⟨(.slice .str), .gone, (p2 : (List (List UInt8))), false⟩)]⟩
noncomputable def m18_1_body {T : Type} (p1 : List UInt8) (p2 : (List (List UInt8))) (X1 : Int → Bool → (Int × (Int × (Int × (Int × Unit)))) → Option T) (K : Int × (Int × (Int × (Int × (Int × Unit)))) → Option T) (d : Int × (Int × (Int × (Int × (Int × Unit))))) : Option T :=
  bif (decide (d.1 ≤ 7)) then
    (m44 d.1).bind fun r13 =>
    bif (decide (0 < ((List.length p2 : Int)))) then
      bif (List.beq r13.1 (List.getD p2 0 ([] : List UInt8))) then
        K ((IntKind.wrap .i64 (d.1 + 1)), (d.1, d.2.2))
      else
        K ((IntKind.wrap .i64 (d.1 + 1)), d.2)
    else
      none
  else
    X1 d.1 (decide (d.1 ≤ 7)) d.2
theorem m18_1_body_eq {R : Type} (p1 : List UInt8) (p2 : (List (List UInt8))) (kk : Ex → St → Option R) (d0 d : Int × (Int × (Int × (Int × (Int × Unit))))) (K : St → Option R) : execL cx_m18 (loopH cx_m18) (codeAt c_m18 [1, 1, 1, 0, 1, 0, 0]) (m18_1_st p1 p2 d) (bodyK (restr (m18_1_st p1 p2 d0)) K kk) = m18_1_body p1 p2 (fun x1 x2 x3 => kk (.exit 0) (m18_1_x1 p1 p2 x1 x2 x3)) (fun d => K (m18_1_st p1 p2 d)) d := by kernel_rfl
noncomputable def m18_1_p1 (p1 : List UInt8) (p2 : (List (List UInt8))) (x1 : Int) (x2 : Bool) (x3 : (Int × (Int × (Int × (Int × Unit))))) : Option ((Int × (Int × (Int × (Int × Unit)))) × Bool × Unit) :=
  bif (List.beq p1 ([] : List UInt8)) then
    some ((0, 0, 0, 0, ()), false, ())
  else
    (m37 x3).bind fun r14 =>
    bif (!(List.beq r14.1 p1)) then
      some ((0, 0, 0, 0, ()), false, ())
    else
      some (x3, true, ())
theorem m18_1_p1_eq (L : Code → St → (Ex → St → Option (Tup ([((.pair (.int .i64) (.pair (.int .i64) (.pair (.int .i64) (.pair (.int .i64) .unit)))), .own), (.bool, .own)] ++ []))) → Option (Tup ([((.pair (.int .i64) (.pair (.int .i64) (.pair (.int .i64) (.pair (.int .i64) .unit)))), .own), (.bool, .own)] ++ []))) (p1 : List UInt8) (p2 : (List (List UInt8))) (x1 : Int) (x2 : Bool) (x3 : (Int × (Int × (Int × (Int × Unit))))) : ctxL cx_m18 L c_m18 [1, 1, 1, 0, 1, 0] (finK cx_m18 [.cell 2 25, .tmp 3] false [] [((.pair (.int .i64) (.pair (.int .i64) (.pair (.int .i64) (.pair (.int .i64) .unit)))), .own), (.bool, .own)] []) (.exit 0) (m18_1_x1 p1 p2 x1 x2 x3) = m18_1_p1 p1 p2 x1 x2 x3 := by kernel_rfl
noncomputable def m18_1 (p1 : List UInt8) (p2 : (List (List UInt8))) : Nat → Int × (Int × (Int × (Int × (Int × Unit)))) → Option ((Int × (Int × (Int × (Int × Unit)))) × Bool × Unit) :=
  loopM (m18_1_body p1 p2 (fun x1 x2 x3 => m18_1_p1 p1 p2 x1 x2 x3))
theorem m18_1_eq (p1 : List UInt8) (p2 : (List (List UInt8))) (d : Int × (Int × (Int × (Int × (Int × Unit))))) : loopH cx_m18 (codeAt c_m18 [1, 1, 1, 0, 1, 0, 0]) (m18_1_st p1 p2 d) (ctxL cx_m18 (loopH cx_m18) c_m18 [1, 1, 1, 0, 1, 0] (finK cx_m18 [.cell 2 25, .tmp 3] false [] [((.pair (.int .i64) (.pair (.int .i64) (.pair (.int .i64) (.pair (.int .i64) .unit)))), .own), (.bool, .own)] [])) = m18_1 p1 p2 fuel d := by
  refine (loop_eq (m18_1_st p1 p2) (m18_1_body p1 p2 (fun x1 x2 x3 => ctxL cx_m18 (loopH cx_m18) c_m18 [1, 1, 1, 0, 1, 0] (finK cx_m18 [.cell 2 25, .tmp 3] false [] [((.pair (.int .i64) (.pair (.int .i64) (.pair (.int .i64) (.pair (.int .i64) .unit)))), .own), (.bool, .own)] []) (.exit 0) (m18_1_x1 p1 p2 x1 x2 x3))) d (fun K d2 => m18_1_body_eq p1 p2 _ d d2 K)).trans ?_
  unfold m18_1
  simp only [m18_1_p1_eq]
noncomputable def m18_pre (F1 : List UInt8 → (List (List UInt8)) → (Int × (Int × (Int × (Int × (Int × Unit))))) → Option ((Int × (Int × (Int × (Int × Unit)))) × Bool × Unit)) (a1 : List UInt8) : Option ((Int × (Int × (Int × (Int × Unit)))) × Bool × Unit) :=
  (m42 a1 32).bind fun r1 =>
  (m43 r1.1 1).bind fun r2 =>
  (m43 r1.1 2).bind fun r3 =>
  (m43 r1.1 3).bind fun r4 =>
  F1 a1 r1.1 (1, 0, r2.1, r3.1, r4.1, ())
theorem m18_pre_eq (L : Code → St → (Ex → St → Option (Tup ([((.pair (.int .i64) (.pair (.int .i64) (.pair (.int .i64) (.pair (.int .i64) .unit)))), .own), (.bool, .own)] ++ []))) → Option (Tup ([((.pair (.int .i64) (.pair (.int .i64) (.pair (.int .i64) (.pair (.int .i64) .unit)))), .own), (.bool, .own)] ++ []))) (a1 : List UInt8) : runL (rs := [((.pair (.int .i64) (.pair (.int .i64) (.pair (.int .i64) (.pair (.int .i64) .unit)))), .own), (.bool, .own)]) (os := []) cx_m18 L c_m18 [.cell 2 25, .tmp 3] false [.bor .str] [⟨.str, a1⟩] = m18_pre (fun p1 p2 d => L (codeAt c_m18 [1, 1, 1, 0, 1, 0, 0]) (m18_1_st p1 p2 d) (ctxL cx_m18 L c_m18 [1, 1, 1, 0, 1, 0] (finK cx_m18 [.cell 2 25, .tmp 3] false [] [((.pair (.int .i64) (.pair (.int .i64) (.pair (.int .i64) (.pair (.int .i64) .unit)))), .own), (.bool, .own)] []))) a1 := by kernel_rfl
noncomputable def m18 (a1 : List UInt8) : Option ((Int × (Int × (Int × (Int × Unit)))) × Bool × Unit) := m18_pre (fun p1 p2 d => m18_1 p1 p2 fuel d) a1
theorem m18_eq (a1 : List UInt8) : run cx_m18 c_m18 [.cell 2 25, .tmp 3] false [.bor .str] [((.pair (.int .i64) (.pair (.int .i64) (.pair (.int .i64) (.pair (.int .i64) .unit)))), .own), (.bool, .own)] [] [⟨.str, a1⟩] = m18 a1 := by
  rw [run_L, m18_pre_eq]
  unfold m18
  simp only [m18_1_eq]
noncomputable def ct_m18 : Ct := ⟨[.bor .str], [((.pair (.int .i64) (.pair (.int .i64) (.pair (.int .i64) (.pair (.int .i64) .unit)))), .own), (.bool, .own)], [], M1 .str m18, false⟩
theorem h_m18 : Holds Tryz.prog kn.G 18 ct_m18 :=
  Holds.of_run (kn := kn) (env := env_m18) (kp := [0, 2, 3, 4, 5, 6, 17, 25, 35]) Tryz.func18 (c := c_m18) (by kernel_rfl) tab_ok (EnvL.cons h_m37 e_m37 (EnvL.cons h_m42 e_m42 (EnvL.cons h_m43 e_m43 (EnvL.cons h_m44 e_m44 EnvL.nil)))) (ct := ct_m18) (n := 38) (by kernel_rfl) (by kernel_rfl) (rv := [.cell 2 25, .tmp 3]) (by kernel_rfl) (M1_ok (r := run cx_m18 c_m18 [.cell 2 25, .tmp 3] false [.bor .str] [((.pair (.int .i64) (.pair (.int .i64) (.pair (.int .i64) (.pair (.int .i64) .unit)))), .own), (.bool, .own)] []) m18_eq)
theorem e_m18 : Eng.Enters Tryz.prog 18 := Eng.Enters.of Tryz.func18 (c := c_m18) (by kernel_rfl) (by kernel_rfl)

/- loop.example/g01538/spec.ShowCmd -/
noncomputable def env_m64 : List (Nat × Nat × Ct) := [(15, 0, ct_m15), (59, 0, ct_m59)]
noncomputable def cx_m64 : Cx := mkCx kn env_m64 [0, 1, 2, 3, 6, 25] 33
noncomputable def c_m64 : Code := codeOf Tryz.f64
noncomputable def m64 (a1 : (Int × (Int × (Int × Unit)))) : Option (List UInt8 × Unit) :=
  (m15 a1).bind fun r1 =>
  bif (!r1.1) then
    some (([] : List UInt8), ())
  else
    bif ((decide (0 ≤ (IntKind.wrap .i64 (a1.1 - 1)))) && (decide ((IntKind.wrap .i64 (a1.1 - 1)) < 4))) then
      bif (decide (List.length (List.getD [([103, 101, 116] : List UInt8), ([112, 117, 116] : List UInt8), ([100, 101, 108] : List UInt8), ([97, 100, 100] : List UInt8)] (Int.toNat (IntKind.wrap .i64 (a1.1 - 1))) ([] : List UInt8)) + List.length ([32] : List UInt8) < 4611686018427387904)) then
        (m59 a1.2.1).bind fun r2 =>
        bif (decide (List.length ((List.getD [([103, 101, 116] : List UInt8), ([112, 117, 116] : List UInt8), ([100, 101, 108] : List UInt8), ([97, 100, 100] : List UInt8)] (Int.toNat (IntKind.wrap .i64 (a1.1 - 1))) ([] : List UInt8)) ++ ([32] : List UInt8)) + List.length r2.1 < 4611686018427387904)) then
          bif (a1.1 == 2) then
            bif (decide (List.length (((List.getD [([103, 101, 116] : List UInt8), ([112, 117, 116] : List UInt8), ([100, 101, 108] : List UInt8), ([97, 100, 100] : List UInt8)] (Int.toNat (IntKind.wrap .i64 (a1.1 - 1))) ([] : List UInt8)) ++ ([32] : List UInt8)) ++ r2.1) + List.length ([32] : List UInt8) < 4611686018427387904)) then
              (m59 a1.2.2.1).bind fun r3 =>
              bif (decide (List.length ((((List.getD [([103, 101, 116] : List UInt8), ([112, 117, 116] : List UInt8), ([100, 101, 108] : List UInt8), ([97, 100, 100] : List UInt8)] (Int.toNat (IntKind.wrap .i64 (a1.1 - 1))) ([] : List UInt8)) ++ ([32] : List UInt8)) ++ r2.1) ++ ([32] : List UInt8)) + List.length r3.1 < 4611686018427387904)) then
                some ((((((List.getD [([103, 101, 116] : List UInt8), ([112, 117, 116] : List UInt8), ([100, 101, 108] : List UInt8), ([97, 100, 100] : List UInt8)] (Int.toNat (IntKind.wrap .i64 (a1.1 - 1))) ([] : List UInt8)) ++ ([32] : List UInt8)) ++ r2.1) ++ ([32] : List UInt8)) ++ r3.1), ())
              else
                none
            else
              none
          else
            bif (a1.1 == 4) then
              bif (decide (List.length (((List.getD [([103, 101, 116] : List UInt8), ([112, 117, 116] : List UInt8), ([100, 101, 108] : List UInt8), ([97, 100, 100] : List UInt8)] (Int.toNat (IntKind.wrap .i64 (a1.1 - 1))) ([] : List UInt8)) ++ ([32] : List UInt8)) ++ r2.1) + List.length ([32] : List UInt8) < 4611686018427387904)) then
                (m59 a1.2.2.1).bind fun r4 =>
                bif (decide (List.length ((((List.getD [([103, 101, 116] : List UInt8), ([112, 117, 116] : List UInt8), ([100, 101, 108] : List UInt8), ([97, 100, 100] : List UInt8)] (Int.toNat (IntKind.wrap .i64 (a1.1 - 1))) ([] : List UInt8)) ++ ([32] : List UInt8)) ++ r2.1) ++ ([32] : List UInt8)) + List.length r4.1 < 4611686018427387904)) then
                  some ((((((List.getD [([103, 101, 116] : List UInt8), ([112, 117, 116] : List UInt8), ([100, 101, 108] : List UInt8), ([97, 100, 100] : List UInt8)] (Int.toNat (IntKind.wrap .i64 (a1.1 - 1))) ([] : List UInt8)) ++ ([32] : List UInt8)) ++ r2.1) ++ ([32] : List UInt8)) ++ r4.1), ())
                else
                  none
              else
                none
            else
              some ((((List.getD [([103, 101, 116] : List UInt8), ([112, 117, 116] : List UInt8), ([100, 101, 108] : List UInt8), ([97, 100, 100] : List UInt8)] (Int.toNat (IntKind.wrap .i64 (a1.1 - 1))) ([] : List UInt8)) ++ ([32] : List UInt8)) ++ r2.1), ())
        else
          none
      else
        none
    else
      none
theorem m64_eq (a1 : (Int × (Int × (Int × Unit)))) : run cx_m64 c_m64 [.tmp 2] false [.bor (.pair (.int .i64) (.pair (.int .i64) (.pair (.int .i64) .unit)))] [(.str, .own)] [] [⟨(.pair (.int .i64) (.pair (.int .i64) (.pair (.int .i64) .unit))), a1⟩] = m64 a1 := by kernel_rfl
noncomputable def ct_m64 : Ct := ⟨[.bor (.pair (.int .i64) (.pair (.int .i64) (.pair (.int .i64) .unit)))], [(.str, .own)], [], M1 (.pair (.int .i64) (.pair (.int .i64) (.pair (.int .i64) .unit))) m64, false⟩
theorem h_m64 : Holds Tryz.prog kn.G 64 ct_m64 :=
  Holds.of_run (kn := kn) (env := env_m64) (kp := [0, 1, 2, 3, 6, 25]) Tryz.func64 (c := c_m64) (by kernel_rfl) tab_ok (EnvL.cons h_m15 e_m15 (EnvL.cons h_m59 e_m59 EnvL.nil)) (ct := ct_m64) (n := 33) (by kernel_rfl) (by kernel_rfl) (rv := [.tmp 2]) (by kernel_rfl) (M1_ok (r := run cx_m64 c_m64 [.tmp 2] false [.bor (.pair (.int .i64) (.pair (.int .i64) (.pair (.int .i64) .unit)))] [(.str, .own)] []) m64_eq)
theorem e_m64 : Eng.Enters Tryz.prog 64 := Eng.Enters.of Tryz.func64 (c := c_m64) (by kernel_rfl) (by kernel_rfl)

/- loop.example/g01538/spec.ShowBatch -/
noncomputable def env_m45 : List (Nat × Nat × Ct) := [(16, 0, ct_m16), (64, 0, ct_m64)]
noncomputable def cx_m45 : Cx := mkCx kn env_m45 [0, 1, 2, 3, 4, 7, 9, 14, 18] 30
noncomputable def c_m45 : Code := codeOf Tryz.f45
noncomputable def m45_1_st (p1 : (Bool × ((List (Int × (Int × (Int × Unit)))) × Unit))) (p2 : Bool) (p3 : Bool) (d : List UInt8 × Int) : St :=
  ⟨[(0, .val (.pair .bool (.pair (.slice (.pair (.int .i64) (.pair (.int .i64) (.pair (.int .i64) .unit)))) .unit)) (p1 : (Bool × ((List (Int × (Int × (Int × Unit)))) × Unit)))), (1, .ptr 16 []), (2, .val .str (([] : List UInt8) : List UInt8)), (3, .val .str (d.1 : List UInt8)), (4, .val (.int .i64) (d.2 : Int)), (7, .val .bool (p2 : Bool)), (9, .val .bool (p3 : Bool))], [(16, ⟨(.pair .bool (.pair (.slice (.pair (.int .i64) (.pair (.int .i64) (.pair (.int .i64) .unit)))) .unit)), .shr, (p1 : (Bool × ((List (Int × (Int × (Int × Unit)))) × Unit))), true⟩)]⟩
noncomputable def m45_1_x1 (p1 : (Bool × ((List (Int × (Int × (Int × Unit)))) × Unit))) (p2 : Bool) (p3 : Bool) (x1 : List UInt8) (x2 : Int) (x3 : Bool) : St :=
  ⟨[(0, .val (.pair .bool (.pair (.slice (.pair (.int .i64) (.pair (.int .i64) (.pair (.int .i64) .unit)))) .unit)) (p1 : (Bool × ((List (Int × (Int × (Int × Unit)))) × Unit)))), (1, .ptr 16 []), (2, .val .str (([] : List UInt8) : List UInt8)), (3, .val .str (x1 : List UInt8)), (4, .val (.int .i64) (x2 : Int)), (7, .val .bool (p2 : Bool)), (9, .val .bool (p3 : Bool)), (14, .val .bool (x3 : Bool))], [(16, ⟨(.pair .bool (.pair (.slice (.pair (.int .i64) (.pair (.int .i64) (.pair (.int .i64) .unit)))) .unit)), .shr, (p1 : (Bool × ((List (Int × (Int × (Int × Unit)))) × Unit))), true⟩)]⟩
noncomputable def m45_1_body {T : Type} (p1 : (Bool × ((List (Int × (Int × (Int × Unit)))) × Unit))) (p2 : Bool) (p3 : Bool) (X1 : List UInt8 → Int → Bool → Option T) (K : List UInt8 × Int → Option T) (d : List UInt8 × Int) : Option T :=
  bif (decide (d.2 < ((List.length p1.2.1 : Int)))) then
    bif (decide (d.2 > 0)) then
      bif (decide (List.length d.1 + List.length ([59] : List UInt8) < 4611686018427387904)) then
        bif ((decide (0 ≤ d.2)) && (decide (d.2 < ((List.length p1.2.1 : Int))))) then
          (m64 (List.getD p1.2.1 (Int.toNat d.2) (0, 0, 0, ()))).bind fun r11 =>
          bif (decide (List.length (d.1 ++ ([59] : List UInt8)) + List.length r11.1 < 4611686018427387904)) then
            K (((d.1 ++ ([59] : List UInt8)) ++ r11.1), (IntKind.wrap .i64 (d.2 + 1)))
          else
            none
        else
          none
      else
        none
    else
      bif ((decide (0 ≤ d.2)) && (decide (d.2 < ((List.length p1.2.1 : Int))))) then
        (m64 (List.getD p1.2.1 (Int.toNat d.2) (0, 0, 0, ()))).bind fun r12 =>
        bif (decide (List.length d.1 + List.length r12.1 < 4611686018427387904)) then
          K ((d.1 ++ r12.1), (IntKind.wrap .i64 (d.2 + 1)))
        else
          none
      else
        none
  else
    X1 d.1 d.2 (decide (d.2 < ((List.length p1.2.1 : Int))))
theorem m45_1_body_eq {R : Type} (p1 : (Bool × ((List (Int × (Int × (Int × Unit)))) × Unit))) (p2 : Bool) (p3 : Bool) (kk : Ex → St → Option R) (d0 d : List UInt8 × Int) (K : St → Option R) : execL cx_m45 (loopH cx_m45) (codeAt c_m45 [1, 1, 1, 1, 0, 1, 0, 0]) (m45_1_st p1 p2 p3 d) (bodyK (restr (m45_1_st p1 p2 p3 d0)) K kk) = m45_1_body p1 p2 p3 (fun x1 x2 x3 => kk (.exit 0) (m45_1_x1 p1 p2 p3 x1 x2 x3)) (fun d => K (m45_1_st p1 p2 p3 d)) d := by kernel_rfl
noncomputable def m45_1_p1 (p1 : (Bool × ((List (Int × (Int × (Int × Unit)))) × Unit))) (p2 : Bool) (p3 : Bool) (x1 : List UInt8) (x2 : Int) (x3 : Bool) : Option (List UInt8 × Unit) :=
  some (x1, ())
theorem m45_1_p1_eq (L : Code → St → (Ex → St → Option (Tup ([(.str, .own)] ++ []))) → Option (Tup ([(.str, .own)] ++ []))) (p1 : (Bool × ((List (Int × (Int × (Int × Unit)))) × Unit))) (p2 : Bool) (p3 : Bool) (x1 : List UInt8) (x2 : Int) (x3 : Bool) : ctxL cx_m45 L c_m45 [1, 1, 1, 1, 0, 1, 0] (finK cx_m45 [.tmp 2] false [] [(.str, .own)] []) (.exit 0) (m45_1_x1 p1 p2 p3 x1 x2 x3) = m45_1_p1 p1 p2 p3 x1 x2 x3 := by kernel_rfl
noncomputable def m45_1 (p1 : (Bool × ((List (Int × (Int × (Int × Unit)))) × Unit))) (p2 : Bool) (p3 : Bool) : Nat → List UInt8 × Int → Option (List UInt8 × Unit) :=
  loopM (m45_1_body p1 p2 p3 (fun x1 x2 x3 => m45_1_p1 p1 p2 p3 x1 x2 x3))
theorem m45_1_eq (p1 : (Bool × ((List (Int × (Int × (Int × Unit)))) × Unit))) (p2 : Bool) (p3 : Bool) (d : List UInt8 × Int) : loopH cx_m45 (codeAt c_m45 [1, 1, 1, 1, 0, 1, 0, 0]) (m45_1_st p1 p2 p3 d) (ctxL cx_m45 (loopH cx_m45) c_m45 [1, 1, 1, 1, 0, 1, 0] (finK cx_m45 [.tmp 2] false [] [(.str, .own)] [])) = m45_1 p1 p2 p3 fuel d := by
  refine (loop_eq (m45_1_st p1 p2 p3) (m45_1_body p1 p2 p3 (fun x1 x2 x3 => ctxL cx_m45 (loopH cx_m45) c_m45 [1, 1, 1, 1, 0, 1, 0] (finK cx_m45 [.tmp 2] false [] [(.str, .own)] []) (.exit 0) (m45_1_x1 p1 p2 p3 x1 x2 x3))) d (fun K d2 => m45_1_body_eq p1 p2 p3 _ d d2 K)).trans ?_
  unfold m45_1
  simp only [m45_1_p1_eq]
noncomputable def m45_pre (F1 : (Bool × ((List (Int × (Int × (Int × Unit)))) × Unit)) → Bool → Bool → (List UInt8 × Int) → Option (List UInt8 × Unit)) (a1 : (Bool × ((List (Int × (Int × (Int × Unit)))) × Unit))) : Option (List UInt8 × Unit) :=
  (m16 a1).bind fun r1 =>
  bif (!r1.1) then
    some (([] : List UInt8), ())
  else
    bif a1.1 then
      some (([99, 111, 108, 108, 101, 99, 116] : List UInt8), ())
    else
      F1 a1 (!r1.1) a1.1 (([] : List UInt8), 0)
theorem m45_pre_eq (L : Code → St → (Ex → St → Option (Tup ([(.str, .own)] ++ []))) → Option (Tup ([(.str, .own)] ++ []))) (a1 : (Bool × ((List (Int × (Int × (Int × Unit)))) × Unit))) : runL (rs := [(.str, .own)]) (os := []) cx_m45 L c_m45 [.tmp 2] false [.bor (.pair .bool (.pair (.slice (.pair (.int .i64) (.pair (.int .i64) (.pair (.int .i64) .unit)))) .unit))] [⟨(.pair .bool (.pair (.slice (.pair (.int .i64) (.pair (.int .i64) (.pair (.int .i64) .unit)))) .unit)), a1⟩] = m45_pre (fun p1 p2 p3 d => L (codeAt c_m45 [1, 1, 1, 1, 0, 1, 0, 0]) (m45_1_st p1 p2 p3 d) (ctxL cx_m45 L c_m45 [1, 1, 1, 1, 0, 1, 0] (finK cx_m45 [.tmp 2] false [] [(.str, .own)] []))) a1 := by kernel_rfl
noncomputable def m45 (a1 : (Bool × ((List (Int × (Int × (Int × Unit)))) × Unit))) : Option (List UInt8 × Unit) := m45_pre (fun p1 p2 p3 d => m45_1 p1 p2 p3 fuel d) a1
theorem m45_eq (a1 : (Bool × ((List (Int × (Int × (Int × Unit)))) × Unit))) : run cx_m45 c_m45 [.tmp 2] false [.bor (.pair .bool (.pair (.slice (.pair (.int .i64) (.pair (.int .i64) (.pair (.int .i64) .unit)))) .unit))] [(.str, .own)] [] [⟨(.pair .bool (.pair (.slice (.pair (.int .i64) (.pair (.int .i64) (.pair (.int .i64) .unit)))) .unit)), a1⟩] = m45 a1 := by
  rw [run_L, m45_pre_eq]
  unfold m45
  simp only [m45_1_eq]
noncomputable def ct_m45 : Ct := ⟨[.bor (.pair .bool (.pair (.slice (.pair (.int .i64) (.pair (.int .i64) (.pair (.int .i64) .unit)))) .unit))], [(.str, .own)], [], M1 (.pair .bool (.pair (.slice (.pair (.int .i64) (.pair (.int .i64) (.pair (.int .i64) .unit)))) .unit)) m45, false⟩
theorem h_m45 : Holds Tryz.prog kn.G 45 ct_m45 :=
  Holds.of_run (kn := kn) (env := env_m45) (kp := [0, 1, 2, 3, 4, 7, 9, 14, 18]) Tryz.func45 (c := c_m45) (by kernel_rfl) tab_ok (EnvL.cons h_m16 e_m16 (EnvL.cons h_m64 e_m64 EnvL.nil)) (ct := ct_m45) (n := 30) (by kernel_rfl) (by kernel_rfl) (rv := [.tmp 2]) (by kernel_rfl) (M1_ok (r := run cx_m45 c_m45 [.tmp 2] false [.bor (.pair .bool (.pair (.slice (.pair (.int .i64) (.pair (.int .i64) (.pair (.int .i64) .unit)))) .unit))] [(.str, .own)] []) m45_eq)
theorem e_m45 : Eng.Enters Tryz.prog 45 := Eng.Enters.of Tryz.func45 (c := c_m45) (by kernel_rfl) (by kernel_rfl)

/- loop.example/g01538/spec.DrawReadBatch -/
noncomputable def env_m19 : List (Nat × Nat × Ct) := [(28, 0, ct_m28), (39, 0, ct_m39), (40, 0, ct_m40), (41, 0, ct_m41), (45, 0, ct_m45), (46, 0, ct_m46)]
noncomputable def cx_m19 : Cx := mkCx kn env_m19 [0, 2, 3, 4, 11, 12, 17] 25
noncomputable def c_m19 : Code := codeOf Tryz.f19
noncomputable def m19 (a1 : (List Int)) : Option (List UInt8 × Unit) :=
  (m28 a1).bind fun r1 =>
  (m46 r1.1).bind fun r2 =>
  (m45 r2.1).bind fun r3 =>
  (m39 r2.2.1 5).bind fun r4 =>
  bif (r4.1 == 0) then
    (m40 r4.2.1 r3.1).bind fun r5 =>
    some (r5.1, ())
  else
    bif (r4.1 == 1) then
      (m41 r4.2.1 [([59] : List UInt8), ([59, 103, 101, 116, 32, 49] : List UInt8), ([59, 103, 101, 116, 32, 49, 59, 103, 101, 116, 32, 50, 59, 103, 101, 116, 32, 51, 59, 103, 101, 116, 32, 52, 59, 103, 101, 116, 32, 53, 59, 103, 101, 116, 32, 54] : List UInt8), ([32] : List UInt8)]).bind fun r6 =>
      bif (decide (List.length r3.1 + List.length r6.1 < 4611686018427387904)) then
        some ((r3.1 ++ r6.1), ())
      else
        none
    else
      some (r3.1, ())
theorem m19_eq (a1 : (List Int)) : run cx_m19 c_m19 [.tmp 2] false [.bor (.slice (.int .u8))] [(.str, .own)] [] [⟨(.slice (.int .u8)), a1⟩] = m19 a1 := by kernel_rfl
noncomputable def ct_m19 : Ct := ⟨[.bor (.slice (.int .u8))], [(.str, .own)], [], M1 (.slice (.int .u8)) m19, false⟩
theorem h_m19 : Holds Tryz.prog kn.G 19 ct_m19 :=
  Holds.of_run (kn := kn) (env := env_m19) (kp := [0, 2, 3, 4, 11, 12, 17]) Tryz.func19 (c := c_m19) (by kernel_rfl) tab_ok (EnvL.cons h_m28 e_m28 (EnvL.cons h_m39 e_m39 (EnvL.cons h_m40 e_m40 (EnvL.cons h_m41 e_m41 (EnvL.cons h_m45 e_m45 (EnvL.cons h_m46 e_m46 EnvL.nil)))))) (ct := ct_m19) (n := 25) (by kernel_rfl) (by kernel_rfl) (rv := [.tmp 2]) (by kernel_rfl) (M1_ok (r := run cx_m19 c_m19 [.tmp 2] false [.bor (.slice (.int .u8))] [(.str, .own)] []) m19_eq)
theorem e_m19 : Eng.Enters Tryz.prog 19 := Eng.Enters.of Tryz.func19 (c := c_m19) (by kernel_rfl) (by kernel_rfl)

/- loop.example/g01538/spec.ReadCmd -/
noncomputable def env_m47 : List (Nat × Nat × Ct) := [(42, 0, ct_m42), (43, 0, ct_m43), (64, 0, ct_m64)]
noncomputable def cx_m47 : Cx := mkCx kn env_m47 [0, 2, 3, 4, 5, 6, 10, 26] 29
noncomputable def c_m47 : Code := codeOf Tryz.f47
noncomputable def m47_1_st (p1 : List UInt8) (p2 : (List (List UInt8))) (d : Int) : St :=
  ⟨[(0, .val .str (p1 : List UInt8)), (2, .ptr 32 []), (3, .val .bool (false : Bool)), (4, .place 65 []), (5, .val (.int .i64) (d : Int))], [(32, ⟨(.pair (.int .i64) (.pair (.int .i64) (.pair (.int .i64) .unit))), .own, ((0, 0, 0, ()) : (Int × (Int × (Int × Unit)))), true⟩), (65, ⟨(.slice .str), .own, (p2 : (List (List UInt8))), false⟩), (130, ⟨(.slice .str), .gone, (p2 : (List (List UInt8))), false⟩)]⟩
noncomputable def m47_1_x1 (p1 : List UInt8) (p2 : (List (List UInt8))) (x1 : Int) (x2 : Bool) (x3 : Bool) (x4 : (Int × (Int × (Int × Unit)))) : St :=
  ⟨[(0, .val .str (p1 : List UInt8)), (2, .ptr 32 []), (3, .val .bool (true : Bool)), (4, .place 65 []), (5, .val (.int .i64) (x1 : Int)), (6, .ptr 96 []), (10, .val .bool (x2 : Bool)), (26, .val .bool (x3 : Bool))], [(32, ⟨(.pair (.int .i64) (.pair (.int .i64) (.pair (.int .i64) .unit))), .own, (x4 : (Int × (Int × (Int × Unit)))), true⟩), (65, ⟨(.slice .str), .own, (p2 : (List (List UInt8))), false⟩), (96, ⟨(.pair (.int .i64) (.pair (.int .i64) (.pair (.int .i64) .unit))), .own, (x4 : (Int × (Int × (Int × Unit)))), true⟩), (130, ⟨(.slice .str), .gone, (p2 : (List (List UInt8))), false⟩)]⟩
noncomputable def m47_1_x2 (p1 : List UInt8) (p2 : (List (List UInt8))) (x1 : Int) (x2 : Bool) : St :=
  ⟨[(0, .val .str (p1 : List UInt8)), (2, .ptr 32 []), (3, .val .bool (false : Bool)), (4, .place 65 []), (5, .val (.int .i64) (x1 : Int)), (10, .val .bool (x2 : Bool))], [(32, ⟨(.pair (.int .i64) (.pair (.int .i64) (.pair (.int .i64) .unit))), .own, ((0, 0, 0, ()) : (Int × (Int × (Int × Unit)))), true⟩), (65, ⟨(.slice .str), .own, (p2 : (List (List UInt8))), false⟩), (130, ⟨(.slice .str), .gone, (p2 : (List (List UInt8))), false⟩)]⟩
noncomputable def m47_1_body {T : Type} (p1 : List UInt8) (p2 : (List (List UInt8))) (X1 : Int → Bool → Bool → (Int × (Int × (Int × Unit))) → Option T) (X2 : Int → Bool → Option T) (K : Int → Option T) (d : Int) : Option T :=
  bif (decide (d ≤ 4)) then
    (m43 p2 1).bind fun r11 =>
    (m43 p2 2).bind fun r12 =>
    bif (!(List.beq p1 ([] : List UInt8))) then
      (m64 (d, r11.1, r12.1, ())).bind fun r13 =>
      bif (List.beq r13.1 p1) then
        X1 d (decide (d ≤ 4)) (List.beq r13.1 p1) (d, r11.1, r12.1, ())
      else
        K (IntKind.wrap .i64 (d + 1))
    else
      K (IntKind.wrap .i64 (d + 1))
  else
    X2 d (decide (d ≤ 4))
theorem m47_1_body_eq {R : Type} (p1 : List UInt8) (p2 : (List (List UInt8))) (kk : Ex → St → Option R) (d0 d : Int) (K : St → Option R) : execL cx_m47 (loopH cx_m47) (codeAt c_m47 [1, 1, 0, 1, 0, 0]) (m47_1_st p1 p2 d) (bodyK (restr (m47_1_st p1 p2 d0)) K kk) = m47_1_body p1 p2 (fun x1 x2 x3 x4 => kk .ret (m47_1_x1 p1 p2 x1 x2 x3 x4)) (fun x1 x2 => kk (.exit 0) (m47_1_x2 p1 p2 x1 x2)) (fun d => K (m47_1_st p1 p2 d)) d := by kernel_rfl
noncomputable def m47_1_p1 (p1 : List UInt8) (p2 : (List (List UInt8))) (x1 : Int) (x2 : Bool) (x3 : Bool) (x4 : (Int × (Int × (Int × Unit)))) : Option ((Int × (Int × (Int × Unit))) × Bool × Unit) :=
  some (x4, true, ())
theorem m47_1_p1_eq (L : Code → St → (Ex → St → Option (Tup ([((.pair (.int .i64) (.pair (.int .i64) (.pair (.int .i64) .unit))), .own), (.bool, .own)] ++ []))) → Option (Tup ([((.pair (.int .i64) (.pair (.int .i64) (.pair (.int .i64) .unit))), .own), (.bool, .own)] ++ []))) (p1 : List UInt8) (p2 : (List (List UInt8))) (x1 : Int) (x2 : Bool) (x3 : Bool) (x4 : (Int × (Int × (Int × Unit)))) : ctxL cx_m47 L c_m47 [1, 1, 0, 1, 0] (finK cx_m47 [.cell 2 31, .tmp 3] false [] [((.pair (.int .i64) (.pair (.int .i64) (.pair (.int .i64) .unit))), .own), (.bool, .own)] []) .ret (m47_1_x1 p1 p2 x1 x2 x3 x4) = m47_1_p1 p1 p2 x1 x2 x3 x4 := by kernel_rfl
noncomputable def m47_1_p2 (p1 : List UInt8) (p2 : (List (List UInt8))) (x1 : Int) (x2 : Bool) : Option ((Int × (Int × (Int × Unit))) × Bool × Unit) :=
  some ((0, 0, 0, ()), false, ())
theorem m47_1_p2_eq (L : Code → St → (Ex → St → Option (Tup ([((.pair (.int .i64) (.pair (.int .i64) (.pair (.int .i64) .unit))), .own), (.bool, .own)] ++ []))) → Option (Tup ([((.pair (.int .i64) (.pair (.int .i64) (.pair (.int .i64) .unit))), .own), (.bool, .own)] ++ []))) (p1 : List UInt8) (p2 : (List (List UInt8))) (x1 : Int) (x2 : Bool) : ctxL cx_m47 L c_m47 [1, 1, 0, 1, 0] (finK cx_m47 [.cell 2 31, .tmp 3] false [] [((.pair (.int .i64) (.pair (.int .i64) (.pair (.int .i64) .unit))), .own), (.bool, .own)] []) (.exit 0) (m47_1_x2 p1 p2 x1 x2) = m47_1_p2 p1 p2 x1 x2 := by kernel_rfl
noncomputable def m47_1 (p1 : List UInt8) (p2 : (List (List UInt8))) : Nat → Int → Option ((Int × (Int × (Int × Unit))) × Bool × Unit) :=
  loopM (m47_1_body p1 p2 (fun x1 x2 x3 x4 => m47_1_p1 p1 p2 x1 x2 x3 x4) (fun x1 x2 => m47_1_p2 p1 p2 x1 x2))
theorem m47_1_eq (p1 : List UInt8) (p2 : (List (List UInt8))) (d : Int) : loopH cx_m47 (codeAt c_m47 [1, 1, 0, 1, 0, 0]) (m47_1_st p1 p2 d) (ctxL cx_m47 (loopH cx_m47) c_m47 [1, 1, 0, 1, 0] (finK cx_m47 [.cell 2 31, .tmp 3] false [] [((.pair (.int .i64) (.pair (.int .i64) (.pair (.int .i64) .unit))), .own), (.bool, .own)] [])) = m47_1 p1 p2 fuel d := by
  refine (loop_eq (m47_1_st p1 p2) (m47_1_body p1 p2 (fun x1 x2 x3 x4 => ctxL cx_m47 (loopH cx_m47) c_m47 [1, 1, 0, 1, 0] (finK cx_m47 [.cell 2 31, .tmp 3] false [] [((.pair (.int .i64) (.pair (.int .i64) (.pair (.int .i64) .unit))), .own), (.bool, .own)] []) .ret (m47_1_x1 p1 p2 x1 x2 x3 x4)) (fun x1 x2 => ctxL cx_m47 (loopH cx_m47) c_m47 [1, 1, 0, 1, 0] (finK cx_m47 [.cell 2 31, .tmp 3] false [] [((.pair (.int .i64) (.pair (.int .i64) (.pair (.int .i64) .unit))), .own), (.bool, .own)] []) (.exit 0) (m47_1_x2 p1 p2 x1 x2))) d (fun K d2 => m47_1_body_eq p1 p2 _ d d2 K)).trans ?_
  unfold m47_1
  simp only [m47_1_p1_eq, m47_1_p2_eq]
noncomputable def m47_pre (F1 : List UInt8 → (List (List UInt8)) → (Int) → Option ((Int × (Int × (Int × Unit))) × Bool × Unit)) (a1 : List UInt8) : Option ((Int × (Int × (Int × Unit))) × Bool × Unit) :=
  (m42 a1 32).bind fun r1 =>
  F1 a1 r1.1 1
theorem m47_pre_eq (L : Code → St → (Ex → St → Option (Tup ([((.pair (.int .i64) (.pair (.int .i64) (.pair (.int .i64) .unit))), .own), (.bool, .own)] ++ []))) → Option (Tup ([((.pair (.int .i64) (.pair (.int .i64) (.pair (.int .i64) .unit))), .own), (.bool, .own)] ++ []))) (a1 : List UInt8) : runL (rs := [((.pair (.int .i64) (.pair (.int .i64) (.pair (.int .i64) .unit))), .own), (.bool, .own)]) (os := []) cx_m47 L c_m47 [.cell 2 31, .tmp 3] false [.bor .str] [⟨.str, a1⟩] = m47_pre (fun p1 p2 d => L (codeAt c_m47 [1, 1, 0, 1, 0, 0]) (m47_1_st p1 p2 d) (ctxL cx_m47 L c_m47 [1, 1, 0, 1, 0] (finK cx_m47 [.cell 2 31, .tmp 3] false [] [((.pair (.int .i64) (.pair (.int .i64) (.pair (.int .i64) .unit))), .own), (.bool, .own)] []))) a1 := by kernel_rfl
noncomputable def m47 (a1 : List UInt8) : Option ((Int × (Int × (Int × Unit))) × Bool × Unit) := m47_pre (fun p1 p2 d => m47_1 p1 p2 fuel d) a1
theorem m47_eq (a1 : List UInt8) : run cx_m47 c_m47 [.cell 2 31, .tmp 3] false [.bor .str] [((.pair (.int .i64) (.pair (.int .i64) (.pair (.int .i64) .unit))), .own), (.bool, .own)] [] [⟨.str, a1⟩] = m47 a1 := by
  rw [run_L, m47_pre_eq]
  unfold m47
  simp only [m47_1_eq]
noncomputable def ct_m47 : Ct := ⟨[.bor .str], [((.pair (.int .i64) (.pair (.int .i64) (.pair (.int .i64) .unit))), .own), (.bool, .own)], [], M1 .str m47, false⟩
theorem h_m47 : Holds Tryz.prog kn.G 47 ct_m47 :=
  Holds.of_run (kn := kn) (env := env_m47) (kp := [0, 2, 3, 4, 5, 6, 10, 26]) Tryz.func47 (c := c_m47) (by kernel_rfl) tab_ok (EnvL.cons h_m42 e_m42 (EnvL.cons h_m43 e_m43 (EnvL.cons h_m64 e_m64 EnvL.nil))) (ct := ct_m47) (n := 29) (by kernel_rfl) (by kernel_rfl) (rv := [.cell 2 31, .tmp 3]) (by kernel_rfl) (M1_ok (r := run cx_m47 c_m47 [.cell 2 31, .tmp 3] false [.bor .str] [((.pair (.int .i64) (.pair (.int .i64) (.pair (.int .i64) .unit))), .own), (.bool, .own)] []) m47_eq)
theorem e_m47 : Eng.Enters Tryz.prog 47 := Eng.Enters.of Tryz.func47 (c := c_m47) (by kernel_rfl) (by kernel_rfl)

/- loop.example/g01538/spec.ReadBatch -/
noncomputable def env_m20 : List (Nat × Nat × Ct) := [(16, 0, ct_m16), (42, 0, ct_m42), (47, 0, ct_m47)]
noncomputable def cx_m20 : Cx := mkCx kn env_m20 [0, 2, 3, 4, 5, 6, 7, 8, 10, 18, 30, 40] 43
noncomputable def c_m20 : Code := codeOf Tryz.f20
noncomputable def m20_1_st (p1 : List UInt8) (p2 : Bool) (p3 : (List (List UInt8))) (d : Int × (Bool × ((List (Int × (Int × (Int × Unit)))) × Unit))) : St :=
  ⟨[(0, .val .str (p1 : List UInt8)), (2, .ptr 32 []), (3, .val .bool (false : Bool)), (4, .ptr 64 []), (5, .place 81 []), (6, .val (.int .i64) (d.1 : Int)), (10, .val .bool (p2 : Bool))], [(32, ⟨(.pair .bool (.pair (.slice (.pair (.int .i64) (.pair (.int .i64) (.pair (.int .i64) .unit)))) .unit)), .own, ((false, [], ()) : (Bool × ((List (Int × (Int × (Int × Unit)))) × Unit))), true⟩), (64, ⟨(.pair .bool (.pair (.slice (.pair (.int .i64) (.pair (.int .i64) (.pair (.int .i64) .unit)))) .unit)), .own, (d.2 : (Bool × ((List (Int × (Int × (Int × Unit)))) × Unit))), true⟩), (81, ⟨(.slice .str), .own, (p3 : (List (List UInt8))), false⟩), (193, ⟨(.pair .bool (.pair (.slice (.pair (.int .i64) (.pair (.int .i64) (.pair (.int .i64) .unit)))) .unit)), .gone, ((false, [], ()) : (Bool × ((List (Int × (Int × (Int × Unit)))) × Unit))), false⟩), (226, ⟨(.slice .str), .gone, (p3 : (List (List UInt8))), false⟩)]⟩
noncomputable def m20_1_x1 (p1 : List UInt8) (p2 : Bool) (p3 : (List (List UInt8))) (x1 : Int) (x2 : Bool) (x3 : Bool) (x4 : Bool) (x5 : (Bool × ((List (Int × (Int × (Int × Unit)))) × Unit))) (x6 : (Int × (Int × (Int × Unit)))) : St :=
  ⟨[(0, .val .str (p1 : List UInt8)), (2, .ptr 32 []), (3, .val .bool (false : Bool)), (4, .ptr 64 []), (5, .place 81 []), (6, .val (.int .i64) (x1 : Int)), (7, .ptr 112 []), (8, .val .bool (x2 : Bool)), (10, .val .bool (p2 : Bool)), (18, .val .bool (x3 : Bool)), (30, .val .bool (x4 : Bool))], [(32, ⟨(.pair .bool (.pair (.slice (.pair (.int .i64) (.pair (.int .i64) (.pair (.int .i64) .unit)))) .unit)), .own, ((false, [], ()) : (Bool × ((List (Int × (Int × (Int × Unit)))) × Unit))), true⟩), (64, ⟨(.pair .bool (.pair (.slice (.pair (.int .i64) (.pair (.int .i64) (.pair (.int .i64) .unit)))) .unit)), .own, (x5 : (Bool × ((List (Int × (Int × (Int × Unit)))) × Unit))), true⟩), (81, ⟨(.slice .str), .own, (p3 : (List (List UInt8))), false⟩), (112, ⟨(.pair (.int .i64) (.pair (.int .i64) (.pair (.int .i64) .unit))), .own, (x6 : (Int × (Int × (Int × Unit)))), true⟩), (193, ⟨(.pair .bool (.pair (.slice (.pair (.int .i64) (.pair (.int .i64) (.pair (.int .i64) .unit)))) .unit)), .gone, ((false, [], ()) : (Bool × ((List (Int × (Int × (Int × Unit)))) × Unit))), false⟩), (226, ⟨(.slice .str), .gone, (p3 : (List (List UInt8))), false⟩), (497, ⟨(.pair .bool (.pair (.slice (.pair (.int .i64) (.pair (.int .i64) (.pair (.int .i64) .unit)))) .unit)), .gone, ((false, [], ()) : (Bool × ((List (Int × (Int × (Int × Unit)))) × Unit))), false⟩)]⟩
noncomputable def m20_1_x2 (p1 : List UInt8) (p2 : Bool) (p3 : (List (List UInt8))) (x1 : Int) (x2 : Bool) (x3 : (Bool × ((List (Int × (Int × (Int × Unit)))) × Unit))) : St :=
  ⟨[(0, .val .str (p1 : List UInt8)), (2, .ptr 32 []), (3, .val .bool (false : Bool)), (4, .ptr 64 []), (5, .place 81 []), (6, .val (.int .i64) (x1 : Int)), (10, .val .bool (p2 : Bool)), (18, .val .bool (x2 : Bool))], [(32, ⟨(.pair .bool (.pair (.slice (.pair (.int .i64) (.pair (.int .i64) (.pair (.int .i64) .unit)))) .unit)), .own, ((false, [], ()) : (Bool × ((List (Int × (Int × (Int × Unit)))) × Unit))), true⟩), (64, ⟨(.pair .bool (.pair (.slice (.pair (.int .i64) (.pair (.int .i64) (.pair (.int .i64) .unit)))) .unit)), .own, (x3 : (Bool × ((List (Int × (Int × (Int × Unit)))) × Unit))), true⟩), (81, ⟨(.slice .str), .own, (p3 : (List (List UInt8))), false⟩), (193, ⟨(.pair .bool (.pair (.slice (.pair (.int .i64) (.pair (.int .i64) (.pair (.int .i64) .unit)))) .unit)), .gone, ((false, [], ()) : (Bool × ((List (Int × (Int × (Int × Unit)))) × Unit))), false⟩), (226, ⟨(.slice .str), .gone, (p3 : (List (List UInt8))), false⟩)]⟩
noncomputable def m20_1_body {T : Type} (p1 : List UInt8) (p2 : Bool) (p3 : (List (List UInt8))) (X1 : Int → Bool → Bool → Bool → (Bool × ((List (Int × (Int × (Int × Unit)))) × Unit)) → (Int × (Int × (Int × Unit))) → Option T) (X2 : Int → Bool → (Bool × ((List (Int × (Int × (Int × Unit)))) × Unit)) → Option T) (K : Int × (Bool × ((List (Int × (Int × (Int × Unit)))) × Unit)) → Option T) (d : Int × (Bool × ((List (Int × (Int × (Int × Unit)))) × Unit))) : Option T :=
  bif (decide (d.1 < ((List.length p3 : Int)))) then
    bif ((decide (0 ≤ d.1)) && (decide (d.1 < ((List.length p3 : Int))))) then
      (m47 (List.getD p3 (Int.toNat d.1) ([] : List UInt8))).bind fun r12 =>
      bif (!r12.2.1) then
        X1 d.1 r12.2.1 (decide (d.1 < ((List.length p3 : Int)))) (!r12.2.1) d.2 r12.1
      else
        bif (decide (List.length d.2.2.1 + List.length [r12.1] < 1073741824)) then
          K ((IntKind.wrap .i64 (d.1 + 1)), (d.2.1, (List.append d.2.2.1 [r12.1]), d.2.2.2))
        else
          none
    else
      none
  else
    X2 d.1 (decide (d.1 < ((List.length p3 : Int)))) d.2
theorem m20_1_body_eq {R : Type} (p1 : List UInt8) (p2 : Bool) (p3 : (List (List UInt8))) (kk : Ex → St → Option R) (d0 d : Int × (Bool × ((List (Int × (Int × (Int × Unit)))) × Unit))) (K : St → Option R) : execL cx_m20 (loopH cx_m20) (codeAt c_m20 [1, 1, 1, 1, 0, 1, 0, 0]) (m20_1_st p1 p2 p3 d) (bodyK (restr (m20_1_st p1 p2 p3 d0)) K kk) = m20_1_body p1 p2 p3 (fun x1 x2 x3 x4 x5 x6 => kk .ret (m20_1_x1 p1 p2 p3 x1 x2 x3 x4 x5 x6)) (fun x1 x2 x3 => kk (.exit 0) (m20_1_x2 p1 p2 p3 x1 x2 x3)) (fun d => K (m20_1_st p1 p2 p3 d)) d := by kernel_rfl
noncomputable def m20_1_p1 (p1 : List UInt8) (p2 : Bool) (p3 : (List (List UInt8))) (x1 : Int) (x2 : Bool) (x3 : Bool) (x4 : Bool) (x5 : (Bool × ((List (Int × (Int × (Int × Unit)))) × Unit))) (x6 : (Int × (Int × (Int × Unit)))) : Option ((Bool × ((List (Int × (Int × (Int × Unit)))) × Unit)) × Bool × Unit) :=
  some ((false, [], ()), false, ())
theorem m20_1_p1_eq (L : Code → St → (Ex → St → Option (Tup ([((.pair .bool (.pair (.slice (.pair (.int .i64) (.pair (.int .i64) (.pair (.int .i64) .unit)))) .unit)), .own), (.bool, .own)] ++ []))) → Option (Tup ([((.pair .bool (.pair (.slice (.pair (.int .i64) (.pair (.int .i64) (.pair (.int .i64) .unit)))) .unit)), .own), (.bool, .own)] ++ []))) (p1 : List UInt8) (p2 : Bool) (p3 : (List (List UInt8))) (x1 : Int) (x2 : Bool) (x3 : Bool) (x4 : Bool) (x5 : (Bool × ((List (Int × (Int × (Int × Unit)))) × Unit))) (x6 : (Int × (Int × (Int × Unit)))) : ctxL cx_m20 L c_m20 [1, 1, 1, 1, 0, 1, 0] (finK cx_m20 [.cell 2 38, .tmp 3] false [] [((.pair .bool (.pair (.slice (.pair (.int .i64) (.pair (.int .i64) (.pair (.int .i64) .unit)))) .unit)), .own), (.bool, .own)] []) .ret (m20_1_x1 p1 p2 p3 x1 x2 x3 x4 x5 x6) = m20_1_p1 p1 p2 p3 x1 x2 x3 x4 x5 x6 := by kernel_rfl
noncomputable def m20_1_p2 (p1 : List UInt8) (p2 : Bool) (p3 : (List (List UInt8))) (x1 : Int) (x2 : Bool) (x3 : (Bool × ((List (Int × (Int × (Int × Unit)))) × Unit))) : Option ((Bool × ((List (Int × (Int × (Int × Unit)))) × Unit)) × Bool × Unit) :=
  (m16 x3).bind fun r13 =>
  bif (!r13.1) then
    some ((false, [], ()), false, ())
  else
    some (x3, true, ())
theorem m20_1_p2_eq (L : Code → St → (Ex → St → Option (Tup ([((.pair .bool (.pair (.slice (.pair (.int .i64) (.pair (.int .i64) (.pair (.int .i64) .unit)))) .unit)), .own), (.bool, .own)] ++ []))) → Option (Tup ([((.pair .bool (.pair (.slice (.pair (.int .i64) (.pair (.int .i64) (.pair (.int .i64) .unit)))) .unit)), .own), (.bool, .own)] ++ []))) (p1 : List UInt8) (p2 : Bool) (p3 : (List (List UInt8))) (x1 : Int) (x2 : Bool) (x3 : (Bool × ((List (Int × (Int × (Int × Unit)))) × Unit))) : ctxL cx_m20 L c_m20 [1, 1, 1, 1, 0, 1, 0] (finK cx_m20 [.cell 2 38, .tmp 3] false [] [((.pair .bool (.pair (.slice (.pair (.int .i64) (.pair (.int .i64) (.pair (.int .i64) .unit)))) .unit)), .own), (.bool, .own)] []) (.exit 0) (m20_1_x2 p1 p2 p3 x1 x2 x3) = m20_1_p2 p1 p2 p3 x1 x2 x3 := by kernel_rfl
noncomputable def m20_1 (p1 : List UInt8) (p2 : Bool) (p3 : (List (List UInt8))) : Nat → Int × (Bool × ((List (Int × (Int × (Int × Unit)))) × Unit)) → Option ((Bool × ((List (Int × (Int × (Int × Unit)))) × Unit)) × Bool × Unit) :=
  loopM (m20_1_body p1 p2 p3 (fun x1 x2 x3 x4 x5 x6 => m20_1_p1 p1 p2 p3 x1 x2 x3 x4 x5 x6) (fun x1 x2 x3 => m20_1_p2 p1 p2 p3 x1 x2 x3))
theorem m20_1_eq (p1 : List UInt8) (p2 : Bool) (p3 : (List (List UInt8))) (d : Int × (Bool × ((List (Int × (Int × (Int × Unit)))) × Unit))) : loopH cx_m20 (codeAt c_m20 [1, 1, 1, 1, 0, 1, 0, 0]) (m20_1_st p1 p2 p3 d) (ctxL cx_m20 (loopH cx_m20) c_m20 [1, 1, 1, 1, 0, 1, 0] (finK cx_m20 [.cell 2 38, .tmp 3] false [] [((.pair .bool (.pair (.slice (.pair (.int .i64) (.pair (.int .i64) (.pair (.int .i64) .unit)))) .unit)), .own), (.bool, .own)] [])) = m20_1 p1 p2 p3 fuel d := by
  refine (loop_eq (m20_1_st p1 p2 p3) (m20_1_body p1 p2 p3 (fun x1 x2 x3 x4 x5 x6 => ctxL cx_m20 (loopH cx_m20) c_m20 [1, 1, 1, 1, 0, 1, 0] (finK cx_m20 [.cell 2 38, .tmp 3] false [] [((.pair .bool (.pair (.slice (.pair (.int .i64) (.pair (.int .i64) (.pair (.int .i64) .unit)))) .unit)), .own), (.bool, .own)] []) .ret (m20_1_x1 p1 p2 p3 x1 x2 x3 x4 x5 x6)) (fun x1 x2 x3 => ctxL cx_m20 (loopH cx_m20) c_m20 [1, 1, 1, 1, 0, 1, 0] (finK cx_m20 [.cell 2 38, .tmp 3] false [] [((.pair .bool (.pair (.slice (.pair (.int .i64) (.pair (.int .i64) (.pair (.int .i64) .unit)))) .unit)), .own), (.bool, .own)] []) (.exit 0) (m20_1_x2 p1 p2 p3 x1 x2 x3))) d (fun K d2 => m20_1_body_eq p1 p2 p3 _ d d2 K)).trans ?_
  unfold m20_1
  simp only [m20_1_p1_eq, m20_1_p2_eq]
noncomputable def m20_pre (F1 : List UInt8 → Bool → (List (List UInt8)) → (Int × (Bool × ((List (Int × (Int × (Int × Unit)))) × Unit))) → Option ((Bool × ((List (Int × (Int × (Int × Unit)))) × Unit)) × Bool × Unit)) (a1 : List UInt8) : Option ((Bool × ((List (Int × (Int × (Int × Unit)))) × Unit)) × Bool × Unit) :=
  bif (List.beq a1 ([99, 111, 108, 108, 101, 99, 116] : List UInt8)) then
    some ((true, [], ()), true, ())
  else
    (m42 a1 59).bind fun r1 =>
    F1 a1 (List.beq a1 ([99, 111, 108, 108, 101, 99, 116] : List UInt8)) r1.1 (0, false, [], ())
theorem m20_pre_eq (L : Code → St → (Ex → St → Option (Tup ([((.pair .bool (.pair (.slice (.pair (.int .i64) (.pair (.int .i64) (.pair (.int .i64) .unit)))) .unit)), .own), (.bool, .own)] ++ []))) → Option (Tup ([((.pair .bool (.pair (.slice (.pair (.int .i64) (.pair (.int .i64) (.pair (.int .i64) .unit)))) .unit)), .own), (.bool, .own)] ++ []))) (a1 : List UInt8) : runL (rs := [((.pair .bool (.pair (.slice (.pair (.int .i64) (.pair (.int .i64) (.pair (.int .i64) .unit)))) .unit)), .own), (.bool, .own)]) (os := []) cx_m20 L c_m20 [.cell 2 38, .tmp 3] false [.bor .str] [⟨.str, a1⟩] = m20_pre (fun p1 p2 p3 d => L (codeAt c_m20 [1, 1, 1, 1, 0, 1, 0, 0]) (m20_1_st p1 p2 p3 d) (ctxL cx_m20 L c_m20 [1, 1, 1, 1, 0, 1, 0] (finK cx_m20 [.cell 2 38, .tmp 3] false [] [((.pair .bool (.pair (.slice (.pair (.int .i64) (.pair (.int .i64) (.pair (.int .i64) .unit)))) .unit)), .own), (.bool, .own)] []))) a1 := by kernel_rfl
noncomputable def m20 (a1 : List UInt8) : Option ((Bool × ((List (Int × (Int × (Int × Unit)))) × Unit)) × Bool × Unit) := m20_pre (fun p1 p2 p3 d => m20_1 p1 p2 p3 fuel d) a1
theorem m20_eq (a1 : List UInt8) : run cx_m20 c_m20 [.cell 2 38, .tmp 3] false [.bor .str] [((.pair .bool (.pair (.slice (.pair (.int .i64) (.pair (.int .i64) (.pair (.int .i64) .unit)))) .unit)), .own), (.bool, .own)] [] [⟨.str, a1⟩] = m20 a1 := by
  rw [run_L, m20_pre_eq]
  unfold m20
  simp only [m20_1_eq]
noncomputable def ct_m20 : Ct := ⟨[.bor .str], [((.pair .bool (.pair (.slice (.pair (.int .i64) (.pair (.int .i64) (.pair (.int .i64) .unit)))) .unit)), .own), (.bool, .own)], [], M1 .str m20, false⟩
theorem h_m20 : Holds Tryz.prog kn.G 20 ct_m20 :=
  Holds.of_run (kn := kn) (env := env_m20) (kp := [0, 2, 3, 4, 5, 6, 7, 8, 10, 18, 30, 40]) Tryz.func20 (c := c_m20) (by kernel_rfl) tab_ok (EnvL.cons h_m16 e_m16 (EnvL.cons h_m42 e_m42 (EnvL.cons h_m47 e_m47 EnvL.nil))) (ct := ct_m20) (n := 43) (by kernel_rfl) (by kernel_rfl) (rv := [.cell 2 38, .tmp 3]) (by kernel_rfl) (M1_ok (r := run cx_m20 c_m20 [.cell 2 38, .tmp 3] false [.bor .str] [((.pair .bool (.pair (.slice (.pair (.int .i64) (.pair (.int .i64) (.pair (.int .i64) .unit)))) .unit)), .own), (.bool, .own)] []) m20_eq)
theorem e_m20 : Eng.Enters Tryz.prog 20 := Eng.Enters.of Tryz.func20 (c := c_m20) (by kernel_rfl) (by kernel_rfl)

end
end Go.Proofs.YtfihmdlpikfbbaaGreatDoor
end

section
/- Models of functions, and that they are what the functions do: laws.FnTexts. -/
namespace Go.Proofs.YtfihmdlpikfbbaaGreatDoor
open Go Go.Eng
set_option maxRecDepth 100000
set_option maxHeartbeats 400000
noncomputable section

/- loop.example/g01538/laws.FnTexts -/
noncomputable def env_m3 : List (Nat × Nat × Ct) := [(4, 0, ct_m4), (5, 0, ct_m5), (6, 0, ct_m6), (7, 0, ct_m7), (8, 0, ct_m8), (9, 0, ct_m9), (10, 0, ct_m10), (11, 0, ct_m11), (12, 0, ct_m12), (13, 0, ct_m13), (14, 0, ct_m14), (15, 0, ct_m15), (16, 0, ct_m16), (17, 0, ct_m17), (18, 0, ct_m18), (19, 0, ct_m19), (20, 0, ct_m20)]
noncomputable def cx_m3 : Cx := mkCx kn env_m3 [0, 2, 3, 4, 5, 6, 7, 8, 9, 10, 11, 12, 13, 14, 15, 16, 17, 19, 20, 21, 22, 24, 26, 103] 156
noncomputable def c_m3 : Code := codeOf Tryz.f3
noncomputable def m3 (a1 : (List Int)) : Option (Bool × Unit) :=
  (m4 a1).bind fun r1 =>
  bif r1.1 then
    some (true, ())
  else
    (m5 a1).bind fun r2 =>
    (m6 r2.1).bind fun r3 =>
    (m7 r3.1).bind fun r4 =>
    (m8 a1).bind fun r5 =>
    (m9 r5.1).bind fun r6 =>
    (m10 r6.1).bind fun r7 =>
    (m11 a1).bind fun r8 =>
    (m12 r8.1).bind fun r9 =>
    (m13 r9.1).bind fun r10 =>
    (m14 r2.1).bind fun r11 =>
    bif (!(r4.2.1 == r11.1)) then
      some (false, ())
    else
      bif r4.2.1 then
        bif (!(eqD (.pair (.int .i64) (.pair (.int .i64) (.pair (.int .i64) (.pair (.int .i64) .unit)))) r4.1 r2.1)) then
          some (false, ())
        else
          (m15 r5.1).bind fun r12 =>
          bif (!(r7.2.1 == r12.1)) then
            some (false, ())
          else
            bif r7.2.1 then
              bif (!(eqD (.pair (.int .i64) (.pair (.int .i64) (.pair (.int .i64) .unit))) r7.1 r5.1)) then
                some (false, ())
              else
                (m16 r8.1).bind fun r13 =>
                bif (!(r10.2.1 == r13.1)) then
                  some (false, ())
                else
                  bif r10.2.1 then
                    (m12 r10.1).bind fun r14 =>
                    bif (!(List.beq r14.1 r9.1)) then
                      some (false, ())
                    else
                      bif (((List.length r10.1.2.1 : Int)) != ((List.length r8.1.2.1 : Int))) then
                        some (false, ())
                      else
                        (m17 a1).bind fun r15 =>
                        (m7 r15.1).bind fun r16 =>
                        (m18 r15.1).bind fun r17 =>
                        (m19 a1).bind fun r18 =>
                        (m13 r18.1).bind fun r19 =>
                        (m20 r18.1).bind fun r20 =>
                        bif (r16.2.1 == r17.2.1) then
                          bif (!r16.2.1) then
                            bif (r19.2.1 == r20.2.1) then
                              bif (!r19.2.1) then
                                some (true, ())
                              else
                                (m12 r19.1).bind fun r21 =>
                                some ((List.beq r21.1 r18.1), ())
                            else
                              some (false, ())
                          else
                            (m6 r16.1).bind fun r22 =>
                            bif (List.beq r22.1 r15.1) then
                              bif (r19.2.1 == r20.2.1) then
                                bif (!r19.2.1) then
                                  some (true, ())
                                else
                                  (m12 r19.1).bind fun r23 =>
                                  some ((List.beq r23.1 r18.1), ())
                              else
                                some (false, ())
                            else
                              some (false, ())
                        else
                          some (false, ())
                  else
                    (m17 a1).bind fun r24 =>
                    (m7 r24.1).bind fun r25 =>
                    (m18 r24.1).bind fun r26 =>
                    (m19 a1).bind fun r27 =>
                    (m13 r27.1).bind fun r28 =>
                    (m20 r27.1).bind fun r29 =>
                    bif (r25.2.1 == r26.2.1) then
                      bif (!r25.2.1) then
                        bif (r28.2.1 == r29.2.1) then
                          bif (!r28.2.1) then
                            some (true, ())
                          else
                            (m12 r28.1).bind fun r30 =>
                            some ((List.beq r30.1 r27.1), ())
                        else
                          some (false, ())
                      else
                        (m6 r25.1).bind fun r31 =>
                        bif (List.beq r31.1 r24.1) then
                          bif (r28.2.1 == r29.2.1) then
                            bif (!r28.2.1) then
                              some (true, ())
                            else
                              (m12 r28.1).bind fun r32 =>
                              some ((List.beq r32.1 r27.1), ())
                          else
                            some (false, ())
                        else
                          some (false, ())
                    else
                      some (false, ())
            else
              (m16 r8.1).bind fun r33 =>
              bif (!(r10.2.1 == r33.1)) then
                some (false, ())
              else
                bif r10.2.1 then
                  (m12 r10.1).bind fun r34 =>
                  bif (!(List.beq r34.1 r9.1)) then
                    some (false, ())
                  else
                    bif (((List.length r10.1.2.1 : Int)) != ((List.length r8.1.2.1 : Int))) then
                      some (false, ())
                    else
                      (m17 a1).bind fun r35 =>
                      (m7 r35.1).bind fun r36 =>
                      (m18 r35.1).bind fun r37 =>
                      (m19 a1).bind fun r38 =>
                      (m13 r38.1).bind fun r39 =>
                      (m20 r38.1).bind fun r40 =>
                      bif (r36.2.1 == r37.2.1) then
                        bif (!r36.2.1) then
                          bif (r39.2.1 == r40.2.1) then
                            bif (!r39.2.1) then
                              some (true, ())
                            else
                              (m12 r39.1).bind fun r41 =>
                              some ((List.beq r41.1 r38.1), ())
                          else
                            some (false, ())
                        else
                          (m6 r36.1).bind fun r42 =>
                          bif (List.beq r42.1 r35.1) then
                            bif (r39.2.1 == r40.2.1) then
                              bif (!r39.2.1) then
                                some (true, ())
                              else
                                (m12 r39.1).bind fun r43 =>
                                some ((List.beq r43.1 r38.1), ())
                            else
                              some (false, ())
                          else
                            some (false, ())
                      else
                        some (false, ())
                else
                  (m17 a1).bind fun r44 =>
                  (m7 r44.1).bind fun r45 =>
                  (m18 r44.1).bind fun r46 =>
                  (m19 a1).bind fun r47 =>
                  (m13 r47.1).bind fun r48 =>
                  (m20 r47.1).bind fun r49 =>
                  bif (r45.2.1 == r46.2.1) then
                    bif (!r45.2.1) then
                      bif (r48.2.1 == r49.2.1) then
                        bif (!r48.2.1) then
                          some (true, ())
                        else
                          (m12 r48.1).bind fun r50 =>
                          some ((List.beq r50.1 r47.1), ())
                      else
                        some (false, ())
                    else
                      (m6 r45.1).bind fun r51 =>
                      bif (List.beq r51.1 r44.1) then
                        bif (r48.2.1 == r49.2.1) then
                          bif (!r48.2.1) then
                            some (true, ())
                          else
                            (m12 r48.1).bind fun r52 =>
                            some ((List.beq r52.1 r47.1), ())
                        else
                          some (false, ())
                      else
                        some (false, ())
                  else
                    some (false, ())
      else
        (m15 r5.1).bind fun r53 =>
        bif (!(r7.2.1 == r53.1)) then
          some (false, ())
        else
          bif r7.2.1 then
            bif (!(eqD (.pair (.int .i64) (.pair (.int .i64) (.pair (.int .i64) .unit))) r7.1 r5.1)) then
              some (false, ())
            else
              (m16 r8.1).bind fun r54 =>
              bif (!(r10.2.1 == r54.1)) then
                some (false, ())
              else
                bif r10.2.1 then
                  (m12 r10.1).bind fun r55 =>
                  bif (!(List.beq r55.1 r9.1)) then
                    some (false, ())
                  else
                    bif (((List.length r10.1.2.1 : Int)) != ((List.length r8.1.2.1 : Int))) then
                      some (false, ())
                    else
                      (m17 a1).bind fun r56 =>
                      (m7 r56.1).bind fun r57 =>
                      (m18 r56.1).bind fun r58 =>
                      (m19 a1).bind fun r59 =>
                      (m13 r59.1).bind fun r60 =>
                      (m20 r59.1).bind fun r61 =>
                      bif (r57.2.1 == r58.2.1) then
                        bif (!r57.2.1) then
                          bif (r60.2.1 == r61.2.1) then
                            bif (!r60.2.1) then
                              some (true, ())
                            else
                              (m12 r60.1).bind fun r62 =>
                              some ((List.beq r62.1 r59.1), ())
                          else
                            some (false, ())
                        else
                          (m6 r57.1).bind fun r63 =>
                          bif (List.beq r63.1 r56.1) then
                            bif (r60.2.1 == r61.2.1) then
                              bif (!r60.2.1) then
                                some (true, ())
                              else
                                (m12 r60.1).bind fun r64 =>
                                some ((List.beq r64.1 r59.1), ())
                            else
                              some (false, ())
                          else
                            some (false, ())
                      else
                        some (false, ())
                else
                  (m17 a1).bind fun r65 =>
                  (m7 r65.1).bind fun r66 =>
                  (m18 r65.1).bind fun r67 =>
                  (m19 a1).bind fun r68 =>
                  (m13 r68.1).bind fun r69 =>
                  (m20 r68.1).bind fun r70 =>
                  bif (r66.2.1 == r67.2.1) then
                    bif (!r66.2.1) then
                      bif (r69.2.1 == r70.2.1) then
                        bif (!r69.2.1) then
                          some (true, ())
                        else
                          (m12 r69.1).bind fun r71 =>
                          some ((List.beq r71.1 r68.1), ())
                      else
                        some (false, ())
                    else
                      (m6 r66.1).bind fun r72 =>
                      bif (List.beq r72.1 r65.1) then
                        bif (r69.2.1 == r70.2.1) then
                          bif (!r69.2.1) then
                            some (true, ())
                          else
                            (m12 r69.1).bind fun r73 =>
                            some ((List.beq r73.1 r68.1), ())
                        else
                          some (false, ())
                      else
                        some (false, ())
                  else
                    some (false, ())
          else
            (m16 r8.1).bind fun r74 =>
            bif (!(r10.2.1 == r74.1)) then
              some (false, ())
            else
              bif r10.2.1 then
                (m12 r10.1).bind fun r75 =>
                bif (!(List.beq r75.1 r9.1)) then
                  some (false, ())
                else
                  bif (((List.length r10.1.2.1 : Int)) != ((List.length r8.1.2.1 : Int))) then
                    some (false, ())
                  else
                    (m17 a1).bind fun r76 =>
                    (m7 r76.1).bind fun r77 =>
                    (m18 r76.1).bind fun r78 =>
                    (m19 a1).bind fun r79 =>
                    (m13 r79.1).bind fun r80 =>
                    (m20 r79.1).bind fun r81 =>
                    bif (r77.2.1 == r78.2.1) then
                      bif (!r77.2.1) then
                        bif (r80.2.1 == r81.2.1) then
                          bif (!r80.2.1) then
                            some (true, ())
                          else
                            (m12 r80.1).bind fun r82 =>
                            some ((List.beq r82.1 r79.1), ())
                        else
                          some (false, ())
                      else
                        (m6 r77.1).bind fun r83 =>
                        bif (List.beq r83.1 r76.1) then
                          bif (r80.2.1 == r81.2.1) then
                            bif (!r80.2.1) then
                              some (true, ())
                            else
                              (m12 r80.1).bind fun r84 =>
                              some ((List.beq r84.1 r79.1), ())
                          else
                            some (false, ())
                        else
                          some (false, ())
                    else
                      some (false, ())
              else
                (m17 a1).bind fun r85 =>
                (m7 r85.1).bind fun r86 =>
                (m18 r85.1).bind fun r87 =>
                (m19 a1).bind fun r88 =>
                (m13 r88.1).bind fun r89 =>
                (m20 r88.1).bind fun r90 =>
                bif (r86.2.1 == r87.2.1) then
                  bif (!r86.2.1) then
                    bif (r89.2.1 == r90.2.1) then
                      bif (!r89.2.1) then
                        some (true, ())
                      else
                        (m12 r89.1).bind fun r91 =>
                        some ((List.beq r91.1 r88.1), ())
                    else
                      some (false, ())
                  else
                    (m6 r86.1).bind fun r92 =>
                    bif (List.beq r92.1 r85.1) then
                      bif (r89.2.1 == r90.2.1) then
                        bif (!r89.2.1) then
                          some (true, ())
                        else
                          (m12 r89.1).bind fun r93 =>
                          some ((List.beq r93.1 r88.1), ())
                      else
                        some (false, ())
                    else
                      some (false, ())
                else
                  some (false, ())
theorem m3_eq (a1 : (List Int)) : run cx_m3 c_m3 [.tmp 2] false [.bor (.slice (.int .u8))] [(.bool, .own)] [] [⟨(.slice (.int .u8)), a1⟩] = m3 a1 := by kernel_rfl
noncomputable def ct_m3 : Ct := ⟨[.bor (.slice (.int .u8))], [(.bool, .own)], [], M1 (.slice (.int .u8)) m3, false⟩
theorem h_m3 : Holds Tryz.prog kn.G 3 ct_m3 :=
  Holds.of_run (kn := kn) (env := env_m3) (kp := [0, 2, 3, 4, 5, 6, 7, 8, 9, 10, 11, 12, 13, 14, 15, 16, 17, 19, 20, 21, 22, 24, 26, 103]) Tryz.func3 (c := c_m3) (by kernel_rfl) tab_ok (EnvL.cons h_m4 e_m4 (EnvL.cons h_m5 e_m5 (EnvL.cons h_m6 e_m6 (EnvL.cons h_m7 e_m7 (EnvL.cons h_m8 e_m8 (EnvL.cons h_m9 e_m9 (EnvL.cons h_m10 e_m10 (EnvL.cons h_m11 e_m11 (EnvL.cons h_m12 e_m12 (EnvL.cons h_m13 e_m13 (EnvL.cons h_m14 e_m14 (EnvL.cons h_m15 e_m15 (EnvL.cons h_m16 e_m16 (EnvL.cons h_m17 e_m17 (EnvL.cons h_m18 e_m18 (EnvL.cons h_m19 e_m19 (EnvL.cons h_m20 e_m20 EnvL.nil))))))))))))))))) (ct := ct_m3) (n := 156) (by kernel_rfl) (by kernel_rfl) (rv := [.tmp 2]) (by kernel_rfl) (M1_ok (r := run cx_m3 c_m3 [.tmp 2] false [.bor (.slice (.int .u8))] [(.bool, .own)] []) m3_eq)
theorem e_m3 : Eng.Enters Tryz.prog 3 := Eng.Enters.of Tryz.func3 (c := c_m3) (by kernel_rfl) (by kernel_rfl)

end
end Go.Proofs.YtfihmdlpikfbbaaGreatDoor
end
