/- Part 12 of 20 of a claim; what is proved, and under which conditions, stands in the last part. Here: Zm01. -/
import Derived.Test.YtfihmdlpikfbbaaGreatDoorM11
set_option linter.unusedVariables false
set_option linter.unusedSimpArgs false
set_option linter.unusedSectionVars false
section
/- Models of functions, and that they are what the functions do: laws.big, spec.l1New, spec.l1Byte, spec.l1Below, spec.l1PickInt, spec.l15Celled, spec.l1Once, spec.l15Op, spec.DrawOpOk, spec.DrawShowOp, impl.within, impl.OpOk, impl.OpWord, impl.Dec, impl.decs, impl.ShowOp. -/
namespace Go.Proofs.YtfihmdlpikfbbaaGreatDoor
open Go Go.Eng
set_option maxRecDepth 100000
set_option maxHeartbeats 400000
noncomputable section

/- loop.example/g01538/laws.big -/
noncomputable def env_m4 : List (Nat × Nat × Ct) := []
noncomputable def cx_m4 : Cx := mkCx kn env_m4 [0, 2] 6
noncomputable def c_m4 : Code := codeOf Tryz.f4
noncomputable def m4 (a1 : (List Int)) : Option (Bool × Unit) :=
  some ((decide (((List.length a1 : Int)) > 1048576)), ())
theorem m4_eq (a1 : (List Int)) : run cx_m4 c_m4 [.tmp 2] false [.bor (.slice (.int .u8))] [(.bool, .own)] [] [⟨(.slice (.int .u8)), a1⟩] = m4 a1 := by kernel_rfl
noncomputable def ct_m4 : Ct := ⟨[.bor (.slice (.int .u8))], [(.bool, .own)], [], M1 (.slice (.int .u8)) m4, false⟩
theorem h_m4 : Holds Tryz.prog kn.G 4 ct_m4 :=
  Holds.of_run (kn := kn) (env := env_m4) (kp := [0, 2]) Tryz.func4 (c := c_m4) (by kernel_rfl) tab_ok EnvL.nil (ct := ct_m4) (n := 6) (by kernel_rfl) (by kernel_rfl) (rv := [.tmp 2]) (by kernel_rfl) (M1_ok (r := run cx_m4 c_m4 [.tmp 2] false [.bor (.slice (.int .u8))] [(.bool, .own)] []) m4_eq)
theorem e_m4 : Eng.Enters Tryz.prog 4 := Eng.Enters.of Tryz.func4 (c := c_m4) (by kernel_rfl) (by kernel_rfl)

/- loop.example/g01538/spec.l1New -/
noncomputable def env_m28 : List (Nat × Nat × Ct) := []
noncomputable def cx_m28 : Cx := mkCx kn env_m28 [0, 2, 3, 4, 15] 32
noncomputable def c_m28 : Code := codeOf Tryz.f28
noncomputable def m28_1_st (p1 : (List Int)) (d : Int × Int) : St :=
  ⟨[(0, .val (.slice (.int .u8)) (p1 : (List Int))), (2, .undef), (3, .val (.int .i64) (d.1 : Int)), (4, .val (.int .i64) (d.2 : Int))], []⟩
noncomputable def m28_1_x1 (p1 : (List Int)) (x1 : Int) (x2 : Int) (x3 : Bool) : St :=
  ⟨[(0, .val (.slice (.int .u8)) (p1 : (List Int))), (2, .undef), (3, .val (.int .i64) (x1 : Int)), (4, .val (.int .i64) (x2 : Int)), (15, .val .bool (x3 : Bool))], []⟩
noncomputable def m28_1_x2 (p1 : (List Int)) (x1 : Int) (x2 : Int) : St :=
  ⟨[(0, .val (.slice (.int .u8)) (p1 : (List Int))), (2, .undef), (3, .val (.int .i64) (x1 : Int)), (4, .val (.int .i64) (x2 : Int)), (15, .val .bool (false : Bool))], []⟩
noncomputable def m28_1_body {T : Type} (p1 : (List Int)) (X1 : Int → Int → Bool → Option T) (X2 : Int → Int → Option T) (K : Int × Int → Option T) (d : Int × Int) : Option T :=
  bif (decide (d.2 < ((List.length p1 : Int)))) then
    bif (decide (d.2 < 4000)) then
      bif ((decide (0 ≤ d.2)) && (decide (d.2 < ((List.length p1 : Int))))) then
        K ((bitAnd .i64 (IntKind.wrap .i64 ((IntKind.wrap .i64 ((IntKind.wrap .i64 (d.1 * 131)) + (IntKind.wrap .i64 (List.getD p1 (Int.toNat d.2) 0)))) + 7)) 1073741823), (IntKind.wrap .i64 (d.2 + 1)))
      else
        none
    else
      X1 d.1 d.2 (decide (d.2 < 4000))
  else
    X2 d.1 d.2
theorem m28_1_body_eq {R : Type} (p1 : (List Int)) (kk : Ex → St → Option R) (d0 d : Int × Int) (K : St → Option R) : execL cx_m28 (loopH cx_m28) (codeAt c_m28 [1, 1, 0, 1, 0, 0]) (m28_1_st p1 d) (bodyK (restr (m28_1_st p1 d0)) K kk) = m28_1_body p1 (fun x1 x2 x3 => kk (.exit 0) (m28_1_x1 p1 x1 x2 x3)) (fun x1 x2 => kk (.exit 0) (m28_1_x2 p1 x1 x2)) (fun d => K (m28_1_st p1 d)) d := by kernel_rfl
noncomputable def m28_1_p1 (p1 : (List Int)) (x1 : Int) (x2 : Int) (x3 : Bool) : Option (((List Int) × (Int × (Int × Unit))) × Unit) :=
  some ((p1, 0, x1, ()), ())
theorem m28_1_p1_eq (L : Code → St → (Ex → St → Option (Tup ([((.pair (.slice (.int .u8)) (.pair (.int .i64) (.pair (.int .i64) .unit))), (.pair .shr .own))] ++ []))) → Option (Tup ([((.pair (.slice (.int .u8)) (.pair (.int .i64) (.pair (.int .i64) .unit))), (.pair .shr .own))] ++ []))) (p1 : (List Int)) (x1 : Int) (x2 : Int) (x3 : Bool) : ctxL cx_m28 L c_m28 [1, 1, 0, 1, 0] (finK cx_m28 [.tmp 2] true [] [((.pair (.slice (.int .u8)) (.pair (.int .i64) (.pair (.int .i64) .unit))), (.pair .shr .own))] []) (.exit 0) (m28_1_x1 p1 x1 x2 x3) = m28_1_p1 p1 x1 x2 x3 := by kernel_rfl
noncomputable def m28_1_p2 (p1 : (List Int)) (x1 : Int) (x2 : Int) : Option (((List Int) × (Int × (Int × Unit))) × Unit) :=
  some ((p1, 0, x1, ()), ())
theorem m28_1_p2_eq (L : Code → St → (Ex → St → Option (Tup ([((.pair (.slice (.int .u8)) (.pair (.int .i64) (.pair (.int .i64) .unit))), (.pair .shr .own))] ++ []))) → Option (Tup ([((.pair (.slice (.int .u8)) (.pair (.int .i64) (.pair (.int .i64) .unit))), (.pair .shr .own))] ++ []))) (p1 : (List Int)) (x1 : Int) (x2 : Int) : ctxL cx_m28 L c_m28 [1, 1, 0, 1, 0] (finK cx_m28 [.tmp 2] true [] [((.pair (.slice (.int .u8)) (.pair (.int .i64) (.pair (.int .i64) .unit))), (.pair .shr .own))] []) (.exit 0) (m28_1_x2 p1 x1 x2) = m28_1_p2 p1 x1 x2 := by kernel_rfl
noncomputable def m28_1 (p1 : (List Int)) : Nat → Int × Int → Option (((List Int) × (Int × (Int × Unit))) × Unit) :=
  loopM (m28_1_body p1 (fun x1 x2 x3 => m28_1_p1 p1 x1 x2 x3) (fun x1 x2 => m28_1_p2 p1 x1 x2))
theorem m28_1_eq (p1 : (List Int)) (d : Int × Int) : loopH cx_m28 (codeAt c_m28 [1, 1, 0, 1, 0, 0]) (m28_1_st p1 d) (ctxL cx_m28 (loopH cx_m28) c_m28 [1, 1, 0, 1, 0] (finK cx_m28 [.tmp 2] true [] [((.pair (.slice (.int .u8)) (.pair (.int .i64) (.pair (.int .i64) .unit))), (.pair .shr .own))] [])) = m28_1 p1 fuel d := by
  refine (loop_eq (m28_1_st p1) (m28_1_body p1 (fun x1 x2 x3 => ctxL cx_m28 (loopH cx_m28) c_m28 [1, 1, 0, 1, 0] (finK cx_m28 [.tmp 2] true [] [((.pair (.slice (.int .u8)) (.pair (.int .i64) (.pair (.int .i64) .unit))), (.pair .shr .own))] []) (.exit 0) (m28_1_x1 p1 x1 x2 x3)) (fun x1 x2 => ctxL cx_m28 (loopH cx_m28) c_m28 [1, 1, 0, 1, 0] (finK cx_m28 [.tmp 2] true [] [((.pair (.slice (.int .u8)) (.pair (.int .i64) (.pair (.int .i64) .unit))), (.pair .shr .own))] []) (.exit 0) (m28_1_x2 p1 x1 x2))) d (fun K d2 => m28_1_body_eq p1 _ d d2 K)).trans ?_
  unfold m28_1
  simp only [m28_1_p1_eq, m28_1_p2_eq]
noncomputable def m28_pre (F1 : (List Int) → (Int × Int) → Option (((List Int) × (Int × (Int × Unit))) × Unit)) (a1 : (List Int)) : Option (((List Int) × (Int × (Int × Unit))) × Unit) :=
  F1 a1 ((IntKind.wrap .i64 (10101 + ((List.length a1 : Int)))), 0)
theorem m28_pre_eq (L : Code → St → (Ex → St → Option (Tup ([((.pair (.slice (.int .u8)) (.pair (.int .i64) (.pair (.int .i64) .unit))), (.pair .shr .own))] ++ []))) → Option (Tup ([((.pair (.slice (.int .u8)) (.pair (.int .i64) (.pair (.int .i64) .unit))), (.pair .shr .own))] ++ []))) (a1 : (List Int)) : runL (rs := [((.pair (.slice (.int .u8)) (.pair (.int .i64) (.pair (.int .i64) .unit))), (.pair .shr .own))]) (os := []) cx_m28 L c_m28 [.tmp 2] true [.bor (.slice (.int .u8))] [⟨(.slice (.int .u8)), a1⟩] = m28_pre (fun p1 d => L (codeAt c_m28 [1, 1, 0, 1, 0, 0]) (m28_1_st p1 d) (ctxL cx_m28 L c_m28 [1, 1, 0, 1, 0] (finK cx_m28 [.tmp 2] true [] [((.pair (.slice (.int .u8)) (.pair (.int .i64) (.pair (.int .i64) .unit))), (.pair .shr .own))] []))) a1 := by kernel_rfl
noncomputable def m28 (a1 : (List Int)) : Option (((List Int) × (Int × (Int × Unit))) × Unit) := m28_pre (fun p1 d => m28_1 p1 fuel d) a1
theorem m28_eq (a1 : (List Int)) : run cx_m28 c_m28 [.tmp 2] true [.bor (.slice (.int .u8))] [((.pair (.slice (.int .u8)) (.pair (.int .i64) (.pair (.int .i64) .unit))), (.pair .shr .own))] [] [⟨(.slice (.int .u8)), a1⟩] = m28 a1 := by
  rw [run_L, m28_pre_eq]
  unfold m28
  simp only [m28_1_eq]
noncomputable def ct_m28 : Ct := ⟨[.bor (.slice (.int .u8))], [((.pair (.slice (.int .u8)) (.pair (.int .i64) (.pair (.int .i64) .unit))), (.pair .shr .own))], [], M1 (.slice (.int .u8)) m28, true⟩
theorem h_m28 : Holds Tryz.prog kn.G 28 ct_m28 :=
  Holds.of_run (kn := kn) (env := env_m28) (kp := [0, 2, 3, 4, 15]) Tryz.func28 (c := c_m28) (by kernel_rfl) tab_ok EnvL.nil (ct := ct_m28) (n := 32) (by kernel_rfl) (by kernel_rfl) (rv := [.tmp 2]) (by kernel_rfl) (M1_ok (r := run cx_m28 c_m28 [.tmp 2] true [.bor (.slice (.int .u8))] [((.pair (.slice (.int .u8)) (.pair (.int .i64) (.pair (.int .i64) .unit))), (.pair .shr .own))] []) m28_eq)
theorem e_m28 : Eng.Enters Tryz.prog 28 := Eng.Enters.of Tryz.func28 (c := c_m28) (by kernel_rfl) (by kernel_rfl)

/- loop.example/g01538/spec.l1Byte -/
noncomputable def env_m61 : List (Nat × Nat × Ct) := []
noncomputable def cx_m61 : Cx := mkCx kn env_m61 [0, 2, 3, 34] 58
noncomputable def c_m61 : Code := codeOf Tryz.f61
noncomputable def m61 (a1 : ((List Int) × (Int × (Int × Unit)))) : Option (Int × ((List Int) × (Int × (Int × Unit))) × Unit) :=
  bif (decide (a1.2.1 < ((List.length a1.1 : Int)))) then
    bif ((decide (0 ≤ a1.2.1)) && (decide (a1.2.1 < ((List.length a1.1 : Int))))) then
      some ((bitAnd .i64 (IntKind.wrap .i64 ((bitAnd .i64 (bitXor .i64 (Int.fdiv (IntKind.wrap .i64 ((IntKind.wrap .i64 (a1.2.2.1 * 6364136223846793005)) + 1442695040888963407)) (2 ^ (min (Int.toNat 33) (IntKind.bits .i64)))) (Int.fdiv (IntKind.wrap .i64 ((IntKind.wrap .i64 (a1.2.2.1 * 6364136223846793005)) + 1442695040888963407)) (2 ^ (min (Int.toNat 45) (IntKind.bits .i64))))) 255) + (IntKind.wrap .i64 (List.getD a1.1 (Int.toNat a1.2.1) 0)))) 255), (a1.1, (IntKind.wrap .i64 (a1.2.1 + 1)), (IntKind.wrap .i64 ((IntKind.wrap .i64 (a1.2.2.1 * 6364136223846793005)) + 1442695040888963407)), a1.2.2.2), ())
    else
      none
  else
    some ((bitAnd .i64 (bitXor .i64 (Int.fdiv (IntKind.wrap .i64 ((IntKind.wrap .i64 (a1.2.2.1 * 6364136223846793005)) + 1442695040888963407)) (2 ^ (min (Int.toNat 33) (IntKind.bits .i64)))) (Int.fdiv (IntKind.wrap .i64 ((IntKind.wrap .i64 (a1.2.2.1 * 6364136223846793005)) + 1442695040888963407)) (2 ^ (min (Int.toNat 45) (IntKind.bits .i64))))) 255), (a1.1, a1.2.1, (IntKind.wrap .i64 ((IntKind.wrap .i64 (a1.2.2.1 * 6364136223846793005)) + 1442695040888963407)), a1.2.2.2), ())
theorem m61_eq (a1 : ((List Int) × (Int × (Int × Unit)))) : run cx_m61 c_m61 [.tmp 2] false [.ptr (.pair (.slice (.int .u8)) (.pair (.int .i64) (.pair (.int .i64) .unit))) (.pair .shr .own)] [((.int .i64), .own)] [((.pair (.slice (.int .u8)) (.pair (.int .i64) (.pair (.int .i64) .unit))), (.pair .shr .own))] [⟨(.pair (.slice (.int .u8)) (.pair (.int .i64) (.pair (.int .i64) .unit))), a1⟩] = m61 a1 := by kernel_rfl
noncomputable def ct_m61 : Ct := ⟨[.ptr (.pair (.slice (.int .u8)) (.pair (.int .i64) (.pair (.int .i64) .unit))) (.pair .shr .own)], [((.int .i64), .own)], [((.pair (.slice (.int .u8)) (.pair (.int .i64) (.pair (.int .i64) .unit))), (.pair .shr .own))], M1 (.pair (.slice (.int .u8)) (.pair (.int .i64) (.pair (.int .i64) .unit))) m61, false⟩
theorem h_m61 : Holds Tryz.prog kn.G 61 ct_m61 :=
  Holds.of_run (kn := kn) (env := env_m61) (kp := [0, 2, 3, 34]) Tryz.func61 (c := c_m61) (by kernel_rfl) tab_ok EnvL.nil (ct := ct_m61) (n := 58) (by kernel_rfl) (by kernel_rfl) (rv := [.tmp 2]) (by kernel_rfl) (M1_ok (r := run cx_m61 c_m61 [.tmp 2] false [.ptr (.pair (.slice (.int .u8)) (.pair (.int .i64) (.pair (.int .i64) .unit))) (.pair .shr .own)] [((.int .i64), .own)] [((.pair (.slice (.int .u8)) (.pair (.int .i64) (.pair (.int .i64) .unit))), (.pair .shr .own))]) m61_eq)
theorem e_m61 : Eng.Enters Tryz.prog 61 := Eng.Enters.of Tryz.func61 (c := c_m61) (by kernel_rfl) (by kernel_rfl)

/- loop.example/g01538/spec.l1Below -/
noncomputable def env_m39 : List (Nat × Nat × Ct) := [(61, 0, ct_m61)]
noncomputable def cx_m39 : Cx := mkCx kn env_m39 [0, 1, 4, 5, 6, 7, 8, 10, 12] 37
noncomputable def c_m39 : Code := codeOf Tryz.f39
noncomputable def m39 (a1 : ((List Int) × (Int × (Int × Unit)))) (a2 : Int) : Option (Int × ((List Int) × (Int × (Int × Unit))) × Unit) :=
  bif (decide (a2 ≤ 0)) then
    some (0, a1, ())
  else
    bif (decide (a2 ≤ 256)) then
      (m61 a1).bind fun r1 =>
      bif (decide (a2 ≠ 0)) then
        some ((Int.tmod r1.1 a2), r1.2.1, ())
      else
        none
    else
      (m61 a1).bind fun r2 =>
      (m61 r2.2.1).bind fun r3 =>
      (m61 r3.2.1).bind fun r4 =>
      (m61 r4.2.1).bind fun r5 =>
      bif (decide (a2 ≠ 0)) then
        some ((Int.tmod (IntKind.wrap .i64 ((IntKind.wrap .i64 ((IntKind.wrap .i64 ((IntKind.wrap .i64 (r2.1 * 16777216)) + (IntKind.wrap .i64 (r3.1 * 65536)))) + (IntKind.wrap .i64 (r4.1 * 256)))) + r5.1)) a2), r5.2.1, ())
      else
        none
theorem m39_eq (a1 : ((List Int) × (Int × (Int × Unit)))) (a2 : Int) : run cx_m39 c_m39 [.tmp 4] false [.ptr (.pair (.slice (.int .u8)) (.pair (.int .i64) (.pair (.int .i64) .unit))) (.pair .shr .own), .bor (.int .i64)] [((.int .i64), .own)] [((.pair (.slice (.int .u8)) (.pair (.int .i64) (.pair (.int .i64) .unit))), (.pair .shr .own))] [⟨(.pair (.slice (.int .u8)) (.pair (.int .i64) (.pair (.int .i64) .unit))), a1⟩, ⟨(.int .i64), a2⟩] = m39 a1 a2 := by kernel_rfl
noncomputable def ct_m39 : Ct := ⟨[.ptr (.pair (.slice (.int .u8)) (.pair (.int .i64) (.pair (.int .i64) .unit))) (.pair .shr .own), .bor (.int .i64)], [((.int .i64), .own)], [((.pair (.slice (.int .u8)) (.pair (.int .i64) (.pair (.int .i64) .unit))), (.pair .shr .own))], M2 (.pair (.slice (.int .u8)) (.pair (.int .i64) (.pair (.int .i64) .unit))) (.int .i64) m39, false⟩
theorem h_m39 : Holds Tryz.prog kn.G 39 ct_m39 :=
  Holds.of_run (kn := kn) (env := env_m39) (kp := [0, 1, 4, 5, 6, 7, 8, 10, 12]) Tryz.func39 (c := c_m39) (by kernel_rfl) tab_ok (EnvL.cons h_m61 e_m61 EnvL.nil) (ct := ct_m39) (n := 37) (by kernel_rfl) (by kernel_rfl) (rv := [.tmp 4]) (by kernel_rfl) (M2_ok (r := run cx_m39 c_m39 [.tmp 4] false [.ptr (.pair (.slice (.int .u8)) (.pair (.int .i64) (.pair (.int .i64) .unit))) (.pair .shr .own), .bor (.int .i64)] [((.int .i64), .own)] [((.pair (.slice (.int .u8)) (.pair (.int .i64) (.pair (.int .i64) .unit))), (.pair .shr .own))]) m39_eq)
theorem e_m39 : Eng.Enters Tryz.prog 39 := Eng.Enters.of Tryz.func39 (c := c_m39) (by kernel_rfl) (by kernel_rfl)

/- loop.example/g01538/spec.l1PickInt -/
noncomputable def env_m48 : List (Nat × Nat × Ct) := [(39, 0, ct_m39)]
noncomputable def cx_m48 : Cx := mkCx kn env_m48 [0, 1, 4] 12
noncomputable def c_m48 : Code := codeOf Tryz.f48
noncomputable def m48 (a1 : ((List Int) × (Int × (Int × Unit)))) (a2 : (List Int)) : Option (Int × ((List Int) × (Int × (Int × Unit))) × Unit) :=
  (m39 a1 ((List.length a2 : Int))).bind fun r1 =>
  bif ((decide (0 ≤ r1.1)) && (decide (r1.1 < ((List.length a2 : Int))))) then
    some ((List.getD a2 (Int.toNat r1.1) 0), r1.2.1, ())
  else
    none
theorem m48_eq (a1 : ((List Int) × (Int × (Int × Unit)))) (a2 : (List Int)) : run cx_m48 c_m48 [.tmp 4] false [.ptr (.pair (.slice (.int .u8)) (.pair (.int .i64) (.pair (.int .i64) .unit))) (.pair .shr .own), .own (.slice (.int .i64)) .own] [((.int .i64), .own)] [((.pair (.slice (.int .u8)) (.pair (.int .i64) (.pair (.int .i64) .unit))), (.pair .shr .own))] [⟨(.pair (.slice (.int .u8)) (.pair (.int .i64) (.pair (.int .i64) .unit))), a1⟩, ⟨(.slice (.int .i64)), a2⟩] = m48 a1 a2 := by kernel_rfl
noncomputable def ct_m48 : Ct := ⟨[.ptr (.pair (.slice (.int .u8)) (.pair (.int .i64) (.pair (.int .i64) .unit))) (.pair .shr .own), .own (.slice (.int .i64)) .own], [((.int .i64), .own)], [((.pair (.slice (.int .u8)) (.pair (.int .i64) (.pair (.int .i64) .unit))), (.pair .shr .own))], M2 (.pair (.slice (.int .u8)) (.pair (.int .i64) (.pair (.int .i64) .unit))) (.slice (.int .i64)) m48, false⟩
theorem h_m48 : Holds Tryz.prog kn.G 48 ct_m48 :=
  Holds.of_run (kn := kn) (env := env_m48) (kp := [0, 1, 4]) Tryz.func48 (c := c_m48) (by kernel_rfl) tab_ok (EnvL.cons h_m39 e_m39 EnvL.nil) (ct := ct_m48) (n := 12) (by kernel_rfl) (by kernel_rfl) (rv := [.tmp 4]) (by kernel_rfl) (M2_ok (r := run cx_m48 c_m48 [.tmp 4] false [.ptr (.pair (.slice (.int .u8)) (.pair (.int .i64) (.pair (.int .i64) .unit))) (.pair .shr .own), .own (.slice (.int .i64)) .own] [((.int .i64), .own)] [((.pair (.slice (.int .u8)) (.pair (.int .i64) (.pair (.int .i64) .unit))), (.pair .shr .own))]) m48_eq)
theorem e_m48 : Eng.Enters Tryz.prog 48 := Eng.Enters.of Tryz.func48 (c := c_m48) (by kernel_rfl) (by kernel_rfl)

/- loop.example/g01538/spec.l15Celled -/
noncomputable def env_m36 : List (Nat × Nat × Ct) := []
noncomputable def cx_m36 : Cx := mkCx kn env_m36 [0, 2] 17
noncomputable def c_m36 : Code := codeOf Tryz.f36
noncomputable def m36 (a1 : Int) : Option (Bool × Unit) :=
  bif (a1 == 1) then
    some (true, ())
  else
    bif (a1 == 2) then
      some (true, ())
    else
      bif (a1 == 3) then
        some (true, ())
      else
        some ((a1 == 7), ())
theorem m36_eq (a1 : Int) : run cx_m36 c_m36 [.tmp 2] false [.bor (.int .i64)] [(.bool, .own)] [] [⟨(.int .i64), a1⟩] = m36 a1 := by kernel_rfl
noncomputable def ct_m36 : Ct := ⟨[.bor (.int .i64)], [(.bool, .own)], [], M1 (.int .i64) m36, false⟩
theorem h_m36 : Holds Tryz.prog kn.G 36 ct_m36 :=
  Holds.of_run (kn := kn) (env := env_m36) (kp := [0, 2]) Tryz.func36 (c := c_m36) (by kernel_rfl) tab_ok EnvL.nil (ct := ct_m36) (n := 17) (by kernel_rfl) (by kernel_rfl) (rv := [.tmp 2]) (by kernel_rfl) (M1_ok (r := run cx_m36 c_m36 [.tmp 2] false [.bor (.int .i64)] [(.bool, .own)] []) m36_eq)
theorem e_m36 : Eng.Enters Tryz.prog 36 := Eng.Enters.of Tryz.func36 (c := c_m36) (by kernel_rfl) (by kernel_rfl)

/- loop.example/g01538/spec.l1Once -/
noncomputable def env_m60 : List (Nat × Nat × Ct) := [(39, 0, ct_m39)]
noncomputable def cx_m60 : Cx := mkCx kn env_m60 [0, 1, 4] 9
noncomputable def c_m60 : Code := codeOf Tryz.f60
noncomputable def m60 (a1 : ((List Int) × (Int × (Int × Unit)))) (a2 : Int) : Option (Bool × ((List Int) × (Int × (Int × Unit))) × Unit) :=
  (m39 a1 a2).bind fun r1 =>
  some ((r1.1 == 0), r1.2.1, ())
theorem m60_eq (a1 : ((List Int) × (Int × (Int × Unit)))) (a2 : Int) : run cx_m60 c_m60 [.tmp 4] false [.ptr (.pair (.slice (.int .u8)) (.pair (.int .i64) (.pair (.int .i64) .unit))) (.pair .shr .own), .bor (.int .i64)] [(.bool, .own)] [((.pair (.slice (.int .u8)) (.pair (.int .i64) (.pair (.int .i64) .unit))), (.pair .shr .own))] [⟨(.pair (.slice (.int .u8)) (.pair (.int .i64) (.pair (.int .i64) .unit))), a1⟩, ⟨(.int .i64), a2⟩] = m60 a1 a2 := by kernel_rfl
noncomputable def ct_m60 : Ct := ⟨[.ptr (.pair (.slice (.int .u8)) (.pair (.int .i64) (.pair (.int .i64) .unit))) (.pair .shr .own), .bor (.int .i64)], [(.bool, .own)], [((.pair (.slice (.int .u8)) (.pair (.int .i64) (.pair (.int .i64) .unit))), (.pair .shr .own))], M2 (.pair (.slice (.int .u8)) (.pair (.int .i64) (.pair (.int .i64) .unit))) (.int .i64) m60, false⟩
theorem h_m60 : Holds Tryz.prog kn.G 60 ct_m60 :=
  Holds.of_run (kn := kn) (env := env_m60) (kp := [0, 1, 4]) Tryz.func60 (c := c_m60) (by kernel_rfl) tab_ok (EnvL.cons h_m39 e_m39 EnvL.nil) (ct := ct_m60) (n := 9) (by kernel_rfl) (by kernel_rfl) (rv := [.tmp 4]) (by kernel_rfl) (M2_ok (r := run cx_m60 c_m60 [.tmp 4] false [.ptr (.pair (.slice (.int .u8)) (.pair (.int .i64) (.pair (.int .i64) .unit))) (.pair .shr .own), .bor (.int .i64)] [(.bool, .own)] [((.pair (.slice (.int .u8)) (.pair (.int .i64) (.pair (.int .i64) .unit))), (.pair .shr .own))]) m60_eq)
theorem e_m60 : Eng.Enters Tryz.prog 60 := Eng.Enters.of Tryz.func60 (c := c_m60) (by kernel_rfl) (by kernel_rfl)

/- loop.example/g01538/spec.l15Op -/
noncomputable def env_m38 : List (Nat × Nat × Ct) := [(36, 0, ct_m36), (39, 0, ct_m39), (48, 0, ct_m48), (60, 0, ct_m60)]
noncomputable def cx_m38 : Cx := mkCx kn env_m38 [0, 2, 3, 10, 17, 23] 32
noncomputable def c_m38 : Code := codeOf Tryz.f38
noncomputable def m38 (a1 : ((List Int) × (Int × (Int × Unit)))) : Option ((Int × (Int × (Int × (Int × Unit)))) × ((List Int) × (Int × (Int × Unit))) × Unit) :=
  (m48 a1 [1, 1, 1, 2, 2, 3, 3, 4, 4, 5, 6, 7, 7]).bind fun r1 =>
  (m36 r1.1).bind fun r2 =>
  bif r2.1 then
    (m48 r1.2.1 [0, 0, 0, 1]).bind fun r3 =>
    bif (r1.1 == 1) then
      (m39 r3.2.1 40).bind fun r4 =>
      (m60 r4.2.1 12).bind fun r5 =>
      bif r5.1 then
        (m48 r5.2.1 [0, 41, 100]).bind fun r6 =>
        (m39 r6.2.1 60000).bind fun r7 =>
        some ((r1.1, r3.1, r6.1, r7.1, ()), r7.2.1, ())
      else
        (m39 r5.2.1 60000).bind fun r8 =>
        some ((r1.1, r3.1, (IntKind.wrap .i64 (1 + r4.1)), r8.1, ()), r8.2.1, ())
    else
      some ((r1.1, r3.1, 0, 0, ()), r3.2.1, ())
  else
    bif (r1.1 == 1) then
      (m39 r1.2.1 40).bind fun r9 =>
      (m60 r9.2.1 12).bind fun r10 =>
      bif r10.1 then
        (m48 r10.2.1 [0, 41, 100]).bind fun r11 =>
        (m39 r11.2.1 60000).bind fun r12 =>
        some ((r1.1, 0, r11.1, r12.1, ()), r12.2.1, ())
      else
        (m39 r10.2.1 60000).bind fun r13 =>
        some ((r1.1, 0, (IntKind.wrap .i64 (1 + r9.1)), r13.1, ()), r13.2.1, ())
    else
      some ((r1.1, 0, 0, 0, ()), r1.2.1, ())
theorem m38_eq (a1 : ((List Int) × (Int × (Int × Unit)))) : run cx_m38 c_m38 [.cell 2 25] false [.ptr (.pair (.slice (.int .u8)) (.pair (.int .i64) (.pair (.int .i64) .unit))) (.pair .shr .own)] [((.pair (.int .i64) (.pair (.int .i64) (.pair (.int .i64) (.pair (.int .i64) .unit)))), .own)] [((.pair (.slice (.int .u8)) (.pair (.int .i64) (.pair (.int .i64) .unit))), (.pair .shr .own))] [⟨(.pair (.slice (.int .u8)) (.pair (.int .i64) (.pair (.int .i64) .unit))), a1⟩] = m38 a1 := by kernel_rfl
noncomputable def ct_m38 : Ct := ⟨[.ptr (.pair (.slice (.int .u8)) (.pair (.int .i64) (.pair (.int .i64) .unit))) (.pair .shr .own)], [((.pair (.int .i64) (.pair (.int .i64) (.pair (.int .i64) (.pair (.int .i64) .unit)))), .own)], [((.pair (.slice (.int .u8)) (.pair (.int .i64) (.pair (.int .i64) .unit))), (.pair .shr .own))], M1 (.pair (.slice (.int .u8)) (.pair (.int .i64) (.pair (.int .i64) .unit))) m38, false⟩
theorem h_m38 : Holds Tryz.prog kn.G 38 ct_m38 :=
  Holds.of_run (kn := kn) (env := env_m38) (kp := [0, 2, 3, 10, 17, 23]) Tryz.func38 (c := c_m38) (by kernel_rfl) tab_ok (EnvL.cons h_m36 e_m36 (EnvL.cons h_m39 e_m39 (EnvL.cons h_m48 e_m48 (EnvL.cons h_m60 e_m60 EnvL.nil)))) (ct := ct_m38) (n := 32) (by kernel_rfl) (by kernel_rfl) (rv := [.cell 2 25]) (by kernel_rfl) (M1_ok (r := run cx_m38 c_m38 [.cell 2 25] false [.ptr (.pair (.slice (.int .u8)) (.pair (.int .i64) (.pair (.int .i64) .unit))) (.pair .shr .own)] [((.pair (.int .i64) (.pair (.int .i64) (.pair (.int .i64) (.pair (.int .i64) .unit)))), .own)] [((.pair (.slice (.int .u8)) (.pair (.int .i64) (.pair (.int .i64) .unit))), (.pair .shr .own))]) m38_eq)
theorem e_m38 : Eng.Enters Tryz.prog 38 := Eng.Enters.of Tryz.func38 (c := c_m38) (by kernel_rfl) (by kernel_rfl)

/- loop.example/g01538/spec.DrawOpOk -/
noncomputable def env_m21 : List (Nat × Nat × Ct) := [(28, 0, ct_m28), (38, 0, ct_m38), (39, 0, ct_m39), (48, 0, ct_m48)]
noncomputable def cx_m21 : Cx := mkCx kn env_m21 [0, 2, 3, 4, 10, 11, 17, 23, 29] 36
noncomputable def c_m21 : Code := codeOf Tryz.f21
noncomputable def m21 (a1 : (List Int)) : Option ((Int × (Int × (Int × (Int × Unit)))) × Unit) :=
  (m28 a1).bind fun r1 =>
  (m38 r1.1).bind fun r2 =>
  (m39 r2.2.1 8).bind fun r3 =>
  bif (r3.1 == 0) then
    (m39 r3.2.1 10).bind fun r4 =>
    some (((IntKind.wrap .i64 (r4.1 - 1)), r2.1.2), ())
  else
    bif (r3.1 == 1) then
      (m39 r3.2.1 4).bind fun r5 =>
      some ((r2.1.1, (IntKind.wrap .i64 (r5.1 - 1)), r2.1.2.2), ())
    else
      bif (r3.1 == 2) then
        (m48 r3.2.1 [(-1), 0, 100, 101, 5]).bind fun r6 =>
        some ((r2.1.1, r2.1.2.1, r6.1, r2.1.2.2.2), ())
      else
        bif (r3.1 == 3) then
          (m48 r3.2.1 [(-1), 65535, 65536, 3]).bind fun r7 =>
          some ((r2.1.1, r2.1.2.1, r2.1.2.2.1, r7.1, r2.1.2.2.2.2), ())
        else
          some (r2.1, ())
theorem m21_eq (a1 : (List Int)) : run cx_m21 c_m21 [.cell 2 25] false [.bor (.slice (.int .u8))] [((.pair (.int .i64) (.pair (.int .i64) (.pair (.int .i64) (.pair (.int .i64) .unit)))), .own)] [] [⟨(.slice (.int .u8)), a1⟩] = m21 a1 := by kernel_rfl
noncomputable def ct_m21 : Ct := ⟨[.bor (.slice (.int .u8))], [((.pair (.int .i64) (.pair (.int .i64) (.pair (.int .i64) (.pair (.int .i64) .unit)))), .own)], [], M1 (.slice (.int .u8)) m21, false⟩
theorem h_m21 : Holds Tryz.prog kn.G 21 ct_m21 :=
  Holds.of_run (kn := kn) (env := env_m21) (kp := [0, 2, 3, 4, 10, 11, 17, 23, 29]) Tryz.func21 (c := c_m21) (by kernel_rfl) tab_ok (EnvL.cons h_m28 e_m28 (EnvL.cons h_m38 e_m38 (EnvL.cons h_m39 e_m39 (EnvL.cons h_m48 e_m48 EnvL.nil)))) (ct := ct_m21) (n := 36) (by kernel_rfl) (by kernel_rfl) (rv := [.cell 2 25]) (by kernel_rfl) (M1_ok (r := run cx_m21 c_m21 [.cell 2 25] false [.bor (.slice (.int .u8))] [((.pair (.int .i64) (.pair (.int .i64) (.pair (.int .i64) (.pair (.int .i64) .unit)))), .own)] []) m21_eq)
theorem e_m21 : Eng.Enters Tryz.prog 21 := Eng.Enters.of Tryz.func21 (c := c_m21) (by kernel_rfl) (by kernel_rfl)

/- loop.example/g01538/spec.DrawShowOp -/
noncomputable def env_m5 : List (Nat × Nat × Ct) := [(21, 0, ct_m21)]
noncomputable def cx_m5 : Cx := mkCx kn env_m5 [0, 2] 5
noncomputable def c_m5 : Code := codeOf Tryz.f5
noncomputable def m5 (a1 : (List Int)) : Option ((Int × (Int × (Int × (Int × Unit)))) × Unit) :=
  (m21 a1).bind fun r1 =>
  some (r1.1, ())
theorem m5_eq (a1 : (List Int)) : run cx_m5 c_m5 [.cell 2 25] false [.bor (.slice (.int .u8))] [((.pair (.int .i64) (.pair (.int .i64) (.pair (.int .i64) (.pair (.int .i64) .unit)))), .own)] [] [⟨(.slice (.int .u8)), a1⟩] = m5 a1 := by kernel_rfl
noncomputable def ct_m5 : Ct := ⟨[.bor (.slice (.int .u8))], [((.pair (.int .i64) (.pair (.int .i64) (.pair (.int .i64) (.pair (.int .i64) .unit)))), .own)], [], M1 (.slice (.int .u8)) m5, false⟩
theorem h_m5 : Holds Tryz.prog kn.G 5 ct_m5 :=
  Holds.of_run (kn := kn) (env := env_m5) (kp := [0, 2]) Tryz.func5 (c := c_m5) (by kernel_rfl) tab_ok (EnvL.cons h_m21 e_m21 EnvL.nil) (ct := ct_m5) (n := 5) (by kernel_rfl) (by kernel_rfl) (rv := [.cell 2 25]) (by kernel_rfl) (M1_ok (r := run cx_m5 c_m5 [.cell 2 25] false [.bor (.slice (.int .u8))] [((.pair (.int .i64) (.pair (.int .i64) (.pair (.int .i64) (.pair (.int .i64) .unit)))), .own)] []) m5_eq)
theorem e_m5 : Eng.Enters Tryz.prog 5 := Eng.Enters.of Tryz.func5 (c := c_m5) (by kernel_rfl) (by kernel_rfl)

/- loop.example/g01538/impl.within -/
noncomputable def env_m49 : List (Nat × Nat × Ct) := []
noncomputable def cx_m49 : Cx := mkCx kn env_m49 [0, 1, 2, 6] 15
noncomputable def c_m49 : Code := codeOf Tryz.f49
noncomputable def m49 (a1 : Int) (a2 : Int) (a3 : Int) : Option (Bool × Unit) :=
  bif (decide (a1 ≥ a2)) then
    some ((decide (a1 ≤ a3)), ())
  else
    some (false, ())
theorem m49_eq (a1 : Int) (a2 : Int) (a3 : Int) : run cx_m49 c_m49 [.tmp 6] false [.bor (.int .i64), .bor (.int .i64), .bor (.int .i64)] [(.bool, .own)] [] [⟨(.int .i64), a1⟩, ⟨(.int .i64), a2⟩, ⟨(.int .i64), a3⟩] = m49 a1 a2 a3 := by kernel_rfl
noncomputable def ct_m49 : Ct := ⟨[.bor (.int .i64), .bor (.int .i64), .bor (.int .i64)], [(.bool, .own)], [], M3 (.int .i64) (.int .i64) (.int .i64) m49, false⟩
theorem h_m49 : Holds Tryz.prog kn.G 49 ct_m49 :=
  Holds.of_run (kn := kn) (env := env_m49) (kp := [0, 1, 2, 6]) Tryz.func49 (c := c_m49) (by kernel_rfl) tab_ok EnvL.nil (ct := ct_m49) (n := 15) (by kernel_rfl) (by kernel_rfl) (rv := [.tmp 6]) (by kernel_rfl) (M3_ok (r := run cx_m49 c_m49 [.tmp 6] false [.bor (.int .i64), .bor (.int .i64), .bor (.int .i64)] [(.bool, .own)] []) m49_eq)
theorem e_m49 : Eng.Enters Tryz.prog 49 := Eng.Enters.of Tryz.func49 (c := c_m49) (by kernel_rfl) (by kernel_rfl)

/- loop.example/g01538/impl.OpOk -/
noncomputable def env_m22 : List (Nat × Nat × Ct) := [(49, 0, ct_m49)]
noncomputable def cx_m22 : Cx := mkCx kn env_m22 [0, 1, 2, 3, 22, 27, 44] 64
noncomputable def c_m22 : Code := codeOf Tryz.f22
noncomputable def m22 (a1 : (Int × (Int × (Int × (Int × Unit))))) : Option (Bool × Unit) :=
  bif (a1.1 == 1) then
    (m49 a1.1 1 7).bind fun r1 =>
    bif (!r1.1) then
      some (false, ())
    else
      (m49 a1.2.1 0 1).bind fun r2 =>
      bif (!r2.1) then
        some (false, ())
      else
        bif (a1.1 == 1) then
          (m49 a1.2.2.1 0 100).bind fun r3 =>
          bif r3.1 then
            (m49 a1.2.2.2.1 0 65535).bind fun r4 =>
            some (r4.1, ())
          else
            some (false, ())
        else
          bif (a1.2.2.1 == 0) then
            some ((a1.2.2.2.1 == 0), ())
          else
            some (false, ())
  else
    bif (a1.1 == 2) then
      (m49 a1.1 1 7).bind fun r5 =>
      bif (!r5.1) then
        some (false, ())
      else
        (m49 a1.2.1 0 1).bind fun r6 =>
        bif (!r6.1) then
          some (false, ())
        else
          bif (a1.1 == 1) then
            (m49 a1.2.2.1 0 100).bind fun r7 =>
            bif r7.1 then
              (m49 a1.2.2.2.1 0 65535).bind fun r8 =>
              some (r8.1, ())
            else
              some (false, ())
          else
            bif (a1.2.2.1 == 0) then
              some ((a1.2.2.2.1 == 0), ())
            else
              some (false, ())
    else
      bif (a1.1 == 3) then
        (m49 a1.1 1 7).bind fun r9 =>
        bif (!r9.1) then
          some (false, ())
        else
          (m49 a1.2.1 0 1).bind fun r10 =>
          bif (!r10.1) then
            some (false, ())
          else
            bif (a1.1 == 1) then
              (m49 a1.2.2.1 0 100).bind fun r11 =>
              bif r11.1 then
                (m49 a1.2.2.2.1 0 65535).bind fun r12 =>
                some (r12.1, ())
              else
                some (false, ())
            else
              bif (a1.2.2.1 == 0) then
                some ((a1.2.2.2.1 == 0), ())
              else
                some (false, ())
      else
        (m49 a1.1 1 7).bind fun r13 =>
        bif (!r13.1) then
          some (false, ())
        else
          bif (a1.1 == 7) then
            (m49 a1.2.1 0 1).bind fun r14 =>
            bif (!r14.1) then
              some (false, ())
            else
              bif (!(a1.1 == 7)) then
                bif (a1.2.1 != 0) then
                  some (false, ())
                else
                  bif (a1.1 == 1) then
                    (m49 a1.2.2.1 0 100).bind fun r15 =>
                    bif r15.1 then
                      (m49 a1.2.2.2.1 0 65535).bind fun r16 =>
                      some (r16.1, ())
                    else
                      some (false, ())
                  else
                    bif (a1.2.2.1 == 0) then
                      some ((a1.2.2.2.1 == 0), ())
                    else
                      some (false, ())
              else
                bif (a1.1 == 1) then
                  (m49 a1.2.2.1 0 100).bind fun r17 =>
                  bif r17.1 then
                    (m49 a1.2.2.2.1 0 65535).bind fun r18 =>
                    some (r18.1, ())
                  else
                    some (false, ())
                else
                  bif (a1.2.2.1 == 0) then
                    some ((a1.2.2.2.1 == 0), ())
                  else
                    some (false, ())
          else
            bif (!(a1.1 == 7)) then
              bif (a1.2.1 != 0) then
                some (false, ())
              else
                bif (a1.1 == 1) then
                  (m49 a1.2.2.1 0 100).bind fun r19 =>
                  bif r19.1 then
                    (m49 a1.2.2.2.1 0 65535).bind fun r20 =>
                    some (r20.1, ())
                  else
                    some (false, ())
                else
                  bif (a1.2.2.1 == 0) then
                    some ((a1.2.2.2.1 == 0), ())
                  else
                    some (false, ())
            else
              bif (a1.1 == 1) then
                (m49 a1.2.2.1 0 100).bind fun r21 =>
                bif r21.1 then
                  (m49 a1.2.2.2.1 0 65535).bind fun r22 =>
                  some (r22.1, ())
                else
                  some (false, ())
              else
                bif (a1.2.2.1 == 0) then
                  some ((a1.2.2.2.1 == 0), ())
                else
                  some (false, ())
theorem m22_eq (a1 : (Int × (Int × (Int × (Int × Unit))))) : run cx_m22 c_m22 [.tmp 2] false [.bor (.pair (.int .i64) (.pair (.int .i64) (.pair (.int .i64) (.pair (.int .i64) .unit))))] [(.bool, .own)] [] [⟨(.pair (.int .i64) (.pair (.int .i64) (.pair (.int .i64) (.pair (.int .i64) .unit)))), a1⟩] = m22 a1 := by kernel_rfl
noncomputable def ct_m22 : Ct := ⟨[.bor (.pair (.int .i64) (.pair (.int .i64) (.pair (.int .i64) (.pair (.int .i64) .unit))))], [(.bool, .own)], [], M1 (.pair (.int .i64) (.pair (.int .i64) (.pair (.int .i64) (.pair (.int .i64) .unit)))) m22, false⟩
theorem h_m22 : Holds Tryz.prog kn.G 22 ct_m22 :=
  Holds.of_run (kn := kn) (env := env_m22) (kp := [0, 1, 2, 3, 22, 27, 44]) Tryz.func22 (c := c_m22) (by kernel_rfl) tab_ok (EnvL.cons h_m49 e_m49 EnvL.nil) (ct := ct_m22) (n := 64) (by kernel_rfl) (by kernel_rfl) (rv := [.tmp 2]) (by kernel_rfl) (M1_ok (r := run cx_m22 c_m22 [.tmp 2] false [.bor (.pair (.int .i64) (.pair (.int .i64) (.pair (.int .i64) (.pair (.int .i64) .unit))))] [(.bool, .own)] []) m22_eq)
theorem e_m22 : Eng.Enters Tryz.prog 22 := Eng.Enters.of Tryz.func22 (c := c_m22) (by kernel_rfl) (by kernel_rfl)

/- loop.example/g01538/impl.OpWord -/
noncomputable def env_m23 : List (Nat × Nat × Ct) := [(49, 0, ct_m49)]
noncomputable def cx_m23 : Cx := mkCx kn env_m23 [0, 2, 5] 10
noncomputable def c_m23 : Code := codeOf Tryz.f23
noncomputable def m23 (a1 : Int) : Option (List UInt8 × Unit) :=
  (m49 a1 1 7).bind fun r1 =>
  bif (!r1.1) then
    some (([] : List UInt8), ())
  else
    bif ((decide (0 ≤ (IntKind.wrap .i64 (a1 - 1)))) && (decide ((IntKind.wrap .i64 (a1 - 1)) < 7))) then
      some ((List.getD [([115, 101, 116] : List UInt8), ([103, 101, 116] : List UInt8), ([104, 97, 122] : List UInt8), ([99, 111, 108, 108, 101, 99, 116] : List UInt8), ([112, 105, 110] : List UInt8), ([117, 110, 112, 105, 110] : List UInt8), ([112, 101, 101, 107] : List UInt8)] (Int.toNat (IntKind.wrap .i64 (a1 - 1))) ([] : List UInt8)), ())
    else
      none
theorem m23_eq (a1 : Int) : run cx_m23 c_m23 [.tmp 2] false [.bor (.int .i64)] [(.str, .own)] [] [⟨(.int .i64), a1⟩] = m23 a1 := by kernel_rfl
noncomputable def ct_m23 : Ct := ⟨[.bor (.int .i64)], [(.str, .own)], [], M1 (.int .i64) m23, false⟩
theorem h_m23 : Holds Tryz.prog kn.G 23 ct_m23 :=
  Holds.of_run (kn := kn) (env := env_m23) (kp := [0, 2, 5]) Tryz.func23 (c := c_m23) (by kernel_rfl) tab_ok (EnvL.cons h_m49 e_m49 EnvL.nil) (ct := ct_m23) (n := 10) (by kernel_rfl) (by kernel_rfl) (rv := [.tmp 2]) (by kernel_rfl) (M1_ok (r := run cx_m23 c_m23 [.tmp 2] false [.bor (.int .i64)] [(.str, .own)] []) m23_eq)
theorem e_m23 : Eng.Enters Tryz.prog 23 := Eng.Enters.of Tryz.func23 (c := c_m23) (by kernel_rfl) (by kernel_rfl)

/- loop.example/g01538/impl.Dec -/
noncomputable def env_m50 : List (Nat × Nat × Ct) := [(65, 0, ct_lItoa)]
noncomputable def cx_m50 : Cx := mkCx kn env_m50 [0, 2] 5
noncomputable def c_m50 : Code := codeOf Tryz.f50
noncomputable def m50 (a1 : Int) : Option (List UInt8 × Unit) :=
  (lItoa a1).bind fun r1 =>
  some (r1.1, ())
theorem m50_eq (a1 : Int) : run cx_m50 c_m50 [.tmp 2] false [.bor (.int .i64)] [(.str, .own)] [] [⟨(.int .i64), a1⟩] = m50 a1 := by kernel_rfl
noncomputable def ct_m50 : Ct := ⟨[.bor (.int .i64)], [(.str, .own)], [], M1 (.int .i64) m50, false⟩
theorem h_m50 : Holds Tryz.prog kn.G 50 ct_m50 :=
  Holds.of_run (kn := kn) (env := env_m50) (kp := [0, 2]) Tryz.func50 (c := c_m50) (by kernel_rfl) tab_ok (EnvL.cons h_lItoa e_lItoa EnvL.nil) (ct := ct_m50) (n := 5) (by kernel_rfl) (by kernel_rfl) (rv := [.tmp 2]) (by kernel_rfl) (M1_ok (r := run cx_m50 c_m50 [.tmp 2] false [.bor (.int .i64)] [(.str, .own)] []) m50_eq)
theorem e_m50 : Eng.Enters Tryz.prog 50 := Eng.Enters.of Tryz.func50 (c := c_m50) (by kernel_rfl) (by kernel_rfl)

/- loop.example/g01538/impl.decs -/
noncomputable def env_m24 : List (Nat × Nat × Ct) := [(50, 0, ct_m50)]
noncomputable def cx_m24 : Cx := mkCx kn env_m24 [0, 2, 3, 5, 6, 7, 8, 9] 19
noncomputable def c_m24 : Code := codeOf Tryz.f24
noncomputable def m24_1_st (p1 : (List Int)) (p2 : Int) (d : List UInt8 × Int) : St :=
  ⟨[(0, .val (.slice (.int .i64)) (p1 : (List Int))), (2, .val .str (([] : List UInt8) : List UInt8)), (3, .val .str (d.1 : List UInt8)), (6, .val (.slice (.int .i64)) (p1 : (List Int))), (7, .val (.int .i64) (p2 : Int)), (8, .val (.int .i64) (d.2 : Int))], []⟩
noncomputable def m24_1_x1 (p1 : (List Int)) (p2 : Int) (x1 : List UInt8) (x2 : Int) (x3 : Bool) : St :=
  ⟨[(0, .val (.slice (.int .i64)) (p1 : (List Int))), (2, .val .str (([] : List UInt8) : List UInt8)), (3, .val .str (x1 : List UInt8)), (6, .val (.slice (.int .i64)) (p1 : (List Int))), (7, .val (.int .i64) (p2 : Int)), (8, .val (.int .i64) (x2 : Int)), (9, .val .bool (x3 : Bool))], []⟩
noncomputable def m24_1_body {T : Type} (p1 : (List Int)) (p2 : Int) (X1 : List UInt8 → Int → Bool → Option T) (K : List UInt8 × Int → Option T) (d : List UInt8 × Int) : Option T :=
  bif (decide (d.2 < p2)) then
    bif ((decide (0 ≤ d.2)) && (decide (d.2 < ((List.length p1 : Int))))) then
      (m50 (List.getD p1 (Int.toNat d.2) 0)).bind fun r8 =>
      bif (decide (List.length ([32] : List UInt8) + List.length r8.1 < 4611686018427387904)) then
        bif (decide (List.length d.1 + List.length (([32] : List UInt8) ++ r8.1) < 4611686018427387904)) then
          K ((d.1 ++ (([32] : List UInt8) ++ r8.1)), (IntKind.wrap .i64 (d.2 + 1)))
        else
          none
      else
        none
    else
      none
  else
    X1 d.1 d.2 (decide (d.2 < p2))
theorem m24_1_body_eq {R : Type} (p1 : (List Int)) (p2 : Int) (kk : Ex → St → Option R) (d0 d : List UInt8 × Int) (K : St → Option R) : execL cx_m24 (loopH cx_m24) (codeAt c_m24 [1, 1, 0, 1, 0, 0]) (m24_1_st p1 p2 d) (bodyK (restr (m24_1_st p1 p2 d0)) K kk) = m24_1_body p1 p2 (fun x1 x2 x3 => kk (.exit 0) (m24_1_x1 p1 p2 x1 x2 x3)) (fun d => K (m24_1_st p1 p2 d)) d := by kernel_rfl
noncomputable def m24_1_p1 (p1 : (List Int)) (p2 : Int) (x1 : List UInt8) (x2 : Int) (x3 : Bool) : Option (List UInt8 × Unit) :=
  some (x1, ())
theorem m24_1_p1_eq (L : Code → St → (Ex → St → Option (Tup ([(.str, .own)] ++ []))) → Option (Tup ([(.str, .own)] ++ []))) (p1 : (List Int)) (p2 : Int) (x1 : List UInt8) (x2 : Int) (x3 : Bool) : ctxL cx_m24 L c_m24 [1, 1, 0, 1, 0] (finK cx_m24 [.tmp 2] false [] [(.str, .own)] []) (.exit 0) (m24_1_x1 p1 p2 x1 x2 x3) = m24_1_p1 p1 p2 x1 x2 x3 := by kernel_rfl
noncomputable def m24_1 (p1 : (List Int)) (p2 : Int) : Nat → List UInt8 × Int → Option (List UInt8 × Unit) :=
  loopM (m24_1_body p1 p2 (fun x1 x2 x3 => m24_1_p1 p1 p2 x1 x2 x3))
theorem m24_1_eq (p1 : (List Int)) (p2 : Int) (d : List UInt8 × Int) : loopH cx_m24 (codeAt c_m24 [1, 1, 0, 1, 0, 0]) (m24_1_st p1 p2 d) (ctxL cx_m24 (loopH cx_m24) c_m24 [1, 1, 0, 1, 0] (finK cx_m24 [.tmp 2] false [] [(.str, .own)] [])) = m24_1 p1 p2 fuel d := by
  refine (loop_eq (m24_1_st p1 p2) (m24_1_body p1 p2 (fun x1 x2 x3 => ctxL cx_m24 (loopH cx_m24) c_m24 [1, 1, 0, 1, 0] (finK cx_m24 [.tmp 2] false [] [(.str, .own)] []) (.exit 0) (m24_1_x1 p1 p2 x1 x2 x3))) d (fun K d2 => m24_1_body_eq p1 p2 _ d d2 K)).trans ?_
  unfold m24_1
  simp only [m24_1_p1_eq]
noncomputable def m24_pre (F1 : (List Int) → Int → (List UInt8 × Int) → Option (List UInt8 × Unit)) (a1 : (List Int)) : Option (List UInt8 × Unit) :=
  F1 a1 ((List.length a1 : Int)) (([] : List UInt8), 0)
theorem m24_pre_eq (L : Code → St → (Ex → St → Option (Tup ([(.str, .own)] ++ []))) → Option (Tup ([(.str, .own)] ++ []))) (a1 : (List Int)) : runL (rs := [(.str, .own)]) (os := []) cx_m24 L c_m24 [.tmp 2] false [.bor (.slice (.int .i64))] [⟨(.slice (.int .i64)), a1⟩] = m24_pre (fun p1 p2 d => L (codeAt c_m24 [1, 1, 0, 1, 0, 0]) (m24_1_st p1 p2 d) (ctxL cx_m24 L c_m24 [1, 1, 0, 1, 0] (finK cx_m24 [.tmp 2] false [] [(.str, .own)] []))) a1 := by kernel_rfl
noncomputable def m24 (a1 : (List Int)) : Option (List UInt8 × Unit) := m24_pre (fun p1 p2 d => m24_1 p1 p2 fuel d) a1
theorem m24_eq (a1 : (List Int)) : run cx_m24 c_m24 [.tmp 2] false [.bor (.slice (.int .i64))] [(.str, .own)] [] [⟨(.slice (.int .i64)), a1⟩] = m24 a1 := by
  rw [run_L, m24_pre_eq]
  unfold m24
  simp only [m24_1_eq]
noncomputable def ct_m24 : Ct := ⟨[.bor (.slice (.int .i64))], [(.str, .own)], [], M1 (.slice (.int .i64)) m24, false⟩
theorem h_m24 : Holds Tryz.prog kn.G 24 ct_m24 :=
  Holds.of_run (kn := kn) (env := env_m24) (kp := [0, 2, 3, 5, 6, 7, 8, 9]) Tryz.func24 (c := c_m24) (by kernel_rfl) tab_ok (EnvL.cons h_m50 e_m50 EnvL.nil) (ct := ct_m24) (n := 19) (by kernel_rfl) (by kernel_rfl) (rv := [.tmp 2]) (by kernel_rfl) (M1_ok (r := run cx_m24 c_m24 [.tmp 2] false [.bor (.slice (.int .i64))] [(.str, .own)] []) m24_eq)
theorem e_m24 : Eng.Enters Tryz.prog 24 := Eng.Enters.of Tryz.func24 (c := c_m24) (by kernel_rfl) (by kernel_rfl)

/- loop.example/g01538/impl.ShowOp -/
noncomputable def env_m6 : List (Nat × Nat × Ct) := [(22, 0, ct_m22), (23, 0, ct_m23), (24, 0, ct_m24)]
noncomputable def cx_m6 : Cx := mkCx kn env_m6 [0, 1, 2, 3, 7, 23] 48
noncomputable def c_m6 : Code := codeOf Tryz.f6
noncomputable def m6 (a1 : (Int × (Int × (Int × (Int × Unit))))) : Option (List UInt8 × Unit) :=
  (m22 a1).bind fun r1 =>
  bif (!r1.1) then
    some (([] : List UInt8), ())
  else
    bif (a1.1 == 1) then
      (m23 a1.1).bind fun r2 =>
      (m24 [a1.2.1, a1.2.2.1, a1.2.2.2.1]).bind fun r3 =>
      bif (decide (List.length r2.1 + List.length r3.1 < 4611686018427387904)) then
        some ((r2.1 ++ r3.1), ())
      else
        none
    else
      bif (a1.1 == 2) then
        (m23 a1.1).bind fun r4 =>
        (m24 [a1.2.1]).bind fun r5 =>
        bif (decide (List.length r4.1 + List.length r5.1 < 4611686018427387904)) then
          some ((r4.1 ++ r5.1), ())
        else
          none
      else
        bif (a1.1 == 3) then
          (m23 a1.1).bind fun r6 =>
          (m24 [a1.2.1]).bind fun r7 =>
          bif (decide (List.length r6.1 + List.length r7.1 < 4611686018427387904)) then
            some ((r6.1 ++ r7.1), ())
          else
            none
        else
          bif (a1.1 == 7) then
            (m23 a1.1).bind fun r8 =>
            (m24 [a1.2.1]).bind fun r9 =>
            bif (decide (List.length r8.1 + List.length r9.1 < 4611686018427387904)) then
              some ((r8.1 ++ r9.1), ())
            else
              none
          else
            (m23 a1.1).bind fun r10 =>
            some (r10.1, ())
theorem m6_eq (a1 : (Int × (Int × (Int × (Int × Unit))))) : run cx_m6 c_m6 [.tmp 2] false [.bor (.pair (.int .i64) (.pair (.int .i64) (.pair (.int .i64) (.pair (.int .i64) .unit))))] [(.str, .own)] [] [⟨(.pair (.int .i64) (.pair (.int .i64) (.pair (.int .i64) (.pair (.int .i64) .unit)))), a1⟩] = m6 a1 := by kernel_rfl
noncomputable def ct_m6 : Ct := ⟨[.bor (.pair (.int .i64) (.pair (.int .i64) (.pair (.int .i64) (.pair (.int .i64) .unit))))], [(.str, .own)], [], M1 (.pair (.int .i64) (.pair (.int .i64) (.pair (.int .i64) (.pair (.int .i64) .unit)))) m6, false⟩
theorem h_m6 : Holds Tryz.prog kn.G 6 ct_m6 :=
  Holds.of_run (kn := kn) (env := env_m6) (kp := [0, 1, 2, 3, 7, 23]) Tryz.func6 (c := c_m6) (by kernel_rfl) tab_ok (EnvL.cons h_m22 e_m22 (EnvL.cons h_m23 e_m23 (EnvL.cons h_m24 e_m24 EnvL.nil))) (ct := ct_m6) (n := 48) (by kernel_rfl) (by kernel_rfl) (rv := [.tmp 2]) (by kernel_rfl) (M1_ok (r := run cx_m6 c_m6 [.tmp 2] false [.bor (.pair (.int .i64) (.pair (.int .i64) (.pair (.int .i64) (.pair (.int .i64) .unit))))] [(.str, .own)] []) m6_eq)
theorem e_m6 : Eng.Enters Tryz.prog 6 := Eng.Enters.of Tryz.func6 (c := c_m6) (by kernel_rfl) (by kernel_rfl)

end
end Go.Proofs.YtfihmdlpikfbbaaGreatDoor
end
