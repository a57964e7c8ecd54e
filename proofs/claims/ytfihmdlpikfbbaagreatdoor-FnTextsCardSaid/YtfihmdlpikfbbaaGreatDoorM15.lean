/- Part 15 of 20 of a claim; what is proved, and under which conditions, stands in the last part. Here: Zm04. -/
import Derived.Test.YtfihmdlpikfbbaaGreatDoorM14
set_option linter.unusedVariables false
set_option linter.unusedSimpArgs false
set_option linter.unusedSectionVars false
section
/- Models of functions, and that they are what the functions do: impl.ShowBatch, strings.SplitN, impl.ReadBatch, spec.l1In, spec.OpOk, spec.CmdOk, spec.BatchOk, spec.OpWord, spec.Dec. -/
namespace Go.Proofs.YtfihmdlpikfbbaaGreatDoor
open Go Go.Eng
set_option maxRecDepth 100000
set_option maxHeartbeats 400000
noncomputable section

/- loop.example/g01538/impl.ShowBatch -/
noncomputable def env_m12 : List (Nat × Nat × Ct) := [(9, 0, ct_m9), (32, 0, ct_m32), (33, 0, ct_lJoin)]
noncomputable def cx_m12 : Cx := mkCx kn env_m12 [0, 1, 2, 3, 5, 6, 10, 15, 16, 17, 18] 29
noncomputable def c_m12 : Code := codeOf Tryz.f12
noncomputable def m12_1_st (p1 : (Bool × ((List (Int × (Int × (Int × Unit)))) × Unit))) (p2 : Bool) (p3 : Bool) (p4 : (List (Int × (Int × (Int × Unit))))) (p5 : Int) (d : Int × (List (List UInt8))) : St :=
  ⟨[(0, .val (.pair .bool (.pair (.slice (.pair (.int .i64) (.pair (.int .i64) (.pair (.int .i64) .unit)))) .unit)) (p1 : (Bool × ((List (Int × (Int × (Int × Unit)))) × Unit)))), (1, .ptr 16 []), (2, .val .str (([] : List UInt8) : List UInt8)), (3, .place 49 []), (6, .val .bool (p2 : Bool)), (10, .val .bool (p3 : Bool)), (15, .val (.slice (.pair (.int .i64) (.pair (.int .i64) (.pair (.int .i64) .unit)))) (p4 : (List (Int × (Int × (Int × Unit)))))), (16, .val (.int .i64) (p5 : Int)), (17, .val (.int .i64) (d.1 : Int))], [(16, ⟨(.pair .bool (.pair (.slice (.pair (.int .i64) (.pair (.int .i64) (.pair (.int .i64) .unit)))) .unit)), .shr, (p1 : (Bool × ((List (Int × (Int × (Int × Unit)))) × Unit))), true⟩), (49, ⟨(.slice .str), .own, (d.2 : (List (List UInt8))), false⟩), (209, ⟨(.slice .str), .gone, ([] : (List (List UInt8))), false⟩)]⟩
noncomputable def m12_1_x1 (p1 : (Bool × ((List (Int × (Int × (Int × Unit)))) × Unit))) (p2 : Bool) (p3 : Bool) (p4 : (List (Int × (Int × (Int × Unit))))) (p5 : Int) (x1 : Int) (x2 : Bool) (x3 : (List (List UInt8))) : St :=
  ⟨[(0, .val (.pair .bool (.pair (.slice (.pair (.int .i64) (.pair (.int .i64) (.pair (.int .i64) .unit)))) .unit)) (p1 : (Bool × ((List (Int × (Int × (Int × Unit)))) × Unit)))), (1, .ptr 16 []), (2, .val .str (([] : List UInt8) : List UInt8)), (3, .place 49 []), (6, .val .bool (p2 : Bool)), (10, .val .bool (p3 : Bool)), (15, .val (.slice (.pair (.int .i64) (.pair (.int .i64) (.pair (.int .i64) .unit)))) (p4 : (List (Int × (Int × (Int × Unit)))))), (16, .val (.int .i64) (p5 : Int)), (17, .val (.int .i64) (x1 : Int)), (18, .val .bool (x2 : Bool))], [(16, ⟨(.pair .bool (.pair (.slice (.pair (.int .i64) (.pair (.int .i64) (.pair (.int .i64) .unit)))) .unit)), .shr, (p1 : (Bool × ((List (Int × (Int × (Int × Unit)))) × Unit))), true⟩), (49, ⟨(.slice .str), .own, (x3 : (List (List UInt8))), false⟩), (209, ⟨(.slice .str), .gone, ([] : (List (List UInt8))), false⟩)]⟩
noncomputable def m12_1_body {T : Type} (p1 : (Bool × ((List (Int × (Int × (Int × Unit)))) × Unit))) (p2 : Bool) (p3 : Bool) (p4 : (List (Int × (Int × (Int × Unit))))) (p5 : Int) (X1 : Int → Bool → (List (List UInt8)) → Option T) (K : Int × (List (List UInt8)) → Option T) (d : Int × (List (List UInt8))) : Option T :=
  bif (decide (d.1 < p5)) then
    bif ((decide (0 ≤ d.1)) && (decide (d.1 < ((List.length p4 : Int))))) then
      (m9 (List.getD p4 (Int.toNat d.1) (0, 0, 0, ()))).bind fun r13 =>
      bif (decide (List.length d.2 + List.length [r13.1] < 1073741824)) then
        K ((IntKind.wrap .i64 (d.1 + 1)), (List.append d.2 [r13.1]))
      else
        none
    else
      none
  else
    X1 d.1 (decide (d.1 < p5)) d.2
theorem m12_1_body_eq {R : Type} (p1 : (Bool × ((List (Int × (Int × (Int × Unit)))) × Unit))) (p2 : Bool) (p3 : Bool) (p4 : (List (Int × (Int × (Int × Unit))))) (p5 : Int) (kk : Ex → St → Option R) (d0 d : Int × (List (List UInt8))) (K : St → Option R) : execL cx_m12 (loopH cx_m12) (codeAt c_m12 [1, 1, 1, 0, 1, 0, 0]) (m12_1_st p1 p2 p3 p4 p5 d) (bodyK (restr (m12_1_st p1 p2 p3 p4 p5 d0)) K kk) = m12_1_body p1 p2 p3 p4 p5 (fun x1 x2 x3 => kk (.exit 1) (m12_1_x1 p1 p2 p3 p4 p5 x1 x2 x3)) (fun d => K (m12_1_st p1 p2 p3 p4 p5 d)) d := by kernel_rfl
noncomputable def m12_1_p1 (p1 : (Bool × ((List (Int × (Int × (Int × Unit)))) × Unit))) (p2 : Bool) (p3 : Bool) (p4 : (List (Int × (Int × (Int × Unit))))) (p5 : Int) (x1 : Int) (x2 : Bool) (x3 : (List (List UInt8))) : Option (List UInt8 × Unit) :=
  (lJoin x3 ([59] : List UInt8)).bind fun r14 =>
  some (r14.1, ())
theorem m12_1_p1_eq (L : Code → St → (Ex → St → Option (Tup ([(.str, .own)] ++ []))) → Option (Tup ([(.str, .own)] ++ []))) (p1 : (Bool × ((List (Int × (Int × (Int × Unit)))) × Unit))) (p2 : Bool) (p3 : Bool) (p4 : (List (Int × (Int × (Int × Unit))))) (p5 : Int) (x1 : Int) (x2 : Bool) (x3 : (List (List UInt8))) : ctxL cx_m12 L c_m12 [1, 1, 1, 0, 1, 0] (finK cx_m12 [.tmp 2] false [] [(.str, .own)] []) (.exit 1) (m12_1_x1 p1 p2 p3 p4 p5 x1 x2 x3) = m12_1_p1 p1 p2 p3 p4 p5 x1 x2 x3 := by kernel_rfl
noncomputable def m12_1 (p1 : (Bool × ((List (Int × (Int × (Int × Unit)))) × Unit))) (p2 : Bool) (p3 : Bool) (p4 : (List (Int × (Int × (Int × Unit))))) (p5 : Int) : Nat → Int × (List (List UInt8)) → Option (List UInt8 × Unit) :=
  loopM (m12_1_body p1 p2 p3 p4 p5 (fun x1 x2 x3 => m12_1_p1 p1 p2 p3 p4 p5 x1 x2 x3))
theorem m12_1_eq (p1 : (Bool × ((List (Int × (Int × (Int × Unit)))) × Unit))) (p2 : Bool) (p3 : Bool) (p4 : (List (Int × (Int × (Int × Unit))))) (p5 : Int) (d : Int × (List (List UInt8))) : loopH cx_m12 (codeAt c_m12 [1, 1, 1, 0, 1, 0, 0]) (m12_1_st p1 p2 p3 p4 p5 d) (ctxL cx_m12 (loopH cx_m12) c_m12 [1, 1, 1, 0, 1, 0] (finK cx_m12 [.tmp 2] false [] [(.str, .own)] [])) = m12_1 p1 p2 p3 p4 p5 fuel d := by
  refine (loop_eq (m12_1_st p1 p2 p3 p4 p5) (m12_1_body p1 p2 p3 p4 p5 (fun x1 x2 x3 => ctxL cx_m12 (loopH cx_m12) c_m12 [1, 1, 1, 0, 1, 0] (finK cx_m12 [.tmp 2] false [] [(.str, .own)] []) (.exit 1) (m12_1_x1 p1 p2 p3 p4 p5 x1 x2 x3))) d (fun K d2 => m12_1_body_eq p1 p2 p3 p4 p5 _ d d2 K)).trans ?_
  unfold m12_1
  simp only [m12_1_p1_eq]
noncomputable def m12_pre (F1 : (Bool × ((List (Int × (Int × (Int × Unit)))) × Unit)) → Bool → Bool → (List (Int × (Int × (Int × Unit)))) → Int → (Int × (List (List UInt8))) → Option (List UInt8 × Unit)) (a1 : (Bool × ((List (Int × (Int × (Int × Unit)))) × Unit))) : Option (List UInt8 × Unit) :=
  (m32 a1).bind fun r1 =>
  bif (!r1.1) then
    some (([] : List UInt8), ())
  else
    bif a1.1 then
      some (([99, 111, 108, 108, 101, 99, 116] : List UInt8), ())
    else
      F1 a1 (!r1.1) a1.1 a1.2.1 ((List.length a1.2.1 : Int)) (0, [])
theorem m12_pre_eq (L : Code → St → (Ex → St → Option (Tup ([(.str, .own)] ++ []))) → Option (Tup ([(.str, .own)] ++ []))) (a1 : (Bool × ((List (Int × (Int × (Int × Unit)))) × Unit))) : runL (rs := [(.str, .own)]) (os := []) cx_m12 L c_m12 [.tmp 2] false [.bor (.pair .bool (.pair (.slice (.pair (.int .i64) (.pair (.int .i64) (.pair (.int .i64) .unit)))) .unit))] [⟨(.pair .bool (.pair (.slice (.pair (.int .i64) (.pair (.int .i64) (.pair (.int .i64) .unit)))) .unit)), a1⟩] = m12_pre (fun p1 p2 p3 p4 p5 d => L (codeAt c_m12 [1, 1, 1, 0, 1, 0, 0]) (m12_1_st p1 p2 p3 p4 p5 d) (ctxL cx_m12 L c_m12 [1, 1, 1, 0, 1, 0] (finK cx_m12 [.tmp 2] false [] [(.str, .own)] []))) a1 := by kernel_rfl
noncomputable def m12 (a1 : (Bool × ((List (Int × (Int × (Int × Unit)))) × Unit))) : Option (List UInt8 × Unit) := m12_pre (fun p1 p2 p3 p4 p5 d => m12_1 p1 p2 p3 p4 p5 fuel d) a1
theorem m12_eq (a1 : (Bool × ((List (Int × (Int × (Int × Unit)))) × Unit))) : run cx_m12 c_m12 [.tmp 2] false [.bor (.pair .bool (.pair (.slice (.pair (.int .i64) (.pair (.int .i64) (.pair (.int .i64) .unit)))) .unit))] [(.str, .own)] [] [⟨(.pair .bool (.pair (.slice (.pair (.int .i64) (.pair (.int .i64) (.pair (.int .i64) .unit)))) .unit)), a1⟩] = m12 a1 := by
  rw [run_L, m12_pre_eq]
  unfold m12
  simp only [m12_1_eq]
noncomputable def ct_m12 : Ct := ⟨[.bor (.pair .bool (.pair (.slice (.pair (.int .i64) (.pair (.int .i64) (.pair (.int .i64) .unit)))) .unit))], [(.str, .own)], [], M1 (.pair .bool (.pair (.slice (.pair (.int .i64) (.pair (.int .i64) (.pair (.int .i64) .unit)))) .unit)) m12, false⟩
theorem h_m12 : Holds Tryz.prog kn.G 12 ct_m12 :=
  Holds.of_run (kn := kn) (env := env_m12) (kp := [0, 1, 2, 3, 5, 6, 10, 15, 16, 17, 18]) Tryz.func12 (c := c_m12) (by kernel_rfl) tab_ok (EnvL.cons h_m9 e_m9 (EnvL.cons h_m32 e_m32 (EnvL.cons h_lJoin e_lJoin EnvL.nil))) (ct := ct_m12) (n := 29) (by kernel_rfl) (by kernel_rfl) (rv := [.tmp 2]) (by kernel_rfl) (M1_ok (r := run cx_m12 c_m12 [.tmp 2] false [.bor (.pair .bool (.pair (.slice (.pair (.int .i64) (.pair (.int .i64) (.pair (.int .i64) .unit)))) .unit))] [(.str, .own)] []) m12_eq)
theorem e_m12 : Eng.Enters Tryz.prog 12 := Eng.Enters.of Tryz.func12 (c := c_m12) (by kernel_rfl) (by kernel_rfl)

/- strings.SplitN -/
noncomputable def env_m34 : List (Nat × Nat × Ct) := [(51, 0, ct_m51)]
noncomputable def cx_m34 : Cx := mkCx kn env_m34 [0, 1, 2, 6] 11
noncomputable def c_m34 : Code := codeOf Tryz.f34
noncomputable def m34 (a1 : List UInt8) (a2 : List UInt8) (a3 : Int) : Option ((List (List UInt8)) × Unit) :=
  (m51 a1 a2 0 a3).bind fun r1 =>
  some (r1.1, ())
theorem m34_eq (a1 : List UInt8) (a2 : List UInt8) (a3 : Int) : run cx_m34 c_m34 [.tmp 6] false [.bor .str, .bor .str, .bor (.int .i64)] [((.slice .str), .own)] [] [⟨.str, a1⟩, ⟨.str, a2⟩, ⟨(.int .i64), a3⟩] = m34 a1 a2 a3 := by kernel_rfl
noncomputable def ct_m34 : Ct := ⟨[.bor .str, .bor .str, .bor (.int .i64)], [((.slice .str), .own)], [], M3 .str .str (.int .i64) m34, false⟩
theorem h_m34 : Holds Tryz.prog kn.G 34 ct_m34 :=
  Holds.of_run (kn := kn) (env := env_m34) (kp := [0, 1, 2, 6]) Tryz.func34 (c := c_m34) (by kernel_rfl) tab_ok (EnvL.cons h_m51 e_m51 EnvL.nil) (ct := ct_m34) (n := 11) (by kernel_rfl) (by kernel_rfl) (rv := [.tmp 6]) (by kernel_rfl) (M3_ok (r := run cx_m34 c_m34 [.tmp 6] false [.bor .str, .bor .str, .bor (.int .i64)] [((.slice .str), .own)] []) m34_eq)
theorem e_m34 : Eng.Enters Tryz.prog 34 := Eng.Enters.of Tryz.func34 (c := c_m34) (by kernel_rfl) (by kernel_rfl)

/- loop.example/g01538/impl.ReadBatch -/
noncomputable def env_m13 : List (Nat × Nat × Ct) := [(10, 0, ct_m10), (32, 0, ct_m32), (34, 0, ct_m34)]
noncomputable def cx_m13 : Cx := mkCx kn env_m13 [0, 2, 3, 4, 6, 7, 8, 10, 14, 15, 16, 17, 26, 37] 40
noncomputable def c_m13 : Code := codeOf Tryz.f13
noncomputable def m13_1_st (p1 : List UInt8) (p2 : Bool) (p3 : Int) (p4 : (List (List UInt8))) (d : Int × (Bool × ((List (Int × (Int × (Int × Unit)))) × Unit))) : St :=
  ⟨[(0, .val .str (p1 : List UInt8)), (2, .ptr 32 []), (3, .val .bool (false : Bool)), (4, .ptr 64 []), (10, .val .bool (p2 : Bool)), (14, .place 226 []), (15, .val (.int .i64) (p3 : Int)), (16, .val (.int .i64) (d.1 : Int))], [(32, ⟨(.pair .bool (.pair (.slice (.pair (.int .i64) (.pair (.int .i64) (.pair (.int .i64) .unit)))) .unit)), .own, ((false, [], ()) : (Bool × ((List (Int × (Int × (Int × Unit)))) × Unit))), true⟩), (64, ⟨(.pair .bool (.pair (.slice (.pair (.int .i64) (.pair (.int .i64) (.pair (.int .i64) .unit)))) .unit)), .own, (d.2 : (Bool × ((List (Int × (Int × (Int × Unit)))) × Unit))), true⟩), (193, ⟨(.pair .bool (.pair (.slice (.pair (.int .i64) (.pair (.int .i64) (.pair (.int .i64) .unit)))) .unit)), .gone, ((false, [], ()) : (Bool × ((List (Int × (Int × (Int × Unit)))) × Unit))), false⟩), (226, ⟨(.slice .str), .own, (p4 : (List (List UInt8))), false⟩)]⟩
noncomputable def m13_1_x1 (p1 : List UInt8) (p2 : Bool) (p3 : Int) (p4 : (List (List UInt8))) (x1 : List UInt8) (x2 : Bool) (x3 : Int) (x4 : Bool) (x5 : Bool) (x6 : (Bool × ((List (Int × (Int × (Int × Unit)))) × Unit))) (x7 : (Int × (Int × (Int × Unit)))) : St :=
  ⟨[(0, .val .str (p1 : List UInt8)), (2, .ptr 32 []), (3, .val .bool (false : Bool)), (4, .ptr 64 []), (6, .val .str (x1 : List UInt8)), (7, .ptr 112 []), (8, .val .bool (x2 : Bool)), (10, .val .bool (p2 : Bool)), (14, .place 226 []), (15, .val (.int .i64) (p3 : Int)), (16, .val (.int .i64) (x3 : Int)), (17, .val .bool (x4 : Bool)), (26, .val .bool (x5 : Bool))], [(32, ⟨(.pair .bool (.pair (.slice (.pair (.int .i64) (.pair (.int .i64) (.pair (.int .i64) .unit)))) .unit)), .own, ((false, [], ()) : (Bool × ((List (Int × (Int × (Int × Unit)))) × Unit))), true⟩), (64, ⟨(.pair .bool (.pair (.slice (.pair (.int .i64) (.pair (.int .i64) (.pair (.int .i64) .unit)))) .unit)), .own, (x6 : (Bool × ((List (Int × (Int × (Int × Unit)))) × Unit))), true⟩), (112, ⟨(.pair (.int .i64) (.pair (.int .i64) (.pair (.int .i64) .unit))), .own, (x7 : (Int × (Int × (Int × Unit)))), true⟩), (193, ⟨(.pair .bool (.pair (.slice (.pair (.int .i64) (.pair (.int .i64) (.pair (.int .i64) .unit)))) .unit)), .gone, ((false, [], ()) : (Bool × ((List (Int × (Int × (Int × Unit)))) × Unit))), false⟩), (226, ⟨(.slice .str), .own, (p4 : (List (List UInt8))), false⟩), (433, ⟨(.pair .bool (.pair (.slice (.pair (.int .i64) (.pair (.int .i64) (.pair (.int .i64) .unit)))) .unit)), .gone, ((false, [], ()) : (Bool × ((List (Int × (Int × (Int × Unit)))) × Unit))), false⟩)]⟩
noncomputable def m13_1_x2 (p1 : List UInt8) (p2 : Bool) (p3 : Int) (p4 : (List (List UInt8))) (x1 : Int) (x2 : Bool) (x3 : (Bool × ((List (Int × (Int × (Int × Unit)))) × Unit))) : St :=
  ⟨[(0, .val .str (p1 : List UInt8)), (2, .ptr 32 []), (3, .val .bool (false : Bool)), (4, .ptr 64 []), (10, .val .bool (p2 : Bool)), (14, .place 226 []), (15, .val (.int .i64) (p3 : Int)), (16, .val (.int .i64) (x1 : Int)), (17, .val .bool (x2 : Bool))], [(32, ⟨(.pair .bool (.pair (.slice (.pair (.int .i64) (.pair (.int .i64) (.pair (.int .i64) .unit)))) .unit)), .own, ((false, [], ()) : (Bool × ((List (Int × (Int × (Int × Unit)))) × Unit))), true⟩), (64, ⟨(.pair .bool (.pair (.slice (.pair (.int .i64) (.pair (.int .i64) (.pair (.int .i64) .unit)))) .unit)), .own, (x3 : (Bool × ((List (Int × (Int × (Int × Unit)))) × Unit))), true⟩), (193, ⟨(.pair .bool (.pair (.slice (.pair (.int .i64) (.pair (.int .i64) (.pair (.int .i64) .unit)))) .unit)), .gone, ((false, [], ()) : (Bool × ((List (Int × (Int × (Int × Unit)))) × Unit))), false⟩), (226, ⟨(.slice .str), .own, (p4 : (List (List UInt8))), false⟩)]⟩
noncomputable def m13_1_body {T : Type} (p1 : List UInt8) (p2 : Bool) (p3 : Int) (p4 : (List (List UInt8))) (X1 : List UInt8 → Bool → Int → Bool → Bool → (Bool × ((List (Int × (Int × (Int × Unit)))) × Unit)) → (Int × (Int × (Int × Unit))) → Option T) (X2 : Int → Bool → (Bool × ((List (Int × (Int × (Int × Unit)))) × Unit)) → Option T) (K : Int × (Bool × ((List (Int × (Int × (Int × Unit)))) × Unit)) → Option T) (d : Int × (Bool × ((List (Int × (Int × (Int × Unit)))) × Unit))) : Option T :=
  bif (decide (d.1 < p3)) then
    bif ((decide (0 ≤ d.1)) && (decide (d.1 < ((List.length p4 : Int))))) then
      (m10 (List.getD p4 (Int.toNat d.1) ([] : List UInt8))).bind fun r12 =>
      bif (!r12.2.1) then
        X1 (List.getD p4 (Int.toNat d.1) ([] : List UInt8)) r12.2.1 d.1 (decide (d.1 < p3)) (!r12.2.1) d.2 r12.1
      else
        bif (decide (List.length d.2.2.1 + List.length [r12.1] < 1073741824)) then
          K ((IntKind.wrap .i64 (d.1 + 1)), (d.2.1, (List.append d.2.2.1 [r12.1]), d.2.2.2))
        else
          none
    else
      none
  else
    X2 d.1 (decide (d.1 < p3)) d.2
theorem m13_1_body_eq {R : Type} (p1 : List UInt8) (p2 : Bool) (p3 : Int) (p4 : (List (List UInt8))) (kk : Ex → St → Option R) (d0 d : Int × (Bool × ((List (Int × (Int × (Int × Unit)))) × Unit))) (K : St → Option R) : execL cx_m13 (loopH cx_m13) (codeAt c_m13 [1, 1, 1, 0, 1, 0, 0]) (m13_1_st p1 p2 p3 p4 d) (bodyK (restr (m13_1_st p1 p2 p3 p4 d0)) K kk) = m13_1_body p1 p2 p3 p4 (fun x1 x2 x3 x4 x5 x6 x7 => kk .ret (m13_1_x1 p1 p2 p3 p4 x1 x2 x3 x4 x5 x6 x7)) (fun x1 x2 x3 => kk (.exit 0) (m13_1_x2 p1 p2 p3 p4 x1 x2 x3)) (fun d => K (m13_1_st p1 p2 p3 p4 d)) d := by kernel_rfl
noncomputable def m13_1_p1 (p1 : List UInt8) (p2 : Bool) (p3 : Int) (p4 : (List (List UInt8))) (x1 : List UInt8) (x2 : Bool) (x3 : Int) (x4 : Bool) (x5 : Bool) (x6 : (Bool × ((List (Int × (Int × (Int × Unit)))) × Unit))) (x7 : (Int × (Int × (Int × Unit)))) : Option ((Bool × ((List (Int × (Int × (Int × Unit)))) × Unit)) × Bool × Unit) :=
  some ((false, [], ()), false, ())
theorem m13_1_p1_eq (L : Code → St → (Ex → St → Option (Tup ([((.pair .bool (.pair (.slice (.pair (.int .i64) (.pair (.int .i64) (.pair (.int .i64) .unit)))) .unit)), .own), (.bool, .own)] ++ []))) → Option (Tup ([((.pair .bool (.pair (.slice (.pair (.int .i64) (.pair (.int .i64) (.pair (.int .i64) .unit)))) .unit)), .own), (.bool, .own)] ++ []))) (p1 : List UInt8) (p2 : Bool) (p3 : Int) (p4 : (List (List UInt8))) (x1 : List UInt8) (x2 : Bool) (x3 : Int) (x4 : Bool) (x5 : Bool) (x6 : (Bool × ((List (Int × (Int × (Int × Unit)))) × Unit))) (x7 : (Int × (Int × (Int × Unit)))) : ctxL cx_m13 L c_m13 [1, 1, 1, 0, 1, 0] (finK cx_m13 [.cell 2 38, .tmp 3] false [] [((.pair .bool (.pair (.slice (.pair (.int .i64) (.pair (.int .i64) (.pair (.int .i64) .unit)))) .unit)), .own), (.bool, .own)] []) .ret (m13_1_x1 p1 p2 p3 p4 x1 x2 x3 x4 x5 x6 x7) = m13_1_p1 p1 p2 p3 p4 x1 x2 x3 x4 x5 x6 x7 := by kernel_rfl
noncomputable def m13_1_p2 (p1 : List UInt8) (p2 : Bool) (p3 : Int) (p4 : (List (List UInt8))) (x1 : Int) (x2 : Bool) (x3 : (Bool × ((List (Int × (Int × (Int × Unit)))) × Unit))) : Option ((Bool × ((List (Int × (Int × (Int × Unit)))) × Unit)) × Bool × Unit) :=
  (m32 x3).bind fun r13 =>
  bif (!r13.1) then
    some ((false, [], ()), false, ())
  else
    some (x3, true, ())
theorem m13_1_p2_eq (L : Code → St → (Ex → St → Option (Tup ([((.pair .bool (.pair (.slice (.pair (.int .i64) (.pair (.int .i64) (.pair (.int .i64) .unit)))) .unit)), .own), (.bool, .own)] ++ []))) → Option (Tup ([((.pair .bool (.pair (.slice (.pair (.int .i64) (.pair (.int .i64) (.pair (.int .i64) .unit)))) .unit)), .own), (.bool, .own)] ++ []))) (p1 : List UInt8) (p2 : Bool) (p3 : Int) (p4 : (List (List UInt8))) (x1 : Int) (x2 : Bool) (x3 : (Bool × ((List (Int × (Int × (Int × Unit)))) × Unit))) : ctxL cx_m13 L c_m13 [1, 1, 1, 0, 1, 0] (finK cx_m13 [.cell 2 38, .tmp 3] false [] [((.pair .bool (.pair (.slice (.pair (.int .i64) (.pair (.int .i64) (.pair (.int .i64) .unit)))) .unit)), .own), (.bool, .own)] []) (.exit 0) (m13_1_x2 p1 p2 p3 p4 x1 x2 x3) = m13_1_p2 p1 p2 p3 p4 x1 x2 x3 := by kernel_rfl
noncomputable def m13_1 (p1 : List UInt8) (p2 : Bool) (p3 : Int) (p4 : (List (List UInt8))) : Nat → Int × (Bool × ((List (Int × (Int × (Int × Unit)))) × Unit)) → Option ((Bool × ((List (Int × (Int × (Int × Unit)))) × Unit)) × Bool × Unit) :=
  loopM (m13_1_body p1 p2 p3 p4 (fun x1 x2 x3 x4 x5 x6 x7 => m13_1_p1 p1 p2 p3 p4 x1 x2 x3 x4 x5 x6 x7) (fun x1 x2 x3 => m13_1_p2 p1 p2 p3 p4 x1 x2 x3))
theorem m13_1_eq (p1 : List UInt8) (p2 : Bool) (p3 : Int) (p4 : (List (List UInt8))) (d : Int × (Bool × ((List (Int × (Int × (Int × Unit)))) × Unit))) : loopH cx_m13 (codeAt c_m13 [1, 1, 1, 0, 1, 0, 0]) (m13_1_st p1 p2 p3 p4 d) (ctxL cx_m13 (loopH cx_m13) c_m13 [1, 1, 1, 0, 1, 0] (finK cx_m13 [.cell 2 38, .tmp 3] false [] [((.pair .bool (.pair (.slice (.pair (.int .i64) (.pair (.int .i64) (.pair (.int .i64) .unit)))) .unit)), .own), (.bool, .own)] [])) = m13_1 p1 p2 p3 p4 fuel d := by
  refine (loop_eq (m13_1_st p1 p2 p3 p4) (m13_1_body p1 p2 p3 p4 (fun x1 x2 x3 x4 x5 x6 x7 => ctxL cx_m13 (loopH cx_m13) c_m13 [1, 1, 1, 0, 1, 0] (finK cx_m13 [.cell 2 38, .tmp 3] false [] [((.pair .bool (.pair (.slice (.pair (.int .i64) (.pair (.int .i64) (.pair (.int .i64) .unit)))) .unit)), .own), (.bool, .own)] []) .ret (m13_1_x1 p1 p2 p3 p4 x1 x2 x3 x4 x5 x6 x7)) (fun x1 x2 x3 => ctxL cx_m13 (loopH cx_m13) c_m13 [1, 1, 1, 0, 1, 0] (finK cx_m13 [.cell 2 38, .tmp 3] false [] [((.pair .bool (.pair (.slice (.pair (.int .i64) (.pair (.int .i64) (.pair (.int .i64) .unit)))) .unit)), .own), (.bool, .own)] []) (.exit 0) (m13_1_x2 p1 p2 p3 p4 x1 x2 x3))) d (fun K d2 => m13_1_body_eq p1 p2 p3 p4 _ d d2 K)).trans ?_
  unfold m13_1
  simp only [m13_1_p1_eq, m13_1_p2_eq]
noncomputable def m13_pre (F1 : List UInt8 → Bool → Int → (List (List UInt8)) → (Int × (Bool × ((List (Int × (Int × (Int × Unit)))) × Unit))) → Option ((Bool × ((List (Int × (Int × (Int × Unit)))) × Unit)) × Bool × Unit)) (a1 : List UInt8) : Option ((Bool × ((List (Int × (Int × (Int × Unit)))) × Unit)) × Bool × Unit) :=
  bif (List.beq a1 ([99, 111, 108, 108, 101, 99, 116] : List UInt8)) then
    some ((true, [], ()), true, ())
  else
    (m34 a1 ([59] : List UInt8) 7).bind fun r1 =>
    F1 a1 (List.beq a1 ([99, 111, 108, 108, 101, 99, 116] : List UInt8)) ((List.length r1.1 : Int)) r1.1 (0, false, [], ())
theorem m13_pre_eq (L : Code → St → (Ex → St → Option (Tup ([((.pair .bool (.pair (.slice (.pair (.int .i64) (.pair (.int .i64) (.pair (.int .i64) .unit)))) .unit)), .own), (.bool, .own)] ++ []))) → Option (Tup ([((.pair .bool (.pair (.slice (.pair (.int .i64) (.pair (.int .i64) (.pair (.int .i64) .unit)))) .unit)), .own), (.bool, .own)] ++ []))) (a1 : List UInt8) : runL (rs := [((.pair .bool (.pair (.slice (.pair (.int .i64) (.pair (.int .i64) (.pair (.int .i64) .unit)))) .unit)), .own), (.bool, .own)]) (os := []) cx_m13 L c_m13 [.cell 2 38, .tmp 3] false [.bor .str] [⟨.str, a1⟩] = m13_pre (fun p1 p2 p3 p4 d => L (codeAt c_m13 [1, 1, 1, 0, 1, 0, 0]) (m13_1_st p1 p2 p3 p4 d) (ctxL cx_m13 L c_m13 [1, 1, 1, 0, 1, 0] (finK cx_m13 [.cell 2 38, .tmp 3] false [] [((.pair .bool (.pair (.slice (.pair (.int .i64) (.pair (.int .i64) (.pair (.int .i64) .unit)))) .unit)), .own), (.bool, .own)] []))) a1 := by kernel_rfl
noncomputable def m13 (a1 : List UInt8) : Option ((Bool × ((List (Int × (Int × (Int × Unit)))) × Unit)) × Bool × Unit) := m13_pre (fun p1 p2 p3 p4 d => m13_1 p1 p2 p3 p4 fuel d) a1
theorem m13_eq (a1 : List UInt8) : run cx_m13 c_m13 [.cell 2 38, .tmp 3] false [.bor .str] [((.pair .bool (.pair (.slice (.pair (.int .i64) (.pair (.int .i64) (.pair (.int .i64) .unit)))) .unit)), .own), (.bool, .own)] [] [⟨.str, a1⟩] = m13 a1 := by
  rw [run_L, m13_pre_eq]
  unfold m13
  simp only [m13_1_eq]
noncomputable def ct_m13 : Ct := ⟨[.bor .str], [((.pair .bool (.pair (.slice (.pair (.int .i64) (.pair (.int .i64) (.pair (.int .i64) .unit)))) .unit)), .own), (.bool, .own)], [], M1 .str m13, false⟩
theorem h_m13 : Holds Tryz.prog kn.G 13 ct_m13 :=
  Holds.of_run (kn := kn) (env := env_m13) (kp := [0, 2, 3, 4, 6, 7, 8, 10, 14, 15, 16, 17, 26, 37]) Tryz.func13 (c := c_m13) (by kernel_rfl) tab_ok (EnvL.cons h_m10 e_m10 (EnvL.cons h_m32 e_m32 (EnvL.cons h_m34 e_m34 EnvL.nil))) (ct := ct_m13) (n := 40) (by kernel_rfl) (by kernel_rfl) (rv := [.cell 2 38, .tmp 3]) (by kernel_rfl) (M1_ok (r := run cx_m13 c_m13 [.cell 2 38, .tmp 3] false [.bor .str] [((.pair .bool (.pair (.slice (.pair (.int .i64) (.pair (.int .i64) (.pair (.int .i64) .unit)))) .unit)), .own), (.bool, .own)] []) m13_eq)
theorem e_m13 : Eng.Enters Tryz.prog 13 := Eng.Enters.of Tryz.func13 (c := c_m13) (by kernel_rfl) (by kernel_rfl)

/- loop.example/g01538/spec.l1In -/
noncomputable def env_m35 : List (Nat × Nat × Ct) := []
noncomputable def cx_m35 : Cx := mkCx kn env_m35 [0, 1, 2, 6] 15
noncomputable def c_m35 : Code := codeOf Tryz.f35
noncomputable def m35 (a1 : Int) (a2 : Int) (a3 : Int) : Option (Bool × Unit) :=
  bif (decide (a1 ≥ a2)) then
    some ((decide (a1 ≤ a3)), ())
  else
    some (false, ())
theorem m35_eq (a1 : Int) (a2 : Int) (a3 : Int) : run cx_m35 c_m35 [.tmp 6] false [.bor (.int .i64), .bor (.int .i64), .bor (.int .i64)] [(.bool, .own)] [] [⟨(.int .i64), a1⟩, ⟨(.int .i64), a2⟩, ⟨(.int .i64), a3⟩] = m35 a1 a2 a3 := by kernel_rfl
noncomputable def ct_m35 : Ct := ⟨[.bor (.int .i64), .bor (.int .i64), .bor (.int .i64)], [(.bool, .own)], [], M3 (.int .i64) (.int .i64) (.int .i64) m35, false⟩
theorem h_m35 : Holds Tryz.prog kn.G 35 ct_m35 :=
  Holds.of_run (kn := kn) (env := env_m35) (kp := [0, 1, 2, 6]) Tryz.func35 (c := c_m35) (by kernel_rfl) tab_ok EnvL.nil (ct := ct_m35) (n := 15) (by kernel_rfl) (by kernel_rfl) (rv := [.tmp 6]) (by kernel_rfl) (M3_ok (r := run cx_m35 c_m35 [.tmp 6] false [.bor (.int .i64), .bor (.int .i64), .bor (.int .i64)] [(.bool, .own)] []) m35_eq)
theorem e_m35 : Eng.Enters Tryz.prog 35 := Eng.Enters.of Tryz.func35 (c := c_m35) (by kernel_rfl) (by kernel_rfl)

/- loop.example/g01538/spec.OpOk -/
noncomputable def env_m14 : List (Nat × Nat × Ct) := [(35, 0, ct_m35), (36, 0, ct_m36)]
noncomputable def cx_m14 : Cx := mkCx kn env_m14 [0, 1, 2, 6, 21, 24] 41
noncomputable def c_m14 : Code := codeOf Tryz.f14
noncomputable def m14 (a1 : (Int × (Int × (Int × (Int × Unit))))) : Option (Bool × Unit) :=
  (m35 a1.1 1 7).bind fun r1 =>
  bif (!r1.1) then
    some (false, ())
  else
    (m36 a1.1).bind fun r2 =>
    bif (!r2.1) then
      bif (a1.2.1 != 0) then
        some (false, ())
      else
        (m35 a1.2.1 0 1).bind fun r3 =>
        bif (!r3.1) then
          some (false, ())
        else
          bif (a1.1 != 1) then
            bif (a1.2.2.1 == 0) then
              some ((a1.2.2.2.1 == 0), ())
            else
              some (false, ())
          else
            (m35 a1.2.2.1 0 100).bind fun r4 =>
            bif r4.1 then
              (m35 a1.2.2.2.1 0 65535).bind fun r5 =>
              some (r5.1, ())
            else
              some (false, ())
    else
      (m35 a1.2.1 0 1).bind fun r6 =>
      bif (!r6.1) then
        some (false, ())
      else
        bif (a1.1 != 1) then
          bif (a1.2.2.1 == 0) then
            some ((a1.2.2.2.1 == 0), ())
          else
            some (false, ())
        else
          (m35 a1.2.2.1 0 100).bind fun r7 =>
          bif r7.1 then
            (m35 a1.2.2.2.1 0 65535).bind fun r8 =>
            some (r8.1, ())
          else
            some (false, ())
theorem m14_eq (a1 : (Int × (Int × (Int × (Int × Unit))))) : run cx_m14 c_m14 [.tmp 2] false [.bor (.pair (.int .i64) (.pair (.int .i64) (.pair (.int .i64) (.pair (.int .i64) .unit))))] [(.bool, .own)] [] [⟨(.pair (.int .i64) (.pair (.int .i64) (.pair (.int .i64) (.pair (.int .i64) .unit)))), a1⟩] = m14 a1 := by kernel_rfl
noncomputable def ct_m14 : Ct := ⟨[.bor (.pair (.int .i64) (.pair (.int .i64) (.pair (.int .i64) (.pair (.int .i64) .unit))))], [(.bool, .own)], [], M1 (.pair (.int .i64) (.pair (.int .i64) (.pair (.int .i64) (.pair (.int .i64) .unit)))) m14, false⟩
theorem h_m14 : Holds Tryz.prog kn.G 14 ct_m14 :=
  Holds.of_run (kn := kn) (env := env_m14) (kp := [0, 1, 2, 6, 21, 24]) Tryz.func14 (c := c_m14) (by kernel_rfl) tab_ok (EnvL.cons h_m35 e_m35 (EnvL.cons h_m36 e_m36 EnvL.nil)) (ct := ct_m14) (n := 41) (by kernel_rfl) (by kernel_rfl) (rv := [.tmp 2]) (by kernel_rfl) (M1_ok (r := run cx_m14 c_m14 [.tmp 2] false [.bor (.pair (.int .i64) (.pair (.int .i64) (.pair (.int .i64) (.pair (.int .i64) .unit))))] [(.bool, .own)] []) m14_eq)
theorem e_m14 : Eng.Enters Tryz.prog 14 := Eng.Enters.of Tryz.func14 (c := c_m14) (by kernel_rfl) (by kernel_rfl)

/- loop.example/g01538/spec.CmdOk -/
noncomputable def env_m15 : List (Nat × Nat × Ct) := [(35, 0, ct_m35)]
noncomputable def cx_m15 : Cx := mkCx kn env_m15 [0, 1, 2, 12, 20] 27
noncomputable def c_m15 : Code := codeOf Tryz.f15
noncomputable def m15 (a1 : (Int × (Int × (Int × Unit)))) : Option (Bool × Unit) :=
  (m35 a1.1 1 4).bind fun r1 =>
  bif (!r1.1) then
    some (false, ())
  else
    (m35 a1.2.1 0 99).bind fun r2 =>
    bif (!r2.1) then
      some (false, ())
    else
      bif (a1.1 == 2) then
        (m35 a1.2.2.1 0 65535).bind fun r3 =>
        some (r3.1, ())
      else
        bif (a1.1 == 4) then
          (m35 a1.2.2.1 0 65535).bind fun r4 =>
          some (r4.1, ())
        else
          some ((a1.2.2.1 == 0), ())
theorem m15_eq (a1 : (Int × (Int × (Int × Unit)))) : run cx_m15 c_m15 [.tmp 2] false [.bor (.pair (.int .i64) (.pair (.int .i64) (.pair (.int .i64) .unit)))] [(.bool, .own)] [] [⟨(.pair (.int .i64) (.pair (.int .i64) (.pair (.int .i64) .unit))), a1⟩] = m15 a1 := by kernel_rfl
noncomputable def ct_m15 : Ct := ⟨[.bor (.pair (.int .i64) (.pair (.int .i64) (.pair (.int .i64) .unit)))], [(.bool, .own)], [], M1 (.pair (.int .i64) (.pair (.int .i64) (.pair (.int .i64) .unit))) m15, false⟩
theorem h_m15 : Holds Tryz.prog kn.G 15 ct_m15 :=
  Holds.of_run (kn := kn) (env := env_m15) (kp := [0, 1, 2, 12, 20]) Tryz.func15 (c := c_m15) (by kernel_rfl) tab_ok (EnvL.cons h_m35 e_m35 EnvL.nil) (ct := ct_m15) (n := 27) (by kernel_rfl) (by kernel_rfl) (rv := [.tmp 2]) (by kernel_rfl) (M1_ok (r := run cx_m15 c_m15 [.tmp 2] false [.bor (.pair (.int .i64) (.pair (.int .i64) (.pair (.int .i64) .unit)))] [(.bool, .own)] []) m15_eq)
theorem e_m15 : Eng.Enters Tryz.prog 15 := Eng.Enters.of Tryz.func15 (c := c_m15) (by kernel_rfl) (by kernel_rfl)

/- loop.example/g01538/spec.BatchOk -/
noncomputable def env_m16 : List (Nat × Nat × Ct) := [(15, 0, ct_m15), (35, 0, ct_m35)]
noncomputable def cx_m16 : Cx := mkCx kn env_m16 [0, 1, 2, 3, 5, 14, 23] 28
noncomputable def c_m16 : Code := codeOf Tryz.f16
noncomputable def m16_1_st (p1 : (Bool × ((List (Int × (Int × (Int × Unit)))) × Unit))) (p2 : Bool) (d : Int) : St :=
  ⟨[(0, .val (.pair .bool (.pair (.slice (.pair (.int .i64) (.pair (.int .i64) (.pair (.int .i64) .unit)))) .unit)) (p1 : (Bool × ((List (Int × (Int × (Int × Unit)))) × Unit)))), (1, .ptr 16 []), (2, .val .bool (false : Bool)), (3, .val (.int .i64) (d : Int)), (5, .val .bool (p2 : Bool))], [(16, ⟨(.pair .bool (.pair (.slice (.pair (.int .i64) (.pair (.int .i64) (.pair (.int .i64) .unit)))) .unit)), .shr, (p1 : (Bool × ((List (Int × (Int × (Int × Unit)))) × Unit))), true⟩)]⟩
noncomputable def m16_1_x1 (p1 : (Bool × ((List (Int × (Int × (Int × Unit)))) × Unit))) (p2 : Bool) (x1 : Int) (x2 : Bool) (x3 : Bool) : St :=
  ⟨[(0, .val (.pair .bool (.pair (.slice (.pair (.int .i64) (.pair (.int .i64) (.pair (.int .i64) .unit)))) .unit)) (p1 : (Bool × ((List (Int × (Int × (Int × Unit)))) × Unit)))), (1, .ptr 16 []), (2, .val .bool (false : Bool)), (3, .val (.int .i64) (x1 : Int)), (5, .val .bool (p2 : Bool)), (14, .val .bool (x2 : Bool)), (23, .val .bool (x3 : Bool))], [(16, ⟨(.pair .bool (.pair (.slice (.pair (.int .i64) (.pair (.int .i64) (.pair (.int .i64) .unit)))) .unit)), .shr, (p1 : (Bool × ((List (Int × (Int × (Int × Unit)))) × Unit))), true⟩)]⟩
noncomputable def m16_1_x2 (p1 : (Bool × ((List (Int × (Int × (Int × Unit)))) × Unit))) (p2 : Bool) (x1 : Int) (x2 : Bool) : St :=
  ⟨[(0, .val (.pair .bool (.pair (.slice (.pair (.int .i64) (.pair (.int .i64) (.pair (.int .i64) .unit)))) .unit)) (p1 : (Bool × ((List (Int × (Int × (Int × Unit)))) × Unit)))), (1, .ptr 16 []), (2, .val .bool (false : Bool)), (3, .val (.int .i64) (x1 : Int)), (5, .val .bool (p2 : Bool)), (14, .val .bool (x2 : Bool))], [(16, ⟨(.pair .bool (.pair (.slice (.pair (.int .i64) (.pair (.int .i64) (.pair (.int .i64) .unit)))) .unit)), .shr, (p1 : (Bool × ((List (Int × (Int × (Int × Unit)))) × Unit))), true⟩)]⟩
noncomputable def m16_1_body {T : Type} (p1 : (Bool × ((List (Int × (Int × (Int × Unit)))) × Unit))) (p2 : Bool) (X1 : Int → Bool → Bool → Option T) (X2 : Int → Bool → Option T) (K : Int → Option T) (d : Int) : Option T :=
  bif (decide (d < ((List.length p1.2.1 : Int)))) then
    bif ((decide (0 ≤ d)) && (decide (d < ((List.length p1.2.1 : Int))))) then
      (m15 (List.getD p1.2.1 (Int.toNat d) (0, 0, 0, ()))).bind fun r7 =>
      bif (!r7.1) then
        X1 d (decide (d < ((List.length p1.2.1 : Int)))) (!r7.1)
      else
        K (IntKind.wrap .i64 (d + 1))
    else
      none
  else
    X2 d (decide (d < ((List.length p1.2.1 : Int))))
theorem m16_1_body_eq {R : Type} (p1 : (Bool × ((List (Int × (Int × (Int × Unit)))) × Unit))) (p2 : Bool) (kk : Ex → St → Option R) (d0 d : Int) (K : St → Option R) : execL cx_m16 (loopH cx_m16) (codeAt c_m16 [1, 1, 0, 1, 0, 0]) (m16_1_st p1 p2 d) (bodyK (restr (m16_1_st p1 p2 d0)) K kk) = m16_1_body p1 p2 (fun x1 x2 x3 => kk .ret (m16_1_x1 p1 p2 x1 x2 x3)) (fun x1 x2 => kk (.exit 0) (m16_1_x2 p1 p2 x1 x2)) (fun d => K (m16_1_st p1 p2 d)) d := by kernel_rfl
noncomputable def m16_1_p1 (p1 : (Bool × ((List (Int × (Int × (Int × Unit)))) × Unit))) (p2 : Bool) (x1 : Int) (x2 : Bool) (x3 : Bool) : Option (Bool × Unit) :=
  some (false, ())
theorem m16_1_p1_eq (L : Code → St → (Ex → St → Option (Tup ([(.bool, .own)] ++ []))) → Option (Tup ([(.bool, .own)] ++ []))) (p1 : (Bool × ((List (Int × (Int × (Int × Unit)))) × Unit))) (p2 : Bool) (x1 : Int) (x2 : Bool) (x3 : Bool) : ctxL cx_m16 L c_m16 [1, 1, 0, 1, 0] (finK cx_m16 [.tmp 2] false [] [(.bool, .own)] []) .ret (m16_1_x1 p1 p2 x1 x2 x3) = m16_1_p1 p1 p2 x1 x2 x3 := by kernel_rfl
noncomputable def m16_1_p2 (p1 : (Bool × ((List (Int × (Int × (Int × Unit)))) × Unit))) (p2 : Bool) (x1 : Int) (x2 : Bool) : Option (Bool × Unit) :=
  (m35 ((List.length p1.2.1 : Int)) 1 6).bind fun r8 =>
  some (r8.1, ())
theorem m16_1_p2_eq (L : Code → St → (Ex → St → Option (Tup ([(.bool, .own)] ++ []))) → Option (Tup ([(.bool, .own)] ++ []))) (p1 : (Bool × ((List (Int × (Int × (Int × Unit)))) × Unit))) (p2 : Bool) (x1 : Int) (x2 : Bool) : ctxL cx_m16 L c_m16 [1, 1, 0, 1, 0] (finK cx_m16 [.tmp 2] false [] [(.bool, .own)] []) (.exit 0) (m16_1_x2 p1 p2 x1 x2) = m16_1_p2 p1 p2 x1 x2 := by kernel_rfl
noncomputable def m16_1 (p1 : (Bool × ((List (Int × (Int × (Int × Unit)))) × Unit))) (p2 : Bool) : Nat → Int → Option (Bool × Unit) :=
  loopM (m16_1_body p1 p2 (fun x1 x2 x3 => m16_1_p1 p1 p2 x1 x2 x3) (fun x1 x2 => m16_1_p2 p1 p2 x1 x2))
theorem m16_1_eq (p1 : (Bool × ((List (Int × (Int × (Int × Unit)))) × Unit))) (p2 : Bool) (d : Int) : loopH cx_m16 (codeAt c_m16 [1, 1, 0, 1, 0, 0]) (m16_1_st p1 p2 d) (ctxL cx_m16 (loopH cx_m16) c_m16 [1, 1, 0, 1, 0] (finK cx_m16 [.tmp 2] false [] [(.bool, .own)] [])) = m16_1 p1 p2 fuel d := by
  refine (loop_eq (m16_1_st p1 p2) (m16_1_body p1 p2 (fun x1 x2 x3 => ctxL cx_m16 (loopH cx_m16) c_m16 [1, 1, 0, 1, 0] (finK cx_m16 [.tmp 2] false [] [(.bool, .own)] []) .ret (m16_1_x1 p1 p2 x1 x2 x3)) (fun x1 x2 => ctxL cx_m16 (loopH cx_m16) c_m16 [1, 1, 0, 1, 0] (finK cx_m16 [.tmp 2] false [] [(.bool, .own)] []) (.exit 0) (m16_1_x2 p1 p2 x1 x2))) d (fun K d2 => m16_1_body_eq p1 p2 _ d d2 K)).trans ?_
  unfold m16_1
  simp only [m16_1_p1_eq, m16_1_p2_eq]
noncomputable def m16_pre (F1 : (Bool × ((List (Int × (Int × (Int × Unit)))) × Unit)) → Bool → (Int) → Option (Bool × Unit)) (a1 : (Bool × ((List (Int × (Int × (Int × Unit)))) × Unit))) : Option (Bool × Unit) :=
  bif a1.1 then
    some ((((List.length a1.2.1 : Int)) == 0), ())
  else
    F1 a1 a1.1 0
theorem m16_pre_eq (L : Code → St → (Ex → St → Option (Tup ([(.bool, .own)] ++ []))) → Option (Tup ([(.bool, .own)] ++ []))) (a1 : (Bool × ((List (Int × (Int × (Int × Unit)))) × Unit))) : runL (rs := [(.bool, .own)]) (os := []) cx_m16 L c_m16 [.tmp 2] false [.bor (.pair .bool (.pair (.slice (.pair (.int .i64) (.pair (.int .i64) (.pair (.int .i64) .unit)))) .unit))] [⟨(.pair .bool (.pair (.slice (.pair (.int .i64) (.pair (.int .i64) (.pair (.int .i64) .unit)))) .unit)), a1⟩] = m16_pre (fun p1 p2 d => L (codeAt c_m16 [1, 1, 0, 1, 0, 0]) (m16_1_st p1 p2 d) (ctxL cx_m16 L c_m16 [1, 1, 0, 1, 0] (finK cx_m16 [.tmp 2] false [] [(.bool, .own)] []))) a1 := by kernel_rfl
noncomputable def m16 (a1 : (Bool × ((List (Int × (Int × (Int × Unit)))) × Unit))) : Option (Bool × Unit) := m16_pre (fun p1 p2 d => m16_1 p1 p2 fuel d) a1
theorem m16_eq (a1 : (Bool × ((List (Int × (Int × (Int × Unit)))) × Unit))) : run cx_m16 c_m16 [.tmp 2] false [.bor (.pair .bool (.pair (.slice (.pair (.int .i64) (.pair (.int .i64) (.pair (.int .i64) .unit)))) .unit))] [(.bool, .own)] [] [⟨(.pair .bool (.pair (.slice (.pair (.int .i64) (.pair (.int .i64) (.pair (.int .i64) .unit)))) .unit)), a1⟩] = m16 a1 := by
  rw [run_L, m16_pre_eq]
  unfold m16
  simp only [m16_1_eq]
noncomputable def ct_m16 : Ct := ⟨[.bor (.pair .bool (.pair (.slice (.pair (.int .i64) (.pair (.int .i64) (.pair (.int .i64) .unit)))) .unit))], [(.bool, .own)], [], M1 (.pair .bool (.pair (.slice (.pair (.int .i64) (.pair (.int .i64) (.pair (.int .i64) .unit)))) .unit)) m16, false⟩
theorem h_m16 : Holds Tryz.prog kn.G 16 ct_m16 :=
  Holds.of_run (kn := kn) (env := env_m16) (kp := [0, 1, 2, 3, 5, 14, 23]) Tryz.func16 (c := c_m16) (by kernel_rfl) tab_ok (EnvL.cons h_m15 e_m15 (EnvL.cons h_m35 e_m35 EnvL.nil)) (ct := ct_m16) (n := 28) (by kernel_rfl) (by kernel_rfl) (rv := [.tmp 2]) (by kernel_rfl) (M1_ok (r := run cx_m16 c_m16 [.tmp 2] false [.bor (.pair .bool (.pair (.slice (.pair (.int .i64) (.pair (.int .i64) (.pair (.int .i64) .unit)))) .unit))] [(.bool, .own)] []) m16_eq)
theorem e_m16 : Eng.Enters Tryz.prog 16 := Eng.Enters.of Tryz.func16 (c := c_m16) (by kernel_rfl) (by kernel_rfl)

/- loop.example/g01538/spec.OpWord -/
noncomputable def env_m44 : List (Nat × Nat × Ct) := [(35, 0, ct_m35)]
noncomputable def cx_m44 : Cx := mkCx kn env_m44 [0, 2, 5] 11
noncomputable def c_m44 : Code := codeOf Tryz.f44
noncomputable def m44 (a1 : Int) : Option (List UInt8 × Unit) :=
  (m35 a1 1 7).bind fun r1 =>
  bif (!r1.1) then
    some (([] : List UInt8), ())
  else
    bif ((decide (0 ≤ (IntKind.wrap .i64 (a1 - 1)))) && (decide ((IntKind.wrap .i64 (a1 - 1)) < 7))) then
      some ((List.getD [([115, 101, 116] : List UInt8), ([103, 101, 116] : List UInt8), ([104, 97, 122] : List UInt8), ([99, 111, 108, 108, 101, 99, 116] : List UInt8), ([112, 105, 110] : List UInt8), ([117, 110, 112, 105, 110] : List UInt8), ([112, 101, 101, 107] : List UInt8)] (Int.toNat (IntKind.wrap .i64 (a1 - 1))) ([] : List UInt8)), ())
    else
      none
theorem m44_eq (a1 : Int) : run cx_m44 c_m44 [.tmp 2] false [.bor (.int .i64)] [(.str, .own)] [] [⟨(.int .i64), a1⟩] = m44 a1 := by kernel_rfl
noncomputable def ct_m44 : Ct := ⟨[.bor (.int .i64)], [(.str, .own)], [], M1 (.int .i64) m44, false⟩
theorem h_m44 : Holds Tryz.prog kn.G 44 ct_m44 :=
  Holds.of_run (kn := kn) (env := env_m44) (kp := [0, 2, 5]) Tryz.func44 (c := c_m44) (by kernel_rfl) tab_ok (EnvL.cons h_m35 e_m35 EnvL.nil) (ct := ct_m44) (n := 11) (by kernel_rfl) (by kernel_rfl) (rv := [.tmp 2]) (by kernel_rfl) (M1_ok (r := run cx_m44 c_m44 [.tmp 2] false [.bor (.int .i64)] [(.str, .own)] []) m44_eq)
theorem e_m44 : Eng.Enters Tryz.prog 44 := Eng.Enters.of Tryz.func44 (c := c_m44) (by kernel_rfl) (by kernel_rfl)

/- loop.example/g01538/spec.Dec -/
noncomputable def env_m59 : List (Nat × Nat × Ct) := []
noncomputable def cx_m59 : Cx := mkCx kn env_m59 [0, 2, 3, 4, 5, 7, 11, 15, 27] 31
noncomputable def c_m59 : Code := codeOf Tryz.f59
noncomputable def m59_1_st (p1 : Bool) (p2 : Bool) (d : Int × List UInt8) : St :=
  ⟨[(0, .val (.int .i64) (d.1 : Int)), (2, .val .str (([] : List UInt8) : List UInt8)), (3, .val .str (d.2 : List UInt8)), (4, .val .bool (p1 : Bool)), (7, .val .bool (p2 : Bool))], []⟩
noncomputable def m59_1_x1 (p1 : Bool) (p2 : Bool) (x1 : Int) (x2 : List UInt8) (x3 : Bool) : St :=
  ⟨[(0, .val (.int .i64) (x1 : Int)), (2, .val .str (([] : List UInt8) : List UInt8)), (3, .val .str (x2 : List UInt8)), (4, .val .bool (p1 : Bool)), (7, .val .bool (p2 : Bool)), (11, .val .bool (x3 : Bool))], []⟩
noncomputable def m59_1_body {T : Type} (p1 : Bool) (p2 : Bool) (X1 : Int → List UInt8 → Bool → Option T) (K : Int × List UInt8 → Option T) (d : Int × List UInt8) : Option T :=
  bif (d.1 != 0) then
    bif (decide ((Int.tmod d.1 10) < 0)) then
      bif (decide (List.length (List.map (fun x : Int => UInt8.ofNat (Int.toNat x)) [(IntKind.wrap .u8 (IntKind.wrap .i64 (48 + (IntKind.wrap .i64 (0 - (Int.tmod d.1 10))))))]) + List.length d.2 < 4611686018427387904)) then
        K ((IntKind.wrap .i64 (Int.tdiv d.1 10)), ((List.map (fun x : Int => UInt8.ofNat (Int.toNat x)) [(IntKind.wrap .u8 (IntKind.wrap .i64 (48 + (IntKind.wrap .i64 (0 - (Int.tmod d.1 10))))))]) ++ d.2))
      else
        none
    else
      bif (decide (List.length (List.map (fun x : Int => UInt8.ofNat (Int.toNat x)) [(IntKind.wrap .u8 (IntKind.wrap .i64 (48 + (Int.tmod d.1 10))))]) + List.length d.2 < 4611686018427387904)) then
        K ((IntKind.wrap .i64 (Int.tdiv d.1 10)), ((List.map (fun x : Int => UInt8.ofNat (Int.toNat x)) [(IntKind.wrap .u8 (IntKind.wrap .i64 (48 + (Int.tmod d.1 10))))]) ++ d.2))
      else
        none
  else
    X1 d.1 d.2 (d.1 != 0)
theorem m59_1_body_eq {R : Type} (p1 : Bool) (p2 : Bool) (kk : Ex → St → Option R) (d0 d : Int × List UInt8) (K : St → Option R) : execL cx_m59 (loopH cx_m59) (codeAt c_m59 [1, 1, 1, 1, 0, 0, 0]) (m59_1_st p1 p2 d) (bodyK (restr (m59_1_st p1 p2 d0)) K kk) = m59_1_body p1 p2 (fun x1 x2 x3 => kk (.exit 0) (m59_1_x1 p1 p2 x1 x2 x3)) (fun d => K (m59_1_st p1 p2 d)) d := by kernel_rfl
noncomputable def m59_1_p1 (p1 : Bool) (p2 : Bool) (x1 : Int) (x2 : List UInt8) (x3 : Bool) : Option (List UInt8 × Unit) :=
  bif p1 then
    bif (decide (List.length ([45] : List UInt8) + List.length x2 < 4611686018427387904)) then
      some ((([45] : List UInt8) ++ x2), ())
    else
      none
  else
    some (x2, ())
theorem m59_1_p1_eq (L : Code → St → (Ex → St → Option (Tup ([(.str, .own)] ++ []))) → Option (Tup ([(.str, .own)] ++ []))) (p1 : Bool) (p2 : Bool) (x1 : Int) (x2 : List UInt8) (x3 : Bool) : ctxL cx_m59 L c_m59 [1, 1, 1, 1, 0, 0] (finK cx_m59 [.tmp 2] false [] [(.str, .own)] []) (.exit 0) (m59_1_x1 p1 p2 x1 x2 x3) = m59_1_p1 p1 p2 x1 x2 x3 := by kernel_rfl
noncomputable def m59_1 (p1 : Bool) (p2 : Bool) : Nat → Int × List UInt8 → Option (List UInt8 × Unit) :=
  loopM (m59_1_body p1 p2 (fun x1 x2 x3 => m59_1_p1 p1 p2 x1 x2 x3))
theorem m59_1_eq (p1 : Bool) (p2 : Bool) (d : Int × List UInt8) : loopH cx_m59 (codeAt c_m59 [1, 1, 1, 1, 0, 0, 0]) (m59_1_st p1 p2 d) (ctxL cx_m59 (loopH cx_m59) c_m59 [1, 1, 1, 1, 0, 0] (finK cx_m59 [.tmp 2] false [] [(.str, .own)] [])) = m59_1 p1 p2 fuel d := by
  refine (loop_eq (m59_1_st p1 p2) (m59_1_body p1 p2 (fun x1 x2 x3 => ctxL cx_m59 (loopH cx_m59) c_m59 [1, 1, 1, 1, 0, 0] (finK cx_m59 [.tmp 2] false [] [(.str, .own)] []) (.exit 0) (m59_1_x1 p1 p2 x1 x2 x3))) d (fun K d2 => m59_1_body_eq p1 p2 _ d d2 K)).trans ?_
  unfold m59_1
  simp only [m59_1_p1_eq]
noncomputable def m59_pre (F1 : Bool → Bool → (Int × List UInt8) → Option (List UInt8 × Unit)) (a1 : Int) : Option (List UInt8 × Unit) :=
  bif (a1 == 0) then
    some (([48] : List UInt8), ())
  else
    F1 (decide (a1 < 0)) (a1 == 0) (a1, ([] : List UInt8))
theorem m59_pre_eq (L : Code → St → (Ex → St → Option (Tup ([(.str, .own)] ++ []))) → Option (Tup ([(.str, .own)] ++ []))) (a1 : Int) : runL (rs := [(.str, .own)]) (os := []) cx_m59 L c_m59 [.tmp 2] false [.bor (.int .i64)] [⟨(.int .i64), a1⟩] = m59_pre (fun p1 p2 d => L (codeAt c_m59 [1, 1, 1, 1, 0, 0, 0]) (m59_1_st p1 p2 d) (ctxL cx_m59 L c_m59 [1, 1, 1, 1, 0, 0] (finK cx_m59 [.tmp 2] false [] [(.str, .own)] []))) a1 := by kernel_rfl
noncomputable def m59 (a1 : Int) : Option (List UInt8 × Unit) := m59_pre (fun p1 p2 d => m59_1 p1 p2 fuel d) a1
theorem m59_eq (a1 : Int) : run cx_m59 c_m59 [.tmp 2] false [.bor (.int .i64)] [(.str, .own)] [] [⟨(.int .i64), a1⟩] = m59 a1 := by
  rw [run_L, m59_pre_eq]
  unfold m59
  simp only [m59_1_eq]
noncomputable def ct_m59 : Ct := ⟨[.bor (.int .i64)], [(.str, .own)], [], M1 (.int .i64) m59, false⟩
theorem h_m59 : Holds Tryz.prog kn.G 59 ct_m59 :=
  Holds.of_run (kn := kn) (env := env_m59) (kp := [0, 2, 3, 4, 5, 7, 11, 15, 27]) Tryz.func59 (c := c_m59) (by kernel_rfl) tab_ok EnvL.nil (ct := ct_m59) (n := 31) (by kernel_rfl) (by kernel_rfl) (rv := [.tmp 2]) (by kernel_rfl) (M1_ok (r := run cx_m59 c_m59 [.tmp 2] false [.bor (.int .i64)] [(.str, .own)] []) m59_eq)
theorem e_m59 : Eng.Enters Tryz.prog 59 := Eng.Enters.of Tryz.func59 (c := c_m59) (by kernel_rfl) (by kernel_rfl)

end
end Go.Proofs.YtfihmdlpikfbbaaGreatDoor
end
