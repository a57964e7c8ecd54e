/- Part 13 of 20 of a claim; what is proved, and under which conditions, stands in the last part. Here: Zm02. -/
import Derived.Test.YtfihmdlpikfbbaaGreatDoorM12
set_option linter.unusedVariables false
set_option linter.unusedSimpArgs false
set_option linter.unusedSectionVars false
section
/- Models of functions, and that they are what the functions do: strings.genSplit, strings.Split, stringslite.HasPrefix, stringslite.TrimPrefix, strings.TrimPrefix, impl.ReadDec, impl.readDecs, impl.ReadOp, spec.l21Cmd, spec.l21Any, spec.DrawShowCmd, impl.CmdOk. -/
namespace Go.Proofs.YtfihmdlpikfbbaaGreatDoor
open Go Go.Eng
set_option maxRecDepth 100000
set_option maxHeartbeats 400000
noncomputable section

/- strings.genSplit -/
noncomputable def env_m51 : List (Nat × Nat × Ct) := [(66, 0, ct_lExplode), (67, 0, ct_lCount), (68, 0, ct_lIndex)]
noncomputable def cx_m51 : Cx := mkCx kn env_m51 [0, 1, 2, 3, 8, 9, 10, 11, 13, 15, 20, 36, 41] 66
noncomputable def c_m51 : Code := codeOf Tryz.f51
noncomputable def m51_1_st (p1 : List UInt8) (p2 : Int) (p3 : Int) (p4 : Bool) (p5 : Bool) (p6 : Bool) (p7 : (List (List UInt8))) (d : List UInt8 × Int × (List (List UInt8))) : St :=
  ⟨[(0, .val .str (d.1 : List UInt8)), (1, .val .str (p1 : List UInt8)), (2, .val (.int .i64) (p2 : Int)), (3, .val (.int .i64) (p3 : Int)), (8, .place 129 []), (9, .place 145 []), (10, .val (.int .i64) (d.2.1 : Int)), (13, .val .bool (p4 : Bool)), (15, .val .bool (p5 : Bool)), (20, .val .bool (p6 : Bool))], [(129, ⟨(.slice .str), .own, ([] : (List (List UInt8))), false⟩), (145, ⟨(.slice .str), .own, (d.2.2 : (List (List UInt8))), false⟩), (497, ⟨(.slice .str), .gone, (p7 : (List (List UInt8))), false⟩)]⟩
noncomputable def m51_1_x1 (p1 : List UInt8) (p2 : Int) (p3 : Int) (p4 : Bool) (p5 : Bool) (p6 : Bool) (p7 : (List (List UInt8))) (x1 : List UInt8) (x2 : Int) (x3 : Int) (x4 : Bool) (x5 : Bool) (x6 : (List (List UInt8))) : St :=
  ⟨[(0, .val .str (x1 : List UInt8)), (1, .val .str (p1 : List UInt8)), (2, .val (.int .i64) (p2 : Int)), (3, .val (.int .i64) (p3 : Int)), (8, .place 129 []), (9, .place 145 []), (10, .val (.int .i64) (x2 : Int)), (11, .val (.int .i64) (x3 : Int)), (13, .val .bool (p4 : Bool)), (15, .val .bool (p5 : Bool)), (20, .val .bool (p6 : Bool)), (36, .val .bool (x4 : Bool)), (41, .val .bool (x5 : Bool))], [(129, ⟨(.slice .str), .own, ([] : (List (List UInt8))), false⟩), (145, ⟨(.slice .str), .own, (x6 : (List (List UInt8))), false⟩), (497, ⟨(.slice .str), .gone, (p7 : (List (List UInt8))), false⟩)]⟩
noncomputable def m51_1_x2 (p1 : List UInt8) (p2 : Int) (p3 : Int) (p4 : Bool) (p5 : Bool) (p6 : Bool) (p7 : (List (List UInt8))) (x1 : List UInt8) (x2 : Int) (x3 : Bool) (x4 : (List (List UInt8))) : St :=
  ⟨[(0, .val .str (x1 : List UInt8)), (1, .val .str (p1 : List UInt8)), (2, .val (.int .i64) (p2 : Int)), (3, .val (.int .i64) (p3 : Int)), (8, .place 129 []), (9, .place 145 []), (10, .val (.int .i64) (x2 : Int)), (13, .val .bool (p4 : Bool)), (15, .val .bool (p5 : Bool)), (20, .val .bool (p6 : Bool)), (36, .val .bool (x3 : Bool))], [(129, ⟨(.slice .str), .own, ([] : (List (List UInt8))), false⟩), (145, ⟨(.slice .str), .own, (x4 : (List (List UInt8))), false⟩), (497, ⟨(.slice .str), .gone, (p7 : (List (List UInt8))), false⟩)]⟩
noncomputable def m51_1_body {T : Type} (p1 : List UInt8) (p2 : Int) (p3 : Int) (p4 : Bool) (p5 : Bool) (p6 : Bool) (p7 : (List (List UInt8))) (X1 : List UInt8 → Int → Int → Bool → Bool → (List (List UInt8)) → Option T) (X2 : List UInt8 → Int → Bool → (List (List UInt8)) → Option T) (K : List UInt8 × Int × (List (List UInt8)) → Option T) (d : List UInt8 × Int × (List (List UInt8))) : Option T :=
  bif (decide (d.2.1 < p3)) then
    (lIndex d.1 p1).bind fun r15 =>
    bif (decide (r15.1 < 0)) then
      X1 d.1 d.2.1 r15.1 (decide (d.2.1 < p3)) (decide (r15.1 < 0)) d.2.2
    else
      bif ((decide (0 ≤ (IntKind.wrap .i64 (r15.1 + p2)))) && (decide ((IntKind.wrap .i64 (r15.1 + p2)) ≤ ((List.length d.1 : Int))))) then
        bif ((decide (0 ≤ d.2.1)) && (decide (d.2.1 < ((List.length d.2.2 : Int))))) then
          bif (((decide (0 ≤ (IntKind.wrap .i64 (r15.1 + ((List.length p1 : Int)))))) && (decide ((IntKind.wrap .i64 (r15.1 + ((List.length p1 : Int)))) ≤ ((List.length d.1 : Int))))) && (decide (((List.length d.1 : Int)) ≤ ((List.length d.1 : Int))))) then
            K ((List.drop (Int.toNat (IntKind.wrap .i64 (r15.1 + ((List.length p1 : Int))))) (List.take (Int.toNat ((List.length d.1 : Int))) d.1)), (IntKind.wrap .i64 (d.2.1 + 1)), (List.set d.2.2 (Int.toNat d.2.1) (List.drop (0) (List.take (Int.toNat (IntKind.wrap .i64 (r15.1 + p2))) d.1))))
          else
            none
        else
          none
      else
        none
  else
    X2 d.1 d.2.1 (decide (d.2.1 < p3)) d.2.2
theorem m51_1_body_eq {R : Type} (p1 : List UInt8) (p2 : Int) (p3 : Int) (p4 : Bool) (p5 : Bool) (p6 : Bool) (p7 : (List (List UInt8))) (kk : Ex → St → Option R) (d0 d : List UInt8 × Int × (List (List UInt8))) (K : St → Option R) : execL cx_m51 (loopH cx_m51) (codeAt c_m51 [1, 1, 1, 1, 1, 1, 1, 1, 0, 0, 0]) (m51_1_st p1 p2 p3 p4 p5 p6 p7 d) (bodyK (restr (m51_1_st p1 p2 p3 p4 p5 p6 p7 d0)) K kk) = m51_1_body p1 p2 p3 p4 p5 p6 p7 (fun x1 x2 x3 x4 x5 x6 => kk (.exit 0) (m51_1_x1 p1 p2 p3 p4 p5 p6 p7 x1 x2 x3 x4 x5 x6)) (fun x1 x2 x3 x4 => kk (.exit 0) (m51_1_x2 p1 p2 p3 p4 p5 p6 p7 x1 x2 x3 x4)) (fun d => K (m51_1_st p1 p2 p3 p4 p5 p6 p7 d)) d := by kernel_rfl
noncomputable def m51_1_p1 (p1 : List UInt8) (p2 : Int) (p3 : Int) (p4 : Bool) (p5 : Bool) (p6 : Bool) (p7 : (List (List UInt8))) (x1 : List UInt8) (x2 : Int) (x3 : Int) (x4 : Bool) (x5 : Bool) (x6 : (List (List UInt8))) : Option ((List (List UInt8)) × Unit) :=
  bif ((decide (0 ≤ x2)) && (decide (x2 < ((List.length x6 : Int))))) then
    bif ((decide (0 ≤ (IntKind.wrap .i64 (x2 + 1)))) && (decide ((IntKind.wrap .i64 (x2 + 1)) ≤ ((List.length (List.set x6 (Int.toNat x2) x1) : Int))))) then
      some ((List.drop (0) (List.take (Int.toNat (IntKind.wrap .i64 (x2 + 1))) (List.set x6 (Int.toNat x2) x1))), ())
    else
      none
  else
    none
theorem m51_1_p1_eq (L : Code → St → (Ex → St → Option (Tup ([((.slice .str), .own)] ++ []))) → Option (Tup ([((.slice .str), .own)] ++ []))) (p1 : List UInt8) (p2 : Int) (p3 : Int) (p4 : Bool) (p5 : Bool) (p6 : Bool) (p7 : (List (List UInt8))) (x1 : List UInt8) (x2 : Int) (x3 : Int) (x4 : Bool) (x5 : Bool) (x6 : (List (List UInt8))) : ctxL cx_m51 L c_m51 [1, 1, 1, 1, 1, 1, 1, 1, 0, 0] (finK cx_m51 [.tmp 8] false [] [((.slice .str), .own)] []) (.exit 0) (m51_1_x1 p1 p2 p3 p4 p5 p6 p7 x1 x2 x3 x4 x5 x6) = m51_1_p1 p1 p2 p3 p4 p5 p6 p7 x1 x2 x3 x4 x5 x6 := by kernel_rfl
noncomputable def m51_1_p2 (p1 : List UInt8) (p2 : Int) (p3 : Int) (p4 : Bool) (p5 : Bool) (p6 : Bool) (p7 : (List (List UInt8))) (x1 : List UInt8) (x2 : Int) (x3 : Bool) (x4 : (List (List UInt8))) : Option ((List (List UInt8)) × Unit) :=
  bif ((decide (0 ≤ x2)) && (decide (x2 < ((List.length x4 : Int))))) then
    bif ((decide (0 ≤ (IntKind.wrap .i64 (x2 + 1)))) && (decide ((IntKind.wrap .i64 (x2 + 1)) ≤ ((List.length (List.set x4 (Int.toNat x2) x1) : Int))))) then
      some ((List.drop (0) (List.take (Int.toNat (IntKind.wrap .i64 (x2 + 1))) (List.set x4 (Int.toNat x2) x1))), ())
    else
      none
  else
    none
theorem m51_1_p2_eq (L : Code → St → (Ex → St → Option (Tup ([((.slice .str), .own)] ++ []))) → Option (Tup ([((.slice .str), .own)] ++ []))) (p1 : List UInt8) (p2 : Int) (p3 : Int) (p4 : Bool) (p5 : Bool) (p6 : Bool) (p7 : (List (List UInt8))) (x1 : List UInt8) (x2 : Int) (x3 : Bool) (x4 : (List (List UInt8))) : ctxL cx_m51 L c_m51 [1, 1, 1, 1, 1, 1, 1, 1, 0, 0] (finK cx_m51 [.tmp 8] false [] [((.slice .str), .own)] []) (.exit 0) (m51_1_x2 p1 p2 p3 p4 p5 p6 p7 x1 x2 x3 x4) = m51_1_p2 p1 p2 p3 p4 p5 p6 p7 x1 x2 x3 x4 := by kernel_rfl
noncomputable def m51_1 (p1 : List UInt8) (p2 : Int) (p3 : Int) (p4 : Bool) (p5 : Bool) (p6 : Bool) (p7 : (List (List UInt8))) : Nat → List UInt8 × Int × (List (List UInt8)) → Option ((List (List UInt8)) × Unit) :=
  loopM (m51_1_body p1 p2 p3 p4 p5 p6 p7 (fun x1 x2 x3 x4 x5 x6 => m51_1_p1 p1 p2 p3 p4 p5 p6 p7 x1 x2 x3 x4 x5 x6) (fun x1 x2 x3 x4 => m51_1_p2 p1 p2 p3 p4 p5 p6 p7 x1 x2 x3 x4))
theorem m51_1_eq (p1 : List UInt8) (p2 : Int) (p3 : Int) (p4 : Bool) (p5 : Bool) (p6 : Bool) (p7 : (List (List UInt8))) (d : List UInt8 × Int × (List (List UInt8))) : loopH cx_m51 (codeAt c_m51 [1, 1, 1, 1, 1, 1, 1, 1, 0, 0, 0]) (m51_1_st p1 p2 p3 p4 p5 p6 p7 d) (ctxL cx_m51 (loopH cx_m51) c_m51 [1, 1, 1, 1, 1, 1, 1, 1, 0, 0] (finK cx_m51 [.tmp 8] false [] [((.slice .str), .own)] [])) = m51_1 p1 p2 p3 p4 p5 p6 p7 fuel d := by
  refine (loop_eq (m51_1_st p1 p2 p3 p4 p5 p6 p7) (m51_1_body p1 p2 p3 p4 p5 p6 p7 (fun x1 x2 x3 x4 x5 x6 => ctxL cx_m51 (loopH cx_m51) c_m51 [1, 1, 1, 1, 1, 1, 1, 1, 0, 0] (finK cx_m51 [.tmp 8] false [] [((.slice .str), .own)] []) (.exit 0) (m51_1_x1 p1 p2 p3 p4 p5 p6 p7 x1 x2 x3 x4 x5 x6)) (fun x1 x2 x3 x4 => ctxL cx_m51 (loopH cx_m51) c_m51 [1, 1, 1, 1, 1, 1, 1, 1, 0, 0] (finK cx_m51 [.tmp 8] false [] [((.slice .str), .own)] []) (.exit 0) (m51_1_x2 p1 p2 p3 p4 p5 p6 p7 x1 x2 x3 x4))) d (fun K d2 => m51_1_body_eq p1 p2 p3 p4 p5 p6 p7 _ d d2 K)).trans ?_
  unfold m51_1
  simp only [m51_1_p1_eq, m51_1_p2_eq]
noncomputable def m51_pre (F1 : List UInt8 → Int → Int → Bool → Bool → Bool → (List (List UInt8)) → (List UInt8 × Int × (List (List UInt8))) → Option ((List (List UInt8)) × Unit)) (a1 : List UInt8) (a2 : List UInt8) (a3 : Int) (a4 : Int) : Option ((List (List UInt8)) × Unit) :=
  bif (a4 == 0) then
    some ([], ())
  else
    bif (List.beq a2 ([] : List UInt8)) then
      (lExplode a1 a4).bind fun r1 =>
      some (r1.1, ())
    else
      bif (decide (a4 < 0)) then
        (lCount a1 a2).bind fun r2 =>
        bif (((decide (0 ≤ (bif decide ((IntKind.wrap .i64 (((List.length a1 : Int)) + 1)) < (IntKind.wrap .i64 (r2.1 + 1))) then (IntKind.wrap .i64 (((List.length a1 : Int)) + 1)) else (IntKind.wrap .i64 (r2.1 + 1))))) && (decide ((bif decide ((IntKind.wrap .i64 (((List.length a1 : Int)) + 1)) < (IntKind.wrap .i64 (r2.1 + 1))) then (IntKind.wrap .i64 (((List.length a1 : Int)) + 1)) else (IntKind.wrap .i64 (r2.1 + 1))) ≤ (bif decide ((IntKind.wrap .i64 (((List.length a1 : Int)) + 1)) < (IntKind.wrap .i64 (r2.1 + 1))) then (IntKind.wrap .i64 (((List.length a1 : Int)) + 1)) else (IntKind.wrap .i64 (r2.1 + 1)))))) && (decide ((bif decide ((IntKind.wrap .i64 (((List.length a1 : Int)) + 1)) < (IntKind.wrap .i64 (r2.1 + 1))) then (IntKind.wrap .i64 (((List.length a1 : Int)) + 1)) else (IntKind.wrap .i64 (r2.1 + 1))) < 1073741824))) then
          F1 a2 a3 (IntKind.wrap .i64 ((bif decide ((IntKind.wrap .i64 (((List.length a1 : Int)) + 1)) < (IntKind.wrap .i64 (r2.1 + 1))) then (IntKind.wrap .i64 (((List.length a1 : Int)) + 1)) else (IntKind.wrap .i64 (r2.1 + 1))) - 1)) (a4 == 0) (List.beq a2 ([] : List UInt8)) (decide (a4 < 0)) (List.replicate (Int.toNat (bif decide ((IntKind.wrap .i64 (((List.length a1 : Int)) + 1)) < (IntKind.wrap .i64 (r2.1 + 1))) then (IntKind.wrap .i64 (((List.length a1 : Int)) + 1)) else (IntKind.wrap .i64 (r2.1 + 1)))) ([] : List UInt8)) (a1, 0, (List.replicate (Int.toNat (bif decide ((IntKind.wrap .i64 (((List.length a1 : Int)) + 1)) < (IntKind.wrap .i64 (r2.1 + 1))) then (IntKind.wrap .i64 (((List.length a1 : Int)) + 1)) else (IntKind.wrap .i64 (r2.1 + 1)))) ([] : List UInt8)))
        else
          none
      else
        bif (((decide (0 ≤ (bif decide ((IntKind.wrap .i64 (((List.length a1 : Int)) + 1)) < a4) then (IntKind.wrap .i64 (((List.length a1 : Int)) + 1)) else a4))) && (decide ((bif decide ((IntKind.wrap .i64 (((List.length a1 : Int)) + 1)) < a4) then (IntKind.wrap .i64 (((List.length a1 : Int)) + 1)) else a4) ≤ (bif decide ((IntKind.wrap .i64 (((List.length a1 : Int)) + 1)) < a4) then (IntKind.wrap .i64 (((List.length a1 : Int)) + 1)) else a4)))) && (decide ((bif decide ((IntKind.wrap .i64 (((List.length a1 : Int)) + 1)) < a4) then (IntKind.wrap .i64 (((List.length a1 : Int)) + 1)) else a4) < 1073741824))) then
          F1 a2 a3 (IntKind.wrap .i64 ((bif decide ((IntKind.wrap .i64 (((List.length a1 : Int)) + 1)) < a4) then (IntKind.wrap .i64 (((List.length a1 : Int)) + 1)) else a4) - 1)) (a4 == 0) (List.beq a2 ([] : List UInt8)) (decide (a4 < 0)) (List.replicate (Int.toNat (bif decide ((IntKind.wrap .i64 (((List.length a1 : Int)) + 1)) < a4) then (IntKind.wrap .i64 (((List.length a1 : Int)) + 1)) else a4)) ([] : List UInt8)) (a1, 0, (List.replicate (Int.toNat (bif decide ((IntKind.wrap .i64 (((List.length a1 : Int)) + 1)) < a4) then (IntKind.wrap .i64 (((List.length a1 : Int)) + 1)) else a4)) ([] : List UInt8)))
        else
          none
theorem m51_pre_eq (L : Code → St → (Ex → St → Option (Tup ([((.slice .str), .own)] ++ []))) → Option (Tup ([((.slice .str), .own)] ++ []))) (a1 : List UInt8) (a2 : List UInt8) (a3 : Int) (a4 : Int) : runL (rs := [((.slice .str), .own)]) (os := []) cx_m51 L c_m51 [.tmp 8] false [.bor .str, .bor .str, .bor (.int .i64), .bor (.int .i64)] [⟨.str, a1⟩, ⟨.str, a2⟩, ⟨(.int .i64), a3⟩, ⟨(.int .i64), a4⟩] = m51_pre (fun p1 p2 p3 p4 p5 p6 p7 d => L (codeAt c_m51 [1, 1, 1, 1, 1, 1, 1, 1, 0, 0, 0]) (m51_1_st p1 p2 p3 p4 p5 p6 p7 d) (ctxL cx_m51 L c_m51 [1, 1, 1, 1, 1, 1, 1, 1, 0, 0] (finK cx_m51 [.tmp 8] false [] [((.slice .str), .own)] []))) a1 a2 a3 a4 := by kernel_rfl
noncomputable def m51 (a1 : List UInt8) (a2 : List UInt8) (a3 : Int) (a4 : Int) : Option ((List (List UInt8)) × Unit) := m51_pre (fun p1 p2 p3 p4 p5 p6 p7 d => m51_1 p1 p2 p3 p4 p5 p6 p7 fuel d) a1 a2 a3 a4
theorem m51_eq (a1 : List UInt8) (a2 : List UInt8) (a3 : Int) (a4 : Int) : run cx_m51 c_m51 [.tmp 8] false [.bor .str, .bor .str, .bor (.int .i64), .bor (.int .i64)] [((.slice .str), .own)] [] [⟨.str, a1⟩, ⟨.str, a2⟩, ⟨(.int .i64), a3⟩, ⟨(.int .i64), a4⟩] = m51 a1 a2 a3 a4 := by
  rw [run_L, m51_pre_eq]
  unfold m51
  simp only [m51_1_eq]
noncomputable def ct_m51 : Ct := ⟨[.bor .str, .bor .str, .bor (.int .i64), .bor (.int .i64)], [((.slice .str), .own)], [], M4 .str .str (.int .i64) (.int .i64) m51, false⟩
theorem h_m51 : Holds Tryz.prog kn.G 51 ct_m51 :=
  Holds.of_run (kn := kn) (env := env_m51) (kp := [0, 1, 2, 3, 8, 9, 10, 11, 13, 15, 20, 36, 41]) Tryz.func51 (c := c_m51) (by kernel_rfl) tab_ok (EnvL.cons h_lExplode e_lExplode (EnvL.cons h_lCount e_lCount (EnvL.cons h_lIndex e_lIndex EnvL.nil))) (ct := ct_m51) (n := 66) (by kernel_rfl) (by kernel_rfl) (rv := [.tmp 8]) (by kernel_rfl) (M4_ok (r := run cx_m51 c_m51 [.tmp 8] false [.bor .str, .bor .str, .bor (.int .i64), .bor (.int .i64)] [((.slice .str), .own)] []) m51_eq)
theorem e_m51 : Eng.Enters Tryz.prog 51 := Eng.Enters.of Tryz.func51 (c := c_m51) (by kernel_rfl) (by kernel_rfl)

/- strings.Split -/
noncomputable def env_m25 : List (Nat × Nat × Ct) := [(51, 0, ct_m51)]
noncomputable def cx_m25 : Cx := mkCx kn env_m25 [0, 1, 4] 8
noncomputable def c_m25 : Code := codeOf Tryz.f25
noncomputable def m25 (a1 : List UInt8) (a2 : List UInt8) : Option ((List (List UInt8)) × Unit) :=
  (m51 a1 a2 0 (-1)).bind fun r1 =>
  some (r1.1, ())
theorem m25_eq (a1 : List UInt8) (a2 : List UInt8) : run cx_m25 c_m25 [.tmp 4] false [.bor .str, .bor .str] [((.slice .str), .own)] [] [⟨.str, a1⟩, ⟨.str, a2⟩] = m25 a1 a2 := by kernel_rfl
noncomputable def ct_m25 : Ct := ⟨[.bor .str, .bor .str], [((.slice .str), .own)], [], M2 .str .str m25, false⟩
theorem h_m25 : Holds Tryz.prog kn.G 25 ct_m25 :=
  Holds.of_run (kn := kn) (env := env_m25) (kp := [0, 1, 4]) Tryz.func25 (c := c_m25) (by kernel_rfl) tab_ok (EnvL.cons h_m51 e_m51 EnvL.nil) (ct := ct_m25) (n := 8) (by kernel_rfl) (by kernel_rfl) (rv := [.tmp 4]) (by kernel_rfl) (M2_ok (r := run cx_m25 c_m25 [.tmp 4] false [.bor .str, .bor .str] [((.slice .str), .own)] []) m25_eq)
theorem e_m25 : Eng.Enters Tryz.prog 25 := Eng.Enters.of Tryz.func25 (c := c_m25) (by kernel_rfl) (by kernel_rfl)

/- internal/stringslite.HasPrefix -/
noncomputable def env_m95 : List (Nat × Nat × Ct) := []
noncomputable def cx_m95 : Cx := mkCx kn env_m95 [0, 1, 4] 18
noncomputable def c_m95 : Code := codeOf Tryz.f95
noncomputable def m95 (a1 : List UInt8) (a2 : List UInt8) : Option (Bool × Unit) :=
  bif (decide (((List.length a1 : Int)) ≥ ((List.length a2 : Int)))) then
    bif ((decide (0 ≤ ((List.length a2 : Int)))) && (decide (((List.length a2 : Int)) ≤ ((List.length a1 : Int))))) then
      some ((List.beq (List.drop (0) (List.take (Int.toNat ((List.length a2 : Int))) a1)) a2), ())
    else
      none
  else
    some (false, ())
theorem m95_eq (a1 : List UInt8) (a2 : List UInt8) : run cx_m95 c_m95 [.tmp 4] false [.bor .str, .bor .str] [(.bool, .own)] [] [⟨.str, a1⟩, ⟨.str, a2⟩] = m95 a1 a2 := by kernel_rfl
noncomputable def ct_m95 : Ct := ⟨[.bor .str, .bor .str], [(.bool, .own)], [], M2 .str .str m95, false⟩
theorem h_m95 : Holds Tryz.prog kn.G 95 ct_m95 :=
  Holds.of_run (kn := kn) (env := env_m95) (kp := [0, 1, 4]) Tryz.func95 (c := c_m95) (by kernel_rfl) tab_ok EnvL.nil (ct := ct_m95) (n := 18) (by kernel_rfl) (by kernel_rfl) (rv := [.tmp 4]) (by kernel_rfl) (M2_ok (r := run cx_m95 c_m95 [.tmp 4] false [.bor .str, .bor .str] [(.bool, .own)] []) m95_eq)
theorem e_m95 : Eng.Enters Tryz.prog 95 := Eng.Enters.of Tryz.func95 (c := c_m95) (by kernel_rfl) (by kernel_rfl)

/- internal/stringslite.TrimPrefix -/
noncomputable def env_m81 : List (Nat × Nat × Ct) := [(95, 0, ct_m95)]
noncomputable def cx_m81 : Cx := mkCx kn env_m81 [0, 1, 4, 7] 13
noncomputable def c_m81 : Code := codeOf Tryz.f81
noncomputable def m81 (a1 : List UInt8) (a2 : List UInt8) : Option (List UInt8 × Unit) :=
  (m95 a1 a2).bind fun r1 =>
  bif r1.1 then
    bif (((decide (0 ≤ ((List.length a2 : Int)))) && (decide (((List.length a2 : Int)) ≤ ((List.length a1 : Int))))) && (decide (((List.length a1 : Int)) ≤ ((List.length a1 : Int))))) then
      some ((List.drop (Int.toNat ((List.length a2 : Int))) (List.take (Int.toNat ((List.length a1 : Int))) a1)), ())
    else
      none
  else
    some (a1, ())
theorem m81_eq (a1 : List UInt8) (a2 : List UInt8) : run cx_m81 c_m81 [.tmp 4] false [.bor .str, .bor .str] [(.str, .own)] [] [⟨.str, a1⟩, ⟨.str, a2⟩] = m81 a1 a2 := by kernel_rfl
noncomputable def ct_m81 : Ct := ⟨[.bor .str, .bor .str], [(.str, .own)], [], M2 .str .str m81, false⟩
theorem h_m81 : Holds Tryz.prog kn.G 81 ct_m81 :=
  Holds.of_run (kn := kn) (env := env_m81) (kp := [0, 1, 4, 7]) Tryz.func81 (c := c_m81) (by kernel_rfl) tab_ok (EnvL.cons h_m95 e_m95 EnvL.nil) (ct := ct_m81) (n := 13) (by kernel_rfl) (by kernel_rfl) (rv := [.tmp 4]) (by kernel_rfl) (M2_ok (r := run cx_m81 c_m81 [.tmp 4] false [.bor .str, .bor .str] [(.str, .own)] []) m81_eq)
theorem e_m81 : Eng.Enters Tryz.prog 81 := Eng.Enters.of Tryz.func81 (c := c_m81) (by kernel_rfl) (by kernel_rfl)

/- strings.TrimPrefix -/
noncomputable def env_m70 : List (Nat × Nat × Ct) := [(81, 0, ct_m81)]
noncomputable def cx_m70 : Cx := mkCx kn env_m70 [0, 1, 4] 8
noncomputable def c_m70 : Code := codeOf Tryz.f70
noncomputable def m70 (a1 : List UInt8) (a2 : List UInt8) : Option (List UInt8 × Unit) :=
  (m81 a1 a2).bind fun r1 =>
  some (r1.1, ())
theorem m70_eq (a1 : List UInt8) (a2 : List UInt8) : run cx_m70 c_m70 [.tmp 4] false [.bor .str, .bor .str] [(.str, .own)] [] [⟨.str, a1⟩, ⟨.str, a2⟩] = m70 a1 a2 := by kernel_rfl
noncomputable def ct_m70 : Ct := ⟨[.bor .str, .bor .str], [(.str, .own)], [], M2 .str .str m70, false⟩
theorem h_m70 : Holds Tryz.prog kn.G 70 ct_m70 :=
  Holds.of_run (kn := kn) (env := env_m70) (kp := [0, 1, 4]) Tryz.func70 (c := c_m70) (by kernel_rfl) tab_ok (EnvL.cons h_m81 e_m81 EnvL.nil) (ct := ct_m70) (n := 8) (by kernel_rfl) (by kernel_rfl) (rv := [.tmp 4]) (by kernel_rfl) (M2_ok (r := run cx_m70 c_m70 [.tmp 4] false [.bor .str, .bor .str] [(.str, .own)] []) m70_eq)
theorem e_m70 : Eng.Enters Tryz.prog 70 := Eng.Enters.of Tryz.func70 (c := c_m70) (by kernel_rfl) (by kernel_rfl)

/- loop.example/g01538/impl.ReadDec -/
noncomputable def env_m52 : List (Nat × Nat × Ct) := [(50, 0, ct_m50), (69, 0, ct_lAtoi), (70, 0, ct_m70)]
noncomputable def cx_m52 : Cx := mkCx kn env_m52 [0, 2, 3, 4, 5, 24] 26
noncomputable def c_m52 : Code := codeOf Tryz.f52
noncomputable def m52 (a1 : List UInt8) : Option (Int × Bool × Unit) :=
  (lAtoi a1).bind fun r1 =>
  bif r1.2.1 then
    some (0, false, ())
  else
    (m50 r1.1).bind fun r2 =>
    bif (!(List.beq r2.1 a1)) then
      some (0, false, ())
    else
      (m70 a1 ([45] : List UInt8)).bind fun r3 =>
      bif (decide (((List.length r3.1 : Int)) > 9)) then
        some (0, false, ())
      else
        some (r1.1, true, ())
theorem m52_eq (a1 : List UInt8) : run cx_m52 c_m52 [.tmp 2, .tmp 3] false [.bor .str] [((.int .i64), .own), (.bool, .own)] [] [⟨.str, a1⟩] = m52 a1 := by kernel_rfl
noncomputable def ct_m52 : Ct := ⟨[.bor .str], [((.int .i64), .own), (.bool, .own)], [], M1 .str m52, false⟩
theorem h_m52 : Holds Tryz.prog kn.G 52 ct_m52 :=
  Holds.of_run (kn := kn) (env := env_m52) (kp := [0, 2, 3, 4, 5, 24]) Tryz.func52 (c := c_m52) (by kernel_rfl) tab_ok (EnvL.cons h_m50 e_m50 (EnvL.cons h_lAtoi e_lAtoi (EnvL.cons h_m70 e_m70 EnvL.nil))) (ct := ct_m52) (n := 26) (by kernel_rfl) (by kernel_rfl) (rv := [.tmp 2, .tmp 3]) (by kernel_rfl) (M1_ok (r := run cx_m52 c_m52 [.tmp 2, .tmp 3] false [.bor .str] [((.int .i64), .own), (.bool, .own)] []) m52_eq)
theorem e_m52 : Eng.Enters Tryz.prog 52 := Eng.Enters.of Tryz.func52 (c := c_m52) (by kernel_rfl) (by kernel_rfl)

/- loop.example/g01538/impl.readDecs -/
noncomputable def env_m26 : List (Nat × Nat × Ct) := [(52, 0, ct_m52)]
noncomputable def cx_m26 : Cx := mkCx kn env_m26 [0, 2, 3, 4, 5, 11, 12, 13, 14] 27
noncomputable def c_m26 : Code := codeOf Tryz.f26
noncomputable def m26_1_st (p1 : (List (List UInt8))) (p2 : (List (List UInt8))) (p3 : Int) (d : Int × (List Int)) : St :=
  ⟨[(0, .val (.slice .str) (p1 : (List (List UInt8)))), (2, .ptr 32 []), (3, .ptr 48 []), (11, .val (.slice .str) (p2 : (List (List UInt8)))), (12, .val (.int .i64) (p3 : Int)), (13, .val (.int .i64) (d.1 : Int))], [(32, ⟨(.arr 3 (.int .i64)), .own, ([0, 0, 0] : (List Int)), true⟩), (48, ⟨(.arr 3 (.int .i64)), .own, (d.2 : (List Int)), true⟩)]⟩
noncomputable def m26_1_x1 (p1 : (List (List UInt8))) (p2 : (List (List UInt8))) (p3 : Int) (x1 : Int) (x2 : Bool) (x3 : (List Int)) : St :=
  ⟨[(0, .val (.slice .str) (p1 : (List (List UInt8)))), (2, .ptr 32 []), (3, .ptr 48 []), (11, .val (.slice .str) (p2 : (List (List UInt8)))), (12, .val (.int .i64) (p3 : Int)), (13, .val (.int .i64) (x1 : Int)), (14, .val .bool (x2 : Bool))], [(32, ⟨(.arr 3 (.int .i64)), .own, ([0, 0, 0] : (List Int)), true⟩), (48, ⟨(.arr 3 (.int .i64)), .own, (x3 : (List Int)), true⟩)]⟩
noncomputable def m26_1_body {T : Type} (p1 : (List (List UInt8))) (p2 : (List (List UInt8))) (p3 : Int) (X1 : Int → Bool → (List Int) → Option T) (K : Int × (List Int) → Option T) (d : Int × (List Int)) : Option T :=
  bif (decide (d.1 < p3)) then
    bif ((decide (0 ≤ d.1)) && (decide (d.1 < ((List.length p2 : Int))))) then
      (m52 (List.getD p2 (Int.toNat d.1) ([] : List UInt8))).bind fun r8 =>
      bif ((decide (0 ≤ d.1)) && (decide (d.1 < 3))) then
        K ((IntKind.wrap .i64 (d.1 + 1)), (List.set d.2 (Int.toNat d.1) r8.1))
      else
        none
    else
      none
  else
    X1 d.1 (decide (d.1 < p3)) d.2
theorem m26_1_body_eq {R : Type} (p1 : (List (List UInt8))) (p2 : (List (List UInt8))) (p3 : Int) (kk : Ex → St → Option R) (d0 d : Int × (List Int)) (K : St → Option R) : execL cx_m26 (loopH cx_m26) (codeAt c_m26 [1, 1, 0, 1, 0, 0]) (m26_1_st p1 p2 p3 d) (bodyK (restr (m26_1_st p1 p2 p3 d0)) K kk) = m26_1_body p1 p2 p3 (fun x1 x2 x3 => kk (.exit 0) (m26_1_x1 p1 p2 p3 x1 x2 x3)) (fun d => K (m26_1_st p1 p2 p3 d)) d := by kernel_rfl
noncomputable def m26_1_p1 (p1 : (List (List UInt8))) (p2 : (List (List UInt8))) (p3 : Int) (x1 : Int) (x2 : Bool) (x3 : (List Int)) : Option ((List Int) × Unit) :=
  some (x3, ())
theorem m26_1_p1_eq (L : Code → St → (Ex → St → Option (Tup ([((.arr 3 (.int .i64)), .own)] ++ []))) → Option (Tup ([((.arr 3 (.int .i64)), .own)] ++ []))) (p1 : (List (List UInt8))) (p2 : (List (List UInt8))) (p3 : Int) (x1 : Int) (x2 : Bool) (x3 : (List Int)) : ctxL cx_m26 L c_m26 [1, 1, 0, 1, 0] (finK cx_m26 [.cell 2 51] false [] [((.arr 3 (.int .i64)), .own)] []) (.exit 0) (m26_1_x1 p1 p2 p3 x1 x2 x3) = m26_1_p1 p1 p2 p3 x1 x2 x3 := by kernel_rfl
noncomputable def m26_1 (p1 : (List (List UInt8))) (p2 : (List (List UInt8))) (p3 : Int) : Nat → Int × (List Int) → Option ((List Int) × Unit) :=
  loopM (m26_1_body p1 p2 p3 (fun x1 x2 x3 => m26_1_p1 p1 p2 p3 x1 x2 x3))
theorem m26_1_eq (p1 : (List (List UInt8))) (p2 : (List (List UInt8))) (p3 : Int) (d : Int × (List Int)) : loopH cx_m26 (codeAt c_m26 [1, 1, 0, 1, 0, 0]) (m26_1_st p1 p2 p3 d) (ctxL cx_m26 (loopH cx_m26) c_m26 [1, 1, 0, 1, 0] (finK cx_m26 [.cell 2 51] false [] [((.arr 3 (.int .i64)), .own)] [])) = m26_1 p1 p2 p3 fuel d := by
  refine (loop_eq (m26_1_st p1 p2 p3) (m26_1_body p1 p2 p3 (fun x1 x2 x3 => ctxL cx_m26 (loopH cx_m26) c_m26 [1, 1, 0, 1, 0] (finK cx_m26 [.cell 2 51] false [] [((.arr 3 (.int .i64)), .own)] []) (.exit 0) (m26_1_x1 p1 p2 p3 x1 x2 x3))) d (fun K d2 => m26_1_body_eq p1 p2 p3 _ d d2 K)).trans ?_
  unfold m26_1
  simp only [m26_1_p1_eq]
noncomputable def m26_pre (F1 : (List (List UInt8)) → (List (List UInt8)) → Int → (Int × (List Int)) → Option ((List Int) × Unit)) (a1 : (List (List UInt8))) : Option ((List Int) × Unit) :=
  bif ((decide (0 ≤ (bif decide (3 < ((List.length a1 : Int))) then 3 else ((List.length a1 : Int))))) && (decide ((bif decide (3 < ((List.length a1 : Int))) then 3 else ((List.length a1 : Int))) ≤ ((List.length a1 : Int))))) then
    F1 a1 (List.drop (0) (List.take (Int.toNat (bif decide (3 < ((List.length a1 : Int))) then 3 else ((List.length a1 : Int)))) a1)) ((List.length (List.drop (0) (List.take (Int.toNat (bif decide (3 < ((List.length a1 : Int))) then 3 else ((List.length a1 : Int)))) a1)) : Int)) (0, [0, 0, 0])
  else
    none
theorem m26_pre_eq (L : Code → St → (Ex → St → Option (Tup ([((.arr 3 (.int .i64)), .own)] ++ []))) → Option (Tup ([((.arr 3 (.int .i64)), .own)] ++ []))) (a1 : (List (List UInt8))) : runL (rs := [((.arr 3 (.int .i64)), .own)]) (os := []) cx_m26 L c_m26 [.cell 2 51] false [.bor (.slice .str)] [⟨(.slice .str), a1⟩] = m26_pre (fun p1 p2 p3 d => L (codeAt c_m26 [1, 1, 0, 1, 0, 0]) (m26_1_st p1 p2 p3 d) (ctxL cx_m26 L c_m26 [1, 1, 0, 1, 0] (finK cx_m26 [.cell 2 51] false [] [((.arr 3 (.int .i64)), .own)] []))) a1 := by kernel_rfl
noncomputable def m26 (a1 : (List (List UInt8))) : Option ((List Int) × Unit) := m26_pre (fun p1 p2 p3 d => m26_1 p1 p2 p3 fuel d) a1
theorem m26_eq (a1 : (List (List UInt8))) : run cx_m26 c_m26 [.cell 2 51] false [.bor (.slice .str)] [((.arr 3 (.int .i64)), .own)] [] [⟨(.slice .str), a1⟩] = m26 a1 := by
  rw [run_L, m26_pre_eq]
  unfold m26
  simp only [m26_1_eq]
noncomputable def ct_m26 : Ct := ⟨[.bor (.slice .str)], [((.arr 3 (.int .i64)), .own)], [], M1 (.slice .str) m26, false⟩
theorem h_m26 : Holds Tryz.prog kn.G 26 ct_m26 :=
  Holds.of_run (kn := kn) (env := env_m26) (kp := [0, 2, 3, 4, 5, 11, 12, 13, 14]) Tryz.func26 (c := c_m26) (by kernel_rfl) tab_ok (EnvL.cons h_m52 e_m52 EnvL.nil) (ct := ct_m26) (n := 27) (by kernel_rfl) (by kernel_rfl) (rv := [.cell 2 51]) (by kernel_rfl) (M1_ok (r := run cx_m26 c_m26 [.cell 2 51] false [.bor (.slice .str)] [((.arr 3 (.int .i64)), .own)] []) m26_eq)
theorem e_m26 : Eng.Enters Tryz.prog 26 := Eng.Enters.of Tryz.func26 (c := c_m26) (by kernel_rfl) (by kernel_rfl)

/- loop.example/g01538/impl.ReadOp -/
noncomputable def env_m7 : List (Nat × Nat × Ct) := [(6, 0, ct_m6), (25, 0, ct_m25), (26, 0, ct_m26)]
noncomputable def cx_m7 : Cx := mkCx kn env_m7 [0, 2, 3, 4, 5, 6, 7, 14, 32] 35
noncomputable def c_m7 : Code := codeOf Tryz.f7
noncomputable def m7_1_st (p1 : List UInt8) (p2 : (List (List UInt8))) (p3 : (List Int)) (d : Int) : St :=
  ⟨[(0, .val .str (p1 : List UInt8)), (2, .ptr 32 []), (3, .val .bool (false : Bool)), (4, .place 65 []), (5, .ptr 80 []), (6, .val (.int .i64) (d : Int))], [(32, ⟨(.pair (.int .i64) (.pair (.int .i64) (.pair (.int .i64) (.pair (.int .i64) .unit)))), .own, ((0, 0, 0, 0, ()) : (Int × (Int × (Int × (Int × Unit))))), true⟩), (65, ⟨(.slice .str), .own, (p2 : (List (List UInt8))), false⟩), (80, ⟨(.arr 3 (.int .i64)), .own, (p3 : (List Int)), true⟩), (146, ⟨(.slice .str), .gone, (p2 : (List (List UInt8))), false⟩)]⟩
noncomputable def m7_1_x1 (p1 : List UInt8) (p2 : (List (List UInt8))) (p3 : (List Int)) (x1 : Int) (x2 : Bool) (x3 : Bool) (x4 : (Int × (Int × (Int × (Int × Unit))))) : St :=
  ⟨[(0, .val .str (p1 : List UInt8)), (2, .ptr 32 []), (3, .val .bool (true : Bool)), (4, .place 65 []), (5, .ptr 80 []), (6, .val (.int .i64) (x1 : Int)), (7, .ptr 112 []), (14, .val .bool (x2 : Bool)), (32, .val .bool (x3 : Bool))], [(32, ⟨(.pair (.int .i64) (.pair (.int .i64) (.pair (.int .i64) (.pair (.int .i64) .unit)))), .own, (x4 : (Int × (Int × (Int × (Int × Unit))))), true⟩), (65, ⟨(.slice .str), .own, (p2 : (List (List UInt8))), false⟩), (80, ⟨(.arr 3 (.int .i64)), .own, (p3 : (List Int)), true⟩), (112, ⟨(.pair (.int .i64) (.pair (.int .i64) (.pair (.int .i64) (.pair (.int .i64) .unit)))), .own, (x4 : (Int × (Int × (Int × (Int × Unit))))), true⟩), (146, ⟨(.slice .str), .gone, (p2 : (List (List UInt8))), false⟩)]⟩
noncomputable def m7_1_x2 (p1 : List UInt8) (p2 : (List (List UInt8))) (p3 : (List Int)) (x1 : Int) (x2 : Bool) : St :=
  ⟨[(0, .val .str (p1 : List UInt8)), (2, .ptr 32 []), (3, .val .bool (false : Bool)), (4, .place 65 []), (5, .ptr 80 []), (6, .val (.int .i64) (x1 : Int)), (14, .val .bool (x2 : Bool))], [(32, ⟨(.pair (.int .i64) (.pair (.int .i64) (.pair (.int .i64) (.pair (.int .i64) .unit)))), .own, ((0, 0, 0, 0, ()) : (Int × (Int × (Int × (Int × Unit))))), true⟩), (65, ⟨(.slice .str), .own, (p2 : (List (List UInt8))), false⟩), (80, ⟨(.arr 3 (.int .i64)), .own, (p3 : (List Int)), true⟩), (146, ⟨(.slice .str), .gone, (p2 : (List (List UInt8))), false⟩)]⟩
noncomputable def m7_1_body {T : Type} (p1 : List UInt8) (p2 : (List (List UInt8))) (p3 : (List Int)) (X1 : Int → Bool → Bool → (Int × (Int × (Int × (Int × Unit)))) → Option T) (X2 : Int → Bool → Option T) (K : Int → Option T) (d : Int) : Option T :=
  bif (decide (d ≤ 7)) then
    bif (!(List.beq p1 ([] : List UInt8))) then
      (m6 (d, (List.getD p3 0 0), (List.getD p3 1 0), (List.getD p3 2 0), ())).bind fun r11 =>
      bif (List.beq r11.1 p1) then
        X1 d (decide (d ≤ 7)) (List.beq r11.1 p1) (d, (List.getD p3 0 0), (List.getD p3 1 0), (List.getD p3 2 0), ())
      else
        K (IntKind.wrap .i64 (d + 1))
    else
      K (IntKind.wrap .i64 (d + 1))
  else
    X2 d (decide (d ≤ 7))
theorem m7_1_body_eq {R : Type} (p1 : List UInt8) (p2 : (List (List UInt8))) (p3 : (List Int)) (kk : Ex → St → Option R) (d0 d : Int) (K : St → Option R) : execL cx_m7 (loopH cx_m7) (codeAt c_m7 [1, 1, 1, 0, 1, 0, 0]) (m7_1_st p1 p2 p3 d) (bodyK (restr (m7_1_st p1 p2 p3 d0)) K kk) = m7_1_body p1 p2 p3 (fun x1 x2 x3 x4 => kk .ret (m7_1_x1 p1 p2 p3 x1 x2 x3 x4)) (fun x1 x2 => kk (.exit 0) (m7_1_x2 p1 p2 p3 x1 x2)) (fun d => K (m7_1_st p1 p2 p3 d)) d := by kernel_rfl
noncomputable def m7_1_p1 (p1 : List UInt8) (p2 : (List (List UInt8))) (p3 : (List Int)) (x1 : Int) (x2 : Bool) (x3 : Bool) (x4 : (Int × (Int × (Int × (Int × Unit))))) : Option ((Int × (Int × (Int × (Int × Unit)))) × Bool × Unit) :=
  some (x4, true, ())
theorem m7_1_p1_eq (L : Code → St → (Ex → St → Option (Tup ([((.pair (.int .i64) (.pair (.int .i64) (.pair (.int .i64) (.pair (.int .i64) .unit)))), .own), (.bool, .own)] ++ []))) → Option (Tup ([((.pair (.int .i64) (.pair (.int .i64) (.pair (.int .i64) (.pair (.int .i64) .unit)))), .own), (.bool, .own)] ++ []))) (p1 : List UInt8) (p2 : (List (List UInt8))) (p3 : (List Int)) (x1 : Int) (x2 : Bool) (x3 : Bool) (x4 : (Int × (Int × (Int × (Int × Unit))))) : ctxL cx_m7 L c_m7 [1, 1, 1, 0, 1, 0] (finK cx_m7 [.cell 2 25, .tmp 3] false [] [((.pair (.int .i64) (.pair (.int .i64) (.pair (.int .i64) (.pair (.int .i64) .unit)))), .own), (.bool, .own)] []) .ret (m7_1_x1 p1 p2 p3 x1 x2 x3 x4) = m7_1_p1 p1 p2 p3 x1 x2 x3 x4 := by kernel_rfl
noncomputable def m7_1_p2 (p1 : List UInt8) (p2 : (List (List UInt8))) (p3 : (List Int)) (x1 : Int) (x2 : Bool) : Option ((Int × (Int × (Int × (Int × Unit)))) × Bool × Unit) :=
  some ((0, 0, 0, 0, ()), false, ())
theorem m7_1_p2_eq (L : Code → St → (Ex → St → Option (Tup ([((.pair (.int .i64) (.pair (.int .i64) (.pair (.int .i64) (.pair (.int .i64) .unit)))), .own), (.bool, .own)] ++ []))) → Option (Tup ([((.pair (.int .i64) (.pair (.int .i64) (.pair (.int .i64) (.pair (.int .i64) .unit)))), .own), (.bool, .own)] ++ []))) (p1 : List UInt8) (p2 : (List (List UInt8))) (p3 : (List Int)) (x1 : Int) (x2 : Bool) : ctxL cx_m7 L c_m7 [1, 1, 1, 0, 1, 0] (finK cx_m7 [.cell 2 25, .tmp 3] false [] [((.pair (.int .i64) (.pair (.int .i64) (.pair (.int .i64) (.pair (.int .i64) .unit)))), .own), (.bool, .own)] []) (.exit 0) (m7_1_x2 p1 p2 p3 x1 x2) = m7_1_p2 p1 p2 p3 x1 x2 := by kernel_rfl
noncomputable def m7_1 (p1 : List UInt8) (p2 : (List (List UInt8))) (p3 : (List Int)) : Nat → Int → Option ((Int × (Int × (Int × (Int × Unit)))) × Bool × Unit) :=
  loopM (m7_1_body p1 p2 p3 (fun x1 x2 x3 x4 => m7_1_p1 p1 p2 p3 x1 x2 x3 x4) (fun x1 x2 => m7_1_p2 p1 p2 p3 x1 x2))
theorem m7_1_eq (p1 : List UInt8) (p2 : (List (List UInt8))) (p3 : (List Int)) (d : Int) : loopH cx_m7 (codeAt c_m7 [1, 1, 1, 0, 1, 0, 0]) (m7_1_st p1 p2 p3 d) (ctxL cx_m7 (loopH cx_m7) c_m7 [1, 1, 1, 0, 1, 0] (finK cx_m7 [.cell 2 25, .tmp 3] false [] [((.pair (.int .i64) (.pair (.int .i64) (.pair (.int .i64) (.pair (.int .i64) .unit)))), .own), (.bool, .own)] [])) = m7_1 p1 p2 p3 fuel d := by
  refine (loop_eq (m7_1_st p1 p2 p3) (m7_1_body p1 p2 p3 (fun x1 x2 x3 x4 => ctxL cx_m7 (loopH cx_m7) c_m7 [1, 1, 1, 0, 1, 0] (finK cx_m7 [.cell 2 25, .tmp 3] false [] [((.pair (.int .i64) (.pair (.int .i64) (.pair (.int .i64) (.pair (.int .i64) .unit)))), .own), (.bool, .own)] []) .ret (m7_1_x1 p1 p2 p3 x1 x2 x3 x4)) (fun x1 x2 => ctxL cx_m7 (loopH cx_m7) c_m7 [1, 1, 1, 0, 1, 0] (finK cx_m7 [.cell 2 25, .tmp 3] false [] [((.pair (.int .i64) (.pair (.int .i64) (.pair (.int .i64) (.pair (.int .i64) .unit)))), .own), (.bool, .own)] []) (.exit 0) (m7_1_x2 p1 p2 p3 x1 x2))) d (fun K d2 => m7_1_body_eq p1 p2 p3 _ d d2 K)).trans ?_
  unfold m7_1
  simp only [m7_1_p1_eq, m7_1_p2_eq]
noncomputable def m7_pre (F1 : List UInt8 → (List (List UInt8)) → (List Int) → (Int) → Option ((Int × (Int × (Int × (Int × Unit)))) × Bool × Unit)) (a1 : List UInt8) : Option ((Int × (Int × (Int × (Int × Unit)))) × Bool × Unit) :=
  (m25 a1 ([32] : List UInt8)).bind fun r1 =>
  bif ((decide (1 ≤ ((List.length r1.1 : Int)))) && (decide (((List.length r1.1 : Int)) ≤ ((List.length r1.1 : Int))))) then
    (m26 (List.drop (1) (List.take (Int.toNat ((List.length r1.1 : Int))) r1.1))).bind fun r2 =>
    F1 a1 r1.1 r2.1 1
  else
    none
theorem m7_pre_eq (L : Code → St → (Ex → St → Option (Tup ([((.pair (.int .i64) (.pair (.int .i64) (.pair (.int .i64) (.pair (.int .i64) .unit)))), .own), (.bool, .own)] ++ []))) → Option (Tup ([((.pair (.int .i64) (.pair (.int .i64) (.pair (.int .i64) (.pair (.int .i64) .unit)))), .own), (.bool, .own)] ++ []))) (a1 : List UInt8) : runL (rs := [((.pair (.int .i64) (.pair (.int .i64) (.pair (.int .i64) (.pair (.int .i64) .unit)))), .own), (.bool, .own)]) (os := []) cx_m7 L c_m7 [.cell 2 25, .tmp 3] false [.bor .str] [⟨.str, a1⟩] = m7_pre (fun p1 p2 p3 d => L (codeAt c_m7 [1, 1, 1, 0, 1, 0, 0]) (m7_1_st p1 p2 p3 d) (ctxL cx_m7 L c_m7 [1, 1, 1, 0, 1, 0] (finK cx_m7 [.cell 2 25, .tmp 3] false [] [((.pair (.int .i64) (.pair (.int .i64) (.pair (.int .i64) (.pair (.int .i64) .unit)))), .own), (.bool, .own)] []))) a1 := by kernel_rfl
noncomputable def m7 (a1 : List UInt8) : Option ((Int × (Int × (Int × (Int × Unit)))) × Bool × Unit) := m7_pre (fun p1 p2 p3 d => m7_1 p1 p2 p3 fuel d) a1
theorem m7_eq (a1 : List UInt8) : run cx_m7 c_m7 [.cell 2 25, .tmp 3] false [.bor .str] [((.pair (.int .i64) (.pair (.int .i64) (.pair (.int .i64) (.pair (.int .i64) .unit)))), .own), (.bool, .own)] [] [⟨.str, a1⟩] = m7 a1 := by
  rw [run_L, m7_pre_eq]
  unfold m7
  simp only [m7_1_eq]
noncomputable def ct_m7 : Ct := ⟨[.bor .str], [((.pair (.int .i64) (.pair (.int .i64) (.pair (.int .i64) (.pair (.int .i64) .unit)))), .own), (.bool, .own)], [], M1 .str m7, false⟩
theorem h_m7 : Holds Tryz.prog kn.G 7 ct_m7 :=
  Holds.of_run (kn := kn) (env := env_m7) (kp := [0, 2, 3, 4, 5, 6, 7, 14, 32]) Tryz.func7 (c := c_m7) (by kernel_rfl) tab_ok (EnvL.cons h_m6 e_m6 (EnvL.cons h_m25 e_m25 (EnvL.cons h_m26 e_m26 EnvL.nil))) (ct := ct_m7) (n := 35) (by kernel_rfl) (by kernel_rfl) (rv := [.cell 2 25, .tmp 3]) (by kernel_rfl) (M1_ok (r := run cx_m7 c_m7 [.cell 2 25, .tmp 3] false [.bor .str] [((.pair (.int .i64) (.pair (.int .i64) (.pair (.int .i64) (.pair (.int .i64) .unit)))), .own), (.bool, .own)] []) m7_eq)
theorem e_m7 : Eng.Enters Tryz.prog 7 := Eng.Enters.of Tryz.func7 (c := c_m7) (by kernel_rfl) (by kernel_rfl)

/- loop.example/g01538/spec.l21Cmd -/
noncomputable def env_m53 : List (Nat × Nat × Ct) := [(39, 0, ct_m39), (48, 0, ct_m48)]
noncomputable def cx_m53 : Cx := mkCx kn env_m53 [0, 2, 3, 17] 25
noncomputable def c_m53 : Code := codeOf Tryz.f53
noncomputable def m53 (a1 : ((List Int) × (Int × (Int × Unit)))) : Option ((Int × (Int × (Int × Unit))) × ((List Int) × (Int × (Int × Unit))) × Unit) :=
  (m48 a1 [1, 1, 2, 2, 3, 4, 4]).bind fun r1 =>
  (m39 r1.2.1 6).bind fun r2 =>
  bif (r1.1 == 2) then
    (m39 r2.2.1 60000).bind fun r3 =>
    (m48 r3.2.1 [1, 65535, r3.1]).bind fun r4 =>
    some ((r1.1, r2.1, r4.1, ()), r4.2.1, ())
  else
    bif (r1.1 == 4) then
      (m39 r2.2.1 60000).bind fun r5 =>
      (m48 r5.2.1 [1, 65535, r5.1]).bind fun r6 =>
      some ((r1.1, r2.1, r6.1, ()), r6.2.1, ())
    else
      some ((r1.1, r2.1, 0, ()), r2.2.1, ())
theorem m53_eq (a1 : ((List Int) × (Int × (Int × Unit)))) : run cx_m53 c_m53 [.cell 2 31] false [.ptr (.pair (.slice (.int .u8)) (.pair (.int .i64) (.pair (.int .i64) .unit))) (.pair .shr .own)] [((.pair (.int .i64) (.pair (.int .i64) (.pair (.int .i64) .unit))), .own)] [((.pair (.slice (.int .u8)) (.pair (.int .i64) (.pair (.int .i64) .unit))), (.pair .shr .own))] [⟨(.pair (.slice (.int .u8)) (.pair (.int .i64) (.pair (.int .i64) .unit))), a1⟩] = m53 a1 := by kernel_rfl
noncomputable def ct_m53 : Ct := ⟨[.ptr (.pair (.slice (.int .u8)) (.pair (.int .i64) (.pair (.int .i64) .unit))) (.pair .shr .own)], [((.pair (.int .i64) (.pair (.int .i64) (.pair (.int .i64) .unit))), .own)], [((.pair (.slice (.int .u8)) (.pair (.int .i64) (.pair (.int .i64) .unit))), (.pair .shr .own))], M1 (.pair (.slice (.int .u8)) (.pair (.int .i64) (.pair (.int .i64) .unit))) m53, false⟩
theorem h_m53 : Holds Tryz.prog kn.G 53 ct_m53 :=
  Holds.of_run (kn := kn) (env := env_m53) (kp := [0, 2, 3, 17]) Tryz.func53 (c := c_m53) (by kernel_rfl) tab_ok (EnvL.cons h_m39 e_m39 (EnvL.cons h_m48 e_m48 EnvL.nil)) (ct := ct_m53) (n := 25) (by kernel_rfl) (by kernel_rfl) (rv := [.cell 2 31]) (by kernel_rfl) (M1_ok (r := run cx_m53 c_m53 [.cell 2 31] false [.ptr (.pair (.slice (.int .u8)) (.pair (.int .i64) (.pair (.int .i64) .unit))) (.pair .shr .own)] [((.pair (.int .i64) (.pair (.int .i64) (.pair (.int .i64) .unit))), .own)] [((.pair (.slice (.int .u8)) (.pair (.int .i64) (.pair (.int .i64) .unit))), (.pair .shr .own))]) m53_eq)
theorem e_m53 : Eng.Enters Tryz.prog 53 := Eng.Enters.of Tryz.func53 (c := c_m53) (by kernel_rfl) (by kernel_rfl)

/- loop.example/g01538/spec.l21Any -/
noncomputable def env_m27 : List (Nat × Nat × Ct) := [(39, 0, ct_m39), (48, 0, ct_m48), (53, 0, ct_m53)]
noncomputable def cx_m27 : Cx := mkCx kn env_m27 [0, 2, 3, 7, 8, 14, 20] 27
noncomputable def c_m27 : Code := codeOf Tryz.f27
noncomputable def m27 (a1 : ((List Int) × (Int × (Int × Unit)))) : Option ((Int × (Int × (Int × Unit))) × ((List Int) × (Int × (Int × Unit))) × Unit) :=
  (m53 a1).bind fun r1 =>
  (m39 r1.2.1 14).bind fun r2 =>
  bif (r2.1 == 0) then
    (m48 r2.2.1 [0, 5]).bind fun r3 =>
    some ((r3.1, r1.1.2), r3.2.1, ())
  else
    bif (r2.1 == 1) then
      (m48 r2.2.1 [(-1), 99, 100]).bind fun r4 =>
      some ((r1.1.1, r4.1, r1.1.2.2), r4.2.1, ())
    else
      bif (r2.1 == 2) then
        (m48 r2.2.1 [(-1), 65536, 1, 0]).bind fun r5 =>
        some ((r1.1.1, r1.1.2.1, r5.1, r1.1.2.2.2), r5.2.1, ())
      else
        some (r1.1, r2.2.1, ())
theorem m27_eq (a1 : ((List Int) × (Int × (Int × Unit)))) : run cx_m27 c_m27 [.cell 2 31] false [.ptr (.pair (.slice (.int .u8)) (.pair (.int .i64) (.pair (.int .i64) .unit))) (.pair .shr .own)] [((.pair (.int .i64) (.pair (.int .i64) (.pair (.int .i64) .unit))), .own)] [((.pair (.slice (.int .u8)) (.pair (.int .i64) (.pair (.int .i64) .unit))), (.pair .shr .own))] [⟨(.pair (.slice (.int .u8)) (.pair (.int .i64) (.pair (.int .i64) .unit))), a1⟩] = m27 a1 := by kernel_rfl
noncomputable def ct_m27 : Ct := ⟨[.ptr (.pair (.slice (.int .u8)) (.pair (.int .i64) (.pair (.int .i64) .unit))) (.pair .shr .own)], [((.pair (.int .i64) (.pair (.int .i64) (.pair (.int .i64) .unit))), .own)], [((.pair (.slice (.int .u8)) (.pair (.int .i64) (.pair (.int .i64) .unit))), (.pair .shr .own))], M1 (.pair (.slice (.int .u8)) (.pair (.int .i64) (.pair (.int .i64) .unit))) m27, false⟩
theorem h_m27 : Holds Tryz.prog kn.G 27 ct_m27 :=
  Holds.of_run (kn := kn) (env := env_m27) (kp := [0, 2, 3, 7, 8, 14, 20]) Tryz.func27 (c := c_m27) (by kernel_rfl) tab_ok (EnvL.cons h_m39 e_m39 (EnvL.cons h_m48 e_m48 (EnvL.cons h_m53 e_m53 EnvL.nil))) (ct := ct_m27) (n := 27) (by kernel_rfl) (by kernel_rfl) (rv := [.cell 2 31]) (by kernel_rfl) (M1_ok (r := run cx_m27 c_m27 [.cell 2 31] false [.ptr (.pair (.slice (.int .u8)) (.pair (.int .i64) (.pair (.int .i64) .unit))) (.pair .shr .own)] [((.pair (.int .i64) (.pair (.int .i64) (.pair (.int .i64) .unit))), .own)] [((.pair (.slice (.int .u8)) (.pair (.int .i64) (.pair (.int .i64) .unit))), (.pair .shr .own))]) m27_eq)
theorem e_m27 : Eng.Enters Tryz.prog 27 := Eng.Enters.of Tryz.func27 (c := c_m27) (by kernel_rfl) (by kernel_rfl)

/- loop.example/g01538/spec.DrawShowCmd -/
noncomputable def env_m8 : List (Nat × Nat × Ct) := [(27, 0, ct_m27), (28, 0, ct_m28)]
noncomputable def cx_m8 : Cx := mkCx kn env_m8 [0, 2] 6
noncomputable def c_m8 : Code := codeOf Tryz.f8
noncomputable def m8 (a1 : (List Int)) : Option ((Int × (Int × (Int × Unit))) × Unit) :=
  (m28 a1).bind fun r1 =>
  (m27 r1.1).bind fun r2 =>
  some (r2.1, ())
theorem m8_eq (a1 : (List Int)) : run cx_m8 c_m8 [.cell 2 31] false [.bor (.slice (.int .u8))] [((.pair (.int .i64) (.pair (.int .i64) (.pair (.int .i64) .unit))), .own)] [] [⟨(.slice (.int .u8)), a1⟩] = m8 a1 := by kernel_rfl
noncomputable def ct_m8 : Ct := ⟨[.bor (.slice (.int .u8))], [((.pair (.int .i64) (.pair (.int .i64) (.pair (.int .i64) .unit))), .own)], [], M1 (.slice (.int .u8)) m8, false⟩
theorem h_m8 : Holds Tryz.prog kn.G 8 ct_m8 :=
  Holds.of_run (kn := kn) (env := env_m8) (kp := [0, 2]) Tryz.func8 (c := c_m8) (by kernel_rfl) tab_ok (EnvL.cons h_m27 e_m27 (EnvL.cons h_m28 e_m28 EnvL.nil)) (ct := ct_m8) (n := 6) (by kernel_rfl) (by kernel_rfl) (rv := [.cell 2 31]) (by kernel_rfl) (M1_ok (r := run cx_m8 c_m8 [.cell 2 31] false [.bor (.slice (.int .u8))] [((.pair (.int .i64) (.pair (.int .i64) (.pair (.int .i64) .unit))), .own)] []) m8_eq)
theorem e_m8 : Eng.Enters Tryz.prog 8 := Eng.Enters.of Tryz.func8 (c := c_m8) (by kernel_rfl) (by kernel_rfl)

/- loop.example/g01538/impl.CmdOk -/
noncomputable def env_m29 : List (Nat × Nat × Ct) := [(49, 0, ct_m49)]
noncomputable def cx_m29 : Cx := mkCx kn env_m29 [0, 1, 2, 3] 33
noncomputable def c_m29 : Code := codeOf Tryz.f29
noncomputable def m29 (a1 : (Int × (Int × (Int × Unit)))) : Option (Bool × Unit) :=
  bif (a1.1 == 2) then
    (m49 a1.1 1 4).bind fun r1 =>
    bif r1.1 then
      (m49 a1.2.1 0 99).bind fun r2 =>
      bif r2.1 then
        (m49 a1.2.2.1 0 65535).bind fun r3 =>
        bif r3.1 then
          some (true, ())
        else
          some ((a1.2.2.1 == 0), ())
      else
        some (false, ())
    else
      some (false, ())
  else
    (m49 a1.1 1 4).bind fun r4 =>
    bif r4.1 then
      (m49 a1.2.1 0 99).bind fun r5 =>
      bif r5.1 then
        bif (a1.1 == 4) then
          (m49 a1.2.2.1 0 65535).bind fun r6 =>
          bif r6.1 then
            some (true, ())
          else
            some ((a1.2.2.1 == 0), ())
        else
          some ((a1.2.2.1 == 0), ())
      else
        some (false, ())
    else
      some (false, ())
theorem m29_eq (a1 : (Int × (Int × (Int × Unit)))) : run cx_m29 c_m29 [.tmp 2] false [.bor (.pair (.int .i64) (.pair (.int .i64) (.pair (.int .i64) .unit)))] [(.bool, .own)] [] [⟨(.pair (.int .i64) (.pair (.int .i64) (.pair (.int .i64) .unit))), a1⟩] = m29 a1 := by kernel_rfl
noncomputable def ct_m29 : Ct := ⟨[.bor (.pair (.int .i64) (.pair (.int .i64) (.pair (.int .i64) .unit)))], [(.bool, .own)], [], M1 (.pair (.int .i64) (.pair (.int .i64) (.pair (.int .i64) .unit))) m29, false⟩
theorem h_m29 : Holds Tryz.prog kn.G 29 ct_m29 :=
  Holds.of_run (kn := kn) (env := env_m29) (kp := [0, 1, 2, 3]) Tryz.func29 (c := c_m29) (by kernel_rfl) tab_ok (EnvL.cons h_m49 e_m49 EnvL.nil) (ct := ct_m29) (n := 33) (by kernel_rfl) (by kernel_rfl) (rv := [.tmp 2]) (by kernel_rfl) (M1_ok (r := run cx_m29 c_m29 [.tmp 2] false [.bor (.pair (.int .i64) (.pair (.int .i64) (.pair (.int .i64) .unit)))] [(.bool, .own)] []) m29_eq)
theorem e_m29 : Eng.Enters Tryz.prog 29 := Eng.Enters.of Tryz.func29 (c := c_m29) (by kernel_rfl) (by kernel_rfl)

end
end Go.Proofs.YtfihmdlpikfbbaaGreatDoor
end
