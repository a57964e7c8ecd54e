/- Proved: laws.FnTexts answers true at every slice of bytes, and leaves the slice and the named variable reading as they did (Rows.FnTextsCardSaid, the tied card). Conditions: those of the given row alone: the listed package-level variables hold what the program's text lays (tied by the card). -/
import Derived.Test.YtfihmdlpikfbbaaGreatDoorM19
import Derived.Test.YtfihmdlpikfbbaaGreatDoorRows
import Derived.Test.YtfihmdlpikfbbaaGreatDoorCards
import Derived.Test.YtfihmdlpikfbbaaGreatDoorTie
import Derived.WalkKit
import Derived.ProofKit
import Derived.OpenShut
import Derived.LaidMore
import Derived.MakeChecks
import Derived.Deep.DeepHandedRow
import Derived.Deep.DeepWitnessRowRef
import Derived.KernelRfl
import Derived.Carry
import Derived.WideKeyArgs
import Derived.OpenVars
import Derived.ChangeOld
import Derived.Below
import Derived.ChangeSame
import Derived.ChangeSlices
import Derived.Stop.LaidErr
import Derived.Lib.LaidTab
import Derived.Laws.IdiomArrays
import Derived.LaidLaws
set_option linter.unusedVariables false
set_option linter.unusedSimpArgs false
set_option linter.unusedSectionVars false
section
/- The plain law, last part: texts drawn; the law. -/
namespace Go.Proofs.YtfihmdlpikfbbaaGreatDoor
open Go Go.Eng
set_option maxRecDepth 100000
noncomputable section

theorem m62_ok {c : Cur} (hc : CurOk c) : OkP (m62 c 3) (fun r => r.1.length ≤ 3) := by
  unfold m62 m62_pre
  refine (m39_ok hc _).bind fun r1 h1 => ?_
  rw [wr (z := 3 + 1) (by omega) (by omega)]
  refine (m39_ok h1.2.2 _).bind fun r2 h2 => ?_
  have h3 := h2.2.1 (by omega)
  unfold m62_1
  refine OkP.loop (fun d => CurOk d.2.1 ∧ 0 ≤ d.1 ∧ (d.2.2.length : Int) + d.1 ≤ 3) (fun d => d.1.toNat) ?_ _ _ ⟨h2.2.2, h2.1, by simp; omega⟩ (by rw [fuel_eq]; simp only []; omega)
  intro K d hd hK
  unfold m62_1_body
  refine OkP.ite (fun h => ?_) (fun h => ?_)
  · simp only [decide_eq_true_eq] at h
    have e' : IntKind.wrap .i64 (d.1 - 1) = d.1 - 1 := wr (by omega) (by omega)
    rw [e']
    refine (m61_ok hd.1).bind fun r h' => ?_
    have hk : ∀ z : Int, OkP (bif decide (List.length d.2.2 + List.length [z] < 1073741824) then K (d.1 - 1, r.2.1, List.append d.2.2 [z]) else none) (fun r => r.1.length ≤ 3) := fun z =>
      OkP.chk (by simp; omega) (hK _ ⟨h'.2.2, by simp only []; omega, by simp; omega⟩ (by simp only []; omega))
    exact OkP.ite (fun _ => OkP.ite (fun _ => hk _) (fun _ => hk _)) (fun _ => OkP.ite (fun _ => hk _) (fun _ => hk _))
  · simp only [decide_eq_false_iff_not] at h
    exact .mk (by simp; omega)
theorem m40_ok {c : Cur} (hc : CurOk c) {s : List UInt8} (hs : s.length ≤ 1000) : OkP (m40 c s) (fun r => r.1.length ≤ 2000) := by
  unfold m40
  refine OkP.ite (fun h => ?_) (fun h => ?_)
  · exact (m62_ok hc).bind fun r hr => .mk (by simp only []; omega)
  · have h0 : s.length ≠ 0 := by simpa using h
    refine (m39_ok hc _).bind fun r2 h2 => (m39_ok h2.2.2 _).bind fun r3 h3 => ?_
    have h4 := h2.2.1 (by omega)
    have h5 := h2.1
    have e : IntKind.wrap .i64 (r2.1 + 1) = r2.1 + 1 := wr (by omega) (by omega)
    rw [e]
    refine OkP.ite (fun _ => ?_) (fun _ => ?_)
    · refine OkP.chk (by simp; omega) (OkP.chk (by simp; omega) (OkP.chk (by simp; omega) (.mk (by simp; omega))))
    refine OkP.ite (fun _ => ?_) (fun _ => ?_)
    · refine OkP.chk (by simp; omega) ((m61_ok h3.2.2).bind fun r4 h6 => OkP.chk (by simp; omega) (OkP.chk (by simp; omega) (OkP.chk (by simp; omega) (.mk (by simp; omega)))))
    refine OkP.ite (fun _ => ?_) (fun _ => ?_)
    · exact OkP.chk (by simp; omega) (.mk (by simp; omega))
    · refine OkP.chk (by simp; omega) (OkP.chk (by simp; omega) ((m39_ok h3.2.2 _).bind fun r5 h6 => OkP.chk (by simp; omega) (OkP.chk (by simp; omega) (OkP.chk (by simp; omega) (.mk (by simp; omega))))))
theorem m17_ok {l : List Int} (hl : l.length ≤ 1048576) : OkP (m17 l) (fun r => r.1.length ≤ 2000) := by
  unfold m17
  refine (m28_ok hl).bind fun r1 h1 => (m38_ok h1).bind fun r2 h2 => ?_
  rw [m37_v]
  simp only [Option.bind_some]
  have hs := showOp_len r2.1
  refine (m39_ok h2 _).bind fun r4 h4 => OkP.ite (fun _ => ?_) (fun _ => OkP.ite (fun _ => ?_) (fun _ => .mk (by simp only []; omega)))
  · exact (m40_ok h4.2.2 (by omega)).bind fun r5 h5 => .mk h5
  · refine (m41_ok h4.2.2 (by simp)).bind fun r6 h6 => ?_
    have : r6.1.length ≤ 2 := by
      have h7 := h6.1
      simp at h7
      rcases h7 with h7 | h7 | h7 <;> rw [h7] <;> simp
    exact OkP.chk (by simp; omega) (.mk (by simp; omega))
theorem m19_ok {l : List Int} (hl : l.length ≤ 1048576) : OkP (m19 l) (fun r => r.1.length ≤ 2000) := by
  unfold m19
  refine (m28_ok hl).bind fun r1 h1 => (m46_ok h1).bind fun r2 h2 => ?_
  rw [m45_v (by omega)]
  simp only [Option.bind_some]
  have hs := showBatch_len r2.1
  refine (m39_ok h2.2 _).bind fun r4 h4 => OkP.ite (fun _ => ?_) (fun _ => OkP.ite (fun _ => ?_) (fun _ => .mk (by simp only []; omega)))
  · exact (m40_ok h4.2.2 (by omega)).bind fun r5 h5 => .mk h5
  · refine (m41_ok h4.2.2 (by simp)).bind fun r6 h6 => ?_
    have : r6.1.length ≤ 100 := by
      have h7 := h6.1
      simp at h7
      rcases h7 with h7 | h7 | h7 | h7 <;> rw [h7] <;> simp
    exact OkP.chk (by simp; omega) (.mk (by simp; omega))

theorem eqOp (o : Op) : eqD (.pair (.int .i64) (.pair (.int .i64) (.pair (.int .i64) (.pair (.int .i64) .unit)))) o o = true := by
  obtain ⟨a, b, c, d, ⟨⟩⟩ := o
  simp [eqD]
theorem eqCmd (o : Cmd) : eqD (.pair (.int .i64) (.pair (.int .i64) (.pair (.int .i64) .unit))) o o = true := by
  obtain ⟨a, b, c, ⟨⟩⟩ := o
  simp [eqD]

theorem law (c : List Int) : m3 c = some (true, ()) := by
  rcases Nat.lt_or_ge 1048576 c.length with hb | hb
  · unfold m3 m4
    rw [show (decide ((c.length : Int) > 1048576)) = true by simp; omega]
    rfl
  obtain ⟨o, ho, _⟩ := m5_ok hb
  obtain ⟨k, hk, _⟩ := m8_ok hb
  obtain ⟨b, hB, hbl⟩ := m11_ok hb
  obtain ⟨x, hx, hxl⟩ := m17_ok hb
  obtain ⟨y, hy, hyl⟩ := m19_ok hb
  have so := showOp_len o.1
  have sk := showCmd_len k.1
  have sb := showBatch_len b.1
  obtain ⟨p, hp, p1, p2⟩ := m7_v (s := showOp o.1) (by omega)
  obtain ⟨d, hd, d1, d2⟩ := m10_v (s := showCmd k.1) (by omega)
  obtain ⟨e, he, e1, e2⟩ := m13_v (s := showBatch b.1) (by omega)
  obtain ⟨q, hq, q1, q2⟩ := m7_v (s := x.1) (by omega)
  obtain ⟨t, ht, t1⟩ := m18_v (s := x.1) (by omega)
  obtain ⟨f, hf, f1, f2⟩ := m13_v (s := y.1) (by omega)
  obtain ⟨g, hg, g1, g2⟩ := m20_v (s := y.1) (by omega)
  have P : p.2.1 = opOk o.1 ∧ (opOk o.1 = true → p.1 = o.1) := by
    cases h : opOk o.1 with
    | true => rw [p2 o.1 h rfl]; exact ⟨rfl, fun _ => rfl⟩
    | false =>
      refine ⟨?_, fun h => by cases h⟩
      cases h' : p.2.1 with
      | false => rfl
      | true => exact absurd (show_ok (p1 h').1) (by simp [h])
  have D : d.2.1 = cmdOk k.1 ∧ (cmdOk k.1 = true → d.1 = k.1) := by
    cases h : cmdOk k.1 with
    | true => rw [d2 k.1 h rfl]; exact ⟨rfl, fun _ => rfl⟩
    | false =>
      refine ⟨?_, fun h => by cases h⟩
      cases h' : d.2.1 with
      | false => rfl
      | true => exact absurd (showc_ok (d1 h').1) (by simp [h])
  have E : e.2.1 = batchOk b.1 ∧ (batchOk b.1 = true → e.1 = b.1) := by
    cases h : batchOk b.1 with
    | true => rw [e2 b.1 h rfl]; exact ⟨rfl, fun _ => rfl⟩
    | false =>
      refine ⟨?_, fun h => by cases h⟩
      cases h' : e.2.1 with
      | false => rfl
      | true =>
        exfalso
        obtain ⟨h3, h4⟩ := e1 h'
        have : showBatch b.1 = [] := by unfold showBatch; rw [if_neg (by simp [h])]
        rw [this] at h4
        cases h5 : e.1.1 with
        | true =>
          rw [collect_b h3 h5] at h4
          exact absurd h4 (by decide)
        | false =>
          have h6 := split_batch h3 h5
          have h7 := (batch_f h3 h5).2.2
          rw [h4] at h6
          cases hl : e.1.2.1 with
          | nil => rw [hl] at h6; simp [split] at h6
          | cons z w =>
            rw [hl] at h6 h7
            simp only [List.map_cons, split, List.cons.injEq] at h6
            simp only [List.all_cons, Bool.and_eq_true] at h7
            exact showc_ne h7.1 h6.1.symm
  have Q : q.2.1 = t.2.1 ∧ (q.2.1 = true → showOp q.1 = x.1) := by
    refine ⟨?_, fun h => (q1 h).2⟩
    rw [Bool.eq_iff_iff, t1]
    refine ⟨fun h => ⟨q.1, show_ok (by rw [(q1 h).2]; exact (q1 h).1), (q1 h).2⟩, fun ⟨o, h1, h2⟩ => by rw [q2 o h1 h2]⟩
  have F : f.2.1 = g.2.1 ∧ (f.2.1 = true → showBatch f.1 = y.1 ∧ f.1.2.1.length ≤ 6) := by
    refine ⟨?_, fun h => ⟨(f1 h).2, batch_len (f1 h).1⟩⟩
    rw [Bool.eq_iff_iff]
    exact ⟨fun h => by rw [g2 _ (f1 h).1 (f1 h).2], fun h => by rw [f2 _ (g1 h).1 (g1 h).2]⟩
  have B12 : m12 b.1 = some (showBatch b.1, ()) := m12_v (by omega)
  have B16 : m16 b.1 = some (batchOk b.1, ()) := m16_v (by omega)
  have H : m3 c = (bif (!(p.2.1 == opOk o.1)) then some (false, ()) else some (true, ())) := by
    unfold m3 m4
    rw [show (decide ((c.length : Int) > 1048576)) = false by simp; omega]
    simp only [Option.bind_some, cond_false, ho, hk, hB, hx, hy, m6_v, m9_v, m14_v, m15_v, B12, B16, hp, hd, he, hq, ht, hf, hg, P.1, D.1, E.1, Q.1, F.1, BEq.rfl, Bool.not_true, cond_true, beq_iff]
    have T1 : (bif (!t.2.1) then (bif (!g.2.1) then some (true, ()) else (m12 f.1).bind fun r21 => some (decide (r21.1 = y.1), ())) else bif (decide (showOp q.1 = x.1)) then (bif (!g.2.1) then some (true, ()) else (m12 f.1).bind fun r21 => some (decide (r21.1 = y.1), ())) else some (false, ())) = (some (true, ()) : Option (Bool × Unit)) := by
      have T0 : (bif (!g.2.1) then some (true, ()) else (m12 f.1).bind fun r21 => some (decide (r21.1 = y.1), ())) = (some (true, ()) : Option (Bool × Unit)) := by
        cases h : g.2.1 with
        | false => rfl
        | true =>
          obtain ⟨h1, h2⟩ := F.2 (by rw [F.1]; exact h)
          rw [m12_v (by omega), h1]
          simp
      rw [T0]
      cases h : t.2.1 with
      | false => rfl
      | true =>
        rw [Q.2 (by rw [Q.1]; exact h)]
        simp
    simp only [T1]
    have T2 : (bif (batchOk b.1) then (m12 e.1).bind fun r14 => bif (!(decide (r14.1 = showBatch b.1))) then some (false, ()) else bif (((List.length e.1.2.1 : Int)) != ((List.length b.1.2.1 : Int))) then some (false, ()) else some (true, ()) else some (true, ())) = (some (true, ()) : Option (Bool × Unit)) := by
      cases h : batchOk b.1 with
      | false => rfl
      | true =>
        rw [E.2 h, B12]
        simp
    simp only [T2]
    cases h1 : opOk o.1 with
    | false =>
      cases h2 : cmdOk k.1 with
      | false => simp
      | true => rw [D.2 h2]; simp [eqCmd]
    | true =>
      rw [P.2 h1]
      cases h2 : cmdOk k.1 with
      | false => simp [eqOp]
      | true => rw [D.2 h2]; simp [eqCmd, eqOp]
  rw [H, P.1]
  simp
end
end Go.Proofs.YtfihmdlpikfbbaaGreatDoor
end

section
/- The row's frame: the witness. -/
namespace Go.Proofs.YtfihmdlpikfbbaaGreatDoor
open Go Go.RowKit Go.ChangeShapes Go.WideShapes
set_option maxRecDepth 100000
noncomputable section

theorem rw_own : ownKnob Tryz.prog.godebug = none := by kernel_rfl
def dataVal : DataW Unit → List Value
  | .lit (.int k z) => [.int k z]
  | .agg l => l.map fun d => match d with
    | .lit (.int k z) => .int k z
    | _ => .nilIface
  | _ => []
/-- The world of the witness: the heap that the door's own run leaves, the great table put in. -/
def rw_world (os : Os) : World :=
  { World.doorLaid Tryz.prog 400 os with heap := (World.doorLaid Tryz.prog 400 os).heap.modify 2 fun
      | .cells _ t fz => .cells (dataVal Go.Pinned.utf8First).toArray t fz
      | o => o }
def rw_args : Array Value := #[.slice none 0 0]
theorem rw_met (os : Os) : laidMetH Tryz.prog Rows.fnTextsRow.laid ((rw_world os).forCall (fun _ _ => 0) ⟨#[], rw_args, []⟩).memory := by
  rw [MakeChecks.laidMetH_plain _ _ _ (by kernel_rfl)]
  exact laidMet_of_run' 8 (by kernel_rfl) (by kernel_rfl)
theorem rw_v1 (os : Os) : ((rw_world os).forCall (fun _ _ => 0) ⟨#[], rw_args, []⟩).variablesRefB Tryz.prog = true := by kernel_rfl
theorem rw_v2 (os : Os) : ((((rw_world os).forCall (fun _ _ => 0) ⟨#[], rw_args, []⟩).heap.toList.drop Tryz.prog.globals.size).take ((begin Tryz.prog (fun _ _ => 0) default).world.heap.size - Tryz.prog.globals.size) =
      (begin Tryz.prog (fun _ _ => 0) default).world.heap.toList.drop Tryz.prog.globals.size) := by kernel_rfl
theorem rw_v3 (os : Os) : Input.okWideB Tryz.prog ((rw_world os).forCall (fun _ _ => 0) ⟨#[], rw_args, []⟩) 3 ⟨#[], rw_args, []⟩ = true := by kernel_rfl
theorem rw_reads (os : Os) {H : Type} (enc : TypeId × Value → H) :
    (DataW.whole enc Tryz.prog ((rw_world os).forCall (fun _ _ => 0) ⟨#[], rw_args, []⟩).memory Tryz.f3.params.toList Rows.fnTextsSpec.vars false rw_args.toList 8).map (fun x => (x.1, x.2.1)) =
      some ([.nil], [.agg [.lit (.string [103, 101, 116]), .lit (.string [112, 117, 116]), .lit (.string [100, 101, 108]), .lit (.string [97, 100, 100])]]) := by kernel_rfl
theorem rw_row (os : Os) {H : Type} (enc : TypeId × Value → H) :
    (OpenSpec.ofChange Rows.fnTextsSpec).preRow enc Tryz.prog Tryz.f3 Rows.fnTextsRow.domain false Rows.fnTextsRow.laid ((rw_world os).forCall (fun _ _ => 0) ⟨#[], rw_args, []⟩).memory rw_args := by
  obtain ⟨⟨x1, x2, x3⟩, hx, hx1⟩ := Option.map_eq_some_iff.1 (rw_reads os enc)
  simp only [Prod.mk.injEq] at hx1
  obtain ⟨rfl, rfl⟩ := hx1
  exact OpenSpec.preRow_of_cond 8 hx (by kernel_rfl) (fun k hk => by cases hk) (by kernel_rfl) (rw_met os)
end
end Go.Proofs.YtfihmdlpikfbbaaGreatDoor
end

section
/- The row's frame: what the call answers, out of the plain law. -/
namespace Go.Proofs.YtfihmdlpikfbbaaGreatDoor
open Go Go.Eng Go.RowKit Go.ChangeShapes Go.WideShapes Go.WideElems
set_option maxRecDepth 100000
noncomputable section

section
variable {H : Type} {enc : TypeId × Value → H} {P : Program}
/-- 'post_of_same' where 'Below' alone is known. -/
theorem rw_post {f : Func} {s : ChangeSpec} {apart fresh handsOn again : Bool} {W W' : World} {args : Array Value} {v : Value} {ds gs : List (DataW H)} {before pa pv : List MemPlace}
    (hW : DataW.Whole enc P f.params.toList s.vars apart W args.toList ds gs before)
    (hres : ∀ (b : Nat) (sp : Nat → Bool) (hd : Bool), DataW.TrodAll enc P W' b sp hd f.resultTypes.toList (v.resultList f.resultTypes.size) (s.fn H (ds ++ gs)).results [])
    (hargs : ∀ sp : Nat → Bool, (∀ p ∈ before, sp p.block = true) → DataW.TrodAll enc P W' 0 sp true f.params.toList args.toList (s.fn H (ds ++ gs)).args pa)
    (hvars : ∀ sp : Nat → Bool, (∀ p ∈ before, sp p.block = true) → DataW.TrodVars enc P W' sp s.vars (s.fn H (ds ++ gs)).vars pv)
    (hps : before = pa ++ pv) (hb : Below W.heap.size W W')
    (hok : ∀ (j : Nat) (t : TypeId) (r : Value), f.resultTypes[j]? = some t → (v.resultList f.resultTypes.size)[j]? = some r → Value.okWide P W' .any 0 t r) :
    s.post enc P f apart fresh handsOn again W args v W' := by
  have hlt : ∀ p ∈ before, p.block < W.heap.size := fun p hp => hW.lt p hp
  have hold : ∀ p ∈ before, (fun b => decide (b < W.heap.size)) p.block = true := fun p hp => by simpa using hlt p hp
  refine ⟨ds, gs, before, [], pa, pv, hW, hres _ _ _, hargs _ hold, hvars _ hold, World.keptBut_mono (fun p hp => ⟨hp, ?_⟩) (hb.frame (· ∈ before)), fun _ => ?_⟩
  · rw [hps, List.mem_append] at hp
    exact Or.inr hp
  · obtain ⟨_, _, _, _, _, hz, hn⟩ := hW
    refine ⟨hok, _, _, ([] ++ pa) ++ pv, ⟨[] ++ pa, pv, trodAll_append (hargs _ (fun _ _ => rfl)) (hres _ _ _), hvars _ (fun _ _ => rfl), rfl, ?_, ?_⟩, ?_⟩
    · intro b off hp
      have hin : MemPlace.cell b off ∈ before := by rw [hps]; simpa using hp
      rw [hb.frozen (hlt _ hin)]
      exact hz b off hin
    · intro ha
      have := hn ha
      rw [hps] at this
      simpa using this
    · intro p hp _
      rw [hps]
      simpa using hp
end

theorem rw_vars {H : Type} {enc : TypeId × Value → H} {P : Program} (hl : laidOutB P = true) {W W' : World} (hb : Below W.heap.size W W') (sp : Nat → Bool) :
    ∀ {ns : List String} {gs : List (DataW H)} {ps : List MemPlace}, varsRowed P ns = true → (∀ x ∈ ps, sp x.block = true) → DataW.TrodVars enc P W (fun _ => true) ns gs ps → DataW.TrodVars enc P W' sp ns gs ps
  | [], [], _, _, _, h => h
  | [], _ :: _, _, _, _, h => h.elim
  | _ :: _, [], _, _, _, h => h.elim
  | n :: ns, d :: ds, ps, hv, hsp, h => by
    have hlt := h.lt
    obtain ⟨g, t, cs, fuel, p, q, h1, h2, h3, h4, hs, e⟩ := h
    simp only [varsRowed, List.all_cons, Bool.and_eq_true] at hv
    have ht : P.readableRec t = true ∧ t < P.types.size := by
      have := hv.1
      rw [h1] at this
      cases hg : P.globals[g]? with
      | none => rw [hg] at h2; cases h2
      | some gl =>
        rw [hg] at h2
        obtain rfl : gl.type = t := Option.some.inj h2
        simpa [hg] using this
    have hp : ∀ x ∈ p, x.block < W.heap.size := fun x hx => hlt x (by rw [e]; simp [hx])
    have h3' : W'.var? P n = some cs := by
      unfold World.var? at h3 ⊢
      rw [h1] at h3 ⊢
      simp only [Option.bind_some] at h3 ⊢
      have hg : g < W.heap.size := by
        cases hh : W.heap[g]? with
        | none => rw [hh] at h3; cases h3
        | some o => exact (Array.getElem?_eq_some_iff.1 hh).1
      rw [hb.block g hg]; exact h3
    exact ⟨g, t, cs, fuel, p, q, h1, h2, h3', DataW.trod_stays (kids_book hl ht.1) (book_sized ht.1) (fun h => by cases h) ⟨ht.2, book_self t⟩ h4 (fun x hx => hb.same (hp x hx)) (fun x hx => hsp x (by rw [e]; simp [hx])),
      rw_vars hl hb sp (by simpa [varsRowed] using hv.2) (fun x hx => hsp x (by rw [e]; simp [hx])) hs, e⟩

theorem rw_laidOut : laidOutB Tryz.prog = true := by kernel_rfl
theorem rw_p3 : Tryz.f3.params = #[22] := by kernel_rfl
theorem rw_r3 : Tryz.f3.resultTypes = #[4] := by kernel_rfl
theorem rw_u22 : Tryz.prog.underlying 22 = some (.slice 5) := by kernel_rfl
theorem rw_u5 : Tryz.prog.underlying 5 = some (.int .u8) := by kernel_rfl
theorem rw_u4 : Tryz.prog.underlying 4 = some .bool := by kernel_rfl
theorem rw_c5 : Tryz.prog.cellsOf 5 = 1 := by kernel_rfl
theorem rw_rr : Tryz.prog.readableRec 22 = true := by kernel_rfl
theorem rw_row22 : 22 < Tryz.prog.types.size := of_decide_eq_true (by kernel_rfl)
theorem rw_vr : varsRowed Tryz.prog Rows.fnTextsSpec.vars = true := by kernel_rfl

/-- What is known of the variables. -/
def RwGl (W : World) : Prop := ∀ i u, kn.G i = some u → ∃ c el fz, W.heap[i]? = some (.cells c el fz) ∧ c.size = u.1.size ∧ Rd W (fun y => y < W.heap.size) u.1 .shr none' c.toList u.2

theorem rw_contract (law : ∀ c : List Int, (∀ z ∈ c, (Lit.int .u8 z).wf = true) → m3 c = some (true, ())) (H : Type) (enc : TypeId × Value → H) (W : World) (base : Nat) (args : Array Value) (ds gs : List (DataW H)) (before : List MemPlace)
    (hval : ∀ (j : Nat) t v, Tryz.f3.params[j]? = some t → args[j]? = some v → Value.okWide Tryz.prog W .any base t v)
    (hW : DataW.Whole enc Tryz.prog Tryz.f3.params.toList Rows.fnTextsSpec.vars false W args.toList ds gs before) (hG : RwGl W) :
    Calls Tryz.prog 3 args W fun e W' => ∃ v, e = .returned v ∧ Rows.fnTextsSpec.post enc Tryz.prog Tryz.f3 false true false false W args v W' := by
  have hW' := hW
  obtain ⟨p, q, hA0, hV, rfl, hfz, hnd⟩ := hW
  have hA : DataW.TrodAll enc Tryz.prog W 0 (fun _ => true) true Tryz.f3.params.toList args.toList ds p := hA0
  rw [rw_p3] at hA hval
  obtain ⟨v0, vs0, d0, ds0, p0, q0, hargs, rfl, rfl, h0, r0⟩ := trodAll_cons hA
  obtain ⟨rfl, rfl, rfl⟩ := trodAll_nil r0
  obtain rfl : args = #[v0] := by cases args; simp_all
  obtain ⟨g1, rfl⟩ : ∃ g1, gs = [g1] := by
    match gs, hV with
    | [g1], _ => exact ⟨g1, rfl⟩
    | _ :: _ :: _, h => exact absurd h (by rintro ⟨_, _, _, _, _, _, _, _, _, _, h, _⟩; exact h)
  obtain ⟨a, len, cap, rfl⟩ := okWide_slice rw_u22 (hval 0 22 v0 rfl rfl)
  obtain ⟨fuel, h0'⟩ := h0
  have hkey : ∃ c : List Int, (∀ z ∈ c, (Lit.int .u8 z).wf = true) ∧ Rd W (fun y => y < W.heap.size) (.slice (.int .u8)) .shr none' [.slice a len cap] c := by
    rcases open_ints rw_u22 rw_u5 rw_c5 h0' with ⟨h1, _⟩ | ⟨a', len', cap', zs, h1, _, hl, _, hz, _, hc, hwf⟩
    · refine ⟨[], by simp, ?_⟩
      simp only [Value.cells, List.cons.injEq, Value.slice.injEq, and_true] at h1
      obtain ⟨rfl, rfl, rfl⟩ := h1
      simp only [Rd]
      exact ⟨none, 0, 0, rfl, rfl, Nat.le_refl _, .inl rfl⟩
    · simp only [Value.cells, List.cons.injEq, Value.slice.injEq, and_true] at h1
      obtain ⟨rfl, rfl, rfl⟩ := h1
      have hz' : zs.length = cap := by simpa using hz
      refine ⟨zs.take len, fun z hz => hwf z (List.mem_of_mem_take hz), ?_⟩
      simp only [Rd]
      refine ⟨some a', len, cap, rfl, by simp; omega, hl, ?_⟩
      rcases Nat.eq_zero_or_pos len with h5 | h5
      · exact .inl h5
      · right
        have hfirst := hc 0 (by omega)
        obtain ⟨b, off, sp⟩ := a'
        have hsp : sp = none := by
          simp only [Addr.add, if_true, World.cell?] at hfirst
          split at hfirst
          · split at hfirst
            · simp at hfirst
            · rename_i h6
              cases sp with
              | none => rfl
              | some _ => simp at h6
          · simp at hfirst
        subst hsp
        have hblk : ∃ c el fz, W.heap[b]? = some (.cells c el fz) := by
          simp only [Addr.add, if_true, World.cell?] at hfirst
          split at hfirst
          · rename_i c el fz h6
            exact ⟨c, el, fz, h6⟩
          · simp at hfirst
        obtain ⟨c, el, fz, hblk⟩ := hblk
        refine ⟨b, off, rfl, (Array.getElem?_eq_some_iff.1 hblk).1, fun i hi => ?_⟩
        have hi' : i < len := by
          rw [List.length_take] at hi; omega
        simp only [Ty.size, Nat.mul_one, Rd]
        have h7 := hc i (by omega)
        have h8 : (Addr.mk b off none).add i = ⟨b, off + i, none⟩ := by
          simp only [Addr.add]; split
          · rename_i h; subst h; rfl
          · rfl
        rw [h8] at h7
        have h9 : c[off + i]? = some (.int .u8 (zs.getD i 0)) := by
          simpa [World.cell?, hblk] using h7
        rw [cellsAt_eq hblk]
        simp only [chunk]
        rw [List.getElem_take]
        have h10 : c.toList[off + i]? = some (.int .u8 (zs.getD i 0)) := by simpa using h9
        have h11 : zs.getD i 0 = zs[i]'(by omega) := by simp [List.getD, List.getElem?_eq_getElem (show i < zs.length by omega)]
        rw [h11] at h10
        obtain ⟨h12, h13⟩ := List.getElem?_eq_some_iff.1 h10
        rw [List.drop_eq_getElem_cons h12, h13]
        rfl
  obtain ⟨c, hcwf, hRd⟩ := hkey
  have hcall := h_m3 W (fun y => y < W.heap.size) [.slice a len cap] [⟨.slice (.int .u8), c⟩] [] [] (true, ()) (.bor (cs := [.slice a len cap]) hRd .nil)
    ⟨by simp, by simp, by simp, by simp, by simp, by simp, fun _ h => h⟩ (fun i u hu => by
      obtain ⟨c, el, fz, h1, h2, h3⟩ := hG i u hu
      refine ⟨(Array.getElem?_eq_some_iff.1 h1).1, ?_, c, el, fz, h1, h2⟩
      have : cellsAt W i 0 u.1.size = c.toList := by
        rw [cellsAt_eq h1, ← h2]
        simp only [chunk, List.drop_zero]
        rw [← Array.length_toList]
        exact List.take_length ..
      rw [this]
      exact h3) (by
      simp only [ct_m3, M1, Dat.as_self, law c hcwf])
  refine hcall.mono fun e W' ⟨v, he, hp⟩ => ?_
  obtain ⟨S', vs, rr, ro, Rs, Os, hres, hrs, hrets, houts, _, _, _, _, hfr⟩ := hp
  have hv : v = .bool true := by
    cases houts
    rw [List.append_nil] at hrs
    subst hrs
    cases hrets with
    | cons h1 h2 h3 =>
      cases h3
      simp only [Rd] at h1
      subst h1
      exact hres
  subst hv
  have hbel : Below W.heap.size W W' := ⟨hfr.os, hfr.tape, hfr.output, hfr.size, fun k hk => hfr.keep k hk (by rintro ⟨F, hF, _⟩; simp at hF) (by simp)⟩
  have hA' : ∀ sp : Nat → Bool, (∀ p ∈ (p0 ++ []) ++ q, sp p.block = true) → DataW.TrodAll enc Tryz.prog W' 0 sp true Tryz.f3.params.toList #[Value.slice a len cap].toList [d0] (p0 ++ []) := by
    intro sp hsp
    rw [rw_p3]
    exact trodAll_cons_mk (WideElems.Trod_stays rw_laidOut rw_rr rw_row22 ⟨fuel, h0'⟩ (fun x hx => hbel.same (hW'.lt x (by simp [hx]))) (fun x hx => hsp x (by simp [hx]))) trodAll_mk0
  have hV' : ∀ sp : Nat → Bool, (∀ p ∈ (p0 ++ []) ++ q, sp p.block = true) → DataW.TrodVars enc Tryz.prog W' sp Rows.fnTextsSpec.vars [g1] q :=
    fun sp hsp => rw_vars rw_laidOut hbel sp rw_vr (fun x hx => hsp x (List.mem_append_right _ hx)) hV
  refine ⟨_, he, rw_post (pa := p0 ++ []) (pv := q) hW' (fun _ _ _ => ?_) hA' hV' rfl hbel (ok_one rw_r3 rfl (okWide_bool_mk rw_u4 _))⟩
  rw [rw_r3]
  exact trodAll_cons_mk (shut_bool rw_u4 _) trodAll_mk0
end
end Go.Proofs.YtfihmdlpikfbbaaGreatDoor
end

section
/- The row's frame: the variables; the row; the card, out of the plain law. -/
namespace Go.Proofs.YtfihmdlpikfbbaaGreatDoor
open Go Go.Eng Go.RowKit Go.ChangeShapes Go.WideShapes Go.WideElems
set_option maxRecDepth 100000
noncomputable section

theorem rw_star : "*" ++ "errors.errorString" = "*errors.errorString" := by decide
theorem rw_row138 (u : TypeId) (h : Tryz.prog.typeName? 3 u = some "*errors.errorString") : u = 138 :=
  typeName_ptr_named (nm := "errors.errorString") (by rw [rw_star]; kernel_rfl) (by kernel_rfl) (by decide) u (by rw [rw_star]; exact h)

def isIf : Option TypeDesc → Bool
  | some (.interface _) => true
  | _ => false
theorem isIf_ok {d : Option TypeDesc} (h : isIf d = true) : ∃ ms, d = some (.interface ms) := by
  unfold isIf at h
  split at h
  · exact ⟨_, rfl⟩
  · cases h
def oneF : Option TypeDesc → Option Field
  | some (.struct ⟨[f]⟩) => some f
  | _ => none
theorem oneF_ok {d : Option TypeDesc} {f : Field} (h : oneF d = some f) : d = some (.struct #[f]) := by
  unfold oneF at h
  split at h
  · obtain rfl := Option.some.inj h; rfl
  · cases h
theorem rw_ms : ∃ ms, Tryz.prog.underlying 83 = some (.interface ms) := isIf_ok (by kernel_rfl)
theorem rw_f1 : ∃ f, Tryz.prog.underlying 140 = some (.struct #[f]) ∧ f.type = 9 ∧ f.offset = 0 := by
  have h : (oneF (Tryz.prog.underlying 140)).map (fun f => (f.type, f.offset)) = some (9, 0) := by kernel_rfl
  obtain ⟨f, hf, h1⟩ := Option.map_eq_some_iff.1 h
  simp only [Prod.mk.injEq] at h1
  exact ⟨f, oneF_ok hf, h1⟩
theorem rw_err {n : String} {g : Nat} {text : List UInt8} {r : List (String × DataW Unit)} {W : World} (h : laidMet Tryz.prog ((n, .iface "*errors.errorString" (.ptr (.agg [.lit (.string text)]))) :: r) W)
    (hg : Tryz.prog.globalNamed n = some g) (ht : (Tryz.prog.globals[g]?).map (·.type) = some 83) :
    ∃ c el fz, W.heap[g]? = some (.cells c el fz) ∧ c.size = 1 ∧ Rd W (fun y => y < W.heap.size) .iface .shr none' c.toList true := by
  obtain ⟨ms, hms⟩ := rw_ms
  obtain ⟨f, hf⟩ := rw_f1
  obtain ⟨a, s, hv, hc, hs, _⟩ := laid_sentinel h hg ht hms rw_row138 (by kernel_rfl) hf.1 hf.2.1 hf.2.2 (show Tryz.prog.underlying 9 = some .string by kernel_rfl) (by kernel_rfl) (by kernel_rfl)
  unfold World.var? at hv
  rw [hg] at hv
  simp only [Option.bind_some] at hv
  split at hv
  · rename_i cs el fz hh
    obtain rfl := Option.some.inj hv
    refine ⟨_, el, fz, hh, rfl, ?_⟩
    simp only [Rd, if_true]
    exact ⟨⟨rfl, fun v hv => by simp at hv; subst hv; rfl⟩, _, _, rfl⟩
  · simp at hv
theorem rw_cell {n : String} {g : Nat} {W : World} {cs : Array Value} (hg : Tryz.prog.globalNamed n = some g) (hv : W.var? Tryz.prog n = some cs) : ∃ el fz, W.heap[g]? = some (.cells cs el fz) := by
  unfold World.var? at hv
  rw [hg] at hv
  simp only [Option.bind_some] at hv
  split at hv
  · rename_i cs' el fz hh
    obtain rfl := Option.some.inj hv
    exact ⟨el, fz, hh⟩
  · simp at hv
theorem rw_str1 {W : World} {fuel : Nat} {c : Value} {l : List UInt8} {p : List MemPlace} (h : DataW.trod (fun _ => ()) Tryz.prog W 0 (fun _ => true) false fuel 9 [c] = some (.lit (.string l), p)) : c = .string ⟨⟨l⟩⟩ := by
  cases fuel with
  | zero => simp [DataW.trod] at h
  | succ n =>
    unfold DataW.trod at h
    rw [show Tryz.prog.underlying 9 = some .string by kernel_rfl] at h
    cases c <;> simp at h
    obtain ⟨_, h, _⟩ := h
    subst h
    rfl
theorem rw_strs {W : World} {fuel : Nat} {cs : List Value} {l0 l1 l2 l3 : List UInt8} {p : List MemPlace}
    (h : DataW.trod (fun _ => ()) Tryz.prog W 0 (fun _ => true) false fuel 56 cs = some (.agg [.lit (.string l0), .lit (.string l1), .lit (.string l2), .lit (.string l3)], p)) :
    cs = [.string ⟨⟨l0⟩⟩, .string ⟨⟨l1⟩⟩, .string ⟨⟨l2⟩⟩, .string ⟨⟨l3⟩⟩] := by
  have hu : Tryz.prog.underlying 56 = some (.array 4 9) := by kernel_rfl
  have hc9 : Tryz.prog.cellsOf 9 = 1 := by kernel_rfl
  have hc56 : Tryz.prog.cellsOf 56 = 4 := by kernel_rfl
  have hl : cs.length = 4 := by
    cases fuel with
    | zero => simp [DataW.trod] at h
    | succ n =>
      unfold DataW.trod at h
      rw [hu] at h
      simp only [hc56] at h
      split at h
      · assumption
      · simp at h
  match cs, hl, h with
  | [c0, c1, c2, c3], _, h =>
    obtain ⟨y0, y1, y2, y3, n, hx, h0, h1, h2, h3⟩ := trod_array4 hu hc9 h
    obtain ⟨d0, p0⟩ := y0
    obtain ⟨d1, p1⟩ := y1
    obtain ⟨d2, p2⟩ := y2
    obtain ⟨d3, p3⟩ := y3
    simp only [Prod.mk.injEq, DataW.agg.injEq, List.cons.injEq, and_true] at hx
    obtain ⟨⟨rfl, rfl, rfl, rfl⟩, _⟩ := hx
    rw [rw_str1 h0, rw_str1 h1, rw_str1 h2, rw_str1 h3]
theorem rw_gl {W : World} (hL : laidMetH Tryz.prog Rows.fnTextsRow.laid W) : RwGl W := by
  rw [MakeChecks.laidMetH_plain _ _ _ (by kernel_rfl)] at hL
  have h0 := hL
  have h3 : laidMet Tryz.prog _ W := h0.tail.tail
  have h5 : laidMet Tryz.prog _ W := h3.tail.tail
  have h6 : laidMet Tryz.prog _ W := h5.tail
  have h7 : laidMet Tryz.prog _ W := h6.tail
  have e5 := rw_err (g := 5) h5 (by kernel_rfl) (by kernel_rfl)
  have e4 := rw_err (g := 4) h6 (by kernel_rfl) (by kernel_rfl)
  have e6 : ∃ c el fz, W.heap[6]? = some (.cells c el fz) ∧ c.size = 20 ∧ Rd W (fun y => y < W.heap.size) (.arr 20 (.int .u64)) .shr none' c.toList Lib.pow10Tab := by
    have ht : Lib.TabIs Tryz.prog W "internal/strconv.uint64pow10" .u64 Lib.pow10Tab :=
      Lib.tabIs_of_head (g := 6) (t := 133) (e := 114) (n := 20) (by kernel_rfl) (by kernel_rfl) (by kernel_rfl) (by kernel_rfl) (by kernel_rfl) (by kernel_rfl) h3
    obtain ⟨el, fz, hh⟩ := rw_cell (g := 6) (by kernel_rfl) ht
    refine ⟨_, el, fz, hh, by simp; rfl, ?_⟩
    simp only [Rd]
    refine ⟨rfl, by simp; rfl, rfl, fun i hi => ?_⟩
    simp only [Ty.size, Nat.mul_one, chunk]
    rw [List.drop_eq_getElem_cons (by simpa using hi)]
    simp
  have e0 : ∃ c el fz, W.heap[0]? = some (.cells c el fz) ∧ c.size = 4 ∧ Rd W (fun y => y < W.heap.size) (.arr 4 .str) .shr none' c.toList [([103, 101, 116] : List UInt8), ([112, 117, 116] : List UInt8), ([100, 101, 108] : List UInt8), ([97, 100, 100] : List UInt8)] := by
    obtain ⟨ps, ⟨g, t, cs, fuel, p, q, hg, ht, hv, hd, _⟩, _⟩ := h7
    obtain rfl : g = 0 := Option.some.inj (hg.symm.trans (by kernel_rfl))
    obtain rfl : t = 56 := Option.some.inj (ht.symm.trans (by kernel_rfl))
    obtain ⟨el, fz, hh⟩ := rw_cell hg hv
    have hs := rw_strs hd
    refine ⟨cs, el, fz, hh, by rw [← Array.length_toList, hs]; rfl, ?_⟩
    rw [hs]
    simp only [Rd]
    refine ⟨rfl, rfl, rfl, fun i hi => ?_⟩
    match i, hi with
    | 0, _ => rfl
    | 1, _ => rfl
    | 2, _ => rfl
    | 3, _ => rfl
  intro i u hu
  match i, hu with
  | 0, hu => obtain rfl := Option.some.inj hu; exact e0
  | 4, hu => obtain rfl := Option.some.inj hu; exact e4
  | 5, hu => obtain rfl := Option.some.inj hu; exact e5
  | 6, hu => obtain rfl := Option.some.inj hu; exact e6
  | 1, hu => cases hu
  | 2, hu => cases hu
  | 3, hu => cases hu
  | i + 7, hu => cases hu

theorem rw_lifted (law : ∀ c : List Int, (∀ z ∈ c, (Lit.int .u8 z).wf = true) → m3 c = some (true, ())) (os : Os) (started : os.Started) (H : Type) (enc : TypeId × Value → H) (F : Stop.Interp) :
    ReturnsInHanded {} Tryz.checked os 3 .any ((OpenSpec.ofChange Rows.fnTextsSpec).preRow enc Tryz.prog Tryz.f3 Rows.fnTextsRow.domain false Rows.fnTextsRow.laid) (((OpenSpec.ofChange Rows.fnTextsSpec).at F).post enc Tryz.prog Tryz.f3 false true false false) := by
  refine returnsInHanded_of_row (C := Tryz.checked) (s := OpenSpec.ofChange Rows.fnTextsSpec) rw_own started (by kernel_rfl) Tryz.func3
    (witness_row_atRef (enc := enc) (C := Tryz.checked) false (rw_world os) rw_args rfl (rw_v1 os) (rw_v2 os) (rw_v3 os) (rw_row os enc)) ?_
  intro W base args ds gs before hval hW _ _ _ hL _ _
  exact rw_contract law H enc W base args ds gs before hval hW (rw_gl hL)

theorem rw_said (law : ∀ c : List Int, (∀ z ∈ c, (Lit.int .u8 z).wf = true) → m3 c = some (true, ())) : Rows.FnTextsSaid :=
  OpenClaim.holds_of_cond 3 Tryz.f3 rfl rfl rfl rfl rfl rfl rfl ⟨rfl, rfl, rfl, rfl, rfl⟩ rfl rfl rfl rfl rfl (by kernel_rfl) Tryz.func3 (by kernel_rfl)
    (of_decide_eq_true (by kernel_rfl)) (by unfold Func.isWrapper; first | (rw [if_pos (by decide +kernel)]; kernel_rfl) | (rw [if_neg (by decide +kernel)]; exact ⟨rfl, rfl⟩))
    (fun os started H enc _ F => by rw [OpenClaim.pre_eq_preRow]; exact rw_lifted law os started H enc F)

theorem rw_plain (f : FuncId) (fn : Func) (hf : Tryz.pinned.checked.prog.funcNamed "loop.example/g01538/laws.FnTexts" = some f) (hfn : Tryz.pinned.checked.prog.funcs[f]? = some fn) :
    true = Tryz.pinned.checked.prog.looks [] ∧ ∀ (j : Nat) t, fn.params[j]? = some t → Tryz.pinned.checked.prog.wantsStandIn t = false := by
  obtain rfl : f = 3 := Option.some.inj ((show Tryz.prog.funcNamed "loop.example/g01538/laws.FnTexts" = some 3 by kernel_rfl).symm.trans hf) |>.symm
  obtain rfl : fn = Tryz.f3 := (Option.some.inj (Tryz.func3.symm.trans hfn)).symm
  refine ⟨by kernel_rfl, fun j t ht => ?_⟩
  rw [rw_p3] at ht
  obtain rfl : t = 22 := by simpa using Array.mem_of_getElem? ht
  exact (show Tryz.prog.wantsStandIn 22 = false by kernel_rfl)

theorem rw_card (law : ∀ c : List Int, (∀ z ∈ c, (Lit.int .u8 z).wf = true) → m3 c = some (true, ())) : Rows.FnTextsCardSaid :=
  Claim7.holds_tied_plain_at .later [] _ _ _ _ (rw_said law) (fun _ h => by cases h) (by kernel_rfl) (fun _ h => by cases h) fnTexts_row_tie rfl ⟨rfl, rfl⟩ (by kernel_rfl) rfl rw_plain (by kernel_rfl)
end
end Go.Proofs.YtfihmdlpikfbbaaGreatDoor
end

section
/- The card. -/
namespace Go.Proofs.YtfihmdlpikfbbaaGreatDoor
theorem fnTextsCard_holds : Rows.FnTextsCardSaid := rw_card fun c _ => law c
end Go.Proofs.YtfihmdlpikfbbaaGreatDoor
end
