/- Part 18 of 20 of a claim; what is proved, and under which conditions, stands in the last part. Here: Zl1, Zl2, Zl3, Zl4, Zl5. -/
import Derived.Test.YtfihmdlpikfbbaaGreatDoorM17
import Derived.Lib.AtoiAllCases
import Derived.Lib.ItoaLen
import Derived.Lib.Join
set_option linter.unusedVariables false
set_option linter.unusedSimpArgs false
set_option linter.unusedSectionVars false
section
/- The plain law, first part: tools; what is drawn. -/
namespace Go.Proofs.YtfihmdlpikfbbaaGreatDoor
open Go Go.Eng
set_option maxRecDepth 100000
noncomputable section

def OkP {T : Type} (x : Option T) (P : T → Prop) : Prop := ∃ v, x = some v ∧ P v
theorem OkP.bind {T U : Type} {x : Option T} {f : T → Option U} {P : T → Prop} {Q : U → Prop} (h : OkP x P) (k : ∀ v, P v → OkP (f v) Q) : OkP (x.bind f) Q := by
  obtain ⟨v, rfl, hv⟩ := h
  exact k v hv
theorem OkP.mk {T : Type} {v : T} {P : T → Prop} (h : P v) : OkP (some v) P := ⟨v, rfl, h⟩
theorem OkP.mono {T : Type} {x : Option T} {P Q : T → Prop} (h : OkP x P) (k : ∀ v, P v → Q v) : OkP x Q := by
  obtain ⟨v, e, hv⟩ := h
  exact ⟨v, e, k v hv⟩
theorem OkP.ite {T : Type} {c : Bool} {x y : Option T} {P : T → Prop} (h1 : c = true → OkP x P) (h2 : c = false → OkP y P) : OkP (bif c then x else y) P := by
  cases c
  · exact h2 rfl
  · exact h1 rfl
theorem OkP.chk {T : Type} {c : Bool} {x : Option T} {P : T → Prop} (hc : c = true) (h : OkP x P) : OkP (bif c then x else none) P := by
  subst hc
  exact h
theorem OkP.loop {D R : Type} {body : (D → Option R) → D → Option R} {Q : R → Prop} (Inv : D → Prop) (μ : D → Nat)
    (h : ∀ K d, Inv d → (∀ d', Inv d' → μ d' < μ d → OkP (K d') Q) → OkP (body K d) Q) : ∀ n d, Inv d → μ d < n → OkP (loopM body n d) Q
  | 0, _, _, hn => absurd hn (Nat.not_lt_zero _)
  | n + 1, d, hd, hn => h _ d hd fun d' hd' hlt => OkP.loop Inv μ h n d' hd' (by omega)

theorem wr {z : Int} (h1 : -9223372036854775808 ≤ z) (h2 : z ≤ 9223372036854775807) : IntKind.wrap .i64 z = z := by
  simp only [IntKind.wrap, IntKind.bits, IntKind.signed]
  simp
  omega
theorem and255 (a : Int) : 0 ≤ bitAnd .i64 a 255 ∧ bitAnd .i64 a 255 < 256 := by
  unfold bitAnd
  have h : (BitVec.ofInt IntKind.i64.bits a &&& BitVec.ofInt IntKind.i64.bits 255).toNat ≤ 255 := by
    rw [BitVec.toNat_and]
    exact Nat.le_trans Nat.and_le_right (by decide)
  rw [wr (by omega) (by omega)]
  omega

abbrev Cur := List Int × Int × Int × Unit
def CurOk (c : Cur) : Prop := 0 ≤ c.2.1 ∧ c.1.length ≤ 1048576

theorem fuel_eq : fuel = 4611686018427387904 := rfl
theorem m28_ok {l : List Int} (hl : l.length ≤ 1048576) : OkP (m28 l) (fun r => CurOk r.1) := by
  unfold m28 m28_pre m28_1
  refine OkP.loop (fun d => 0 ≤ d.2 ∧ d.2 ≤ 4000) (fun d => (4000 - d.2).toNat) ?_ _ _ ⟨by simp, by simp⟩ (by rw [fuel_eq]; simp)
  intro K d hd hK
  unfold m28_1_body
  refine OkP.ite (fun h1 => ?_) (fun h1 => ?_)
  · refine OkP.ite (fun h2 => ?_) (fun h2 => ?_)
    · simp only [decide_eq_true_eq] at h1 h2
      refine OkP.chk (by simp; omega) ?_
      have e : IntKind.wrap .i64 (d.2 + 1) = d.2 + 1 := wr (by omega) (by omega)
      exact hK _ ⟨by simp only [e]; omega, by simp only [e]; omega⟩ (by simp only [e]; omega)
    · exact .mk ⟨Int.le_refl _, hl⟩
  · exact .mk ⟨Int.le_refl _, hl⟩

theorem m61_ok {c : Cur} (hc : CurOk c) : OkP (m61 c) (fun r => 0 ≤ r.1 ∧ r.1 < 256 ∧ CurOk r.2.1) := by
  obtain ⟨h1, h2⟩ := hc
  unfold m61
  refine OkP.ite (fun h => ?_) (fun h => ?_)
  · simp only [decide_eq_true_eq] at h
    refine OkP.chk (by simp; omega) (.mk ⟨(and255 _).1, (and255 _).2, ?_, h2⟩)
    have e : IntKind.wrap .i64 (c.2.1 + 1) = c.2.1 + 1 := wr (by omega) (by omega)
    simp only [e]; omega
  · exact .mk ⟨(and255 _).1, (and255 _).2, h1, h2⟩
theorem tmod_ok {x n : Int} (hx : 0 ≤ x) (hn : 0 < n) : 0 ≤ Int.tmod x n ∧ Int.tmod x n < n := ⟨Int.tmod_nonneg n hx, Int.tmod_lt_of_pos x hn⟩
theorem m39_ok {c : Cur} (hc : CurOk c) (n : Int) : OkP (m39 c n) (fun r => 0 ≤ r.1 ∧ (0 < n → r.1 < n) ∧ CurOk r.2.1) := by
  unfold m39
  refine OkP.ite (fun h => ?_) (fun h => ?_)
  · simp only [decide_eq_true_eq] at h
    exact .mk ⟨Int.le_refl _, fun h' => by omega, hc⟩
  · simp only [decide_eq_false_iff_not] at h
    refine OkP.ite (fun h' => ?_) (fun h' => ?_)
    · refine (m61_ok hc).bind fun r1 h1 => OkP.chk (by simp; omega) (.mk ⟨(tmod_ok h1.1 (by omega)).1, fun _ => (tmod_ok h1.1 (by omega)).2, h1.2.2⟩)
    · refine (m61_ok hc).bind fun r1 h1 => (m61_ok h1.2.2).bind fun r2 h2 => (m61_ok h2.2.2).bind fun r3 h3 => (m61_ok h3.2.2).bind fun r4 h4 => OkP.chk (by simp; omega) (.mk ?_)
      have e1 : IntKind.wrap .i64 (r1.1 * 16777216) = r1.1 * 16777216 := wr (by omega) (by omega)
      have e2 : IntKind.wrap .i64 (r2.1 * 65536) = r2.1 * 65536 := wr (by omega) (by omega)
      have e3 : IntKind.wrap .i64 (r3.1 * 256) = r3.1 * 256 := wr (by omega) (by omega)
      rw [e1, e2, e3]
      rw [wr (z := r1.1 * 16777216 + r2.1 * 65536) (by omega) (by omega)]
      rw [wr (z := r1.1 * 16777216 + r2.1 * 65536 + r3.1 * 256) (by omega) (by omega)]
      rw [wr (z := r1.1 * 16777216 + r2.1 * 65536 + r3.1 * 256 + r4.1) (by omega) (by omega)]
      exact ⟨(tmod_ok (by omega) (by omega)).1, fun _ => (tmod_ok (by omega) (by omega)).2, h4.2.2⟩
theorem m48_ok {c : Cur} (hc : CurOk c) {l : List Int} (hl : 0 < l.length) : OkP (m48 c l) (fun r => CurOk r.2.1) := by
  unfold m48
  refine (m39_ok hc _).bind fun r h => OkP.chk ?_ (.mk h.2.2)
  have := h.2.1 (by omega)
  simp
  exact ⟨h.1, this⟩
theorem m41_ok {c : Cur} (hc : CurOk c) {l : List (List UInt8)} (hl : 0 < l.length) : OkP (m41 c l) (fun r => r.1 ∈ l ∧ CurOk r.2.1) := by
  unfold m41
  refine (m39_ok hc _).bind fun r h => ?_
  have h1 := h.2.1 (by omega)
  refine OkP.chk (by simp; exact ⟨h.1, h1⟩) (.mk ⟨?_, h.2.2⟩)
  have h2 : r.1.toNat < l.length := by omega
  simp only [List.getD, List.getElem?_eq_getElem h2, Option.getD_some]
  exact List.getElem_mem h2
theorem m60_ok {c : Cur} (hc : CurOk c) (n : Int) : OkP (m60 c n) (fun r => CurOk r.2.1) := by
  unfold m60
  exact (m39_ok hc n).bind fun r h => .mk h.2.2
theorem m36_ok (n : Int) : OkP (m36 n) (fun r => r.1 = (n == 1 || n == 2 || n == 3 || n == 7)) := by
  unfold m36
  refine OkP.ite (fun h => .mk (by simp [h])) (fun h => OkP.ite (fun h' => .mk (by simp [h'])) (fun h' => OkP.ite (fun h'' => .mk (by simp [h''])) (fun h'' => .mk (by simp [h, h', h'']))))
theorem m38_ok {c : Cur} (hc : CurOk c) : OkP (m38 c) (fun r => CurOk r.2.1) := by
  unfold m38
  refine (m48_ok hc (by simp)).bind fun r1 h1 => (m36_ok _).bind fun r2 _ => OkP.ite (fun _ => ?_) (fun _ => ?_)
  · refine (m48_ok h1 (by simp)).bind fun r3 h3 => OkP.ite (fun _ => ?_) (fun _ => .mk h3)
    refine (m39_ok h3 _).bind fun r4 h4 => (m60_ok h4.2.2 _).bind fun r5 h5 => OkP.ite (fun _ => ?_) (fun _ => ?_)
    · exact (m48_ok h5 (by simp)).bind fun r6 h6 => (m39_ok h6 _).bind fun r7 h7 => .mk h7.2.2
    · exact (m39_ok h5 _).bind fun r8 h8 => .mk h8.2.2
  · refine OkP.ite (fun _ => ?_) (fun _ => .mk h1)
    refine (m39_ok h1 _).bind fun r4 h4 => (m60_ok h4.2.2 _).bind fun r5 h5 => OkP.ite (fun _ => ?_) (fun _ => ?_)
    · exact (m48_ok h5 (by simp)).bind fun r6 h6 => (m39_ok h6 _).bind fun r7 h7 => .mk h7.2.2
    · exact (m39_ok h5 _).bind fun r8 h8 => .mk h8.2.2
theorem m5_ok {l : List Int} (hl : l.length ≤ 1048576) : OkP (m5 l) (fun _ => True) := by
  unfold m5 m21
  refine OkP.bind (P := fun _ => True) ?_ fun _ _ => .mk trivial
  refine (m28_ok hl).bind fun r1 h1 => (m38_ok h1).bind fun r2 h2 => (m39_ok h2 _).bind fun r3 h3 => ?_
  refine OkP.ite (fun _ => (m39_ok h3.2.2 _).bind fun _ _ => .mk trivial) (fun _ => ?_)
  refine OkP.ite (fun _ => (m39_ok h3.2.2 _).bind fun _ _ => .mk trivial) (fun _ => ?_)
  refine OkP.ite (fun _ => (m48_ok h3.2.2 (by simp)).bind fun _ _ => .mk trivial) (fun _ => ?_)
  exact OkP.ite (fun _ => (m48_ok h3.2.2 (by simp)).bind fun _ _ => .mk trivial) (fun _ => .mk trivial)
theorem m53_ok {c : Cur} (hc : CurOk c) : OkP (m53 c) (fun r => CurOk r.2.1) := by
  unfold m53
  refine (m48_ok hc (by simp)).bind fun r1 h1 => (m39_ok h1 _).bind fun r2 h2 => ?_
  refine OkP.ite (fun _ => (m39_ok h2.2.2 _).bind fun r3 h3 => (m48_ok h3.2.2 (by simp)).bind fun _ h => .mk h) (fun _ => ?_)
  exact OkP.ite (fun _ => (m39_ok h2.2.2 _).bind fun r3 h3 => (m48_ok h3.2.2 (by simp)).bind fun _ h => .mk h) (fun _ => .mk h2.2.2)
theorem m27_ok {c : Cur} (hc : CurOk c) : OkP (m27 c) (fun r => CurOk r.2.1) := by
  unfold m27
  refine (m53_ok hc).bind fun r1 h1 => (m39_ok h1 _).bind fun r2 h2 => ?_
  refine OkP.ite (fun _ => (m48_ok h2.2.2 (by simp)).bind fun _ h => .mk h) (fun _ => ?_)
  refine OkP.ite (fun _ => (m48_ok h2.2.2 (by simp)).bind fun _ h => .mk h) (fun _ => ?_)
  exact OkP.ite (fun _ => (m48_ok h2.2.2 (by simp)).bind fun _ h => .mk h) (fun _ => .mk h2.2.2)
theorem m8_ok {l : List Int} (hl : l.length ≤ 1048576) : OkP (m8 l) (fun _ => True) := by
  unfold m8
  exact (m28_ok hl).bind fun r1 h1 => (m27_ok h1).bind fun _ _ => .mk trivial
abbrev Bat := Bool × List (Int × Int × Int × Unit) × Unit
theorem m46_ok {c : Cur} (hc : CurOk c) : OkP (m46 c) (fun r => r.1.2.1.length ≤ 3 ∧ CurOk r.2.1) := by
  unfold m46 m46_pre
  refine (m60_ok hc _).bind fun r1 h1 => OkP.ite (fun _ => .mk ⟨by simp, h1⟩) (fun _ => ?_)
  refine (m39_ok h1 _).bind fun r2 h2 => ?_
  have h3 := h2.2.1 (by omega)
  have e : IntKind.wrap .i64 (1 + r2.1) = 1 + r2.1 := wr (by omega) (by omega)
  unfold m46_1
  refine OkP.loop (fun d => CurOk d.2.1 ∧ 0 ≤ d.1 ∧ (d.2.2.2.1.length : Int) + d.1 ≤ 3) (fun d => d.1.toNat) ?_ _ _ ⟨h2.2.2, by simp only [e]; omega, by simp only [e]; simp; omega⟩ (by rw [fuel_eq]; simp only [e]; omega)
  intro K d hd hK
  unfold m46_1_body
  refine OkP.ite (fun h => ?_) (fun h => ?_)
  · simp only [decide_eq_true_eq] at h
    refine (m53_ok hd.1).bind fun r h' => OkP.chk (by simp; omega) ?_
    have e' : IntKind.wrap .i64 (d.1 - 1) = d.1 - 1 := wr (by omega) (by omega)
    refine hK _ ⟨h', by simp only [e']; omega, by simp only [e']; simp; omega⟩ (by simp only [e']; omega)
  · simp only [decide_eq_false_iff_not] at h
    exact .mk ⟨by simp only []; omega, hd.1⟩
theorem m11_ok {l : List Int} (hl : l.length ≤ 1048576) : OkP (m11 l) (fun r => r.1.2.1.length ≤ 8) := by
  unfold m11
  refine OkP.bind (P := fun r => r.1.2.1.length ≤ 8) ?_ fun r h => .mk h
  unfold m31 m31_pre
  refine (m28_ok hl).bind fun r1 h1 => (m46_ok h1).bind fun r2 h2 => (m39_ok h2.2 _).bind fun r3 h3 => ?_
  refine OkP.ite (fun _ => ?_) (fun _ => ?_)
  · refine (m27_ok h3.2.2).bind fun r4 h4 => OkP.chk (by simp; omega) (.mk ?_)
    simp; omega
  refine OkP.ite (fun _ => ?_) (fun _ => ?_)
  · unfold m31_1
    refine OkP.loop (fun d => CurOk d.2 ∧ d.1.2.1.length ≤ 7) (fun d => 8 - d.1.2.1.length) ?_ _ _ ⟨h3.2.2, by simp only []; omega⟩ (by rw [fuel_eq]; omega)
    intro K d hd hK
    unfold m31_1_body
    refine (m39_ok hd.1 _).bind fun r5 h5 => ?_
    have h6 := h5.2.1 (by omega)
    have e : IntKind.wrap .i64 (6 + r5.1) = 6 + r5.1 := wr (by omega) (by omega)
    rw [e]
    refine OkP.ite (fun h => ?_) (fun h => .mk (by simp only []; omega))
    simp only [decide_eq_true_eq] at h
    refine (m53_ok h5.2.2).bind fun r6 h7 => OkP.chk (by simp; omega) ?_
    exact hK _ ⟨h7, by simp; omega⟩ (by simp; omega)
  refine OkP.ite (fun _ => .mk (by simp only []; omega)) (fun _ => .mk (by simp only []; omega))
end
end Go.Proofs.YtfihmdlpikfbbaaGreatDoor
end

section
/- The plain law, second part: numerals. -/
namespace Go.Proofs.YtfihmdlpikfbbaaGreatDoor
open Go Go.Eng
set_option maxRecDepth 100000
noncomputable section

theorem loop_step {D R : Type} (body : (D → Option R) → D → Option R) (n : Nat) (d : D) : loopM body (n + 1) d = body (loopM body n) d := rfl

theorem wr8 {z : Int} (h1 : 0 ≤ z) (h2 : z < 256) : IntKind.wrap .u8 z = z := by
  simp only [IntKind.wrap, IntKind.bits, IntKind.signed]
  simp
  omega

def dgt (u : Nat) : UInt8 := UInt8.ofNat (48 + u % 10)
theorem decDigits_step {u : Nat} (h : ¬ u < 10) : Lib.decDigits u = Lib.decDigits (u / 10) ++ [dgt u] := by
  rw [Lib.decDigits, dif_neg h]; rfl
theorem decDigits_small {u : Nat} (h : u < 10) : Lib.decDigits u = [dgt u] := by
  rw [Lib.decDigits, dif_pos h, dgt, Nat.mod_eq_of_lt h]
theorem dgt_nat (u : Nat) : (dgt u).toNat = 48 + u % 10 := by
  unfold dgt
  rw [UInt8.toNat_ofNat']
  omega
theorem decDigits_mem : ∀ (u : Nat) (c : UInt8), c ∈ Lib.decDigits u → 48 ≤ c.toNat ∧ c.toNat ≤ 57 := by
  intro u
  induction u using Nat.strongRecOn with
  | _ u ih =>
    intro c hc
    by_cases h : u < 10
    · rw [decDigits_small h] at hc
      simp at hc
      subst hc
      rw [dgt_nat]; omega
    · rw [decDigits_step h, List.mem_append] at hc
      rcases hc with hc | hc
      · exact ih _ (by omega) c hc
      · simp at hc
        subst hc
        rw [dgt_nat]; omega
theorem decDigits_ne (u : Nat) : Lib.decDigits u ≠ [] := by
  by_cases h : u < 10
  · rw [decDigits_small h]; simp
  · rw [decDigits_step h]; simp
theorem nDigits_le {u k : Nat} (hk : 1 ≤ k) (h : u < 10 ^ k) : Lib.nDigits u ≤ k := by
  induction k generalizing u with
  | zero => omega
  | succ k ih =>
    by_cases h1 : u < 10
    · rw [Lib.nDigits_small h1]; omega
    · rw [Lib.nDigits_big h1]
      rw [Nat.pow_succ] at h
      have hk1 : 1 ≤ k := by
        rcases Nat.eq_zero_or_pos k with h2 | h2
        · subst h2; simp at h; omega
        · exact h2
      have := ih hk1 (u := u / 10) (by omega)
      omega
theorem decDigits_len {u : Nat} (h : u < 1000000000) : (Lib.decDigits u).length ≤ 9 := by
  rw [Lib.decDigits_length]
  exact nDigits_le (by omega) (by simpa using h)
theorem itoa_nat (u : Nat) : Lib.itoa (u : Int) = Lib.decDigits u := Lib.itoa_nonneg u

theorem parse_dec : ∀ (u : Nat) (r : List UInt8), u < 1000000000000000 → Lib.parseUint10 0 (Lib.decDigits u ++ r) = Lib.parseUint10 u r := by
  intro u
  induction u using Nat.strongRecOn with
  | _ u ih =>
    intro r hu
    by_cases h : u < 10
    · rw [decDigits_small h]
      simp only [List.cons_append, List.nil_append, Lib.parseUint10, dgt_nat]
      rw [if_pos (by omega), if_neg (by omega), if_neg (by omega)]
      congr 1
      omega
    · rw [decDigits_step h, List.append_assoc, ih (u / 10) (by omega) _ (by omega)]
      simp only [List.cons_append, List.nil_append, Lib.parseUint10, dgt_nat]
      rw [if_pos (by omega), if_neg (by omega), if_neg (by omega)]
      congr 1
      omega
theorem atoi_itoa {u : Nat} (h : u < 1000000000000) : Lib.atoiAll (Lib.itoa (u : Int)) = .ok (u : Int) := by
  rw [itoa_nat]
  have hp : Lib.parseMag (Lib.decDigits u) = .ok u := by
    unfold Lib.parseMag
    rw [if_neg (decDigits_ne u)]
    have := parse_dec u [] (by omega)
    rw [List.append_nil] at this
    rw [this]; rfl
  cases hd : Lib.decDigits u with
  | nil => exact absurd hd (decDigits_ne u)
  | cons c r =>
    have hc := decDigits_mem u c (by rw [hd]; simp)
    rw [Lib.atoiAll_plain c r (by omega) (by omega), ← hd, hp]
    simp only [Lib.signless]
    rw [if_neg (by omega)]

theorem lItoa_eq {n : Int} (h1 : -9223372036854775808 ≤ n) (h2 : n ≤ 9223372036854775807) : lItoa n = some (Lib.itoa n, ()) := by
  unfold lItoa
  simp [h1, h2]
theorem m50_v {n : Int} (h1 : -9223372036854775808 ≤ n) (h2 : n ≤ 9223372036854775807) : m50 n = some (Lib.itoa n, ()) := by
  unfold m50
  rw [lItoa_eq h1 h2]; rfl
theorem beq_eq {a b : List UInt8} (h : List.beq a b = true) : a = b := eq_of_beq (show (a == b) = true from h)
theorem m70_ok (s p : List UInt8) : OkP (m70 s p) (fun r => r.1 = s ∨ s.take p.length = p) := by
  unfold m70 m81 m95
  refine OkP.bind (P := fun r => r.1 = s ∨ s.take p.length = p) (OkP.bind (P := fun r => r.1 = true → s.take p.length = p ∧ p.length ≤ s.length) ?_ fun r hr => ?_) fun r hr => .mk hr
  · refine OkP.ite (fun h => ?_) (fun h => .mk (by simp))
    simp only [decide_eq_true_eq] at h
    refine OkP.chk (by simp; omega) (.mk fun h' => ⟨?_, by omega⟩)
    have := beq_eq h'
    simpa using this
  · refine OkP.ite (fun h => ?_) (fun h => .mk (.inl rfl))
    have := hr h
    exact OkP.chk (by simp; omega) (.mk (.inr this.1))
theorem m52_ok {s : List UInt8} (hs : s.length ≤ 1000000000) : OkP (m52 s) (fun _ => True) := by
  unfold m52
  refine OkP.bind (P := fun r => r.2.1 = false → -9223372036854775808 ≤ r.1 ∧ r.1 ≤ 9223372036854775807) ?_ fun r hr => ?_
  · unfold lAtoi
    rw [show (decide (s.length ≤ 281474976710656)) = true by simp; omega]
    simp only [cond_true]
    split
    · rename_i v hv
      exact .mk fun _ => Lib.atoiAll_bounds hv
    · exact .mk (by simp)
    · exact .mk (by simp)
  · refine OkP.ite (fun _ => .mk trivial) (fun h => ?_)
    obtain ⟨h1, h2⟩ := hr h
    rw [m50_v h1 h2]
    refine OkP.ite (fun _ => .mk trivial) (fun _ => ?_)
    refine (m70_ok _ _).bind fun r3 _ => OkP.ite (fun _ => .mk trivial) (fun _ => .mk trivial)
theorem beq_self (l : List UInt8) : List.beq l l = true := by
  have : (l == l) = true := by simp
  exact this
theorem m52_v {u : Nat} (h : u < 1000000000) : m52 (Lib.itoa (u : Int)) = some ((u : Int), true, ()) := by
  have hl : (Lib.itoa (u : Int)).length ≤ 9 := by rw [itoa_nat]; exact decDigits_len h
  unfold m52 lAtoi
  rw [show (decide ((Lib.itoa (u : Int)).length ≤ 281474976710656)) = true by simp; omega, atoi_itoa (by omega)]
  simp only [cond_true, Option.bind_some, cond_false]
  rw [m50_v (by omega) (by omega)]
  simp only [Option.bind_some, beq_self, Bool.not_true, cond_false]
  obtain ⟨r, hr, hp⟩ := m70_ok (Lib.itoa (u : Int)) [45]
  rw [hr]
  have : r.1 = Lib.itoa (u : Int) := by
    rcases hp with hp | hp
    · exact hp
    · exfalso
      rw [itoa_nat] at hp
      cases hd : Lib.decDigits u with
      | nil => rw [hd] at hp; simp at hp
      | cons c t =>
        rw [hd] at hp
        simp at hp
        have := decDigits_mem u c (by rw [hd]; simp)
        rw [hp] at this
        exact absurd this.1 (by decide)
  simp only [Option.bind_some, this]
  rw [show (decide (((Lib.itoa (u : Int)).length : Int) > 9)) = false by simp; omega]
  rfl

theorem m59_ok {n : Int} (hn : n.natAbs < 1000000000000) : OkP (m59 n) (fun _ => True) := by
  unfold m59 m59_pre
  refine OkP.ite (fun _ => .mk trivial) (fun _ => ?_)
  unfold m59_1
  refine OkP.loop (fun d => d.1.natAbs < 1000000000000 ∧ d.2.length + d.1.natAbs < 1000000000000) (fun d => d.1.natAbs) ?_ _ _ ⟨hn, by simpa using hn⟩ (by rw [fuel_eq]; simp only []; omega)
  intro K d hd hK
  unfold m59_1_body
  refine OkP.ite (fun h => ?_) (fun h => ?_)
  · have h : d.1 ≠ 0 := by simpa using h
    have hq : (Int.tdiv d.1 10).natAbs = d.1.natAbs / 10 := by rw [Int.natAbs_tdiv]; rfl
    have e : IntKind.wrap .i64 (Int.tdiv d.1 10) = Int.tdiv d.1 10 := wr (by omega) (by omega)
    refine OkP.ite (fun _ => ?_) (fun _ => ?_)
    · refine OkP.chk (by simp; omega) (hK _ ?_ ?_)
      · simp only [e, hq, List.length_append, List.length_map, List.length_cons, List.length_nil]; omega
      · simp only [e, hq]; omega
    · refine OkP.chk (by simp; omega) (hK _ ?_ ?_)
      · simp only [e, hq, List.length_append, List.length_map, List.length_cons, List.length_nil]; omega
      · simp only [e, hq]; omega
  · unfold m59_1_p1
    refine OkP.ite (fun _ => OkP.chk (by simp; omega) (.mk trivial)) (fun _ => .mk trivial)

theorem m59_loop : ∀ (u : Nat) (n : Nat) (out : List UInt8), u < n → u < 1000000000000 → out.length ≤ 100 + (1000000000000 - u) → u ≠ 0 → loopM (m59_1_body false false (fun x1 x2 x3 => m59_1_p1 false false x1 x2 x3)) n ((u : Int), out) = some (Lib.decDigits u ++ out, ()) := by
  intro u
  induction u using Nat.strongRecOn with
  | _ u ih =>
    intro n out hn hu ho h0
    obtain ⟨n, rfl⟩ : ∃ m, n = m + 1 := ⟨n - 1, by omega⟩
    rw [loop_step]
    generalize hK : loopM (m59_1_body false false (fun x1 x2 x3 => m59_1_p1 false false x1 x2 x3)) n = K
    unfold m59_1_body
    have hm : Int.tmod (u : Int) 10 = ((u % 10 : Nat) : Int) := by rw [Int.tmod_eq_emod_of_nonneg (by omega)]; rfl
    have hq : Int.tdiv (u : Int) 10 = ((u / 10 : Nat) : Int) := by rw [Int.tdiv_eq_ediv_of_nonneg (by omega)]; rfl
    simp only [hm, hq]
    rw [show ((u : Int) != 0) = true by simp; omega, show (decide (((u % 10 : Nat) : Int) < 0)) = false by simp; omega]
    simp only [cond_true, cond_false]
    rw [show (decide (List.length (List.map (fun x : Int => UInt8.ofNat (Int.toNat x)) [(IntKind.wrap .u8 (IntKind.wrap .i64 (48 + ((u % 10 : Nat) : Int))))]) + List.length out < 4611686018427387904)) = true by simp; omega]
    simp only [cond_true]
    rw [wr (z := 48 + ((u % 10 : Nat) : Int)) (by omega) (by omega), wr8 (by omega) (by omega), wr (z := ((u / 10 : Nat) : Int)) (by omega) (by omega)]
    have hd : (List.map (fun x : Int => UInt8.ofNat (Int.toNat x)) [48 + ((u % 10 : Nat) : Int)]) = [dgt u] := by
      simp only [List.map_cons, List.map_nil, dgt]
      rfl
    rw [hd]
    by_cases h : u < 10
    · have hz : u / 10 = 0 := by omega
      rw [hz, decDigits_small h]
      obtain ⟨n, rfl⟩ : ∃ m, n = m + 1 := ⟨n - 1, by omega⟩
      rw [← hK, loop_step]
      rfl
    · rw [← hK, ih (u / 10) (by omega) n _ (by omega) (by omega) (by simp; omega) (by omega), decDigits_step h, List.append_assoc]
theorem m59_v {u : Nat} (hu : u < 1000000000000) : m59 (u : Int) = some (Lib.itoa (u : Int), ()) := by
  rw [itoa_nat]
  unfold m59 m59_pre
  by_cases h : u = 0
  · subst h
    rw [decDigits_small (by omega)]
    rfl
  · rw [show (((u : Int)) == 0) = false by simp; omega, show (decide ((u : Int) < 0)) = false by simp]
    simp only [cond_false]
    unfold m59_1
    rw [m59_loop u fuel [] (by rw [fuel_eq]; omega) hu (by simp) h, List.append_nil]
end
end Go.Proofs.YtfihmdlpikfbbaaGreatDoor
end

section
/- The plain law, third part: numbers read; texts parted. -/
namespace Go.Proofs.YtfihmdlpikfbbaaGreatDoor
open Go Go.Eng
set_option maxRecDepth 100000
noncomputable section

def val (a : Nat) (l : List UInt8) : Nat := l.foldl (fun a c => a * 10 + (c.toNat - 48)) a
theorem val_ge : ∀ (l : List UInt8) (a : Nat), a ≤ val a l
  | [], _ => Nat.le_refl _
  | c :: l, a => by
    have := val_ge l (a * 10 + (c.toNat - 48))
    simp only [val, List.foldl_cons] at this ⊢
    omega
theorem val_dec : ∀ (u : Nat), val 0 (Lib.decDigits u) = u := by
  intro u
  induction u using Nat.strongRecOn with
  | _ u ih =>
    by_cases h : u < 10
    · rw [decDigits_small h]
      simp only [val, List.foldl_cons, List.foldl_nil, dgt_nat]
      omega
    · rw [decDigits_step h]
      have := ih (u / 10) (by omega)
      simp only [val, List.foldl_append, List.foldl_cons, List.foldl_nil, dgt_nat] at this ⊢
      rw [this]
      omega

theorem getD_at {s : List UInt8} {i : Nat} (h : i < s.length) : List.getD s (Int.toNat (i : Int)) 0 = s[i] := by
  simp [List.getD, List.getElem?_eq_getElem h]

theorem m63_loop {R : Type} {s : List UInt8} (hs : ∀ c ∈ s, 48 ≤ c.toNat ∧ c.toNat ≤ 57) (hl : s.length ≤ 9) (X1 : Int → Int → Int → Bool → Option R) (X2 : Int → Int → Int → Option R) :
    ∀ (m i n a : Nat), i + m = s.length → m < n → val a (s.drop i) < 1000000000 → loopM (m63_1_body s X1 X2) n ((a : Int), (i : Int), (i : Int)) = X2 (val a (s.drop i) : Nat) (s.length : Nat) (s.length : Nat) := by
  intro m
  induction m with
  | zero =>
    intro i n a hi hn hv
    obtain ⟨n, rfl⟩ : ∃ k, n = k + 1 := ⟨n - 1, by omega⟩
    rw [loop_step]
    unfold m63_1_body
    have : i = s.length := by omega
    subst this
    rw [show (decide (((s.length : Int)) < ((List.length s : Int)))) = false by simp]
    simp [val]
  | succ m ih =>
    intro i n a hi hn hv
    obtain ⟨n, rfl⟩ : ∃ k, n = k + 1 := ⟨n - 1, by omega⟩
    have hil : i < s.length := by omega
    rw [loop_step]
    generalize hK : loopM (m63_1_body s X1 X2) n = K
    unfold m63_1_body
    have hd : s.drop i = s[i] :: s.drop (i + 1) := List.drop_eq_getElem_cons hil
    have hc := hs s[i] (List.getElem_mem hil)
    rw [hd] at hv ⊢
    have hv' : val (a * 10 + (s[i].toNat - 48)) (s.drop (i + 1)) < 1000000000 := hv
    have hge := val_ge (s.drop (i + 1)) (a * 10 + (s[i].toNat - 48))
    simp only [getD_at hil]
    rw [show (decide ((i : Int) < ((List.length s : Int)))) = true by simp; omega, show (decide ((i : Int) < 11)) = true by simp; omega, show (decide (0 ≤ (i : Int))) = true by simp,
      show (decide ((s[i].toNat : Int) ≥ 48)) = true by simp; omega, show (decide ((s[i].toNat : Int) ≤ 57)) = true by simp; omega]
    simp only [cond_true, Bool.and_self]
    rw [wr8 (z := (s[i].toNat : Int) - 48) (by omega) (by omega), wr (z := (s[i].toNat : Int) - 48) (by omega) (by omega), wr (z := (a : Int) * 10) (by omega) (by omega), wr (by omega) (by omega), wr (z := (i : Int) + 1) (by omega) (by omega)]
    rw [← hK, show ((a : Int) * 10 + ((s[i].toNat : Int) - 48)) = ((a * 10 + (s[i].toNat - 48) : Nat) : Int) by omega, show ((i : Int) + 1) = ((i + 1 : Nat) : Int) by omega]
    exact ih (i + 1) n _ (by omega) (by omega) hv'
theorem m63_v {u : Nat} (h : u < 1000000000) : m63 (Lib.itoa (u : Int)) = some ((u : Int), true, ()) := by
  have h59 := m59_v (u := u) (by omega)
  rw [itoa_nat] at h59 ⊢
  have hl := decDigits_len h
  unfold m63 m63_pre m63_1
  have := m63_loop (decDigits_mem u) hl (fun x1 x2 x3 x4 => m63_1_p1 (Lib.decDigits u) x1 x2 x3 x4) (fun x1 x2 x3 => m63_1_p2 (Lib.decDigits u) x1 x2 x3) (Lib.decDigits u).length 0 fuel 0 (by omega) (by rw [fuel_eq]; omega) (by rw [List.drop_zero, val_dec]; exact h)
  rw [List.drop_zero, val_dec] at this
  refine this.trans ?_
  unfold m63_1_p2
  have hne := decDigits_ne u
  have hpos : 0 < (Lib.decDigits u).length := by
    cases hd : Lib.decDigits u with
    | nil => exact absurd hd hne
    | cons _ _ => simp
  have h45 : (((UInt8.toNat (List.getD (Lib.decDigits u) 0 0) : Int)) == 45) = false := by
    have := getD_at (s := Lib.decDigits u) (i := 0) hpos
    simp only [Int.toNat_zero, Int.natCast_zero] at this
    rw [show List.getD (Lib.decDigits u) 0 0 = (Lib.decDigits u)[0] from this]
    have := decDigits_mem u _ (List.getElem_mem hpos)
    simp; omega
  rw [show (decide (((List.length (Lib.decDigits u) : Int)) > 0)) = true by simp; omega, h45,
    show (decide (((Lib.decDigits u).length : Int) > 9)) = false by simp; omega, show (decide (((List.length (Lib.decDigits u) : Int)) > 10)) = false by simp; omega, h59]
  simp only [cond_true, cond_false, Option.bind_some, beq_self, Bool.not_true]

theorem m63_p_ok {s : List UInt8} {x1 x2 x3 : Int} (h : x1.natAbs < 1000000000000) : OkP (m63_1_p2 s x1 x2 x3) (fun _ => True) := by
  unfold m63_1_p2
  have e : IntKind.wrap .i64 (0 - x1) = 0 - x1 := wr (by omega) (by omega)
  rw [e]
  refine OkP.ite (fun h1 => ?_) (fun _ => ?_)
  · simp only [decide_eq_true_eq] at h1
    refine OkP.chk (by simp; omega) (OkP.ite (fun _ => ?_) (fun _ => ?_))
    · exact OkP.ite (fun _ => .mk trivial) fun _ => OkP.ite (fun _ => .mk trivial) fun _ => (m59_ok (by omega)).bind fun _ _ => OkP.ite (fun _ => .mk trivial) fun _ => .mk trivial
    · exact OkP.ite (fun _ => .mk trivial) fun _ => OkP.ite (fun _ => .mk trivial) fun _ => (m59_ok h).bind fun _ _ => OkP.ite (fun _ => .mk trivial) fun _ => .mk trivial
  · exact OkP.ite (fun _ => .mk trivial) fun _ => OkP.ite (fun _ => .mk trivial) fun _ => (m59_ok h).bind fun _ _ => OkP.ite (fun _ => .mk trivial) fun _ => .mk trivial
theorem m63_ok (s : List UInt8) : OkP (m63 s) (fun _ => True) := by
  unfold m63 m63_pre m63_1
  refine OkP.loop (fun d => 0 ≤ d.1 ∧ 0 ≤ d.2.2 ∧ d.2.2 ≤ 11 ∧ d.1 < 10 ^ d.2.2.toNat ∧ 0 ≤ d.2.1 ∧ d.2.1 ≤ d.2.2) (fun d => (11 - d.2.2).toNat) ?_ _ _ ⟨by simp, by simp, by simp, by simp, by simp, by simp⟩ (by rw [fuel_eq]; simp)
  intro K d ⟨h1, h2, h3, h4, h5, h6⟩ hK
  have hb : d.1 < 1000000000000 := by
    have : (10 : Int) ^ d.2.2.toNat ≤ 10 ^ 11 := by
      have := Nat.pow_le_pow_right (n := 10) (by omega) (show d.2.2.toNat ≤ 11 by omega)
      exact_mod_cast this
    have e : (10 : Int) ^ 11 = 100000000000 := by decide
    omega
  unfold m63_1_body
  refine OkP.ite (fun h => ?_) (fun _ => m63_p_ok (by omega))
  refine OkP.ite (fun h' => ?_) (fun _ => m63_p_ok (x2 := d.2.1) (x3 := d.2.2) (by omega))
  simp only [decide_eq_true_eq] at h h'
  have e : IntKind.wrap .i64 (d.2.2 + 1) = d.2.2 + 1 := wr (by omega) (by omega)
  have hp : (10 : Int) ^ (d.2.2 + 1).toNat = 10 ^ d.2.2.toNat * 10 := by
    rw [show (d.2.2 + 1).toNat = d.2.2.toNat + 1 by omega, Int.pow_succ]
  have hskip : OkP (K (d.1, d.2.1, d.2.2 + 1)) (fun _ => True) := by
    refine hK _ ⟨h1, by simp only []; omega, by simp only []; omega, ?_, h5, by simp only []; omega⟩ (by simp only []; omega)
    simp only [hp]; omega
  refine OkP.chk (by simp; omega) (OkP.ite (fun h7 => OkP.chk (by simp; omega) (OkP.ite (fun h8 => OkP.chk (by simp; omega) ?_) (fun _ => by rw [e]; exact hskip))) (fun _ => by rw [e]; exact hskip))
  simp only [decide_eq_true_eq] at h7 h8
  rw [e, wr8 (z := (UInt8.toNat (List.getD s (Int.toNat d.2.2) 0) : Int) - 48) (by omega) (by omega), wr (z := (UInt8.toNat (List.getD s (Int.toNat d.2.2) 0) : Int) - 48) (by omega) (by omega), wr (z := d.1 * 10) (by omega) (by omega), wr (z := d.1 * 10 + _) (by omega) (by omega), wr (z := d.2.1 + 1) (by omega) (by omega)]
  refine hK _ ⟨by simp only []; omega, by simp only []; omega, by simp only []; omega, ?_, by simp only []; omega, by simp only []; omega⟩ (by simp only []; omega)
  simp only [hp]; omega

def decs (l : List Int) : List UInt8 := l.flatMap fun z => 32 :: Lib.itoa z
def In64 (z : Int) : Prop := -9223372036854775808 ≤ z ∧ z ≤ 9223372036854775807
theorem m24_loop {l : List Int} (hl : l.length ≤ 10) (hw : ∀ z ∈ l, In64 z) : ∀ (m i n : Nat) (out : List UInt8), i + m = l.length → m < n → out.length ≤ 100 * i →
    loopM (m24_1_body l (l.length : Int) (fun x1 x2 x3 => m24_1_p1 l (l.length : Int) x1 x2 x3)) n (out, (i : Int)) = some (out ++ decs (l.drop i), ()) := by
  intro m
  induction m with
  | zero =>
    intro i n out hi hn ho
    obtain ⟨n, rfl⟩ : ∃ k, n = k + 1 := ⟨n - 1, by omega⟩
    rw [loop_step]
    have : i = l.length := by omega
    subst this
    unfold m24_1_body m24_1_p1
    rw [show (decide ((l.length : Int) < (l.length : Int))) = false by simp]
    simp [decs]
  | succ m ih =>
    intro i n out hi hn ho
    obtain ⟨n, rfl⟩ : ∃ k, n = k + 1 := ⟨n - 1, by omega⟩
    have hil : i < l.length := by omega
    rw [loop_step]
    generalize hK : loopM (m24_1_body l (l.length : Int) (fun x1 x2 x3 => m24_1_p1 l (l.length : Int) x1 x2 x3)) n = K
    unfold m24_1_body
    have hz := hw l[i] (List.getElem_mem hil)
    have hg : List.getD l (Int.toNat (i : Int)) 0 = l[i] := by simp [List.getD, List.getElem?_eq_getElem hil]
    have hlen := Lib.itoa_length_le l[i] hz.1 hz.2
    simp only [hg]
    rw [m50_v hz.1 hz.2, show (decide ((i : Int) < (l.length : Int))) = true by simp; omega, show (decide (0 ≤ (i : Int))) = true by simp]
    simp only [cond_true, Bool.and_self, Option.bind_some]
    rw [show (decide (List.length ([32] : List UInt8) + List.length (Lib.itoa l[i]) < 4611686018427387904)) = true by simp; omega, show (decide (List.length out + List.length (([32] : List UInt8) ++ Lib.itoa l[i]) < 4611686018427387904)) = true by simp; omega]
    simp only [cond_true]
    rw [wr (by omega) (by omega), ← hK, show ((i : Int) + 1) = ((i + 1 : Nat) : Int) by omega, ih (i + 1) n _ (by omega) (by omega) (by simp; omega)]
    rw [List.drop_eq_getElem_cons hil]
    simp only [decs, List.flatMap_cons, List.append_assoc, List.cons_append, List.nil_append]
theorem m24_v {l : List Int} (hl : l.length ≤ 10) (hw : ∀ z ∈ l, In64 z) : m24 l = some (decs l, ()) := by
  unfold m24 m24_pre m24_1
  have := m24_loop hl hw l.length 0 fuel [] (by omega) (by rw [fuel_eq]; omega) (by simp)
  rw [List.drop_zero, List.nil_append] at this
  exact this
end
end Go.Proofs.YtfihmdlpikfbbaaGreatDoor
end

section
/- The plain law, fourth part: texts parted and joined. -/
namespace Go.Proofs.YtfihmdlpikfbbaaGreatDoor
open Go Go.Eng
set_option maxRecDepth 100000
noncomputable section

def addHead (p : List UInt8) : List (List UInt8) → List (List UInt8)
  | [] => [p]
  | h :: t => (p ++ h) :: t
def split (c : UInt8) : List UInt8 → List (List UInt8)
  | [] => [[]]
  | x :: r => if x = c then [] :: split c r else addHead [x] (split c r)
theorem split_ne (c : UInt8) : ∀ s, split c s ≠ []
  | [] => by simp [split]
  | x :: r => by
    unfold split
    split
    · simp
    · cases split c r <;> simp [addHead]
theorem addHead_addHead (p q : List UInt8) (L : List (List UInt8)) : addHead p (addHead q L) = addHead (p ++ q) L := by
  cases L <;> simp [addHead]
theorem addHead_nil {L : List (List UInt8)} (h : L ≠ []) : addHead [] L = L := by
  cases L with
  | nil => exact absurd rfl h
  | cons _ _ => rfl
theorem split_pre {c : UInt8} : ∀ {p : List UInt8}, c ∉ p → ∀ r, split c (p ++ c :: r) = p :: split c r
  | [], _, r => by simp [split]
  | x :: p, h, r => by
    have h1 : x ≠ c := fun e => h (by simp [e])
    have h2 : c ∉ p := fun e => h (by simp [e])
    rw [List.cons_append, split, if_neg h1, split_pre h2 r]
    simp [addHead]
theorem split_none {c : UInt8} : ∀ {p : List UInt8}, c ∉ p → split c p = [p]
  | [], _ => by simp [split]
  | x :: p, h => by
    have h1 : x ≠ c := fun e => h (by simp [e])
    have h2 : c ∉ p := fun e => h (by simp [e])
    unfold split
    rw [if_neg h1, split_none h2]
    simp [addHead]
theorem split_mem {c : UInt8} : ∀ {s p : List UInt8}, p ∈ split c s → p.length ≤ s.length
  | [], p, h => by simp [split] at h; simp [h]
  | x :: r, p, h => by
    unfold split at h
    split at h
    · rcases List.mem_cons.1 h with h | h
      · simp [h]
      · have := split_mem h; simp; omega
    · cases hs : split c r with
      | nil => exact absurd hs (split_ne c r)
      | cons a t =>
        rw [hs] at h
        rcases List.mem_cons.1 h with h | h
        · have := split_mem (c := c) (s := r) (p := a) (by rw [hs]; simp)
          subst h
          simp; omega
        · have := split_mem (c := c) (s := r) (p := p) (by rw [hs]; simp [h])
          simp; omega
theorem split_len (c : UInt8) : ∀ s, (split c s).length ≤ s.length + 1
  | [] => by simp [split]
  | x :: r => by
    have := split_len c r
    unfold split
    split
    · simp; omega
    · cases hs : split c r with
      | nil => simp [addHead]
      | cons a t => rw [hs] at this; simp [addHead] at this ⊢; omega
theorem join_cons2 (x y : List UInt8) (r : List (List UInt8)) (c : UInt8) : Lib.join (x :: y :: r) [c] = x ++ c :: Lib.join (y :: r) [c] := by
  rw [Lib.join_cons, Lib.join_cons]
  simp [Lib.joinTail]
theorem join_addHead (c x : UInt8) (L : List (List UInt8)) (h : L ≠ []) : Lib.join (addHead [x] L) [c] = x :: Lib.join L [c] := by
  cases L with
  | nil => exact absurd rfl h
  | cons a t =>
    simp only [addHead]
    rw [Lib.join_cons, Lib.join_cons]
    rfl
theorem join_split (c : UInt8) : ∀ s, Lib.join (split c s) [c] = s
  | [] => by simp [split, Lib.join_one]
  | x :: r => by
    have ih := join_split c r
    unfold split
    split
    · rename_i h
      subst h
      cases hs : split x r with
      | nil => exact absurd hs (split_ne x r)
      | cons a t =>
        rw [hs] at ih
        rw [join_cons2, ih]
        rfl
    · rw [join_addHead c x _ (split_ne c r), ih]
theorem split_join {c : UInt8} : ∀ {l : List (List UInt8)}, l ≠ [] → (∀ p ∈ l, c ∉ p) → split c (Lib.join l [c]) = l
  | [], h, _ => absurd rfl h
  | [x], _, h => by rw [Lib.join_one]; exact split_none (h x (by simp))
  | x :: y :: r, _, h => by
    rw [join_cons2, split_pre (h x (by simp)), split_join (by simp) fun p hp => h p (List.mem_cons_of_mem _ hp)]

/-- The pieces, at most so many and one. -/
def splitN (c : UInt8) : Nat → List UInt8 → List (List UInt8)
  | 0, s => [s]
  | k + 1, s => if Lib.indexByte s c < 0 then [s] else s.take (Lib.indexByte s c).toNat :: splitN c k (s.drop ((Lib.indexByte s c).toNat + 1))
theorem index_neg {c : UInt8} {s : List UInt8} (h : Lib.indexByte s c < 0) : c ∉ s := by
  induction s with
  | nil => simp
  | cons b l ih =>
    unfold Lib.indexByte at h
    split at h
    · omega
    · rename_i hb
      have hge := Lib.indexByte_ge l c
      split at h
      · rename_i h1
        have : Lib.indexByte l c = -1 := by simpa using h1
        have hl := ih (by omega)
        simp only [List.mem_cons, not_or]
        exact ⟨fun e => hb (by simp [e]), hl⟩
      · omega
theorem index_pos {c : UInt8} {s : List UInt8} (h : ¬ Lib.indexByte s c < 0) : (Lib.indexByte s c).toNat < s.length ∧ c ∉ s.take (Lib.indexByte s c).toNat ∧ s = s.take (Lib.indexByte s c).toNat ++ c :: s.drop ((Lib.indexByte s c).toNat + 1) := by
  induction s with
  | nil => simp [Lib.indexByte] at h
  | cons b l ih =>
    unfold Lib.indexByte at h ⊢
    split
    · rename_i hb
      have : b = c := by simpa using hb
      subst this
      simp
    · rename_i hb
      rw [if_neg hb] at h
      split
      · rename_i h1
        rw [if_pos h1] at h
        omega
      · rename_i h1
        rw [if_neg h1] at h
        have hge := Lib.indexByte_ge l c
        have hne : Lib.indexByte l c ≠ -1 := by simpa using h1
        obtain ⟨h2, h3, h4⟩ := ih (by omega)
        rw [show (Lib.indexByte l c + 1).toNat = (Lib.indexByte l c).toNat + 1 by omega]
        refine ⟨by simp; omega, ?_, ?_⟩
        · simp only [List.take_succ_cons, List.mem_cons, not_or]
          exact ⟨fun e => hb (by simp [e]), h3⟩
        · simp only [List.take_succ_cons, List.drop_succ_cons, List.cons_append]
          rw [← h4]
theorem splitN_ne (c : UInt8) : ∀ k s, splitN c k s ≠ []
  | 0, _ => by simp [splitN]
  | k + 1, s => by unfold splitN; split <;> simp
theorem splitN_split {c : UInt8} : ∀ (k : Nat) (s : List UInt8), s.count c ≤ k → splitN c k s = split c s
  | 0, s, h => by
    rw [split_none (List.count_eq_zero.1 (by omega))]
    rfl
  | k + 1, s, h => by
    unfold splitN
    split
    · rename_i h1
      rw [split_none (index_neg h1)]
    · rename_i h1
      obtain ⟨h2, h3, h4⟩ := index_pos h1
      have hc : s.count c = (s.drop ((Lib.indexByte s c).toNat + 1)).count c + 1 := by
        conv => lhs; rw [h4]
        rw [List.count_append, List.count_eq_zero.2 h3, List.count_cons_self]
        omega
      rw [splitN_split k _ (by omega)]
      conv => rhs; rw [h4]
      rw [split_pre h3]
theorem join_splitN {c : UInt8} : ∀ (k : Nat) (s : List UInt8), Lib.join (splitN c k s) [c] = s
  | 0, s => by simp [splitN, Lib.join_one]
  | k + 1, s => by
    unfold splitN
    split
    · simp [Lib.join_one]
    · rename_i h1
      obtain ⟨h2, h3, h4⟩ := index_pos h1
      have ih := join_splitN (c := c) k (s.drop ((Lib.indexByte s c).toNat + 1))
      cases hs : splitN c k (s.drop ((Lib.indexByte s c).toNat + 1)) with
      | nil => exact absurd hs (splitN_ne c k _)
      | cons a t =>
        rw [hs] at ih
        rw [join_cons2, ih, ← h4]
theorem splitN_mem {c : UInt8} : ∀ {k : Nat} {s p : List UInt8}, p ∈ splitN c k s → p.length ≤ s.length
  | 0, s, p, h => by simp [splitN] at h; simp [h]
  | k + 1, s, p, h => by
    unfold splitN at h
    split at h
    · simp at h; simp [h]
    · rcases List.mem_cons.1 h with h | h
      · subst h; simp; omega
      · have := splitN_mem h
        simp at this; omega
theorem splitN_len (c : UInt8) : ∀ (k : Nat) (s : List UInt8), (splitN c k s).length ≤ k + 1
  | 0, s => by simp [splitN]
  | k + 1, s => by
    unfold splitN
    split
    · simp
    · have := splitN_len c k (s.drop ((Lib.indexByte s c).toNat + 1))
      simp; omega

theorem m42_loop {s : List UInt8} {c : UInt8} (hs : s.length ≤ 1000000) : ∀ (m i n f : Nat) (out : List (List UInt8)), i + m = s.length → m < n → f ≤ i → out.length ≤ i → 
    loopM (m42_1_body s (c.toNat : Int) (fun x1 x2 x3 x4 => m42_1_p1 s (c.toNat : Int) x1 x2 x3 x4)) n ((f : Int), (i : Int), out) = some (out ++ addHead ((s.take i).drop f) (split c (s.drop i)), ()) := by
  intro m
  induction m with
  | zero =>
    intro i n f out hi hn hf ho
    obtain ⟨n, rfl⟩ : ∃ k, n = k + 1 := ⟨n - 1, by omega⟩
    have : i = s.length := by omega
    subst this
    rw [loop_step]
    unfold m42_1_body m42_1_p1
    rw [show (decide ((s.length : Int) < ((List.length s : Int)))) = false by simp]
    simp only [cond_false]
    rw [show (decide (0 ≤ (f : Int))) = true by simp, show (decide ((f : Int) ≤ ((List.length s : Int)))) = true by simp; omega, show (decide ((s.length : Int) ≤ ((List.length s : Int)))) = true by simp]
    simp only [Bool.and_self, cond_true]
    rw [show (decide (List.length out + List.length [(List.drop (Int.toNat (f : Int)) (List.take (Int.toNat ((List.length s : Int))) s))] < 1073741824)) = true by simp; omega]
    simp [split, addHead]
  | succ m ih =>
    intro i n f out hi hn hf ho
    obtain ⟨n, rfl⟩ : ∃ k, n = k + 1 := ⟨n - 1, by omega⟩
    have hil : i < s.length := by omega
    rw [loop_step]
    generalize hK : loopM (m42_1_body s (c.toNat : Int) (fun x1 x2 x3 x4 => m42_1_p1 s (c.toNat : Int) x1 x2 x3 x4)) n = K
    unfold m42_1_body
    simp only [getD_at hil]
    rw [show (decide ((i : Int) < ((List.length s : Int)))) = true by simp; omega, show (decide (0 ≤ (i : Int))) = true by simp, show (decide (0 ≤ (f : Int))) = true by simp, show (decide ((f : Int) ≤ (i : Int))) = true by simp; omega, show (decide ((i : Int) ≤ ((List.length s : Int)))) = true by simp; omega]
    simp only [Bool.and_self, cond_true]
    rw [show (decide (List.length out + List.length [(List.drop (Int.toNat (f : Int)) (List.take (Int.toNat (i : Int)) s))] < 1073741824)) = true by simp; omega, wr (by omega) (by omega), show ((i : Int) + 1) = ((i + 1 : Nat) : Int) by omega]
    simp only [cond_true, Int.toNat_natCast]
    have hd : s.drop i = s[i] :: s.drop (i + 1) := List.drop_eq_getElem_cons hil
    have ht : s.take (i + 1) = s.take i ++ [s[i]] := List.take_succ_eq_append_getElem hil
    by_cases hc : s[i] = c
    · rw [show ((s[i].toNat : Int) == (c.toNat : Int)) = true by simp [hc]]
      simp only [cond_true]
      rw [← hK, ih (i + 1) n (i + 1) _ (by omega) (by omega) (by omega) (by simp; omega), hd]
      have e : (s.take (i + 1)).drop (i + 1) = [] := by
        apply List.drop_eq_nil_of_le
        simp; omega
      rw [e, addHead_nil (split_ne _ _)]
      simp [split, hc, addHead]
    · have hc' : ((s[i].toNat : Int) == (c.toNat : Int)) = false := by
        simp only [beq_eq_false_iff_ne, ne_eq]
        intro h
        exact hc (UInt8.toNat_inj.1 (by omega))
      rw [hc']
      simp only [cond_false]
      rw [← hK, ih (i + 1) n f _ (by omega) (by omega) (by omega) (by omega), hd]
      have e : split c (s[i] :: s.drop (i + 1)) = addHead [s[i]] (split c (s.drop (i + 1))) := by
        rw [split]
        simp [hc]
      rw [e, addHead_addHead, ht, List.drop_append_of_le_length (by simp; omega)]
theorem m42_v {s : List UInt8} (hs : s.length ≤ 1000000) (c : UInt8) : m42 s (c.toNat : Int) = some (split c s, ()) := by
  unfold m42 m42_pre m42_1
  have := m42_loop (s := s) (c := c) hs s.length 0 fuel 0 [] (by omega) (by rw [fuel_eq]; omega) (by omega) (by simp)
  simp only [List.drop_zero, List.take_zero, List.drop_nil, List.nil_append] at this
  rw [addHead_nil (split_ne _ _)] at this
  exact this

theorem take_set : ∀ {a : List (List UInt8)} {i : Nat} (x : List UInt8), i < a.length → (a.set i x).take (i + 1) = a.take i ++ [x]
  | b :: a, 0, x, _ => by simp
  | b :: a, i + 1, x, h => by
    have := take_set (a := a) (i := i) x (by simpa using h)
    simp only [List.set_cons_succ, List.take_succ_cons, List.cons_append]
    rw [this]
theorem m51_x {i : Nat} {a : List (List UInt8)} {s : List UInt8} (hi : i < a.length) (ha : a.length ≤ 2000000) :
    (bif ((decide (0 ≤ (i : Int))) && (decide ((i : Int) < ((List.length a : Int))))) then
    bif ((decide (0 ≤ (IntKind.wrap .i64 ((i : Int) + 1)))) && (decide ((IntKind.wrap .i64 ((i : Int) + 1)) ≤ ((List.length (List.set a (Int.toNat (i : Int)) s) : Int))))) then
      some ((List.drop (0) (List.take (Int.toNat (IntKind.wrap .i64 ((i : Int) + 1))) (List.set a (Int.toNat (i : Int)) s))), ())
    else
      none
  else
    none) = some (a.take i ++ [s], ()) := by
  rw [wr (by omega) (by omega), show (decide (0 ≤ (i : Int))) = true by simp, show (decide ((i : Int) < ((List.length a : Int)))) = true by simp; omega, show (decide (0 ≤ (i : Int) + 1)) = true by simp; omega, show (decide ((i : Int) + 1 ≤ ((List.length (List.set a (Int.toNat (i : Int)) s) : Int)))) = true by simp; omega]
  simp only [Bool.and_self, cond_true, List.drop_zero, Int.toNat_natCast]
  rw [show ((i : Int) + 1).toNat = i + 1 by omega, take_set s hi]

theorem lIndex_v (s : List UInt8) (c : UInt8) : lIndex s [c] = some (Lib.indexByte s c, ()) := rfl
theorem m51_loop {c : UInt8} {p3 : Nat} (p4 p5 p6 : Bool) (p7 : List (List UInt8)) (hp : p3 ≤ 1000000) : ∀ (m i n : Nat) (s : List UInt8) (a : List (List UInt8)), i + m = p3 → m < n → a.length = p3 + 1 → s.length ≤ 1000000 →
    loopM (m51_1_body [c] 0 (p3 : Int) p4 p5 p6 p7 (fun x1 x2 x3 x4 x5 x6 => m51_1_p1 [c] 0 (p3 : Int) p4 p5 p6 p7 x1 x2 x3 x4 x5 x6) (fun x1 x2 x3 x4 => m51_1_p2 [c] 0 (p3 : Int) p4 p5 p6 p7 x1 x2 x3 x4)) n (s, (i : Int), a)
      = some (a.take i ++ splitN c (p3 - i) s, ()) := by
  intro m
  induction m with
  | zero =>
    intro i n s a hi hn ha hs
    obtain ⟨n, rfl⟩ : ∃ k, n = k + 1 := ⟨n - 1, by omega⟩
    have : i = p3 := by omega
    subst this
    rw [loop_step]
    unfold m51_1_body m51_1_p2
    rw [show (decide ((i : Int) < (i : Int))) = false by simp]
    simp only [cond_false]
    rw [m51_x (by omega) (by omega), Nat.sub_self]
    rfl
  | succ m ih =>
    intro i n s a hi hn ha hs
    obtain ⟨n, rfl⟩ : ∃ k, n = k + 1 := ⟨n - 1, by omega⟩
    rw [loop_step]
    generalize hK : loopM (m51_1_body [c] 0 (p3 : Int) p4 p5 p6 p7 (fun x1 x2 x3 x4 x5 x6 => m51_1_p1 [c] 0 (p3 : Int) p4 p5 p6 p7 x1 x2 x3 x4 x5 x6) (fun x1 x2 x3 x4 => m51_1_p2 [c] 0 (p3 : Int) p4 p5 p6 p7 x1 x2 x3 x4)) n = K
    unfold m51_1_body m51_1_p1
    rw [show (decide ((i : Int) < (p3 : Int))) = true by simp; omega, lIndex_v]
    simp only [cond_true, Option.bind_some]
    obtain ⟨k, hk⟩ : ∃ k, p3 - i = k + 1 := ⟨p3 - i - 1, by omega⟩
    rw [hk, splitN]
    by_cases h : Lib.indexByte s c < 0
    · rw [if_pos h, show (decide (Lib.indexByte s c < 0)) = true by simpa using h]
      simp only [cond_true]
      exact m51_x (by omega) (by omega)
    · rw [if_neg h, show (decide (Lib.indexByte s c < 0)) = false by simpa using h]
      simp only [cond_false]
      obtain ⟨h2, h3, h4⟩ := index_pos h
      rw [wr (z := Lib.indexByte s c + 0) (by omega) (by omega), wr (z := Lib.indexByte s c + ((List.length [c] : Int))) (by simp; omega) (by simp; omega), wr (z := (i : Int) + 1) (by omega) (by omega)]
      rw [show (decide (0 ≤ Lib.indexByte s c + 0)) = true by simp; omega, show (decide (Lib.indexByte s c + 0 ≤ ((List.length s : Int)))) = true by simp; omega, show (decide (0 ≤ (i : Int))) = true by simp, show (decide ((i : Int) < ((List.length a : Int)))) = true by simp; omega,
        show (decide (0 ≤ Lib.indexByte s c + ((List.length [c] : Int)))) = true by simp; omega, show (decide (Lib.indexByte s c + ((List.length [c] : Int)) ≤ ((List.length s : Int)))) = true by simp; omega, show (decide (((List.length s : Int)) ≤ ((List.length s : Int)))) = true by simp]
      simp only [Bool.and_self, cond_true, Int.toNat_natCast, List.take_length, List.drop_zero]
      rw [show (Lib.indexByte s c + ((List.length [c] : Nat) : Int)).toNat = (Lib.indexByte s c).toNat + 1 by simp; omega, show (Lib.indexByte s c + 0).toNat = (Lib.indexByte s c).toNat by omega, show ((i : Int) + 1) = ((i + 1 : Nat) : Int) by omega, ← hK]
      rw [ih (i + 1) n _ _ (by omega) (by omega) (by simp; omega) (by simp; omega), take_set _ (by omega), show p3 - (i + 1) = k by omega, List.append_assoc]
      rfl
theorem m51_v {s : List UInt8} {c : UInt8} {p3 : Nat} (p4 p5 p6 : Bool) (p7 : List (List UInt8)) (hp : p3 ≤ 1000000) (hs : s.length ≤ 1000000) :
    m51_1 [c] 0 (p3 : Int) p4 p5 p6 p7 fuel (s, 0, List.replicate (p3 + 1) []) = some (splitN c p3 s, ()) := by
  have := m51_loop (c := c) p4 p5 p6 p7 hp p3 0 fuel s (List.replicate (p3 + 1) []) (by omega) (by rw [fuel_eq]; omega) (by simp) hs
  unfold m51_1
  simpa using this
theorem m25_v {s : List UInt8} (hs : s.length ≤ 1000000) (c : UInt8) : m25 s [c] = some (split c s, ()) := by
  have hc : s.count c ≤ s.length := List.count_le_length
  unfold m25 m51 m51_pre
  rw [show ((-1 : Int) == 0) = false by rfl, show (List.beq [c] ([] : List UInt8)) = false by rfl, show (decide ((-1 : Int) < 0)) = true by rfl]
  simp only [cond_true, cond_false]
  rw [show lCount s [c] = some ((s.count c : Int), ()) from rfl]
  simp only [Option.bind_some]
  rw [wr (z := (s.length : Int) + 1) (by omega) (by omega), wr (z := (s.count c : Int) + 1) (by omega) (by omega)]
  have e : (bif decide ((s.length : Int) + 1 < (s.count c : Int) + 1) then (s.length : Int) + 1 else (s.count c : Int) + 1) = ((s.count c + 1 : Nat) : Int) := by
    rw [show (decide ((s.length : Int) + 1 < (s.count c : Int) + 1)) = false by simp; omega]
    simp
  rw [e, show (decide (0 ≤ ((s.count c + 1 : Nat) : Int))) = true by simp; omega, show (decide (((s.count c + 1 : Nat) : Int) ≤ ((s.count c + 1 : Nat) : Int))) = true by simp, show (decide (((s.count c + 1 : Nat) : Int) < 1073741824)) = true by simp; omega]
  simp only [Bool.and_self, cond_true, Int.toNat_natCast]
  rw [show (((s.count c + 1 : Nat) : Int) - 1) = (s.count c : Int) by omega, wr (by omega) (by omega), m51_v _ _ _ _ (by omega) hs, splitN_split _ _ (Nat.le_refl _)]
  rfl
theorem m34_v {s : List UInt8} (hs : s.length ≤ 1000000) (c : UInt8) : ∃ k, (6 ≤ k ∨ s.count c ≤ k) ∧ k ≤ 6 ∧ m34 s [c] 7 = some (splitN c k s, ()) := by
  have hc : s.count c ≤ s.length := List.count_le_length
  obtain ⟨k, hk, hk6, he⟩ : ∃ k : Nat, (6 ≤ k ∨ s.count c ≤ k) ∧ k ≤ 6 ∧ (bif decide ((s.length : Int) + 1 < 7) then (s.length : Int) + 1 else 7) = ((k + 1 : Nat) : Int) := by
    by_cases h : (s.length : Int) + 1 < 7
    · exact ⟨s.length, .inr hc, by omega, by rw [show (decide ((s.length : Int) + 1 < 7)) = true by simpa using h]; simp⟩
    · exact ⟨6, .inl (Nat.le_refl _), Nat.le_refl _, by rw [show (decide ((s.length : Int) + 1 < 7)) = false by simpa using h]; rfl⟩
  refine ⟨k, hk, hk6, ?_⟩
  unfold m34 m51 m51_pre
  rw [show ((7 : Int) == 0) = false by rfl, show (List.beq [c] ([] : List UInt8)) = false by rfl, show (decide ((7 : Int) < 0)) = false by rfl]
  simp only [cond_false]
  rw [wr (z := (s.length : Int) + 1) (by omega) (by omega), he, show (decide (0 ≤ ((k + 1 : Nat) : Int))) = true by simp; omega, show (decide (((k + 1 : Nat) : Int) ≤ ((k + 1 : Nat) : Int))) = true by simp, show (decide (((k + 1 : Nat) : Int) < 1073741824)) = true by simp; omega]
  simp only [Bool.and_self, cond_true, Int.toNat_natCast]
  rw [show (((k + 1 : Nat) : Int) - 1) = (k : Int) by omega, wr (by omega) (by omega), m51_v _ _ _ _ (by omega) hs]
  rfl
end
end Go.Proofs.YtfihmdlpikfbbaaGreatDoor
end

section
/- The plain law, fifth part: operations shown. -/
namespace Go.Proofs.YtfihmdlpikfbbaaGreatDoor
open Go Go.Eng
set_option maxRecDepth 100000
noncomputable section

abbrev Op := Int × Int × Int × Int × Unit
def hasCell (k : Int) : Bool := k == 1 || k == 2 || k == 3 || k == 7
def within (a b c : Int) : Bool := decide (b ≤ a) && decide (a ≤ c)
def opOk (o : Op) : Bool := within o.1 1 7 && (if hasCell o.1 = true then within o.2.1 0 1 else o.2.1 == 0) && (if o.1 = 1 then within o.2.2.1 0 100 && within o.2.2.2.1 0 65535 else o.2.2.1 == 0 && o.2.2.2.1 == 0)
theorem within_iff {a b c : Int} : within a b c = true ↔ b ≤ a ∧ a ≤ c := by simp [within]
theorem m49_v (a b c : Int) : m49 a b c = some (within a b c, ()) := by
  unfold m49 within
  by_cases h : a ≥ b
  · rw [show (decide (a ≥ b)) = true by simpa using h]; simp [h]
  · rw [show (decide (a ≥ b)) = false by simpa using h]; simp
theorem m35_v (a b c : Int) : m35 a b c = some (within a b c, ()) := m49_v a b c
theorem m36_v (k : Int) : m36 k = some (hasCell k, ()) := by
  obtain ⟨r, e, h⟩ := m36_ok k
  rw [e]
  unfold hasCell
  rw [← h]
theorem seven {k : Int} (h : within k 1 7 = true) : k = 1 ∨ k = 2 ∨ k = 3 ∨ k = 4 ∨ k = 5 ∨ k = 6 ∨ k = 7 := by
  rw [within_iff] at h
  omega
theorem m22_v (o : Op) : m22 o = some (opOk o, ()) := by
  obtain ⟨k, c, s, v, ⟨⟩⟩ := o
  unfold m22 opOk
  simp only [m49_v, Option.bind_some]
  cases hk : within k 1 7 with
  | true =>
    rcases seven hk with rfl | rfl | rfl | rfl | rfl | rfl | rfl <;> cases h2 : within c 0 1 <;> cases h3 : within s 0 100 <;> cases h4 : within v 0 65535 <;> cases h5 : (s == 0) <;> cases h6 : (c == 0) <;> simp [hasCell, h6, bne]
  | false =>
    have hn : ∀ j : Int, 1 ≤ j → j ≤ 7 → (k == j) = false := fun j h1 h2 => by
      simp only [beq_eq_false_iff_ne, ne_eq]
      rintro rfl
      rw [within_iff.2 ⟨h1, h2⟩] at hk
      cases hk
    simp [hn 1 (by omega) (by omega), hn 2 (by omega) (by omega), hn 3 (by omega) (by omega)]
theorem m14_v (o : Op) : m14 o = some (opOk o, ()) := by
  obtain ⟨k, c, s, v, ⟨⟩⟩ := o
  unfold m14 opOk
  simp only [m35_v, m36_v, Option.bind_some]
  cases hk : within k 1 7 with
  | true =>
    rcases seven hk with rfl | rfl | rfl | rfl | rfl | rfl | rfl <;> cases h2 : within c 0 1 <;> cases h3 : within s 0 100 <;> cases h4 : within v 0 65535 <;> cases h5 : (s == 0) <;> cases h6 : (c == 0) <;> simp [hasCell, h6, bne] <;> first | done | (exfalso; simp [within] at h2 h6; omega)
  | false => simp

def word (k : Int) : List UInt8 := List.getD [([115, 101, 116] : List UInt8), ([103, 101, 116] : List UInt8), ([104, 97, 122] : List UInt8), ([99, 111, 108, 108, 101, 99, 116] : List UInt8), ([112, 105, 110] : List UInt8), ([117, 110, 112, 105, 110] : List UInt8), ([112, 101, 101, 107] : List UInt8)] (Int.toNat (k - 1)) ([] : List UInt8)
theorem m23_v {k : Int} (h : within k 1 7 = true) : m23 k = some (word k, ()) := by
  rcases seven h with rfl | rfl | rfl | rfl | rfl | rfl | rfl <;> rfl
theorem m44_v {k : Int} (h : within k 1 7 = true) : m44 k = some (word k, ()) := by
  rcases seven h with rfl | rfl | rfl | rfl | rfl | rfl | rfl <;> rfl
def opArgs (o : Op) : List Int := if o.1 = 1 then [o.2.1, o.2.2.1, o.2.2.2.1] else if hasCell o.1 = true then [o.2.1] else []
def showOp (o : Op) : List UInt8 := if opOk o = true then word o.1 ++ decs (opArgs o) else []
theorem decs_len : ∀ {l : List Int}, (∀ z ∈ l, In64 z) → (decs l).length ≤ 22 * l.length
  | [], _ => by simp [decs]
  | z :: l, h => by
    have h1 := decs_len (l := l) fun y hy => h y (List.mem_cons_of_mem _ hy)
    have hz := h z (by simp)
    have h2 := Lib.itoa_length_le z hz.1 hz.2
    simp only [decs, List.flatMap_cons, List.length_append, List.length_cons] at h1 ⊢
    omega
theorem opOk_k {o : Op} (h : opOk o = true) : within o.1 1 7 = true := by
  unfold opOk at h
  simp only [Bool.and_eq_true] at h
  exact h.1.1
theorem opArgs_small {o : Op} (h : opOk o = true) : (∀ z ∈ opArgs o, 0 ≤ z ∧ z ≤ 65535) ∧ (opArgs o).length ≤ 3 := by
  unfold opOk at h
  simp only [Bool.and_eq_true] at h
  obtain ⟨⟨_, h2⟩, h3⟩ := h
  unfold opArgs
  split
  · rename_i h1
    rw [h1] at h2
    rw [if_pos (show hasCell 1 = true from rfl)] at h2
    rw [if_pos h1] at h3
    simp only [Bool.and_eq_true, within_iff] at h2 h3
    refine ⟨?_, by simp⟩
    intro z hz
    simp at hz
    rcases hz with rfl | rfl | rfl <;> omega
  · split
    · rename_i h1 h4
      rw [if_pos h4] at h2
      rw [within_iff] at h2
      refine ⟨?_, by simp⟩
      intro z hz
      simp at hz
      subst hz
      omega
    · simp
theorem word_len (k : Int) (h : within k 1 7 = true) : (word k).length ≤ 7 := by
  rcases seven h with rfl | rfl | rfl | rfl | rfl | rfl | rfl <;> decide
theorem m24_small {l : List Int} (h : ∀ z ∈ l, 0 ≤ z ∧ z ≤ 65535) (hl : l.length ≤ 3) : m24 l = some (decs l, ()) ∧ (decs l).length ≤ 66 := by
  have hw : ∀ z ∈ l, In64 z := fun z hz => ⟨by have := h z hz; omega, by have := h z hz; omega⟩
  exact ⟨m24_v (by omega) hw, by have := decs_len hw; omega⟩
theorem opArgs_1 (c s v : Int) : opArgs (1, c, s, v, ()) = [c, s, v] := rfl
theorem m6_v (o : Op) : m6 o = some (showOp o, ()) := by
  unfold m6 showOp
  rw [m22_v]
  simp only [Option.bind_some]
  cases h : opOk o with
  | false => rfl
  | true =>
    obtain ⟨k, c, s, v, ⟨⟩⟩ := o
    have hk := opOk_k h
    simp only at hk
    obtain ⟨hs, hl⟩ := opArgs_small h
    obtain ⟨h1, h2⟩ := m24_small hs hl
    have h3 := word_len k hk
    simp only [m23_v hk, Bool.not_true, cond_false, if_true, Option.bind_some]
    rcases seven hk with rfl | rfl | rfl | rfl | rfl | rfl | rfl <;> simp only [opArgs, hasCell] at h1 h2 ⊢ <;> simp at h1 h2 ⊢ <;> first
      | (rw [h1]; simp only [Option.bind_some]; rw [show (decide (List.length (word _) + List.length (decs _) < 4611686018427387904)) = true by simp; omega]; rfl)
      | (simp [decs]; done)
theorem m59_i {z : Int} (h1 : 0 ≤ z) (h2 : z < 1000000000000) : m59 z = some (Lib.itoa z, ()) := by
  obtain ⟨u, rfl⟩ := Int.eq_ofNat_of_zero_le h1
  exact m59_v (by omega)
theorem decs1 (c : Int) : decs [c] = 32 :: Lib.itoa c := by simp [decs]
theorem decs3 (c s v : Int) : decs [c, s, v] = 32 :: Lib.itoa c ++ (32 :: Lib.itoa s ++ (32 :: Lib.itoa v)) := by simp [decs]
theorem itoa_small {z : Int} (h : 0 ≤ z ∧ z ≤ 65535) : (Lib.itoa z).length ≤ 21 := Lib.itoa_length_le z (by omega) (by omega)
theorem m37_v (o : Op) : m37 o = some (showOp o, ()) := by
  unfold m37 showOp
  rw [m14_v]
  simp only [Option.bind_some, m36_v]
  cases h : opOk o with
  | false => rfl
  | true =>
    obtain ⟨k, c, s, v, ⟨⟩⟩ := o
    have hk := opOk_k h
    simp only at hk
    obtain ⟨hs, hl⟩ := opArgs_small h
    have h3 := word_len k hk
    simp only [m44_v hk, Bool.not_true, cond_false, if_true, Option.bind_some]
    rcases seven hk with rfl | rfl | rfl | rfl | rfl | rfl | rfl <;> simp only [opArgs, hasCell] at hs ⊢
    · have hc := hs c (by simp)
      have hs' := hs s (by simp)
      have hv := hs v (by simp)
      have l1 := itoa_small hc
      have l2 := itoa_small hs'
      have l3 := itoa_small hv
      rw [m59_i hc.1 (by omega), m59_i hs'.1 (by omega), m59_i hv.1 (by omega)]
      simp only [Option.bind_some]
      rw [show (decide (List.length (word 1) + List.length ([32] : List UInt8) < 4611686018427387904)) = true by simp; omega,
        show (decide (List.length (word 1 ++ ([32] : List UInt8)) + List.length (Lib.itoa c) < 4611686018427387904)) = true by simp; omega,
        show (decide (List.length ((word 1 ++ ([32] : List UInt8)) ++ Lib.itoa c) + List.length ([32] : List UInt8) < 4611686018427387904)) = true by simp; omega,
        show (decide (List.length (((word 1 ++ ([32] : List UInt8)) ++ Lib.itoa c) ++ ([32] : List UInt8)) + List.length (Lib.itoa s) < 4611686018427387904)) = true by simp; omega,
        show (decide (List.length ((((word 1 ++ ([32] : List UInt8)) ++ Lib.itoa c) ++ ([32] : List UInt8)) ++ Lib.itoa s) + List.length ([32] : List UInt8) < 4611686018427387904)) = true by simp; omega,
        show (decide (List.length (((((word 1 ++ ([32] : List UInt8)) ++ Lib.itoa c) ++ ([32] : List UInt8)) ++ Lib.itoa s) ++ ([32] : List UInt8)) + List.length (Lib.itoa v) < 4611686018427387904)) = true by simp; omega]
      simp [decs3]
    all_goals first
      | (simp [decs]; done)
      | (have hc := hs c (by simp)
         have l1 := itoa_small hc
         rw [m59_i hc.1 (by omega)]
         simp only [Option.bind_some]
         rw [show (decide (List.length (word _) + List.length ([32] : List UInt8) < 4611686018427387904)) = true by simp; omega, show (decide (List.length (word _ ++ ([32] : List UInt8)) + List.length (Lib.itoa c) < 4611686018427387904)) = true by simp; omega]
         simp [decs1]; done)
theorem showOp_len (o : Op) : (showOp o).length ≤ 80 := by
  unfold showOp
  split
  · rename_i h
    obtain ⟨hs, hl⟩ := opArgs_small h
    have h1 := (m24_small hs hl).2
    have h2 := word_len _ (opOk_k h)
    simp; omega
  · simp

/-! Reading. -/
theorem join_decs (w : List UInt8) (l : List Int) : Lib.join (w :: l.map Lib.itoa) [32] = w ++ decs l := by
  rw [Lib.join_cons]
  congr 1
  induction l with
  | nil => rfl
  | cons z l ih =>
    simp only [Lib.joinTail, List.map_cons, List.flatten_cons, decs, List.flatMap_cons] at ih ⊢
    rw [ih]
    rfl
theorem itoa_no {z : Int} (h : 0 ≤ z) (c : UInt8) (hc : c.toNat < 48 ∨ 57 < c.toNat) : c ∉ Lib.itoa z := by
  obtain ⟨u, rfl⟩ := Int.eq_ofNat_of_zero_le h
  rw [show ((u : Nat) : Int) = Int.ofNat u from rfl] at *
  intro hm
  have := decDigits_mem u c (by rw [← itoa_nat]; exact hm)
  omega
theorem split_shown {w : List UInt8} {l : List Int} (hw : (32 : UInt8) ∉ w) (hl : ∀ z ∈ l, 0 ≤ z) : split 32 (w ++ decs l) = w :: l.map Lib.itoa := by
  rw [← join_decs]
  refine split_join (by simp) fun p hp => ?_
  rcases List.mem_cons.1 hp with rfl | hp
  · exact hw
  · obtain ⟨z, hz, rfl⟩ := List.mem_map.1 hp
    exact itoa_no (hl z hz) 32 (.inl (by decide))
/-- What a word is read as. -/
def rd (p : List UInt8) : Int := match m52 p with
  | some r => r.1
  | none => 0
def rs (p : List UInt8) : Int := match m63 p with
  | some r => r.1
  | none => 0
theorem rd_itoa {z : Int} (h : 0 ≤ z ∧ z ≤ 65535) : rd (Lib.itoa z) = z := by
  obtain ⟨u, hu⟩ := Int.eq_ofNat_of_zero_le h.1
  subst hu
  unfold rd
  rw [m52_v (by omega)]
theorem rs_itoa {z : Int} (h : 0 ≤ z ∧ z ≤ 65535) : rs (Lib.itoa z) = z := by
  obtain ⟨u, hu⟩ := Int.eq_ofNat_of_zero_le h.1
  subst hu
  unfold rs
  rw [m63_v (by omega)]
theorem m52_r {p : List UInt8} (h : p.length ≤ 1000000000) : ∃ b, m52 p = some (rd p, b, ()) := by
  obtain ⟨r, hr, _⟩ := m52_ok h
  refine ⟨r.2.1, ?_⟩
  unfold rd
  rw [hr]
theorem m63_r (p : List UInt8) : ∃ b, m63 p = some (rs p, b, ()) := by
  obtain ⟨r, hr, _⟩ := m63_ok p
  refine ⟨r.2.1, ?_⟩
  unfold rs
  rw [hr]
def nth (f : List UInt8 → Int) (l : List (List UInt8)) (i : Nat) : Int := match l[i]? with
  | some p => f p
  | none => 0
theorem fuel_4 : fuel = 4611686018427387900 + 1 + 1 + 1 + 1 := rfl
end
end Go.Proofs.YtfihmdlpikfbbaaGreatDoor
end
