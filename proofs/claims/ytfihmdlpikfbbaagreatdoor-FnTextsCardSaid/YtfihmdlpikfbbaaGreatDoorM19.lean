/- Part 19 of 20 of a claim; what is proved, and under which conditions, stands in the last part. Here: Zl6, Zl7, Zl8, Zl9, Zl10. -/
import Derived.Test.YtfihmdlpikfbbaaGreatDoorM18
set_option linter.unusedVariables false
set_option linter.unusedSimpArgs false
set_option linter.unusedSectionVars false
section
/- The plain law, sixth part: operations read. -/
namespace Go.Proofs.YtfihmdlpikfbbaaGreatDoor
open Go Go.Eng
set_option maxRecDepth 100000
noncomputable section

theorem w0 : IntKind.wrap .i64 1 = 1 := by decide
theorem w1 : IntKind.wrap .i64 2 = 2 := by decide
theorem w2 : IntKind.wrap .i64 3 = 3 := by decide
theorem m26_v {l : List (List UInt8)} (h : ∀ p ∈ l, p.length ≤ 1000000000) : m26 l = some ([nth rd l 0, nth rd l 1, nth rd l 2], ()) := by
  unfold m26 m26_pre m26_1
  obtain ⟨n, hn⟩ : ∃ n, fuel = n + 1 + 1 + 1 + 1 := ⟨_, fuel_4⟩
  rw [hn]
  match l, h with
  | [], _ => rfl
  | [a], h =>
    obtain ⟨b, hb⟩ := m52_r (h a (by simp))
    have e : (bif decide (3 < ((List.length [a] : Int))) then 3 else ((List.length [a] : Int))) = 1 := rfl
    rw [e]
    simp only [loop_step, m26_1_body, m26_1_p1]
    simp [hb, nth, w0]
  | [a, a'], h =>
    obtain ⟨b, hb⟩ := m52_r (h a (by simp))
    obtain ⟨b', hb'⟩ := m52_r (h a' (by simp))
    have e : (bif decide (3 < ((List.length [a, a'] : Int))) then 3 else ((List.length [a, a'] : Int))) = 2 := rfl
    rw [e]
    simp only [loop_step, m26_1_body, m26_1_p1]
    simp [hb, hb', nth, w0, w1]
  | a :: a' :: a'' :: t, h =>
    obtain ⟨b, hb⟩ := m52_r (h a (by simp))
    obtain ⟨b', hb'⟩ := m52_r (h a' (by simp))
    obtain ⟨b'', hb''⟩ := m52_r (h a'' (by simp))
    have e : (bif decide (3 < ((List.length (a :: a' :: a'' :: t) : Int))) then 3 else ((List.length (a :: a' :: a'' :: t) : Int))) = 3 := by
      cases t with
      | nil => rfl
      | cons x t =>
        rw [show (decide (3 < ((List.length (a :: a' :: a'' :: x :: t) : Int)))) = true by simp; omega]
        rfl
    rw [e, show (decide ((3 : Int) ≤ ((List.length (a :: a' :: a'' :: t) : Int)))) = true by simp; omega]
    simp only [loop_step, m26_1_body, m26_1_p1]
    simp [hb, hb', hb'', nth, w0, w1, w2]

/-- The operation that a loop over the kinds finds. -/
def firstOp (s : List UInt8) (a b c : Int) : List Int → Op × Bool × Unit
  | [] => ((0, 0, 0, 0, ()), false, ())
  | k :: ks => if s ≠ [] ∧ showOp (k, a, b, c, ()) = s then ((k, a, b, c, ()), true, ()) else firstOp s a b c ks
theorem firstOp_true {s : List UInt8} {a b c : Int} : ∀ {ks : List Int}, (firstOp s a b c ks).2.1 = true → s ≠ [] ∧ showOp (firstOp s a b c ks).1 = s
  | [], h => by simp [firstOp] at h
  | k :: ks, h => by
    unfold firstOp at h ⊢
    split
    · rename_i h1
      exact h1
    · rename_i h1
      rw [if_neg h1] at h
      exact firstOp_true h
theorem firstOp_hit {s : List UInt8} {a b c k : Int} (hs : s ≠ []) (hk : showOp (k, a, b, c, ()) = s) : ∀ {ks : List Int}, k ∈ ks → (∀ j ∈ ks, showOp (j, a, b, c, ()) = s → j = k) → firstOp s a b c ks = ((k, a, b, c, ()), true, ())
  | j :: ks, hm, hu => by
    unfold firstOp
    split
    · rename_i h1
      rw [hu j (by simp) h1.2]
    · rename_i h1
      rcases List.mem_cons.1 hm with rfl | hm
      · exact absurd ⟨hs, hk⟩ h1
      · exact firstOp_hit hs hk hm fun j hj => hu j (List.mem_cons_of_mem _ hj)
theorem beq_iff {a b : List UInt8} : List.beq a b = decide (a = b) := by
  by_cases h : a = b
  · subst h; rw [beq_self]; simp
  · rw [decide_eq_false h]
    cases hb : List.beq a b with
    | false => rfl
    | true => exact absurd (beq_eq hb) h
theorem m7_step {s : List UInt8} {p2 : List (List UInt8)} {a b c : Int} {n : Nat} {k : Int} (h1 : 1 ≤ k) (h2 : k ≤ 7) :
    m7_1 s p2 [a, b, c] (n + 1) k = if s ≠ [] ∧ showOp (k, a, b, c, ()) = s then some ((k, a, b, c, ()), true, ()) else m7_1 s p2 [a, b, c] n (k + 1) := by
  unfold m7_1
  rw [loop_step]
  generalize hK : loopM (m7_1_body s p2 [a, b, c] (fun x1 x2 x3 x4 => m7_1_p1 s p2 [a, b, c] x1 x2 x3 x4) (fun x1 x2 => m7_1_p2 s p2 [a, b, c] x1 x2)) n = K
  unfold m7_1_body m7_1_p1
  simp only [m6_v, Option.bind_some, beq_iff]
  rw [show (decide (k ≤ 7)) = true by simpa using h2, wr (by omega) (by omega)]
  simp only [cond_true]
  by_cases hs : s = []
  · simp [hs]
  · simp only [hs, decide_false, Bool.not_false, cond_true, ne_eq, not_false_eq_true, true_and]
    by_cases h : showOp (k, a, b, c, ()) = s
    · simp [h]
    · simp [h]
theorem m7_last {s : List UInt8} {p2 : List (List UInt8)} {p3 : List Int} {n : Nat} : m7_1 s p2 p3 (n + 1) 8 = some ((0, 0, 0, 0, ()), false, ()) := rfl
theorem m7_loop {s : List UInt8} {p2 : List (List UInt8)} {a b c : Int} : m7_1 s p2 [a, b, c] fuel 1 = some (firstOp s a b c [1, 2, 3, 4, 5, 6, 7]) := by
  rw [show fuel = 4611686018427387896 + 1 + 1 + 1 + 1 + 1 + 1 + 1 + 1 from rfl]
  rw [m7_step (by omega) (by omega), m7_step (by omega) (by omega), m7_step (by omega) (by omega), m7_step (by omega) (by omega), m7_step (by omega) (by omega), m7_step (by omega) (by omega), m7_step (by omega) (by omega)]
  simp only [show (1 : Int) + 1 = 2 from rfl, show (2 : Int) + 1 = 3 from rfl, show (3 : Int) + 1 = 4 from rfl, show (4 : Int) + 1 = 5 from rfl, show (5 : Int) + 1 = 6 from rfl, show (6 : Int) + 1 = 7 from rfl, show (7 : Int) + 1 = 8 from rfl]
  rw [m7_last]
  simp only [firstOp]
  repeat (split; · rfl)
  rfl

theorem show_ok {o : Op} (h : showOp o ≠ []) : opOk o = true := by
  unfold showOp at h
  split at h
  · assumption
  · exact absurd rfl h
theorem word_no (k : Int) (h : within k 1 7 = true) : (32 : UInt8) ∉ word k := by
  rcases seven h with rfl | rfl | rfl | rfl | rfl | rfl | rfl <;> decide
theorem show_ne {o : Op} (h : opOk o = true) : showOp o ≠ [] := by
  unfold showOp
  rw [if_pos h]
  rcases seven (opOk_k h) with h | h | h | h | h | h | h <;> rw [h] <;> simp [word]
theorem split_show {o : Op} (h : opOk o = true) : split 32 (showOp o) = word o.1 :: (opArgs o).map Lib.itoa := by
  unfold showOp
  rw [if_pos h]
  exact split_shown (word_no _ (opOk_k h)) fun z hz => ((opArgs_small h).1 z hz).1
theorem word_inj {j k : Int} (hj : within j 1 7 = true) (hk : within k 1 7 = true) (h : word j = word k) : j = k := by
  rcases seven hj with rfl | rfl | rfl | rfl | rfl | rfl | rfl <;> rcases seven hk with rfl | rfl | rfl | rfl | rfl | rfl | rfl <;> first | rfl | (exact absurd h (by decide))
theorem kind_of_show {o o' : Op} (h : opOk o = true) (e : showOp o' = showOp o) : o'.1 = o.1 := by
  have h' : opOk o' = true := show_ok (by rw [e]; exact show_ne h)
  have h1 := split_show h
  rw [← e, split_show h'] at h1
  exact word_inj (opOk_k h') (opOk_k h) (List.cons.inj h1).1
/-- The numbers are read back. -/
theorem nums_back {o : Op} {f : List UInt8 → Int} (h : opOk o = true) (hf : ∀ z : Int, 0 ≤ z ∧ z ≤ 65535 → f (Lib.itoa z) = z) :
    nth f ((opArgs o).map Lib.itoa) 0 = o.2.1 ∧ nth f ((opArgs o).map Lib.itoa) 1 = o.2.2.1 ∧ nth f ((opArgs o).map Lib.itoa) 2 = o.2.2.2.1 := by
  have hs := (opArgs_small h).1
  obtain ⟨k, c, s, v, ⟨⟩⟩ := o
  unfold opOk at h
  simp only [Bool.and_eq_true] at h
  obtain ⟨⟨_, h2⟩, h3⟩ := h
  unfold opArgs at hs ⊢
  simp only at hs ⊢ h2 h3
  by_cases h1 : k = 1
  · rw [if_pos h1] at hs ⊢
    refine ⟨hf c (hs c (by simp)), hf s (hs s (by simp)), hf v (hs v (by simp))⟩
  · rw [if_neg h1] at hs ⊢ h3
    simp only [Bool.and_eq_true, beq_iff_eq] at h3
    obtain ⟨rfl, rfl⟩ := h3
    by_cases h4 : hasCell k = true
    · rw [if_pos h4] at hs ⊢
      exact ⟨hf c (hs c (by simp)), rfl, rfl⟩
    · rw [if_neg h4] at hs ⊢ h2
      have : c = 0 := by simpa using h2
      subst this
      exact ⟨rfl, rfl, rfl⟩
theorem m7_pre_v {F1 : List UInt8 → List (List UInt8) → List Int → Int → Option (Op × Bool × Unit)} {s : List UInt8} (hs : s.length ≤ 1000000) :
    m7_pre F1 s = F1 s (split 32 s) [nth rd (split 32 s).tail 0, nth rd (split 32 s).tail 1, nth rd (split 32 s).tail 2] 1 := by
  unfold m7_pre
  rw [show m25 s ([32] : List UInt8) = some (split 32 s, ()) from m25_v hs 32]
  simp only [Option.bind_some]
  cases hsp : split 32 s with
  | nil => exact absurd hsp (split_ne _ _)
  | cons w l =>
    rw [show (decide (1 ≤ ((List.length (w :: l) : Int)))) = true by simp; omega, show (decide (((List.length (w :: l) : Int)) ≤ ((List.length (w :: l) : Int)))) = true by simp]
    simp only [Bool.and_self, cond_true, Int.toNat_natCast, List.take_length, List.drop_succ_cons, List.drop_zero]
    rw [m26_v (l := l) fun p hp => by have := split_mem (c := 32) (s := s) (p := p) (by rw [hsp]; simp [hp]); omega]
    rfl
theorem m7_v {s : List UInt8} (hs : s.length ≤ 1000000) : OkP (m7 s) (fun r => (r.2.1 = true → s ≠ [] ∧ showOp r.1 = s) ∧ (∀ o, opOk o = true → showOp o = s → r = (o, true, ()))) := by
  unfold m7
  rw [m7_pre_v hs]
  rw [m7_loop]
  refine .mk ⟨fun h => firstOp_true h, fun o ho he => ?_⟩
  have hne := show_ne ho
  have h1 := split_show ho
  rw [he] at h1
  rw [h1]
  simp only [List.tail_cons]
  obtain ⟨e0, e1, e2⟩ := nums_back ho (f := rd) fun z hz => rd_itoa hz
  rw [e0, e1, e2]
  have := firstOp_hit (s := s) (a := o.2.1) (b := o.2.2.1) (c := o.2.2.2.1) (k := o.1) (by rw [← he]; exact hne) he (ks := [1, 2, 3, 4, 5, 6, 7])
    (by rcases seven (opOk_k ho) with h | h | h | h | h | h | h <;> rw [h] <;> simp) (fun j _ hj => kind_of_show (o' := (j, o.2.1, o.2.2.1, o.2.2.2.1, ())) ho (by rw [hj, he]))
  exact this
theorem m7_tot {s : List UInt8} (hs : s.length ≤ 1000000) : ∃ r, m7 s = some r ∧ (r.2.1 = true ↔ ∃ o, opOk o = true ∧ showOp o = s) ∧ (r.2.1 = true → showOp r.1 = s) ∧ (∀ o, opOk o = true → showOp o = s → r.1 = o) := by
  obtain ⟨r, hr, h1, h2⟩ := m7_v hs
  refine ⟨r, hr, ⟨fun h => ?_, fun ⟨o, ho, he⟩ => by rw [h2 o ho he]⟩, fun h => (h1 h).2, fun o ho he => by rw [h2 o ho he]⟩
  obtain ⟨h3, h4⟩ := h1 h
  exact ⟨r.1, show_ok (by rw [h4]; exact h3), h4⟩
end
end Go.Proofs.YtfihmdlpikfbbaaGreatDoor
end

section
/- The plain law, seventh part: operations read by the spec. -/
namespace Go.Proofs.YtfihmdlpikfbbaaGreatDoor
open Go Go.Eng
set_option maxRecDepth 100000
noncomputable section

theorem m43_v (l : List (List UInt8)) (i : Nat) : m43 l (i : Int) = some (nth rs l i, ()) := by
  unfold m43 nth
  by_cases h : i < l.length
  · rw [show (decide ((i : Int) ≥ ((List.length l : Int)))) = false by simp; omega, show (decide (0 ≤ (i : Int))) = true by simp, show (decide ((i : Int) < ((List.length l : Int)))) = true by simp; omega]
    have hg : List.getD l (Int.toNat (i : Int)) ([] : List UInt8) = l[i] := by simp [List.getD, List.getElem?_eq_getElem h]
    rw [hg, List.getElem?_eq_getElem h]
    obtain ⟨b, hb⟩ := m63_r l[i]
    rw [hb]
    rfl
  · rw [show (decide ((i : Int) ≥ ((List.length l : Int)))) = true by simp; omega, List.getElem?_eq_none (by omega)]
    rfl
/-- The kind whose word it is. -/
def kindOf (w : List UInt8) : List Int → Int → Int
  | [], a => a
  | k :: ks, a => kindOf w ks (if word k = w then k else a)
theorem kindOf_word {k : Int} (h : within k 1 7 = true) : kindOf (word k) [1, 2, 3, 4, 5, 6, 7] 0 = k := by
  rcases seven h with rfl | rfl | rfl | rfl | rfl | rfl | rfl <;> decide
theorem m18_step {s w : List UInt8} {l : List (List UInt8)} {n : Nat} {k a : Int} {r : Int × Int × Int × Unit} (h1 : 1 ≤ k) (h2 : k ≤ 7) :
    m18_1 s (w :: l) (n + 1) (k, (a, r)) = m18_1 s (w :: l) n (k + 1, ((if word k = w then k else a), r)) := by
  unfold m18_1
  rw [loop_step]
  generalize hK : loopM (m18_1_body s (w :: l) (fun x1 x2 x3 => m18_1_p1 s (w :: l) x1 x2 x3)) n = K
  unfold m18_1_body
  simp only [m44_v (within_iff.2 ⟨h1, h2⟩), Option.bind_some, beq_iff]
  rw [show (decide (k ≤ 7)) = true by simpa using h2, wr (by omega) (by omega), show (decide (0 < ((List.length (w :: l) : Int)))) = true by simp]
  simp only [cond_true, List.getD_cons_zero]
  by_cases h : word k = w
  · simp [h]
  · simp [h]
theorem m18_last {s : List UInt8} {p2 : List (List UInt8)} {n : Nat} {o : Op} : m18_1 s p2 (n + 1) (8, o) = m18_1_p1 s p2 8 false o := rfl
theorem m18_loop {s w : List UInt8} {l : List (List UInt8)} {r : Int × Int × Int × Unit} : m18_1 s (w :: l) fuel (1, (0, r)) = m18_1_p1 s (w :: l) 8 false (kindOf w [1, 2, 3, 4, 5, 6, 7] 0, r) := by
  obtain ⟨n, hn⟩ : ∃ n, fuel = n + 1 + 1 + 1 + 1 + 1 + 1 + 1 + 1 := ⟨4611686018427387896, rfl⟩
  rw [hn]
  rw [m18_step (by omega) (by omega), m18_step (by omega) (by omega), m18_step (by omega) (by omega), m18_step (by omega) (by omega), m18_step (by omega) (by omega), m18_step (by omega) (by omega), m18_step (by omega) (by omega)]
  simp only [show (1 : Int) + 1 = 2 from rfl, show (2 : Int) + 1 = 3 from rfl, show (3 : Int) + 1 = 4 from rfl, show (4 : Int) + 1 = 5 from rfl, show (5 : Int) + 1 = 6 from rfl, show (6 : Int) + 1 = 7 from rfl, show (7 : Int) + 1 = 8 from rfl]
  rw [m18_last]
  simp only [kindOf]
theorem m18_p_v {s : List UInt8} {p2 : List (List UInt8)} {x1 : Int} {x2 : Bool} (o : Op) : m18_1_p1 s p2 x1 x2 o = if s ≠ [] ∧ showOp o = s then some (o, true, ()) else some ((0, 0, 0, 0, ()), false, ()) := by
  unfold m18_1_p1
  simp only [m37_v, Option.bind_some, beq_iff]
  by_cases hs : s = []
  · simp [hs]
  · by_cases h : showOp o = s <;> simp [hs, h]
theorem m18_pre_v {F1 : List UInt8 → List (List UInt8) → (Int × Op) → Option (Op × Bool × Unit)} {s : List UInt8} (hs : s.length ≤ 1000000) :
    m18_pre F1 s = F1 s (split 32 s) (1, 0, nth rs (split 32 s) 1, nth rs (split 32 s) 2, nth rs (split 32 s) 3, ()) := by
  unfold m18_pre
  rw [show m42 s 32 = some (split 32 s, ()) from m42_v hs 32]
  simp only [Option.bind_some]
  rw [show m43 (split 32 s) 1 = _ from m43_v (split 32 s) 1, show m43 (split 32 s) 2 = _ from m43_v (split 32 s) 2, show m43 (split 32 s) 3 = _ from m43_v (split 32 s) 3]
  rfl
theorem m18_v {s : List UInt8} (hs : s.length ≤ 1000000) : OkP (m18 s) (fun r => r.2.1 = true ↔ ∃ o, opOk o = true ∧ showOp o = s) := by
  unfold m18
  rw [m18_pre_v hs]
  cases hsp : split 32 s with
  | nil => exact absurd hsp (split_ne _ _)
  | cons w l =>
    rw [m18_loop, m18_p_v]
    split
    · rename_i h
      refine .mk ⟨fun _ => ⟨_, show_ok (by rw [h.2]; exact h.1), h.2⟩, fun _ => rfl⟩
    · rename_i h
      refine .mk ⟨fun h' => by simp at h', fun ⟨o, ho, he⟩ => ?_⟩
      exfalso
      apply h
      have hne := show_ne ho
      have h1 := split_show ho
      rw [he, hsp] at h1
      obtain ⟨rfl, rfl⟩ := List.cons.inj h1
      obtain ⟨e0, e1, e2⟩ := nums_back ho (f := rs) fun z hz => rs_itoa hz
      have f0 : nth rs (word o.1 :: (opArgs o).map Lib.itoa) 1 = o.2.1 := e0
      have f1 : nth rs (word o.1 :: (opArgs o).map Lib.itoa) 2 = o.2.2.1 := e1
      have f2 : nth rs (word o.1 :: (opArgs o).map Lib.itoa) 3 = o.2.2.2.1 := e2
      rw [f0, f1, f2, kindOf_word (opOk_k ho)]
      exact ⟨by rw [← he]; exact hne, he⟩

/-! Commands. -/
abbrev Cmd := Int × Int × Int × Unit
def two (k : Int) : Bool := k == 2 || k == 4
def cmdOk (c : Cmd) : Bool := within c.1 1 4 && within c.2.1 0 99 && (if two c.1 = true then within c.2.2.1 0 65535 else c.2.2.1 == 0)
theorem four {k : Int} (h : within k 1 4 = true) : k = 1 ∨ k = 2 ∨ k = 3 ∨ k = 4 := by
  rw [within_iff] at h
  omega
theorem m29_v (c : Cmd) : m29 c = some (cmdOk c, ()) := by
  obtain ⟨k, a, v, ⟨⟩⟩ := c
  unfold m29 cmdOk
  simp only [m49_v, Option.bind_some]
  cases hk : within k 1 4 with
  | true =>
    rcases four hk with rfl | rfl | rfl | rfl <;> cases h2 : within a 0 99 <;> cases h4 : within v 0 65535 <;> cases h5 : (v == 0) <;> simp [two] <;> first | done | (exfalso; simp [within] at h4 h5; omega)
  | false => cases (k == 2) <;> simp
theorem m15_v (c : Cmd) : m15 c = some (cmdOk c, ()) := by
  obtain ⟨k, a, v, ⟨⟩⟩ := c
  unfold m15 cmdOk
  simp only [m35_v, Option.bind_some]
  cases hk : within k 1 4 with
  | true =>
    rcases four hk with rfl | rfl | rfl | rfl <;> cases h2 : within a 0 99 <;> cases h4 : within v 0 65535 <;> cases h5 : (v == 0) <;> simp [two]
  | false => simp
def cword (k : Int) : List UInt8 := List.getD [([103, 101, 116] : List UInt8), ([112, 117, 116] : List UInt8), ([100, 101, 108] : List UInt8), ([97, 100, 100] : List UInt8)] (Int.toNat (IntKind.wrap .i64 (k - 1))) ([] : List UInt8)
def cArgs (c : Cmd) : List Int := if two c.1 = true then [c.2.1, c.2.2.1] else [c.2.1]
def showCmd (c : Cmd) : List UInt8 := if cmdOk c = true then cword c.1 ++ decs (cArgs c) else []
theorem cmdOk_k {c : Cmd} (h : cmdOk c = true) : within c.1 1 4 = true := by
  unfold cmdOk at h
  simp only [Bool.and_eq_true] at h
  exact h.1.1
theorem cArgs_small {c : Cmd} (h : cmdOk c = true) : (∀ z ∈ cArgs c, 0 ≤ z ∧ z ≤ 65535) ∧ (cArgs c).length ≤ 3 := by
  unfold cmdOk at h
  simp only [Bool.and_eq_true, within_iff] at h
  obtain ⟨⟨_, h2⟩, h3⟩ := h
  unfold cArgs
  split
  · rename_i h1
    rw [if_pos h1] at h3
    rw [within_iff] at h3
    refine ⟨?_, by simp⟩
    intro z hz
    simp at hz
    rcases hz with rfl | rfl <;> omega
  · refine ⟨?_, by simp⟩
    intro z hz
    simp at hz
    subst hz
    omega
theorem cword_len (k : Int) (h : within k 1 4 = true) : (cword k).length = 3 := by
  rcases four h with rfl | rfl | rfl | rfl <;> decide
theorem cidx {k : Int} (h : within k 1 4 = true) : ((decide (0 ≤ (IntKind.wrap .i64 (k - 1)))) && (decide ((IntKind.wrap .i64 (k - 1)) < 4))) = true := by
  rcases four h with rfl | rfl | rfl | rfl <;> decide
theorem m9_v (c : Cmd) : m9 c = some (showCmd c, ()) := by
  unfold m9 showCmd
  rw [m29_v]
  simp only [Option.bind_some]
  cases h : cmdOk c with
  | false => rfl
  | true =>
    obtain ⟨k, a, v, ⟨⟩⟩ := c
    have hk := cmdOk_k h
    simp only at hk
    obtain ⟨hs, hl⟩ := cArgs_small h
    obtain ⟨h1, h2⟩ := m24_small hs hl
    have h3 := cword_len k hk
    have e : ∀ x : List UInt8, x.length ≤ 66 → (decide (List.length (cword k) + List.length x < 4611686018427387904)) = true := fun x hx => by simp; omega
    simp only [cidx hk, Bool.not_true, cond_false, if_true, cond_true]
    show (bif (k == 2) then (m24 [a, v]).bind fun r2 => bif (decide (List.length (cword k) + List.length r2.1 < 4611686018427387904)) then some (cword k ++ r2.1, ()) else none
      else bif (k == 4) then (m24 [a, v]).bind fun r2 => bif (decide (List.length (cword k) + List.length r2.1 < 4611686018427387904)) then some (cword k ++ r2.1, ()) else none
      else (m24 [a]).bind fun r2 => bif (decide (List.length (cword k) + List.length r2.1 < 4611686018427387904)) then some (cword k ++ r2.1, ()) else none) = _
    rcases four hk with rfl | rfl | rfl | rfl <;> simp only [cArgs, two] at h1 h2 ⊢ <;> simp at h1 h2 ⊢ <;> rw [h1] <;> simp only [Option.bind_some] <;> rw [show (decide _) = true from e _ h2] <;> rfl
theorem m64_v (c : Cmd) : m64 c = some (showCmd c, ()) := by
  unfold m64 showCmd
  rw [m15_v]
  simp only [Option.bind_some]
  cases h : cmdOk c with
  | false => rfl
  | true =>
    obtain ⟨k, a, v, ⟨⟩⟩ := c
    have hk := cmdOk_k h
    simp only at hk
    obtain ⟨hs, hl⟩ := cArgs_small h
    have h3 := cword_len k hk
    have ha : 0 ≤ a ∧ a ≤ 65535 := hs a (by unfold cArgs; split <;> simp)
    have l1 := itoa_small ha
    simp only [cidx hk, Bool.not_true, cond_false, if_true, cond_true]
    rw [m59_i ha.1 (by omega)]
    simp only [Option.bind_some]
    show (bif (decide (List.length (cword k) + List.length ([32] : List UInt8) < 4611686018427387904)) then
        bif (decide (List.length (cword k ++ ([32] : List UInt8)) + List.length (Lib.itoa a) < 4611686018427387904)) then
          bif (k == 2) then
            bif (decide (List.length ((cword k ++ ([32] : List UInt8)) ++ Lib.itoa a) + List.length ([32] : List UInt8) < 4611686018427387904)) then
              (m59 v).bind fun r3 => bif (decide (List.length (((cword k ++ ([32] : List UInt8)) ++ Lib.itoa a) ++ ([32] : List UInt8)) + List.length r3.1 < 4611686018427387904)) then some (((((cword k ++ ([32] : List UInt8)) ++ Lib.itoa a) ++ ([32] : List UInt8)) ++ r3.1), ()) else none
            else none
          else
            bif (k == 4) then
              bif (decide (List.length ((cword k ++ ([32] : List UInt8)) ++ Lib.itoa a) + List.length ([32] : List UInt8) < 4611686018427387904)) then
                (m59 v).bind fun r3 => bif (decide (List.length (((cword k ++ ([32] : List UInt8)) ++ Lib.itoa a) ++ ([32] : List UInt8)) + List.length r3.1 < 4611686018427387904)) then some (((((cword k ++ ([32] : List UInt8)) ++ Lib.itoa a) ++ ([32] : List UInt8)) ++ r3.1), ()) else none
              else none
            else some (((cword k ++ ([32] : List UInt8)) ++ Lib.itoa a), ())
        else none
      else none) = _
    rw [show (decide (List.length (cword k) + List.length ([32] : List UInt8) < 4611686018427387904)) = true by simp; omega,
      show (decide (List.length (cword k ++ ([32] : List UInt8)) + List.length (Lib.itoa a) < 4611686018427387904)) = true by simp; omega,
      show (decide (List.length ((cword k ++ ([32] : List UInt8)) ++ Lib.itoa a) + List.length ([32] : List UInt8) < 4611686018427387904)) = true by simp; omega]
    simp only [cond_true]
    have hv : two k = true → (m59 v).bind (fun r3 => bif (decide (List.length (((cword k ++ ([32] : List UInt8)) ++ Lib.itoa a) ++ ([32] : List UInt8)) + List.length r3.1 < 4611686018427387904)) then some (((((cword k ++ ([32] : List UInt8)) ++ Lib.itoa a) ++ ([32] : List UInt8)) ++ r3.1), ()) else none) = some (cword k ++ decs [a, v], ()) := by
      intro ht
      have hv : 0 ≤ v ∧ v ≤ 65535 := hs v (by unfold cArgs; rw [if_pos ht]; simp)
      have l2 := itoa_small hv
      rw [m59_i hv.1 (by omega)]
      simp only [Option.bind_some]
      rw [show (decide (List.length (((cword k ++ ([32] : List UInt8)) ++ Lib.itoa a) ++ ([32] : List UInt8)) + List.length (Lib.itoa v) < 4611686018427387904)) = true by simp; omega]
      simp [decs]
    rcases four hk with rfl | rfl | rfl | rfl
    · simp [cArgs, two, decs]
    · exact hv rfl
    · simp [cArgs, two, decs]
    · exact hv rfl
theorem showCmd_len (c : Cmd) : (showCmd c).length ≤ 70 := by
  unfold showCmd
  split
  · rename_i h
    obtain ⟨hs, hl⟩ := cArgs_small h
    have h1 := (m24_small hs hl).2
    have h2 := cword_len _ (cmdOk_k h)
    simp; omega
  · simp
theorem showc_ok {c : Cmd} (h : showCmd c ≠ []) : cmdOk c = true := by
  unfold showCmd at h
  split at h
  · assumption
  · exact absurd rfl h
theorem cword_no (k : Int) (h : within k 1 4 = true) : (32 : UInt8) ∉ cword k ∧ (59 : UInt8) ∉ cword k := by
  rcases four h with rfl | rfl | rfl | rfl <;> decide
theorem showc_ne {c : Cmd} (h : cmdOk c = true) : showCmd c ≠ [] := by
  unfold showCmd
  rw [if_pos h]
  intro e
  have := congrArg List.length e
  have h2 := cword_len _ (cmdOk_k h)
  simp at this
  rw [this.1] at h2
  simp at h2
theorem split_showc {c : Cmd} (h : cmdOk c = true) : split 32 (showCmd c) = cword c.1 :: (cArgs c).map Lib.itoa := by
  unfold showCmd
  rw [if_pos h]
  exact split_shown (cword_no _ (cmdOk_k h)).1 fun z hz => ((cArgs_small h).1 z hz).1
theorem decs_no {l : List Int} (h : ∀ z ∈ l, 0 ≤ z) : (59 : UInt8) ∉ decs l := by
  intro hm
  unfold decs at hm
  obtain ⟨z, hz, hm⟩ := List.mem_flatMap.1 hm
  rcases List.mem_cons.1 hm with hm | hm
  · exact absurd hm (by decide)
  · exact itoa_no (h z hz) 59 (.inr (by decide)) hm
theorem showc_no {c : Cmd} : (59 : UInt8) ∉ showCmd c := by
  unfold showCmd
  split
  · rename_i h
    rw [List.mem_append, not_or]
    exact ⟨(cword_no _ (cmdOk_k h)).2, decs_no fun z hz => ((cArgs_small h).1 z hz).1⟩
  · simp
theorem cword_inj {j k : Int} (hj : within j 1 4 = true) (hk : within k 1 4 = true) (h : cword j = cword k) : j = k := by
  rcases four hj with rfl | rfl | rfl | rfl <;> rcases four hk with rfl | rfl | rfl | rfl <;> first | rfl | (exact absurd h (by decide))
theorem kind_of_showc {c c' : Cmd} (h : cmdOk c = true) (e : showCmd c' = showCmd c) : c'.1 = c.1 := by
  have h' : cmdOk c' = true := showc_ok (by rw [e]; exact showc_ne h)
  have h1 := split_showc h
  rw [← e, split_showc h'] at h1
  exact cword_inj (cmdOk_k h') (cmdOk_k h) (List.cons.inj h1).1
theorem cnums_back {c : Cmd} {f : List UInt8 → Int} (h : cmdOk c = true) (hf : ∀ z : Int, 0 ≤ z ∧ z ≤ 65535 → f (Lib.itoa z) = z) :
    nth f ((cArgs c).map Lib.itoa) 0 = c.2.1 ∧ nth f ((cArgs c).map Lib.itoa) 1 = c.2.2.1 := by
  have hs := (cArgs_small h).1
  obtain ⟨k, a, v, ⟨⟩⟩ := c
  unfold cmdOk at h
  simp only [Bool.and_eq_true] at h
  obtain ⟨⟨_, h2⟩, h3⟩ := h
  unfold cArgs at hs ⊢
  simp only at hs ⊢ h2 h3
  by_cases h1 : two k = true
  · rw [if_pos h1] at hs ⊢
    exact ⟨hf a (hs a (by simp)), hf v (hs v (by simp))⟩
  · rw [if_neg h1] at hs ⊢ h3
    have : v = 0 := by simpa using h3
    subst this
    exact ⟨hf a (hs a (by simp)), rfl⟩
end
end Go.Proofs.YtfihmdlpikfbbaaGreatDoor
end

section
/- The plain law, eighth part: commands read. -/
namespace Go.Proofs.YtfihmdlpikfbbaaGreatDoor
open Go Go.Eng
set_option maxRecDepth 100000
noncomputable section

theorem m30_v (w : List UInt8) : ∃ i, m30 [([103, 101, 116] : List UInt8), ([112, 117, 116] : List UInt8), ([100, 101, 108] : List UInt8), ([97, 100, 100] : List UInt8)] w = some (i, ()) ∧ -1 ≤ i ∧ i ≤ 3 ∧ ∀ k, within k 1 4 = true → w = cword k → i = k - 1 := by
  unfold m30 m30_pre m30_1
  obtain ⟨n, hn⟩ : ∃ n, fuel = n + 1 + 1 + 1 + 1 + 1 := ⟨4611686018427387899, rfl⟩
  rw [hn]
  simp only [loop_step, m30_1_body, m30_1_p1, m30_1_p2, beq_iff]
  have c1 : cword 1 = [103, 101, 116] := by decide
  have c2 : cword 2 = [112, 117, 116] := by decide
  have c3 : cword 3 = [100, 101, 108] := by decide
  have c4 : cword 4 = [97, 100, 100] := by decide
  by_cases h1 : w = [103, 101, 116]
  · refine ⟨0, by simp [h1], by omega, by omega, fun k hk he => ?_⟩
    have := cword_inj (j := 1) (by decide) hk (by rw [c1, ← h1, he])
    omega
  by_cases h2 : w = [112, 117, 116]
  · refine ⟨1, by simp [h2, w0], by omega, by omega, fun k hk he => ?_⟩
    have := cword_inj (j := 2) (by decide) hk (by rw [c2, ← h2, he])
    omega
  by_cases h3 : w = [100, 101, 108]
  · refine ⟨2, by simp [h3, w0, w1], by omega, by omega, fun k hk he => ?_⟩
    have := cword_inj (j := 3) (by decide) hk (by rw [c3, ← h3, he])
    omega
  by_cases h4 : w = [97, 100, 100]
  · refine ⟨3, by simp [h4, w0, w1, w2], by omega, by omega, fun k hk he => ?_⟩
    have := cword_inj (j := 4) (by decide) hk (by rw [c4, ← h4, he])
    omega
  · refine ⟨-1, by simp [h1, h2, h3, h4, w0, w1, w2, show IntKind.wrap .i64 4 = 4 by decide], by omega, by omega, fun k hk he => ?_⟩
    exfalso
    rcases four hk with rfl | rfl | rfl | rfl
    · exact h1 (he.trans c1)
    · exact h2 (he.trans c2)
    · exact h3 (he.trans c3)
    · exact h4 (he.trans c4)
theorem m10_v {s : List UInt8} (hs : s.length ≤ 1000000) : OkP (m10 s) (fun r => (r.2.1 = true → s ≠ [] ∧ showCmd r.1 = s) ∧ (∀ c, cmdOk c = true → showCmd c = s → r = (c, true, ()))) := by
  unfold m10
  rw [show m25 s ([32] : List UInt8) = some (split 32 s, ()) from m25_v hs 32]
  simp only [Option.bind_some]
  cases hsp : split 32 s with
  | nil => exact absurd hsp (split_ne _ _)
  | cons w l =>
    rw [show (decide (1 ≤ ((List.length (w :: l) : Int)))) = true by simp; omega, show (decide (((List.length (w :: l) : Int)) ≤ ((List.length (w :: l) : Int)))) = true by simp,
      show (decide (0 < ((List.length (w :: l) : Int)))) = true by simp]
    simp only [Bool.and_self, cond_true, Int.toNat_natCast, List.take_length, List.drop_succ_cons, List.drop_zero]
    rw [m26_v (l := l) fun p hp => by have := split_mem (c := 32) (s := s) (p := p) (by rw [hsp]; simp [hp]); omega]
    simp only [Option.bind_some, List.getD_cons_zero, List.getD_cons_succ]
    obtain ⟨i, hi, hi1, hi2, hi3⟩ := m30_v w
    rw [hi]
    simp only [Option.bind_some]
    rw [wr (by omega) (by omega)]
    simp only [m9_v, Option.bind_some, beq_iff]
    by_cases hs0 : s = []
    · subst hs0
      refine ⟨((0, 0, 0, ()), false, ()), by simp, by simp, fun c hc he => ?_⟩
      exact absurd he (showc_ne hc)
    · rw [decide_eq_false hs0]
      simp only [cond_false]
      by_cases h : showCmd (i + 1, nth rd l 0, nth rd l 1, ()) = s
      · refine ⟨((i + 1, nth rd l 0, nth rd l 1, ()), true, ()), by simp [h], fun _ => ⟨hs0, h⟩, fun c hc he => ?_⟩
        have h1 := split_showc hc
        rw [he, hsp] at h1
        obtain ⟨rfl, rfl⟩ := List.cons.inj h1
        obtain ⟨e0, e1⟩ := cnums_back hc (f := rd) fun z hz => rd_itoa hz
        rw [e0, e1, hi3 c.1 (cmdOk_k hc) rfl, show c.1 - 1 + 1 = c.1 by omega]
      · refine ⟨((0, 0, 0, ()), false, ()), by simp [h], by simp, fun c hc he => ?_⟩
        exfalso
        apply h
        have h1 := split_showc hc
        rw [he, hsp] at h1
        obtain ⟨rfl, rfl⟩ := List.cons.inj h1
        obtain ⟨e0, e1⟩ := cnums_back hc (f := rd) fun z hz => rd_itoa hz
        rw [e0, e1, hi3 c.1 (cmdOk_k hc) rfl, show c.1 - 1 + 1 = c.1 by omega]
        exact he

def firstCmd (s : List UInt8) (a b : Int) : List Int → Cmd × Bool × Unit
  | [] => ((0, 0, 0, ()), false, ())
  | k :: ks => if s ≠ [] ∧ showCmd (k, a, b, ()) = s then ((k, a, b, ()), true, ()) else firstCmd s a b ks
theorem firstCmd_true {s : List UInt8} {a b : Int} : ∀ {ks : List Int}, (firstCmd s a b ks).2.1 = true → s ≠ [] ∧ showCmd (firstCmd s a b ks).1 = s
  | [], h => by simp [firstCmd] at h
  | k :: ks, h => by
    unfold firstCmd at h ⊢
    split
    · rename_i h1
      exact h1
    · rename_i h1
      rw [if_neg h1] at h
      exact firstCmd_true h
theorem firstCmd_hit {s : List UInt8} {a b k : Int} (hs : s ≠ []) (hk : showCmd (k, a, b, ()) = s) : ∀ {ks : List Int}, k ∈ ks → (∀ j ∈ ks, showCmd (j, a, b, ()) = s → j = k) → firstCmd s a b ks = ((k, a, b, ()), true, ())
  | j :: ks, hm, hu => by
    unfold firstCmd
    split
    · rename_i h1
      rw [hu j (by simp) h1.2]
    · rename_i h1
      rcases List.mem_cons.1 hm with rfl | hm
      · exact absurd ⟨hs, hk⟩ h1
      · exact firstCmd_hit hs hk hm fun j hj => hu j (List.mem_cons_of_mem _ hj)
theorem m47_step {s : List UInt8} {p2 : List (List UInt8)} {n : Nat} {k : Int} (h1 : 1 ≤ k) (h2 : k ≤ 4) :
    m47_1 s p2 (n + 1) k = if s ≠ [] ∧ showCmd (k, nth rs p2 1, nth rs p2 2, ()) = s then some ((k, nth rs p2 1, nth rs p2 2, ()), true, ()) else m47_1 s p2 n (k + 1) := by
  unfold m47_1
  rw [loop_step]
  generalize hK : loopM (m47_1_body s p2 (fun x1 x2 x3 x4 => m47_1_p1 s p2 x1 x2 x3 x4) (fun x1 x2 => m47_1_p2 s p2 x1 x2)) n = K
  unfold m47_1_body m47_1_p1
  rw [show m43 p2 1 = _ from m43_v p2 1, show m43 p2 2 = _ from m43_v p2 2]
  simp only [m64_v, Option.bind_some, beq_iff]
  rw [show (decide (k ≤ 4)) = true by simpa using h2, wr (by omega) (by omega)]
  simp only [cond_true]
  by_cases hs : s = []
  · simp [hs]
  · simp only [hs, decide_false, Bool.not_false, cond_true, ne_eq, not_false_eq_true, true_and]
    by_cases h : showCmd (k, nth rs p2 1, nth rs p2 2, ()) = s
    · simp [h]
    · simp [h]
theorem m47_last {s : List UInt8} {p2 : List (List UInt8)} {n : Nat} : m47_1 s p2 (n + 1) 5 = some ((0, 0, 0, ()), false, ()) := rfl
theorem m47_loop {s : List UInt8} {p2 : List (List UInt8)} : m47_1 s p2 fuel 1 = some (firstCmd s (nth rs p2 1) (nth rs p2 2) [1, 2, 3, 4]) := by
  obtain ⟨n, hn⟩ : ∃ n, fuel = n + 1 + 1 + 1 + 1 + 1 := ⟨4611686018427387899, rfl⟩
  rw [hn]
  rw [m47_step (by omega) (by omega), m47_step (by omega) (by omega), m47_step (by omega) (by omega), m47_step (by omega) (by omega)]
  simp only [show (1 : Int) + 1 = 2 from rfl, show (2 : Int) + 1 = 3 from rfl, show (3 : Int) + 1 = 4 from rfl, show (4 : Int) + 1 = 5 from rfl]
  rw [m47_last]
  simp only [firstCmd]
  repeat (split; · rfl)
  rfl
theorem m47_pre_v {F1 : List UInt8 → List (List UInt8) → Int → Option (Cmd × Bool × Unit)} {s : List UInt8} (hs : s.length ≤ 1000000) : m47_pre F1 s = F1 s (split 32 s) 1 := by
  unfold m47_pre
  rw [show m42 s 32 = some (split 32 s, ()) from m42_v hs 32]
  rfl
theorem m47_v {s : List UInt8} (hs : s.length ≤ 1000000) : OkP (m47 s) (fun r => (r.2.1 = true → s ≠ [] ∧ showCmd r.1 = s) ∧ (∀ c, cmdOk c = true → showCmd c = s → r = (c, true, ()))) := by
  unfold m47
  rw [m47_pre_v hs]
  rw [m47_loop]
  refine .mk ⟨fun h => firstCmd_true h, fun c hc he => ?_⟩
  have hne := showc_ne hc
  have h1 := split_showc hc
  rw [he] at h1
  rw [h1]
  obtain ⟨e0, e1⟩ := cnums_back hc (f := rs) fun z hz => rs_itoa hz
  have f0 : nth rs (cword c.1 :: (cArgs c).map Lib.itoa) 1 = c.2.1 := e0
  have f1 : nth rs (cword c.1 :: (cArgs c).map Lib.itoa) 2 = c.2.2.1 := e1
  rw [f0, f1]
  exact firstCmd_hit (s := s) (a := c.2.1) (b := c.2.2.1) (k := c.1) (by rw [← he]; exact hne) he (ks := [1, 2, 3, 4])
    (by rcases four (cmdOk_k hc) with h | h | h | h <;> rw [h] <;> simp) (fun j _ hj => kind_of_showc (c' := (j, c.2.1, c.2.2.1, ())) hc (by rw [hj, he]))

/-- What a text is read as. -/
def readCmd (s : List UInt8) : Option Cmd := match m10 s with
  | some r => if r.2.1 = true then some r.1 else none
  | none => none
end
end Go.Proofs.YtfihmdlpikfbbaaGreatDoor
end

section
/- The plain law, ninth part: batches. -/
namespace Go.Proofs.YtfihmdlpikfbbaaGreatDoor
open Go Go.Eng
set_option maxRecDepth 100000
noncomputable section

def batchOk (b : Bat) : Bool := if b.1 = true then b.2.1.length == 0 else within (b.2.1.length : Int) 1 6 && b.2.1.all cmdOk
theorem getC {l : List Cmd} {i : Nat} (h : i < l.length) : List.getD l (Int.toNat (i : Int)) (0, 0, 0, ()) = l[i] := by
  simp [List.getD, List.getElem?_eq_getElem h]
theorem m71_loop {l : List Cmd} (hl : l.length ≤ 1000000) : ∀ (m i n : Nat), i + m = l.length → m < n → ∃ j, loopM (m71_55_1_body l (l.length : Int) (fun x1 x2 x3 => m71_55_1_p1 l (l.length : Int) x1 x2 x3) (fun x1 x2 => m71_55_1_p2 l (l.length : Int) x1 x2)) n (i : Int) = some (j, ()) ∧ (!decide (j ≥ 0)) = (l.drop i).all cmdOk := by
  intro m
  induction m with
  | zero =>
    intro i n hi hn
    obtain ⟨n, rfl⟩ : ∃ k, n = k + 1 := ⟨n - 1, by omega⟩
    have : i = l.length := by omega
    subst this
    refine ⟨-1, ?_, by simp⟩
    rw [loop_step]
    unfold m71_55_1_body m71_55_1_p2
    rw [show (decide ((l.length : Int) < (l.length : Int))) = false by simp]
    rfl
  | succ m ih =>
    intro i n hi hn
    obtain ⟨n, rfl⟩ : ∃ k, n = k + 1 := ⟨n - 1, by omega⟩
    have hil : i < l.length := by omega
    obtain ⟨j, hj, hj'⟩ := ih (i + 1) n (by omega) (by omega)
    rw [loop_step]
    generalize hK : loopM (m71_55_1_body l (l.length : Int) (fun x1 x2 x3 => m71_55_1_p1 l (l.length : Int) x1 x2 x3) (fun x1 x2 => m71_55_1_p2 l (l.length : Int) x1 x2)) n = K at hj ⊢
    unfold m71_55_1_body m71_55_1_p1 m55
    rw [getC hil, m29_v, List.drop_eq_getElem_cons hil, List.all_cons]
    rw [show (decide ((i : Int) < (l.length : Int))) = true by simp; omega, show (decide (0 ≤ (i : Int))) = true by simp, wr (by omega) (by omega), show ((i : Int) + 1) = ((i + 1 : Nat) : Int) by omega]
    simp only [Bool.and_self, cond_true, Option.bind_some]
    cases hc : cmdOk l[i] with
    | true =>
      simp only [Bool.not_true, cond_false, Bool.true_and]
      exact ⟨j, hj, hj'⟩
    | false =>
      refine ⟨i, rfl, by simp⟩
theorem m71_v {l : List Cmd} (hl : l.length ≤ 1000000) : ∃ j, m71_55 l = some (j, ()) ∧ (!decide (j ≥ 0)) = l.all cmdOk := by
  obtain ⟨j, hj, hj'⟩ := m71_loop (l := l) hl l.length 0 fuel (by omega) (by rw [fuel_eq]; omega)
  exact ⟨j, hj, hj'⟩
theorem m54_v {l : List Cmd} (hl : l.length ≤ 1000000) : OkP (m54_55 l) (fun r => (!r.1) = l.all cmdOk) := by
  obtain ⟨j, hj, hj'⟩ := m71_v hl
  unfold m54_55
  rw [hj]
  exact .mk hj'
theorem m32_v {b : Bat} (hb : b.2.1.length ≤ 1000000) : m32 b = some (batchOk b, ()) := by
  obtain ⟨k, l, ⟨⟩⟩ := b
  unfold m32 batchOk
  cases k with
  | true =>
    simp only [cond_true, if_true]
    congr 2
    rw [Bool.eq_iff_iff]
    simp
  | false =>
    simp only [cond_false, m49_v, Option.bind_some, Bool.false_eq_true, if_false]
    cases within (l.length : Int) 1 6 with
    | false => rfl
    | true =>
      simp only [cond_true, Bool.true_and]
      obtain ⟨r, hr, hr'⟩ := m54_v (l := l) hb
      rw [hr]
      simp only [Option.bind_some]
      rw [hr']
theorem m16_loop {b : Bat} (hl : b.2.1.length ≤ 1000000) : ∀ (m i n : Nat), i + m = b.2.1.length → m < n → loopM (m16_1_body b false (fun x1 x2 x3 => m16_1_p1 b false x1 x2 x3) (fun x1 x2 => m16_1_p2 b false x1 x2)) n (i : Int) = some ((b.2.1.drop i).all cmdOk && within (b.2.1.length : Int) 1 6, ()) := by
  intro m
  induction m with
  | zero =>
    intro i n hi hn
    obtain ⟨n, rfl⟩ : ∃ k, n = k + 1 := ⟨n - 1, by omega⟩
    have : i = b.2.1.length := by omega
    subst this
    rw [loop_step]
    unfold m16_1_body m16_1_p2
    rw [show (decide ((b.2.1.length : Int) < (b.2.1.length : Int))) = false by simp, m35_v]
    simp
  | succ m ih =>
    intro i n hi hn
    obtain ⟨n, rfl⟩ : ∃ k, n = k + 1 := ⟨n - 1, by omega⟩
    have hil : i < b.2.1.length := by omega
    have hj := ih (i + 1) n (by omega) (by omega)
    rw [loop_step]
    generalize hK : loopM (m16_1_body b false (fun x1 x2 x3 => m16_1_p1 b false x1 x2 x3) (fun x1 x2 => m16_1_p2 b false x1 x2)) n = K at hj ⊢
    unfold m16_1_body m16_1_p1
    rw [getC hil, m15_v, List.drop_eq_getElem_cons hil, List.all_cons]
    rw [show (decide ((i : Int) < (b.2.1.length : Int))) = true by simp; omega, show (decide (0 ≤ (i : Int))) = true by simp, wr (by omega) (by omega), show ((i : Int) + 1) = ((i + 1 : Nat) : Int) by omega]
    simp only [Bool.and_self, cond_true, Option.bind_some]
    cases hc : cmdOk b.2.1[i] with
    | true =>
      simp only [Bool.not_true, cond_false, Bool.true_and]
      exact hj
    | false => rfl
theorem m16_pre_v {F1 : Bat → Bool → Int → Option (Bool × Unit)} {b : Bat} : m16_pre F1 b = if b.1 = true then some (b.2.1.length == 0, ()) else F1 b false 0 := by
  obtain ⟨k, l, ⟨⟩⟩ := b
  unfold m16_pre
  cases k with
  | true =>
    simp only [cond_true, if_true]
    congr 2
    rw [Bool.eq_iff_iff]
    simp
  | false => rfl
theorem m16_f {b : Bat} (hb : b.2.1.length ≤ 1000000) : m16_1 b false fuel 0 = some (b.2.1.all cmdOk && within (b.2.1.length : Int) 1 6, ()) := by
  have := m16_loop (b := b) hb b.2.1.length 0 fuel (by simp) (by rw [fuel_eq]; omega)
  exact this
theorem m16_v {b : Bat} (hb : b.2.1.length ≤ 1000000) : m16 b = some (batchOk b, ()) := by
  unfold m16 batchOk
  rw [m16_pre_v, m16_f hb]
  split
  · rfl
  · rw [Bool.and_comm]

def collect : List UInt8 := [99, 111, 108, 108, 101, 99, 116]
def showBatch (b : Bat) : List UInt8 := if batchOk b = true then (if b.1 = true then collect else Lib.join (b.2.1.map showCmd) [59]) else []
theorem join_snoc (c : UInt8) : ∀ (l : List (List UInt8)) (x : List UInt8), Lib.join (l ++ [x]) [c] = if l = [] then x else Lib.join l [c] ++ c :: x
  | [], x => by simp [Lib.join_one]
  | [y], x => by simp [join_cons2, Lib.join_one]
  | y :: z :: l, x => by
    have ih := join_snoc c (z :: l) x
    rw [if_neg (by simp)] at ih ⊢
    rw [List.cons_append, List.cons_append] at *
    rw [join_cons2, ih, join_cons2]
    simp
theorem join_len (c : UInt8) : ∀ (l : List (List UInt8)), (∀ p ∈ l, p.length ≤ 70) → (Lib.join l [c]).length ≤ 71 * l.length
  | [], _ => by simp [Lib.join_nil]
  | [y], h => by
    have := h y (by simp)
    rw [Lib.join_one]; simp; omega
  | y :: z :: l, h => by
    have ih := join_len c (z :: l) fun p hp => h p (List.mem_cons_of_mem _ hp)
    have := h y (by simp)
    rw [join_cons2]
    simp at ih ⊢
    omega
theorem m12_loop {b : Bat} {p2 p3 : Bool} {l : List Cmd} (hl : l.length ≤ 6) : ∀ (m i n : Nat) (out : List (List UInt8)), i + m = l.length → m < n → out = (l.take i).map showCmd →
    loopM (m12_1_body b p2 p3 l (l.length : Int) (fun x1 x2 x3 => m12_1_p1 b p2 p3 l (l.length : Int) x1 x2 x3)) n ((i : Int), out) = some (Lib.join (l.map showCmd) [59], ()) := by
  intro m
  induction m with
  | zero =>
    intro i n out hi hn ho
    obtain ⟨n, rfl⟩ : ∃ k, n = k + 1 := ⟨n - 1, by omega⟩
    have : i = l.length := by omega
    subst this
    subst ho
    rw [loop_step]
    unfold m12_1_body m12_1_p1 lJoin
    rw [show (decide ((l.length : Int) < (l.length : Int))) = false by simp, List.take_length]
    simp only [cond_false]
    have hj := join_len 59 (l.map showCmd) (fun p hp => by obtain ⟨c, _, rfl⟩ := List.mem_map.1 hp; exact showCmd_len c)
    rw [List.length_map] at hj
    rw [show (decide (List.length (l.map showCmd) ≤ 140737488355328)) = true by simp; omega, show (decide (List.length (Lib.join (l.map showCmd) [59]) ≤ 140737488355328)) = true by simp; omega]
    rfl
  | succ m ih =>
    intro i n out hi hn ho
    obtain ⟨n, rfl⟩ : ∃ k, n = k + 1 := ⟨n - 1, by omega⟩
    have hil : i < l.length := by omega
    have hol : out.length ≤ 6 := by rw [ho]; simp; omega
    rw [loop_step]
    generalize hK : loopM (m12_1_body b p2 p3 l (l.length : Int) (fun x1 x2 x3 => m12_1_p1 b p2 p3 l (l.length : Int) x1 x2 x3)) n = K
    unfold m12_1_body
    simp only [getC hil, m9_v, Option.bind_some]
    rw [show (decide ((i : Int) < (l.length : Int))) = true by simp; omega, show (decide (0 ≤ (i : Int))) = true by simp, wr (by omega) (by omega), show ((i : Int) + 1) = ((i + 1 : Nat) : Int) by omega,
      show (decide (List.length out + List.length [showCmd l[i]] < 1073741824)) = true by simp; omega]
    simp only [Bool.and_self, cond_true]
    rw [← hK]
    refine ih (i + 1) n _ (by omega) (by omega) ?_
    rw [List.take_succ_eq_append_getElem hil, ho, List.map_append]
    rfl
theorem batch_len {b : Bat} (h : batchOk b = true) : b.2.1.length ≤ 6 := by
  unfold batchOk at h
  split at h
  · have : b.2.1.length = 0 := by simpa using h
    omega
  · simp only [Bool.and_eq_true, within_iff] at h
    omega
theorem m12_f {b : Bat} {p2 p3 : Bool} {l : List Cmd} (hl : l.length ≤ 6) : m12_1 b p2 p3 l (l.length : Int) fuel (0, []) = some (Lib.join (l.map showCmd) [59], ()) :=
  m12_loop hl l.length 0 fuel [] (by omega) (by rw [fuel_eq]; omega) rfl
theorem m12_pre_v {F1 : Bat → Bool → Bool → List Cmd → Int → (Int × List (List UInt8)) → Option (List UInt8 × Unit)} {b : Bat} (hb : b.2.1.length ≤ 1000000) :
    m12_pre F1 b = if batchOk b = true then (if b.1 = true then some (collect, ()) else F1 b (!batchOk b) b.1 b.2.1 (b.2.1.length : Int) (0, [])) else some ([], ()) := by
  unfold m12_pre
  rw [m32_v hb]
  simp only [Option.bind_some]
  cases h : batchOk b with
  | false => rfl
  | true =>
    cases h1 : b.1 with
    | true => rfl
    | false => rfl
theorem m12_v {b : Bat} (hb : b.2.1.length ≤ 1000000) : m12 b = some (showBatch b, ()) := by
  unfold m12 showBatch
  rw [m12_pre_v hb]
  split
  · rename_i h
    split
    · rfl
    · rw [m12_f (batch_len h)]
  · rfl
theorem m45_loop {b : Bat} {p2 p3 : Bool} (hl : b.2.1.length ≤ 6) : ∀ (m i n : Nat) (out : List UInt8), i + m = b.2.1.length → m < n → out = Lib.join ((b.2.1.take i).map showCmd) [59] →
    loopM (m45_1_body b p2 p3 (fun x1 x2 x3 => m45_1_p1 b p2 p3 x1 x2 x3)) n (out, (i : Int)) = some (Lib.join (b.2.1.map showCmd) [59], ()) := by
  intro m
  induction m with
  | zero =>
    intro i n out hi hn ho
    obtain ⟨n, rfl⟩ : ∃ k, n = k + 1 := ⟨n - 1, by omega⟩
    have : i = b.2.1.length := by omega
    subst this
    subst ho
    rw [loop_step]
    unfold m45_1_body m45_1_p1
    rw [show (decide ((b.2.1.length : Int) < (b.2.1.length : Int))) = false by simp, List.take_length]
    rfl
  | succ m ih =>
    intro i n out hi hn ho
    obtain ⟨n, rfl⟩ : ∃ k, n = k + 1 := ⟨n - 1, by omega⟩
    have hil : i < b.2.1.length := by omega
    have hol : out.length ≤ 500 := by
      have := join_len 59 ((b.2.1.take i).map showCmd) (fun p hp => by obtain ⟨c, _, rfl⟩ := List.mem_map.1 hp; exact showCmd_len c)
      rw [ho]; simp only [List.length_map, List.length_take] at this; omega
    have hc := showCmd_len b.2.1[i]
    have hnext : Lib.join ((b.2.1.take (i + 1)).map showCmd) [59] = if i = 0 then showCmd b.2.1[i] else out ++ 59 :: showCmd b.2.1[i] := by
      rw [List.take_succ_eq_append_getElem hil, List.map_append, List.map_singleton, join_snoc, ← ho]
      by_cases h0 : i = 0
      · subst h0; simp
      · rw [if_neg h0, if_neg]
        intro e
        have := congrArg List.length e
        simp only [List.length_map, List.length_take, List.length_nil] at this
        omega
    rw [loop_step]
    generalize hK : loopM (m45_1_body b p2 p3 (fun x1 x2 x3 => m45_1_p1 b p2 p3 x1 x2 x3)) n = K
    unfold m45_1_body
    simp only [getC hil, m64_v, Option.bind_some]
    rw [show (decide ((i : Int) < (b.2.1.length : Int))) = true by simp; omega, show (decide (0 ≤ (i : Int))) = true by simp, wr (by omega) (by omega), show ((i : Int) + 1) = ((i + 1 : Nat) : Int) by omega,
      show (decide (List.length out + List.length ([59] : List UInt8) < 4611686018427387904)) = true by simp; omega,
      show (decide (List.length (out ++ ([59] : List UInt8)) + List.length (showCmd b.2.1[i]) < 4611686018427387904)) = true by simp; omega,
      show (decide (List.length out + List.length (showCmd b.2.1[i]) < 4611686018427387904)) = true by simp; omega]
    simp only [Bool.and_self, cond_true]
    by_cases h0 : i = 0
    · subst h0
      rw [if_pos rfl] at hnext
      have : out = [] := by rw [ho]; simp [Lib.join_nil]
      subst this
      rw [show (decide (((0 : Nat) : Int) > 0)) = false by simp]
      simp only [cond_false]
      rw [← hK]
      exact ih _ n _ (by omega) (by omega) (by rw [hnext]; rfl)
    · rw [if_neg h0] at hnext
      rw [show (decide ((i : Int) > 0)) = true by simp; omega]
      simp only [cond_true]
      rw [← hK]
      exact ih _ n _ (by omega) (by omega) (by rw [hnext]; simp)
theorem m45_f {b : Bat} {p2 p3 : Bool} (hl : b.2.1.length ≤ 6) : m45_1 b p2 p3 fuel ([], 0) = some (Lib.join (b.2.1.map showCmd) [59], ()) :=
  m45_loop hl b.2.1.length 0 fuel [] (by omega) (by rw [fuel_eq]; omega) rfl
theorem m45_pre_v {F1 : Bat → Bool → Bool → (List UInt8 × Int) → Option (List UInt8 × Unit)} {b : Bat} (hb : b.2.1.length ≤ 1000000) :
    m45_pre F1 b = if batchOk b = true then (if b.1 = true then some (collect, ()) else F1 b (!batchOk b) b.1 ([], 0)) else some ([], ()) := by
  unfold m45_pre
  rw [m16_v hb]
  simp only [Option.bind_some]
  cases h : batchOk b with
  | false => rfl
  | true =>
    cases h1 : b.1 with
    | true => rfl
    | false => rfl
theorem m45_v {b : Bat} (hb : b.2.1.length ≤ 1000000) : m45 b = some (showBatch b, ()) := by
  unfold m45 showBatch
  rw [m45_pre_v hb]
  split
  · rename_i h
    split
    · rfl
    · rw [m45_f (batch_len h)]
  · rfl
theorem showBatch_len (b : Bat) : (showBatch b).length ≤ 500 := by
  unfold showBatch
  split
  · rename_i h
    have hl := batch_len h
    split
    · simp [collect]
    · have := join_len 59 (b.2.1.map showCmd) (fun p hp => by obtain ⟨c, _, rfl⟩ := List.mem_map.1 hp; exact showCmd_len c)
      simp at this; omega
  · simp
end
end Go.Proofs.YtfihmdlpikfbbaaGreatDoor
end

section
/- The plain law, tenth part: batches read; texts drawn. -/
namespace Go.Proofs.YtfihmdlpikfbbaaGreatDoor
open Go Go.Eng
set_option maxRecDepth 100000
noncomputable section

theorem getS {l : List (List UInt8)} {i : Nat} (h : i < l.length) : List.getD l (Int.toNat (i : Int)) ([] : List UInt8) = l[i] := by
  simp [List.getD, List.getElem?_eq_getElem h]
/-- What a reader of commands does. -/
structure Rdr (m : List UInt8 → Option (Cmd × Bool × Unit)) (R : List UInt8 → Cmd × Bool × Unit) : Prop where
  eq : ∀ p : List UInt8, p.length ≤ 1000000 → m p = some (R p)
  yes : ∀ p : List UInt8, p.length ≤ 1000000 → (R p).2.1 = true → showCmd (R p).1 = p
  all : ∀ (p : List UInt8) (c : Cmd), p.length ≤ 1000000 → cmdOk c = true → showCmd c = p → R p = (c, true, ())
theorem rdr_of {m : List UInt8 → Option (Cmd × Bool × Unit)} (h : ∀ s : List UInt8, s.length ≤ 1000000 → OkP (m s) (fun r => (r.2.1 = true → s ≠ [] ∧ showCmd r.1 = s) ∧ (∀ c, cmdOk c = true → showCmd c = s → r = (c, true, ())))) :
    Rdr m (fun p => (m p).getD ((0, 0, 0, ()), false, ())) := by
  refine ⟨fun p hp => ?_, fun p hp hy => ?_, fun p c hp hc he => ?_⟩
  · obtain ⟨r, hr, _⟩ := h p hp
    simp only [hr, Option.getD_some]
  · obtain ⟨r, hr, h1, _⟩ := h p hp
    simp only [hr, Option.getD_some] at hy ⊢
    exact (h1 hy).2
  · obtain ⟨r, hr, _, h2⟩ := h p hp
    simp only [hr, Option.getD_some]
    exact h2 c hc he
/-- What is read of pieces. -/
def readAll (R : List UInt8 → Cmd × Bool × Unit) (acc : List Cmd) : List (List UInt8) → Option (List Cmd)
  | [] => some acc
  | p :: ps => if (R p).2.1 = true then readAll R (acc ++ [(R p).1]) ps else none
def endAll : Option (List Cmd) → Option (Bat × Bool × Unit)
  | none => some ((false, [], ()), false, ())
  | some l => some (if batchOk (false, l, ()) = true then ((false, l, ()), true, ()) else ((false, [], ()), false, ()))
theorem readAll_some {m : List UInt8 → Option (Cmd × Bool × Unit)} {R : List UInt8 → Cmd × Bool × Unit} (hR : Rdr m R) : ∀ {ps : List (List UInt8)} {acc l : List Cmd}, (∀ p ∈ ps, p.length ≤ 1000000) → readAll R acc ps = some l → l.map showCmd = acc.map showCmd ++ ps
  | [], acc, l, _, h => by
    simp only [readAll, Option.some.injEq] at h
    subst h; simp
  | p :: ps, acc, l, hp, h => by
    unfold readAll at h
    split at h
    · rename_i h1
      have := readAll_some hR (fun q hq => hp q (List.mem_cons_of_mem _ hq)) h
      rw [this]
      simp [hR.yes p (hp p (by simp)) h1]
    · cases h
theorem readAll_all {m : List UInt8 → Option (Cmd × Bool × Unit)} {R : List UInt8 → Cmd × Bool × Unit} (hR : Rdr m R) : ∀ {cs acc : List Cmd}, cs.all cmdOk = true → readAll R acc (cs.map showCmd) = some (acc ++ cs)
  | [], acc, _ => by simp [readAll]
  | c :: cs, acc, h => by
    simp only [List.all_cons, Bool.and_eq_true] at h
    have hc := hR.all (showCmd c) c (by have := showCmd_len c; omega) h.1 rfl
    simp only [List.map_cons, readAll, hc, if_true]
    rw [readAll_all hR h.2]
    simp
theorem split_count (c : UInt8) : ∀ s, (split c s).length = s.count c + 1
  | [] => by simp [split]
  | x :: r => by
    have ih := split_count c r
    unfold split
    split
    · rename_i h
      subst h
      simp [ih]
    · rename_i h
      cases hs : split c r with
      | nil => exact absurd hs (split_ne c r)
      | cons a t =>
        rw [hs] at ih
        simp [addHead, List.count_cons, h] at ih ⊢
        omega
theorem batch_f {b : Bat} (h : batchOk b = true) (h1 : b.1 = false) : 1 ≤ b.2.1.length ∧ b.2.1.length ≤ 6 ∧ b.2.1.all cmdOk = true := by
  unfold batchOk at h
  rw [h1] at h
  simp only [Bool.false_eq_true, if_false, Bool.and_eq_true, within_iff] at h
  exact ⟨by omega, by omega, h.2⟩
theorem split_batch {b : Bat} (h : batchOk b = true) (h1 : b.1 = false) : split 59 (showBatch b) = b.2.1.map showCmd := by
  unfold showBatch
  rw [if_pos h, if_neg (by simp [h1])]
  refine split_join ?_ fun p hp => ?_
  · have := (batch_f h h1).1
    intro e
    have := congrArg List.length e
    simp only [List.length_map, List.length_nil] at this
    omega
  · obtain ⟨c, _, rfl⟩ := List.mem_map.1 hp
    exact showc_no
theorem not_collect {b : Bat} (h : batchOk b = true) (h1 : b.1 = false) : showBatch b ≠ collect := by
  intro e
  have h2 := split_batch h h1
  rw [e, show split 59 collect = [collect] by decide] at h2
  have hall := (batch_f h h1).2.2
  cases hb : b.2.1 with
  | nil => rw [hb] at h2; simp at h2
  | cons c t =>
    rw [hb] at h2 hall
    simp only [List.map_cons, List.cons.injEq] at h2
    simp only [List.all_cons, Bool.and_eq_true] at hall
    have h3 := split_showc hall.1
    rw [← h2.1, show split 32 collect = [collect] by decide] at h3
    have := cword_len c.1 (cmdOk_k hall.1)
    rw [← (List.cons.inj h3).1] at this
    simp [collect] at this
theorem collect_b {b : Bat} (h : batchOk b = true) (h1 : b.1 = true) : b = (true, [], ()) := by
  obtain ⟨k, l, ⟨⟩⟩ := b
  simp only at h1
  subst h1
  unfold batchOk at h
  simp at h
  rw [h]
/-- What a reader of batches answers. -/
def BAns (s : List UInt8) (r : Bat × Bool × Unit) : Prop := (r.2.1 = true → batchOk r.1 = true ∧ showBatch r.1 = s) ∧ ∀ b, batchOk b = true → showBatch b = s → r = (b, true, ())
theorem bans_collect : BAns collect ((true, [], ()), true, ()) := by
  refine ⟨fun _ => ⟨by decide, rfl⟩, fun b hb he => ?_⟩
  cases h1 : b.1 with
  | true => rw [collect_b hb h1]
  | false => exact absurd he (not_collect hb h1)
theorem bans_pieces {m : List UInt8 → Option (Cmd × Bool × Unit)} {R : List UInt8 → Cmd × Bool × Unit} (hR : Rdr m R) {s : List UInt8} {ps : List (List UInt8)} (hs : s.length ≤ 1000000) (hne : s ≠ collect)
    (hp : ∀ p ∈ ps, p.length ≤ s.length) (hj : Lib.join ps [59] = s) (hk : (split 59 s).length ≤ 6 → ps = split 59 s) : OkP (endAll (readAll R [] ps)) (BAns s) := by
  have hall : ∀ b, batchOk b = true → showBatch b = s → readAll R [] ps = some b.2.1 ∧ b.1 = false := by
    intro b hb he
    cases h1 : b.1 with
    | true =>
      exfalso
      apply hne
      rw [← he, collect_b hb h1]
      rfl
    | false =>
      have h2 := split_batch hb h1
      have h3 := batch_f hb h1
      rw [he] at h2
      rw [hk (by rw [h2, List.length_map]; exact h3.2.1), h2, readAll_all hR h3.2.2, List.nil_append]
      exact ⟨rfl, rfl⟩
  cases hr : readAll R [] ps with
  | none =>
    refine .mk ⟨fun h => by simp at h, fun b hb he => ?_⟩
    rw [(hall b hb he).1] at hr
    cases hr
  | some l =>
    have h1 := readAll_some hR (fun p hq => by have := hp p hq; omega) hr
    simp only [List.map_nil, List.nil_append] at h1
    simp only [endAll]
    by_cases h2 : batchOk (false, l, ()) = true
    · rw [if_pos h2]
      refine .mk ⟨fun _ => ⟨h2, ?_⟩, fun b hb he => ?_⟩
      · unfold showBatch
        rw [if_pos h2, if_neg (by simp), h1, hj]
      · obtain ⟨h3, h4⟩ := hall b hb he
        rw [hr] at h3
        obtain rfl := Option.some.inj h3
        obtain ⟨k, l, ⟨⟩⟩ := b
        simp only at h4
        subst h4
        rfl
    · rw [if_neg h2]
      refine .mk ⟨fun h => by simp at h, fun b hb he => ?_⟩
      exfalso
      apply h2
      obtain ⟨h3, h4⟩ := hall b hb he
      rw [hr] at h3
      obtain rfl := Option.some.inj h3
      obtain ⟨k, l, ⟨⟩⟩ := b
      simp only at h4
      subst h4
      exact hb
theorem endAll_v {x3 : Bat} (h1 : x3.1 = false) (hl : x3.2.1.length ≤ 1000000) : (bif (!batchOk x3) then some (((false, [], ()) : Bat), false, ()) else some (x3, true, ())) = endAll (some x3.2.1) := by
  obtain ⟨k, l, ⟨⟩⟩ := x3
  simp only at h1
  subst h1
  simp only [endAll]
  cases h : batchOk (false, l, ()) <;> simp

theorem m13_loop {s : List UInt8} {ps : List (List UInt8)} {R : List UInt8 → Cmd × Bool × Unit} (hR : Rdr m10 R) (hps : ps.length ≤ 1000000) (hp : ∀ p ∈ ps, p.length ≤ 1000000) : ∀ (m i n : Nat) (acc : List Cmd), i + m = ps.length → m < n → acc.length ≤ i →
    loopM (m13_1_body s false (ps.length : Int) ps (fun x1 x2 x3 x4 x5 x6 x7 => m13_1_p1 s false (ps.length : Int) ps x1 x2 x3 x4 x5 x6 x7) (fun x1 x2 x3 => m13_1_p2 s false (ps.length : Int) ps x1 x2 x3)) n ((i : Int), (false, acc, ())) = endAll (readAll R acc (ps.drop i)) := by
  intro m
  induction m with
  | zero =>
    intro i n acc hi hn ha
    obtain ⟨n, rfl⟩ : ∃ k, n = k + 1 := ⟨n - 1, by omega⟩
    have : i = ps.length := by omega
    subst this
    rw [loop_step]
    unfold m13_1_body m13_1_p2
    rw [show (decide ((ps.length : Int) < (ps.length : Int))) = false by simp]
    simp only [cond_false]
    rw [m32_v (b := (false, acc, ())) (by simp only []; omega)]
    simp only [Option.bind_some]
    rw [List.drop_length]
    exact endAll_v rfl (by simp only []; omega)
  | succ m ih =>
    intro i n acc hi hn ha
    obtain ⟨n, rfl⟩ : ∃ k, n = k + 1 := ⟨n - 1, by omega⟩
    have hil : i < ps.length := by omega
    rw [loop_step]
    generalize hK : loopM (m13_1_body s false (ps.length : Int) ps (fun x1 x2 x3 x4 x5 x6 x7 => m13_1_p1 s false (ps.length : Int) ps x1 x2 x3 x4 x5 x6 x7) (fun x1 x2 x3 => m13_1_p2 s false (ps.length : Int) ps x1 x2 x3)) n = K
    unfold m13_1_body m13_1_p1
    simp only [getS hil]
    rw [hR.eq _ (hp _ (List.getElem_mem hil)), List.drop_eq_getElem_cons hil]
    rw [show (decide ((i : Int) < (ps.length : Int))) = true by simp; omega, show (decide (0 ≤ (i : Int))) = true by simp, wr (by omega) (by omega), show ((i : Int) + 1) = ((i + 1 : Nat) : Int) by omega]
    simp only [Bool.and_self, cond_true, Option.bind_some]
    unfold readAll
    cases h : (R ps[i]).2.1 with
    | false => rfl
    | true =>
      simp only [Bool.not_true, cond_false, if_true]
      rw [show (decide (List.length acc + List.length [(R ps[i]).1] < 1073741824)) = true by simp; omega]
      simp only [cond_true]
      rw [← hK]
      exact ih (i + 1) n _ (by omega) (by omega) (by simp; omega)

theorem m20_loop {s : List UInt8} {ps : List (List UInt8)} {R : List UInt8 → Cmd × Bool × Unit} (hR : Rdr m47 R) (hps : ps.length ≤ 1000000) (hp : ∀ p ∈ ps, p.length ≤ 1000000) : ∀ (m i n : Nat) (acc : List Cmd), i + m = ps.length → m < n → acc.length ≤ i →
    loopM (m20_1_body s false ps (fun x1 x2 x3 x4 x5 x6 => m20_1_p1 s false ps x1 x2 x3 x4 x5 x6) (fun x1 x2 x3 => m20_1_p2 s false ps x1 x2 x3)) n ((i : Int), (false, acc, ())) = endAll (readAll R acc (ps.drop i)) := by
  intro m
  induction m with
  | zero =>
    intro i n acc hi hn ha
    obtain ⟨n, rfl⟩ : ∃ k, n = k + 1 := ⟨n - 1, by omega⟩
    have : i = ps.length := by omega
    subst this
    rw [loop_step]
    unfold m20_1_body m20_1_p2
    rw [show (decide ((ps.length : Int) < (ps.length : Int))) = false by simp]
    simp only [cond_false]
    rw [m16_v (b := (false, acc, ())) (by simp only []; omega)]
    simp only [Option.bind_some]
    rw [List.drop_length]
    exact endAll_v rfl (by simp only []; omega)
  | succ m ih =>
    intro i n acc hi hn ha
    obtain ⟨n, rfl⟩ : ∃ k, n = k + 1 := ⟨n - 1, by omega⟩
    have hil : i < ps.length := by omega
    rw [loop_step]
    generalize hK : loopM (m20_1_body s false ps (fun x1 x2 x3 x4 x5 x6 => m20_1_p1 s false ps x1 x2 x3 x4 x5 x6) (fun x1 x2 x3 => m20_1_p2 s false ps x1 x2 x3)) n = K
    unfold m20_1_body m20_1_p1
    simp only [getS hil]
    rw [hR.eq _ (hp _ (List.getElem_mem hil)), List.drop_eq_getElem_cons hil]
    rw [show (decide ((i : Int) < (ps.length : Int))) = true by simp; omega, show (decide (0 ≤ (i : Int))) = true by simp, wr (by omega) (by omega), show ((i : Int) + 1) = ((i + 1 : Nat) : Int) by omega]
    simp only [Bool.and_self, cond_true, Option.bind_some]
    unfold readAll
    cases h : (R ps[i]).2.1 with
    | false => rfl
    | true =>
      simp only [Bool.not_true, cond_false, if_true]
      rw [show (decide (List.length acc + List.length [(R ps[i]).1] < 1073741824)) = true by simp; omega]
      simp only [cond_true]
      rw [← hK]
      exact ih (i + 1) n _ (by omega) (by omega) (by simp; omega)

theorem m13_f {s : List UInt8} {ps : List (List UInt8)} {R : List UInt8 → Cmd × Bool × Unit} (hR : Rdr m10 R) (hps : ps.length ≤ 1000000) (hp : ∀ p ∈ ps, p.length ≤ 1000000) : m13_1 s false (ps.length : Int) ps fuel (0, false, [], ()) = endAll (readAll R [] ps) := by
  have := m13_loop (s := s) hR hps hp ps.length 0 fuel [] (by omega) (by rw [fuel_eq]; omega) (by simp)
  rw [List.drop_zero] at this
  exact this
theorem m20_f {s : List UInt8} {ps : List (List UInt8)} {R : List UInt8 → Cmd × Bool × Unit} (hR : Rdr m47 R) (hps : ps.length ≤ 1000000) (hp : ∀ p ∈ ps, p.length ≤ 1000000) : m20_1 s false ps fuel (0, false, [], ()) = endAll (readAll R [] ps) := by
  have := m20_loop (s := s) hR hps hp ps.length 0 fuel [] (by omega) (by rw [fuel_eq]; omega) (by simp)
  rw [List.drop_zero] at this
  exact this
theorem m13_pre_v {F1 : List UInt8 → Bool → Int → List (List UInt8) → (Int × Bat) → Option (Bat × Bool × Unit)} {s : List UInt8} (hs : s.length ≤ 1000000) :
    ∃ k, (6 ≤ k ∨ s.count 59 ≤ k) ∧ k ≤ 6 ∧ m13_pre F1 s = if s = collect then some ((true, [], ()), true, ()) else F1 s false ((splitN 59 k s).length : Int) (splitN 59 k s) (0, false, [], ()) := by
  obtain ⟨k, h1, h2, h3⟩ := m34_v hs 59
  refine ⟨k, h1, h2, ?_⟩
  unfold m13_pre
  rw [show m34 s ([59] : List UInt8) 7 = some (splitN 59 k s, ()) from h3]
  simp only [Option.bind_some, beq_iff]
  by_cases h : s = collect
  · rw [if_pos h, show (decide (s = ([99, 111, 108, 108, 101, 99, 116] : List UInt8))) = true from decide_eq_true h]
    rfl
  · rw [if_neg h, show (decide (s = ([99, 111, 108, 108, 101, 99, 116] : List UInt8))) = false from decide_eq_false h]
    rfl
theorem m20_pre_v {F1 : List UInt8 → Bool → List (List UInt8) → (Int × Bat) → Option (Bat × Bool × Unit)} {s : List UInt8} (hs : s.length ≤ 1000000) :
    m20_pre F1 s = if s = collect then some ((true, [], ()), true, ()) else F1 s false (split 59 s) (0, false, [], ()) := by
  unfold m20_pre
  rw [show m42 s 59 = some (split 59 s, ()) from m42_v hs 59]
  simp only [Option.bind_some, beq_iff]
  by_cases h : s = collect
  · rw [if_pos h, show (decide (s = ([99, 111, 108, 108, 101, 99, 116] : List UInt8))) = true from decide_eq_true h]
    rfl
  · rw [if_neg h, show (decide (s = ([99, 111, 108, 108, 101, 99, 116] : List UInt8))) = false from decide_eq_false h]
    rfl
theorem m13_v {s : List UInt8} (hs : s.length ≤ 900000) : OkP (m13 s) (BAns s) := by
  unfold m13
  obtain ⟨k, h1, h2, h3⟩ := m13_pre_v (F1 := fun p1 p2 p3 p4 d => m13_1 p1 p2 p3 p4 fuel d) (s := s) (by omega)
  rw [h3]
  split
  · rename_i h
    rw [h]
    exact .mk bans_collect
  · rename_i h
    have hR := rdr_of fun s hs => m10_v hs
    have hl := splitN_len 59 k s
    rw [m13_f hR (by omega) fun p hp => by have := splitN_mem hp; omega]
    refine bans_pieces hR (by omega) h (fun p hp => splitN_mem hp) (join_splitN k s) fun hc => splitN_split k s ?_
    rw [split_count] at hc
    omega
theorem m20_v {s : List UInt8} (hs : s.length ≤ 900000) : OkP (m20 s) (BAns s) := by
  unfold m20
  rw [m20_pre_v (by omega)]
  split
  · rename_i h
    rw [h]
    exact .mk bans_collect
  · rename_i h
    have hR := rdr_of fun s hs => m47_v hs
    have hl := split_len 59 s
    rw [m20_f hR (by omega) fun p hp => by have := split_mem hp; omega]
    exact bans_pieces hR (by omega) h (fun p hp => split_mem hp) (join_split 59 s) fun _ => rfl
end
end Go.Proofs.YtfihmdlpikfbbaaGreatDoor
end
