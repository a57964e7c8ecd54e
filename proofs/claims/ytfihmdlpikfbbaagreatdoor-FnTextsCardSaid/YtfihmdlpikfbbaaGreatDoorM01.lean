/- Part 1 of 20 of a claim; what is proved, and under which conditions, stands in the last part. Here: EngA, EngB, EngC, EngD. -/
import Derived.Orders
set_option linter.unusedVariables false
set_option linter.unusedSimpArgs false
set_option linter.unusedSectionVars false
section
/- The engine's ground: types as pure data, what a list of cells reads as, and how a part of it is looked at and replaced. -/
namespace Go.Eng
open Go

/-- The types that the engine knows. A struct is a row of pairs that ends in 'unit'. -/
inductive Ty where
  | unit
  | int (k : IntKind)
  | bool
  | str
  | pair (a b : Ty)
  | slice (e : Ty)
  | arr (n : Nat) (e : Ty)
  | iface
  deriving Inhabited

@[reducible] def Ty.den : Ty → Type
  | .unit => Unit
  | .int _ => Int
  | .bool => Bool
  | .str => List UInt8
  | .pair a b => a.den × b.den
  | .slice e => List e.den
  | .arr _ e => List e.den
  | .iface => Bool

def Ty.dflt : (t : Ty) → t.den
  | .unit => ()
  | .int _ => (0 : Int)
  | .bool => false
  | .str => ([] : List UInt8)
  | .pair a b => (a.dflt, b.dflt)
  | .slice _ => []
  | .arr n e => List.replicate n e.dflt
  | .iface => false

def IntKind.num : IntKind → Nat
  | .i8 => 0 | .i16 => 1 | .i32 => 2 | .i64 => 3 | .u8 => 4 | .u16 => 5 | .u32 => 6 | .u64 => 7

theorem IntKind.num_inj {a b : IntKind} (h : IntKind.num a = IntKind.num b) : a = b := by
  cases a <;> cases b <;> first | rfl | simp [IntKind.num] at h

def Ty.beq : Ty → Ty → Bool
  | .unit, .unit => true
  | .int k, .int j => Nat.beq (IntKind.num k) (IntKind.num j)
  | .bool, .bool => true
  | .str, .str => true
  | .pair a b, .pair c d => Ty.beq a c && Ty.beq b d
  | .slice a, .slice b => Ty.beq a b
  | .arr n a, .arr m b => Nat.beq n m && Ty.beq a b
  | .iface, .iface => true
  | _, _ => false

theorem Ty.eq_of_beq : ∀ {a b : Ty}, Ty.beq a b = true → a = b
  | .unit, b, h => by cases b <;> simp_all [Ty.beq]
  | .int k, b, h => by
    cases b <;> simp [Ty.beq] at h
    rename_i j
    rw [IntKind.num_inj h]
  | .bool, b, h => by cases b <;> simp_all [Ty.beq]
  | .str, b, h => by cases b <;> simp_all [Ty.beq]
  | .pair a c, b, h => by
    cases b <;> simp [Ty.beq] at h
    rw [Ty.eq_of_beq h.1, Ty.eq_of_beq h.2]
  | .slice a, b, h => by
    cases b <;> simp [Ty.beq] at h
    rw [Ty.eq_of_beq h]
  | .arr n a, b, h => by
    cases b <;> simp [Ty.beq] at h
    rw [h.1, Ty.eq_of_beq h.2]
  | .iface, b, h => by cases b <;> simp_all [Ty.beq]

theorem Ty.beq_refl : ∀ (a : Ty), Ty.beq a a = true
  | .unit | .bool | .str | .iface => rfl
  | .int k => by simp [Ty.beq]
  | .pair a b => by simp [Ty.beq, Ty.beq_refl a, Ty.beq_refl b]
  | .slice a => by simp [Ty.beq, Ty.beq_refl a]
  | .arr n a => by simp [Ty.beq, Ty.beq_refl a]

/-- A datum with its type. -/
abbrev Dat := Sigma Ty.den

/-- The datum, where it is of this type. -/
def Dat.as (u : Dat) (t : Ty) : Option t.den :=
  if h : Ty.beq u.1 t = true then some (Ty.eq_of_beq h ▸ u.2) else none

@[simp] theorem Dat.as_self (t : Ty) (d : t.den) : Dat.as ⟨t, d⟩ t = some d := by
  simp [Dat.as, Ty.beq_refl]

theorem Dat.as_some {u : Dat} {t : Ty} {d : t.den} (h : u.as t = some d) : u = ⟨t, d⟩ := by
  obtain ⟨t', d'⟩ := u
  unfold Dat.as at h
  split at h
  · rename_i hb
    have := Ty.eq_of_beq hb
    simp only at this
    subst this
    simp at h
    subst h
    rfl
  · simp at h

def Ty.size : Ty → Nat
  | .unit => 0
  | .pair a b => a.size + b.size
  | .arr n e => n * e.size
  | _ => 1

/-- No slice inside. -/
def Ty.flat : Ty → Bool
  | .pair a b => a.flat && b.flat
  | .slice _ => false
  | .arr _ e => e.flat
  | _ => true

def Ty.agg : Ty → Bool
  | .unit => true
  | .pair _ _ => true
  | .arr _ _ => true
  | _ => false

/-- Who may touch what: shared for ever; mine, to the bottom; moved away; mine at the top with shared elements; a pair's parts; mine but for one element. -/
inductive Md where
  | shr
  | own
  | gone
  | top
  | pair (a b : Md)
  | ix (i : Int) (m : Md)
  deriving Inhabited

def Md.fst : Md → Md
  | .shr => .shr
  | .own => .own
  | .pair a _ => a
  | _ => .gone

def Md.snd : Md → Md
  | .shr => .shr
  | .own => .own
  | .pair _ b => b
  | _ => .gone

/-- The mode of element i of a slice that is mine. -/
def Md.elem : Md → Nat → Md
  | .own, _ => .own
  | .top, _ => .shr
  | .ix j m, i => if j = (i : Int) then m else .own
  | _, _ => .gone

def plain : Value → Bool
  | .agg _ => false
  | .tuple _ => false
  | _ => true

def chunk (cs : List Value) (off n : Nat) : List Value := (cs.drop off).take n

def cellsAt (w : World) (b off n : Nat) : List Value :=
  match w.heap[b]? with
  | some (.cells c _ _) => chunk c.toList off n
  | _ => []

def Gone (n : Nat) (cs : List Value) : Prop := cs.length = n ∧ ∀ v ∈ cs, plain v = true

def toV (t : Ty) (cs : List Value) : Value := if t.agg then .agg cs.toArray else cs.headD undef

/-- What a list of cells reads as. S: the blocks that are shared for ever; F: the blocks that are owned by this value alone. -/
def Rd (w : World) (S : Nat → Prop) : (t : Ty) → Md → (Nat → Prop) → List Value → t.den → Prop
  | .unit, _, _, cs, _ => cs = []
  | .int k, m, _, cs, d => match m with
    | .gone => Gone 1 cs
    | _ => cs = [.int k d]
  | .bool, m, _, cs, d => match m with
    | .gone => Gone 1 cs
    | _ => cs = [.bool d]
  | .str, m, _, cs, d => match m with
    | .gone => Gone 1 cs
    | _ => cs = [.string ⟨⟨d⟩⟩]
  | .iface, m, _, cs, d => match m with
    | .gone => Gone 1 cs
    | _ => Gone 1 cs ∧ (if d then ∃ t v, cs = [.iface t v] else cs = [.nilIface])
  | .pair a b, m, F, cs, d => ∃ F1 F2 : Nat → Prop, (∀ x, F1 x → F x) ∧ (∀ x, F2 x → F x) ∧ (∀ x, F1 x → ¬ F2 x) ∧
      Rd w S a m.fst F1 (cs.take a.size) d.1 ∧ Rd w S b m.snd F2 (cs.drop a.size) d.2
  | .arr n e, m, _, cs, d => match m with
    | .gone => Gone (n * e.size) cs
    | _ => d.length = n ∧ cs.length = n * e.size ∧ e.flat = true ∧ ∀ i (h : i < d.length), Rd w S e .shr (fun _ => False) (chunk cs (i * e.size) e.size) d[i]
  | .slice e, m, F, cs, d => match m with
    | .gone => Gone 1 cs
    | .shr => ∃ base len cap, cs = [.slice base len cap] ∧ d.length = len ∧ len ≤ cap ∧ (len = 0 ∨ ∃ b off, base = some ⟨b, off, none⟩ ∧ S b ∧
        ∀ i (h : i < d.length), Rd w S e .shr (fun _ => False) (cellsAt w b (off + i * e.size) e.size) d[i])
    | m => ∃ base len cap, cs = [.slice base len cap] ∧ d.length = len ∧ len ≤ cap ∧ (cap = 0 ∨ ∃ b off c el, base = some ⟨b, off, none⟩ ∧ F b ∧
        w.heap[b]? = some (.cells c el (0, 0)) ∧ off + cap * e.size ≤ c.size ∧ ∃ Fi : Nat → Nat → Prop, (∀ i x, Fi i x → F x ∧ x ≠ b) ∧
        (∀ i j x, i ≠ j → Fi i x → ¬ Fi j x) ∧ ∀ i (h : i < d.length), Rd w S e (m.elem i) (Fi i) (chunk c.toList (off + i * e.size) e.size) d[i])

end Go.Eng
end

section
/- The engine's ground, lemmas: lengths, what stays when memory grows, lending. -/
namespace Go.Eng
open Go

theorem chunk_length_le (cs : List Value) (off n : Nat) : (chunk cs off n).length ≤ n := by
  simp [chunk]; omega

theorem chunk_length {cs : List Value} {off n : Nat} (h : off + n ≤ cs.length) : (chunk cs off n).length = n := by
  simp [chunk]; omega

theorem mem_chunk {cs : List Value} {off n : Nat} {v : Value} (h : v ∈ chunk cs off n) : v ∈ cs :=
  List.mem_of_mem_drop (List.mem_of_mem_take h)

theorem Rd_len (w : World) (S : Nat → Prop) : ∀ (t : Ty) (m : Md) (F : Nat → Prop) (cs : List Value) (d : t.den), Rd w S t m F cs d → cs.length = t.size
  | .unit, m, F, cs, d, h => by simp only [Rd] at h; subst h; rfl
  | .int k, m, F, cs, d, h => by cases m <;> simp only [Rd] at h <;> first | exact h.1 | (subst h; rfl)
  | .bool, m, F, cs, d, h => by cases m <;> simp only [Rd] at h <;> first | exact h.1 | (subst h; rfl)
  | .str, m, F, cs, d, h => by cases m <;> simp only [Rd] at h <;> first | exact h.1 | (subst h; rfl)
  | .iface, m, F, cs, d, h => by cases m <;> simp only [Rd] at h <;> first | exact h.1 | exact h.1.1
  | .pair a b, m, F, cs, d, h => by
    simp only [Rd] at h
    obtain ⟨F1, F2, _, _, _, h1, h2⟩ := h
    have e1 := Rd_len w S a _ _ _ _ h1
    have e2 := Rd_len w S b _ _ _ _ h2
    simp only [List.length_take, List.length_drop] at e1 e2
    simp only [Ty.size]
    omega
  | .arr n e, m, F, cs, d, h => by cases m <;> simp only [Rd] at h <;> first | exact h.1 | exact h.2.1
  | .slice e, m, F, cs, d, h => by
    cases m <;> simp only [Rd] at h <;> first | exact h.1 | (obtain ⟨_, _, _, rfl, _⟩ := h; rfl)

theorem Rd_plain (w : World) (S : Nat → Prop) : ∀ (t : Ty) (m : Md) (F : Nat → Prop) (cs : List Value) (d : t.den), Rd w S t m F cs d → ∀ v ∈ cs, plain v = true
  | .unit, m, F, cs, d, h => by simp only [Rd] at h; subst h; simp
  | .int k, m, F, cs, d, h => by cases m <;> simp only [Rd] at h <;> first | exact h.2 | (subst h; simp [plain])
  | .bool, m, F, cs, d, h => by cases m <;> simp only [Rd] at h <;> first | exact h.2 | (subst h; simp [plain])
  | .str, m, F, cs, d, h => by cases m <;> simp only [Rd] at h <;> first | exact h.2 | (subst h; simp [plain])
  | .iface, m, F, cs, d, h => by cases m <;> simp only [Rd] at h <;> first | exact h.2 | exact h.1.2
  | .pair a b, m, F, cs, d, h => by
    simp only [Rd] at h
    obtain ⟨F1, F2, _, _, _, h1, h2⟩ := h
    intro v hv
    rw [← List.take_append_drop a.size cs] at hv
    rcases List.mem_append.1 hv with hv | hv
    · exact Rd_plain w S a _ _ _ _ h1 v hv
    · exact Rd_plain w S b _ _ _ _ h2 v hv
  | .arr n e, m, F, cs, d, h => by
    have key : (d.length = n ∧ cs.length = n * e.size ∧ e.flat = true ∧ ∀ i (h : i < d.length), Rd w S e .shr (fun _ => False) (chunk cs (i * e.size) e.size) d[i]) → ∀ v ∈ cs, plain v = true := by
      rintro ⟨hd, hc, _, hr⟩ v hv
      obtain ⟨j, hj, rfl⟩ := List.mem_iff_getElem.1 hv
      rcases Nat.eq_zero_or_pos e.size with hz | hz
      · rw [hz] at hc; simp at hc; subst hc; simp at hj
      have hi : j / e.size < d.length := by
        rw [hd]; rw [hc] at hj; exact Nat.div_lt_of_lt_mul (by rwa [Nat.mul_comm] at hj)
      have := Rd_plain w S e _ _ _ _ (hr (j / e.size) hi)
      refine this _ ?_
      have hm := Nat.mod_lt j hz
      have hjj : j / e.size * e.size + j % e.size = j := by rw [Nat.mul_comm]; exact Nat.div_add_mod j e.size
      rw [List.mem_iff_getElem]
      refine ⟨j % e.size, ?_, ?_⟩
      · simp [chunk]; omega
      · simp only [chunk, List.getElem_take, List.getElem_drop, hjj]
    cases m <;> simp only [Rd] at h <;> first | exact h.2 | exact key h
  | .slice e, m, F, cs, d, h => by
    cases m <;> simp only [Rd] at h <;> first | exact h.2 | (obtain ⟨_, _, _, rfl, _⟩ := h; simp [plain])

theorem Rd_monoF (w : World) (S : Nat → Prop) : ∀ (t : Ty) (m : Md) (F F' : Nat → Prop) (cs : List Value) (d : t.den), (∀ x, F x → F' x) → Rd w S t m F cs d → Rd w S t m F' cs d
  | .unit, m, F, F', cs, d, hF, h => by simpa only [Rd] using h
  | .int k, m, F, F', cs, d, hF, h => by cases m <;> simpa only [Rd] using h
  | .bool, m, F, F', cs, d, hF, h => by cases m <;> simpa only [Rd] using h
  | .str, m, F, F', cs, d, hF, h => by cases m <;> simpa only [Rd] using h
  | .iface, m, F, F', cs, d, hF, h => by cases m <;> simpa only [Rd] using h
  | .arr n e, m, F, F', cs, d, hF, h => by cases m <;> simpa only [Rd] using h
  | .pair a b, m, F, F', cs, d, hF, h => by
    simp only [Rd] at h ⊢
    obtain ⟨F1, F2, h1, h2, r⟩ := h
    exact ⟨F1, F2, fun x hx => hF x (h1 x hx), fun x hx => hF x (h2 x hx), r⟩
  | .slice e, m, F, F', cs, d, hF, h => by
    cases m <;> simp only [Rd] at h ⊢ <;> first
      | exact h
      | (obtain ⟨base, len, cap, h1, h2, h3, h4⟩ := h
         refine ⟨base, len, cap, h1, h2, h3, ?_⟩
         rcases h4 with h4 | ⟨b, off, c, el, hb, hFb, hh, ho, Fi, hFi, hd, hr⟩
         · exact .inl h4
         · exact .inr ⟨b, off, c, el, hb, hF b hFb, hh, ho, Fi, fun i x hx => ⟨hF x (hFi i x hx).1, (hFi i x hx).2⟩, hd, hr⟩)

/-- What is shared may come to be more; what is read stays where the blocks that it reads stay. -/
theorem Rd_frame (w w' : World) (S S' : Nat → Prop) (hS : ∀ b, S b → S' b ∧ w'.heap[b]? = w.heap[b]?) : ∀ (t : Ty) (m : Md) (F : Nat → Prop) (cs : List Value) (d : t.den),
    (∀ b, F b → w'.heap[b]? = w.heap[b]?) → Rd w S t m F cs d → Rd w' S' t m F cs d
  | .unit, m, F, cs, d, hF, h => by simpa only [Rd] using h
  | .int k, m, F, cs, d, hF, h => by cases m <;> simpa only [Rd] using h
  | .bool, m, F, cs, d, hF, h => by cases m <;> simpa only [Rd] using h
  | .str, m, F, cs, d, hF, h => by cases m <;> simpa only [Rd] using h
  | .iface, m, F, cs, d, hF, h => by cases m <;> simpa only [Rd] using h
  | .arr n e, m, F, cs, d, hF, h => by
    cases m <;> simp only [Rd] at h ⊢ <;> first
      | exact h
      | exact ⟨h.1, h.2.1, h.2.2.1, fun i hi => Rd_frame w w' S S' hS e _ _ _ _ (fun _ hb => hb.elim) (h.2.2.2 i hi)⟩
  | .pair a b, m, F, cs, d, hF, h => by
    simp only [Rd] at h ⊢
    obtain ⟨F1, F2, h1, h2, h3, r1, r2⟩ := h
    exact ⟨F1, F2, h1, h2, h3, Rd_frame w w' S S' hS a _ _ _ _ (fun x hx => hF x (h1 x hx)) r1, Rd_frame w w' S S' hS b _ _ _ _ (fun x hx => hF x (h2 x hx)) r2⟩
  | .slice e, m, F, cs, d, hF, h => by
    cases m <;> simp only [Rd] at h ⊢ <;> first
      | exact h
      | (obtain ⟨base, len, cap, h1, h2, h3, h4⟩ := h
         refine ⟨base, len, cap, h1, h2, h3, ?_⟩
         rcases h4 with h4 | ⟨b, off, hb, hSb, hr⟩
         · exact .inl h4
         · refine .inr ⟨b, off, hb, (hS b hSb).1, fun i hi => ?_⟩
           have e1 : cellsAt w' b (off + i * e.size) e.size = cellsAt w b (off + i * e.size) e.size := by simp only [cellsAt, (hS b hSb).2]
           rw [e1]
           exact Rd_frame w w' S S' hS e _ _ _ _ (fun _ hb => hb.elim) (hr i hi))
      | (obtain ⟨base, len, cap, h1, h2, h3, h4⟩ := h
         refine ⟨base, len, cap, h1, h2, h3, ?_⟩
         rcases h4 with h4 | ⟨b, off, c, el, hb, hFb, hh, ho, Fi, hFi, hd, hr⟩
         · exact .inl h4
         · exact .inr ⟨b, off, c, el, hb, hFb, by rw [hF b hFb]; exact hh, ho, Fi, hFi, hd, fun i hi =>
             Rd_frame w w' S S' hS e _ _ _ _ (fun x hx => hF x (hFi i x hx).1) (hr i hi)⟩)

/-- Nothing in it has been moved away. -/
def full : Ty → Md → Bool
  | .pair a b, m => full a m.fst && full b m.snd
  | .slice _, m => match m with
    | .shr => true
    | .own => true
    | .top => true
    | _ => false
  | .unit, _ => true
  | _, m => match m with
    | .gone => false
    | _ => true

theorem full_own : ∀ t : Ty, full t .own = true := by
  intro t; induction t <;> simp_all [full, Md.fst, Md.snd]

theorem full_shr : ∀ t : Ty, full t .shr = true := by
  intro t; induction t <;> simp_all [full, Md.fst, Md.snd]

/-- What is shared owns nothing. -/
theorem Rd_shrF (w : World) (S : Nat → Prop) : ∀ (t : Ty) (F F' : Nat → Prop) (cs : List Value) (d : t.den), Rd w S t .shr F cs d → Rd w S t .shr F' cs d
  | .unit, F, F', cs, d, h => h
  | .int k, F, F', cs, d, h => h
  | .bool, F, F', cs, d, h => h
  | .str, F, F', cs, d, h => h
  | .iface, F, F', cs, d, h => h
  | .arr n e, F, F', cs, d, h => h
  | .slice e, F, F', cs, d, h => h
  | .pair a b, F, F', cs, d, h => by
    simp only [Rd, Md.fst, Md.snd] at h ⊢
    obtain ⟨F1, F2, _, _, _, r1, r2⟩ := h
    exact ⟨fun _ => False, fun _ => False, fun _ hx => hx.elim, fun _ hx => hx.elim, fun _ hx => hx.elim,
      Rd_shrF w S a F1 _ _ _ r1, Rd_shrF w S b F2 _ _ _ r2⟩

/-- Lending, and sharing for ever: what is mine may be read by all. -/
theorem Rd_share (w : World) (S S' : Nat → Prop) (hS : ∀ b, S b → S' b) : ∀ (t : Ty) (m : Md) (F F' : Nat → Prop) (cs : List Value) (d : t.den),
    (∀ b, F b → S' b) → full t m = true → Rd w S t m F cs d → Rd w S' t .shr F' cs d
  | .unit, m, F, F', cs, d, hF, hm, h => by simpa only [Rd] using h
  | .int k, m, F, F', cs, d, hF, hm, h => by cases m <;> simp only [Rd, full] at h hm ⊢ <;> first | exact h | simp at hm
  | .bool, m, F, F', cs, d, hF, hm, h => by cases m <;> simp only [Rd, full] at h hm ⊢ <;> first | exact h | simp at hm
  | .str, m, F, F', cs, d, hF, hm, h => by cases m <;> simp only [Rd, full] at h hm ⊢ <;> first | exact h | simp at hm
  | .iface, m, F, F', cs, d, hF, hm, h => by cases m <;> simp only [Rd, full] at h hm ⊢ <;> first | exact h | simp at hm
  | .arr n e, m, F, F', cs, d, hF, hm, h => by
    cases m <;> simp only [Rd, full] at h hm ⊢ <;> first
      | exact ⟨h.1, h.2.1, h.2.2.1, fun i hi => Rd_frame w w S S' (fun b hb => ⟨hS b hb, rfl⟩) e _ _ _ _ (fun _ hb => hb.elim) (h.2.2.2 i hi)⟩
      | simp at hm
  | .pair a b, m, F, F', cs, d, hF, hm, h => by
    simp only [Rd, full, Bool.and_eq_true] at h hm ⊢
    obtain ⟨F1, F2, h1, h2, h3, r1, r2⟩ := h
    exact ⟨fun _ => False, fun _ => False, fun _ hx => hx.elim, fun _ hx => hx.elim, fun _ hx => hx.elim,
      Rd_share w S S' hS a _ F1 _ _ _ (fun x hx => hF x (h1 x hx)) hm.1 r1, Rd_share w S S' hS b _ F2 _ _ _ (fun x hx => hF x (h2 x hx)) hm.2 r2⟩
  | .slice e, .gone, F, F', cs, d, hF, hm, h => by simp [full] at hm
  | .slice e, .pair _ _, F, F', cs, d, hF, hm, h => by simp [full] at hm
  | .slice e, .ix _ _, F, F', cs, d, hF, hm, h => by simp [full] at hm
  | .slice e, .shr, F, F', cs, d, hF, hm, h => by
      simp only [Rd] at h ⊢
      obtain ⟨base, len, cap, h1, h2, h3, h4⟩ := h
      refine ⟨base, len, cap, h1, h2, h3, h4.imp id ?_⟩
      rintro ⟨b, off, hb, hSb, hr⟩
      exact ⟨b, off, hb, hS b hSb, fun i hi => Rd_frame w w S S' (fun b hb => ⟨hS b hb, rfl⟩) e _ _ _ _ (fun _ hb => hb.elim) (hr i hi)⟩
  | .slice e, .own, F, F', cs, d, hF, hm, h => by
      simp only [Rd] at h ⊢
      obtain ⟨base, len, cap, h1, h2, h3, h4⟩ := h
      refine ⟨base, len, cap, h1, h2, h3, ?_⟩
      rcases h4 with h4 | ⟨b, off, c, el, hb, hFb, hh, ho, Fi, hFi, hd, hr⟩
      · exact .inl (by omega)
      · refine .inr ⟨b, off, hb, hF b hFb, fun i hi => ?_⟩
        have e1 : cellsAt w b (off + i * e.size) e.size = chunk c.toList (off + i * e.size) e.size := by simp only [cellsAt, hh]
        rw [e1]
        exact Rd_share w S S' hS e _ (Fi i) _ _ _ (fun x hx => hF x (hFi i x hx).1) (full_own e) (hr i hi)
  | .slice e, .top, F, F', cs, d, hF, hm, h => by
      simp only [Rd] at h ⊢
      obtain ⟨base, len, cap, h1, h2, h3, h4⟩ := h
      refine ⟨base, len, cap, h1, h2, h3, ?_⟩
      rcases h4 with h4 | ⟨b, off, c, el, hb, hFb, hh, ho, Fi, hFi, hd, hr⟩
      · exact .inl (by omega)
      · refine .inr ⟨b, off, hb, hF b hFb, fun i hi => ?_⟩
        have e1 : cellsAt w b (off + i * e.size) e.size = chunk c.toList (off + i * e.size) e.size := by simp only [cellsAt, hh]
        rw [e1]
        exact Rd_share w S S' hS e _ (Fi i) _ _ _ (fun x hx => hF x (hFi i x hx).1) (full_shr e) (hr i hi)

end Go.Eng
end

section
/- The engine's ground: looking at a part of a value, and putting another part in its place. -/
namespace Go.Eng
open Go

inductive Step where
  | fst
  | snd
  | ix (i : Int)
  deriving Inhabited

abbrev Path := List Step

def splice (cs : List Value) (off : Nat) (x : List Value) : List Value := cs.take off ++ x ++ cs.drop (off + x.length)

/-- Where a path leads: the type, the cells, and where they lie. -/
def walk (w : World) : (t : Ty) → Path → List Value → Option (Nat × Nat) → Option (Ty × List Value × Option (Nat × Nat))
  | t, [], cs, l => some (t, cs, l)
  | .pair a _, .fst :: p, cs, l => walk w a p (cs.take a.size) l
  | .pair a b, .snd :: p, cs, l => walk w b p (cs.drop a.size) (l.map fun x => (x.1, x.2 + a.size))
  | .slice e, .ix i :: p, cs, _ => match cs with
    | [.slice (some ⟨b, off, none⟩) len _] =>
      if 0 ≤ i ∧ i < len then walk w e p (cellsAt w b (off + i.toNat * e.size) e.size) (some (b, off + i.toNat * e.size)) else none
    | _ => none
  | .arr n e, .ix i :: p, cs, l =>
    if 0 ≤ i ∧ i < n then walk w e p (chunk cs (i.toNat * e.size) e.size) (l.map fun x => (x.1, x.2 + i.toNat * e.size)) else none
  | _, _ :: _, _, _ => none

/-- The datum at the end of a path. -/
def getD : (t : Ty) → Path → t.den → Option Dat
  | t, [], d => some ⟨t, d⟩
  | .pair a _, .fst :: p, d => getD a p d.1
  | .pair _ b, .snd :: p, d => getD b p d.2
  | .slice e, .ix i :: p, d => getD e p (List.getD d i.toNat e.dflt)
  | .arr _ e, .ix i :: p, d => getD e p (List.getD d i.toNat e.dflt)
  | _, _ :: _, _ => none

/-- Another datum in its place. -/
def setD : (t : Ty) → Path → t.den → Dat → Option t.den
  | t, [], _, u => u.as t
  | .pair a _, .fst :: p, d, u => (setD a p d.1 u).map fun x => (x, d.2)
  | .pair _ b, .snd :: p, d, u => (setD b p d.2 u).map fun x => (d.1, x)
  | .slice e, .ix i :: p, d, u => (setD e p (List.getD d i.toNat e.dflt) u).map fun x => List.set d i.toNat x
  | .arr _ e, .ix i :: p, d, u => (setD e p (List.getD d i.toNat e.dflt) u).map fun x => List.set d i.toNat x
  | _, _ :: _, _, _ => none

/-- May the place be pointed at? -/
def okR : Ty → Md → Path → Bool
  | _, _, [] => true
  | .pair a _, m, .fst :: p => okR a m.fst p
  | .pair _ b, m, .snd :: p => okR b m.snd p
  | .slice e, m, .ix _ :: p => match m with
    | .own => okR e .own p
    | .top => okR e .shr p
    | .ix _ mj => okR e mj p && okR e .own p
    | _ => false
  | .arr _ e, m, .ix _ :: p => match m with
    | .gone => false
    | _ => okR e .shr p
  | _, _, _ :: _ => false

/-- Is all there at the end of the path? -/
def allFull : Ty → Md → Path → Bool
  | t, m, [] => full t m
  | .pair a _, m, .fst :: p => allFull a m.fst p
  | .pair _ b, m, .snd :: p => allFull b m.snd p
  | .slice e, m, .ix _ :: p => match m with
    | .own => allFull e .own p
    | .top => allFull e .shr p
    | .ix _ mj => allFull e mj p && allFull e .own p
    | _ => false
  | .arr _ e, m, .ix _ :: p => match m with
    | .gone => false
    | _ => allFull e .shr p
  | _, _, _ :: _ => false

theorem cellsAt_eq {w : World} {b : Nat} {c : Array Value} {el : TypeId} {fz : Nat × Nat} (h : w.heap[b]? = some (.cells c el fz)) (off n : Nat) : cellsAt w b off n = chunk c.toList off n := by
  simp only [cellsAt, h]

theorem getD_eq {α : Type} (l : List α) (i : Nat) (x : α) (h : i < l.length) : List.getD l i x = l[i] := by simp [List.getD, h]

/-- What is read at the end of a path. -/
theorem read_walk (w : World) (S : Nat → Prop) : ∀ (p : Path) (t : Ty) (m : Md) (F : Nat → Prop) (cs : List Value) (d : t.den) (l : Option (Nat × Nat)) (t' : Ty) (cs' : List Value) (l' : Option (Nat × Nat)),
    Rd w S t m F cs d → walk w t p cs l = some (t', cs', l') → okR t m p = true →
    ∃ d' F' m', getD t p d = some ⟨t', d'⟩ ∧ (∀ x, F' x → F x) ∧ (allFull t m p = true → full t' m' = true) ∧ Rd w S t' m' F' cs' d'
  | [], t, m, F, cs, d, l, t', cs', l', h, hw, ho => by
    simp only [walk, Option.some.injEq, Prod.mk.injEq] at hw
    obtain ⟨rfl, rfl, rfl⟩ := hw
    refine ⟨d, F, m, by simp [getD], fun x hx => hx, fun hf => ?_, h⟩
    cases t <;> simpa only [allFull] using hf
  | s :: p, t, m, F, cs, d, l, t', cs', l', h, hw, ho => by
    cases t with
    | pair a b =>
      simp only [Rd] at h
      obtain ⟨F1, F2, h1, h2, h3, r1, r2⟩ := h
      cases s with
      | fst =>
        simp only [walk, okR] at hw ho
        obtain ⟨d', F', m', e1, e2, e3, e4⟩ := read_walk w S p a _ _ _ _ _ _ _ _ r1 hw ho
        exact ⟨d', F', m', by simpa only [getD] using e1, fun x hx => h1 x (e2 x hx), by simpa only [allFull] using e3, e4⟩
      | snd =>
        simp only [walk, okR] at hw ho
        obtain ⟨d', F', m', e1, e2, e3, e4⟩ := read_walk w S p b _ _ _ _ _ _ _ _ r2 hw ho
        exact ⟨d', F', m', by simpa only [getD] using e1, fun x hx => h2 x (e2 x hx), by simpa only [allFull] using e3, e4⟩
      | ix i => simp [walk] at hw
    | slice e =>
      cases s with
      | fst => simp [walk] at hw
      | snd => simp [walk] at hw
      | ix i =>
        have key : (∃ base len cap, cs = [.slice base len cap] ∧ d.length = len ∧ len ≤ cap ∧ (cap = 0 ∨ ∃ b off c el, base = some ⟨b, off, none⟩ ∧ F b ∧
            w.heap[b]? = some (.cells c el (0, 0)) ∧ off + cap * e.size ≤ c.size ∧ ∃ Fi : Nat → Nat → Prop, (∀ i x, Fi i x → F x ∧ x ≠ b) ∧
            (∀ i j x, i ≠ j → Fi i x → ¬ Fi j x) ∧ ∀ i (h : i < d.length), Rd w S e (m.elem i) (Fi i) (chunk c.toList (off + i * e.size) e.size) d[i])) → okR e (m.elem i.toNat) p = true →
            ∃ d' F' m', getD (.slice e) (.ix i :: p) d = some ⟨t', d'⟩ ∧ (∀ x, F' x → F x) ∧ (allFull e (m.elem i.toNat) p = true → full t' m' = true) ∧ Rd w S t' m' F' cs' d' := by
          rintro ⟨base, len, cap, rfl, hl, hc, h4⟩ ho'
          simp only [walk] at hw
          rcases h4 with h4 | ⟨b, off, c, el, rfl, hFb, hh, hoc, Fi, hFi, hd, hr⟩
          · split at hw
            · rename_i heq
              simp at heq
              split at hw
              · omega
              · simp at hw
            · simp at hw
          · simp only at hw
            split at hw
            · rename_i hi
              have hi' : i.toNat < d.length := by omega
              rw [cellsAt_eq hh] at hw
              obtain ⟨d', F', m', e1, e2, e3, e4⟩ := read_walk w S p e _ _ _ _ _ _ _ _ (hr i.toNat hi') hw ho'
              exact ⟨d', F', m', by simp only [getD]; rw [getD_eq d _ _ hi']; exact e1, fun x hx => (hFi _ x (e2 x hx)).1, e3, e4⟩
            · simp at hw
        cases m with
        | gone => simp [okR] at ho
        | pair _ _ => simp [okR] at ho
        | shr => simp [okR] at ho
        | own =>
          simp only [Rd] at h
          simp only [okR] at ho
          obtain ⟨d', F', m', e1, e2, e3, e4⟩ := key h ho
          exact ⟨d', F', m', e1, e2, by simpa only [allFull, Md.elem] using e3, e4⟩
        | top =>
          simp only [Rd] at h
          simp only [okR] at ho
          obtain ⟨d', F', m', e1, e2, e3, e4⟩ := key h ho
          exact ⟨d', F', m', e1, e2, by simpa only [allFull, Md.elem] using e3, e4⟩
        | ix j mj =>
          simp only [Rd] at h
          simp only [okR, Bool.and_eq_true] at ho
          obtain ⟨d', F', m', e1, e2, e3, e4⟩ := key h (by simp only [Md.elem]; split <;> simp [ho])
          refine ⟨d', F', m', e1, e2, fun hf => e3 ?_, e4⟩
          simp only [allFull, Bool.and_eq_true] at hf
          simp only [Md.elem]; split <;> simp [hf]
    | arr n e =>
      cases s with
      | fst => simp [walk] at hw
      | snd => simp [walk] at hw
      | ix i =>
        have key : (d.length = n ∧ cs.length = n * e.size ∧ e.flat = true ∧ ∀ i (h : i < d.length), Rd w S e .shr (fun _ => False) (chunk cs (i * e.size) e.size) d[i]) → okR e .shr p = true →
            ∃ d' F' m', getD (.arr n e) (.ix i :: p) d = some ⟨t', d'⟩ ∧ (∀ x, F' x → F x) ∧ (allFull e .shr p = true → full t' m' = true) ∧ Rd w S t' m' F' cs' d' := by
          rintro ⟨hd, hc, hf, hr⟩ ho'
          simp only [walk] at hw
          split at hw
          · rename_i hi
            have hi' : i.toNat < d.length := by omega
            obtain ⟨d', F', m', e1, e2, e3, e4⟩ := read_walk w S p e _ _ _ _ _ _ _ _ (hr i.toNat hi') hw ho'
            exact ⟨d', F', m', by simp only [getD]; rw [getD_eq d _ _ hi']; exact e1, fun x hx => (e2 x hx).elim, e3, e4⟩
          · simp at hw
        cases m <;> simp only [Rd, okR] at h ho <;> first
          | (simp at ho; done)
          | (obtain ⟨d', F', m', e1, e2, e3, e4⟩ := key h ho; exact ⟨d', F', m', e1, e2, by simpa only [allFull] using e3, e4⟩)
    | unit => simp [walk] at hw
    | int k => simp [walk] at hw
    | bool => simp [walk] at hw
    | str => simp [walk] at hw
    | iface => simp [walk] at hw

/-- The walk goes the same way where the blocks of the value stay. -/
theorem walk_frame (w w2 : World) (S : Nat → Prop) : ∀ (p : Path) (t : Ty) (m : Md) (F : Nat → Prop) (cs : List Value) (d : t.den) (l : Option (Nat × Nat)),
    Rd w S t m F cs d → okR t m p = true → (∀ x, F x → w2.heap[x]? = w.heap[x]?) → walk w2 t p cs l = walk w t p cs l
  | [], t, m, F, cs, d, l, h, ho, hk => by simp only [walk]
  | s :: p, t, m, F, cs, d, l, h, ho, hk => by
    cases t with
    | pair a b =>
      simp only [Rd] at h
      obtain ⟨F1, F2, h1, h2, h3, r1, r2⟩ := h
      cases s with
      | fst => simp only [walk, okR] at ho ⊢; exact walk_frame w w2 S p a _ _ _ _ _ r1 ho (fun x hx => hk x (h1 x hx))
      | snd => simp only [walk, okR] at ho ⊢; exact walk_frame w w2 S p b _ _ _ _ _ r2 ho (fun x hx => hk x (h2 x hx))
      | ix i => simp only [walk]
    | slice e =>
      cases s with
      | fst => simp only [walk]
      | snd => simp only [walk]
      | ix i =>
        have key : (∃ base len cap, cs = [.slice base len cap] ∧ d.length = len ∧ len ≤ cap ∧ (cap = 0 ∨ ∃ b off c el, base = some ⟨b, off, none⟩ ∧ F b ∧
            w.heap[b]? = some (.cells c el (0, 0)) ∧ off + cap * e.size ≤ c.size ∧ ∃ Fi : Nat → Nat → Prop, (∀ i x, Fi i x → F x ∧ x ≠ b) ∧
            (∀ i j x, i ≠ j → Fi i x → ¬ Fi j x) ∧ ∀ i (h : i < d.length), Rd w S e (m.elem i) (Fi i) (chunk c.toList (off + i * e.size) e.size) d[i])) → okR e (m.elem i.toNat) p = true →
            walk w2 (.slice e) (.ix i :: p) cs l = walk w (.slice e) (.ix i :: p) cs l := by
          rintro ⟨base, len, cap, rfl, hl, hc, h4⟩ ho'
          simp only [walk]
          rcases h4 with h4 | ⟨b, off, c, el, rfl, hFb, hh, hoc, Fi, hFi, hd, hr⟩
          · split
            · rename_i heq
              simp at heq
              rw [if_neg (by omega), if_neg (by omega)]
            · rfl
          · simp only
            split
            · rename_i hi
              have hi' : i.toNat < d.length := by omega
              have e1 : cellsAt w2 b (off + i.toNat * e.size) e.size = cellsAt w b (off + i.toNat * e.size) e.size := by simp only [cellsAt, hk b hFb]
              rw [e1, cellsAt_eq hh]
              exact walk_frame w w2 S p e _ _ _ _ _ (hr i.toNat hi') ho' (fun x hx => hk x (hFi _ x hx).1)
            · rfl
        cases m with
        | gone => simp [okR] at ho
        | pair _ _ => simp [okR] at ho
        | shr => simp [okR] at ho
        | own => simp only [Rd] at h; simp only [okR] at ho; exact key h ho
        | top => simp only [Rd] at h; simp only [okR] at ho; exact key h ho
        | ix j mj =>
          simp only [Rd] at h
          simp only [okR, Bool.and_eq_true] at ho
          exact key h (by simp only [Md.elem]; split <;> simp [ho])
    | arr n e =>
      cases s with
      | fst => simp only [walk]
      | snd => simp only [walk]
      | ix i =>
        have key : (d.length = n ∧ cs.length = n * e.size ∧ e.flat = true ∧ ∀ i (h : i < d.length), Rd w S e .shr (fun _ => False) (chunk cs (i * e.size) e.size) d[i]) → okR e .shr p = true →
            walk w2 (.arr n e) (.ix i :: p) cs l = walk w (.arr n e) (.ix i :: p) cs l := by
          rintro ⟨hd, hc, hf, hr⟩ ho'
          simp only [walk]
          split
          · rename_i hi
            exact walk_frame w w2 S p e _ _ _ _ _ (hr i.toNat (by omega)) ho' (fun _ hx => hx.elim)
          · rfl
        cases m <;> simp only [Rd, okR] at h ho <;> first
          | (simp at ho; done)
          | exact key h ho
    | unit => simp only [walk]
    | int k => simp only [walk]
    | bool => simp only [walk]
    | str => simp only [walk]
    | iface => simp only [walk]

/-- May the place be written? -/
def okP : Ty → Md → Path → Bool
  | _, _, [] => true
  | .pair a _, m, .fst :: p => okP a m.fst p
  | .pair _ b, m, .snd :: p => okP b m.snd p
  | .slice e, m, .ix i :: p => match m with
    | .own => okP e .own p
    | .ix j mj => decide (j = i) && okP e mj p
    | _ => false
  | .arr _ _, m, .ix _ :: p => match m, p with
    | .gone, _ => false
    | _, [] => true
    | _, _ => false
  | _, _, _ :: _ => false

def Md.mkPair : Md → Md → Md
  | .own, .own => .own
  | .shr, .shr => .shr
  | .gone, .gone => .gone
  | a, b => .pair a b

def Md.mkIx (i : Int) : Md → Md
  | .own => .own
  | m => .ix i m

/-- The mode of a place that is written: as it was, and as it is put. -/
def getW : Ty → Md → Path → Md
  | _, m, [] => m
  | .pair a _, m, .fst :: p => getW a m.fst p
  | .pair _ b, m, .snd :: p => getW b m.snd p
  | .slice e, m, .ix _ :: p => match m with
    | .own => getW e .own p
    | .ix _ mj => getW e mj p
    | _ => .gone
  | .arr _ _, m, .ix _ :: _ => match m with
    | .gone => .gone
    | _ => .shr
  | _, _, _ :: _ => .gone

def setM : Ty → Md → Path → Md → Md
  | _, _, [], u => u
  | .pair a _, m, .fst :: p, u => Md.mkPair (setM a m.fst p u) m.snd
  | .pair _ b, m, .snd :: p, u => Md.mkPair m.fst (setM b m.snd p u)
  | .slice e, m, .ix i :: p, u => match m with
    | .own => Md.mkIx i (setM e .own p u)
    | .ix _ mj => Md.mkIx i (setM e mj p u)
    | m => m
  | .arr _ _, m, .ix _ :: _, _ => m
  | _, m, _ :: _, _ => m

def patch : Ty → Path → List Value → List Value → List Value
  | _, [], _, x => x
  | .pair a _, .fst :: p, cs, x => patch a p (cs.take a.size) x ++ cs.drop a.size
  | .pair a b, .snd :: p, cs, x => cs.take a.size ++ patch b p (cs.drop a.size) x
  | .arr _ e, .ix i :: p, cs, x => splice cs (i.toNat * e.size) (patch e p (chunk cs (i.toNat * e.size) e.size) x)
  | _, _ :: _, cs, _ => cs

theorem Md.mkPair_fst (a b : Md) : (Md.mkPair a b).fst = a := by cases a <;> cases b <;> rfl
theorem Md.mkPair_snd (a b : Md) : (Md.mkPair a b).snd = b := by cases a <;> cases b <;> rfl

theorem Rd_flat (w w2 : World) (S S2 : Nat → Prop) : ∀ (t : Ty) (m : Md) (F F2 : Nat → Prop) (cs : List Value) (d : t.den),
    t.flat = true → full t m = true → Rd w S t m F cs d → Rd w2 S2 t .shr F2 cs d
  | .unit, m, F, F2, cs, d, ht, hm, h => by simpa only [Rd] using h
  | .int k, m, F, F2, cs, d, ht, hm, h => by cases m <;> simp only [Rd, full] at h hm ⊢ <;> first | exact h | simp at hm
  | .bool, m, F, F2, cs, d, ht, hm, h => by cases m <;> simp only [Rd, full] at h hm ⊢ <;> first | exact h | simp at hm
  | .str, m, F, F2, cs, d, ht, hm, h => by cases m <;> simp only [Rd, full] at h hm ⊢ <;> first | exact h | simp at hm
  | .iface, m, F, F2, cs, d, ht, hm, h => by cases m <;> simp only [Rd, full] at h hm ⊢ <;> first | exact h | simp at hm
  | .slice e, m, F, F2, cs, d, ht, hm, h => by simp [Ty.flat] at ht
  | .arr n e, m, F, F2, cs, d, ht, hm, h => by
    simp only [Ty.flat] at ht
    cases m <;> simp only [Rd, full] at h hm ⊢ <;> first
      | exact ⟨h.1, h.2.1, h.2.2.1, fun i hi => Rd_flat w w2 S S2 e .shr _ _ _ _ ht (full_shr e) (h.2.2.2 i hi)⟩
      | simp at hm
  | .pair a b, m, F, F2, cs, d, ht, hm, h => by
    simp only [Ty.flat, full, Bool.and_eq_true] at ht hm
    simp only [Rd] at h ⊢
    obtain ⟨F1, F3, _, _, _, r1, r2⟩ := h
    exact ⟨fun _ => False, fun _ => False, fun _ hx => hx.elim, fun _ hx => hx.elim, fun _ hx => hx.elim,
      Rd_flat w w2 S S2 a _ F1 _ _ _ ht.1 hm.1 r1, Rd_flat w w2 S S2 b _ F3 _ _ _ ht.2 hm.2 r2⟩

theorem splice_length {cs x : List Value} {off : Nat} (h : off + x.length ≤ cs.length) : (splice cs off x).length = cs.length := by
  simp [splice]; omega

theorem chunk_splice_same {cs x : List Value} {off : Nat} (h : off + x.length ≤ cs.length) : chunk (splice cs off x) off x.length = x := by
  have h1 : (cs.take off).length = off := by simp; omega
  simp only [chunk, splice, List.append_assoc]
  rw [List.drop_append_of_le_length (by omega), List.drop_of_length_le (by omega), List.nil_append, List.take_append_of_le_length (by omega), List.take_of_length_le (by omega)]

theorem getElem?_splice {cs x : List Value} {off : Nat} (h : off + x.length ≤ cs.length) (i : Nat) :
    (splice cs off x)[i]? = if i < off then cs[i]? else if i < off + x.length then x[i - off]? else cs[i]? := by
  have h1 : (cs.take off).length = off := by simp; omega
  simp only [splice, List.append_assoc]
  by_cases a : i < off
  · rw [if_pos a, List.getElem?_append_left (by omega), List.getElem?_take, if_pos a]
  · rw [if_neg a, List.getElem?_append_right (by omega), h1]
    by_cases b : i < off + x.length
    · rw [if_pos b, List.getElem?_append_left (by omega)]
    · rw [if_neg b, List.getElem?_append_right (by omega), List.getElem?_drop]
      congr 1; omega

theorem chunk_splice_apart {cs x : List Value} {off o n : Nat} (h : off + x.length ≤ cs.length) (ha : o + n ≤ off ∨ off + x.length ≤ o) : chunk (splice cs off x) o n = chunk cs o n := by
  apply List.ext_getElem?
  intro i
  simp only [chunk, List.getElem?_take, List.getElem?_drop]
  split
  · rename_i hi
    rw [getElem?_splice h]
    split
    · rfl
    · split
      · omega
      · rfl
  · rfl

/-- A block is as it was; or it holds the new cells at this place. -/
def Keeps (w w2 : World) (l : Option (Nat × Nat)) (x : List Value) (b : Nat) : Prop :=
  match l with
  | some (b', off) =>
    if b = b' then ∃ c c2 el, w.heap[b]? = some (.cells c el (0, 0)) ∧ w2.heap[b]? = some (.cells c2 el (0, 0)) ∧ c2.toList = splice c.toList off x ∧ off + x.length ≤ c.toList.length
    else w2.heap[b]? = w.heap[b]?
  | none => w2.heap[b]? = w.heap[b]?

end Go.Eng
end

section
/- The engine's ground: writing at the end of a path. -/
namespace Go.Eng
open Go

/-- Does the path go through a slice? -/
def viaSl : Ty → Path → Bool
  | .pair a _, .fst :: p => viaSl a p
  | .pair _ b, .snd :: p => viaSl b p
  | .slice _, .ix _ :: _ => true
  | _, _ => false

theorem patch_via : ∀ (p : Path) (t : Ty) (cs x : List Value), viaSl t p = true → patch t p cs x = cs
  | [], t, cs, x, h => by cases t <;> simp [viaSl] at h
  | s :: p, t, cs, x, h => by
    cases t <;> cases s <;> simp only [viaSl] at h <;> try (simp at h; done)
    · simp only [patch]; rw [patch_via p _ _ _ h]; exact List.take_append_drop _ _
    · simp only [patch]; rw [patch_via p _ _ _ h]; exact List.take_append_drop _ _
    · rfl

theorem chunk_chunk (cs : List Value) (o n o' n' : Nat) (h : o' + n' ≤ n) : chunk (chunk cs o n) o' n' = chunk cs (o + o') n' := by
  apply List.ext_getElem?
  intro i
  simp only [chunk, List.getElem?_take, List.getElem?_drop]
  split
  · rename_i hi
    rw [if_pos (by omega), Nat.add_assoc]
  · rfl

theorem splice_zero_all {cs x : List Value} (h : x.length = cs.length) : splice cs 0 x = x := by
  simp [splice, h]

theorem splice_take {cs x : List Value} {δ n : Nat} (h1 : δ + x.length ≤ n) (h2 : n ≤ cs.length) : splice (cs.take n) δ x ++ cs.drop n = splice cs δ x := by
  apply List.ext_getElem?
  intro i
  have hl : (splice (cs.take n) δ x).length = n := by rw [splice_length (by simp; omega)]; simp; omega
  rw [getElem?_splice (by omega)]
  by_cases a : i < n
  · rw [List.getElem?_append_left (by omega), getElem?_splice (by simp; omega)]
    simp only [List.getElem?_take, if_pos a]
  · rw [List.getElem?_append_right (by omega), hl, List.getElem?_drop, if_neg (by omega), if_neg (by omega)]
    congr 1; omega

theorem splice_drop {cs x : List Value} {δ n : Nat} (h1 : n + δ + x.length ≤ cs.length) : cs.take n ++ splice (cs.drop n) δ x = splice cs (n + δ) x := by
  apply List.ext_getElem?
  intro i
  have hl : (cs.take n).length = n := by simp; omega
  rw [getElem?_splice (by omega)]
  by_cases a : i < n
  · rw [List.getElem?_append_left (by omega), List.getElem?_take, if_pos a, if_pos (by omega)]
  · rw [List.getElem?_append_right (by omega), hl, getElem?_splice (by simp; omega)]
    simp only [List.getElem?_drop]
    by_cases b : i < n + δ
    · rw [if_pos (by omega), if_pos b]; congr 1; omega
    · rw [if_neg (by omega), if_neg b]
      by_cases c : i < n + δ + x.length
      · rw [if_pos (by omega), if_pos c]; congr 1; omega
      · rw [if_neg (by omega), if_neg c]; congr 1; omega

theorem splice_inner {cs x : List Value} {o n δ : Nat} (h1 : δ + x.length ≤ n) (h2 : o + n ≤ cs.length) : splice cs o (splice (chunk cs o n) δ x) = splice cs (o + δ) x := by
  have hc : (chunk cs o n).length = n := chunk_length h2
  have hl : (splice (chunk cs o n) δ x).length = n := by rw [splice_length (by omega)]; exact hc
  apply List.ext_getElem?
  intro i
  rw [getElem?_splice (x := splice (chunk cs o n) δ x) (by omega), getElem?_splice (cs := cs) (off := o + δ) (by omega), hl]
  by_cases a : i < o
  · rw [if_pos a, if_pos (by omega)]
  · rw [if_neg a]
    by_cases b : i < o + n
    · rw [if_pos b, getElem?_splice (by omega)]
      simp only [chunk, List.getElem?_take, List.getElem?_drop]
      by_cases c : i < o + δ
      · rw [if_pos (by omega), if_pos c, if_pos (by omega)]; congr 1; omega
      · rw [if_neg (by omega), if_neg c]
        by_cases e : i < o + δ + x.length
        · rw [if_pos (by omega), if_pos e]; congr 1; omega
        · rw [if_neg (by omega), if_neg e, if_pos (by omega)]; congr 1; omega
    · rw [if_neg b, if_neg (by omega), if_neg (by omega)]

/-- A path through no slice: a stretch of the cells. -/
theorem walk_noix (w : World) : ∀ (p : Path) (t : Ty) (m : Md) (cs : List Value) (l : Option (Nat × Nat)) (t' : Ty) (cs' : List Value) (l' : Option (Nat × Nat)),
    cs.length = t.size → walk w t p cs l = some (t', cs', l') → viaSl t p = false → okP t m p = true →
    ∃ δ, l' = l.map (fun x => (x.1, x.2 + δ)) ∧ δ + t'.size ≤ t.size ∧ cs' = chunk cs δ t'.size ∧ ∀ x, x.length = t'.size → patch t p cs x = splice cs δ x
  | [], t, m, cs, l, t', cs', l', hc, h, hv, ho => by
    simp only [walk, Option.some.injEq, Prod.mk.injEq] at h
    obtain ⟨rfl, rfl, rfl⟩ := h
    refine ⟨0, by cases l <;> simp, by omega, ?_, fun x hx => ?_⟩
    · simp [chunk, ← hc]
    · have : patch t [] cs x = x := by cases t <;> rfl
      rw [this, splice_zero_all (by omega)]
  | s :: p, t, m, cs, l, t', cs', l', hc, h, hv, ho => by
    cases t <;> cases s <;> simp only [walk, viaSl] at h hv <;> try (simp at h; done)
    case pair.fst a b =>
      simp only [Ty.size] at hc
      obtain ⟨δ, e1, e2, e3, e4⟩ := walk_noix w p _ m.fst _ _ _ _ _ (by simp; omega) h hv (by simpa only [okP] using ho)
      refine ⟨δ, e1, by simp only [Ty.size]; omega, ?_, fun x hx => ?_⟩
      · rw [e3]
        have := chunk_chunk cs 0 a.size δ t'.size e2
        simpa [chunk] using this
      · simp only [patch]
        rw [e4 x hx, splice_take (by omega) (by omega)]
    case pair.snd a b =>
      simp only [Ty.size] at hc
      obtain ⟨δ, e1, e2, e3, e4⟩ := walk_noix w p _ m.snd _ _ _ _ _ (by simp; omega) h hv (by simpa only [okP] using ho)
      refine ⟨a.size + δ, ?_, by simp only [Ty.size]; omega, ?_, fun x hx => ?_⟩
      · rw [e1]; cases l <;> simp; omega
      · rw [e3]; simp [chunk, List.drop_drop]
      · simp only [patch]
        rw [e4 x hx, splice_drop (by omega)]
    case slice.ix => simp at hv
    case arr.ix n e i =>
      simp only [Ty.size] at hc
      split at h
      · rename_i hi
        have hb : i.toNat * e.size + e.size ≤ n * e.size := by
          have : (i.toNat + 1) * e.size ≤ n * e.size := Nat.mul_le_mul_right _ (by omega)
          rwa [Nat.add_mul, Nat.one_mul] at this
        have hp : p = [] := by
          cases m <;> cases p <;> simp [okP] at ho <;> rfl
        subst hp
        simp only [walk, Option.some.injEq, Prod.mk.injEq] at h
        obtain ⟨rfl, rfl, rfl⟩ := h
        refine ⟨i.toNat * e.size, rfl, by simp only [Ty.size]; omega, rfl, fun x hx => ?_⟩
        have : patch e [] (chunk cs (i.toNat * e.size) e.size) x = x := by cases e <;> rfl
        simp only [patch, this]
      · simp at h

end Go.Eng
end
