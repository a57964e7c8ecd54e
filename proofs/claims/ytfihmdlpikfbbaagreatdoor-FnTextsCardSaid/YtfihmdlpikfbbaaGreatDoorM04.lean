/- Part 4 of 20 of a claim; what is proved, and under which conditions, stands in the last part. Here: EngK, EngL, EngM, EngN, EngO, EngP. -/
import Derived.Test.YtfihmdlpikfbbaaGreatDoorM03
import Derived.Laws.Cells
import Derived.Laws.CopyRow
set_option linter.unusedVariables false
set_option linter.unusedSimpArgs false
set_option linter.unusedSectionVars false
section
/- The engine: handing a value over. -/
namespace Go.Eng
open Go

theorem Rd_gone (w : World) (S : Nat → Prop) : ∀ (t : Ty) (m : Md) (F F' : Nat → Prop) (cs : List Value) (d : t.den), Rd w S t m F cs d → Rd w S t .gone F' cs d
  | .unit, m, F, F', cs, d, h => by simpa only [Rd] using h
  | .int k, m, F, F', cs, d, h => by
    have h1 := Rd_len _ _ _ _ _ _ _ h; have h2 := Rd_plain _ _ _ _ _ _ _ h
    simp only [Rd]; exact ⟨h1, h2⟩
  | .bool, m, F, F', cs, d, h => by
    have h1 := Rd_len _ _ _ _ _ _ _ h; have h2 := Rd_plain _ _ _ _ _ _ _ h
    simp only [Rd]; exact ⟨h1, h2⟩
  | .str, m, F, F', cs, d, h => by
    have h1 := Rd_len _ _ _ _ _ _ _ h; have h2 := Rd_plain _ _ _ _ _ _ _ h
    simp only [Rd]; exact ⟨h1, h2⟩
  | .iface, m, F, F', cs, d, h => by
    have h1 := Rd_len _ _ _ _ _ _ _ h; have h2 := Rd_plain _ _ _ _ _ _ _ h
    simp only [Rd]; exact ⟨h1, h2⟩
  | .arr n e, m, F, F', cs, d, h => by
    have h1 := Rd_len _ _ _ _ _ _ _ h; have h2 := Rd_plain _ _ _ _ _ _ _ h
    simp only [Rd]; exact ⟨h1, h2⟩
  | .slice e, m, F, F', cs, d, h => by
    have h1 := Rd_len _ _ _ _ _ _ _ h; have h2 := Rd_plain _ _ _ _ _ _ _ h
    simp only [Rd]; exact ⟨h1, h2⟩
  | .pair a b, m, F, F', cs, d, h => by
    simp only [Rd, Md.fst, Md.snd] at h ⊢
    obtain ⟨F1, F2, h1, h2, h3, r1, r2⟩ := h
    exact ⟨none', none', fun _ hx => hx.elim, fun _ hx => hx.elim, fun _ hx => hx.elim, Rd_gone w S a _ _ _ _ _ r1, Rd_gone w S b _ _ _ _ _ r2⟩

/-- A list of plain cells of the right length is something that was moved away. -/
theorem gone_mk (w : World) (S : Nat → Prop) : ∀ (t : Ty) (F : Nat → Prop) (cs : List Value) (d : t.den), cs.length = t.size → (∀ v ∈ cs, plain v = true) → Rd w S t .gone F cs d
  | .unit, F, cs, d, h, hp => by simp only [Rd]; exact List.length_eq_zero_iff.1 h
  | .int k, F, cs, d, h, hp => by simp only [Rd]; exact ⟨h, hp⟩
  | .bool, F, cs, d, h, hp => by simp only [Rd]; exact ⟨h, hp⟩
  | .str, F, cs, d, h, hp => by simp only [Rd]; exact ⟨h, hp⟩
  | .iface, F, cs, d, h, hp => by simp only [Rd]; exact ⟨h, hp⟩
  | .arr n e, F, cs, d, h, hp => by simp only [Rd]; exact ⟨h, hp⟩
  | .slice e, F, cs, d, h, hp => by simp only [Rd]; exact ⟨h, hp⟩
  | .pair a b, F, cs, d, h, hp => by
    simp only [Ty.size] at h
    simp only [Rd, Md.fst, Md.snd]
    exact ⟨none', none', fun _ hx => hx.elim, fun _ hx => hx.elim, fun _ hx => hx.elim,
      gone_mk w S a _ _ _ (by simp; omega) (fun v hv => hp v (List.mem_of_mem_take hv)), gone_mk w S b _ _ _ (by simp; omega) (fun v hv => hp v (List.mem_of_mem_drop hv))⟩

theorem okP_own : ∀ (p : Path) (t : Ty) (m : Md), okP t m p = true → okR t .own p = true
  | [], t, m, h => okR_nil t _
  | s :: p, t, m, h => by
    cases t <;> cases s <;> simp only [okP] at h <;> try (simp at h; done)
    · simp only [okR, Md.fst]; exact okP_own p _ _ h
    · simp only [okR, Md.snd]; exact okP_own p _ _ h
    · cases m <;> simp only [] at h <;> (try (simp at h; done)) <;> simp only [okR]
      · exact okP_own p _ _ h
      · simp only [Bool.and_eq_true] at h; exact okP_own p _ _ h.2
    · cases m <;> cases p <;> simp at h <;> exact okR_nil _ _

theorem okP_okR : ∀ (p : Path) (t : Ty) (m : Md), okP t m p = true → okR t m p = true
  | [], t, m, h => okR_nil t m
  | s :: p, t, m, h => by
    cases t <;> cases s <;> simp only [okP] at h <;> try (simp at h; done)
    · simp only [okR]; exact okP_okR p _ _ h
    · simp only [okR]; exact okP_okR p _ _ h
    · cases m <;> simp only [] at h <;> (try (simp at h; done)) <;> simp only [okR]
      · exact okP_okR p _ _ h
      · simp only [Bool.and_eq_true] at h ⊢; exact ⟨okP_okR p _ _ h.2, okP_own p _ _ h.2⟩
    · cases m <;> cases p <;> simp at h <;> simp only [okR] <;> exact okR_nil _ _

theorem locOf_ne {E : En} {n : Nat} {g : Gh} {st : St} {a : Act} {w : World} (h : Rel E n g st a w) {b : Nat} {x : Bx} (hx : look st.bx b = some x) : ∀ b' o, locOf g b x = some (b', o) → ¬ g.F b b' := by
  intro b' o hl
  unfold locOf at hl
  split at hl
  · rename_i hr
    simp only [Option.some.injEq] at hl
    have := h.dL b b x x hx hx hr
    rw [hl] at this
    exact this
  · simp at hl

theorem Loc_chunk {w : World} {k o : Nat} {cs : List Value} (h : Loc w (k, o) cs) {δ n : Nat} (hn : δ + n ≤ cs.length) : Loc w (k, o + δ) (chunk cs δ n) := by
  obtain ⟨c, el, h1, h2, h3⟩ := h
  have hl : (chunk cs δ n).length = n := chunk_length hn
  refine ⟨c, el, h1, by rw [hl]; simp only at h2 ⊢; omega, ?_⟩
  rw [hl]
  rw [← chunk_chunk c.toList o cs.length δ n hn]
  exact congrArg (fun z => chunk z δ n) h3

/-- Where the walk leads in memory, there the cells lie. -/
theorem walk_Loc (w : World) (S : Nat → Prop) : ∀ (p : Path) (t : Ty) (m : Md) (F : Nat → Prop) (cs : List Value) (d : t.den) (l : Option (Nat × Nat)) (t' : Ty) (cs' : List Value) (l' : Option (Nat × Nat)),
    Rd w S t m F cs d → walk w t p cs l = some (t', cs', l') → okR t m p = true → (∀ q, l = some q → Loc w q cs) → ∀ q, l' = some q → Loc w q cs'
  | [], t, m, F, cs, d, l, t', cs', l', h, hw, ho, hl => by
    simp only [walk, Option.some.injEq, Prod.mk.injEq] at hw
    obtain ⟨rfl, rfl, rfl⟩ := hw
    exact hl
  | s :: p, t, m, F, cs, d, l, t', cs', l', h, hw, ho, hl => by
    cases t with
    | pair a b =>
      have hlen := Rd_len _ _ _ _ _ _ _ h
      simp only [Ty.size] at hlen
      simp only [Rd] at h
      obtain ⟨F1, F2, h1, h2, h3, r1, r2⟩ := h
      cases s with
      | fst =>
        simp only [walk, okR] at hw ho
        refine walk_Loc w S p a _ _ _ _ _ _ _ _ r1 hw ho ?_
        rintro ⟨k, o⟩ hq
        have := Loc_chunk (hl _ hq) (δ := 0) (n := a.size) (by omega)
        simpa [chunk] using this
      | snd =>
        simp only [walk, okR] at hw ho
        refine walk_Loc w S p b _ _ _ _ _ _ _ _ r2 hw ho ?_
        rintro ⟨k, o⟩ hq
        cases l with
        | none => simp at hq
        | some q =>
          simp only [Option.map_some, Option.some.injEq, Prod.mk.injEq] at hq
          have := Loc_chunk (hl q rfl) (δ := a.size) (n := b.size) (by omega)
          rw [← hq.1, ← hq.2]
          have e : chunk cs a.size b.size = cs.drop a.size := by
            simp only [chunk]; rw [List.take_of_length_le (by simp; omega)]
          rw [e] at this
          exact this
      | ix i => simp [walk] at hw
    | slice e =>
      cases s with
      | fst => simp [walk] at hw
      | snd => simp [walk] at hw
      | ix i =>
        have key : (∃ base len cap, cs = [.slice base len cap] ∧ d.length = len ∧ len ≤ cap ∧ (cap = 0 ∨ ∃ b off c el, base = some ⟨b, off, none⟩ ∧ F b ∧
            w.heap[b]? = some (.cells c el (0, 0)) ∧ off + cap * e.size ≤ c.size ∧ ∃ Fi : Nat → Nat → Prop, (∀ i x, Fi i x → F x ∧ x ≠ b) ∧
            (∀ i j x, i ≠ j → Fi i x → ¬ Fi j x) ∧ ∀ i (h : i < d.length), Rd w S e (m.elem i) (Fi i) (chunk c.toList (off + i * e.size) e.size) d[i])) → okR e (m.elem i.toNat) p = true →
            ∀ q, l' = some q → Loc w q cs' := by
          rintro ⟨base, len, cap, rfl, hl1, hc, h4⟩ ho'
          simp only [walk] at hw
          rcases h4 with h4 | ⟨b, off, c, el, rfl, hFb, hh, hoc, Fi, hFi, hd, hr⟩
          · split at hw
            · rename_i heq
              simp at heq
              split at hw
              · omega
              · simp at hw
            · simp at hw
          · simp only at hw
            split at hw
            · rename_i hi
              have hi' : i.toNat < d.length := by omega
              rw [cellsAt_eq hh] at hw
              have hck : off + i.toNat * e.size + e.size ≤ c.toList.length := by
                have := chunk_in (sz := e.size) (show i.toNat < cap by omega)
                simp; omega
              refine walk_Loc w S p e _ _ _ _ _ _ _ _ (hr i.toNat hi') hw ho' ?_
              rintro ⟨k, o⟩ hq
              simp only [Option.some.injEq, Prod.mk.injEq] at hq
              obtain ⟨rfl, rfl⟩ := hq
              have hl : (chunk c.toList (off + i.toNat * e.size) e.size).length = e.size := chunk_length hck
              exact ⟨c, el, hh, by rw [hl]; exact hck, by rw [hl]⟩
            · simp at hw
        cases m with
        | gone => simp [okR] at ho
        | pair _ _ => simp [okR] at ho
        | shr => simp [okR] at ho
        | own => simp only [Rd] at h; simp only [okR] at ho; exact key h ho
        | top => simp only [Rd] at h; simp only [okR] at ho; exact key h ho
        | ix j mj =>
          simp only [Rd] at h
          simp only [okR, Bool.and_eq_true] at ho
          exact key h (by simp only [Md.elem]; split <;> simp [ho])
    | arr n e =>
      cases s with
      | fst => simp [walk] at hw
      | snd => simp [walk] at hw
      | ix i =>
        have key : (d.length = n ∧ cs.length = n * e.size ∧ e.flat = true ∧ ∀ i (h : i < d.length), Rd w S e .shr (fun _ => False) (chunk cs (i * e.size) e.size) d[i]) → okR e .shr p = true →
            ∀ q, l' = some q → Loc w q cs' := by
          rintro ⟨hd, hc, hf, hr⟩ ho'
          simp only [walk] at hw
          split at hw
          · rename_i hi
            have hb := chunk_in (sz := e.size) (show i.toNat < n by omega)
            refine walk_Loc w S p e _ _ _ _ _ _ _ _ (hr i.toNat (by omega)) hw ho' ?_
            rintro ⟨k, o⟩ hq
            cases l with
            | none => simp at hq
            | some q =>
              simp only [Option.map_some, Option.some.injEq, Prod.mk.injEq] at hq
              rw [← hq.1, ← hq.2]
              exact Loc_chunk (hl q rfl) (by omega)
          · simp at hw
        cases m <;> simp only [Rd, okR] at h ho <;> first
          | (simp at ho; done)
          | exact key h ho
    | unit => simp [walk] at hw
    | int k => simp [walk] at hw
    | bool => simp [walk] at hw
    | str => simp [walk] at hw
    | iface => simp [walk] at hw

theorem Rel.loc {E : En} {n : Nat} {g : Gh} {st : St} {a : Act} {w : World} (h : Rel E n g st a w) {b : Nat} {x : Bx} (hx : look st.bx b = some x) {p : Path} {t : Ty} {cs : List Value} {l : Option (Nat × Nat)}
    (hw : walk w x.t p (g.cs b) (locOf g b x) = some (t, cs, l)) (ho : okR x.t x.m p = true) : ∀ q, l = some q → Loc w q cs := by
  refine walk_Loc w g.S p x.t x.m _ _ _ _ _ _ _ (h.rd b x hx) hw ho ?_
  intro q hq
  unfold locOf at hq
  split at hq
  · rename_i hr
    simp only [Option.some.injEq] at hq
    subst hq
    exact h.lc b x hx hr
  · simp at hq

theorem Loc.keeps {w : World} {b o : Nat} {cs : List Value} (h : Loc w (b, o) cs) : Keeps w w (some (b, o)) cs b := by
  obtain ⟨c, el, h1, h2, h3⟩ := h
  simp only [Keeps, if_true]
  refine ⟨c, c, el, h1, h1, ?_, h2⟩
  have := splice_chunk (cs := c.toList) (o := o) (n := cs.length) h2
  simp only at h3
  rw [h3] at this
  exact this.symm

/-- A place is emptied: what was there is held. -/
theorem Rel.take {E : En} {n : Nat} {g : Gh} {st : St} {a : Act} {w : World} (h : Rel E n g st a w) {b : Nat} {x : Bx} (hx : look st.bx b = some x) {p : Path} {t : Ty} {cs : List Value} {l : Option (Nat × Nat)}
    (hw : walk w x.t p (g.cs b) (locOf g b x) = some (t, cs, l)) (ho : okP x.t x.m p = true) (hnf : t.flat = false) :
    ∃ (d : t.den) (F : Nat → Prop), getD x.t p x.d = some ⟨t, d⟩ ∧ Rd w g.S t (getW x.t x.m p) F cs d ∧ (∀ y, F y → g.F b y) ∧
      Rel E n { g with F := fun b' y => g.F b' y ∧ (b' = b → ¬ F y) } (st.setB b ⟨x.t, setM x.t x.m p .gone, x.d, x.r⟩) a w ∧
      (∀ b' o, l = some (b', o) → ¬ F b' ∧ ((viaSl x.t p = true ∧ g.F b b') ∨ (viaSl x.t p = false ∧ ∃ o2, locOf g b x = some (b', o2)))) := by
  have hrd := h.rd b x hx
  obtain ⟨d, F, hF, hg, hr, hinfo, hrest⟩ := write_walk w g.S p x.t x.m (g.F b) (g.cs b) x.d (locOf g b x) t cs l hrd hw ho (locOf_ne h hx)
  obtain ⟨⟨dn, hdn, hrn⟩, _⟩ := hrest w g.S none' .gone cs d (fun y hy => ⟨hy, rfl⟩) (fun hf => by rw [hnf] at hf; simp at hf) (Rd_gone w g.S t _ _ _ _ _ hr) (fun _ hx => hx.elim)
    (fun y hy hn => by
      cases hl : l with
      | none => simp only [Keeps]
      | some q =>
        obtain ⟨b', o⟩ := q
        by_cases hbb : y = b'
        · subst hbb
          exact Loc.keeps (h.loc hx hw (okP_okR _ _ _ ho) _ hl)
        · simp only [Keeps, if_neg hbb])
  have hdd : dn = x.d := by
    have := setD_getD p x.t x.d _ hg
    rw [this] at hdn
    exact (Option.some.inj hdn).symm
  subst hdd
  rw [patch_same w p x.t (g.cs b) _ _ _ _ (Rd_len _ _ _ _ _ _ _ hrd) hw] at hrn
  refine ⟨d, F, hg, hr, hF, ?_, hinfo⟩
  have hlk : ∀ b' x', look (St.setB st b ⟨x.t, setM x.t x.m p .gone, x.d, x.r⟩).bx b' = some x' → (b' = b ∧ x' = ⟨x.t, setM x.t x.m p .gone, x.d, x.r⟩) ∨ (b' ≠ b ∧ look st.bx b' = some x') := by
    intro b' x' hx'
    simp only [St.setB, look_putL] at hx'
    by_cases hb : b = b'
    · subst hb; simp only [if_true, Option.some.injEq] at hx'; exact .inl ⟨rfl, hx'.symm⟩
    · rw [if_neg hb] at hx'; exact .inr ⟨Ne.symm hb, hx'⟩
  have hold : ∀ b' x', look (St.setB st b ⟨x.t, setM x.t x.m p .gone, x.d, x.r⟩).bx b' = some x' → ∃ x0, look st.bx b' = some x0 ∧ x0.r = x'.r ∧ x0.t = x'.t := by
    intro b' x' hx'
    rcases hlk b' x' hx' with ⟨rfl, rfl⟩ | ⟨_, hx'⟩
    · exact ⟨x, hx, rfl, rfl⟩
    · exact ⟨x', hx', rfl, rfl⟩
  exact {
    srtT := h.srtT
    srtB := srt_putL h.srtB
    tm := fun k v hv => by
      refine AVR_step (g := g) (g' := { g with F := fun b' y => g.F b' y ∧ (b' = b → ¬ F y) }) (bx := st.bx) (bx' := (St.setB st b ⟨x.t, setM x.t x.m p .gone, x.d, x.r⟩).bx) (fun _ _ _ => true) (fun y hy => ⟨hy, rfl⟩) ?_ v _ (AV.all_true v) (h.tm k v hv)
      intro b' P q _ x' hx' ho'
      rcases hlk b' x' hx' with ⟨rfl, rfl⟩ | ⟨_, hx'⟩
      · exact ⟨x, hx, okR_gone p _ _ P ho ho', fun t' cs' l' hw => ⟨cs', hw, fun _ => rfl⟩⟩
      · exact ⟨x', hx', ho', fun t' cs' l' hw => ⟨cs', hw, fun _ => rfl⟩⟩
    rd := fun b' x' hx' => by
      rcases hlk b' x' hx' with ⟨rfl, rfl⟩ | ⟨hne, hx'⟩
      · exact Rd_monoF _ _ _ _ _ _ _ _ (fun y hy => by rcases hy with hy | hy; exact ⟨hy.1, fun _ => hy.2⟩; exact hy.elim) hrn
      · exact Rd_monoF _ _ _ _ _ _ _ _ (fun y hy => ⟨hy, fun hb => absurd hb hne⟩) (h.rd b' x' hx')
    lc := fun b' x' hx' hr' => by obtain ⟨x0, h1, h2, _⟩ := hold b' x' hx'; exact h.lc b' x0 h1 (h2.trans hr')
    dF := fun b1 b2 x1 x2 y h1 h2 hne hy1 hy2 => by
      obtain ⟨z1, k1, _⟩ := hold b1 x1 h1; obtain ⟨z2, k2, _⟩ := hold b2 x2 h2
      exact h.dF b1 b2 z1 z2 y k1 k2 hne hy1.1 hy2.1
    dL := fun b1 b2 x1 x2 h1 h2 hr1 hy => by
      obtain ⟨z1, k1, k1', _⟩ := hold b1 x1 h1; obtain ⟨z2, k2, _⟩ := hold b2 x2 h2
      exact h.dL b1 b2 z1 z2 k1 k2 (k1'.trans hr1) hy.1
    dLL := fun b1 b2 x1 x2 h1 h2 hr1 hr2 hne => by
      obtain ⟨z1, k1, k1', _⟩ := hold b1 x1 h1; obtain ⟨z2, k2, k2', _⟩ := hold b2 x2 h2
      exact h.dLL b1 b2 z1 z2 k1 k2 (k1'.trans hr1) (k2'.trans hr2) hne
    dS := fun b' x' y hx' hy => by obtain ⟨x0, h1, _⟩ := hold b' x' hx'; exact h.dS b' x0 y h1 hy.1
    dLS := fun b' x' hx' hr' => by obtain ⟨x0, h1, h2, _⟩ := hold b' x' hx'; exact h.dLS b' x0 h1 (h2.trans hr')
    bS := h.bS
    bF := fun b' x' y hx' hy => by obtain ⟨x0, h1, _⟩ := hold b' x' hx'; exact h.bF b' x0 y h1 hy.1
    fr := h.fr
    oS := h.oS
    nS := h.nS
    nF := fun b' x' y hx' hy => by obtain ⟨x0, h1, _⟩ := hold b' x' hx'; exact h.nF b' x0 y h1 hy.1
    nL := fun b' x' hx' hr' => by
      obtain ⟨x0, h1, h2, h3⟩ := hold b' x' hx'
      have := h.nL b' x0 h1 (h2.trans hr')
      rw [h3] at this
      exact this
    df := h.df
    sz := h.sz
    ok := h.ok
    gl := h.gl
    tp := fun b' q x' hq hx' => by
      obtain ⟨x0, h1, h2, h3⟩ := hold b' x' hx'
      have := h.tp b' q x0 hq h1
      rw [h2, h3] at this
      exact this }

end Go.Eng
end

section
/- The engine: a place is written. -/
namespace Go.Eng
open Go

theorem chunk_splice_in {c x : List Value} {o δ n : Nat} (h1 : δ + x.length ≤ n) (h2 : o + n ≤ c.length) : chunk (splice c (o + δ) x) o n = splice (chunk c o n) δ x := by
  apply List.ext_getElem?
  intro q
  rw [getElem?_splice (by rw [chunk_length h2]; omega)]
  simp only [chunk, List.getElem?_take, List.getElem?_drop]
  by_cases hq : q < n
  · rw [if_pos hq, getElem?_splice (by omega)]
    by_cases q1 : q < δ
    · rw [if_pos (by omega), if_pos q1, if_pos hq]
    · rw [if_neg (by omega), if_neg q1]
      by_cases q2 : q < δ + x.length
      · rw [if_pos (by omega), if_pos q2]; congr 1; omega
      · rw [if_neg (by omega), if_neg q2, if_pos hq]
  · rw [if_neg hq, if_neg (by omega), if_neg (by omega), if_neg hq]

theorem locOf_some {g : Gh} {b : Nat} {x : Bx} {q : Nat × Nat} (h : locOf g b x = some q) : x.r = true ∧ g.loc b = q := by
  unfold locOf at h
  split at h
  · rename_i hr; exact ⟨hr, Option.some.inj h⟩
  · simp at h

def wrG (g : Gh) (b : Nat) (x : Bx) (p : Path) (cs2 : List Value) (F' F2 : Nat → Prop) : Gh :=
  { g with F := fun b' y => (g.F b' y ∧ (b' = b → ¬ F' y)) ∨ (b' = b ∧ F2 y), cs := fun b' => if b' = b then patch x.t p (g.cs b) cs2 else g.cs b' }

/-- A place is written: the new cells read as they do, and what they own is ours now. -/
theorem Rel.write {E : En} {n : Nat} {g : Gh} {st : St} {a : Act} {w : World} (h : Rel E n g st a w) {b : Nat} {x : Bx} (hx : look st.bx b = some x) {p : Path} {t : Ty} {cs : List Value} {blk off : Nat}
    (hw : walk w x.t p (g.cs b) (locOf g b x) = some (t, cs, some (blk, off))) (ho : okP x.t x.m p = true) {m2 : Md} {F2 : Nat → Prop} {cs2 : List Value} {d2 : t.den}
    (hr2 : Rd w g.S t m2 F2 cs2 d2) (hfl : t.flat = true → full t m2 = true) (hH : Held E g st w F2) :
    ∃ dn F', setD x.t p x.d ⟨t, d2⟩ = some dn ∧ (∀ y, F' y → g.F b y) ∧ Rel E n (wrG g b x p cs2 F' F2)
      ⟨fltL (fun _ v => v.all (keepOuts (putL st.bx b ⟨x.t, setM x.t x.m p m2, dn, x.r⟩) [(b, p)])) st.tm, putL st.bx b ⟨x.t, setM x.t x.m p m2, dn, x.r⟩⟩ a (spl w blk off cs2) := by
  have hrd := h.rd b x hx
  have hL := h.loc hx hw (okP_okR _ _ _ ho) _ rfl
  obtain ⟨d, F', hF', hg, hr, hinfo, hrest⟩ := write_walk w g.S p x.t x.m (g.F b) (g.cs b) x.d (locOf g b x) t cs _ hrd hw ho (locOf_ne h hx)
  obtain ⟨hbF', hblk⟩ := hinfo blk off rfl
  have hl2 := Rd_len _ _ _ _ _ _ _ hr2
  have hl1 := Rd_len _ _ _ _ _ _ _ hr
  obtain ⟨c, el, hc1, hc2, hc3⟩ := hL
  simp only at hc1 hc2 hc3
  have nS : ¬ g.S blk := by
    rcases hblk with ⟨_, hb⟩ | ⟨_, o2, hb⟩
    · exact h.dS b x _ hx hb
    · obtain ⟨k1, k2⟩ := locOf_some hb
      have := h.dLS b x hx k1
      rw [k2] at this; exact this
  have nF2 : ¬ F2 blk := by
    rcases hblk with ⟨_, hb⟩ | ⟨_, o2, hb⟩
    · exact hH.dF b x _ hx hb
    · obtain ⟨k1, k2⟩ := locOf_some hb
      have := hH.dL b x hx k1
      rw [k2] at this; exact this
  have nFo : ∀ b' x', look st.bx b' = some x' → b' ≠ b → ¬ g.F b' blk := by
    intro b' x' hx' hne
    rcases hblk with ⟨_, hb⟩ | ⟨_, o2, hb⟩
    · exact h.dF b b' x x' _ hx hx' (Ne.symm hne) hb
    · obtain ⟨k1, k2⟩ := locOf_some hb
      have := h.dL b b' x x' hx hx' k1
      rw [k2] at this; exact this
  have nLo : ∀ b' x', look st.bx b' = some x' → b' ≠ b → x'.r = true → (g.loc b').1 ≠ blk := by
    intro b' x' hx' hne hr'
    rcases hblk with ⟨_, hb⟩ | ⟨_, o2, hb⟩
    · intro he; exact h.dL b' b x' x hx' hx hr' (he ▸ hb)
    · obtain ⟨k1, k2⟩ := locOf_some hb
      have := h.dLL b' b x' x hx' hx hr' k1 hne
      rw [k2] at this; exact this
  have hS : ∀ y, g.S y → g.S y ∧ (spl w blk off cs2).heap[y]? = w.heap[y]? := fun y hy => ⟨hy, spl_ne (fun he => nS (he ▸ hy))⟩
  obtain ⟨⟨dn, hdn, hrn⟩, hkeep⟩ := hrest (spl w blk off cs2) g.S F2 m2 cs2 d2 hS hfl (Rd_frame w _ g.S g.S hS t m2 F2 cs2 d2 (fun y hy => spl_ne (fun he => nF2 (he ▸ hy))) hr2)
    (fun y hy hc => hH.dF b x y hx hc.1 hy)
    (fun y hy hn => by
      simp only [Keeps]
      by_cases hyb : y = blk
      · subst hyb
        rw [if_pos rfl]
        exact ⟨c, _, el, hc1, spl_eq hc1, rfl, by omega⟩
      · rw [if_neg hyb]; exact spl_ne hyb)
  refine ⟨dn, F', hdn, hF', ?_⟩
  have hlk : ∀ b' x', look (putL st.bx b ⟨x.t, setM x.t x.m p m2, dn, x.r⟩) b' = some x' → (b' = b ∧ x' = ⟨x.t, setM x.t x.m p m2, dn, x.r⟩) ∨ (b' ≠ b ∧ look st.bx b' = some x') := by
    intro b' x' hx'
    rw [look_putL] at hx'
    by_cases hb : b = b'
    · subst hb; simp only [if_true, Option.some.injEq] at hx'; exact .inl ⟨rfl, hx'.symm⟩
    · rw [if_neg hb] at hx'; exact .inr ⟨Ne.symm hb, hx'⟩
  have hold : ∀ b' x', look (putL st.bx b ⟨x.t, setM x.t x.m p m2, dn, x.r⟩) b' = some x' → ∃ x0, look st.bx b' = some x0 ∧ x0.r = x'.r ∧ x0.t = x'.t := by
    intro b' x' hx'
    rcases hlk b' x' hx' with ⟨rfl, rfl⟩ | ⟨_, hx'⟩
    · exact ⟨x, hx, rfl, rfl⟩
    · exact ⟨x', hx', rfl, rfl⟩
  have hFw : ∀ b' y, (wrG g b x p cs2 F' F2).F b' y → g.F b' y ∨ (b' = b ∧ F2 y) := fun b' y hy => hy.imp (·.1) id
  have hcsne : ∀ b', b' ≠ b → (wrG g b x p cs2 F' F2).cs b' = g.cs b' := fun b' hne => by simp only [wrG, if_neg hne]
  have hcseq : (wrG g b x p cs2 F' F2).cs b = patch x.t p (g.cs b) cs2 := by simp only [wrG, if_true]
  have hlocOf : ∀ b' x', x'.r = x'.r → locOf (wrG g b x p cs2 F' F2) b' x' = locOf g b' x' := fun _ _ _ => rfl
  exact {
    srtT := srt_fltL h.srtT
    srtB := srt_putL h.srtB
    tm := fun k v hv => by
      obtain ⟨hv, hall⟩ := look_fltL h.srtT hv
      refine AVR_step (g := g) (g' := wrG g b x p cs2 F' F2) (bx := st.bx) (bx' := putL st.bx b ⟨x.t, setM x.t x.m p m2, dn, x.r⟩) _ (fun y hy => hS y hy) ?_ v _ hall (h.tm k v hv)
      intro b' P q hf x' hx' ho'
      rcases hlk b' x' hx' with ⟨rfl, rfl⟩ | ⟨hne, hx0⟩
      · simp only [keepOuts, hx', List.all_cons, List.all_nil, Bool.and_true, beq_dec, decide_true, Bool.not_true, Bool.false_or, Bool.and_eq_true, Bool.or_eq_true] at hf
        obtain ⟨hf1, hf2, hf3⟩ := hf
        refine ⟨x, hx, okR_ind p _ _ m2 P ho ho' hf2, fun t' cs' l' hw' => ?_⟩
        obtain ⟨cs'', k1, k2⟩ := hkeep P t' cs' l' hw' (okR_ind p _ _ m2 P ho ho' hf2) hf2
        rw [hcseq]
        refine ⟨cs'', k1, fun hq => k2 ?_⟩
        rcases hf3 with hf3 | hf3
        · rw [hq] at hf3; simp at hf3
        · exact hf3
      · refine ⟨x', hx0, ho', fun t' cs' l' hw' => ⟨cs', ?_, fun _ => rfl⟩⟩
        rw [hcsne b' hne, hlocOf b' x' rfl, walk_frame w _ g.S P x'.t x'.m _ _ _ _ (h.rd b' x' hx0) ho' (fun y hy => spl_ne (fun he => nFo b' x' hx0 hne (by rw [← he]; exact hy)))]
        exact hw'
    rd := fun b' x' hx' => by
      rcases hlk b' x' hx' with ⟨rfl, rfl⟩ | ⟨hne, hx0⟩
      · rw [hcseq]
        exact Rd_monoF _ _ _ _ _ _ _ _ (fun y hy => by rcases hy with hy | hy; exact .inl ⟨hy.1, fun _ => hy.2⟩; exact .inr ⟨rfl, hy⟩) hrn
      · rw [hcsne b' hne]
        exact Rd_monoF _ _ _ _ _ _ _ _ (fun y hy => .inl ⟨hy, fun hb => absurd hb hne⟩) (Rd_frame w _ g.S g.S hS _ _ _ _ _ (fun y hy => spl_ne (fun he => nFo b' x' hx0 hne (by rw [← he]; exact hy))) (h.rd b' x' hx0))
    lc := fun b' x' hx' hr' => by
      rcases hlk b' x' hx' with ⟨rfl, rfl⟩ | ⟨hne, hx0⟩
      · rw [hcseq]
        obtain ⟨c', el', k1, k2, k3⟩ := h.lc b' x hx hr'
        by_cases hv : viaSl x.t p = true
        · rw [patch_via _ _ _ _ hv]
          have hne : (g.loc b').1 ≠ blk := by
            intro he
            rcases hblk with ⟨_, hb⟩ | ⟨hb, _⟩
            · exact h.dL b' b' x x hx hx hr' (he ▸ hb)
            · rw [hv] at hb; simp at hb
          exact ⟨c', el', (spl_ne hne).trans k1, k2, k3⟩
        · have hv' : viaSl x.t p = false := by simpa using hv
          have hlen := Rd_len _ _ _ _ _ _ _ hrd
          obtain ⟨δ, e1, e2, e3, e4⟩ := walk_noix w p x.t x.m _ _ _ _ _ hlen hw hv' ho
          have hlo : locOf g b' x = some (g.loc b') := by simp only [locOf]; rw [if_pos hr']
          rw [hlo] at e1
          simp only [Option.map_some, Option.some.injEq, Prod.mk.injEq] at e1
          obtain ⟨rfl, rfl⟩ := e1
          have hpl : (splice (g.cs b') δ cs2).length = (g.cs b').length := splice_length (by omega)
          rw [e4 cs2 hl2]
          refine ⟨_, el', spl_eq k1, ?_, ?_⟩
          · simp only [wrG]; rw [hpl, splice_length (by omega)]; exact k2
          · simp only [wrG]; rw [hpl, chunk_splice_in (by omega) k2, k3]
      · rw [hcsne b' hne]
        obtain ⟨c', el', k1, k2, k3⟩ := h.lc b' x' hx0 hr'
        exact ⟨c', el', (spl_ne (nLo b' x' hx0 hne hr')).trans k1, k2, k3⟩
    dF := fun b1 b2 x1 x2 y h1 h2 hne hy1 hy2 => by
      obtain ⟨z1, k1, _⟩ := hold b1 x1 h1; obtain ⟨z2, k2, _⟩ := hold b2 x2 h2
      rcases hFw _ _ hy1 with q1 | ⟨r1, q1⟩ <;> rcases hFw _ _ hy2 with q2 | ⟨r2, q2⟩
      · exact h.dF b1 b2 z1 z2 y k1 k2 hne q1 q2
      · exact hH.dF b1 z1 y k1 q1 q2
      · exact hH.dF b2 z2 y k2 q2 q1
      · exact hne (r1.trans r2.symm)
    dL := fun b1 b2 x1 x2 h1 h2 hr1 hy => by
      obtain ⟨z1, k1, k1', _⟩ := hold b1 x1 h1; obtain ⟨z2, k2, _⟩ := hold b2 x2 h2
      rcases hFw _ _ hy with hy | ⟨_, hy⟩
      · exact h.dL b1 b2 z1 z2 k1 k2 (k1'.trans hr1) hy
      · exact hH.dL b1 z1 k1 (k1'.trans hr1) hy
    dLL := fun b1 b2 x1 x2 h1 h2 hr1 hr2 hne => by
      obtain ⟨z1, k1, k1', _⟩ := hold b1 x1 h1; obtain ⟨z2, k2, k2', _⟩ := hold b2 x2 h2
      exact h.dLL b1 b2 z1 z2 k1 k2 (k1'.trans hr1) (k2'.trans hr2) hne
    dS := fun b' x' y hx' hy => by
      obtain ⟨x0, h1, _⟩ := hold b' x' hx'
      rcases hFw _ _ hy with hy | ⟨_, hy⟩
      · exact h.dS b' x0 y h1 hy
      · exact hH.dS y hy
    dLS := fun b' x' hx' hr' => by obtain ⟨x0, h1, h2, _⟩ := hold b' x' hx'; exact h.dLS b' x0 h1 (h2.trans hr')
    bS := fun y hy => by rw [spl_size]; exact h.bS y hy
    bF := fun b' x' y hx' hy => by
      obtain ⟨x0, h1, _⟩ := hold b' x' hx'
      rw [spl_size]
      rcases hFw _ _ hy with hy | ⟨_, hy⟩
      · exact h.bF b' x0 y h1 hy
      · exact hH.bd y hy
    fr := by
      have f := h.fr
      refine ⟨by rw [spl_size]; exact f.size, fun y hy hn hp => ?_, fun q hq => ?_, f.os, f.tape, f.output⟩
      · rw [spl_ne]
        · exact f.keep y hy hn hp
        · rintro rfl
          rcases hblk with ⟨_, hb⟩ | ⟨_, o2, hb⟩
          · rcases h.nF b x _ hx hb with k | k
            · exact hn k
            · omega
          · obtain ⟨k1, k2⟩ := locOf_some hb
            rcases h.nL b x hx k1 with ⟨q, hq, k3, _⟩ | k3
            · rw [k2] at k3; exact hp q hq (Prod.mk.inj k3).1.symm
            · rw [k2] at k3; simp only at k3; omega
      · obtain ⟨c0, c', el', k1, k2, k3, k4⟩ := f.keepP q hq
        by_cases hqb : q.1 = blk
        · have hb : ∃ o2, locOf g b x = some (blk, o2) := by
            rcases hblk with ⟨_, hb⟩ | ⟨_, hb⟩
            · rcases h.nF b x _ hx hb with k | k
              · exact absurd (hqb ▸ k) (h.ok.pF q hq)
              · have : q.1 < E.w.heap.size := by
                  rcases Nat.lt_or_ge q.1 E.w.heap.size with z | z
                  · exact z
                  · rw [Array.getElem?_eq_none z] at k1; simp at k1
                omega
            · exact hb
          obtain ⟨o2, hb⟩ := hb
          have hv' : viaSl x.t p = false := by
            rcases hblk with ⟨_, hb2⟩ | ⟨hb2, _⟩
            · obtain ⟨m1, m2⟩ := locOf_some hb
              have := h.dL b b x x hx hx m1
              rw [m2] at this
              exact absurd hb2 this
            · exact hb2
          obtain ⟨m1, m2⟩ := locOf_some hb
          have hlen := Rd_len _ _ _ _ _ _ _ hrd
          obtain ⟨δ, e1, e2, e3, e4⟩ := walk_noix w p x.t x.m _ _ _ _ _ hlen hw hv' ho
          rw [hb] at e1
          simp only [Option.map_some, Option.some.injEq, Prod.mk.injEq, true_and] at e1
          rcases h.nL b x hx m1 with ⟨q', hq', k5, k6⟩ | k5
          · rw [m2] at k5
            have hqq : q' = q := h.ok.pd q' hq' q hq (by rw [← (Prod.mk.inj k5).1, hqb])
            subst hqq
            have ho2 := (Prod.mk.inj k5).2
            rw [hqb] at k2 ⊢
            rw [hc1] at k2
            simp only [Option.some.injEq, Obj.cells.injEq] at k2
            obtain ⟨rfl, rfl, _⟩ := k2
            refine ⟨c0, _, _, by rw [← hqb]; exact k1, spl_eq hc1, ?_, ?_⟩
            · simp only [List.size_toArray]; rw [splice_length (by omega)]; simpa using k3
            · intro i hi
              simp only
              rw [getElem?_splice (by omega)]
              have := k4 i hi
              split
              · exact this
              · split
                · omega
                · exact this
          · have : q.1 < E.w.heap.size := by
              rcases Nat.lt_or_ge q.1 E.w.heap.size with z | z
              · exact z
              · rw [Array.getElem?_eq_none z] at k1; simp at k1
            rw [m2] at k5; simp only at k5; omega
        · exact ⟨c0, c', el', k1, by rw [spl_ne hqb]; exact k2, k3, k4⟩
    oS := h.oS
    nS := h.nS
    nF := fun b' x' y hx' hy => by
      obtain ⟨x0, h1, _⟩ := hold b' x' hx'
      rcases hFw _ _ hy with hy | ⟨_, hy⟩
      · exact h.nF b' x0 y h1 hy
      · exact hH.nF y hy
    nL := fun b' x' hx' hr' => by
      obtain ⟨x0, h1, h2, h3⟩ := hold b' x' hx'
      have := h.nL b' x0 h1 (h2.trans hr')
      rw [h3] at this
      exact this
    df := h.df
    sz := h.sz
    ok := h.ok
    gl := h.gl.step hS
    tp := fun b' q x' hq hx' => by
      obtain ⟨x0, h1, h2, h3⟩ := hold b' x' hx'
      have := h.tp b' q x0 hq h1
      rw [h2, h3] at this
      exact this }

end Go.Eng
end

section
/- The engine: new boxes; values handed over. -/
namespace Go.Eng
open Go

def nbG (g : Gh) (b : Nat) (cs : List Value) (F : Nat → Prop) (loc : Nat × Nat) : Gh :=
  { g with F := fun b' y => if b' = b then F y else g.F b' y, cs := fun b' => if b' = b then cs else g.cs b', loc := fun b' => if b' = b then loc else g.loc b' }

theorem Rel.newB {E : En} {n : Nat} {g : Gh} {st : St} {a : Act} {w : World} (h : Rel E n g st a w) {b : Nat} {x : Bx} {cs : List Value} {F : Nat → Prop} {loc : Nat × Nat}
    (hb : b % 16 ≠ 15) (hr : Rd w g.S x.t x.m F cs x.d) (hH : Held E g st w F)
    (hL : x.r = true → Loc w loc cs ∧ E.w.heap.size ≤ loc.1 ∧ ¬ F loc.1 ∧ ¬ g.S loc.1 ∧ ∀ b' x', look st.bx b' = some x' → ¬ g.F b' loc.1 ∧ (x'.r = true → (g.loc b').1 ≠ loc.1)) :
    Rel E n (nbG g b cs F loc) ⟨fltL (fun _ v => v.all (noBox b)) st.tm, putL st.bx b x⟩ a w := by
  have hlk : ∀ b' x', look (putL st.bx b x) b' = some x' → (b' = b ∧ x' = x) ∨ (b' ≠ b ∧ look st.bx b' = some x') := by
    intro b' x' hx'
    rw [look_putL] at hx'
    by_cases hb : b = b'
    · subst hb; simp only [if_true, Option.some.injEq] at hx'; exact .inl ⟨rfl, hx'.symm⟩
    · rw [if_neg hb] at hx'; exact .inr ⟨Ne.symm hb, hx'⟩
  have eF : ∀ b', b' ≠ b → (nbG g b cs F loc).F b' = g.F b' := fun b' hne => by funext y; simp only [nbG, if_neg hne]
  have eF0 : (nbG g b cs F loc).F b = F := by funext y; simp only [nbG, if_true]
  have eC : ∀ b', b' ≠ b → (nbG g b cs F loc).cs b' = g.cs b' := fun b' hne => by simp only [nbG, if_neg hne]
  have eC0 : (nbG g b cs F loc).cs b = cs := by simp only [nbG, if_true]
  have eL : ∀ b', b' ≠ b → (nbG g b cs F loc).loc b' = g.loc b' := fun b' hne => by simp only [nbG, if_neg hne]
  have eL0 : (nbG g b cs F loc).loc b = loc := by simp only [nbG, if_true]
  have eS : (nbG g b cs F loc).S = g.S := rfl
  exact {
    srtT := srt_fltL h.srtT
    srtB := srt_putL h.srtB
    tm := fun k v hv => by
      obtain ⟨hv, hall⟩ := look_fltL h.srtT hv
      refine AVR_step (g := g) (g' := nbG g b cs F loc) (bx := st.bx) (bx' := putL st.bx b x) _ (fun y hy => ⟨hy, rfl⟩) ?_ v _ hall (h.tm k v hv)
      intro b' P q hf x' hx' ho'
      simp only [noBox, beq_dec, Bool.not_eq_true', decide_eq_false_iff_not] at hf
      rcases hlk b' x' hx' with ⟨rfl, rfl⟩ | ⟨hne, hx0⟩
      · exact absurd rfl hf
      · refine ⟨x', hx0, ho', fun t' cs' l' hw' => ⟨cs', ?_, fun _ => rfl⟩⟩
        have e2 : locOf (nbG g b cs F loc) b' x' = locOf g b' x' := by simp only [locOf, eL b' hne]
        rw [eC b' hne, e2]; exact hw'
    rd := fun b' x' hx' => by
      rcases hlk b' x' hx' with ⟨rfl, rfl⟩ | ⟨hne, hx0⟩
      · rw [eF0, eC0]; exact hr
      · rw [eF b' hne, eC b' hne]; exact h.rd b' x' hx0
    lc := fun b' x' hx' hr' => by
      rcases hlk b' x' hx' with ⟨rfl, rfl⟩ | ⟨hne, hx0⟩
      · rw [eL0, eC0]; exact (hL hr').1
      · rw [eL b' hne, eC b' hne]; exact h.lc b' x' hx0 hr'
    dF := fun b1 b2 x1 x2 y h1 h2 hne hy1 hy2 => by
      rcases hlk b1 x1 h1 with ⟨rfl, rfl⟩ | ⟨hn1, k1⟩
      · rcases hlk b2 x2 h2 with ⟨r2, _⟩ | ⟨hn2, k2⟩
        · exact hne r2.symm
        · rw [eF0] at hy1; rw [eF b2 hn2] at hy2; exact hH.dF b2 x2 y k2 hy2 hy1
      · rw [eF b1 hn1] at hy1
        rcases hlk b2 x2 h2 with ⟨rfl, rfl⟩ | ⟨hn2, k2⟩
        · rw [eF0] at hy2; exact hH.dF b1 x1 y k1 hy1 hy2
        · rw [eF b2 hn2] at hy2; exact h.dF b1 b2 x1 x2 y k1 k2 hne hy1 hy2
    dL := fun b1 b2 x1 x2 h1 h2 hr1 hy => by
      rcases hlk b1 x1 h1 with ⟨rfl, rfl⟩ | ⟨hn1, k1⟩
      · rw [eL0] at hy
        obtain ⟨_, _, l3, _, l5⟩ := hL hr1
        rcases hlk b2 x2 h2 with ⟨rfl, _⟩ | ⟨hn2, k2⟩
        · rw [eF0] at hy; exact l3 hy
        · rw [eF b2 hn2] at hy; exact (l5 b2 x2 k2).1 hy
      · rw [eL b1 hn1] at hy
        rcases hlk b2 x2 h2 with ⟨rfl, rfl⟩ | ⟨hn2, k2⟩
        · rw [eF0] at hy; exact hH.dL b1 x1 k1 hr1 hy
        · rw [eF b2 hn2] at hy; exact h.dL b1 b2 x1 x2 k1 k2 hr1 hy
    dLL := fun b1 b2 x1 x2 h1 h2 hr1 hr2 hne => by
      rcases hlk b1 x1 h1 with ⟨rfl, rfl⟩ | ⟨hn1, k1⟩
      · rcases hlk b2 x2 h2 with ⟨r2, _⟩ | ⟨hn2, k2⟩
        · exact absurd r2.symm hne
        · rw [eL0, eL b2 hn2]; exact Ne.symm (((hL hr1).2.2.2.2 b2 x2 k2).2 hr2)
      · rcases hlk b2 x2 h2 with ⟨rfl, rfl⟩ | ⟨hn2, k2⟩
        · rw [eL0, eL b1 hn1]; exact ((hL hr2).2.2.2.2 b1 x1 k1).2 hr1
        · rw [eL b1 hn1, eL b2 hn2]; exact h.dLL b1 b2 x1 x2 k1 k2 hr1 hr2 hne
    dS := fun b' x' y hx' hy => by
      rcases hlk b' x' hx' with ⟨rfl, rfl⟩ | ⟨hne, hx0⟩
      · rw [eF0] at hy; exact hH.dS y hy
      · rw [eF b' hne] at hy; exact h.dS b' x' y hx0 hy
    dLS := fun b' x' hx' hr' => by
      rcases hlk b' x' hx' with ⟨rfl, rfl⟩ | ⟨hne, hx0⟩
      · rw [eL0]; exact (hL hr').2.2.2.1
      · rw [eL b' hne]; exact h.dLS b' x' hx0 hr'
    bS := h.bS
    bF := fun b' x' y hx' hy => by
      rcases hlk b' x' hx' with ⟨rfl, rfl⟩ | ⟨hne, hx0⟩
      · rw [eF0] at hy; exact hH.bd y hy
      · rw [eF b' hne] at hy; exact h.bF b' x' y hx0 hy
    fr := h.fr
    oS := h.oS
    nS := h.nS
    nF := fun b' x' y hx' hy => by
      rcases hlk b' x' hx' with ⟨rfl, rfl⟩ | ⟨hne, hx0⟩
      · rw [eF0] at hy; exact hH.nF y hy
      · rw [eF b' hne] at hy; exact h.nF b' x' y hx0 hy
    nL := fun b' x' hx' hr' => by
      rcases hlk b' x' hx' with ⟨rfl, rfl⟩ | ⟨hne, hx0⟩
      · rw [eL0]; exact .inr (hL hr').2.1
      · rw [eL b' hne]; exact h.nL b' x' hx0 hr'
    df := h.df
    sz := h.sz
    ok := h.ok
    gl := h.gl
    tp := fun b' q x' hq hx' => by
      rcases hlk b' x' hx' with ⟨rfl, rfl⟩ | ⟨hne, hx0⟩
      · exact absurd (h.ok.kk _ _ hq) hb
      · rw [eL b' hne]; exact h.tp b' q x' hq hx0 }

theorem Held.grow {E : En} {g : Gh} {st : St} {w w' : World} {F : Nat → Prop} (h : Held E g st w F) (hs : w.heap.size ≤ w'.heap.size) : Held E g st w' F :=
  ⟨h.dF, h.dL, h.dS, fun y hy => Nat.lt_of_lt_of_le (h.bd y hy) hs, h.nF⟩

/-- A piece of a slice that is ours. -/
theorem Rd_cut (w : World) (S : Nat → Prop) (e : Ty) (m : Md) (F : Nat → Prop) (base : Option Addr) (len cap : Nat) (d : List e.den) (hm : m = .own ∨ m = .top) (h : Rd w S (.slice e) m F [.slice base len cap] d) {lo hi : Nat} (h1 : lo ≤ hi) (h2 : hi ≤ len)
    {base' : Option Addr} {cap' : Nat} (h3 : hi - lo ≤ cap') (h4 : cap' = 0 ∨ (cap' + lo ≤ cap ∧ ∃ b off, base = some ⟨b, off, none⟩ ∧ base' = some ⟨b, off + lo * e.size, none⟩)) :
    Rd w S (.slice e) m F [.slice base' (hi - lo) cap'] (List.drop lo (List.take hi d) : List e.den) := by
  have key : ∀ m' : Md, (∀ i j, m'.elem i = m'.elem j) → (∃ base0 len0 cap0, [Value.slice base len cap] = [.slice base0 len0 cap0] ∧ d.length = len0 ∧ len0 ≤ cap0 ∧ (cap0 = 0 ∨ ∃ b off c el, base0 = some ⟨b, off, none⟩ ∧ F b ∧
        w.heap[b]? = some (.cells c el (0, 0)) ∧ off + cap0 * e.size ≤ c.size ∧ ∃ Fi : Nat → Nat → Prop, (∀ i x, Fi i x → F x ∧ x ≠ b) ∧
        (∀ i j x, i ≠ j → Fi i x → ¬ Fi j x) ∧ ∀ i (h : i < d.length), Rd w S e (m'.elem i) (Fi i) (chunk c.toList (off + i * e.size) e.size) d[i])) →
      ∃ base0 len0 cap0, [Value.slice base' (hi - lo) cap'] = [.slice base0 len0 cap0] ∧ (List.drop lo (List.take hi d) : List e.den).length = len0 ∧ len0 ≤ cap0 ∧ (cap0 = 0 ∨ ∃ b off c el, base0 = some ⟨b, off, none⟩ ∧ F b ∧
        w.heap[b]? = some (.cells c el (0, 0)) ∧ off + cap0 * e.size ≤ c.size ∧ ∃ Fi : Nat → Nat → Prop, (∀ i x, Fi i x → F x ∧ x ≠ b) ∧
        (∀ i j x, i ≠ j → Fi i x → ¬ Fi j x) ∧ ∀ i (h : i < (List.drop lo (List.take hi d) : List e.den).length), Rd w S e (m'.elem i) (Fi i) (chunk c.toList (off + i * e.size) e.size) (List.drop lo (List.take hi d) : List e.den)[i]) := by
    rintro m' hel ⟨base0, len0, cap0, he, hl, hc, hh⟩
    simp only [List.cons.injEq, Value.slice.injEq, and_true] at he
    obtain ⟨rfl, rfl, rfl⟩ := he
    refine ⟨base', hi - lo, cap', rfl, by clear h4 hh; simp; omega, h3, ?_⟩
    rcases h4 with h4 | ⟨h4, b, off, rfl, rfl⟩
    · exact .inl h4
    rcases hh with hh | ⟨b0, off0, c, el, hb, hF, hh, hoc, Fi, hFi, hd, hr⟩
    · exact .inl (Nat.eq_zero_of_le_zero (Nat.le_trans (Nat.le_trans (Nat.le_add_right cap' lo) h4) (Nat.le_of_eq hh)))
    simp only [Option.some.injEq, Addr.mk.injEq, and_true] at hb
    obtain ⟨rfl, rfl⟩ := hb
    refine .inr ⟨b, _, c, el, rfl, hF, hh, ?_, fun i => Fi (lo + i), fun i x hx => hFi _ x hx, fun i j x hij hx => hd _ _ x (by omega) hx, fun i hi' => ?_⟩
    · have : (cap' + lo) * e.size ≤ cap * e.size := Nat.mul_le_mul_right _ h4
      rw [Nat.add_mul] at this
      omega
    · simp only [List.length_drop, List.length_take] at hi'
      have hli : lo + i < d.length := by omega
      have := hr (lo + i) hli
      rw [hel (lo + i) i] at this
      rw [show off + lo * e.size + i * e.size = off + (lo + i) * e.size by rw [Nat.add_mul]; omega]
      simp only [List.getElem_drop, List.getElem_take]
      exact this
  rcases hm with rfl | rfl
  · simp only [Rd] at h ⊢; exact key .own (fun _ _ => rfl) h
  · simp only [Rd] at h ⊢; exact key .top (fun _ _ => rfl) h

theorem toV_inj_len {t : Ty} {cs cs' : List Value} (h : cs.length = t.size) (h' : cs'.length = t.size) (hp : ∀ v ∈ cs, plain v = true) (hp' : ∀ v ∈ cs', plain v = true) (he : toV t cs = toV t cs') : cs = cs' := by
  unfold toV at he
  split at he
  · simpa using he
  · rename_i ha
    have h1 : t.size = 1 := by cases t <;> simp [Ty.agg] at ha <;> rfl
    rw [h1] at h h'
    obtain ⟨x, rfl⟩ := List.length_eq_one_iff.1 h
    obtain ⟨y, rfl⟩ := List.length_eq_one_iff.1 h'
    simpa using he

theorem toV_cells {t : Ty} {cs : List Value} (h : cs.length = t.size) (hp : ∀ v ∈ cs, plain v = true) : (toV t cs).cells = ⟨cs⟩ := by
  unfold toV
  split
  · rfl
  · rename_i ha
    have h1 : t.size = 1 := by cases t <;> simp [Ty.agg] at ha <;> rfl
    rw [h1] at h
    obtain ⟨x, rfl⟩ := List.length_eq_one_iff.1 h
    have := hp x (by simp)
    cases x <;> simp [plain] at this <;> rfl

end Go.Eng
end

section
/- The engine: what is taken, and what is read. -/
namespace Go.Eng
open Go

theorem as_bind {o : Option Dat} {t : Ty} {d : t.den} (h : o.bind (·.as t) = some d) : o = some ⟨t, d⟩ := by
  cases o with
  | none => simp at h
  | some u => simp only [Option.bind_some] at h; rw [Dat.as_some h]

theorem cond_none {R : Type} {c : Bool} {x : Option R} {r : R} (h : (bif c then x else none) = some r) : c = true ∧ x = some r := by
  cases c
  · simp at h
  · exact ⟨rfl, h⟩

/-- The box that a value is a part of. -/
def boxOf : AV → Option Nat
  | .place b _ => some b
  | .cut b _ _ _ => some b
  | _ => none

/-- What takeK gives. -/
def Taken {R : Type} (E : En) (n : Nat) (g : Gh) (st : St) (a : Act) (w : World) (v : AV) (t : Ty) (u : Value) (k : St → Md → t.den → Option R) (r : R) : Prop :=
  ∃ g1 st1 m d F cs, k st1 m d = some r ∧ Rel E n g1 st1 a w ∧ Less g st g1 st1 ∧ Rd w g1.S t m F cs d ∧ u = toV t cs ∧ Held E g1 st1 w F ∧
    (∀ y, F y → ∃ b x, look st.bx b = some x ∧ g.F b y ∧ boxOf v = some b ∧ t.flat = false) ∧ full t m = true ∧ ∀ v vs, AVR g st.bx w v vs → AVR g1 st1.bx w v vs

theorem take_less {g : Gh} {st : St} {b : Nat} {x : Bx} (hx : look st.bx b = some x) (m : Md) (F : Nat → Prop) :
    Less g st { g with F := fun b' y => g.F b' y ∧ (b' = b → ¬ F y) } (st.setB b ⟨x.t, m, x.d, x.r⟩) :=
  ⟨rfl, rfl, rfl, fun _ _ h => h.1, rfl, fun b' x1 h1 => by
    simp only [St.setB, look_putL] at h1
    by_cases hb : b = b'
    · subst hb; simp only [if_true, Option.some.injEq] at h1; subst h1; exact ⟨x, hx, rfl, rfl⟩
    · rw [if_neg hb] at h1; exact ⟨x1, h1, rfl, rfl⟩, fun b' x1 h1 => by
    simp only [St.setB, look_putL]
    by_cases hb : b = b'
    · exact ⟨_, if_pos hb⟩
    · exact ⟨x1, by rw [if_neg hb]; exact h1⟩⟩

theorem AVR_take {g : Gh} {st : St} {w : World} {b : Nat} {x : Bx} (hx : look st.bx b = some x) {p : Path} (ho : okP x.t x.m p = true) (F : Nat → Prop) (v : AV) (vs : List Value) (h : AVR g st.bx w v vs) :
    AVR { g with F := fun b' y => g.F b' y ∧ (b' = b → ¬ F y) } (st.setB b ⟨x.t, setM x.t x.m p .gone, x.d, x.r⟩).bx w v vs := by
  refine AVR_step (g := g) (g' := { g with F := fun b' y => g.F b' y ∧ (b' = b → ¬ F y) }) (bx := st.bx) (bx' := (St.setB st b ⟨x.t, setM x.t x.m p .gone, x.d, x.r⟩).bx) (fun _ _ _ => true) (fun y hy => ⟨hy, rfl⟩) ?_ v _ (AV.all_true v) h
  intro b' P q _ x' hx' ho'
  simp only [St.setB, look_putL] at hx'
  by_cases hb : b = b'
  · subst hb
    simp only [if_true, Option.some.injEq] at hx'
    subst hx'
    exact ⟨x, hx, okR_gone p _ _ P ho ho', fun t' cs' l' hw => ⟨cs', hw, fun _ => rfl⟩⟩
  · rw [if_neg hb] at hx'
    exact ⟨x', hx', ho', fun t' cs' l' hw => ⟨cs', hw, fun _ => rfl⟩⟩

theorem take_held {E : En} {n : Nat} {g : Gh} {st : St} {a : Act} {w : World} (h : Rel E n g st a w) {b : Nat} {x : Bx} (hx : look st.bx b = some x) {m : Md} {F : Nat → Prop} (hF : ∀ y, F y → g.F b y) :
    Held E { g with F := fun b' y => g.F b' y ∧ (b' = b → ¬ F y) } (st.setB b ⟨x.t, m, x.d, x.r⟩) w F := by
  have hold : ∀ b' x', look (St.setB st b ⟨x.t, m, x.d, x.r⟩).bx b' = some x' → ∃ x0, look st.bx b' = some x0 ∧ x0.r = x'.r := by
    intro b' x' hx'
    simp only [St.setB, look_putL] at hx'
    by_cases hb : b = b'
    · subst hb; simp only [if_true, Option.some.injEq] at hx'; subst hx'; exact ⟨x, hx, rfl⟩
    · rw [if_neg hb] at hx'; exact ⟨x', hx', rfl⟩
  refine ⟨fun b' x' y hx' hy hFy => ?_, fun b' x' hx' hr hFy => ?_, fun y hy => h.dS b x y hx (hF y hy), fun y hy => h.bF b x y hx (hF y hy), fun y hy => h.nF b x y hx (hF y hy)⟩
  · obtain ⟨x0, k1, _⟩ := hold b' x' hx'
    by_cases hb : b' = b
    · exact hy.2 hb hFy
    · exact h.dF b' b x0 x y k1 hx hb hy.1 (hF y hFy)
  · obtain ⟨x0, k1, k2⟩ := hold b' x' hx'
    exact h.dL b' b x0 x k1 hx (k2.trans hr) (hF _ hFy)

theorem getW_own_top {e : Ty} {m : Md} (h : full (.slice e) m = true) : m = .shr ∨ m = .own ∨ m = .top := by
  cases m <;> simp [full] at h <;> simp

theorem takeK_sound {R : Type} {E : En} {n : Nat} {g : Gh} {st : St} {a : Act} {w : World} {v : AV} {t : Ty} {u : Value} {k : St → Md → t.den → Option R} {r : R}
    (hk : takeK st v t k = some r) (h : Rel E n g st a w) (hv : AVR g st.bx w v [u]) : Taken E n g st a w v t u k r := by
  cases v with
  | undef => simp [takeK] at hk
  | skip => simp [takeK] at hk
  | ptr b p => simp [takeK] at hk
  | sptr t d => simp [takeK] at hk
  | fn f c => simp [takeK] at hk
  | tup c => simp [takeK] at hk
  | tnil => simp [takeK] at hk
  | tcons a b => simp [takeK] at hk
  | nils =>
    obtain ⟨base, hb⟩ := hv
    simp only [List.cons.injEq, and_true] at hb
    subst hb
    cases t <;> simp only [takeK] at hk <;> try (simp at hk; done)
    rename_i e
    refine ⟨g, st, .own, [], none', [.slice base 0 0], hk, h, Less.refl _ _, ?_, rfl, Held.none, fun _ hy => hy.elim, rfl, fun _ _ h => h⟩
    simp only [Rd]
    exact ⟨base, 0, 0, rfl, rfl, Nat.le_refl _, .inl rfl⟩
  | val t' d =>
    simp only [takeK] at hk
    split at hk
    · rename_i d' hd
      have := Dat.as_some hd
      simp only [Sigma.mk.injEq] at this
      obtain ⟨rfl, hdd⟩ := this
      simp only [heq_eq_eq] at hdd
      subst hdd
      obtain ⟨cs, h1, h2⟩ := hv
      simp only [List.cons.injEq, and_true] at h2
      exact ⟨g, st, .shr, d, none', cs, hk, h, Less.refl _ _, h1, h2, Held.none, fun _ hy => hy.elim, full_shr t', fun _ _ h => h⟩
    · simp at hk
  | place b p =>
    simp only [takeK] at hk
    split at hk
    · rename_i x hx
      split at hk
      · rename_i d hd
        have hd := as_bind hd
        cases hf : t.flat
        · rw [hf] at hk
          simp only [cond_false] at hk
          obtain ⟨hc, hk⟩ := cond_none hk
          simp only [Bool.and_eq_true] at hc
          obtain ⟨t', cs', l', hw, hu⟩ := hv x hx (okP_okR _ _ _ hc.1)
          simp only [List.cons.injEq, and_true] at hu
          have htt : t' = t := by
            obtain ⟨d', _, _, hg, _⟩ := write_walk w g.S p x.t x.m (g.F b) (g.cs b) x.d (locOf g b x) t' cs' l' (h.rd b x hx) hw hc.1 (locOf_ne h hx)
            rw [hd] at hg
            simp only [Option.some.injEq, Sigma.mk.injEq] at hg
            exact hg.1.symm
          subst htt
          obtain ⟨d', F, hg, hr, hF, hR, _⟩ := h.take hx hw hc.1 hf
          rw [hd] at hg
          simp only [Option.some.injEq, Sigma.mk.injEq, heq_eq_eq, true_and] at hg
          subst hg
          exact ⟨_, _, _, _, F, cs', hk, hR, take_less hx _ F, hr, hu, take_held h hx hF, fun y hy => ⟨b, x, hx, hF y hy, rfl, hf⟩, hc.2, AVR_take hx hc.1 F⟩
        · rw [hf] at hk
          simp only [cond_true] at hk
          obtain ⟨hc, hk⟩ := cond_none hk
          simp only [Bool.and_eq_true] at hc
          obtain ⟨t', cs', l', hw, hu⟩ := hv x hx hc.1
          simp only [List.cons.injEq, and_true] at hu
          obtain ⟨d', F', m', hg, _, hfu, hr⟩ := read_walk w g.S p x.t x.m (g.F b) (g.cs b) x.d (locOf g b x) t' cs' l' (h.rd b x hx) hw hc.1
          rw [hd] at hg
          simp only [Option.some.injEq, Sigma.mk.injEq] at hg
          obtain ⟨rfl, hg⟩ := hg
          simp only [heq_eq_eq] at hg
          subst hg
          exact ⟨g, st, .shr, d, none', cs', hk, h, Less.refl _ _, Rd_flat w w g.S g.S t m' _ _ _ _ hf (hfu hc.2) hr, hu, Held.none, fun _ hy => hy.elim, full_shr t, fun _ _ h => h⟩
      · simp at hk
    · simp at hk
  | cut b p lo hi =>
    cases t <;> simp only [takeK] at hk <;> (try (split at hk <;> simp at hk; done)) <;> try (simp at hk; done)
    rename_i e
    cases hx : look st.bx b with
    | none => rw [hx] at hk; simp at hk
    | some x =>
      rw [hx] at hk
      simp only at hk
      split at hk
      · rename_i d hd
        have hd := as_bind hd
        obtain ⟨hc, hk⟩ := cond_none hk
        simp only [Bool.and_eq_true] at hc
        obtain ⟨e', base, len, cap, l', hw, hlo, hlh, hhl, base', cap', hu, hcap, hb⟩ := hv x hx (okP_okR _ _ _ hc.1)
        simp only [List.cons.injEq, and_true] at hu
        have htt : e' = e := by
          obtain ⟨d', _, _, hg, _⟩ := write_walk w g.S p x.t x.m (g.F b) (g.cs b) x.d (locOf g b x) _ _ l' (h.rd b x hx) hw hc.1 (locOf_ne h hx)
          rw [hd] at hg
          simp only [Option.some.injEq, Sigma.mk.injEq, Ty.slice.injEq] at hg
          exact hg.1.symm
        subst htt
        obtain ⟨d', F, hg, hr, hF, hR, _⟩ := h.take hx hw hc.1 rfl
        rw [hd] at hg
        simp only [Option.some.injEq, Sigma.mk.injEq, heq_eq_eq, true_and] at hg
        subst hg
        have hm : getW x.t x.m p = .own ∨ getW x.t x.m p = .top := by
          have := hc.2
          cases hg : getW x.t x.m p <;> rw [hg] at this <;> simp [ownTop] at this <;> simp
        have hcut := Rd_cut w g.S e' (getW x.t x.m p) F base len cap d hm hr (lo := lo.toNat) (hi := hi.toNat) (base' := base') (cap' := cap') (by omega) (by omega) (by omega) hb
        have e1 : (hi - lo).toNat = hi.toNat - lo.toNat := by omega
        refine ⟨_, _, _, _, F, _, hk, hR, take_less hx _ F, hcut, ?_, take_held h hx hF, fun y hy => ⟨b, x, hx, hF y hy, rfl, rfl⟩, ?_, AVR_take hx hc.1 F⟩
        · rw [hu, e1]; rfl
        · rcases hm with hm | hm <;> rw [hm] <;> rfl
      · simp at hk

end Go.Eng
end

section
/- The engine: Go's types as the model has them, and the runs of the small operations on memory. -/
namespace Go.Eng
open Go

def zeros : Ty → List Value
  | .unit => []
  | .int k => [.int k 0]
  | .bool => [.bool false]
  | .str => [.string ⟨#[]⟩]
  | .pair a b => zeros a ++ zeros b
  | .slice _ => [.slice none 0 0]
  | .arr n e => (List.replicate n (zeros e)).flatten
  | .iface => [.nilIface]

structure Base (P : Program) (T : TypeId) (t : Ty) : Prop where
  held : P.stoodInHeld T = false
  info : ∃ i, P.info? T = some i ∧ i.size = t.size ∧ i.zero = some (toV t (zeros t)) ∧ i.bytes ≤ 4096

mutual
/-- A Go type is what the engine takes it for. -/
def TyOk (P : Program) : Ty → TypeId → Prop
  | .unit, T => Base P T .unit ∧ P.underlying T = some (.struct #[])
  | .int k, T => Base P T (.int k) ∧ P.underlying T = some (.int k)
  | .bool, T => Base P T .bool ∧ P.underlying T = some .bool
  | .str, T => Base P T .str ∧ P.underlying T = some .string
  | .pair a b, T => Base P T (.pair a b) ∧ ∃ f r, P.underlying T = some (.struct ⟨f :: r⟩) ∧ f.offset = 0 ∧ f.name ≠ "_" ∧ TyOk P a f.type ∧ FldOk P b r a.size
  | .slice e, T => Base P T (.slice e) ∧ ∃ E, P.underlying T = some (.slice E) ∧ TyOk P e E
  | .arr n e, T => Base P T (.arr n e) ∧ ∃ E, P.underlying T = some (.array n E) ∧ TyOk P e E ∧ e.flat = true
  | .iface, T => Base P T .iface ∧ ∃ ms, P.underlying T = some (.interface ms)
/-- The fields from an offset on. -/
def FldOk (P : Program) : Ty → List Field → Nat → Prop
  | .unit, fs, _ => fs = []
  | .pair a b, fs, o => ∃ f r, fs = f :: r ∧ f.offset = o ∧ f.name ≠ "_" ∧ TyOk P a f.type ∧ FldOk P b r (o + a.size)
  | _, _, _ => False
end

theorem TyOk.base {P : Program} : ∀ {t : Ty} {T : TypeId}, TyOk P t T → Base P T t
  | .unit, T, h => by simp only [TyOk] at h; exact h.1
  | .int k, T, h => by simp only [TyOk] at h; exact h.1
  | .bool, T, h => by simp only [TyOk] at h; exact h.1
  | .str, T, h => by simp only [TyOk] at h; exact h.1
  | .pair a b, T, h => by simp only [TyOk] at h; exact h.1
  | .slice e, T, h => by simp only [TyOk] at h; exact h.1
  | .arr n e, T, h => by simp only [TyOk] at h; exact h.1
  | .iface, T, h => by simp only [TyOk] at h; exact h.1

section
variable {P : Program} {w : World}

theorem run_und {T : TypeId} {d : TypeDesc} (h : P.underlying T = some d) : (underlying T).run P w = .ok d w := by
  simp [underlying, h]

theorem run_sizeOf {T : TypeId} {t : Ty} (h : TyOk P t T) : (sizeOf T).run P w = .ok t.size w := by
  obtain ⟨i, h1, h2, _⟩ := h.base.info
  simp [sizeOf, typeInfo, h1, h2]

theorem run_zeroV {T : TypeId} {t : Ty} (h : TyOk P t T) : (zeroValue T).run P w = .ok (toV t (zeros t)) w := by
  obtain ⟨i, h1, _, h3, _⟩ := h.base.info
  simp [zeroValue, typeInfo, h1, h3]

theorem run_isAgg {T : TypeId} {t : Ty} (h : TyOk P t T) : (isAgg T).run P w = .ok t.agg w := by
  cases t <;> simp only [TyOk] at h
  case unit => simp [isAgg, run_und h.2, Ty.agg]
  case int k => simp [isAgg, run_und h.2, Ty.agg]
  case bool => simp [isAgg, run_und h.2, Ty.agg]
  case str => simp [isAgg, run_und h.2, Ty.agg]
  case pair a b => obtain ⟨_, f, r, h1, _⟩ := h; simp [isAgg, run_und h1, Ty.agg]
  case slice e => obtain ⟨_, f, h1, _⟩ := h; simp [isAgg, run_und h1, Ty.agg]
  case arr n e => obtain ⟨_, f, h1, _⟩ := h; simp [isAgg, run_und h1, Ty.agg]
  case iface => obtain ⟨_, f, h1⟩ := h; simp [isAgg, run_und h1, Ty.agg]

theorem zeros_len : ∀ t : Ty, (zeros t).length = t.size
  | .unit | .int _ | .bool | .str | .slice _ | .iface => rfl
  | .pair a b => by simp [zeros, Ty.size, zeros_len a, zeros_len b]
  | .arr n e => by simp [zeros, Ty.size, zeros_len e]

/-- Reading cells. -/
theorem cell_of {b o : Nat} {cs : List Value} {n : Nat} (h : cellsAt w b o n = cs) : ∀ j v, cs[j]? = some v → w.cell? ((⟨b, o, none⟩ : Addr).add j) = some v := by
  intro j v hv
  subst h
  have hadd : (⟨b, o, none⟩ : Addr).add j = ⟨b, o + j, none⟩ := by unfold Addr.add; split <;> simp_all
  rw [hadd]
  unfold cellsAt at hv
  split at hv
  · rename_i c el fz hb
    simp only [chunk, List.getElem?_take, List.getElem?_drop] at hv
    split at hv
    · simp [World.cell?, hb]; simpa using hv
    · simp at hv
  · simp at hv

theorem Loc.cellsAt {b o : Nat} {cs : List Value} (h : Loc w (b, o) cs) : cellsAt w b o cs.length = cs := by
  obtain ⟨c, el, h1, h2, h3⟩ := h
  rw [cellsAt_eq h1]; exact h3

theorem run_loadVar {T : TypeId} {t : Ty} (h : TyOk P t T) {b o : Nat} {cs : List Value} (hl : cs.length = t.size) (hc : Eng.cellsAt w b o t.size = cs) :
    (loadVar T ⟨b, o, none⟩).run P w = .ok (toV t cs) w := by
  unfold loadVar
  simp only [Sem.run_bind, run_isAgg h, Result.andThen_ok]
  have hcell := cell_of hc
  cases ha : t.agg
  · have h1 : t.size = 1 := by cases t <;> simp [Ty.agg] at ha <;> rfl
    rw [h1] at hl
    obtain ⟨x, rfl⟩ := List.length_eq_one_iff.1 hl
    have := hcell 0 x rfl
    simp only [Addr.add, if_true] at this
    simp [this, toV, ha]
  · have := run_loadCells_list (P := P) w ⟨b, o, none⟩ cs hcell
    rw [hl] at this
    simp [run_sizeOf h, this, toV, ha]

theorem run_storeVar {T : TypeId} {t : Ty} (h : TyOk P t T) {b o : Nat} {cs cs2 : List Value} (hl : cs.length = t.size) (hL : Loc w (b, o) cs) (hl2 : cs2.length = t.size) (hp : ∀ v ∈ cs2, plain v = true) :
    (storeVar T ⟨b, o, none⟩ (toV t cs2)).run P w = .ok () (spl w b o cs2) := by
  obtain ⟨c, el, h1, h2, h3⟩ := hL
  simp only at h1 h2
  have hone : ∀ v ∈ cs2, v.oneCell' = true := fun v hv => by have := hp v hv; cases v <;> simp [plain] at this <;> rfl
  have hst := run_storeCells_at (P := P) b o el cs2 0 c w h1 (by simpa using (by omega : o + cs2.length ≤ c.toList.length)) hone
  unfold storeVar
  simp only [toV_cells hl2 hp, Sem.run_bind, run_sizeOf h, Result.andThen_ok, List.size_toArray, hl2, ne_eq, not_true_eq_false, if_false]
  simp only [Nat.add_zero] at hst
  rw [hst]
  congr 1
  simp only [spl, World.setRow, World.mk.injEq, and_self, and_true]
  apply Array.ext_getElem?
  intro y
  simp only [Array.getElem?_modify]
  by_cases hy : b = y
  · subst hy
    simp only [if_true, h1, Option.map_some]
    rfl
  · simp only [if_neg hy]

theorem run_newVar {T : TypeId} {t : Ty} {cs : List Value} (hl : cs.length = t.size) (hp : ∀ v ∈ cs, plain v = true) :
    (newVar T (toV t cs)).run P w = .ok ⟨w.heap.size, 0, none⟩ { w with heap := w.heap.push (.cells ⟨cs⟩ T) } := by
  simp [newVar, newRow, toV_cells hl hp]
end
end Go.Eng
end

section
/- The engine: its operations are the model's: values, pointers, memory. -/
namespace Go.Eng
open Go

/-- What a function is known to do, is so. (Said in 'Holds', below.) -/
structure CxOk (P : Program) (E : En) (cx : Cx) : Prop where
  ty : ∀ T t, cx.ty T = some t → TyOk P t T
  gl : ∀ i u, cx.gl i = some u → E.G i = some u
  eq : ∀ T t, cx.ty T = some t → eqTy t = true → P.eqGuardType P.depth T = false
  mo : P.follows .mixedOrders = true

section
variable {P : Program} {E : En} {cx : Cx} {n : Nat} {g : Gh} {st : St} {a : Act} {w : World}

theorem AVR_int {bx : List (Nat × Bx)} (k : IntKind) (x : Int) : AVR g bx w (.val (.int k) x) [.int k x] := ⟨[.int k x], by simp only [Rd], rfl⟩
theorem AVR_bool {bx : List (Nat × Bx)} (x : Bool) : AVR g bx w (.val .bool x) [.bool x] := ⟨[.bool x], by simp only [Rd], rfl⟩
theorem AVR_str {bx : List (Nat × Bx)} (x : List UInt8) : AVR g bx w (.val .str x) [.string ⟨⟨x⟩⟩] := ⟨[.string ⟨⟨x⟩⟩], by simp only [Rd], rfl⟩

theorem int_AVR {bx : List (Nat × Bx)} {k : IntKind} {x : Int} {v : Value} (h : AVR g bx w (.val (.int k) x) [v]) : v = .int k x := by
  obtain ⟨cs, h1, h2⟩ := h
  simp only [Rd] at h1
  subst h1
  simpa [toV, Ty.agg] using h2
theorem bool_AVR {bx : List (Nat × Bx)} {x : Bool} {v : Value} (h : AVR g bx w (.val .bool x) [v]) : v = .bool x := by
  obtain ⟨cs, h1, h2⟩ := h
  simp only [Rd] at h1
  subst h1
  simpa [toV, Ty.agg] using h2
theorem str_AVR {bx : List (Nat × Bx)} {x : List UInt8} {v : Value} (h : AVR g bx w (.val .str x) [v]) : v = .string ⟨⟨x⟩⟩ := by
  obtain ⟨cs, h1, h2⟩ := h
  simp only [Rd] at h1
  subst h1
  simpa [toV, Ty.agg] using h2

theorem const_AVR (v : Value) : AVR g st.bx w (constAV v) [v] := by
  unfold constAV
  split
  · exact AVR_bool _
  · exact AVR_int _ _
  · rename_i s
    obtain ⟨⟨l⟩⟩ := s
    exact AVR_str _
  · exact ⟨_, rfl⟩
  · refine ⟨[.nilIface], ?_, rfl⟩
    simp only [Rd, Gone]
    exact ⟨⟨rfl, by simp [plain]⟩, by simp⟩
  · trivial

theorem opnd_sound (hc : CxOk P E cx) (h : Rel E n g st a w) (x : Operand) : AVR g st.bx w (opnd cx st x) [a.eval x] := by
  cases x with
  | tmp t =>
    simp only [opnd, Act.eval]
    cases ht : look st.tm t with
    | none => trivial
    | some v => exact h.tm t v ht
  | const v => exact const_AVR v
  | global i =>
    simp only [opnd, Act.eval]
    cases hu : cx.gl i with
    | none => trivial
    | some u =>
      obtain ⟨h1, h2, _⟩ := h.gl i u (hc.gl i u hu)
      exact ⟨i, 0, rfl, h1, h2⟩
  | func f => exact ⟨[], rfl, rfl⟩

theorem wp_value {o : Oper} {next : Act → World → Prop} {Q : Exit → Act → World → Prop} {u : Value} {w' : World} (hr : (execOp a.eval o).run P w = .ok (.value u) w') (hn : next (a.put o.dst u) w') : o.wp P a w next Q := by
  unfold Oper.wp
  rw [hr]
  exact hn

theorem wp_skip {o : Oper} {next : Act → World → Prop} {Q : Exit → Act → World → Prop} {w' : World} (hr : (execOp a.eval o).run P w = .ok .skip w') (hn : next (a.put o.dst undef) w') : o.wp P a w next Q := by
  unfold Oper.wp
  rw [hr]
  exact hn

/-- Pointers lead where the walk leads. -/
theorem ptr_read (h : Rel E n g st a w) {b : Nat} {p : Path} {v : Value} (hv : AVR g st.bx w (.ptr b p) [v]) {x : Bx} (hx : look st.bx b = some x) (ho : okR x.t x.m p = true) :
    ∃ t cs blk off, v = .pointer (some ⟨blk, off, none⟩) ∧ walk w x.t p (g.cs b) (locOf g b x) = some (t, cs, some (blk, off)) ∧ Loc w (blk, off) cs ∧ cs.length = t.size := by
  obtain ⟨t, cs, blk, off, hw, he⟩ := hv x hx ho
  simp only [List.cons.injEq, and_true] at he
  have hL := h.loc hx hw ho _ rfl
  obtain ⟨d', F', m', hg, _, _, hr⟩ := read_walk w g.S p x.t x.m (g.F b) (g.cs b) x.d (locOf g b x) t cs _ (h.rd b x hx) hw ho
  exact ⟨t, cs, blk, off, he, hw, hL, Rd_len _ _ _ _ _ _ _ hr⟩

theorem shr_of {S : Nat → Prop} : ∀ (p : Path) (t : Ty) (m : Md) (F : Nat → Prop) (cs : List Value) (d : t.den) (l : Option (Nat × Nat)) (t' : Ty) (cs' : List Value) (l' : Option (Nat × Nat)),
    Rd w S t m F cs d → walk w t p cs l = some (t', cs', l') → okR t m p = true → shrAt t m p = true → ∃ d', getD t p d = some ⟨t', d'⟩ ∧ Rd w S t' .shr none' cs' d'
  | [], t, m, F, cs, d, l, t', cs', l', h, hw, ho, hs => by
    simp only [walk, Option.some.injEq, Prod.mk.injEq] at hw
    obtain ⟨rfl, rfl, rfl⟩ := hw
    have : m = .shr := by cases t <;> cases m <;> simp [shrAt] at hs <;> rfl
    subst this
    exact ⟨d, by simp [getD], Rd_shrF _ _ _ _ _ _ _ h⟩
  | s :: p, t, m, F, cs, d, l, t', cs', l', h, hw, ho, hs => by
    cases t with
    | pair a b =>
      simp only [Rd] at h
      obtain ⟨F1, F2, h1, h2, h3, r1, r2⟩ := h
      cases s with
      | fst => simp only [walk, okR, shrAt, getD] at hw ho hs ⊢; exact shr_of p _ _ _ _ _ _ _ _ _ r1 hw ho hs
      | snd => simp only [walk, okR, shrAt, getD] at hw ho hs ⊢; exact shr_of p _ _ _ _ _ _ _ _ _ r2 hw ho hs
      | ix i => simp [walk] at hw
    | slice e =>
      cases s with
      | fst => simp [walk] at hw
      | snd => simp [walk] at hw
      | ix i =>
        cases m <;> simp only [shrAt] at hs <;> try (simp at hs; done)
        simp only [Rd] at h
        simp only [okR] at ho
        obtain ⟨base, len, cap, rfl, hl, hc, h4⟩ := h
        simp only [walk] at hw
        rcases h4 with h4 | ⟨b, off, c, el, rfl, hFb, hh, hoc, Fi, hFi, hd, hr⟩
        · split at hw
          · rename_i heq
            simp at heq
            split at hw
            · omega
            · simp at hw
          · simp at hw
        · simp only at hw
          split at hw
          · rename_i hi
            have hi' : i.toNat < d.length := by omega
            rw [cellsAt_eq hh] at hw
            simp only [getD]
            rw [getD_eq d _ _ hi']
            exact shr_of p _ _ _ _ _ _ _ _ _ (hr i.toNat hi') hw ho hs
          · simp at hw
    | arr n e => cases s <;> simp [shrAt] at hs
    | unit => simp [walk] at hw
    | int k => simp [walk] at hw
    | bool => simp [walk] at hw
    | str => simp [walk] at hw
    | iface => simp [walk] at hw

theorem load_sound (hc : CxOk P E cx) (h : Rel E n g st a w) {T : TypeId} {v : AV} {u : Value} {v' : AV} (hl : loadV cx st T v = some v') (hv : AVR g st.bx w v [u]) :
    ∃ u', (Instr.loadAt T u).run P w = .ok u' w ∧ AVR g st.bx w v' [u'] := by
  cases v with
  | sptr t d =>
    simp only [loadV] at hl
    split at hl
    · rename_i t' ht
      cases hb : Ty.beq t' t
      · rw [hb] at hl; simp at hl
      · rw [hb] at hl
        simp only [cond_true, Option.some.injEq] at hl
        have := Ty.eq_of_beq hb
        subst this hl
        obtain ⟨blk, off, he, hS, hr⟩ := hv
        simp only [List.cons.injEq, and_true] at he
        subst he
        refine ⟨toV t' (cellsAt w blk off t'.size), ?_, _, hr, rfl⟩
        simp [Instr.loadAt, Instr.sureAddr, run_loadVar (hc.ty T t' ht) (Rd_len _ _ _ _ _ _ _ hr) rfl]
    · simp at hl
  | ptr b p =>
    simp only [loadV] at hl
    split at hl
    · rename_i x t' hx ht
      split at hl
      · rename_i d hd
        have hd := as_bind hd
        cases hok : okR x.t x.m p
        · rw [hok] at hl; simp at hl
        · rw [hok] at hl
          simp only [cond_true] at hl
          obtain ⟨t, cs, blk, off, he, hw, hL, hlen⟩ := ptr_read h hv hx hok
          subst he
          obtain ⟨d', F', m', hg, _, hfu, hr⟩ := read_walk w g.S p x.t x.m (g.F b) (g.cs b) x.d (locOf g b x) t cs _ (h.rd b x hx) hw hok
          rw [hd] at hg
          simp only [Option.some.injEq, Sigma.mk.injEq] at hg
          obtain ⟨rfl, hg⟩ := hg
          simp only [heq_eq_eq] at hg
          subst hg
          have hrun : (Instr.loadAt T (.pointer (some ⟨blk, off, none⟩))).run P w = .ok (toV t' cs) w := by
            have hcs := hL.cellsAt
            rw [hlen] at hcs
            simp [Instr.loadAt, Instr.sureAddr, run_loadVar (hc.ty T t' ht) hlen hcs]
          refine ⟨_, hrun, ?_⟩
          cases hf : t'.flat
          · rw [hf] at hl
            simp only [cond_false] at hl
            cases hs : shrAt x.t x.m p
            · rw [hs] at hl
              simp only [cond_false, Option.some.injEq] at hl
              subst hl
              intro x2 hx2 ho2
              rw [hx] at hx2
              simp only [Option.some.injEq] at hx2
              subst hx2
              exact ⟨t', cs, _, hw, rfl⟩
            · rw [hs] at hl
              simp only [cond_true, Option.some.injEq] at hl
              subst hl
              obtain ⟨d2, hg2, hr2⟩ := shr_of p _ _ _ _ _ _ _ _ _ (h.rd b x hx) hw hok hs
              rw [hd] at hg2
              simp only [Option.some.injEq, Sigma.mk.injEq, heq_eq_eq, true_and] at hg2
              subst hg2
              exact ⟨cs, hr2, rfl⟩
          · rw [hf] at hl
            simp only [cond_true] at hl
            cases ha : allFull x.t x.m p
            · rw [ha] at hl; simp at hl
            · rw [ha] at hl
              simp only [cond_true, Option.some.injEq] at hl
              subst hl
              exact ⟨cs, Rd_flat w w g.S g.S t' m' _ _ _ _ hf (hfu ha) hr, rfl⟩
      · simp at hl
    · simp at hl
  | undef => simp [loadV] at hl
  | skip => simp [loadV] at hl
  | nils => simp [loadV] at hl
  | val t d => simp [loadV] at hl
  | place b p => simp [loadV] at hl
  | cut b p lo hi => simp [loadV] at hl
  | fn f c => simp [loadV] at hl
  | tup c => simp [loadV] at hl
  | tnil => simp [loadV] at hl
  | tcons a b => simp [loadV] at hl

end
end Go.Eng
end
