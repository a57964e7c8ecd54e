/- Part 8 of 20 of a claim; what is proved, and under which conditions, stands in the last part. Here: EngAH, EngAI, EngAJ, EngAK, EngAL. -/
import Derived.Test.YtfihmdlpikfbbaaGreatDoorM07
set_option linter.unusedVariables false
set_option linter.unusedSimpArgs false
set_option linter.unusedSectionVars false
section
/- The engine: the arguments of a call are as the contract asks. -/
namespace Go.Eng
open Go

section
variable {P : Program} {E : En} {cx : Cx} {n : Nat} {g : Gh} {st : St} {a : Act} {w : World} {R : Type}

/-- Where a walk leads in memory: what is shared, what is owned, or where it began. -/
theorem walk_blk (w : World) (S : Nat → Prop) : ∀ (p : Path) (t : Ty) (m : Md) (F : Nat → Prop) (cs : List Value) (d : t.den) (l : Option (Nat × Nat)) (t' : Ty) (cs' : List Value) (b o : Nat),
    Rd w S t m F cs d → walk w t p cs l = some (t', cs', some (b, o)) → okR t m p = true → S b ∨ F b ∨ ∃ o2, l = some (b, o2)
  | [], t, m, F, cs, d, l, t', cs', b, o, h, hw, ho => by
    simp only [walk, Option.some.injEq, Prod.mk.injEq] at hw
    obtain ⟨_, _, rfl⟩ := hw
    exact .inr (.inr ⟨o, rfl⟩)
  | s :: p, t, m, F, cs, d, l, t', cs', b, o, h, hw, ho => by
    cases t with
    | pair x y =>
      simp only [Rd] at h
      obtain ⟨F1, F2, h1, h2, h3, r1, r2⟩ := h
      cases s with
      | fst =>
        simp only [walk, okR] at hw ho
        rcases walk_blk w S p _ _ _ _ _ _ _ _ _ _ r1 hw ho with k | k | k
        · exact .inl k
        · exact .inr (.inl (h1 _ k))
        · exact .inr (.inr k)
      | snd =>
        simp only [walk, okR] at hw ho
        rcases walk_blk w S p _ _ _ _ _ _ _ _ _ _ r2 hw ho with k | k | ⟨o2, k⟩
        · exact .inl k
        · exact .inr (.inl (h2 _ k))
        · cases l with
          | none => simp at k
          | some q => simp only [Option.map_some, Option.some.injEq, Prod.mk.injEq] at k; exact .inr (.inr ⟨q.2, by rw [← k.1]⟩)
      | ix i => simp [walk] at hw
    | arr k e =>
      cases s with
      | fst => simp [walk] at hw
      | snd => simp [walk] at hw
      | ix i =>
        cases m <;> simp only [okR] at ho <;> (try (simp at ho; done)) <;> simp only [Rd] at h <;> simp only [walk] at hw <;> split at hw <;> (try (simp at hw; done))
        all_goals
          rename_i hi
          obtain ⟨h1, h2, h3, h4⟩ := h
          rcases walk_blk w S p _ _ _ _ _ _ _ _ _ _ (h4 i.toNat (by omega)) hw ho with k | k | ⟨o2, k⟩
          · exact .inl k
          · exact k.elim
          · cases l with
            | none => simp at k
            | some q => simp only [Option.map_some, Option.some.injEq, Prod.mk.injEq] at k; exact .inr (.inr ⟨q.2, by rw [← k.1]⟩)
    | slice e =>
      cases s with
      | fst => simp [walk] at hw
      | snd => simp [walk] at hw
      | ix i =>
        have key : ∀ (me : Nat → Md), (∀ j, okR e (me j) p = true) → (∃ base len cap, cs = [.slice base len cap] ∧ d.length = len ∧ len ≤ cap ∧ (cap = 0 ∨ ∃ b off c el, base = some ⟨b, off, none⟩ ∧ F b ∧
            w.heap[b]? = some (.cells c el (0, 0)) ∧ off + cap * e.size ≤ c.size ∧ ∃ Fi : Nat → Nat → Prop, (∀ i x, Fi i x → F x ∧ x ≠ b) ∧
            (∀ i j x, i ≠ j → Fi i x → ¬ Fi j x) ∧ ∀ i (h : i < d.length), Rd w S e (me i) (Fi i) (chunk c.toList (off + i * e.size) e.size) d[i])) → S b ∨ F b ∨ ∃ o2, l = some (b, o2) := by
          rintro me hme ⟨base, len, cap, rfl, hl, hc, h4⟩
          simp only [walk] at hw
          rcases h4 with h4 | ⟨b0, off, c, el, rfl, hFb, hh, hoc, Fi, hFi, hd, hr⟩
          · split at hw
            · rename_i heq
              simp at heq
              split at hw
              · omega
              · simp at hw
            · simp at hw
          · simp only at hw
            split at hw
            · rename_i hi
              rw [cellsAt_eq hh] at hw
              rcases walk_blk w S p _ _ _ _ _ _ _ _ _ _ (hr i.toNat (by omega)) hw (hme _) with k | k | ⟨o2, k⟩
              · exact .inl k
              · exact .inr (.inl (hFi _ _ k).1)
              · simp only [Option.some.injEq, Prod.mk.injEq] at k
                exact .inr (.inl (k.1 ▸ hFb))
            · simp at hw
        cases m <;> simp only [okR] at ho <;> (try (simp at ho; done)) <;> simp only [Rd] at h
        · exact key (fun j => Md.elem .own j) (fun j => by simpa only [Md.elem] using ho) h
        · exact key (fun j => Md.elem .top j) (fun j => by simpa only [Md.elem] using ho) h
        · rename_i j0 m0
          simp only [Bool.and_eq_true] at ho
          exact key (fun j => Md.elem (.ix j0 m0) j) (fun j => by simp only [Md.elem]; split; exact ho.1; exact ho.2) h
    | unit => simp [walk] at hw
    | int k => simp [walk] at hw
    | bool => simp [walk] at hw
    | str => simp [walk] at hw
    | iface => simp [walk] at hw

/-- What the callee may read: what is shared; where something of ours is lent, all that is ours too, but for what lies behind the pointers that are handed over. -/
def Sc (lent : Bool) (g : Gh) (st : St) (Ps : List (Nat × Nat × Nat)) (y : Nat) : Prop :=
  g.S y ∨ (lent = true ∧ (∃ b x, look st.bx b = some x ∧ (g.F b y ∨ (x.r = true ∧ (g.loc b).1 = y))) ∧ ∀ q ∈ Ps, q.1 ≠ y)

theorem notIn_spec : ∀ {o : List (Nat × Path)} {b : Nat}, notIn o b = true → ∀ q ∈ o, q.1 ≠ b
  | [], b, h, q, hq => by simp at hq
  | q0 :: o, b, h, q, hq => by
    simp only [notIn, beq_dec, Bool.and_eq_true, Bool.not_eq_true', decide_eq_false_iff_not] at h
    rcases List.mem_cons.1 hq with rfl | hq
    · exact h.1
    · exact notIn_spec h.2 q hq

theorem notVia_spec {bx : List (Nat × Bx)} : ∀ {o : List (Nat × Path)} {b : Nat}, notVia bx b o = true → ∀ q ∈ o, q.1 = b → ∃ x, look bx b = some x ∧ viaSl x.t q.2 = false
  | [], b, h, q, hq, _ => by simp at hq
  | q0 :: o, b, h, q, hq, hb => by
    simp only [notVia, beq_dec, Bool.and_eq_true, Bool.or_eq_true, Bool.not_eq_true', decide_eq_false_iff_not] at h
    rcases List.mem_cons.1 hq with rfl | hq
    · rcases h.1 with h1 | h1
      · exact absurd hb h1
      · split at h1
        · rename_i x hx
          exact ⟨x, hx, by simpa using h1⟩
        · simp at h1
    · exact notVia_spec h.2 q hq hb

/-- What lies behind the pointers that are handed over. -/
theorem Took.ps {g0 : Gh} {bx0 : List (Nat × Bx)} {ks : List PK} {vs : List AV} {us : List Value} {l : List (Option Dat)} {o : List (Nat × Path)} {Fs : List (Nat → Prop)} {Ps : List (Nat × Nat × Nat)} (h : Took E w g0 bx0 g st ks vs us l o Fs Ps) :
    ∀ q ∈ Ps, ∃ r ∈ o, ∃ x x0, look st.bx r.1 = some x ∧ look bx0 r.1 = some x0 ∧ x.t = x0.t ∧ ((viaSl x.t r.2 = true ∧ g0.F r.1 q.1) ∨ (viaSl x.t r.2 = false ∧ x0.r = true ∧ (g0.loc r.1).1 = q.1)) := by
  induction h with
  | nil => simp
  | bor _ _ ih => exact ih
  | sp _ _ ih => exact ih
  | fnc _ _ ih => exact ih
  | own _ _ _ _ _ _ ih => exact ih
  | @ptr t m b p x x0 F cs d blk off ks vs us l o Fs Ps hr hf hH hF hFs hx0 hx ht hw hL hn hv hT ih =>
    intro q hq
    rcases List.mem_cons.1 hq with rfl | hq
    · exact ⟨(b, p), by simp, x, x0, hx, hx0, ht, hv⟩
    · obtain ⟨r, hr, h2⟩ := ih q hq
      exact ⟨r, by simp [hr], h2⟩

theorem lend_place {g0 : Gh} {st0 : St} {o : List (Nat × Path)} {Ps : List (Nat × Nat × Nat)} (h0 : Rel E n g0 st0 a w)
    (hP : ∀ q ∈ Ps, ∃ r ∈ o, ∃ x x0, look st.bx r.1 = some x ∧ look st0.bx r.1 = some x0 ∧ x.t = x0.t ∧ ((viaSl x.t r.2 = true ∧ g0.F r.1 q.1) ∨ (viaSl x.t r.2 = false ∧ x0.r = true ∧ (g0.loc r.1).1 = q.1)))
    {b : Nat} {x0 : Bx} (hx : look st0.bx b = some x0) (hn : ∀ q ∈ o, q.1 = b → ∃ x, look st.bx b = some x ∧ viaSl x.t q.2 = false) {y : Nat} (hy : g0.F b y) : ∀ q ∈ Ps, q.1 ≠ y := by
  intro q hq he
  subst he
  obtain ⟨r, hr, x, x0', k1, k2, k3, k4⟩ := hP q hq
  rcases k4 with ⟨k4, k5⟩ | ⟨k4, k5, k6⟩
  · by_cases hb : r.1 = b
    · obtain ⟨x', j1, j2⟩ := hn r hr hb
      subst hb
      rw [k1] at j1
      simp only [Option.some.injEq] at j1
      subst j1
      rw [k4] at j2
      simp at j2
    · exact h0.dF r.1 b x0' x0 _ k2 hx hb k5 hy
  · exact h0.dL r.1 b x0' x0 k2 hx k5 (k6 ▸ hy)

theorem bor_sound {lent : Bool} {g0 : Gh} {st0 : St} {o : List (Nat × Path)} {Ps : List (Nat × Nat × Nat)} (h0 : Rel E n g0 st0 a w) (hL : Less g0 st0 g st) (h : Rel E n g st a w)
    (hP : ∀ q ∈ Ps, ∃ r ∈ o, ∃ x x0, look st.bx r.1 = some x ∧ look st0.bx r.1 = some x0 ∧ x.t = x0.t ∧ ((viaSl x.t r.2 = true ∧ g0.F r.1 q.1) ∨ (viaSl x.t r.2 = false ∧ x0.r = true ∧ (g0.loc r.1).1 = q.1)))
    {v : AV} {t : Ty} {d : t.den} {u : Value} (hr : readV st.bx v t = some d) (hv : AVR g st.bx w v [u])
    (hlend : (∃ b, boxOf v = some b) → t.flat = true ∨ (lent = true ∧ ∀ b, boxOf v = some b → notVia st.bx b o = true)) : ∃ cs, Rd w (Sc lent g st Ps) t .shr none' cs d ∧ u = toV t cs := by
  obtain ⟨cs, h1, h2⟩ := readV_sound h hr hv
  refine ⟨cs, ?_, h2⟩
  by_cases hb : ∃ b, boxOf v = some b
  · rcases hlend hb with hf | ⟨hl, hn⟩
    · exact Rd_flat w w _ _ t .shr none' _ cs d hf (full_shr t) h1
    · refine Rd_frame w w (SB g v) _ (fun y hy => ⟨?_, rfl⟩) _ _ _ _ _ (fun _ hx => hx.elim) h1
      rcases hy with hy | ⟨b, hb, hy⟩
      · exact .inl hy
      · have hxx : ∃ x, look st.bx b = some x := by
          cases v <;> simp [boxOf] at hb
          · subst hb
            simp only [readV] at hr
            split at hr
            · rename_i x hx; exact ⟨x, hx⟩
            · simp at hr
          · subst hb
            simp only [readV] at hr
            rename_i b p lo hi
            cases hx : look st.bx b with
            | none => rw [hx] at hr; simp at hr
            | some x => exact ⟨x, rfl⟩
        obtain ⟨x, hx⟩ := hxx
        obtain ⟨x0, k1, _⟩ := hL.bx b x hx
        exact .inr ⟨hl, ⟨b, x, hx, .inl hy⟩, lend_place (Ps := Ps) h0 hP k1 (notVia_spec (hn b hb)) (hL.F b y hy)⟩
  · refine Rd_frame w w (SB g v) _ (fun y hy => ⟨?_, rfl⟩) _ _ _ _ _ (fun _ hx => hx.elim) h1
    rcases hy with hy | ⟨b, hb', hy⟩
    · exact .inl hy
    · exact absurd ⟨b, hb'⟩ hb

theorem sp_sound {lent : Bool} {g0 : Gh} {st0 : St} {o : List (Nat × Path)} {Ps : List (Nat × Nat × Nat)} (h0 : Rel E n g0 st0 a w) (hL : Less g0 st0 g st) (h : Rel E n g st a w)
    (hP : ∀ q ∈ Ps, ∃ r ∈ o, ∃ x x0, look st.bx r.1 = some x ∧ look st0.bx r.1 = some x0 ∧ x.t = x0.t ∧ ((viaSl x.t r.2 = true ∧ g0.F r.1 q.1) ∨ (viaSl x.t r.2 = false ∧ x0.r = true ∧ (g0.loc r.1).1 = q.1)))
    {v : AV} {t : Ty} {d : t.den} {u : Value} (hr : readP st.bx v t = some d) (hv : AVR g st.bx w v [u]) (hlend : (match v with
      | .sptr _ _ => true
      | .ptr b _ => lent && notIn o b
      | _ => false) = true) : ∃ blk off, u = .pointer (some ⟨blk, off, none⟩) ∧ Sc lent g st Ps blk ∧ Rd w (Sc lent g st Ps) t .shr none' (cellsAt w blk off t.size) d := by
  cases v with
  | sptr t' d' =>
    simp only [readP] at hr
    have := Dat.as_some hr
    simp only [Sigma.mk.injEq] at this
    obtain ⟨rfl, hd⟩ := this
    simp only [heq_eq_eq] at hd
    subst hd
    obtain ⟨blk, off, he, hS, hrd⟩ := hv
    simp only [List.cons.injEq, and_true] at he
    exact ⟨blk, off, he, .inl hS, Rd_frame w w g.S _ (fun y hy => ⟨.inl hy, rfl⟩) _ _ _ _ _ (fun _ hx => hx.elim) hrd⟩
  | ptr b p =>
    simp only [Bool.and_eq_true] at hlend
    simp only [readP] at hr
    split at hr
    · rename_i x hx
      obtain ⟨hc, hr⟩ := cond_none hr
      simp only [Bool.and_eq_true] at hc
      have hr := as_bind hr
      obtain ⟨t', cs, blk, off, he, hw, hLc, hlen⟩ := ptr_read h hv hx hc.1
      obtain ⟨d', F', m', hg, hF', hfu, hrd⟩ := read_walk w g.S p x.t x.m (g.F b) (g.cs b) x.d _ t' cs _ (h.rd b x hx) hw hc.1
      rw [hr] at hg
      simp only [Option.some.injEq, Sigma.mk.injEq] at hg
      obtain ⟨rfl, hg⟩ := hg
      simp only [heq_eq_eq] at hg
      subst hg
      obtain ⟨x0, k1, _, k3⟩ := hL.bx b x hx
      have hni := notIn_spec hlend.2
      have hnF : ∀ y, g.F b y → Sc lent g st Ps y := fun y hy => .inr ⟨hlend.1, ⟨b, x, hx, .inl hy⟩, lend_place (Ps := Ps) h0 hP k1 (fun q hq hb => absurd hb (hni q hq)) (hL.F b y hy)⟩
      refine ⟨blk, off, he, ?_, ?_⟩
      · rcases walk_blk w g.S p _ _ _ _ _ _ _ _ _ _ (h.rd b x hx) hw hc.1 with k | k | ⟨o2, k⟩
        · exact .inl k
        · exact hnF _ k
        · obtain ⟨q1, q2⟩ := locOf_some k
          refine .inr ⟨hlend.1, ⟨b, x, hx, .inr ⟨q1, by rw [q2]⟩⟩, fun q hq he => ?_⟩
          obtain ⟨r, hr, x', x0', j1, j2, j3, j4⟩ := hP q hq
          have hne := hni r hr
          have e1 : (g0.loc b).1 = blk := by rw [← hL.loc, q2]
          rcases j4 with ⟨_, j5⟩ | ⟨_, j5, j6⟩
          · exact h0.dL b r.1 x0 x0' k1 j2 (k3 ▸ q1) (by rw [e1, ← he]; exact j5)
          · exact h0.dLL r.1 b x0' x0 j2 k1 j5 (k3 ▸ q1) hne (by rw [j6, e1, he])
      · have hcs := hLc.cellsAt
        rw [hlen] at hcs
        rw [hcs]
        exact Rd_share w g.S _ (fun y hy => .inl hy) _ m' F' none' _ _ (fun y hy => hnF y (hF' y hy)) (hfu hc.2) hrd
    · simp at hr
  | _ => simp [readP] at hr

end
end Go.Eng
end

section
/- The engine: the arguments of a call, all of them. -/
namespace Go.Eng
open Go

section
variable {P : Program} {E : En} {cx : Cx} {n : Nat} {g : Gh} {st : St} {a : Act} {w : World} {R : Type}

/-- What is known of the places behind the pointers that are handed over. -/
def PsOk (g0 : Gh) (bx0 : List (Nat × Bx)) (st : St) (o : List (Nat × Path)) (Ps : List (Nat × Nat × Nat)) : Prop :=
  ∀ q ∈ Ps, ∃ r ∈ o, ∃ x x0, look st.bx r.1 = some x ∧ look bx0 r.1 = some x0 ∧ x.t = x0.t ∧ ((viaSl x.t r.2 = true ∧ g0.F r.1 q.1) ∨ (viaSl x.t r.2 = false ∧ x0.r = true ∧ (g0.loc r.1).1 = q.1))

theorem caps_sound {lent : Bool} {g0 : Gh} {st0 : St} {o : List (Nat × Path)} {Ps : List (Nat × Nat × Nat)} (h0 : Rel E n g0 st0 a w) (hL : Less g0 st0 g st) (h : Rel E n g st a w) (hP : PsOk g0 st0.bx st o Ps) :
    ∀ {kc : List PK} {c : AV} {ws : List Value} {ds : List Dat}, readCaps st.bx kc c = some ds → AVR g st.bx w c ws → (capsS c = true ∨ lent = true) → capsB o c = true → Sps w (Sc lent g st Ps) kc ws ds
  | [], c, ws, ds, hr, hv, h1, h2 => by
    cases c <;> simp [readCaps] at hr
    subst hr
    have : ws = [] := hv
    subst this
    exact .nil
  | k :: kc, c, ws, ds, hr, hv, h1, h2 => by
    cases k <;> cases c <;> simp only [readCaps] at hr <;> (try (simp at hr; done))
    rename_i t v c
    split at hr
    · rename_i d r hd hr'
      simp only [Option.some.injEq] at hr
      subst hr
      obtain ⟨u, us, rfl, hv1, hv2⟩ := hv
      cases v <;> simp only [capsB] at h2 <;> (try (simp at h2; done))
      · rename_i b p
        simp only [Bool.and_eq_true] at h2
        have hl : lent = true := by
          rcases h1 with h1 | h1
          · simp [capsS] at h1
          · exact h1
        obtain ⟨blk, off, rfl, k1, k2⟩ := sp_sound (lent := lent) h0 hL h hP hd hv1 (by simp [hl, h2.1])
        exact .cons k1 k2 (caps_sound h0 hL h hP hr' hv2 (.inr hl) h2.2)
      · rename_i t' d'
        obtain ⟨blk, off, rfl, k1, k2⟩ := sp_sound (lent := lent) h0 hL h hP hd hv1 rfl
        exact .cons k1 k2 (caps_sound h0 hL h hP hr' hv2 (by simpa only [capsS] using h1) h2)
    · simp at hr

theorem args_sound {lent : Bool} {g0 : Gh} {st0 : St} {O : List (Nat × Path)} {PS : List (Nat × Nat × Nat)} (h0 : Rel E n g0 st0 a w) (hL : Less g0 st0 g st) (h : Rel E n g st a w) (hP : PsOk g0 st0.bx st O PS)
    {ks : List PK} {vs : List AV} {us : List Value} {l : List (Option Dat)} {o : List (Nat × Path)} {Fs : List (Nat → Prop)} {Ps : List (Nat × Nat × Nat)} (hT : Took E w g0 st0.bx g st ks vs us l o Fs Ps) :
    ∀ {ds : List Dat}, readArgs st.bx ks vs l = some ds → (lentOk ks vs = true ∨ lent = true) → lendB st.bx O ks vs = true → ArgsOk w (Sc lent g st PS) ks us ds Fs Ps := by
  have hSS : ∀ y, g.S y → Sc lent g st PS y ∧ w.heap[y]? = w.heap[y]? := fun y hy => ⟨.inl hy, rfl⟩
  induction hT with
  | nil =>
    intro ds hr _ _
    simp only [readArgs, Option.some.injEq] at hr
    subst hr
    exact .nil
  | @bor t v u ks vs us l o Fs Ps hv hT ih =>
    intro ds hr h1 h2
    simp only [readArgs] at hr
    split at hr
    · rename_i d r hd hr'
      simp only [Option.some.injEq] at hr
      subst hr
      simp only [lendB, Bool.and_eq_true] at h2
      have h1' : lentOk ks vs = true ∨ lent = true := by
        rcases h1 with h1 | h1
        · simp only [lentOk, Bool.and_eq_true] at h1; exact .inl h1.2
        · exact .inr h1
      obtain ⟨cs, k1, k2⟩ := bor_sound (lent := lent) h0 hL h hP hd hv (by
        rintro ⟨b, hb⟩
        cases v <;> simp only [boxOf] at hb <;> (try (simp at hb; done))
        · rename_i b' p
          simp only [Option.some.injEq] at hb
          subst hb
          rcases h1 with h1 | h1
          · simp only [lentOk, Bool.and_eq_true] at h1; exact .inl h1.1
          · have := h2.1
            simp only [Bool.or_eq_true] at this
            rcases this with hf | hn
            · exact .inl hf
            · exact .inr ⟨h1, fun b hb => by simp only [boxOf, Option.some.injEq] at hb; subst hb; exact hn⟩
        · rename_i b' p lo hi
          simp only [Option.some.injEq] at hb
          subst hb
          rcases h1 with h1 | h1
          · simp only [lentOk, Bool.and_eq_true] at h1; exact .inl h1.1
          · have := h2.1
            simp only [Bool.or_eq_true] at this
            rcases this with hf | hn
            · exact .inl hf
            · exact .inr ⟨h1, fun b hb => by simp only [boxOf, Option.some.injEq] at hb; subst hb; exact hn⟩)
      subst k2
      exact .bor k1 (ih hr' h1' h2.2)
    · simp at hr
  | @sp t v u ks vs us l o Fs Ps hv hT ih =>
    intro ds hr h1 h2
    simp only [readArgs] at hr
    split at hr
    · rename_i d r hd hr'
      simp only [Option.some.injEq] at hr
      subst hr
      simp only [lendB, Bool.and_eq_true] at h2
      have h1' : lentOk ks vs = true ∨ lent = true := by
        rcases h1 with h1 | h1
        · simp only [lentOk, Bool.and_eq_true] at h1; exact .inl h1.2
        · exact .inr h1
      obtain ⟨blk, off, rfl, k1, k2⟩ := sp_sound (lent := lent) h0 hL h hP hd hv (by
        cases v <;> simp only [readP] at hd <;> (try (simp at hd; done))
        · rcases h1 with h1 | h1
          · simp [lentOk] at h1
          · simp only [h1, Bool.true_and]; exact h2.1
        · rfl)
      exact .sp k1 k2 (ih hr' h1' h2.2)
    · simp at hr
  | @fnc f kc v u ks vs us l o Fs Ps hv hT ih =>
    intro ds hr h1 h2
    simp only [readArgs] at hr
    split at hr
    · rename_i f' c
      obtain ⟨hff, hr2⟩ := cond_none hr
      clear hr
      have hff := Nat.eq_of_beq_eq_true hff
      subst hff
      split at hr2
      · rename_i d r hd hr'
        simp only [Option.some.injEq] at hr2
        subst hr2
        simp only [lendB, Bool.and_eq_true] at h2
        have h1' : (lentOk ks vs = true ∨ lent = true) ∧ (capsS c = true ∨ lent = true) := by
          rcases h1 with h1 | h1
          · simp only [lentOk, Bool.and_eq_true] at h1; exact ⟨.inl h1.2, .inl h1.1⟩
          · exact ⟨.inr h1, .inr h1⟩
        obtain ⟨ws, k1, k2⟩ := hv
        simp only [List.cons.injEq, and_true] at k1
        subst k1
        exact .fnc (caps_sound h0 hL h hP hd k2 h1'.2 h2.1) (ih hr' h1'.1 h2.2)
      · simp at hr2
    · simp at hr
  | @own t m v F cs d ks vs us l o Fs Ps hrd hf hH hF hFs hT ih =>
    intro ds hr h1 h2
    simp only [readArgs] at hr
    split at hr
    · rename_i r hr'
      simp only [Option.some.injEq] at hr
      subst hr
      simp only [lendB, Bool.and_eq_true] at h2
      exact .own (Rd_frame w w _ _ hSS _ _ _ _ _ (fun _ _ => rfl) hrd) hf (ih hr' (by simpa only [lentOk] using h1) h2.2)
    · simp at hr
  | @ptr t m b p x x0 F cs d blk off ks vs us l o Fs Ps hrd hf hH hF hFs hx0 hx ht hw hLc hn hv hT ih =>
    intro ds hr h1 h2
    simp only [readArgs] at hr
    split at hr
    · rename_i r hr'
      simp only [Option.some.injEq] at hr
      subst hr
      simp only [lendB] at h2
      exact .ptr (Rd_frame w w _ _ hSS _ _ _ _ _ (fun _ _ => rfl) hrd) hf hLc (ih hr' (by simpa only [lentOk] using h1) h2)
    · simp at hr

/-- What is handed over holds nothing of what lies behind this pointer. -/
theorem Took.noBlk {g0 : Gh} {st0 : St} {O : List (Nat × Path)} (h0 : Rel E n g0 st0 a w) {ks : List PK} {vs : List AV} {us : List Value} {l : List (Option Dat)} {o : List (Nat × Path)} {Fs : List (Nat → Prop)} {Ps : List (Nat × Nat × Nat)}
    (hT : Took E w g0 st0.bx g st ks vs us l o Fs Ps) (h2 : lendB st.bx O ks vs = true) {b : Nat} {p : Path} {x x0 : Bx} {blk : Nat} (hb : (b, p) ∈ O) (hn : notIn o b = true) (hx : look st.bx b = some x) (hx0 : look st0.bx b = some x0) (ht : x.t = x0.t)
    (hv : (viaSl x.t p = true ∧ g0.F b blk) ∨ (viaSl x.t p = false ∧ x0.r = true ∧ (g0.loc b).1 = blk)) : ∀ F ∈ Fs, ¬ F blk := by
  have key : ∀ b' x0', look st0.bx b' = some x0' → (b' = b → viaSl x.t p = false) → ¬ g0.F b' blk := by
    intro b' x0' hb' hne hF
    rcases hv with ⟨h1, h2⟩ | ⟨h1, h2, h3⟩
    · by_cases hbb : b' = b
      · rw [hne hbb] at h1; simp at h1
      · exact h0.dF b' b x0' x0 blk hb' hx0 hbb hF h2
    · exact h0.dL b b' x0 x0' hx0 hb' h2 (h3 ▸ hF)
  induction hT with
  | nil => simp
  | bor _ _ ih => simp only [lendB, Bool.and_eq_true] at h2; exact ih h2.2 hn
  | sp _ _ ih => simp only [lendB, Bool.and_eq_true] at h2; exact ih h2.2 hn
  | fnc _ _ ih => simp only [lendB, Bool.and_eq_true] at h2; exact ih h2.2 hn
  | @own t m v F cs d ks vs us l o Fs Ps hrd hf hH hF hFs hT ih =>
    simp only [lendB, Bool.and_eq_true] at h2
    intro F' hF'
    rcases List.mem_cons.1 hF' with rfl | hF'
    · intro hh
      obtain ⟨b', x0', k1, k2, k3, k4⟩ := hF _ hh
      refine key b' x0' k1 (fun hbb => ?_) k2
      subst hbb
      have hnv : notVia st.bx b' O = true := by
        cases v <;> simp only [boxOf] at k3 <;> (try (simp at k3; done)) <;> simp only [Option.some.injEq] at k3 <;> subst k3 <;> simpa [k4] using h2.1
      obtain ⟨x', j1, j2⟩ := notVia_spec hnv _ hb rfl
      rw [hx] at j1
      simp only [Option.some.injEq] at j1
      subst j1
      exact j2
    · exact ih h2.2 hn F' hF'
  | @ptr t m b2 p2 x2 x02 F cs d blk2 off ks vs us l o Fs Ps hrd hf hH hF hFs hx02 hx2 ht2 hw hLc hnn hv2 hT ih =>
    simp only [lendB] at h2
    simp only [notIn, beq_dec, Bool.and_eq_true, Bool.not_eq_true', decide_eq_false_iff_not] at hn
    intro F' hF'
    rcases List.mem_cons.1 hF' with rfl | hF'
    · exact fun hh => key b2 x02 hx02 (fun hbb => absurd hbb hn.1) (hF _ hh)
    · exact ih h2 hn.2 F' hF'

theorem Took.apart {lent : Bool} {g0 : Gh} {st0 : St} {O : List (Nat × Path)} (h0 : Rel E n g0 st0 a w) {ks : List PK} {vs : List AV} {us : List Value} {l : List (Option Dat)} {o : List (Nat × Path)} {Fs : List (Nat → Prop)} {Ps : List (Nat × Nat × Nat)}
    (hT : Took E w g0 st0.bx g st ks vs us l o Fs Ps) (h2 : lendB st.bx O ks vs = true) (hd : distB o = true) (ho : ∀ q ∈ o, q ∈ O) :
    (∀ F ∈ Fs, Held E g st w F) ∧ Fs.Pairwise (fun F G => ∀ y, F y → ¬ G y) ∧ (∀ F ∈ Fs, ∀ q ∈ Ps, ¬ F q.1) ∧ Ps.Pairwise (fun q q' => q.1 ≠ q'.1) := by
  induction hT with
  | nil => simp
  | bor _ _ ih => simp only [lendB, Bool.and_eq_true] at h2; exact ih h2.2 hd ho
  | sp _ _ ih => simp only [lendB, Bool.and_eq_true] at h2; exact ih h2.2 hd ho
  | fnc _ _ ih => simp only [lendB, Bool.and_eq_true] at h2; exact ih h2.2 hd ho
  | @own t m v F cs d ks vs us l o Fs Ps hrd hf hH hF hFs hT ih =>
    simp only [lendB, Bool.and_eq_true] at h2
    obtain ⟨i1, i2, i3, i4⟩ := ih h2.2 hd ho
    refine ⟨?_, ?_, ?_, i4⟩
    · intro F' hF'
      rcases List.mem_cons.1 hF' with rfl | hF'
      · exact hH
      · exact i1 F' hF'
    · exact List.pairwise_cons.2 ⟨fun G hG y hy => hFs G hG y hy, i2⟩
    · intro F' hF' q hq
      rcases List.mem_cons.1 hF' with rfl | hF'
      · intro hh
        obtain ⟨b', x0', k1, k2, k3, k4⟩ := hF _ hh
        have hnv : notVia st.bx b' O = true := by
          cases v <;> simp only [boxOf] at k3 <;> (try (simp at k3; done)) <;> simp only [Option.some.injEq] at k3 <;> subst k3 <;> simpa [k4] using h2.1
        have hP : PsOk g0 st0.bx st O Ps := fun q hq => by
          obtain ⟨r, hr, rest⟩ := hT.ps q hq
          exact ⟨r, ho r hr, rest⟩
        exact lend_place h0 hP k1 (notVia_spec hnv) k2 q hq rfl
      · exact i3 F' hF' q hq
  | @ptr t m b p x x0 F cs d blk off ks vs us l o Fs Ps hrd hf hH hF hFs hx0 hx ht hw hLc hn hv hT ih =>
    simp only [lendB] at h2
    simp only [distB, Bool.and_eq_true] at hd
    obtain ⟨i1, i2, i3, i4⟩ := ih h2 hd.2 (fun q hq => ho q (by simp [hq]))
    have hPs := hT.ps
    have hne := notIn_spec hd.1
    refine ⟨?_, ?_, ?_, ?_⟩
    · intro F' hF'
      rcases List.mem_cons.1 hF' with rfl | hF'
      · exact hH
      · exact i1 F' hF'
    · exact List.pairwise_cons.2 ⟨fun G hG y hy => hFs G hG y hy, i2⟩
    · intro F' hF' q hq
      rcases List.mem_cons.1 hF' with rfl | hF'
      · rcases List.mem_cons.1 hq with rfl | hq
        · exact hn
        · exact fun hh => lend_place (o := o) h0 hPs hx0 (fun r hr hb => absurd hb (hne r hr)) (hF _ hh) q hq rfl
      · rcases List.mem_cons.1 hq with rfl | hq
        · exact hT.noBlk h0 h2 (ho (b, p) (by simp)) hd.1 hx hx0 ht hv F' hF'
        · exact i3 F' hF' q hq
    · refine List.pairwise_cons.2 ⟨fun q hq he => ?_, i4⟩
      obtain ⟨r, hr, x', x0', j1, j2, j3, j4⟩ := hPs q hq
      have hrb := hne r hr
      rcases hv with ⟨v1, v2⟩ | ⟨v1, v2, v3⟩ <;> rcases j4 with ⟨j4, j5⟩ | ⟨j4, j5, j6⟩
      · exact h0.dF r.1 b x0' x0 _ j2 hx0 hrb j5 (by rw [← he]; exact v2)
      · exact h0.dL r.1 b x0' x0 j2 hx0 j5 (by rw [j6, ← he]; exact v2)
      · exact h0.dL b r.1 x0 x0' hx0 j2 v2 (by rw [v3]; simp only at he; rw [he]; exact j5)
      · exact h0.dLL b r.1 x0 x0' hx0 j2 v2 j5 (Ne.symm hrb) (by rw [v3, j6]; exact he)

/-- All that a contract asks of the arguments. -/
theorem Took.all {lent : Bool} {g0 : Gh} {st0 : St} (h0 : Rel E n g0 st0 a w) (hL : Less g0 st0 g st) (h : Rel E n g st a w) {ks : List PK} {vs : List AV} {us : List Value} {l : List (Option Dat)} {o : List (Nat × Path)} {Fs : List (Nat → Prop)} {Ps : List (Nat × Nat × Nat)}
    (hT : Took E w g0 st0.bx g st ks vs us l o Fs Ps) {ds : List Dat} (hr : readArgs st.bx ks vs l = some ds) (h1 : lentOk ks vs = true ∨ lent = true) (h2 : lendB st.bx o ks vs = true) (hd : distB o = true) :
    ArgsOk w (Sc lent g st Ps) ks us ds Fs Ps ∧ Apart w (Sc lent g st Ps) Fs Ps ∧ (∀ F ∈ Fs, Held E g st w F) := by
  have hPs : PsOk g0 st0.bx st o Ps := hT.ps
  obtain ⟨i1, i2, i3, i4⟩ := hT.apart (lent := lent) h0 h2 hd (fun _ hq => hq)
  refine ⟨args_sound h0 hL h hPs hT hr h1 h2, ⟨i2, ?_, fun F hF y hy => (i1 F hF).bd y hy, i3, ?_, i4, ?_⟩, i1⟩
  · intro F hF y hy hS
    rcases hS with hS | ⟨_, ⟨b, x, hx, hS | ⟨hr, hS⟩⟩, _⟩
    · exact (i1 F hF).dS y hy hS
    · exact (i1 F hF).dF b x y hx hS hy
    · exact (i1 F hF).dL b x hx hr (hS ▸ hy)
  · intro q hq hS
    rcases hS with hS | ⟨_, _, hS⟩
    · obtain ⟨r, hr, x', x0', j1, j2, j3, j4⟩ := hPs q hq
      rw [hL.S] at hS
      rcases j4 with ⟨j4, j5⟩ | ⟨j4, j5, j6⟩
      · exact h0.dS r.1 x0' _ j2 j5 hS
      · exact h0.dLS r.1 x0' j2 j5 (j6 ▸ hS)
    · exact hS q hq rfl
  · intro y hy
    rcases hy with hy | ⟨_, ⟨b, x, hx, hy | ⟨hr, hy⟩⟩, _⟩
    · exact h.bS y hy
    · exact h.bF b x y hx hy
    · exact hy ▸ h.lt hx hr

end
end Go.Eng
end

section
/- The engine: what comes back from a call: what lies behind pointers. -/
namespace Go.Eng
open Go

section
variable {P : Program} {E : En} {cx : Cx} {n : Nat} {g : Gh} {st : St} {a : Act} {w : World} {R : Type}

theorem noShr_own : ∀ t : Ty, noShr t .own = true
  | .pair a b => by simp only [noShr, Md.fst, Md.snd, noShr_own a, noShr_own b, Bool.and_self]
  | .slice e => rfl
  | .unit | .int _ | .bool | .str | .arr _ _ | .iface => rfl

/-- What has nothing shared in it reads the same whatever is shared. -/
theorem Rd_noShr (w : World) (S S2 : Nat → Prop) : ∀ (t : Ty) (m : Md) (F : Nat → Prop) (cs : List Value) (d : t.den), noShr t m = true → Rd w S t m F cs d → Rd w S2 t m F cs d
  | .unit, m, F, cs, d, hn, h => h
  | .int k, m, F, cs, d, hn, h => h
  | .bool, m, F, cs, d, hn, h => h
  | .str, m, F, cs, d, hn, h => h
  | .iface, m, F, cs, d, hn, h => h
  | .arr k e, m, F, cs, d, hn, h => by
    cases m <;> simp only [Rd] at h ⊢
    all_goals first
      | exact h
      | exact ⟨h.1, h.2.1, h.2.2.1, fun i hi => Rd_flat w w S S2 e .shr _ _ _ _ h.2.2.1 (full_shr e) (h.2.2.2 i hi)⟩
  | .slice e, m, F, cs, d, hn, h => by
    cases m <;> simp only [noShr] at hn <;> (try (simp at hn; done))
    simp only [Rd] at h ⊢
    obtain ⟨base, len, cap, h1, h2, h3, h4⟩ := h
    refine ⟨base, len, cap, h1, h2, h3, ?_⟩
    rcases h4 with h4 | ⟨b, off, c, el, k1, k2, k3, k4, Fi, k5, k6, k7⟩
    · exact .inl h4
    · exact .inr ⟨b, off, c, el, k1, k2, k3, k4, Fi, k5, k6, fun i hi => Rd_noShr w S S2 e _ _ _ _ (by simp only [Md.elem]; exact noShr_own e) (k7 i hi)⟩
  | .pair x y, m, F, cs, d, hn, h => by
    simp only [noShr, Bool.and_eq_true] at hn
    simp only [Rd] at h ⊢
    obtain ⟨F1, F2, h1, h2, h3, r1, r2⟩ := h
    exact ⟨F1, F2, h1, h2, h3, Rd_noShr w S S2 x _ _ _ _ hn.1 r1, Rd_noShr w S S2 y _ _ _ _ hn.2 r2⟩

/-- The later world, but for some blocks, which are as they were. -/
def mix (w w' : World) (Ps : List (Nat × Nat × Nat)) : World :=
  { w' with heap := w'.heap.mapIdx fun y o => if Ps.any (fun q => q.1 == y) then (w.heap[y]?).getD o else o }

theorem mix_size (w w' : World) (Ps : List (Nat × Nat × Nat)) : (mix w w' Ps).heap.size = w'.heap.size := by simp [mix]

theorem mix_out {w w' : World} {Ps : List (Nat × Nat × Nat)} {y : Nat} (h : ∀ q ∈ Ps, q.1 ≠ y) : (mix w w' Ps).heap[y]? = w'.heap[y]? := by
  simp only [mix, Array.getElem?_mapIdx]
  have : Ps.any (fun q => q.1 == y) = false := by
    simp only [List.any_eq_false, beq_iff_eq]
    exact h
  cases w'.heap[y]? <;> simp [this]

theorem mix_in {w w' : World} {Ps : List (Nat × Nat × Nat)} {y : Nat} {o : Obj} (h : ∃ q ∈ Ps, q.1 = y) (hw : w.heap[y]? = some o) (hs : y < w'.heap.size) : (mix w w' Ps).heap[y]? = some o := by
  simp only [mix, Array.getElem?_mapIdx]
  have : Ps.any (fun q => q.1 == y) = true := by
    simp only [List.any_eq_true, beq_iff_eq]
    exact h
  rw [Array.getElem?_eq_getElem hs]
  simp [this, hw]

theorem mix_nil (w w' : World) : mix w w' [] = w' := by
  unfold mix
  have : (w'.heap.mapIdx fun y o => if ([] : List (Nat × Nat × Nat)).any (fun q => q.1 == y) then (w.heap[y]?).getD o else o) = w'.heap := by
    apply Array.ext_getElem?
    intro y
    simp only [Array.getElem?_mapIdx, List.any_nil, Bool.false_eq_true, if_false]
    cases w'.heap[y]? <;> rfl
  rw [this]

theorem spl_mix {w w' : World} {q : Nat × Nat × Nat} {Ps : List (Nat × Nat × Nat)} {cs : List Value} (hd : ∀ q' ∈ Ps, q.1 ≠ q'.1) {c0 c : Array Value} {el : TypeId} (h0 : w.heap[q.1]? = some (.cells c0 el (0, 0))) (h1 : w'.heap[q.1]? = some (.cells c el (0, 0)))
    (hs : c.size = c0.size) (ho : ∀ i, i < q.2.1 ∨ q.2.1 + q.2.2 ≤ i → c.toList[i]? = c0.toList[i]?) (hl : cs.length = q.2.2) (hb : q.2.1 + cs.length ≤ c.toList.length) (hc : chunk c.toList q.2.1 cs.length = cs) :
    spl (mix w w' (q :: Ps)) q.1 q.2.1 cs = mix w w' Ps := by
  have hlt : q.1 < w'.heap.size := by
    rcases Nat.lt_or_ge q.1 w'.heap.size with h | h
    · exact h
    · rw [Array.getElem?_eq_none h] at h1; simp at h1
  have hcc : splice c0.toList q.2.1 cs = c.toList := by
    have hs' : c.toList.length = c0.toList.length := by simpa using hs
    apply List.ext_getElem?
    intro i
    rw [getElem?_splice (by omega)]
    by_cases a1 : i < q.2.1
    · rw [if_pos a1]; exact (ho i (.inl a1)).symm
    · rw [if_neg a1]
      by_cases a2 : i < q.2.1 + cs.length
      · rw [if_pos a2]
        conv => lhs; rw [← hc]
        simp only [chunk, List.getElem?_take, List.getElem?_drop]
        rw [if_pos (by omega)]
        congr 1
        omega
      · rw [if_neg a2]; exact (ho i (.inr (by omega))).symm
  have hheap : (spl (mix w w' (q :: Ps)) q.1 q.2.1 cs).heap = (mix w w' Ps).heap := by
    apply Array.ext_getElem?
    intro y
    by_cases hy : y = q.1
    · subst hy
      rw [spl_eq (mix_in ⟨q, by simp, rfl⟩ h0 hlt), mix_out (fun q' hq' he => hd q' hq' he.symm), h1, hcc]
    · rw [spl_ne hy]
      have : (q.1 == y) = false := by simpa using Ne.symm hy
      simp only [mix, Array.getElem?_mapIdx, List.any_cons, this, Bool.false_or]
  have : spl (mix w w' (q :: Ps)) q.1 q.2.1 cs = { mix w w' Ps with heap := (spl (mix w w' (q :: Ps)) q.1 q.2.1 cs).heap } := rfl
  rw [this, hheap]

/-- More is shared. -/
theorem Rel.growS (h : Rel E n g st a w) {S2 : Nat → Prop} (h1 : ∀ y, g.S y → S2 y) (h2 : ∀ y, S2 y → y < w.heap.size ∧ (g.S y ∨ ((∀ b x, look st.bx b = some x → ¬ g.F b y) ∧ (∀ b x, look st.bx b = some x → x.r = true → (g.loc b).1 ≠ y) ∧ (E.S y ∨ E.F y ∨ E.w.heap.size ≤ y)))) :
    Rel E n { g with S := S2 } st a w := by
  have hS : ∀ y, g.S y → S2 y ∧ w.heap[y]? = w.heap[y]? := fun y hy => ⟨h1 y hy, rfl⟩
  exact { h with
    tm := fun k v hv => AVR_step (g := g) (g' := { g with S := S2 }) (bx := st.bx) (bx' := st.bx) (fun _ _ _ => true) hS (fun b p q _ x hx ho => ⟨x, hx, ho, fun t' cs' l' hw => ⟨cs', hw, fun _ => rfl⟩⟩) v _ (AV.all_true v) (h.tm k v hv)
    rd := fun b x hx => Rd_frame w w g.S S2 hS _ _ _ _ _ (fun _ _ => rfl) (h.rd b x hx)
    dS := fun b x y hx hy hs => by
      rcases (h2 y hs).2 with k | ⟨k, _⟩
      · exact h.dS b x y hx hy k
      · exact k b x hx hy
    dLS := fun b x hx hr hs => by
      rcases (h2 _ hs).2 with k | ⟨_, k, _⟩
      · exact h.dLS b x hx hr k
      · exact k b x hx hr rfl
    bS := fun y hy => (h2 y hy).1
    oS := fun y hy => h1 y (h.oS y hy)
    nS := fun y hy => by
      rcases (h2 y hy).2 with k | ⟨_, _, k⟩
      · exact h.nS y k
      · exact k
    gl := h.gl.step hS }

inductive All2 {α β : Type} (p : α → β → Prop) : List α → List β → Prop where
  | nil : All2 p [] []
  | cons {x y l r} : p x y → All2 p l r → All2 p (x :: l) (y :: r)

theorem All2.impM {α β : Type} {p q : α → β → Prop} {l : List α} {r : List β} (h : All2 p l r) (hh : ∀ x ∈ l, ∀ y, p x y → q x y) : All2 q l r := by
  induction h with
  | nil => exact .nil
  | cons h1 _ ih => exact .cons (hh _ (by simp) _ h1) (ih fun x hx => hh x (by simp [hx]))

theorem All2.imp {α β : Type} {p q : α → β → Prop} {l : List α} {r : List β} (h : All2 p l r) (hh : ∀ x y, p x y → q x y) : All2 q l r := by
  induction h with
  | nil => exact .nil
  | cons h1 _ ih => exact .cons (hh _ _ h1) ih

theorem putOuts_sound {w' : World} {S' : Nat → Prop} {strict : Bool} : ∀ {o : List (Nat × Path)} {ks : List (Ty × Md)} {us : List Dat} {Ps : List (Nat × Nat × Nat)} {Os : List (Nat → Prop)} {g : Gh} {st : St} {k : St → Option R} {r : R}
    (Rs : List (Nat → Prop)), putOutsK strict st o ks us k = some r → Rel E n g st a (mix w w' Ps) → OutsOk w' S' Ps ks us Os → (∀ t m F cs (d : Ty.den t), (t, m) ∈ ks → Rd w' S' t m F cs d → Rd w' g.S t m F cs d) →
    distB o = true → All2 (fun (x : Nat × Path) (q : Nat × Nat × Nat) => ∃ (bx : Bx) (t : Ty) (cs : List Value), look st.bx x.1 = some bx ∧ okR bx.t bx.m x.2 = true ∧ walk (mix w w' Ps) bx.t x.2 (g.cs x.1) (locOf g x.1 bx) = some (t, cs, some (q.1, q.2.1))) o Ps →
    Ps.Pairwise (fun q q' => q.1 ≠ q'.1) → (∀ q ∈ Ps, ∃ c0 c el, w.heap[q.1]? = some (.cells c0 el (0, 0)) ∧ w'.heap[q.1]? = some (.cells c el (0, 0)) ∧ c.size = c0.size ∧ ∀ i, i < q.2.1 ∨ q.2.1 + q.2.2 ≤ i → c.toList[i]? = c0.toList[i]?) →
    (∀ y, g.S y → ∀ q ∈ Ps, q.1 ≠ y) → (∀ F ∈ Os, ∀ y, F y → ∀ q ∈ Ps, q.1 ≠ y) → (∀ F ∈ Rs ++ Os, Held E g st (mix w w' Ps) F) → (Rs ++ Os).Pairwise (fun F H => ∀ y, F y → ¬ H y) →
    ∃ g' st', k st' = some r ∧ Rel E n g' st' a w' ∧ g'.S = g.S ∧ (∀ F ∈ Rs, Held E g' st' w' F)
  | [], ks, us, Ps, Os, g, st, k, r, Rs, hk, h, hO, hS', hd, hF2, hpw, hkp, hSq, hOq, hH, hdis => by
    cases hF2
    cases hO
    rw [mix_nil] at h hH
    simp only [putOutsK] at hk
    exact ⟨g, st, hk, h, rfl, fun F hF => hH F (by simp [hF])⟩
  | (b, p) :: o, ks, us, Ps, Os, g, st, k, r, Rs, hk, h, hO, hS', hd, hF2, hpw, hkp, hSq, hOq, hH, hdis => by
    cases hF2 with
    | @cons _ q _ Ps hq hF2 =>
    cases hO with
    | @cons t m F cs d blk off _ ks us Os hrd hfu hLoc hO =>
    simp only [putOutsK] at hk
    obtain ⟨x, t', cs', hx, _, hw⟩ := hq
    rw [hx] at hk
    simp only [Dat.as_self] at hk
    split at hk
    · rename_i d' hd'
      obtain ⟨hc, hk⟩ := cond_none hk
      simp only [Bool.and_eq_true] at hc
      have hk2 := fltK_ok hk
      simp only [] at hw
      have htt : t' = t := by
        have h1 := walk_ty _ p x.t _ _ _ _ _ hw
        have h2 := setD_ty p x.t _ _ _ hd'
        rw [h1] at h2
        exact Option.some.inj h2
      subst htt
      simp only [distB, Bool.and_eq_true] at hd
      have hne := notIn_spec hd.1
      have hrd2 : Rd (mix w w' ((blk, off, t'.size) :: Ps)) g.S t' m F cs d :=
        Rd_frame w' _ g.S g.S (fun y hy => ⟨hy, mix_out (hSq y hy)⟩) _ _ _ _ _ (fun y hy => mix_out (hOq F (by simp) y hy)) (hS' _ _ _ _ _ (by simp) hrd)
      have hHF := hH F (by simp)
      obtain ⟨dn, F', hdn, hF', hR⟩ := h.write hx hw hc.1 hrd2 (fun _ => hfu) hHF
      rw [hd'] at hdn
      simp only [Option.some.injEq] at hdn
      subst hdn
      have hlen := Rd_len _ _ _ _ _ _ _ hrd
      obtain ⟨c0, c, el, q1, q2, q3, q4⟩ := hkp _ (List.mem_cons_self ..)
      have hLoc' := hLoc
      obtain ⟨c1, el1, l1, l2, l3⟩ := hLoc'
      simp only at q1 q2 q3 q4 l1 l2 l3
      rw [q2] at l1
      simp only [Option.some.injEq, Obj.cells.injEq, and_true] at l1
      obtain ⟨rfl, rfl⟩ := l1
      have hpw' := List.pairwise_cons.1 hpw
      have hsm := spl_mix (w := w) (w' := w') (q := (blk, off, t'.size)) (Ps := Ps) (cs := cs) hpw'.1 q1 q2 q3 q4 hlen l2 l3
      simp only at hsm
      rw [hsm] at hR
      -- the block that is written is not another box's
      have hblk : ∀ b2 x2, look st.bx b2 = some x2 → b2 ≠ b → ¬ g.F b2 blk := by
        intro b2 x2 hx2 hne2 hh
        obtain ⟨_, _, _, _, _, hinfo, _⟩ := write_walk _ g.S p x.t x.m (g.F b) (g.cs b) x.d (locOf g b x) _ _ _ (h.rd b x hx) hw hc.1 (locOf_ne h hx)
        rcases (hinfo blk off rfl).2 with ⟨_, hb⟩ | ⟨_, o2, hb⟩
        · exact h.dF b2 b x2 x blk hx2 hx hne2 hh hb
        · obtain ⟨z1, z2⟩ := locOf_some hb
          have := h.dL b b2 x x2 hx hx2 z1
          rw [z2] at this
          exact this hh
      refine putOuts_sound (g := wrG g b x p cs F' F) Rs hk2 hR hO (fun t m F cs d hm => hS' t m F cs d (by simp [hm])) hd.2 ?_ hpw'.2 (fun q hq => hkp q (by simp [hq])) (fun y hy q hq => hSq y hy q (by simp [hq])) (fun F hF y hy q hq => hOq F (by simp [hF]) y hy q (by simp [hq])) ?_ ?_
      · -- the other places
        refine hF2.impM ?_
        intro x2 hx2
        have hb2 : x2.1 ≠ b := hne x2 hx2
        rintro q2 ⟨bx2, t2, cs2, e1, hok, e2⟩
        refine ⟨bx2, t2, cs2, by simp only [St.setB, look_putL]; rw [if_neg (Ne.symm hb2)]; exact e1, hok, ?_⟩
        have hcs2 : (wrG g b x p cs F' F).cs x2.1 = g.cs x2.1 := by simp only [wrG, if_neg hb2]
        have hlo2 : locOf (wrG g b x p cs F' F) x2.1 bx2 = locOf g x2.1 bx2 := rfl
        rw [hcs2, hlo2, ← hsm]
        rw [walk_frame _ _ g.S x2.2 bx2.t bx2.m _ _ _ _ (h.rd x2.1 bx2 e1) hok (fun y hy => spl_ne (fun he => hblk x2.1 bx2 e1 hb2 (by rw [← he]; exact hy)))]
        exact e2
      · intro F2 hF2m
        have hold := hH F2 (by rcases List.mem_append.1 hF2m with hm | hm <;> simp [hm])
        have hdF : ∀ y, F y → ¬ F2 y := by
          intro y hy hy2
          rw [List.pairwise_append] at hdis
          obtain ⟨d1, d2, d3⟩ := hdis
          rcases List.mem_append.1 hF2m with hm | hm
          · exact d3 F2 hm F (by simp) y hy2 hy
          · exact (List.pairwise_cons.1 d2).1 F2 hm y hy hy2
        refine ⟨fun b' x' y hx' hy hh => ?_, fun b' x' hx' hr' hh => ?_, fun y hh => hold.dS y hh, fun y hh => ?_, fun y hh => hold.nF y hh⟩
        · rcases hy with hy | ⟨_, hy⟩
          · have hxx : ∃ x0, look st.bx b' = some x0 := by
              simp only [St.setB, look_putL] at hx'
              by_cases hb : b = b'
              · subst hb; exact ⟨x, hx⟩
              · rw [if_neg hb] at hx'; exact ⟨x', hx'⟩
            obtain ⟨x0, hx0⟩ := hxx
            exact hold.dF b' x0 y hx0 hy.1 hh
          · exact hdF y hy hh
        · have hxx : ∃ x0, look st.bx b' = some x0 ∧ x0.r = true := by
            simp only [St.setB, look_putL] at hx'
            by_cases hb : b = b'
            · subst hb
              simp only [if_true, Option.some.injEq] at hx'
              subst hx'
              exact ⟨x, hx, hr'⟩
            · rw [if_neg hb] at hx'; exact ⟨x', hx', hr'⟩
          obtain ⟨x0, hx0, hr0⟩ := hxx
          exact hold.dL b' x0 hx0 hr0 hh
        · have := hold.bd y hh
          rw [mix_size] at this ⊢
          exact this
      · rw [List.pairwise_append] at hdis ⊢
        obtain ⟨d1, d2, d3⟩ := hdis
        exact ⟨d1, (List.pairwise_cons.1 d2).2, fun F1 h1 F2 h2 => d3 F1 h1 F2 (by simp [h2])⟩
    · simp at hk

end
end Go.Eng
end

section
/- The engine: calls. -/
namespace Go.Eng
open Go

section
variable {P : Program} {E : En} {cx : Cx} {n : Nat} {g : Gh} {st : St} {a : Act} {w : World} {R : Type}

/-- A new value that nobody else owns; what does not speak of its box stays. -/
theorem new_val' (h : Rel E n g st a w) {b : Nat} {t : Ty} {m : Md} {F : Nat → Prop} {cs : List Value} {d : t.den} (hb : b % 16 ≠ 15) (hr : Rd w g.S t m F cs d) (hH : Held E g st w F) :
    ∃ g', Rel E n g' ⟨fltL (fun _ v => v.all (noBox b)) st.tm, putL st.bx b ⟨t, m, d, false⟩⟩ a w ∧ AVR g' (putL st.bx b ⟨t, m, d, false⟩) w (.place b []) [toV t cs] ∧ g'.S = g.S ∧
      (∀ v vs, v.all (noBox b) = true → AVR g st.bx w v vs → AVR g' (putL st.bx b ⟨t, m, d, false⟩) w v vs) ∧
      (∀ F', Held E g st w F' → (∀ y, F y → ¬ F' y) → Held E g' ⟨fltL (fun _ v => v.all (noBox b)) st.tm, putL st.bx b ⟨t, m, d, false⟩⟩ w F') := by
  have hN := h.newB (b := b) (x := ⟨t, m, d, false⟩) (cs := cs) (F := F) (loc := (0, 0)) hb hr hH (fun hx => by simp at hx)
  have hlk : ∀ b' x', look (putL st.bx b ⟨t, m, d, false⟩) b' = some x' → (b' = b ∧ x' = ⟨t, m, d, false⟩) ∨ (b' ≠ b ∧ look st.bx b' = some x') := by
    intro b' x' hx'
    rw [look_putL] at hx'
    by_cases hb : b = b'
    · subst hb; simp only [if_true, Option.some.injEq] at hx'; exact .inl ⟨rfl, hx'.symm⟩
    · rw [if_neg hb] at hx'; exact .inr ⟨Ne.symm hb, hx'⟩
  refine ⟨_, hN, ?_, rfl, ?_, ?_⟩
  · intro x hx ho
    rw [look_putL, if_pos rfl] at hx
    simp only [Option.some.injEq] at hx
    subst hx
    exact ⟨t, cs, none, by simp [walk, locOf, nbG], rfl⟩
  · intro v vs hall hv
    refine AVR_step (g := g) (g' := nbG g b cs F (0, 0)) (bx := st.bx) (bx' := putL st.bx b ⟨t, m, d, false⟩) _ (fun y hy => ⟨hy, rfl⟩) ?_ v vs hall hv
    intro b' p q hf x' hx' ho'
    simp only [noBox, beq_dec, Bool.not_eq_true', decide_eq_false_iff_not] at hf
    rcases hlk b' x' hx' with ⟨rfl, _⟩ | ⟨hne, hx0⟩
    · exact absurd rfl hf
    · refine ⟨x', hx0, ho', fun t' cs' l' hw => ⟨cs', ?_, fun _ => rfl⟩⟩
      have e1 : (nbG g b cs F (0, 0)).cs b' = g.cs b' := by simp only [nbG, if_neg hne]
      have e2 : locOf (nbG g b cs F (0, 0)) b' x' = locOf g b' x' := by simp only [locOf, nbG, if_neg hne]
      rw [e1, e2]
      exact hw
  · intro F' hF' hd
    refine ⟨fun b' x' y hx' hy hh => ?_, fun b' x' hx' hr' hh => ?_, fun y hh => hF'.dS y hh, hF'.bd, hF'.nF⟩
    · rcases hlk b' x' hx' with ⟨rfl, _⟩ | ⟨hne, hx0⟩
      · simp only [nbG, if_true] at hy
        exact hd y hy hh
      · simp only [nbG, if_neg hne] at hy
        exact hF'.dF b' x' y hx0 hy hh
    · rcases hlk b' x' hx' with ⟨rfl, rfl⟩ | ⟨hne, hx0⟩
      · simp at hr'
      · simp only [nbG, if_neg hne] at hh
        exact hF'.dL b' x' hx0 hr' hh

theorem putRes_sound {S' : Nat → Prop} {strict : Bool} {d : Tmp} : ∀ {ks : List (Ty × Md)} {us : List Dat} {vs : List Value} {Rs : List (Nat → Prop)} {i : Nat} {g : Gh} {st : St} {k : St → List AV → Option R} {r : R},
    putRes strict st d i ks us k = some r → Rel E n g st a w → RetsOk w S' ks vs us Rs → (∀ t m F cs (d : Ty.den t), (t, m) ∈ ks → Rd w S' t m F cs d → Rd w g.S t m F cs d) → (∀ F ∈ Rs, Held E g st w F) → Rs.Pairwise (fun F H => ∀ y, F y → ¬ H y) →
    ∃ g' st' avs, k st' avs = some r ∧ Rel E n g' st' a w ∧ avs.length = vs.length ∧ (∀ (j : Nat) (v : AV) (u : Value), avs[j]? = some v → vs[j]? = some u → AVR g' st'.bx w v [u]) ∧
      (∀ v vs, (∀ j, i ≤ j → v.all (noBox (kTup d j)) = true) → AVR g st.bx w v vs → AVR g' st'.bx w v vs)
  | [], us, vs, Rs, i, g, st, k, r, hk, h, hO, hS', hH, hp => by
    cases hO
    simp only [putRes] at hk
    exact ⟨g, st, [], hk, h, rfl, fun j v u h1 => by simp at h1, fun v vs _ hv => hv⟩
  | (t, m) :: ks, us, vs, Rs, i, g, st, k, r, hk, h, hO, hS', hH, hp => by
    cases hO with
    | @cons _ _ F cs x _ vs us Rs hrd hfu hO =>
    simp only [putRes, Dat.as_self] at hk
    have hrd' := hS' t m F cs x (by simp) hrd
    have hp' := List.pairwise_cons.1 hp
    have key : ∀ (k : St → List AV → Option R), Rd w g.S t .shr none' cs x → putRes strict st d (i + 1) ks us (fun st r => k st (.val t x :: r)) = some r →
        ∃ g' st' avs, k st' avs = some r ∧ Rel E n g' st' a w ∧ avs.length = (toV t cs :: vs).length ∧ (∀ (j : Nat) (v : AV) (u : Value), avs[j]? = some v → (toV t cs :: vs)[j]? = some u → AVR g' st'.bx w v [u]) ∧
          (∀ v vs, (∀ j, i ≤ j → v.all (noBox (kTup d j)) = true) → AVR g st.bx w v vs → AVR g' st'.bx w v vs) := by
      intro k hsh hk
      obtain ⟨g', st', avs, e1, e2, e3, e4, e5⟩ := putRes_sound hk h hO (fun t m F cs d hm => hS' t m F cs d (by simp [hm])) (fun F hF => hH F (by simp [hF])) hp'.2
      refine ⟨g', st', _, e1, e2, by simp [e3], ?_, fun v vs hall hv => e5 v vs (fun j hj => hall j (by omega)) hv⟩
      intro j v u h1 h2
      cases j with
      | zero =>
        simp only [List.getElem?_cons_zero, Option.some.injEq] at h1 h2
        subst h1 h2
        exact e5 _ _ (fun _ _ => rfl) ⟨cs, hsh, rfl⟩
      | succ j => exact e4 j v u (by simpa using h1) (by simpa using h2)
    cases hc : (t.flat || isShr m)
    · rw [hc] at hk
      simp only [cond_false] at hk
      obtain ⟨hi13, hk⟩ := cond_none hk
      rw [blt_dec, decide_eq_true_eq] at hi13
      have hk2 := newK_ok hk
      obtain ⟨g1, k1, k2, k3, k4, k5⟩ := new_val' (b := kTup d i) h (by unfold kTup; omega) hrd' (hH F (by simp))
      obtain ⟨g', st', avs, e1, e2, e3, e4, e5⟩ := putRes_sound (g := g1) hk2 k1 hO (fun t m F cs d hm hh => by rw [k3]; exact hS' t m F cs d (by simp [hm]) hh) (fun F' hF' => k5 F' (hH F' (by simp [hF'])) (hp'.1 F' hF')) hp'.2
      refine ⟨g', st', _, e1, e2, by simp [e3], ?_, fun v vs hall hv => e5 v vs (fun j hj => hall j (by omega)) (k4 v vs (hall i (Nat.le_refl i)) hv)⟩
      intro j v u h1 h2
      cases j with
      | zero =>
        simp only [List.getElem?_cons_zero, Option.some.injEq] at h1 h2
        subst h1 h2
        refine e5 _ _ (fun j hj => ?_) k2
        simp only [AV.all, noBox, beq_dec, Bool.not_eq_true', decide_eq_false_iff_not, kTup]
        omega
      | succ j => exact e4 j v u (by simpa using h1) (by simpa using h2)
    · rw [hc] at hk
      simp only [cond_true] at hk
      refine key k ?_ hk
      simp only [Bool.or_eq_true] at hc
      rcases hc with hc | hc
      · exact Rd_flat w w g.S g.S t m F none' cs x hc hfu hrd'
      · cases m <;> simp [isShr] at hc
        exact Rd_shrF _ _ _ _ _ _ _ hrd'

theorem AVR_res {bx : List (Nat × Bx)} {avs : List AV} {vs : List Value} (hl : avs.length = vs.length) (h : ∀ (j : Nat) (v : AV) (u : Value), avs[j]? = some v → vs[j]? = some u → AVR g bx w v [u]) : AVR g bx w (resAV avs) [resV vs] := by
  have hgen : AVR g bx w (.tup (tupOf avs)) [.tuple ⟨vs⟩] := ⟨vs, rfl, AVR_tupOf hl h⟩
  rcases avs with _ | ⟨v, _ | ⟨v2, avs⟩⟩ <;> rcases vs with _ | ⟨u, _ | ⟨u2, vs⟩⟩ <;> simp only [resAV, resV] <;> (try (simp at hl; done))
  · exact hgen
  · exact h 0 v u rfl rfl
  · exact hgen

theorem allNoShr_mem : ∀ {l : List (Ty × Md)}, allNoShr l = true → ∀ x ∈ l, noShr x.1 x.2 = true
  | [], _, x, hx => by simp at hx
  | y :: l, h, x, hx => by
    simp only [allNoShr, Bool.and_eq_true] at h
    rcases List.mem_cons.1 hx with rfl | hx
    · exact h.1
    · exact allNoShr_mem h.2 x hx

theorem RetsOk.len {S : Nat → Prop} {ks : List (Ty × Md)} {vs : List Value} {us : List Dat} {Rs : List (Nat → Prop)} (h : RetsOk w S ks vs us Rs) : us.length = ks.length := by
  induction h with
  | nil => rfl
  | cons _ _ _ ih => simp [ih]

theorem outsB_mem {bx : List (Nat × Bx)} : ∀ {o : List (Nat × Path)}, outsB bx o = true → ∀ q ∈ o, ∃ x, look bx q.1 = some x ∧ okP x.t x.m q.2 = true
  | [], _, q, hq => by simp at hq
  | q0 :: o, h, q, hq => by
    simp only [outsB, Bool.and_eq_true] at h
    rcases List.mem_cons.1 hq with rfl | hq
    · have := h.1
      split at this
      · rename_i x hx; exact ⟨x, hx, this⟩
      · simp at this
    · exact outsB_mem h.2 q hq

theorem Took.all2 {g0 : Gh} {bx0 : List (Nat × Bx)} {ks : List PK} {vs : List AV} {us : List Value} {l : List (Option Dat)} {o : List (Nat × Path)} {Fs : List (Nat → Prop)} {Ps : List (Nat × Nat × Nat)} (h : Took E w g0 bx0 g st ks vs us l o Fs Ps) :
    All2 (fun (x : Nat × Path) (q : Nat × Nat × Nat) => ∃ (bx : Bx) (t : Ty) (cs : List Value), look st.bx x.1 = some bx ∧ walk w bx.t x.2 (g.cs x.1) (locOf g x.1 bx) = some (t, cs, some (q.1, q.2.1))) o Ps := by
  induction h with
  | nil => exact .nil
  | bor _ _ ih => exact ih
  | sp _ _ ih => exact ih
  | fnc _ _ ih => exact ih
  | own _ _ _ _ _ _ ih => exact ih
  | @ptr t m b p x x0 F cs d blk off ks vs us l o Fs Ps hr hf hH hF hFs hx0 hx ht hw hL hn hv hT ih => exact .cons ⟨x, t, cs, hx, hw⟩ ih

theorem Took.locs {g0 : Gh} {bx0 : List (Nat × Bx)} {ks : List PK} {vs : List AV} {us : List Value} {l : List (Option Dat)} {o : List (Nat × Path)} {Fs : List (Nat → Prop)} {Ps : List (Nat × Nat × Nat)} (h : Took E w g0 bx0 g st ks vs us l o Fs Ps) :
    ∀ q ∈ Ps, ∃ c el, w.heap[q.1]? = some (.cells c el (0, 0)) := by
  induction h with
  | nil => simp
  | bor _ _ ih => exact ih
  | sp _ _ ih => exact ih
  | fnc _ _ ih => exact ih
  | own _ _ _ _ _ _ ih => exact ih
  | @ptr t m b p x x0 F cs d blk off ks vs us l o Fs Ps hr hf hH hF hFs hx0 hx ht hw hL hn hv hT ih =>
    intro q hq
    rcases List.mem_cons.1 hq with rfl | hq
    · obtain ⟨c, el, h1, _⟩ := hL; exact ⟨c, el, h1⟩
    · exact ih q hq

theorem callK_sound {f : FuncId} {ct : Ct} (hct : Holds P E.G f ct) (h : Rel E n g st a w) {strict : Bool} {dst : Option Tmp} {vs : List AV} {us : List Value} {k : St → Option R} {r : R} (hk : callK st strict dst ct vs k = some r) (hl : vs.length = us.length)
    (hv : ∀ (i : Nat) (v : AV) (u : Value), vs[i]? = some v → us[i]? = some u → AVR g st.bx w v [u]) :
    Calls P f ⟨us⟩ w fun e w' => ∃ v, e = .returned v ∧ ∃ g' st', Rel E n g' st' a w' ∧ ((dst = none ∧ k st' = some r) ∨ ∃ d av, dst = some d ∧ AVR g' st'.bx w' av [v] ∧ k (St.put st' (some d) av) = some r) := by
  unfold callK at hk
  obtain ⟨g1, st1, l, o, Fs, Ps, hk1, h1, hL, _, hT, _⟩ := takeArgs_sound (g0 := g) (bx0 := st.bx) hk h hl hv (fun b x hx => ⟨x, hx, rfl, rfl⟩) (fun _ _ hy => hy) rfl
  obtain ⟨hc1, hk2⟩ := cond_none hk1
  simp only [Bool.and_eq_true] at hc1
  split at hk2
  · rename_i ds hds
    obtain ⟨hc2, hk3⟩ := cond_none hk2
    cases hM : ct.M ds with
    | none => rw [hM] at hk3; simp at hk3
    | some x0 =>
      rw [hM] at hk3
      simp only [Option.bind_some] at hk3
      unfold backK at hk3
      obtain ⟨hA, hAp, hHs⟩ := hT.all (lent := !lentOk ct.ps vs) h hL h1 hds (by cases lentOk ct.ps vs <;> simp) hc1.2 hc1.1.1
      generalize hlent : (!lentOk ct.ps vs) = lent at *
      have hgl : GlOk ⟨w, Sc lent g1 st1 Ps, some' Fs, Ps, E.G, fun _ => none⟩ (Sc lent g1 st1 Ps) w := h1.gl.step fun y hy => ⟨.inl hy, rfl⟩
      refine Calls.mono (hct w _ us ds Fs Ps x0 hA hAp hgl hM) ?_
      clear hM
      generalize Tup.list _ x0 = rs at *
      rintro e w' ⟨v, rfl, S', vs', rr, ro, Rs, Os, hRes, rfl, hR, hO, hpw, hRO, hS1, hS2, hFr⟩
      refine ⟨_, rfl, ?_⟩
      have hPlt : ∀ q ∈ Ps, q.1 < w.heap.size := by
        intro q hq
        obtain ⟨c, el, hh⟩ := hT.locs q hq
        rcases Nat.lt_or_ge q.1 w.heap.size with h4 | h4
        · exact h4
        · rw [Array.getElem?_eq_none h4] at hh; simp at hh
      have hHF : Held E g1 st1 w (some' Fs) := Held.join hHs
      -- the world with the old places
      have hB : Rel E n g1 st1 a (mix w w' Ps) := by
        refine h1.held hHF ?_ (by rw [mix_size]; exact hFr.size) hFr.os hFr.tape hFr.output
        intro y hy hnF
        by_cases hq : ∃ q ∈ Ps, q.1 = y
        · have hw : w.heap[y]? = some w.heap[y] := Array.getElem?_eq_getElem hy
          rw [hw]
          exact mix_in hq hw (Nat.lt_of_lt_of_le hy hFr.size)
        · have hq' : ∀ q ∈ Ps, q.1 ≠ y := fun q hq2 he => hq ⟨q, hq2, he⟩
          rw [mix_out hq']
          exact hFr.keep y hy hnF hq'
      have hfsz : E.w.heap.size ≤ w.heap.size := h1.fr.size
      have hnew : ∀ F ∈ Rs ++ Os, ∀ y, F y → (∀ b x, look st1.bx b = some x → ¬ g1.F b y) ∧ (∀ b x, look st1.bx b = some x → x.r = true → (g1.loc b).1 ≠ y) ∧ (E.F y ∨ E.w.heap.size ≤ y) ∧ (∀ q ∈ Ps, q.1 ≠ y) := by
        intro F hF y hy
        rcases (hRO F hF y hy).2.2 with k | k
        · refine ⟨fun b x hx hh => hHF.dF b x y hx hh k, fun b x hx hr he => hHF.dL b x hx hr (he ▸ k), hHF.nF y k, ?_⟩
          obtain ⟨F', hF', k⟩ := k
          exact fun q hq he => hAp.FP F' hF' q hq (he ▸ k)
        · exact ⟨fun b x hx hh => by have := h1.bF b x y hx hh; omega, fun b x hx hr he => by have := h1.lt hx hr; omega, .inr (by omega), fun q hq he => by have := hPlt q hq; omega⟩
      have hgS : ∀ y, g1.S y → S' y := fun y hy => hS1 y (.inl hy)
      have hSn : ∀ y, (g1.S y ∨ (lent = false ∧ S' y)) → y < w'.heap.size ∧ (g1.S y ∨ ((∀ b x, look st1.bx b = some x → ¬ g1.F b y) ∧ (∀ b x, look st1.bx b = some x → x.r = true → (g1.loc b).1 ≠ y) ∧ (E.S y ∨ E.F y ∨ E.w.heap.size ≤ y))) ∧ (∀ q ∈ Ps, q.1 ≠ y) := by
        intro y hy
        have hS'y : S' y := by rcases hy with hy | hy; exact hgS y hy; exact hy.2
        refine ⟨(hS2 y hS'y).2, ?_, ?_⟩
        · rcases hy with hy | ⟨hlf, hy⟩
          · exact .inl hy
          · rcases (hS2 y hy).1 with k | k | k
            · rcases k with k | ⟨k, _⟩
              · exact .inl k
              · rw [hlf] at k; simp at k
            · exact .inr ⟨fun b x hx hh => hHF.dF b x y hx hh k, fun b x hx hr he => hHF.dL b x hx hr (he ▸ k), .inr (hHF.nF y k)⟩
            · exact .inr ⟨fun b x hx hh => by have := h1.bF b x y hx hh; omega, fun b x hx hr he => by have := h1.lt hx hr; omega, .inr (.inr (by omega))⟩
        · intro q hq he
          subst he
          rcases (hS2 _ hS'y).1 with k | k | k
          · exact hAp.PS q hq k
          · obtain ⟨F', hF', k⟩ := k; exact hAp.FP F' hF' q hq k
          · have := hPlt q hq; omega
      have hC := hB.growS (S2 := fun y => g1.S y ∨ (lent = false ∧ S' y)) (fun y hy => .inl hy) (fun y hy => by
        obtain ⟨k1, k2, _⟩ := hSn y hy
        rw [mix_size]
        exact ⟨k1, k2⟩)
      have hRd : ∀ t m F cs (d : Ty.den t), ((t, m) ∈ ct.rs ∨ (t, m) ∈ ct.os) → Rd w' S' t m F cs d → Rd w' (fun y => g1.S y ∨ (lent = false ∧ S' y)) t m F cs d := by
        intro t m F cs d hm hrd
        cases hle : lent
        · exact Rd_frame w' w' S' _ (fun y hy => ⟨.inr ⟨rfl, hy⟩, rfl⟩) _ _ _ _ _ (fun _ _ => rfl) hrd
        · simp only [Bool.or_eq_true, Bool.and_eq_true] at hc2
          have hns : noShr t m = true := by
            rcases hc2 with k | ⟨k1, k2⟩
            · rw [k, hle] at hlent; simp at hlent
            · rcases hm with hm | hm
              · exact allNoShr_mem k1 _ hm
              · exact allNoShr_mem k2 _ hm
          exact Rd_noShr w' S' _ t m F cs d hns hrd
      have hHRO : ∀ F ∈ Rs ++ Os, Held E { g1 with S := fun y => g1.S y ∨ (lent = false ∧ S' y) } st1 (mix w w' Ps) F := by
        intro F hF
        refine ⟨fun b x y hx hh hy => (hnew F hF y hy).1 b x hx hh, fun b x hx hr hy => (hnew F hF _ hy).2.1 b x hx hr rfl, fun y hy hs => ?_, fun y hy => by rw [mix_size]; exact (hRO F hF y hy).2.1, fun y hy => (hnew F hF y hy).2.2.1⟩
        refine (hRO F hF y hy).1 ?_
        rcases hs with hs | hs
        · exact hgS y hs
        · exact hs.2
      have hrl := hR.len
      rw [← hrl, List.take_left, List.drop_left] at hk3
      have hlook : All2 (fun (x : Nat × Path) (q : Nat × Nat × Nat) => ∃ (bx : Bx) (t : Ty) (cs : List Value), look st1.bx x.1 = some bx ∧ okR bx.t bx.m x.2 = true ∧ walk (mix w w' Ps) bx.t x.2 (g1.cs x.1) (locOf g1 x.1 bx) = some (t, cs, some (q.1, q.2.1))) o Ps := by
        refine hT.all2.impM ?_
        rintro x hx q ⟨bx, t, cs, e1, e2⟩
        obtain ⟨x', e3, e4⟩ := outsB_mem hc1.1.2 x hx
        rw [e1] at e3
        simp only [Option.some.injEq] at e3
        subst e3
        refine ⟨bx, t, cs, e1, okP_okR _ _ _ e4, ?_⟩
        rw [walk_frame w (mix w w' Ps) g1.S x.2 bx.t bx.m _ _ _ _ (h1.rd x.1 bx e1) (okP_okR _ _ _ e4) ?_]
        · exact e2
        · intro y hy
          have hylt := h1.bF x.1 bx y e1 hy
          by_cases hq : ∃ q ∈ Ps, q.1 = y
          · have hw : w.heap[y]? = some w.heap[y] := Array.getElem?_eq_getElem hylt
            rw [hw]
            exact mix_in hq hw (Nat.lt_of_lt_of_le hylt hFr.size)
          · have hq' : ∀ q ∈ Ps, q.1 ≠ y := fun q hq2 he => hq ⟨q, hq2, he⟩
            rw [mix_out hq']
            exact hFr.keep y hylt (fun hh => hHF.dF x.1 bx y e1 hy hh) hq'
      have gen : ∀ Bk : List (Nat → Prop), (∀ F ∈ Bk, Held E { g1 with S := fun y => g1.S y ∨ (lent = false ∧ S' y) } st1 (mix w w' Ps) F) → (Bk ++ (Rs ++ Os)).Pairwise (fun F H => ∀ y, F y → ¬ H y) → _ :=
        fun Bk hB1 hB2 => putOuts_sound (w := w) (w' := w') (S' := S') (g := { g1 with S := fun y => g1.S y ∨ (lent = false ∧ S' y) }) (Bk ++ Rs) hk3 hC hO (fun t m F cs d hm => hRd t m F cs d (.inr hm)) hc1.1.1 hlook hAp.PP
        hFr.keepP (fun y hy => (hSn y hy).2.2) (fun F hF y hy => (hnew F (by simp [hF]) y hy).2.2.2) (fun F hF => by
          rw [List.append_assoc] at hF
          rcases List.mem_append.1 hF with hF | hF
          · exact hB1 F hF
          · exact hHRO F hF) (by rw [List.append_assoc]; exact hB2)
      cases hpr : ct.pr
      · rw [hpr] at hRes
        simp only [ResIs] at hRes
        subst hRes
        obtain ⟨g2, st2, hk4, h2, hg2S, hH2⟩ := gen [] (by simp) hpw
        cases dst with
        | none => exact ⟨g2, st2, h2, .inl ⟨rfl, hk4⟩⟩
        | some d =>
          simp only [hpr, cond_false] at hk4
          obtain ⟨g3, st3, avs, e1, e2, e3, e4, _⟩ := putRes_sound hk4 h2 hR (fun t m F cs d hm hh => by rw [hg2S]; exact hRd t m F cs d (.inl hm) hh) (fun F hF => hH2 F (by simpa using hF)) (List.pairwise_append.1 hpw).1
          exact ⟨g3, st3, e2, .inr ⟨d, _, rfl, AVR_res e3 e4, e1⟩⟩
      · rw [hpr] at hRes
        simp only [ResIs] at hRes
        obtain ⟨t, cs, blk, off, hvs, hcl, hcp, hv', hLoc, hfr, hnS, hnF⟩ := hRes
        subst hv'
        have hblt : blk < w'.heap.size := by
          obtain ⟨c, el, k1, _⟩ := hLoc
          rcases Nat.lt_or_ge blk w'.heap.size with h4 | h4
          · exact h4
          · simp only at k1; rw [Array.getElem?_eq_none h4] at k1; simp at k1
        have hHb : Held E { g1 with S := fun y => g1.S y ∨ (lent = false ∧ S' y) } st1 (mix w w' Ps) (fun y => y = blk) :=
          ⟨fun b x y hx hh hy => by have := h1.bF b x y hx hh; omega, fun b x hx hr hy => by have := h1.lt hx hr; simp only at hy; omega, fun y hy hs => by
            subst hy
            rcases hs with hs | hs
            · exact hnS (hgS _ hs)
            · exact hnS hs.2, fun y hy => by rw [mix_size]; omega, fun y hy => .inr (by omega)⟩
        obtain ⟨g2, st2, hk4, h2, hg2S, hH2⟩ := gen [fun y => y = blk] (by simpa using hHb) (List.pairwise_cons.2 ⟨fun F hF y hy hy2 => hnF F hF (hy ▸ hy2), hpw⟩)
        cases dst with
        | none => exact ⟨g2, st2, h2, .inl ⟨rfl, hk4⟩⟩
        | some d =>
          simp only [hpr, cond_true] at hk4
          split at hk4
          · rename_i t0 m0 u0 hrs
            split at hk4
            · rename_i x hx
              have hk5 := newK_ok hk4
              rw [hrs] at hR
              cases hR with
              | @cons _ _ F cs0 d0 _ vs0 us0 Fs0 hrd hfu hR0 =>
              cases hR0
              simp only [List.cons.injEq, and_true] at hvs
              have := Dat.as_some hx
              simp only [Sigma.mk.injEq, heq_eq_eq, true_and] at this
              subst this
              have hlen := Rd_len _ _ _ _ _ _ _ hrd
              have hpl := Rd_plain _ _ _ _ _ _ _ hrd
              have hcs : cs0 = cs := by
                have e1 := toV_cells hlen hpl
                have e2 := toV_cells hcl hcp
                rw [hvs, e2] at e1
                simpa using e1.symm
              subst hcs
              have hHF2 := hH2 F (by simp)
              have hHb2 := hH2 (fun y => y = blk) (by simp)
              have hN := h2.newB (b := kReal d) (x := ⟨t0, m0, d0, true⟩) (cs := cs0) (F := F) (loc := (blk, off)) (kReal_ne d) (by rw [hg2S]; exact hRd t0 m0 F cs0 d0 (.inl (by rw [hrs]; simp)) hrd) hHF2 (fun _ => ⟨hLoc, by simp only; omega, hnF F (by simp), hHb2.dS blk rfl,
                fun b' x' hx' => ⟨fun hf => hHb2.dF b' x' blk hx' hf rfl, fun hr' he => hHb2.dL b' x' hx' hr' he⟩⟩)
              refine ⟨_, _, hN, .inr ⟨d, _, rfl, ?_, hk5⟩⟩
              intro x hx ho
              rw [look_putL, if_pos rfl] at hx
              simp only [Option.some.injEq] at hx
              subst hx
              exact ⟨t0, cs0, blk, off, by simp [walk, locOf, nbG], rfl⟩
            · simp at hk4
          · simp at hk4
  · simp at hk2

end
end Go.Eng
end

section
/- The engine: one operation. -/
namespace Go.Eng
open Go

section
variable {P : Program} {E : En} {cx : Cx} {n : Nat} {g : Gh} {st : St} {a : Act} {w : World} {R : Type}

/-- The functions that the engine knows do what their contracts say. -/
def EnvOk (P : Program) (G : Nat → Option Dat) (cx : Cx) : Prop := ∀ f vs ct, cx.env f vs = some ct → Holds P G f ct ∧ Enters P f

theorem capsOf_sound {bx : List (Nat × Bx)} : ∀ {c : AV} {l : List AV} {ws : List Value}, capsOf c = some l → AVR g bx w c ws → l.length = ws.length ∧ ∀ (i : Nat) (v : AV) (u : Value), l[i]? = some v → ws[i]? = some u → AVR g bx w v [u]
  | .tnil, l, ws, h, hv => by
    simp only [capsOf, Option.some.injEq] at h
    subst h
    have : ws = [] := hv
    subst this
    exact ⟨rfl, fun i v u h1 => by simp at h1⟩
  | .tcons x y, l, ws, h, hv => by
    simp only [capsOf] at h
    split at h
    · rename_i l' hl'
      simp only [Option.some.injEq] at h
      subst h
      obtain ⟨u, r, rfl, h1, h2⟩ := hv
      obtain ⟨i1, i2⟩ := capsOf_sound hl' h2
      refine ⟨by simp [i1], fun i v' u' e1 e2 => ?_⟩
      cases i with
      | zero =>
        simp only [List.getElem?_cons_zero, Option.some.injEq] at e1 e2
        subst e1 e2
        exact h1
      | succ i => exact i2 i v' u' (by simpa using e1) (by simpa using e2)
    · simp at h
  | .skip, l, ws, h, hv => by simp [capsOf] at h
  | .undef, l, ws, h, hv => by simp [capsOf] at h
  | .nils, l, ws, h, hv => by simp [capsOf] at h
  | .val _ _, l, ws, h, hv => by simp [capsOf] at h
  | .place _ _, l, ws, h, hv => by simp [capsOf] at h
  | .cut _ _ _ _, l, ws, h, hv => by simp [capsOf] at h
  | .ptr _ _, l, ws, h, hv => by simp [capsOf] at h
  | .sptr _ _, l, ws, h, hv => by simp [capsOf] at h
  | .fn _ _, l, ws, h, hv => by simp [capsOf] at h
  | .tup _, l, ws, h, hv => by simp [capsOf] at h

theorem run_enter {o : Oper} {c : Call} {x : Operand} {f : FuncId} {ws : List Value} (ho : o.op = .call c) (hc : c.callee = .value x) (hx : a.eval x = .func (.func f) #[] ⟨ws⟩) (he : Enters P f) :
    (execOp a.eval o).run P w = .ok (.enter f ⟨c.args.toList.map a.eval ++ ws⟩) w := by
  obtain ⟨fn, cd, h1, h2, h3⟩ := he
  simp only [execOp, ho, resolve, hc, hx, Deferred.ofValue, invoke, Sem.run_bind, Sem.run_pure, Result.andThen_ok, callFunc]
  have hargs : (c.args.map a.eval ++ (⟨ws⟩ : Array Value)) = ⟨c.args.toList.map a.eval ++ ws⟩ := by
    apply Array.ext'
    simp
  simp [h1, h2, h3, hargs]

theorem funK_sound (hc : CxOk P E cx) (henv : EnvOk P E.G cx) (h : Rel E cx.n g st a w) {strict : Bool} {o : Oper} {c : Call} {x : Operand} {k : St → Option R} {r : R} {K : Act → World → Prop} {Q : Exit → Act → World → Prop} (ho : o.op = .call c) (hcal : c.callee = .value x)
    (hd : ∀ d, o.dst = some d → d < cx.n) (hk : funK cx st strict o.dst (opnd cx st x) (c.args.toList.map (opnd cx st)) k = some r)
    (hn : ∀ g' st' a' w', Rel E cx.n g' st' a' w' → k st' = some r → K a' w') : o.wp P a w K Q := by
  unfold funK at hk
  split at hk
  · rename_i f cap hf
    have hx := opnd_sound hc h x
    rw [hf] at hx
    obtain ⟨ws, h1, h2⟩ := hx
    simp only [List.cons.injEq, and_true] at h1
    split at hk
    · rename_i ct hct
      obtain ⟨hH, hE⟩ := henv f _ ct hct
      split at hk
      · rename_i l hl
        obtain ⟨i1, i2⟩ := capsOf_sound hl h2
        have hcall := callK_sound (us := c.args.toList.map a.eval ++ ws) hH h hk (by simp [i1]) (fun i v u e1 e2 => by
          by_cases hi : i < c.args.toList.length
          · rw [List.getElem?_append_left (by simpa using hi)] at e1 e2
            simp only [List.getElem?_map, Option.map_eq_some_iff] at e1 e2
            obtain ⟨q, hq, rfl⟩ := e1
            obtain ⟨q2, hq2, rfl⟩ := e2
            rw [hq] at hq2
            simp only [Option.some.injEq] at hq2
            subst hq2
            exact opnd_sound hc h _
          · rw [List.getElem?_append_right (by simpa using hi)] at e1 e2
            simp only [List.length_map] at e1 e2
            exact i2 _ v u e1 e2)
        unfold Oper.wp
        rw [run_enter ho hcal h1 hE]
        rw [Oper.upon_enter]
        refine Calls.mono hcall ?_
        rintro e w' ⟨v, rfl, g', st', hR, hres⟩
        simp only
        rcases hres with ⟨hnone, hk'⟩ | ⟨d, av, hsome, hav, hk'⟩
        · rw [hnone]; exact hn g' st' _ w' hR hk'
        · rw [hsome]; exact hn g' _ _ w' (hR.put (hd d hsome) hav) hk'
      · simp at hk
    · simp at hk
  · simp at hk

theorem execK_sound (hc : CxOk P E cx) (henv : EnvOk P E.G cx) (h : Rel E cx.n g st a w) {strict : Bool} {o : Oper} {k : St → Option R} {r : R} {K : Act → World → Prop} {Q : Exit → Act → World → Prop} (hk : execK cx st strict o k = some r)
    (hn : ∀ g' st' a' w', Rel E cx.n g' st' a' w' → k st' = some r → K a' w') : o.wp P a w K Q := by
  have hdone : ∀ d, o.dst = some d → d < cx.n → Done P E cx.n a w o d k r → o.wp P a w K Q := by
    rintro d hd hlt ⟨g', st', w', u, v, h1, h2, h3, h4⟩
    refine wp_value h1 ?_
    rw [hd]
    exact hn g' _ _ w' (h2.put hlt h3) h4
  unfold execK at hk
  cases hd : o.dst with
  | none =>
    rw [hd] at hk
    simp only at hk
    split at hk
    · rename_i T x y ho
      obtain ⟨g', st', w', h1, h2, h3⟩ := store_sound hc h hk (opnd_sound hc h x) (opnd_sound hc h y)
      refine wp_skip (w' := w') ?_ ?_
      · simp only [execOp, ho]
        simp [h2]
      · rw [hd]
        exact hn g' st' _ w' h3 h1
    · rename_i c ho
      split at hk
      · rename_i x hx
        exact funK_sound hc henv h ho hx (fun d hd' => by rw [hd] at hd'; simp at hd') (by rw [hd]; exact hk) hn
      · simp at hk
    · simp at hk
  | some d =>
    rw [hd] at hk
    simp only at hk
    obtain ⟨hlt, hk⟩ := cond_none hk
    rw [blt_dec, decide_eq_true_eq] at hlt
    split at hk
    · rename_i c ho
      split at hk
      · rename_i b hb
        exact hdone d hd hlt (bltK_sound hc h ho hb hk)
      · rename_i x hx
        exact funK_sound hc henv h ho hx (fun d' hd' => by rw [hd] at hd'; simp only [Option.some.injEq] at hd'; exact hd' ▸ hlt) (by rw [hd]; exact hk) hn
      · simp at hk
    · exact hdone d hd hlt (opK_sound hc h hk)

end
end Go.Eng
end
