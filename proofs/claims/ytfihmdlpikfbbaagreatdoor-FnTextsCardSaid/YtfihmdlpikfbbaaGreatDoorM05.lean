/- Part 5 of 20 of a claim; what is proved, and under which conditions, stands in the last part. Here: EngQ, EngR, EngS, EngT, EngU, EngV. -/
import Derived.Test.YtfihmdlpikfbbaaGreatDoorM04
import Derived.Laws.StructEq
set_option linter.unusedVariables false
set_option linter.unusedSimpArgs false
set_option linter.unusedSectionVars false
section
/- The engine: its operations are the model's: fields, elements, stretches. -/
namespace Go.Eng
open Go

section
variable {P : Program} {E : En} {cx : Cx} {n : Nat} {g : Gh} {st : St} {a : Act} {w : World} {R : Type}

theorem walk_append (w : World) : ∀ (p q : Path) (t : Ty) (cs : List Value) (l : Option (Nat × Nat)),
    walk w t (p ++ q) cs l = (walk w t p cs l).bind fun r => walk w r.1 q r.2.1 r.2.2
  | [], q, t, cs, l => by simp [walk]
  | s :: p, q, t, cs, l => by
    cases t <;> cases s <;> simp only [List.cons_append, walk] <;> try rfl
    · exact walk_append w p q _ _ _
    · exact walk_append w p q _ _ _
    · split
      · split
        · exact walk_append w p q _ _ _
        · rfl
      · rfl
    · split
      · exact walk_append w p q _ _ _
      · rfl

theorem walk_ty (w : World) : ∀ (p : Path) (t : Ty) (cs : List Value) (l : Option (Nat × Nat)) (t' : Ty) (cs' : List Value) (l' : Option (Nat × Nat)),
    walk w t p cs l = some (t', cs', l') → tyAt t p = some t'
  | [], t, cs, l, t', cs', l', h => by
    simp only [walk, Option.some.injEq, Prod.mk.injEq] at h
    obtain ⟨rfl, _⟩ := h
    cases t <;> rfl
  | s :: p, t, cs, l, t', cs', l', h => by
    cases t <;> cases s <;> simp only [walk] at h <;> (try (simp at h; done)) <;> simp only [tyAt]
    · exact walk_ty w p _ _ _ _ _ _ h
    · exact walk_ty w p _ _ _ _ _ _ h
    · split at h
      · split at h
        · exact walk_ty w p _ _ _ _ _ _ h
        · simp at h
      · simp at h
    · split at h
      · exact walk_ty w p _ _ _ _ _ _ h
      · simp at h

theorem okR_prefix : ∀ (p q : Path) (t : Ty) (m : Md), okR t m (p ++ q) = true → okR t m p = true
  | [], q, t, m, h => okR_nil t m
  | s :: p, q, t, m, h => by
    cases t <;> cases s <;> simp only [List.cons_append, okR] at h ⊢ <;> try (simp at h; done)
    · exact okR_prefix p q _ _ h
    · exact okR_prefix p q _ _ h
    · cases m <;> simp only [] at h ⊢ <;> try (simp at h; done)
      · exact okR_prefix p q _ _ h
      · exact okR_prefix p q _ _ h
      · simp only [Bool.and_eq_true] at h ⊢; exact ⟨okR_prefix p q _ _ h.1, okR_prefix p q _ _ h.2⟩
    · cases m <;> simp only [] at h ⊢ <;> try (simp at h; done)
      all_goals exact okR_prefix p q _ _ h

/-- The offset of a field. -/
def offF : Ty → Nat → Nat
  | .pair _ _, 0 => 0
  | .pair a b, n + 1 => a.size + offF b n
  | _, _ => 0

theorem walk_fld (w : World) : ∀ (f : Nat) (t tf : Ty) (cs : List Value) (l : Option (Nat × Nat)), tyAt t (fldP f) = some tf →
    walk w t (fldP f) cs l = some (tf, (cs.drop (offF t f)).take tf.size, l.map fun x => (x.1, x.2 + offF t f))
  | 0, t, tf, cs, l, h => by
    cases t <;> simp only [fldP, tyAt] at h <;> try (simp at h; done)
    rename_i x y
    have : tf = x := by cases x <;> simp at h <;> exact h.symm
    subst this
    simp only [fldP, walk, offF, List.drop_zero]
    cases l <;> simp
  | f + 1, t, tf, cs, l, h => by
    cases t <;> simp only [fldP, tyAt] at h <;> try (simp at h; done)
    rename_i x y
    simp only [fldP, walk, offF]
    rw [walk_fld w f y tf _ _ h]
    cases l <;> simp [List.drop_drop]
    omega

theorem fld_of {P : Program} : ∀ (f : Nat) (t tf : Ty) (fs : List Field) (o : Nat), FldOk P t fs o → tyAt t (fldP f) = some tf → ∃ fd, fs[f]? = some fd ∧ fd.offset = o + offF t f ∧ fd.name ≠ "_" ∧ TyOk P tf fd.type
  | f, .unit, tf, fs, o, h, ht => by cases f <;> simp [fldP, tyAt] at ht
  | 0, .pair x y, tf, fs, o, h, ht => by
    simp only [FldOk] at h
    obtain ⟨fd, r, rfl, h1, h2, h3, _⟩ := h
    simp only [fldP, tyAt] at ht
    have : tf = x := by cases x <;> simp at ht <;> exact ht.symm
    subst this
    exact ⟨fd, rfl, by simp [offF, h1], h2, h3⟩
  | f + 1, .pair x y, tf, fs, o, h, ht => by
    simp only [FldOk] at h
    obtain ⟨fd, r, rfl, h1, h2, h3, h4⟩ := h
    simp only [fldP, tyAt] at ht
    obtain ⟨fd', k1, k2, k3⟩ := fld_of f y tf r _ h4 ht
    exact ⟨fd', by simpa using k1, by simp only [offF]; omega, k3⟩
  | f, .int _, tf, fs, o, h, ht => by simp [FldOk] at h
  | f, .bool, tf, fs, o, h, ht => by simp [FldOk] at h
  | f, .str, tf, fs, o, h, ht => by simp [FldOk] at h
  | f, .slice _, tf, fs, o, h, ht => by simp [FldOk] at h
  | f, .arr _ _, tf, fs, o, h, ht => by simp [FldOk] at h
  | f, .iface, tf, fs, o, h, ht => by simp [FldOk] at h

theorem ty_fld {f : Nat} {t tf : Ty} {T : TypeId} (h : TyOk P t T) (ht : tyAt t (fldP f) = some tf) : ∃ fs fd, P.underlying T = some (.struct fs) ∧ fs[f]? = some fd ∧ fd.offset = offF t f ∧ fd.name ≠ "_" ∧ TyOk P tf fd.type := by
  cases t with
  | pair x y =>
    simp only [TyOk] at h
    obtain ⟨_, fd, r, h1, h2, h3, h4, h5⟩ := h
    have hF : FldOk P (.pair x y) (fd :: r) 0 := by
      simp only [FldOk]
      exact ⟨fd, r, rfl, h2, h3, h4, by rw [Nat.zero_add]; exact h5⟩
    obtain ⟨fd', k1, k2, k3, k4⟩ := fld_of f _ tf _ 0 hF ht
    exact ⟨_, fd', h1, by simpa using k1, by omega, k3, k4⟩
  | unit => cases f <;> simp [fldP, tyAt] at ht
  | int k => cases f <;> simp [fldP, tyAt] at ht
  | bool => cases f <;> simp [fldP, tyAt] at ht
  | str => cases f <;> simp [fldP, tyAt] at ht
  | slice e => cases f <;> simp [fldP, tyAt] at ht
  | arr n e => cases f <;> simp [fldP, tyAt] at ht
  | iface => cases f <;> simp [fldP, tyAt] at ht

theorem tyIs_ok (hc : CxOk P E cx) {T : TypeId} {t : Ty} (h : tyIs cx T t = true) : TyOk P t T := by
  unfold tyIs at h
  split at h
  · rename_i t' ht
    rw [← Ty.eq_of_beq h]
    exact hc.ty T t' ht
  · simp at h

theorem addr_add (b o n : Nat) : (⟨b, o, none⟩ : Addr).add n = ⟨b, o + n, none⟩ := by
  unfold Addr.add; split <;> simp_all

theorem run_fieldAt {T : TypeId} {t tf : Ty} {f b o : Nat} (h : TyOk P t T) (ht : tyAt t (fldP f) = some tf) (hs : 0 < tf.size) :
    (Instr.fieldAt T (.pointer (some ⟨b, o, none⟩)) f).run P w = .ok (.pointer (some ⟨b, o + offF t f, none⟩)) w := by
  obtain ⟨fs, fd, h1, h2, h3, _, h4⟩ := ty_fld h ht
  simp only [Instr.fieldAt, Sem.run_bind, run_und h1, Result.andThen_ok, h2, Instr.sureAddr, Sem.run_pure]
  simp only [fieldPlace, Sem.run_bind, run_sizeOf h4, Result.andThen_ok]
  rw [if_neg (by omega)]
  simp [addr_add, h3]

theorem getD_fld {S : Nat → Prop} : ∀ (f : Nat) (t tf : Ty) (F : Nat → Prop) (cs : List Value) (d : t.den), Rd w S t .shr F cs d → tyAt t (fldP f) = some tf →
    ∃ df, getD t (fldP f) d = some ⟨tf, df⟩ ∧ Rd w S tf .shr none' ((cs.drop (offF t f)).take tf.size) df ∧ offF t f + tf.size ≤ t.size
  | 0, t, tf, F, cs, d, h, ht => by
    cases t <;> simp only [fldP, tyAt] at ht <;> try (simp at ht; done)
    rename_i x y
    have : tf = x := by cases x <;> simp at ht <;> exact ht.symm
    subst this
    simp only [Rd, Md.fst] at h
    obtain ⟨F1, F2, _, _, _, r1, _⟩ := h
    exact ⟨d.1, by simp [fldP, getD], by simp only [offF, List.drop_zero]; exact Rd_shrF _ _ _ _ _ _ _ r1, by simp [offF, Ty.size]⟩
  | f + 1, t, tf, F, cs, d, h, ht => by
    cases t <;> simp only [fldP, tyAt] at ht <;> try (simp at ht; done)
    rename_i x y
    simp only [Rd, Md.snd] at h
    obtain ⟨F1, F2, _, _, _, _, r2⟩ := h
    obtain ⟨df, k1, k2, k3⟩ := getD_fld f y tf _ _ d.2 r2 ht
    refine ⟨df, by simpa only [fldP, getD] using k1, ?_, by simp only [offF, Ty.size]; omega⟩
    simp only [offF]
    rw [← List.drop_drop]
    exact k2

theorem cellsAt_chunk (b o n o' n' : Nat) (h : o' + n' ≤ n) : cellsAt w b (o + o') n' = ((cellsAt w b o n).drop o').take n' := by
  unfold cellsAt
  split
  · exact (chunk_chunk _ o n o' n' h).symm
  · simp

theorem hasSize_some {t : Option Ty} (h : hasSize t = true) : ∃ tf, t = some tf ∧ 0 < tf.size := by
  unfold hasSize at h
  split at h
  · rename_i tf
    rw [blt_dec] at h
    exact ⟨tf, rfl, by simpa using h⟩
  · simp at h

theorem fld_sound (hc : CxOk P E cx) (h : Rel E n g st a w) {T : TypeId} {v : AV} {f : Nat} {u : Value} {v' : AV} (hl : fldV cx st T v f = some v') (hv : AVR g st.bx w v [u]) :
    ∃ u', (Instr.fieldAt T u f).run P w = .ok u' w ∧ AVR g st.bx w v' [u'] := by
  cases v with
  | sptr t d =>
    simp only [fldV] at hl
    obtain ⟨hck, hl⟩ := cond_none hl
    simp only [Bool.and_eq_true] at hck
    obtain ⟨tf, htf, hs⟩ := hasSize_some hck.2
    obtain ⟨blk, off, he, hS, hr⟩ := hv
    simp only [List.cons.injEq, and_true] at he
    subst he
    obtain ⟨df, k1, k2, k3⟩ := getD_fld f t tf _ _ d hr htf
    rw [k1] at hl
    simp only [Option.map_some, Option.some.injEq] at hl
    subst hl
    refine ⟨_, run_fieldAt (tyIs_ok hc hck.1) htf hs, blk, off + offF t f, rfl, hS, ?_⟩
    rw [cellsAt_chunk blk off t.size _ _ k3]
    exact k2
  | ptr b p =>
    simp only [fldV] at hl
    split at hl
    · rename_i x hx
      split at hl
      · rename_i t2 ht2
        obtain ⟨hck, hl⟩ := cond_none hl
        simp only [Bool.and_eq_true] at hck
        simp only [Option.some.injEq] at hl
        subst hl
        obtain ⟨tf, htf, hs⟩ := hasSize_some hck.2
        obtain ⟨t, cs, blk, off, he, hw, hL, hlen⟩ := ptr_read h hv hx (okR_prefix _ _ _ _ hck.1.2)
        subst he
        have : t = t2 := by
          have := walk_ty w p _ _ _ _ _ _ hw
          rw [ht2] at this
          exact (Option.some.inj this).symm
        subst this
        refine ⟨_, run_fieldAt (tyIs_ok hc hck.1.1) htf hs, ?_⟩
        intro x2 hx2 ho2
        rw [hx] at hx2
        simp only [Option.some.injEq] at hx2
        subst hx2
        refine ⟨tf, (cs.drop (offF t f)).take tf.size, blk, off + offF t f, ?_, rfl⟩
        rw [walk_append, hw, Option.bind_some, walk_fld w f t tf _ _ htf]
        rfl
      · simp at hl
    · simp at hl
  | undef => simp [fldV] at hl
  | skip => simp [fldV] at hl
  | nils => simp [fldV] at hl
  | val t d => simp [fldV] at hl
  | place b p => simp [fldV] at hl
  | cut b p lo hi => simp [fldV] at hl
  | fn f c => simp [fldV] at hl
  | tup c => simp [fldV] at hl
  | tnil => simp [fldV] at hl
  | tcons a b => simp [fldV] at hl

end
end Go.Eng
end

section
/- The engine: its operations are the model's: elements and stretches. -/
namespace Go.Eng
open Go

section
variable {P : Program} {E : En} {cx : Cx} {n : Nat} {g : Gh} {st : St} {a : Act} {w : World} {R : Type}

theorem val_slice {e : Ty} {l : List e.den} {u : Value} (hv : AVR g st.bx w (.val (.slice e) l) [u]) :
    ∃ base len cap, u = .slice base len cap ∧ l.length = len ∧ len ≤ cap ∧ (len = 0 ∨ ∃ b off, base = some ⟨b, off, none⟩ ∧ g.S b ∧ ∀ i (h : i < l.length), Rd w g.S e .shr none' (cellsAt w b (off + i * e.size) e.size) l[i]) := by
  obtain ⟨cs, h1, h2⟩ := hv
  simp only [Rd] at h1
  obtain ⟨base, len, cap, rfl, h3, h4, h5⟩ := h1
  simp only [List.cons.injEq, and_true] at h2
  exact ⟨base, len, cap, h2, h3, h4, h5⟩

theorem run_indexSl {T : TypeId} {e : Ty} {b off len cap : Nat} {j : IntKind} {i : Int} (h : TyOk P (.slice e) T) (h0 : 0 ≤ i) (h1 : i < len) :
    (Instr.indexAt T (.slice (some ⟨b, off, none⟩) len cap) (.int j i)).run P w = .ok (.pointer (some ⟨b, off + i.toNat * e.size, none⟩)) w := by
  simp only [TyOk] at h
  obtain ⟨_, E, h2, h3⟩ := h
  simp only [Instr.indexAt, asIntOf, Sem.run_bind, Sem.run_pure, Result.andThen_ok, run_und h2]
  rw [if_pos ⟨h0, h1⟩]
  simp [run_sizeOf h3, addr_add]

theorem run_indexArr {T : TypeId} {m : Nat} {e : Ty} {b off : Nat} {j : IntKind} {i : Int} (h : TyOk P (.arr m e) T) (h0 : 0 ≤ i) (h1 : i < m) :
    (Instr.indexAt T (.pointer (some ⟨b, off, none⟩)) (.int j i)).run P w = .ok (.pointer (some ⟨b, off + i.toNat * e.size, none⟩)) w := by
  simp only [TyOk] at h
  obtain ⟨_, E, h2, h3, _⟩ := h
  simp only [Instr.indexAt, asIntOf, Sem.run_bind, Sem.run_pure, Result.andThen_ok, run_und h2, Instr.sureAddr]
  rw [if_pos ⟨h0, h1⟩]
  simp [run_sizeOf h3, addr_add]

/-- At the end of a path from which an element may be reached lies a slice that is ours. -/
theorem here_slice {S : Nat → Prop} : ∀ (p : Path) (t : Ty) (m : Md) (F : Nat → Prop) (cs : List Value) (d : t.den) (l : Option (Nat × Nat)) (e : Ty) (cs' : List Value) (l' : Option (Nat × Nat)) (dl : List e.den) (i : Int),
    Rd w S t m F cs d → walk w t p cs l = some (.slice e, cs', l') → getD t p d = some ⟨.slice e, dl⟩ → okR t m (p ++ [.ix i]) = true →
    ∃ base len cap, cs' = [.slice base len cap] ∧ dl.length = len ∧ len ≤ cap ∧ (0 < cap → ∃ b0 off0, base = some ⟨b0, off0, none⟩)
  | [], t, m, F, cs, d, l, e, cs', l', dl, i, h, hw, hg, ho => by
    simp only [walk, Option.some.injEq, Prod.mk.injEq] at hw
    obtain ⟨rfl, rfl, rfl⟩ := hw
    simp only [getD, Option.some.injEq, Sigma.mk.injEq, heq_eq_eq, true_and] at hg
    subst hg
    cases m <;> simp only [List.nil_append, okR] at ho <;> (try (simp at ho; done)) <;> simp only [Rd] at h <;>
    · obtain ⟨base, len, cap, rfl, h1, h2, h3⟩ := h
      refine ⟨base, len, cap, rfl, h1, h2, fun hcap => ?_⟩
      rcases h3 with h3 | ⟨b0, off0, _, _, h3, _⟩
      · omega
      · exact ⟨b0, off0, h3⟩
  | s :: p, t, m, F, cs, d, l, e, cs', l', dl, i, h, hw, hg, ho => by
    cases t with
    | pair x y =>
      simp only [Rd] at h
      obtain ⟨F1, F2, h1, h2, h3, r1, r2⟩ := h
      cases s with
      | fst => simp only [List.cons_append, walk, okR, getD] at hw ho hg; exact here_slice p _ _ _ _ _ _ _ _ _ _ i r1 hw hg ho
      | snd => simp only [List.cons_append, walk, okR, getD] at hw ho hg; exact here_slice p _ _ _ _ _ _ _ _ _ _ i r2 hw hg ho
      | ix j => simp [walk] at hw
    | slice e0 =>
      cases s with
      | fst => simp [walk] at hw
      | snd => simp [walk] at hw
      | ix j =>
        change List e0.den at d
        have key : (∃ base len cap, cs = [.slice base len cap] ∧ d.length = len ∧ len ≤ cap ∧ (cap = 0 ∨ ∃ b off c el, base = some ⟨b, off, none⟩ ∧ F b ∧
            w.heap[b]? = some (.cells c el (0, 0)) ∧ off + cap * e0.size ≤ c.size ∧ ∃ Fi : Nat → Nat → Prop, (∀ i x, Fi i x → F x ∧ x ≠ b) ∧
            (∀ i j x, i ≠ j → Fi i x → ¬ Fi j x) ∧ ∀ i (h : i < d.length), Rd w S e0 (m.elem i) (Fi i) (chunk c.toList (off + i * e0.size) e0.size) d[i])) → okR e0 (m.elem j.toNat) (p ++ [.ix i]) = true →
            ∃ base len cap, cs' = [.slice base len cap] ∧ dl.length = len ∧ len ≤ cap ∧ (0 < cap → ∃ b0 off0, base = some ⟨b0, off0, none⟩) := by
          rintro ⟨base, len, cap, rfl, hl1, hc, h4⟩ ho'
          simp only [walk] at hw
          rcases h4 with h4 | ⟨b, off, c, el, rfl, hFb, hh, hoc, Fi, hFi, hd, hr⟩
          · split at hw
            · rename_i heq
              simp at heq
              split at hw
              · omega
              · simp at hw
            · simp at hw
          · simp only at hw
            split at hw
            · rename_i hi
              have hi' : j.toNat < d.length := by omega
              rw [cellsAt_eq hh] at hw
              simp only [getD] at hg
              rw [getD_eq d _ _ hi'] at hg
              exact here_slice p _ _ _ _ _ _ _ _ _ _ i (hr j.toNat hi') hw hg ho'
            · simp at hw
        cases m with
        | gone => simp [okR] at ho
        | pair _ _ => simp [okR] at ho
        | shr => simp [okR] at ho
        | own => simp only [Rd] at h; simp only [List.cons_append, okR] at ho; exact key h ho
        | top => simp only [Rd] at h; simp only [List.cons_append, okR] at ho; exact key h ho
        | ix j mj =>
          simp only [Rd] at h
          simp only [List.cons_append, okR, Bool.and_eq_true] at ho
          exact key h (by simp only [Md.elem]; split <;> simp [ho])
    | arr n0 e0 =>
      cases s with
      | fst => simp [walk] at hw
      | snd => simp [walk] at hw
      | ix j =>
        change List e0.den at d
        have key : (d.length = n0 ∧ cs.length = n0 * e0.size ∧ e0.flat = true ∧ ∀ i (h : i < d.length), Rd w S e0 .shr (fun _ => False) (chunk cs (i * e0.size) e0.size) d[i]) → okR e0 .shr (p ++ [.ix i]) = true →
            ∃ base len cap, cs' = [.slice base len cap] ∧ dl.length = len ∧ len ≤ cap ∧ (0 < cap → ∃ b0 off0, base = some ⟨b0, off0, none⟩) := by
          rintro ⟨hd, hc, hf, hr⟩ ho'
          simp only [walk] at hw
          split at hw
          · rename_i hi
            have hi' : j.toNat < d.length := by omega
            simp only [getD] at hg
            rw [getD_eq d _ _ hi'] at hg
            exact here_slice p _ _ _ _ _ _ _ _ _ _ i (hr j.toNat hi') hw hg ho'
          · simp at hw
        cases m <;> simp only [Rd, List.cons_append, okR] at h ho <;> first
          | (simp at ho; done)
          | exact key h ho
    | unit => simp [walk] at hw
    | int k => simp [walk] at hw
    | bool => simp [walk] at hw
    | str => simp [walk] at hw
    | iface => simp [walk] at hw

theorem dec_and {x y : Prop} [Decidable x] [Decidable y] (h : (decide x && decide y) = true) : x ∧ y := by simpa using h

theorem idx_sound (hc : CxOk P E cx) (h : Rel E n g st a w) {T : TypeId} {v i : AV} {u ui : Value} {k : AV → Option R} {r : R} (hk : idxK cx st T v i k = some r)
    (hv : AVR g st.bx w v [u]) (hi : AVR g st.bx w i [ui]) : ∃ v' u', k v' = some r ∧ (Instr.indexAt T u ui).run P w = .ok u' w ∧ AVR g st.bx w v' [u'] := by
  cases i with
  | val ti di =>
    cases ti with
    | int j =>
      change Int at di
      have := int_AVR hi
      subst this
      cases v with
      | val tv l =>
        cases tv with
        | slice e =>
          change List e.den at l
          simp only [idxK] at hk
          obtain ⟨hT, hk⟩ := cond_none hk
          obtain ⟨hr, hk⟩ := cond_none hk
          obtain ⟨hr0, hr1⟩ : (0 : Int) ≤ di ∧ (di : Int) < (List.length l : Int) := dec_and hr
          obtain ⟨base, len, cap, rfl, h1, h2, h3⟩ := val_slice hv
          rcases h3 with h3 | ⟨b, off, rfl, hS, hrd⟩
          · omega
          · refine ⟨_, _, hk, run_indexSl (tyIs_ok hc hT) hr0 (by omega), b, _, rfl, hS, ?_⟩
            have := hrd di.toNat (by omega)
            rw [getD_eq l _ _ (by omega)]
            exact this
        | _ => simp [idxK] at hk
      | sptr tv l =>
        cases tv with
        | arr m e =>
          change List e.den at l
          simp only [idxK] at hk
          obtain ⟨hT, hk⟩ := cond_none hk
          obtain ⟨hr, hk⟩ := cond_none hk
          obtain ⟨hr0, hr1⟩ : (0 : Int) ≤ di ∧ (di : Int) < (m : Int) := dec_and hr
          obtain ⟨blk, off, he, hS, hrd⟩ := hv
          simp only [List.cons.injEq, and_true] at he
          subst he
          simp only [Rd] at hrd
          obtain ⟨h1, h2, h3, h4⟩ := hrd
          refine ⟨_, _, hk, run_indexArr (tyIs_ok hc hT) hr0 hr1, blk, _, rfl, hS, ?_⟩
          have hb := chunk_in (sz := e.size) (show di.toNat < m by omega)
          have := h4 di.toNat (by omega)
          rw [getD_eq l _ _ (by omega), cellsAt_chunk blk off (Ty.arr m e).size (di.toNat * e.size) e.size (by simp only [Ty.size]; omega)]
          exact this
        | _ => simp [idxK] at hk
      | place b p =>
        simp only [idxK] at hk
        split at hk
        · rename_i x hx
          split at hk
          · rename_i e l hg
            change List e.den at l
            obtain ⟨hT, hk⟩ := cond_none hk
            simp only [Bool.and_eq_true] at hT
            obtain ⟨hr, hk⟩ := cond_none hk
            obtain ⟨hr0, hr1⟩ : (0 : Int) ≤ di ∧ (di : Int) < (List.length l : Int) := dec_and hr
            have ho := okR_prefix _ _ _ _ hT.2
            obtain ⟨t', cs', l', hw, hu⟩ := hv x hx ho
            simp only [List.cons.injEq, and_true] at hu
            obtain ⟨d', F', m', hg', _, _, hrd⟩ := read_walk w g.S p x.t x.m (g.F b) (g.cs b) x.d (locOf g b x) t' cs' l' (h.rd b x hx) hw ho
            rw [hg] at hg'
            simp only [Option.some.injEq, Sigma.mk.injEq] at hg'
            obtain ⟨rfl, hg'⟩ := hg'
            simp only [heq_eq_eq] at hg'
            subst hg'
            obtain ⟨base, len, cap, rfl, hl, hlc, hbase⟩ := here_slice p x.t x.m _ _ _ _ _ _ _ l di (h.rd b x hx) hw hg hT.2
            obtain ⟨b0, off0, rfl⟩ := hbase (by omega)
            subst hu
            refine ⟨_, _, hk, run_indexSl (tyIs_ok hc hT.1) hr0 (by omega), ?_⟩
            intro x2 hx2 ho2
            rw [hx] at hx2
            simp only [Option.some.injEq] at hx2
            subst hx2
            refine ⟨e, cellsAt w b0 (off0 + di.toNat * e.size) e.size, b0, off0 + di.toNat * e.size, ?_, rfl⟩
            rw [walk_append, hw, Option.bind_some]
            simp only [walk]
            rw [if_pos ⟨hr0, by omega⟩]
          · simp at hk
        · simp at hk
      | ptr b p =>
        simp only [idxK] at hk
        split at hk
        · rename_i x hx
          split at hk
          · rename_i m e ht
            obtain ⟨hT, hk⟩ := cond_none hk
            simp only [Bool.and_eq_true] at hT
            obtain ⟨hr, hk⟩ := cond_none hk
            obtain ⟨hr0, hr1⟩ : (0 : Int) ≤ di ∧ (di : Int) < (m : Int) := dec_and hr
            obtain ⟨t, cs, blk, off, he, hw, hL, hlen⟩ := ptr_read h hv hx (okR_prefix _ _ _ _ hT.2)
            subst he
            have : t = .arr m e := by
              have := walk_ty w p _ _ _ _ _ _ hw
              rw [ht] at this
              exact (Option.some.inj this).symm
            subst this
            refine ⟨_, _, hk, run_indexArr (tyIs_ok hc hT.1) hr0 hr1, ?_⟩
            intro x2 hx2 ho2
            rw [hx] at hx2
            simp only [Option.some.injEq] at hx2
            subst hx2
            refine ⟨e, chunk cs (di.toNat * e.size) e.size, blk, off + di.toNat * e.size, ?_, rfl⟩
            rw [walk_append, hw, Option.bind_some]
            simp only [walk]
            rw [if_pos ⟨hr0, hr1⟩]
            rfl
          · simp at hk
        · simp at hk
      | _ => simp [idxK] at hk
    | _ => simp [idxK] at hk
  | _ => simp [idxK] at hk

end
end Go.Eng
end

section
/- The engine: its operations are the model's: stretches, lengths, sums and comparisons. -/
namespace Go.Eng
open Go

section
variable {P : Program} {E : En} {cx : Cx} {n : Nat} {g : Gh} {st : St} {a : Act} {w : World} {R : Type}

/-- An operand that may be left out. -/
def AVO (g : Gh) (bx : List (Nat × Bx)) (w : World) : Option AV → Option Value → Prop
  | none, none => True
  | some v, some u => AVR g bx w v [u]
  | _, _ => False

theorem bnd_some {bx : List (Nat × Bx)} {o : Option AV} {u : Option Value} {d x : Int} (h : bndV o d = some x) (hv : AVO g bx w o u) : (u = none ∧ x = d) ∨ ∃ j, u = some (.int j x) := by
  unfold bndV at h
  split at h
  · cases u with
    | none => exact .inl ⟨rfl, (Option.some.inj h).symm⟩
    | some _ => exact hv.elim
  · rename_i j n
    cases u with
    | none => exact hv.elim
    | some u =>
      have := int_AVR (bx := bx) hv
      subst this
      simp only [Option.some.injEq] at h
      exact .inr ⟨j, by rw [← h]⟩
  · simp at h

theorem run_bound {j : IntKind} {x : Int} {y : Nat} {code : BoundsCode} (h0 : 0 ≤ x) (h1 : x ≤ y) : (Instr.sliceBound (.int j x) y code).run P w = .ok x.toNat w := by
  simp only [Instr.sliceBound, asIntOf, Sem.run_bind, Sem.run_pure, Result.andThen_ok]
  rw [if_pos ⟨h0, h1⟩]
  rfl

/-- The bounds of a slice expression without a third one. -/
theorem run_bounds {isS : Bool} {len cap : Nat} {ul uh : Option Value} {l h : Int} (hl : (ul = none ∧ l = 0) ∨ ∃ j, ul = some (.int j l)) (hh : (uh = none ∧ h = len) ∨ ∃ j, uh = some (.int j h))
    (h0 : 0 ≤ l) (h1 : l ≤ h) (h2 : h ≤ len) (h3 : len ≤ cap) : (Instr.sliceBounds isS len cap ul uh none).run P w = .ok (l.toNat, h.toNat, cap) w := by
  have hh' : h.toNat ≤ len := by omega
  rcases hl with ⟨rfl, rfl⟩ | ⟨j, rfl⟩ <;> rcases hh with ⟨rfl, rfl⟩ | ⟨j', rfl⟩
  · simp [Instr.sliceBounds]
  · simp only [Instr.sliceBounds, Sem.run_bind, Sem.run_pure, Result.andThen_ok]
    rw [run_bound (by omega) (by omega)]
    simp
  · simp only [Instr.sliceBounds, Sem.run_bind, Sem.run_pure, Result.andThen_ok]
    rw [run_bound (by omega) (by omega)]
    simp
  · simp only [Instr.sliceBounds, Sem.run_bind, Sem.run_pure, Result.andThen_ok]
    rw [run_bound (by omega) (by omega)]
    simp only [Result.andThen_ok]
    rw [run_bound (by omega) (by omega)]
    simp

theorem run_bounds3 {isS : Bool} {len cap : Nat} {ul uh : Option Value} {l h m : Int} {jm : IntKind} (hl : (ul = none ∧ l = 0) ∨ ∃ j, ul = some (.int j l)) (hh : ∃ j, uh = some (.int j h))
    (h0 : 0 ≤ l) (h1 : l ≤ h) (h2 : h ≤ m) (h3 : m ≤ cap) : (Instr.sliceBounds isS len cap ul uh (some (.int jm m))).run P w = .ok (l.toNat, h.toNat, m.toNat) w := by
  obtain ⟨j', rfl⟩ := hh
  rcases hl with ⟨rfl, rfl⟩ | ⟨j, rfl⟩
  · simp only [Instr.sliceBounds, Sem.run_bind, Sem.run_pure, Result.andThen_ok]
    rw [run_bound (by omega) (by omega)]
    simp only [Result.andThen_ok]
    rw [run_bound (by omega) (by omega)]
    simp
  · simp only [Instr.sliceBounds, Sem.run_bind, Sem.run_pure, Result.andThen_ok]
    rw [run_bound (by omega) (by omega)]
    simp only [Result.andThen_ok]
    rw [run_bound (by omega) (by omega)]
    simp only [Result.andThen_ok]
    rw [run_bound (by omega) (by omega)]
    simp

theorem run_sliceStr {T : TypeId} {s : List UInt8} {ul uh : Option Value} {l h : Int} (hT : TyOk P .str T) (hl : (ul = none ∧ l = 0) ∨ ∃ j, ul = some (.int j l)) (hh : (uh = none ∧ h = s.length) ∨ ∃ j, uh = some (.int j h))
    (h0 : 0 ≤ l) (h1 : l ≤ h) (h2 : h ≤ s.length) : (Instr.sliceAt T (.string ⟨⟨s⟩⟩) ul uh none).run P w = .ok (.string ⟨⟨List.drop l.toNat (List.take h.toNat s)⟩⟩) w := by
  simp only [TyOk] at hT
  have hsz : (ByteArray.mk ⟨s⟩).size = s.length := rfl
  simp only [Instr.sliceAt, Sem.run_bind, run_und hT.2, Result.andThen_ok, Instr.slice, Option.isSome_none, Bool.false_eq_true, if_false, hsz]
  rw [run_bounds hl hh h0 h1 h2 (Nat.le_refl _)]
  simp only [Result.andThen_ok, Sem.run_pure]
  congr 2
  rw [ByteArray.ext_iff]
  apply Array.ext'
  simp [ByteArray.data_extract, List.drop_take]

theorem run_sliceSl {T : TypeId} {e : Ty} {base : Option Addr} {len cap : Nat} {ul uh um : Option Value} {l h m : Int} (hT : TyOk P (.slice e) T)
    (hb : (Instr.sliceBounds true len cap ul uh um).run P w = .ok (l.toNat, h.toNat, m.toNat) w) :
    (Instr.sliceAt T (.slice base len cap) ul uh um).run P w = .ok (.slice (if m.toNat = l.toNat then base else base.map (·.add (l.toNat * e.size))) (h.toNat - l.toNat) (m.toNat - l.toNat)) w := by
  simp only [TyOk] at hT
  obtain ⟨_, E, h2, h3⟩ := hT
  simp only [Instr.sliceAt, Sem.run_bind, run_und h2, Result.andThen_ok, Instr.slice, hb, run_sizeOf h3, Sem.run_pure]

/-- A stretch of a shared slice. -/
theorem Rd_cutS (S : Nat → Prop) (e : Ty) (base : Option Addr) (len cap : Nat) (d : List e.den) (h : Rd w S (.slice e) .shr none' [.slice base len cap] d) {lo hi m : Nat} (h1 : lo ≤ hi) (h2 : hi ≤ len) (h3 : hi ≤ m) :
    Rd w S (.slice e) .shr none' [.slice (if m = lo then base else base.map (·.add (lo * e.size))) (hi - lo) (m - lo)] (List.drop lo (List.take hi d) : List e.den) := by
  simp only [Rd] at h ⊢
  obtain ⟨base0, len0, cap0, he, hl, hc, hh⟩ := h
  simp only [List.cons.injEq, Value.slice.injEq, and_true] at he
  obtain ⟨rfl, rfl, rfl⟩ := he
  refine ⟨_, _, _, rfl, by clear hh; simp; omega, by omega, ?_⟩
  by_cases hz : hi - lo = 0
  · exact .inl hz
  rcases hh with hh | ⟨b, off, rfl, hS, hr⟩
  · omega
  refine .inr ⟨b, off + lo * e.size, ?_, hS, fun i hi' => ?_⟩
  · rw [if_neg (by omega)]; simp [addr_add]
  · simp only [List.length_drop, List.length_take] at hi'
    have hli : lo + i < d.length := by omega
    have := hr (lo + i) hli
    rw [show off + lo * e.size + i * e.size = off + (lo + i) * e.size by rw [Nat.add_mul]; omega]
    simp only [List.getElem_drop, List.getElem_take]
    exact this

theorem slice_sound (hc : CxOk P E cx) (h : Rel E n g st a w) {T : TypeId} {v : AV} {lo hi mx : Option AV} {u : Value} {ul uh um : Option Value} {k : AV → Option R} {r : R} (hk : sliceK cx st T v lo hi mx k = some r)
    (hv : AVR g st.bx w v [u]) (hlo : AVO g st.bx w lo ul) (hhi : AVO g st.bx w hi uh) (hmx : AVO g st.bx w mx um) : ∃ v' u', k v' = some r ∧ (Instr.sliceAt T u ul uh um).run P w = .ok u' w ∧ AVR g st.bx w v' [u'] := by
  cases v with
  | val tv s =>
    cases tv with
    | str =>
      change List UInt8 at s
      simp only [sliceK] at hk
      split at hk
      · rename_i l h' hbl hbh
        obtain ⟨hT, hk⟩ := cond_none hk
        obtain ⟨hr, hk⟩ := cond_none hk
        simp only [Bool.and_eq_true, decide_eq_true_eq] at hr
        have := str_AVR hv
        subst this
        cases um with
        | some _ => exact hmx.elim
        | none =>
          exact ⟨_, _, hk, run_sliceStr (tyIs_ok hc hT) (bnd_some hbl hlo) (bnd_some hbh hhi) hr.1.1 hr.1.2 hr.2, AVR_str _⟩
      · simp at hk
    | slice e =>
      change List e.den at s
      obtain ⟨cs, hrd, hcs⟩ := hv
      have hrd0 := hrd
      simp only [Rd] at hrd
      obtain ⟨base, len, cap, rfl, hl, hlc, _⟩ := hrd
      simp only [List.cons.injEq, and_true] at hcs
      change u = .slice base len cap at hcs
      subst hcs
      simp only [sliceK] at hk
      split at hk
      · rename_i l h' hbl hbh
        obtain ⟨hT, hk⟩ := cond_none hk
        obtain ⟨hr, hk⟩ := cond_none hk
        simp only [Bool.and_eq_true, decide_eq_true_eq] at hr
        cases um with
        | some _ => exact hmx.elim
        | none =>
          have hb := run_bounds (P := P) (w := w) (isS := true) (len := len) (cap := cap) (bnd_some hbl hlo) (by rw [← hl]; exact bnd_some hbh hhi) hr.1.1 hr.1.2 (by omega) hlc
          have := run_sliceSl (P := P) (w := w) (len := len) (cap := cap) (ul := ul) (uh := uh) (um := none) (l := l) (h := h') (m := (cap : Int)) (base := base) (tyIs_ok hc hT) (by rw [Int.toNat_natCast]; exact hb)
          exact ⟨_, _, hk, this, _, Rd_cutS g.S e base len cap s hrd0 (m := (cap : Int).toNat) (by omega) (by omega) (by omega), rfl⟩
      · rename_i jm m l h' hbl hbh
        change Int at m
        obtain ⟨hT, hk⟩ := cond_none hk
        simp only [Bool.and_eq_true] at hT
        obtain ⟨hT, his⟩ := hT
        obtain ⟨hr, hk⟩ := cond_none hk
        simp only [Bool.and_eq_true, decide_eq_true_eq] at hr
        obtain ⟨⟨⟨hr1, hr2⟩, hr3⟩, hr4⟩ := hr
        have hr3 : h' ≤ m := hr3
        have hr4 : m ≤ (List.length s : Int) := hr4
        cases um with
        | none => exact hmx.elim
        | some um =>
          have := int_AVR (bx := st.bx) hmx
          subst this
          rcases bnd_some hbh hhi with ⟨e1, e2⟩ | hbh'
          · subst e1; cases hi <;> first | (simp at his; done) | exact hhi.elim
          have hb := run_bounds3 (P := P) (w := w) (isS := true) (len := len) (cap := cap) (jm := jm) (bnd_some hbl hlo) hbh' hr1 hr2 hr3 (by omega)
          have := run_sliceSl (P := P) (w := w) (base := base) (tyIs_ok hc hT) hb
          exact ⟨_, _, hk, this, _, Rd_cutS g.S e base len cap s hrd0 (m := m.toNat) (by omega) (by omega) (by omega), rfl⟩
      · simp at hk
    | _ => simp [sliceK] at hk
  | sptr tv s =>
    cases tv with
    | arr m e =>
      change List e.den at s
      simp only [sliceK] at hk
      split at hk
      · obtain ⟨hT, hk⟩ := cond_none hk
        have hT := tyIs_ok hc hT
        simp only [TyOk] at hT
        obtain ⟨_, E', hu, hE, _⟩ := hT
        obtain ⟨blk, off, he, hS, hrd⟩ := hv
        simp only [List.cons.injEq, and_true] at he
        subst he
        cases ul <;> cases uh <;> cases um <;> first | exact hlo.elim | exact hhi.elim | exact hmx.elim | skip
        simp only [Rd] at hrd
        obtain ⟨h1, h2, h3, h4⟩ := hrd
        have hb := run_bounds (P := P) (w := w) (isS := false) (len := m) (cap := m) (ul := none) (uh := none) (l := 0) (h := (m : Int)) (.inl ⟨rfl, rfl⟩) (.inl ⟨rfl, rfl⟩) (by omega) (by omega) (by omega) (by omega)
        refine ⟨_, .slice (some ⟨blk, off, none⟩) m m, hk, ?_, [.slice (some ⟨blk, off, none⟩) m m], ?_, rfl⟩
        · simp only [Instr.sliceAt, Sem.run_bind, run_und hu, Result.andThen_ok, Instr.sureAddr, Sem.run_pure, hb, run_sizeOf hE]
          simp [addr_add]
        · simp only [Rd]
          refine ⟨_, _, _, rfl, h1, Nat.le_refl _, .inr ⟨blk, off, rfl, hS, fun i hi' => ?_⟩⟩
          have hb := chunk_in (sz := e.size) (show i < m by omega)
          rw [cellsAt_chunk blk off (Ty.arr m e).size (i * e.size) e.size (by simp only [Ty.size]; omega)]
          exact h4 i hi'
      · simp at hk
    | _ => simp [sliceK] at hk
  | place b p =>
    simp only [sliceK] at hk
    split at hk
    · rename_i x hx
      split at hk
      · rename_i e s hg
        change List e.den at s
        have main : ∀ (l h' m : Int), okR x.t x.m (p ++ [.ix 0]) = true → 0 ≤ l → l ≤ h' → h' ≤ (List.length s : Int) → (∀ len cap, len = s.length → len ≤ cap → ∃ m' : Nat, h'.toNat ≤ m' ∧ m' ≤ cap ∧ (Instr.sliceBounds true len cap ul uh um).run P w = .ok (l.toNat, h'.toNat, m') w) → TyOk P (.slice e) T →
            k (.cut b p l h') = some r → ∃ v' u', k v' = some r ∧ (Instr.sliceAt T u ul uh um).run P w = .ok u' w ∧ AVR g st.bx w v' [u'] := by
          intro l h' m hokr h0 h1 h2 hb hT hk
          have ho := okR_prefix _ _ _ _ hokr
          obtain ⟨t', cs', l', hw, hu⟩ := hv x hx ho
          simp only [List.cons.injEq, and_true] at hu
          obtain ⟨d', F', m', hg', _, _, hrd⟩ := read_walk w g.S p x.t x.m (g.F b) (g.cs b) x.d (locOf g b x) t' cs' l' (h.rd b x hx) hw ho
          rw [hg] at hg'
          simp only [Option.some.injEq, Sigma.mk.injEq] at hg'
          obtain ⟨rfl, hg'⟩ := hg'
          simp only [heq_eq_eq] at hg'
          subst hg'
          obtain ⟨base, len, cap, rfl, hl, hlc, hbase⟩ := here_slice p x.t x.m _ _ _ _ _ _ _ s 0 (h.rd b x hx) hw hg hokr
          change u = .slice base len cap at hu
          subst hu
          obtain ⟨mm, hm1, hm2, hbr⟩ := hb len cap hl.symm hlc
          refine ⟨_, _, hk, run_sliceSl (P := P) (w := w) (l := l) (h := h') (m := (mm : Int)) hT (by rw [Int.toNat_natCast]; exact hbr), ?_⟩
          intro x2 hx2 ho2
          rw [hx] at hx2
          simp only [Option.some.injEq] at hx2
          subst hx2
          refine ⟨e, base, len, cap, l', hw, h0, h1, by omega, if (mm : Int).toNat = l.toNat then base else base.map (·.add (l.toNat * e.size)), mm - l.toNat, ?_, ?_, ?_⟩
          · simp only [Int.toNat_natCast]
            rw [show (h' - l).toNat = h'.toNat - l.toNat by omega]
          · omega
          · by_cases hz : mm = l.toNat
            · left; omega
            · right
              refine ⟨by omega, ?_⟩
              obtain ⟨b0, off0, rfl⟩ := hbase (by omega)
              exact ⟨b0, off0, rfl, by rw [if_neg (by simpa using hz)]; simp [addr_add]⟩
        split at hk
        · rename_i l h' hbl hbh
          obtain ⟨hT, hk⟩ := cond_none hk
          simp only [Bool.and_eq_true] at hT
          obtain ⟨hr, hk⟩ := cond_none hk
          simp only [Bool.and_eq_true, decide_eq_true_eq] at hr
          cases um with
          | some _ => exact hmx.elim
          | none =>
            refine main l h' 0 hT.2 hr.1.1 hr.1.2 hr.2 (fun len cap hl hlc => ⟨cap, ?_, Nat.le_refl _, ?_⟩) (tyIs_ok hc hT.1) hk
            · have := hr.2; omega
            · exact run_bounds (bnd_some hbl hlo) (by rw [hl]; exact bnd_some hbh hhi) hr.1.1 hr.1.2 (by rw [hl]; exact hr.2) hlc
        · rename_i jm m l h' hbl hbh
          change Int at m
          obtain ⟨hT, hk⟩ := cond_none hk
          simp only [Bool.and_eq_true] at hT
          obtain ⟨hT, his⟩ := hT
          obtain ⟨hr, hk⟩ := cond_none hk
          simp only [Bool.and_eq_true, decide_eq_true_eq] at hr
          obtain ⟨⟨⟨hr1, hr2⟩, hr3⟩, hr4⟩ := hr
          have hr3 : h' ≤ m := hr3
          have hr4 : m ≤ (List.length s : Int) := hr4
          cases um with
          | none => exact hmx.elim
          | some um =>
            have := int_AVR (bx := st.bx) hmx
            subst this
            rcases bnd_some hbh hhi with ⟨e1, e2⟩ | hbh'
            · subst e1; cases hi <;> first | (simp at his; done) | exact hhi.elim
            refine main l h' 0 hT.2 hr1 hr2 (by omega) (fun len cap hl hlc => ⟨m.toNat, by omega, by omega, ?_⟩) (tyIs_ok hc hT.1) hk
            exact run_bounds3 (bnd_some hbl hlo) hbh' hr1 hr2 hr3 (by omega)
        · simp at hk
      · simp at hk
    · simp at hk
  | _ => simp [sliceK] at hk

end
end Go.Eng
end

section
/- The engine: its operations are the model's: sums, comparisons, lengths. -/
namespace Go.Eng
open Go

section
variable {P : Program} {E : En} {cx : Cx} {n : Nat} {g : Gh} {st : St} {a : Act} {w : World} {R : Type}

theorem run_part {t : Ty} {T : TypeId} {X : List Value} {o : Nat} (h : TyOk P t T) (hl : ((X.drop o).take t.size).length = t.size) : (part T ⟨X⟩ o).run P w = .ok (toV t ((X.drop o).take t.size)) w := by
  unfold part
  simp only [Sem.run_bind, run_isAgg h, Result.andThen_ok]
  cases ha : t.agg
  · have h1 : t.size = 1 := by cases t <;> simp [Ty.agg] at ha <;> rfl
    rw [h1] at hl ⊢
    obtain ⟨x, hx⟩ := List.length_eq_one_iff.1 hl
    have : X[o]? = some x := by
      have h0 : ((X.drop o).take 1)[0]? = some x := by rw [hx]; rfl
      rw [List.getElem?_take, if_pos (by omega), List.getElem?_drop, Nat.add_zero] at h0
      exact h0
    simp only [Bool.false_eq_true, if_false]
    rw [show (⟨X⟩ : Array Value)[o]? = X[o]? from by simp, this, hx]
    simp [toV, ha]
  · simp only [if_true, Sem.run_bind, run_sizeOf h, Result.andThen_ok, Sem.run_pure, toV, ha]
    congr 3
    simp

theorem len_take_drop {X : List Value} {o : Nat} {b : Ty} {S : Nat → Prop} {m : Md} {F : Nat → Prop} {d : b.den} {s : Nat} (h : Rd w S b m F ((X.drop o).drop s) d) : ((X.drop o).drop s).length = b.size := Rd_len _ _ _ _ _ _ _ h

mutual
/-- '==' on what the engine compares. -/
theorem run_eqD (S : Nat → Prop) : ∀ (t : Ty) (T : TypeId) (k : Nat) (F F' : Nat → Prop) (xs ys : List Value) (x y : t.den), eqTy t = true → TyOk P t T → nd t ≤ k →
    Rd w S t .shr F xs x → Rd w S t .shr F' ys y → (Op.equalIn k T (toV t xs) (toV t ys)).run P w = .ok (eqD t x y) w
  | .unit, T, k, F, F', xs, ys, x, y, he, hT, hk, hx, hy => by
    simp only [nd] at hk
    obtain ⟨k, rfl⟩ : ∃ k', k = k' + 1 := ⟨k - 1, by omega⟩
    have hb := hT.base
    simp only [TyOk] at hT
    have hfo : P.fieldsOf T = #[] := by simp [Program.fieldsOf, hT.2]
    have := run_equalIn_struct (P := P) w k T ⟨xs⟩ ⟨ys⟩ (by rw [hfo]; exact hT.2) hb.held
    simp only [toV, Ty.agg, if_true]
    rw [this, hfo]
    rfl
  | .int j, T, k, F, F', xs, ys, x, y, he, hT, hk, hx, hy => by
    simp only [nd] at hk
    obtain ⟨k, rfl⟩ : ∃ k', k = k' + 1 := ⟨k - 1, by omega⟩
    simp only [TyOk] at hT
    simp only [Rd] at hx hy
    subst hx hy
    change (Op.equalIn (k + 1) T (.int j x) (.int j y)).run P w = _
    simp only [Op.equalIn, Sem.run_bind, run_und hT.2, Result.andThen_ok, if_true]
    rfl
  | .bool, T, k, F, F', xs, ys, x, y, he, hT, hk, hx, hy => by
    simp only [nd] at hk
    obtain ⟨k, rfl⟩ : ∃ k', k = k' + 1 := ⟨k - 1, by omega⟩
    simp only [TyOk] at hT
    simp only [Rd] at hx hy
    subst hx hy
    change (Op.equalIn (k + 1) T (.bool x) (.bool y)).run P w = _
    simp only [Op.equalIn, Sem.run_bind, run_und hT.2, Result.andThen_ok]
    rfl
  | .str, T, k, F, F', xs, ys, x, y, he, hT, hk, hx, hy => by
    simp only [nd] at hk
    obtain ⟨k, rfl⟩ : ∃ k', k = k' + 1 := ⟨k - 1, by omega⟩
    simp only [TyOk] at hT
    simp only [Rd] at hx hy
    subst hx hy
    change (Op.equalIn (k + 1) T (.string ⟨⟨x⟩⟩) (.string ⟨⟨y⟩⟩)).run P w = _
    simp only [Op.equalIn, Sem.run_bind, run_und hT.2, Result.andThen_ok]
    rw [beq_toListBytes, ByteArray.toList_mk, ByteArray.toList_mk]
    rfl
  | .pair s t, T, k, F, F', xs, ys, x, y, he, hT, hk, hx, hy => by
    simp only [nd] at hk
    obtain ⟨k, rfl⟩ : ∃ k', k = k' + 1 := ⟨k - 1, by omega⟩
    have hb := hT.base
    simp only [TyOk] at hT
    obtain ⟨_, f, r, h1, h2, h3, h4, h5⟩ := hT
    have hfo : P.fieldsOf T = ⟨f :: r⟩ := by simp [Program.fieldsOf, h1]
    have := run_equalIn_struct (P := P) w k T ⟨xs⟩ ⟨ys⟩ (by rw [hfo]; exact h1) hb.held
    simp only [toV, Ty.agg, if_true]
    rw [this, hfo]
    simp only [eqTy, Bool.and_eq_true] at he
    simp only [Rd, Md.fst, Md.snd] at hx hy
    obtain ⟨F1, F2, _, _, _, rx1, rx2⟩ := hx
    obtain ⟨G1, G2, _, _, _, ry1, ry2⟩ := hy
    have l1 := Rd_len _ _ _ _ _ _ _ rx1
    have l2 := Rd_len _ _ _ _ _ _ _ ry1
    have e1 := run_eqD S s f.type k _ _ _ _ x.1 y.1 he.1 h4 (by omega) rx1 ry1
    have e2 := run_eqF S t r s.size k _ _ xs ys x.2 y.2 he.2 h5 (by omega) rx2 ry2
    have p1 := run_part (P := P) (w := w) (X := xs) (o := 0) h4 (by simpa using l1)
    have p2 := run_part (P := P) (w := w) (X := ys) (o := 0) h4 (by simpa using l2)
    simp only [List.drop_zero] at p1 p2
    simp only [Op.eqFields, if_pos h3, h2, Sem.run_bind, p1, p2, Result.andThen_ok, e1, eqD]
    cases eqD s x.1 y.1
    · simp
    · simp [e2]
  | .slice e, T, k, F, F', xs, ys, x, y, he, hT, hk, hx, hy => by simp [eqTy] at he
  | .arr m e, T, k, F, F', xs, ys, x, y, he, hT, hk, hx, hy => by simp [eqTy] at he
  | .iface, T, k, F, F', xs, ys, x, y, he, hT, hk, hx, hy => by simp [eqTy] at he
theorem run_eqF (S : Nat → Prop) : ∀ (t : Ty) (fs : List Field) (o k : Nat) (F F' : Nat → Prop) (X Y : List Value) (x y : t.den), eqTy t = true → FldOk P t fs o → nd t ≤ k →
    Rd w S t .shr F (X.drop o) x → Rd w S t .shr F' (Y.drop o) y → (Op.eqFields k ⟨X⟩ ⟨Y⟩ fs).run P w = .ok (eqD t x y) w
  | .unit, fs, o, k, F, F', X, Y, x, y, he, hf, hk, hx, hy => by
    simp only [FldOk] at hf
    subst hf
    rfl
  | .pair s t, fs, o, k, F, F', X, Y, x, y, he, hf, hk, hx, hy => by
    simp only [FldOk] at hf
    simp only [nd] at hk
    obtain ⟨f, r, rfl, h2, h3, h4, h5⟩ := hf
    simp only [eqTy, Bool.and_eq_true] at he
    simp only [Rd, Md.fst, Md.snd] at hx hy
    obtain ⟨F1, F2, _, _, _, rx1, rx2⟩ := hx
    obtain ⟨G1, G2, _, _, _, ry1, ry2⟩ := hy
    have l1 := Rd_len _ _ _ _ _ _ _ rx1
    have l2 := Rd_len _ _ _ _ _ _ _ ry1
    have e1 := run_eqD S s f.type k _ _ _ _ x.1 y.1 he.1 h4 (by omega) rx1 ry1
    rw [List.drop_drop] at rx2 ry2
    have e2 := run_eqF S t r (o + s.size) k _ _ X Y x.2 y.2 he.2 h5 (by omega) rx2 ry2
    have p1 := run_part (P := P) (w := w) (X := X) (o := o) h4 l1
    have p2 := run_part (P := P) (w := w) (X := Y) (o := o) h4 l2
    simp only [Op.eqFields, if_pos h3, h2, Sem.run_bind, p1, p2, Result.andThen_ok, e1, eqD]
    cases eqD s x.1 y.1
    · simp
    · simp [e2]
  | .int j, fs, o, k, F, F', X, Y, x, y, he, hf, hk, hx, hy => by simp [FldOk] at hf
  | .bool, fs, o, k, F, F', X, Y, x, y, he, hf, hk, hx, hy => by simp [FldOk] at hf
  | .str, fs, o, k, F, F', X, Y, x, y, he, hf, hk, hx, hy => by simp [FldOk] at hf
  | .slice e, fs, o, k, F, F', X, Y, x, y, he, hf, hk, hx, hy => by simp [FldOk] at hf
  | .arr m e, fs, o, k, F, F', X, Y, x, y, he, hf, hk, hx, hy => by simp [FldOk] at hf
  | .iface, fs, o, k, F, F', X, Y, x, y, he, hf, hk, hx, hy => by simp [FldOk] at hf
end

end
end Go.Eng
end

section
/- The engine: its operations are the model's: sums and comparisons. -/
namespace Go.Eng
open Go

section
variable {P : Program} {E : En} {cx : Cx} {n : Nat} {g : Gh} {st : St} {a : Act} {w : World} {R : Type}

theorem tyIs_eq (hc : CxOk P E cx) {T : TypeId} {t : Ty} (h : tyIs cx T t = true) (he : eqTy t = true) : P.eqGuardType P.depth T = false := by
  unfold tyIs at h
  split at h
  · rename_i t' ht
    have := Ty.eq_of_beq h
    subst this
    exact hc.eq T t' ht he
  · simp at h

theorem bin_int {op : BinOp} {T : TypeId} {X Y : Operand} {j j' : IntKind} {p q : Int} {yc : Bool} {k : AV → Option R} {r : R} (hk : binV cx op T yc (.val (.int j) p) (.val (.int j') q) k = some r) :
    ∃ v' u', k v' = some r ∧ (do eqGuard op T X Y (.int j p) (.int j' q); binOp op T (.int j p) (.int j' q) : Sem Value).run P w = .ok u' w ∧ AVR g st.bx w v' [u'] := by
  have hg : (eqGuard op T X Y (.int j p) (.int j' q)).run P w = .ok () w := by
    cases op <;> simp [eqGuard]
  cases op
  case shl =>
    simp only [binV] at hk
    obtain ⟨h0, hk⟩ := cond_none hk
    have h0 : (0 : Int) ≤ q := by simpa using h0
    refine ⟨_, _, hk, ?_, AVR_int _ _⟩
    simp only [Sem.run_bind, hg, Result.andThen_ok, binOp, Op.shift]
    rw [if_neg (by omega)]
    rfl
  case shr =>
    simp only [binV] at hk
    obtain ⟨h0, hk⟩ := cond_none hk
    have h0 : (0 : Int) ≤ q := by simpa using h0
    refine ⟨_, _, hk, ?_, AVR_int _ _⟩
    simp only [Sem.run_bind, hg, Result.andThen_ok, binOp, Op.shift]
    rw [if_neg (by omega)]
    rfl
  case andNot =>
    simp only [binV] at hk
    obtain ⟨hj, hk⟩ := cond_none hk
    simp at hk
  all_goals
    simp only [binV] at hk
    obtain ⟨hj, hk2⟩ := cond_none hk
    clear hk
    have hjj : j = j' := IntKind.num_inj (by simpa [beq_dec] using hj)
    subst hjj
  case quo =>
    obtain ⟨h0, hk⟩ := cond_none hk2
    have h0 : q ≠ 0 := by simpa using h0
    refine ⟨_, _, hk, ?_, AVR_int _ _⟩
    simp only [Sem.run_bind, hg, Result.andThen_ok, binOp, Op.intDiv, ne_eq, not_true_eq_false, if_false]
    rw [if_neg h0]
    rfl
  case rem =>
    obtain ⟨h0, hk⟩ := cond_none hk2
    have h0 : q ≠ 0 := by simpa using h0
    refine ⟨_, _, hk, ?_, AVR_int _ _⟩
    simp only [Sem.run_bind, hg, Result.andThen_ok, binOp, Op.intDiv, ne_eq, not_true_eq_false, if_false]
    rw [if_neg h0]
    rfl
  all_goals
    refine ⟨_, _, hk2, ?_, by first | exact AVR_int _ _ | exact AVR_bool _⟩
    simp only [Sem.run_bind, hg, Result.andThen_ok, binOp, ne_eq, not_true_eq_false, if_false, Op.intArith, Op.intBits, Op.intCmp]
    rfl

theorem bin_sound (hc : CxOk P E cx) {op : BinOp} {T : TypeId} {X Y : Operand} {x y : AV} {u v : Value} {k : AV → Option R} {r : R} (hk : binV cx op T (isC Y) x y k = some r)
    (hx : AVR g st.bx w x [u]) (hy : AVR g st.bx w y [v]) :
    ∃ v' u', k v' = some r ∧ (do eqGuard op T X Y u v; binOp op T u v : Sem Value).run P w = .ok u' w ∧ AVR g st.bx w v' [u'] := by
  cases x with
  | val tx dx =>
    cases y with
    | val ty dy =>
      cases tx with
      | int j =>
        cases ty with
        | int j' =>
          change Int at dx dy
          have := int_AVR hx
          have := int_AVR hy
          subst u v
          exact bin_int hk
        | _ => simp [binV] at hk
      | str =>
        cases ty with
        | str =>
          change List UInt8 at dx dy
          have := str_AVR hx
          have := str_AVR hy
          subst u v
          have hg : (eqGuard op T X Y (.string ⟨⟨dx⟩⟩) (.string ⟨⟨dy⟩⟩)).run P w = .ok () w := by cases op <;> simp [eqGuard]
          cases op <;> simp only [binV] at hk <;> try (simp at hk; done)
          case add =>
            obtain ⟨h0, hk⟩ := cond_none hk
            have h0 : List.length dx + List.length dy < 4611686018427387904 := by simpa using h0
            refine ⟨_, _, hk, ?_, AVR_str _⟩
            have hs : ((ByteArray.mk ⟨dx⟩).size + (ByteArray.mk ⟨dy⟩).size : Nat) = dx.length + dy.length := rfl
            simp only [Sem.run_bind, hg, Result.andThen_ok, binOp, Op.stringOp, hs]
            rw [if_neg (by simp [IntKind.max, IntKind.signed, IntKind.bits]; omega)]
            simp only [Sem.run_pure]
            congr 2
          case eql =>
            refine ⟨_, _, hk, ?_, AVR_bool _⟩
            simp only [Sem.run_bind, hg, Result.andThen_ok, binOp, Op.stringOp, ByteArray.toList_mk]
            rfl
          case neq =>
            refine ⟨_, _, hk, ?_, AVR_bool _⟩
            simp only [Sem.run_bind, hg, Result.andThen_ok, binOp, Op.stringOp, ByteArray.toList_mk]
            rfl
        | _ => simp [binV] at hk
      | bool =>
        cases ty with
        | bool =>
          change Bool at dx dy
          have := bool_AVR hx
          have := bool_AVR hy
          subst u v
          simp only [binV] at hk
          obtain ⟨hT, hk⟩ := cond_none hk
          have hT := tyIs_ok hc hT
          have he := run_eqD (P := P) (w := w) g.S .bool T Op.maxDepth none' none' [.bool dx] [.bool dy] dx dy rfl hT (by simp [nd, Op.maxDepth]) (by simp only [Rd]) (by simp only [Rd])
          change (Op.equalIn Op.maxDepth T (.bool dx) (.bool dy)).run P w = .ok (dx == dy) w at he
          have hg : (eqGuard op T X Y (.bool dx) (.bool dy)).run P w = .ok () w := by cases op <;> simp [eqGuard]
          cases op <;> simp only [] at hk <;> try (simp at hk; done)
          case eql =>
            refine ⟨_, _, hk, ?_, AVR_bool _⟩
            simp only [Sem.run_bind, hg, Result.andThen_ok, binOp, Op.equal, he, Sem.run_pure]
          case neq =>
            refine ⟨_, _, hk, ?_, AVR_bool _⟩
            simp only [Sem.run_bind, hg, Result.andThen_ok, binOp, Op.equal, he, Sem.run_pure]
        | _ => simp [binV] at hk
      | iface =>
        cases ty with
        | iface =>
          change Bool at dx dy
          cases dy
          case true => simp [binV] at hk
          simp only [binV] at hk
          obtain ⟨hT, hk2⟩ := cond_none hk
          clear hk
          simp only [Bool.and_eq_true] at hT
          have hTT := tyIs_ok hc hT.2
          simp only [TyOk] at hTT
          obtain ⟨_, ms, hu⟩ := hTT
          obtain ⟨cs, h1, h2⟩ := hx
          obtain ⟨cs', h1', h2'⟩ := hy
          simp only [Rd, Bool.false_eq_true, if_false] at h1 h1'
          obtain ⟨_, rfl⟩ := h1'
          simp only [List.cons.injEq, and_true] at h2 h2'
          change v = .nilIface at h2'
          subst h2'
          have hY : ∃ c, Y = .const c := by
            cases Y with
            | const c => exact ⟨c, rfl⟩
            | _ => simp [isC] at hT
          obtain ⟨c, rfl⟩ := hY
          obtain ⟨_, h1⟩ := h1
          cases dx
          · simp only [Bool.false_eq_true, if_false] at h1
            subst h1
            change u = .nilIface at h2
            subst h2
            have hg : (eqGuard op T X (.const c) .nilIface .nilIface).run P w = .ok () w := by cases op <;> simp [eqGuard]
            have he : (Op.equalIn Op.maxDepth T .nilIface .nilIface).run P w = .ok true w := by
              have : ∀ d, (Op.equalIn (d + 1) T .nilIface .nilIface).run P w = .ok true w := by
                intro d
                simp only [Op.equalIn, Sem.run_bind, run_und hu, Result.andThen_ok, Sem.run_pure]
              exact this 9999
            cases op <;> simp only [] at hk2 <;> try (simp at hk2; done)
            · refine ⟨_, _, hk2, ?_, AVR_bool _⟩
              simp only [Sem.run_bind, hg, Result.andThen_ok, binOp, Op.equal, he, Sem.run_pure]
              rfl
            · refine ⟨_, _, hk2, ?_, AVR_bool _⟩
              simp only [Sem.run_bind, hg, Result.andThen_ok, binOp, Op.equal, he, Sem.run_pure]
              rfl
          · simp only [if_true] at h1
            obtain ⟨ti, vi, rfl⟩ := h1
            change u = .iface ti vi at h2
            subst h2
            have hg : (eqGuard op T X (.const c) (.iface ti vi) .nilIface).run P w = .ok () w := by cases op <;> simp [eqGuard]
            have he : (Op.equalIn Op.maxDepth T (.iface ti vi) .nilIface).run P w = .ok false w := by
              have : ∀ d, (Op.equalIn (d + 1) T (.iface ti vi) .nilIface).run P w = .ok false w := by
                intro d
                simp only [Op.equalIn, Sem.run_bind, run_und hu, Result.andThen_ok, Sem.run_pure]
              exact this 9999
            cases op <;> simp only [] at hk2 <;> try (simp at hk2; done)
            · refine ⟨_, _, hk2, ?_, AVR_bool _⟩
              simp only [Sem.run_bind, hg, Result.andThen_ok, binOp, Op.equal, he, Sem.run_pure]
              rfl
            · refine ⟨_, _, hk2, ?_, AVR_bool _⟩
              simp only [Sem.run_bind, hg, Result.andThen_ok, binOp, Op.equal, he, Sem.run_pure]
              rfl
        | _ => simp [binV] at hk
      | pair s t =>
        cases ty with
        | pair s' t' =>
          simp only [binV] at hk
          split at hk
          · rename_i b hb
            obtain ⟨hck, hk⟩ := cond_none hk
            simp only [Bool.and_eq_true, blt_dec, decide_eq_true_eq] at hck
            have hab := Dat.as_some hb
            simp only [Sigma.mk.injEq, Ty.pair.injEq] at hab
            obtain ⟨⟨rfl, rfl⟩, hab⟩ := hab
            simp only [heq_eq_eq] at hab
            subst hab
            obtain ⟨cs, h1, h2⟩ := hx
            obtain ⟨cs', h1', h2'⟩ := hy
            simp only [List.cons.injEq, and_true] at h2 h2'
            subst h2 h2'
            have he := run_eqD (P := P) (w := w) g.S (.pair s' t') T Op.maxDepth _ _ cs cs' dx dy hck.1.1 (tyIs_ok hc hck.1.2) (by simp only [Op.maxDepth]; omega) h1 h1'
            have hgt := tyIs_eq hc hck.1.2 hck.1.1
            simp only [toV, Ty.agg, if_true] at he ⊢
            have hg : (eqGuard op T X Y (.agg ⟨cs⟩) (.agg ⟨cs'⟩)).run P w = .ok () w := by cases op <;> simp [eqGuard, hgt]
            cases op <;> simp only [] at hk <;> try (simp at hk; done)
            · refine ⟨_, _, hk, ?_, AVR_bool _⟩
              simp only [Sem.run_bind, hg, Result.andThen_ok, binOp, Op.equal, he, Sem.run_pure]
            · refine ⟨_, _, hk, ?_, AVR_bool _⟩
              simp only [Sem.run_bind, hg, Result.andThen_ok, binOp, Op.equal, he, Sem.run_pure]
          · simp at hk
        | _ => simp [binV] at hk
      | _ => cases ty <;> simp [binV] at hk
    | _ => cases tx <;> simp [binV] at hk
  | _ => simp [binV] at hk

end
end Go.Eng
end

section
/- The engine: its operations are the model's: stores, new variables. -/
namespace Go.Eng
open Go

theorem Rd_flatTo (w : World) (S : Nat → Prop) : ∀ (t : Ty) (m : Md) (F : Nat → Prop) (cs : List Value) (d : t.den), t.flat = true → full t m = true → Rd w S t .shr none' cs d → Rd w S t m F cs d
  | .unit, m, F, cs, d, hf, hm, h => by simpa only [Rd] using h
  | .int k, m, F, cs, d, hf, hm, h => by cases m <;> simp only [Rd, full] at h hm ⊢ <;> first | exact h | simp at hm
  | .bool, m, F, cs, d, hf, hm, h => by cases m <;> simp only [Rd, full] at h hm ⊢ <;> first | exact h | simp at hm
  | .str, m, F, cs, d, hf, hm, h => by cases m <;> simp only [Rd, full] at h hm ⊢ <;> first | exact h | simp at hm
  | .iface, m, F, cs, d, hf, hm, h => by cases m <;> simp only [Rd, full] at h hm ⊢ <;> first | exact h | simp at hm
  | .arr n e, m, F, cs, d, hf, hm, h => by cases m <;> simp only [Rd, full] at h hm ⊢ <;> first | exact h | simp at hm
  | .slice e, m, F, cs, d, hf, hm, h => by simp [Ty.flat] at hf
  | .pair a b, m, F, cs, d, hf, hm, h => by
    simp only [Ty.flat, Bool.and_eq_true] at hf
    simp only [full, Bool.and_eq_true] at hm
    simp only [Rd, Md.fst, Md.snd] at h ⊢
    obtain ⟨F1, F2, _, _, _, r1, r2⟩ := h
    exact ⟨none', none', fun _ hx => hx.elim, fun _ hx => hx.elim, fun _ hx => hx.elim, Rd_flatTo w S a _ _ _ _ hf.1 hm.1 (Rd_shrF _ _ _ _ _ _ _ r1), Rd_flatTo w S b _ _ _ _ hf.2 hm.2 (Rd_shrF _ _ _ _ _ _ _ r2)⟩

theorem ownIf_Rd {w : World} {S : Nat → Prop} {t : Ty} {m : Md} {F : Nat → Prop} {cs : List Value} {d : t.den} (hf : full t m = true) (hr : Rd w S t m F cs d) : Rd w S t (ownIf t m) F cs d ∧ full t (ownIf t m) = true := by
  unfold ownIf
  cases h : t.flat
  · exact ⟨hr, hf⟩
  · exact ⟨Rd_flatTo w S t .own F cs d h (full_own t) (Rd_flat w w S S t m F none' cs d h hf hr), full_own t⟩

section
variable {P : Program} {E : En} {cx : Cx} {n : Nat} {g : Gh} {st : St} {a : Act} {w : World} {R : Type}

theorem kReal_ne (d : Nat) : kReal d % 16 ≠ 15 := by unfold kReal; omega
theorem kVal_ne (d : Nat) : kVal d % 16 ≠ 15 := by unfold kVal; omega

theorem fltL_all {α : Type} {p : Nat → α → Bool} : ∀ {l : List (Nat × α)}, allL p l = true → fltL p l = l
  | [], _ => rfl
  | x :: r, h => by
    simp only [allL, Bool.and_eq_true] at h
    simp only [fltL, h.1, cond_true, fltL_all h.2]

theorem fltK_ok {strict : Bool} {f : Nat → Path → Bool → Bool} {k : St → Option R} {r : R} (h : fltK strict f st k = some r) : k ⟨fltL (fun _ v => v.all f) st.tm, st.bx⟩ = some r := by
  unfold fltK at h
  cases strict
  · exact h
  · simp only [cond_true] at h
    obtain ⟨h1, h2⟩ := cond_none h
    rw [fltL_all h1]
    exact h2

theorem newK_ok {strict : Bool} {b : Nat} {x : Bx} {k : St → Option R} {r : R} (h : newK strict st b x k = some r) : k ⟨fltL (fun _ v => v.all (noBox b)) st.tm, putL st.bx b x⟩ = some r := by
  unfold newK at h
  exact fltK_ok h

theorem setD_ty : ∀ (p : Path) (t : Ty) (d : t.den) (u : Dat) (dn : t.den), setD t p d u = some dn → tyAt t p = some u.1
  | [], t, d, u, dn, h => by
    simp only [setD] at h
    rw [Dat.as_some h]
    cases t <;> rfl
  | s :: p, t, d, u, dn, h => by
    cases t <;> cases s <;> simp only [setD] at h <;> (try (simp at h; done)) <;> simp only [tyAt]
    all_goals
      simp only [Option.map_eq_some_iff] at h
      obtain ⟨x, h, _⟩ := h
      exact setD_ty p _ _ _ _ h

theorem store_sound (hc : CxOk P E cx) (h : Rel E n g st a w) {strict : Bool} {T : TypeId} {x v : AV} {u uv : Value} {k : St → Option R} {r : R} (hk : storeK cx st strict T x v k = some r)
    (hx : AVR g st.bx w x [u]) (hv : AVR g st.bx w v [uv]) : ∃ g' st' w', k st' = some r ∧ (Instr.storeAt T u uv).run P w = .ok () w' ∧ Rel E n g' st' a w' := by
  cases x with
  | ptr b p =>
    simp only [storeK] at hk
    split at hk
    · rename_i b0 p0 t he hT
      simp only [AV.ptr.injEq] at he
      obtain ⟨rfl, rfl⟩ := he
      obtain ⟨g1, st1, m, d, F, cs, hk1, hR, hL, hrd, hu, hH, hF, hfu, hkeep⟩ := takeK_sound hk h hv
      dsimp only at hk1
      split at hk1
      · rename_i x1 hx1
        split at hk1
        · rename_i d' hd'
          obtain ⟨hok, hk2⟩ := cond_none hk1
          have hk3 := fltK_ok hk2
          obtain ⟨t', cs', blk, off, he, hw, hLc, hlen⟩ := ptr_read hR (hkeep _ _ hx) hx1 (okP_okR _ _ _ hok)
          have htt : t' = t := by
            have h1 := walk_ty w p x1.t _ _ _ _ _ hw
            have h2 := setD_ty p x1.t _ _ _ hd'
            rw [h1] at h2
            exact Option.some.inj h2
          subst htt
          obtain ⟨hrd', hfu'⟩ := ownIf_Rd hfu hrd
          obtain ⟨dn, F', hdn, _, hR'⟩ := hR.write hx1 hw hok hrd' (fun _ => hfu') hH
          rw [hd'] at hdn
          simp only [Option.some.injEq] at hdn
          subst hdn
          refine ⟨_, _, _, hk3, ?_, hR'⟩
          subst he hu
          simp only [Instr.storeAt, Sem.run_bind, Instr.sureAddr, Sem.run_pure, Result.andThen_ok]
          exact run_storeVar (hc.ty T t' hT) hlen hLc (Rd_len _ _ _ _ _ _ _ hrd) (Rd_plain _ _ _ _ _ _ _ hrd)
        · simp at hk1
      · simp at hk1
    · simp at hk
  | _ => simp [storeK] at hk

theorem replicate_chunk {z : List Value} {i m : Nat} (h : i < m) : chunk (List.replicate m z).flatten (i * z.length) z.length = z := by
  induction m generalizing i with
  | zero => omega
  | succ m ih =>
    simp only [List.replicate_succ, List.flatten_cons, chunk]
    cases i with
    | zero => simp
    | succ i =>
      rw [show (i + 1) * z.length = z.length + i * z.length by rw [Nat.add_mul]; omega, ← List.drop_drop, List.drop_left]
      exact ih (by omega)

theorem Rd_zero (w : World) (S : Nat → Prop) : ∀ (t : Ty) (T : TypeId), TyOk P t T → Rd w S t .own none' (zeros t) t.dflt
  | .unit, T, h => by simp only [Rd, zeros]
  | .int k, T, h => by simp only [Rd, zeros]; rfl
  | .bool, T, h => by simp only [Rd, zeros]; rfl
  | .str, T, h => by simp only [Rd, zeros]; rfl
  | .iface, T, h => by
    simp only [Rd, zeros, Gone]
    exact ⟨⟨rfl, by simp [plain]⟩, by simp [Ty.dflt]⟩
  | .slice e, T, h => by
    simp only [Rd, zeros]
    exact ⟨none, 0, 0, rfl, rfl, Nat.le_refl _, .inl rfl⟩
  | .arr m e, T, h => by
    simp only [TyOk] at h
    obtain ⟨_, E, _, h2, hf⟩ := h
    have he := Rd_zero w S e E h2
    simp only [Rd, zeros, Ty.dflt]
    refine ⟨by simp, by simp [zeros_len], hf, fun i hi => ?_⟩
    simp only [List.length_replicate] at hi
    have := replicate_chunk (z := zeros e) (i := i) (m := m) hi
    rw [zeros_len] at this
    rw [this, List.getElem_replicate]
    exact Rd_flat w w S S e .own _ _ _ _ hf (full_own e) he
  | .pair a b, T, h => by
    simp only [TyOk] at h
    obtain ⟨_, f, r, _, _, _, h1, h2⟩ := h
    simp only [Rd, zeros, Ty.dflt, Md.fst, Md.snd]
    refine ⟨none', none', fun _ hx => hx.elim, fun _ hx => hx.elim, fun _ hx => hx.elim, ?_, ?_⟩
    · rw [List.take_left' (zeros_len a)]; exact Rd_zero w S a _ h1
    · rw [List.drop_left' (zeros_len a)]; exact Rd_zeroF w S b r _ h2
where
  Rd_zeroF (w : World) (S : Nat → Prop) : ∀ (t : Ty) (fs : List Field) (o : Nat), FldOk P t fs o → Rd w S t .own none' (zeros t) t.dflt
  | .unit, fs, o, h => by simp only [Rd, zeros]
  | .pair a b, fs, o, h => by
    simp only [FldOk] at h
    obtain ⟨f, r, _, _, _, h1, h2⟩ := h
    simp only [Rd, zeros, Ty.dflt, Md.fst, Md.snd]
    refine ⟨none', none', fun _ hx => hx.elim, fun _ hx => hx.elim, fun _ hx => hx.elim, ?_, ?_⟩
    · rw [List.take_left' (zeros_len a)]; exact Rd_zero w S a _ h1
    · rw [List.drop_left' (zeros_len a)]; exact Rd_zeroF w S b r _ h2
  | .int k, fs, o, h => by simp [FldOk] at h
  | .bool, fs, o, h => by simp [FldOk] at h
  | .str, fs, o, h => by simp [FldOk] at h
  | .iface, fs, o, h => by simp [FldOk] at h
  | .slice e, fs, o, h => by simp [FldOk] at h
  | .arr m e, fs, o, h => by simp [FldOk] at h

/-- A new variable in memory. -/
theorem new_real (h : Rel E n g st a w) {b : Nat} {t : Ty} {m : Md} {F : Nat → Prop} {cs : List Value} {d : t.den} {T : TypeId} (hb : b % 16 ≠ 15) (hr : Rd w g.S t m F cs d) (hH : Held E g st w F) :
    ∃ g', Rel E n g' ⟨fltL (fun _ v => v.all (noBox b)) st.tm, putL st.bx b ⟨t, m, d, true⟩⟩ a { w with heap := w.heap.push (.cells ⟨cs⟩ T) } ∧
      AVR g' (putL st.bx b ⟨t, m, d, true⟩) { w with heap := w.heap.push (.cells ⟨cs⟩ T) } (.ptr b []) [.pointer (some ⟨w.heap.size, 0, none⟩)] := by
  have hold : ∀ y, y < w.heap.size → ({ w with heap := w.heap.push (.cells ⟨cs⟩ T) } : World).heap[y]? = w.heap[y]? := by
    intro y hy
    simp only [Array.getElem?_push]
    rw [if_neg (by omega)]
  have hsz : w.heap.size ≤ ({ w with heap := w.heap.push (.cells ⟨cs⟩ T) } : World).heap.size := by simp
  have hg := h.grow (w' := { w with heap := w.heap.push (.cells ⟨cs⟩ T) }) hold hsz rfl rfl rfl
  have hr' : Rd { w with heap := w.heap.push (.cells ⟨cs⟩ T) } g.S t m F cs d := Rd_frame w _ g.S g.S (fun y hy => ⟨hy, hold y (h.bS y hy)⟩) t m F cs d (fun y hy => hold y (hH.bd y hy)) hr
  have hL : Loc { w with heap := w.heap.push (.cells ⟨cs⟩ T) } (w.heap.size, 0) cs := ⟨⟨cs⟩, T, by simp, by simp, by simp [chunk]⟩
  have hN := hg.newB (b := b) (x := ⟨t, m, d, true⟩) (cs := cs) (F := F) (loc := (w.heap.size, 0)) hb hr' (hH.grow hsz) (fun _ => ⟨hL, h.fr.size, fun hf => by have := hH.bd _ hf; simp at this,
    fun hs => by have := h.bS _ hs; simp at this, fun b' x' hx' => ⟨fun hf => by have := h.bF b' x' _ hx' hf; simp at this, fun hr' he => by have := h.lt hx' hr'; rw [he] at this; simp at this⟩⟩)
  refine ⟨_, hN, ?_⟩
  intro x hx ho
  rw [look_putL, if_pos rfl] at hx
  simp only [Option.some.injEq] at hx
  subst hx
  exact ⟨t, cs, w.heap.size, 0, by simp [walk, locOf, nbG], rfl⟩

/-- A new value that nobody else owns. -/
theorem new_val (h : Rel E n g st a w) {b : Nat} {t : Ty} {m : Md} {F : Nat → Prop} {cs : List Value} {d : t.den} (hb : b % 16 ≠ 15) (hr : Rd w g.S t m F cs d) (hH : Held E g st w F) :
    ∃ g', Rel E n g' ⟨fltL (fun _ v => v.all (noBox b)) st.tm, putL st.bx b ⟨t, m, d, false⟩⟩ a w ∧ AVR g' (putL st.bx b ⟨t, m, d, false⟩) w (.place b []) [toV t cs] := by
  have hN := h.newB (b := b) (x := ⟨t, m, d, false⟩) (cs := cs) (F := F) (loc := (0, 0)) hb hr hH (fun hx => by simp at hx)
  refine ⟨_, hN, ?_⟩
  intro x hx ho
  rw [look_putL, if_pos rfl] at hx
  simp only [Option.some.injEq] at hx
  subst hx
  exact ⟨t, cs, none, by simp [walk, locOf, nbG], rfl⟩

end
end Go.Eng
end
