/- Part 6 of 20 of a claim; what is proved, and under which conditions, stands in the last part. Here: EngW, EngX, EngY, EngZ. -/
import Derived.Test.YtfihmdlpikfbbaaGreatDoorM05
import Derived.Great.FillDense
import Derived.Deep.AppendSrc
import Derived.Laws.AppendOwn
set_option linter.unusedVariables false
set_option linter.unusedSimpArgs false
set_option linter.unusedSectionVars false
section
/- The engine: its operations are the model's: slices that are written out. -/
namespace Go.Eng
open Go

section
variable {P : Program} {E : En} {cx : Cx} {n : Nat} {g : Gh} {st : St} {a : Act} {w : World} {R : Type}

/-- Values that were handed over one after the other: each by itself, no block twice. -/
inductive TakenL (w : World) (S : Nat → Prop) (e : Ty) : List Md → List (Nat → Prop) → List (List Value) → List e.den → Prop where
  | nil : TakenL w S e [] [] [] []
  | cons {m F cs d ms Fs css ds} : Rd w S e m F cs d → full e m = true → (∀ G ∈ Fs, ∀ y, F y → ¬ G y) → TakenL w S e ms Fs css ds → TakenL w S e (m :: ms) (F :: Fs) (cs :: css) (d :: ds)

theorem takeL_sound {e : Ty} : ∀ {vs : List AV} {us : List Value} {g : Gh} {st : St} {k : St → List Md → List e.den → Option R} {r : R}, takeL st e vs k = some r → Rel E n g st a w → vs.length = us.length →
    (∀ (i : Nat) (v : AV) (u : Value), vs[i]? = some v → us[i]? = some u → AVR g st.bx w v [u]) →
    ∃ g1 st1 ms ds Fs css, k st1 ms ds = some r ∧ Rel E n g1 st1 a w ∧ Less g st g1 st1 ∧ TakenL w g1.S e ms Fs css ds ∧ us = css.map (toV e) ∧ (∀ F ∈ Fs, Held E g1 st1 w F) ∧
      (∀ F ∈ Fs, ∀ y, F y → ∃ b x, look st.bx b = some x ∧ g.F b y) ∧ ∀ v vs, AVR g st.bx w v vs → AVR g1 st1.bx w v vs
  | [], us, g, st, k, r, hk, h, hl, hv => by
    have : us = [] := by cases us <;> simp at hl <;> rfl
    subst this
    exact ⟨g, st, [], [], [], [], hk, h, Less.refl _ _, .nil, rfl, by simp, by simp, fun _ _ h => h⟩
  | v :: vs, us, g, st, k, r, hk, h, hl, hv => by
    cases us with
    | nil => simp at hl
    | cons u us =>
      simp only [takeL] at hk
      obtain ⟨g1, st1, m, d, F, cs, hk1, hR1, hL1, hrd, hu, hH, hF, hfu, hkeep⟩ := takeK_sound hk h (hv 0 v u rfl rfl)
      dsimp only at hk1
      obtain ⟨g2, st2, ms, ds, Fs, css, hk2, hR2, hL2, hT, hus, hHs, hFs, hkeep2⟩ := takeL_sound hk1 hR1 (by simpa using hl) (fun i v' u' h1 h2 => hkeep _ _ (hv (i + 1) v' u' (by simpa using h1) (by simpa using h2)))
      refine ⟨g2, st2, m :: ms, d :: ds, F :: Fs, cs :: css, hk2, hR2, hL1.trans hL2, .cons ?_ hfu ?_ hT, ?_, ?_, ?_, fun v vs hh => hkeep2 _ _ (hkeep _ _ hh)⟩
      · rw [hL2.S]; exact hrd
      · intro G hG y hy hGy
        obtain ⟨b, x, hx, hg⟩ := hFs G hG y hGy
        exact hH.dF b x y hx hg hy
      · rw [hu, hus]; rfl
      · intro G hG
        rcases List.mem_cons.1 hG with rfl | hG
        · exact hH.less hL2
        · exact hHs G hG
      · intro G hG y hy
        rcases List.mem_cons.1 hG with rfl | hG
        · obtain ⟨b, x, h1, h2, _⟩ := hF y hy; exact ⟨b, x, h1, h2⟩
        · obtain ⟨b, x1, hx1, hg1⟩ := hFs G hG y hy
          obtain ⟨x0, k1, _⟩ := hL1.bx b x1 hx1
          exact ⟨b, x0, k1, hL1.F b y hg1⟩

theorem flatten_chunk {sz : Nat} : ∀ (css : List (List Value)) (i : Nat) (cs : List Value), (∀ c ∈ css, c.length = sz) → css[i]? = some cs → chunk css.flatten (i * sz) sz = cs
  | [], i, cs, hl, h => by simp at h
  | c :: css, 0, cs, hl, h => by
    simp only [List.getElem?_cons_zero, Option.some.injEq] at h
    subst h
    have := hl c (by simp)
    simp [chunk, ← this]
  | c :: css, i + 1, cs, hl, h => by
    have hc := hl c (by simp)
    simp only [List.getElem?_cons_succ] at h
    have ih := flatten_chunk css i cs (fun c' hc' => hl c' (by simp [hc'])) h
    simp only [List.flatten_cons, chunk]
    rw [show (i + 1) * sz = c.length + i * sz by rw [Nat.add_mul, hc]; omega, ← List.drop_drop, List.drop_left]
    exact ih

theorem TakenL.get {S : Nat → Prop} {e : Ty} {ms : List Md} {Fs : List (Nat → Prop)} {css : List (List Value)} {ds : List e.den} (h : TakenL w S e ms Fs css ds) :
    ms.length = ds.length ∧ Fs.length = ds.length ∧ css.length = ds.length ∧ (∀ c ∈ css, c.length = e.size ∧ ∀ v ∈ c, plain v = true) ∧
    (∀ (i : Nat) (_ : i < ds.length), ∃ m F cs, ms[i]? = some m ∧ Fs[i]? = some F ∧ css[i]? = some cs ∧ Rd w S e m F cs ds[i] ∧ full e m = true) ∧
    ∀ (i j : Nat) (F G : Nat → Prop) (y : Nat), i ≠ j → Fs[i]? = some F → Fs[j]? = some G → F y → ¬ G y := by
  induction h with
  | nil => simp
  | @cons m F cs d ms Fs css ds hr hf hd hT ih =>
    obtain ⟨h1, h2, h3, h4, h5, h6⟩ := ih
    refine ⟨by simp [h1], by simp [h2], by simp [h3], ?_, ?_, ?_⟩
    · intro c hc
      rcases List.mem_cons.1 hc with rfl | hc
      · exact ⟨Rd_len _ _ _ _ _ _ _ hr, Rd_plain _ _ _ _ _ _ _ hr⟩
      · exact h4 c hc
    · intro i hi
      cases i with
      | zero => exact ⟨m, F, cs, rfl, rfl, rfl, hr, hf⟩
      | succ i =>
        obtain ⟨m', F', cs', a1, a2, a3, a4, a5⟩ := h5 i (by simpa using hi)
        exact ⟨m', F', cs', by simpa using a1, by simpa using a2, by simpa using a3, by simpa using a4, a5⟩
    · intro i j G1 G2 y hij hi hj hy
      cases i with
      | zero =>
        cases j with
        | zero => exact absurd rfl hij
        | succ j =>
          simp only [List.getElem?_cons_zero, Option.some.injEq] at hi
          subst hi
          simp only [List.getElem?_cons_succ] at hj
          exact hd G2 (List.mem_of_getElem? hj) y hy
      | succ i =>
        simp only [List.getElem?_cons_succ] at hi
        cases j with
        | zero =>
          simp only [List.getElem?_cons_zero, Option.some.injEq] at hj
          subst hj
          exact fun hF => hd G1 (List.mem_of_getElem? hi) y hF hy
        | succ j =>
          simp only [List.getElem?_cons_succ] at hj
          exact h6 i j G1 G2 y (by omega) hi hj hy

theorem Rd_ownF (w : World) (S : Nat → Prop) (t : Ty) (m : Md) (F : Nat → Prop) (cs : List Value) (d : t.den) (hf : t.flat = true) (hm : full t m = true) (h : Rd w S t m F cs d) (F' : Nat → Prop) : Rd w S t .own F' cs d := by
  have h1 := Rd_flat w w S S t m F none' cs d hf hm h
  clear h hm
  induction t generalizing F' cs with
  | unit => simpa only [Rd] using h1
  | int k => simpa only [Rd] using h1
  | bool => simpa only [Rd] using h1
  | str => simpa only [Rd] using h1
  | iface => simpa only [Rd] using h1
  | slice e => simp [Ty.flat] at hf
  | arr n e => simpa only [Rd] using h1
  | pair a b iha ihb =>
    simp only [Ty.flat, Bool.and_eq_true] at hf
    simp only [Rd, Md.fst, Md.snd] at h1 ⊢
    obtain ⟨F1, F2, _, _, _, r1, r2⟩ := h1
    exact ⟨none', none', fun _ hx => hx.elim, fun _ hx => hx.elim, fun _ hx => hx.elim, iha _ d.1 hf.1 _ (Rd_shrF _ _ _ _ _ _ _ r1), ihb _ d.2 hf.2 _ (Rd_shrF _ _ _ _ _ _ _ r2)⟩

/-- A row of cells in a block of its own, with what its elements own. -/
theorem Rd_row (S : Nat → Prop) {e : Ty} {ms : List Md} {Fs : List (Nat → Prop)} {css : List (List Value)} {ds : List e.den} {m : Md} (hm : rowMd e ms = some m) (h : TakenL w S e ms Fs css ds) {c : Array Value} {el : TypeId} {blk cap : Nat}
    (hb : w.heap[blk]? = some (.cells c el (0, 0))) (hc : ds.length ≤ cap) (hcap : cap * e.size ≤ c.size) (hpre : ∀ i, i < ds.length → chunk c.toList (i * e.size) e.size = css.getD i []) (hF : ∀ F ∈ Fs, ¬ F blk) :
    Rd w S (.slice e) m (fun y => y = blk ∨ ∃ F ∈ Fs, F y) [.slice (some ⟨blk, 0, none⟩) ds.length cap] ds ∧ full (.slice e) m = true := by
  obtain ⟨h1, h2, h3, h4, h5, h6⟩ := h.get
  have key : ∀ m' : Md, (∀ (i : Nat) (_ : i < ds.length) (mi : Md) (Fi : Nat → Prop) (csi : List Value), ms[i]? = some mi → Rd w S e mi Fi csi ds[i] → full e mi = true → Rd w S e (m'.elem i) Fi csi ds[i]) →
      ∃ base len cap', [Value.slice (some ⟨blk, 0, none⟩) ds.length cap] = [.slice base len cap'] ∧ ds.length = len ∧ len ≤ cap' ∧ (cap' = 0 ∨ ∃ b off c el, base = some ⟨b, off, none⟩ ∧ (b = blk ∨ ∃ F ∈ Fs, F b) ∧
        w.heap[b]? = some (.cells c el (0, 0)) ∧ off + cap' * e.size ≤ c.size ∧ ∃ Fi : Nat → Nat → Prop, (∀ i x, Fi i x → (x = blk ∨ ∃ F ∈ Fs, F x) ∧ x ≠ b) ∧
        (∀ i j x, i ≠ j → Fi i x → ¬ Fi j x) ∧ ∀ i (h : i < ds.length), Rd w S e (m'.elem i) (Fi i) (chunk c.toList (off + i * e.size) e.size) ds[i]) := by
    intro m' hm'
    refine ⟨_, _, _, rfl, rfl, hc, .inr ⟨blk, 0, c, el, rfl, .inl rfl, hb, by omega, fun i y => ∃ F, Fs[i]? = some F ∧ F y, ?_, ?_, ?_⟩⟩
    · rintro i x ⟨F, hi, hx⟩
      have hmem := List.mem_of_getElem? hi
      exact ⟨.inr ⟨F, hmem, hx⟩, fun he => hF F hmem (he ▸ hx)⟩
    · rintro i j x hij ⟨F, hi, hx⟩ ⟨G, hj, hy⟩
      exact h6 i j F G x hij hi hj hx hy
    · intro i hi
      obtain ⟨mi, Fi, csi, a1, a2, a3, a4, a5⟩ := h5 i hi
      rw [Nat.zero_add, hpre i hi, show css.getD i [] = csi by simp [List.getD, a3]]
      exact Rd_monoF _ _ _ _ _ _ _ _ (fun y hy => ⟨Fi, a2, hy⟩) (hm' i hi mi Fi csi a1 a4 a5)
  unfold rowMd at hm
  cases hfo : (e.flat || ms.all isOwn)
  · rw [hfo] at hm
    simp only [cond_false] at hm
    cases hsh : ms.all isShr
    · rw [hsh] at hm; simp at hm
    · rw [hsh] at hm
      simp only [cond_true, Option.some.injEq] at hm
      subst hm
      refine ⟨?_, rfl⟩
      simp only [Rd]
      refine key .top (fun i hi mi Fi csi a1 a4 a5 => ?_)
      have := List.all_eq_true.1 hsh mi (List.mem_of_getElem? a1)
      have : mi = .shr := by cases mi <;> simp [isShr] at this <;> rfl
      subst this
      exact a4
  · rw [hfo] at hm
    simp only [cond_true, Option.some.injEq] at hm
    subst hm
    refine ⟨?_, rfl⟩
    simp only [Rd]
    refine key .own (fun i hi mi Fi csi a1 a4 a5 => ?_)
    simp only [Bool.or_eq_true] at hfo
    rcases hfo with hfo | hfo
    · exact Rd_ownF w S e mi Fi csi _ hfo a5 a4 Fi
    · have := List.all_eq_true.1 hfo mi (List.mem_of_getElem? a1)
      have : mi = .own := by cases mi <;> simp [isOwn] at this <;> rfl
      subst this
      exact a4

/-- Filling a row part by part. -/
theorem foldl_splice : ∀ (x : List Value) (off : Nat) (cs : List Value) (s : Nat), off + s + x.length ≤ cs.length →
    ((x.zipIdx s).foldl (fun (cs : Array Value) (p : Value × Nat) => cs.setIfInBounds (off + p.2) p.1) ⟨cs⟩) = ⟨splice cs (off + s) x⟩
  | [], off, cs, s, h => by simp [splice]
  | v :: x, off, cs, s, h => by
    simp only [List.length_cons] at h
    simp only [List.zipIdx_cons, List.foldl_cons]
    have : (⟨cs⟩ : Array Value).setIfInBounds (off + s) v = ⟨cs.set (off + s) v⟩ := by simp
    rw [this, foldl_splice x off (cs.set (off + s) v) (s + 1) (by simp; omega)]
    congr 1
    apply List.ext_getElem?
    intro i
    rw [getElem?_splice (cs := cs.set (off + s) v) (x := x) (off := off + (s + 1)) (by simp; omega), getElem?_splice (cs := cs) (x := v :: x) (off := off + s) (by simp; omega)]
    simp only [List.getElem?_set, List.length_cons]
    by_cases a1 : i < off + s
    · have e1 : i < off + (s + 1) := by omega
      have e2 : ¬ off + s = i := by omega
      simp only [a1, e1, e2, if_true, if_false]
    · by_cases a2 : off + s = i
      · subst a2
        have e1 : off + s < off + (s + 1) := by omega
        have e2 : off + s < cs.length := by omega
        have e3 : off + s < off + s + (x.length + 1) := by omega
        simp only [a1, e1, e2, e3, if_true, if_false, Nat.sub_self, List.getElem?_cons_zero]
      · have e1 : ¬ i < off + (s + 1) := by omega
        by_cases a3 : i < off + s + (x.length + 1)
        · have e2 : i < off + (s + 1) + x.length := by omega
          simp only [a1, a2, a3, e1, e2, if_true, if_false]
          rw [show i - (off + s) = (i - (off + (s + 1))) + 1 by omega]
          simp
        · have e2 : ¬ i < off + (s + 1) + x.length := by omega
          simp only [a1, a2, a3, e1, e2, if_false]

end
end Go.Eng
end

section
/- The engine: its operations are the model's: slices that are written out. -/
namespace Go.Eng
open Go

section
variable {P : Program} {E : En} {cx : Cx} {n : Nat} {g : Gh} {st : St} {a : Act} {w : World} {R : Type}

theorem TakenL.frame {S : Nat → Prop} {w' : World} {e : Ty} {ms : List Md} {Fs : List (Nat → Prop)} {css : List (List Value)} {ds : List e.den} (h : TakenL w S e ms Fs css ds)
    (hS : ∀ y, S y → w'.heap[y]? = w.heap[y]?) (hF : ∀ F ∈ Fs, ∀ y, F y → w'.heap[y]? = w.heap[y]?) : TakenL w' S e ms Fs css ds := by
  induction h with
  | nil => exact .nil
  | @cons m F cs d ms Fs css ds hr hf hd hT ih =>
    exact .cons (Rd_frame w w' S S (fun y hy => ⟨hy, hS y hy⟩) _ _ _ _ _ (hF F (by simp)) hr) hf hd (ih fun G hG => hF G (by simp [hG]))

/-- The world with one more block. -/
def pushW (w : World) (c : Array Value) (T : TypeId) : World := { w with heap := w.heap.push (.cells c T) }

theorem pushW_old {c : Array Value} {T : TypeId} {y : Nat} (h : y < w.heap.size) : (pushW w c T).heap[y]? = w.heap[y]? := by
  simp only [pushW, Array.getElem?_push]
  rw [if_neg (by omega)]
theorem pushW_new {c : Array Value} {T : TypeId} : (pushW w c T).heap[w.heap.size]? = some (.cells c T (0, 0)) := by
  simp only [pushW, Array.getElem?_push, if_true]
theorem pushW_size {c : Array Value} {T : TypeId} : w.heap.size ≤ (pushW w c T).heap.size := by simp only [pushW, Array.size_push]; omega

theorem Rel.push (h : Rel E n g st a w) (c : Array Value) (T : TypeId) : Rel E n g st a (pushW w c T) :=
  h.grow (fun _ hy => pushW_old hy) pushW_size rfl rfl rfl

theorem Held.push {F : Nat → Prop} (hH : Held E g st w F) (h : Rel E n g st a w) (c : Array Value) (T : TypeId) : Held E g st (pushW w c T) (fun y => y = w.heap.size ∨ F y) := by
  refine ⟨fun b x y hx hy hh => ?_, fun b x hx hr hh => ?_, fun y hh hs => ?_, fun y hh => ?_, fun y hh => ?_⟩
  · rcases hh with hh | hh
    · have := h.bF b x y hx hy; omega
    · exact hH.dF b x y hx hy hh
  · rcases hh with hh | hh
    · have := h.lt hx hr; omega
    · exact hH.dL b x hx hr hh
  · rcases hh with hh | hh
    · have := h.bS y hs; omega
    · exact hH.dS y hh hs
  · have : (pushW w c T).heap.size = w.heap.size + 1 := by simp only [pushW, Array.size_push]
    rcases hh with hh | hh
    · omega
    · have := hH.bd y hh; omega
  · rcases hh with hh | hh
    · have := h.fr.size; exact .inr (by omega)
    · exact hH.nF y hh

theorem Held.monoF {F F' : Nat → Prop} (hH : Held E g st w F) (hF : ∀ y, F' y → F y) : Held E g st w F' :=
  ⟨fun b x y hx hy hh => hH.dF b x y hx hy (hF y hh), fun b x hx hr hh => hH.dL b x hx hr (hF _ hh), fun y hh => hH.dS y (hF y hh), fun y hh => hH.bd y (hF y hh), fun y hh => hH.nF y (hF y hh)⟩

theorem Held.join {Fs : List (Nat → Prop)} (hH : ∀ F ∈ Fs, Held E g st w F) : Held E g st w (fun y => ∃ F ∈ Fs, F y) :=
  ⟨fun b x y hx hy ⟨F, hF, hh⟩ => (hH F hF).dF b x y hx hy hh, fun b x hx hr ⟨F, hF, hh⟩ => (hH F hF).dL b x hx hr hh, fun y ⟨F, hF, hh⟩ => (hH F hF).dS y hh, fun y ⟨F, hF, hh⟩ => (hH F hF).bd y hh,
    fun y ⟨F, hF, hh⟩ => (hH F hF).nF y hh⟩

theorem parts_zip (ρ : Operand → Value) (parts : Array (Nat × Operand)) (m : Nat) (hp : parts.toList.map (·.1) = List.range m) :
    (parts.map fun (i, x) => (i, ρ x)).toList = ((parts.toList.map fun x => ρ x.2).zipIdx 0).map fun x => (x.2, x.1) := by
  rw [Array.toList_map]
  have hl : parts.toList.length = m := by have := congrArg List.length hp; simpa using this
  apply List.ext_getElem?
  intro i
  simp only [List.getElem?_map, List.getElem?_zipIdx]
  have := congrArg (fun l => l[i]?) hp
  simp only [List.getElem?_map] at this
  cases hi : parts.toList[i]? with
  | none => simp
  | some q =>
    rw [hi] at this
    have hlt : i < m := by
      rcases Nat.lt_or_ge i m with h1 | h1
      · exact h1
      · rw [List.getElem?_eq_none (by omega)] at hi; simp at hi
    rw [List.getElem?_range hlt] at this
    simp only [Option.map_some, Option.some.injEq] at this
    simp [this]

theorem run_buildSlice {T : TypeId} {e : Ty} (h : TyOk P (.slice e) T) (ρ : Operand → Value) (m : Nat) (parts : Array (Nat × Operand)) (css : List (List Value)) (hp : parts.toList.map (·.1) = List.range m)
    (hc : ∀ c ∈ css, c.length = e.size ∧ ∀ v ∈ c, plain v = true) (hu : parts.toList.map (fun x => ρ x.2) = css.map (toV e)) (hm : m < 65536) (he : 0 < e.size) (he2 : e.size < 256) :
    ∃ T', (Instr.buildSlice T m (parts.map fun (i, x) => (i, ρ x))).run P w = .ok (.slice (some ⟨w.heap.size, 0, none⟩) m m) (pushW w ⟨css.flatten⟩ T') := by
  simp only [TyOk] at h
  obtain ⟨_, T', hU, hE⟩ := h
  refine ⟨T', ?_⟩
  have hlen : css.length = m := by
    have h1 := congrArg List.length hp
    have h2 := congrArg List.length hu
    simp at h1 h2; omega
  have hsz : m * e.size ≤ 65536 * 256 := Nat.mul_le_mul (by omega) (by omega)
  have hns : ¬ m * e.size > 2 ^ 24 := by omega
  have hcells : ∀ (cells : Array Value), cells.size = m * e.size → Instr.fill (fun i => some (i * e.size, e.size)) cells (parts.map fun (i, x) => (i, ρ x)).toList = some ⟨css.flatten⟩ := by
    intro cells hcs
    rw [parts_zip ρ parts m hp, hu]
    have hcc : ∀ c ∈ css, (toV e c).cells = ⟨c⟩ := fun c hc' => toV_cells (hc c hc').1 (hc c hc').2
    rw [Great.fill_whole he (css.map (toV e)) cells ?_ (by simp [hlen, hcs])]
    · congr 1
      rw [List.flatMap_map]
      have : css.flatMap (fun c => (toV e c).cells.toList) = css.flatMap id := by
        clear hu hlen hc
        induction css with
        | nil => rfl
        | cons c css ih =>
          rw [List.flatMap_cons, List.flatMap_cons, hcc c (by simp), ih fun c' h' => hcc c' (by simp [h'])]
          rfl
      rw [this, List.flatMap_id]
    · intro v hv
      obtain ⟨c, hc', rfl⟩ := List.mem_map.1 hv
      rw [hcc c hc']
      simpa using (hc c hc').1
  rcases Nat.eq_zero_or_pos m with h0 | h0
  · subst h0
    have hp0 : parts = #[] := by
      rw [List.range_zero, List.map_eq_nil_iff] at hp
      exact Array.toList_eq_nil_iff.1 hp
    have hcs : css = [] := List.eq_nil_of_length_eq_zero hlen
    subst hp0 hcs
    simp [Instr.buildSlice, run_und hU, run_sizeOf hE, Instr.fill, newRow, pushW]
    congr 2
    apply Array.ext (by simp) (by simp)
  · have h1 : m * e.size ≠ 0 := Nat.mul_ne_zero (by omega) (by omega)
    have := hcells ((Array.range (m * e.size)).map ((toV e (zeros e)).cells[· % (toV e (zeros e)).cells.size]!)) (by simp)
    simp only [Instr.buildSlice, Sem.run_bind, run_und hU, Result.andThen_ok, run_sizeOf hE, hns, if_false, h1, Sem.run_pure, run_zeroV hE]
    rw [this]
    simp [newRow, pushW]

theorem TakenL.lens {S : Nat → Prop} {e : Ty} {ms : List Md} {Fs : List (Nat → Prop)} {css : List (List Value)} {ds : List e.den} (h : TakenL w S e ms Fs css ds) : css.length = ds.length := h.get.2.2.1

/-- A block with a row of values that were handed over. -/
theorem new_row (h : Rel E n g st a w) {e : Ty} {ms : List Md} {Fs : List (Nat → Prop)} {css : List (List Value)} {ds : List e.den} {m : Md} (hm : rowMd e ms = some m) (hT : TakenL w g.S e ms Fs css ds) (hH : ∀ F ∈ Fs, Held E g st w F) (b : Nat) (hb : b % 16 ≠ 15) (T : TypeId) :
    ∃ g', Rel E n g' ⟨fltL (fun _ v => v.all (noBox b)) st.tm, putL st.bx b ⟨.slice e, m, ds, false⟩⟩ a (pushW w ⟨css.flatten⟩ T) ∧
      AVR g' (putL st.bx b ⟨.slice e, m, ds, false⟩) (pushW w ⟨css.flatten⟩ T) (.place b []) [.slice (some ⟨w.heap.size, 0, none⟩) ds.length ds.length] := by
  obtain ⟨h1, h2, h3, h4, h5, h6⟩ := hT.get
  have hR := h.push ⟨css.flatten⟩ T
  have hflen : ∀ css : List (List Value), (∀ c ∈ css, c.length = e.size) → css.flatten.length = css.length * e.size := by
    intro css hcs
    induction css with
    | nil => simp
    | cons c css ih => simp only [List.flatten_cons, List.length_append, List.length_cons, ih fun c' h' => hcs c' (by simp [h']), hcs c (by simp), Nat.add_mul]; omega
  have hrow := Rd_row (w := pushW w ⟨css.flatten⟩ T) g.S hm (hT.frame (fun y hy => pushW_old (h.bS y hy)) (fun F hF y hy => pushW_old ((hH F hF).bd y hy))) (blk := w.heap.size) (cap := ds.length) pushW_new (Nat.le_refl _)
    (by simp only [List.size_toArray]; rw [hflen css fun c hc => (h4 c hc).1, h3]; exact Nat.le_refl _)
    (fun i hi => by
      obtain ⟨mi, Fi, csi, a1, a2, a3, a4, a5⟩ := h5 i hi
      rw [flatten_chunk css i csi (fun c hc => (h4 c hc).1) a3]
      simp [List.getD, a3])
    (fun F hF hy => by have := (hH F hF).bd _ hy; omega)
  obtain ⟨g', k1, k2⟩ := new_val hR (b := b) hb hrow.1 ((Held.join hH).push h ⟨css.flatten⟩ T)
  exact ⟨g', k1, k2⟩

theorem rowMd_flat {e : Ty} {ms : List Md} (h : e.flat = true) : rowMd e ms = some .own := by simp [rowMd, h]

theorem buildSlice_sound (hc : CxOk P E cx) (h : Rel E n g st a w) {T : TypeId} {e : Ty} (hT : cx.ty T = some (.slice e)) {m : Nat} {parts : Array (Nat × Operand)} {strict : Bool} {k : St → Option R} {r : R} {b : Nat} (hb : b % 16 ≠ 15)
    (hk : (bif Nat.blt m 65536 && Nat.blt e.size 256 && Nat.blt 0 e.size && List.beq (parts.toList.map (·.1)) (List.range m) then takeL st e (parts.toList.map fun x => opnd cx st x.2) fun st1 ms l => (match rowMd e ms with
          | some mm => newK strict st1 b ⟨.slice e, mm, l, false⟩ k
          | none => none) else none) = some r) :
    ∃ g' st' w' u, k st' = some r ∧ (Instr.buildSlice T m (parts.map fun (i, x) => (i, a.eval x))).run P w = .ok u w' ∧ Rel E n g' st' a w' ∧ AVR g' st'.bx w' (.place b []) [u] := by
  obtain ⟨hcond, hk⟩ := cond_none hk
  simp only [Bool.and_eq_true, blt_dec, decide_eq_true_eq] at hcond
  obtain ⟨⟨⟨c1, c2⟩, c3⟩, c4⟩ := hcond
  have c4 : parts.toList.map (·.1) = List.range m := by
    have : (parts.toList.map (·.1) == List.range m) = true := c4
    simpa using this
  obtain ⟨g1, st1, ms, ds, Fs, css, hk1, hR1, hL1, hTk, hus, hHs, _, _⟩ := takeL_sound (us := parts.toList.map fun x => a.eval x.2) hk h (by simp) (fun i v u h1 h2 => by
    simp only [List.getElem?_map, Option.map_eq_some_iff] at h1 h2
    obtain ⟨q, hq, rfl⟩ := h1
    obtain ⟨q2, hq2, rfl⟩ := h2
    rw [hq] at hq2
    simp only [Option.some.injEq] at hq2
    subst hq2
    exact opnd_sound hc h _)
  split at hk1
  · rename_i mm hmm
    have hk2 := newK_ok hk1
    obtain ⟨h1, h2, h3, h4, h5, h6⟩ := hTk.get
    have hlen : ds.length = m := by
      have a1 := congrArg List.length c4
      have a2 := congrArg List.length hus
      simp at a1 a2
      omega
    obtain ⟨T', hrun⟩ := run_buildSlice (w := w) (hc.ty T _ hT) a.eval m parts css c4 h4 hus c1 c3 c2
    obtain ⟨g', k1, k2⟩ := new_row hR1 hmm hTk hHs b hb T'
    rw [hlen] at k2
    exact ⟨g', _, _, _, hk2, hrun, k1, k2⟩
  · simp at hk1

end
end Go.Eng
end

section
/- The engine: its operations are the model's: structs that are written out. -/
namespace Go.Eng
open Go

section
variable {P : Program} {E : En} {cx : Cx} {n : Nat} {g : Gh} {st : St} {a : Act} {w : World} {R : Type}

theorem okP_nil (t : Ty) (m : Md) : okP t m [] = true := by cases t <;> rfl
theorem tyAt_nil (t : Ty) : tyAt t [] = some t := by cases t <;> rfl
theorem setM_nil (t : Ty) (m u : Md) : setM t m [] u = u := by cases t <;> rfl
theorem patch_nil (t : Ty) (cs x : List Value) : patch t [] cs x = x := by cases t <;> rfl

theorem okP_fld : ∀ (f : Nat) (t tf : Ty) (m : Md), tyAt t (fldP f) = some tf → okP t m (fldP f) = true
  | 0, t, tf, m, h => by
    cases t <;> simp only [fldP, tyAt] at h <;> (try (simp at h; done))
    simp only [fldP, okP, okP_nil]
  | f + 1, t, tf, m, h => by
    cases t <;> simp only [fldP, tyAt] at h <;> (try (simp at h; done))
    simp only [fldP, okP]
    exact okP_fld f _ tf _ h

theorem full_setM : ∀ (f : Nat) (t tf : Ty) (m u : Md), tyAt t (fldP f) = some tf → full t m = true → full tf u = true → full t (setM t m (fldP f) u) = true
  | 0, t, tf, m, u, h, h1, h2 => by
    cases t <;> simp only [fldP, tyAt] at h <;> (try (simp at h; done))
    simp only [Option.some.injEq] at h
    subst h
    simp only [full, Bool.and_eq_true] at h1
    simp only [fldP, setM, full, Md.mkPair_fst, Md.mkPair_snd, setM_nil, h1.2, h2, Bool.and_self]
  | f + 1, t, tf, m, u, h, h1, h2 => by
    cases t <;> simp only [fldP, tyAt] at h <;> (try (simp at h; done))
    simp only [full, Bool.and_eq_true] at h1
    simp only [fldP, setM, full, Md.mkPair_fst, Md.mkPair_snd, h1.1, full_setM f _ tf _ u h h1.2 h2, Bool.and_self]

theorem offF_le : ∀ (f : Nat) (t tf : Ty), tyAt t (fldP f) = some tf → offF t f + tf.size ≤ t.size
  | 0, t, tf, h => by
    cases t <;> simp only [fldP, tyAt] at h <;> (try (simp at h; done))
    simp only [Option.some.injEq] at h
    subst h
    simp [offF, Ty.size]
  | f + 1, t, tf, h => by
    cases t <;> simp only [fldP, tyAt] at h <;> (try (simp at h; done))
    have := offF_le f _ tf h
    simp only [offF, Ty.size]
    omega

theorem patch_fld : ∀ (f : Nat) (t tf : Ty) (cs x : List Value), tyAt t (fldP f) = some tf → cs.length = t.size → x.length = tf.size → patch t (fldP f) cs x = splice cs (offF t f) x
  | 0, t, tf, cs, x, h, hc, hx => by
    cases t <;> simp only [fldP, tyAt] at h <;> (try (simp at h; done))
    simp only [Option.some.injEq] at h
    subst h
    simp only [fldP, patch, patch_nil, offF, splice, List.take_zero, List.nil_append, Nat.zero_add, hx]
  | f + 1, t, tf, cs, x, h, hc, hx => by
    cases t <;> simp only [fldP, tyAt] at h <;> (try (simp at h; done))
    rename_i y z
    simp only [Ty.size] at hc
    have hle := offF_le f z tf h
    simp only [fldP, patch, offF]
    rw [patch_fld f z tf (cs.drop y.size) x h (by simp; omega) hx]
    exact splice_drop (by omega)

/-- The places of a struct's fields. -/
def placesOf : Ty → Nat → List (Nat × Nat)
  | .pair a b, o => (o, a.size) :: placesOf b (o + a.size)
  | _, _ => []

theorem placesOf_at : ∀ (f : Nat) (t tf : Ty) (o : Nat), tyAt t (fldP f) = some tf → (placesOf t o)[f]? = some (o + offF t f, tf.size)
  | 0, t, tf, o, h => by
    cases t <;> simp only [fldP, tyAt] at h <;> (try (simp at h; done))
    simp only [Option.some.injEq] at h
    subst h
    simp [placesOf, offF]
  | f + 1, t, tf, o, h => by
    cases t <;> simp only [fldP, tyAt] at h <;> (try (simp at h; done))
    simp only [placesOf, List.getElem?_cons_succ]
    rw [placesOf_at f _ tf _ h]
    simp only [offF]
    congr 2
    omega

theorem info_size {T : TypeId} {t : Ty} (h : TyOk P t T) : ∃ i, P.info? T = some i ∧ i.size = t.size := by
  obtain ⟨i, h1, h2, _⟩ := h.base.info
  exact ⟨i, h1, h2⟩

theorem fld_places : ∀ (t : Ty) (fs : List Field) (o : Nat), FldOk P t fs o → fs.mapM (fun f => (P.info? f.type).map fun i => (f.offset, i.size)) = some (placesOf t o)
  | .unit, fs, o, h => by simp only [FldOk] at h; subst h; rfl
  | .pair a b, fs, o, h => by
    simp only [FldOk] at h
    obtain ⟨f, r, rfl, h1, _, h2, h3⟩ := h
    obtain ⟨i, k1, k2⟩ := info_size h2
    simp only [List.mapM_cons, k1, Option.map_some, Option.bind_eq_bind, Option.bind_some, fld_places b r _ h3, Option.pure_def, placesOf, h1, k2]
  | .int k, fs, o, h => by simp [FldOk] at h
  | .bool, fs, o, h => by simp [FldOk] at h
  | .str, fs, o, h => by simp [FldOk] at h
  | .slice _, fs, o, h => by simp [FldOk] at h
  | .arr _ _, fs, o, h => by simp [FldOk] at h
  | .iface, fs, o, h => by simp [FldOk] at h

/-- The operation, where all of the struct's parts fit. -/
theorem run_buildT {T : TypeId} {x y : Ty} (h : TyOk P (.pair x y) T) (parts : Array (Nat × Value)) {cells : Array Value}
    (hf : Instr.fill ((placesOf (.pair x y) 0)[·]?) ⟨zeros (.pair x y)⟩ parts.toList = some cells) : (Instr.build T parts).run P w = .ok (.agg cells) w := by
  apply run_build
  obtain ⟨i, k1, _, k3, _⟩ := h.base.info
  have h' := h
  simp only [TyOk] at h'
  obtain ⟨_, f, r, k4, k5, k6, k7, k8⟩ := h'
  have hF : FldOk P (.pair x y) (f :: r) 0 := by
    simp only [FldOk]
    exact ⟨f, r, rfl, k5, k6, k7, by rw [Nat.zero_add]; exact k8⟩
  unfold Program.built
  simp only [k1, k4, k3, fld_places _ _ _ hF]
  have : (toV (.pair x y) (zeros (.pair x y))).cells = ⟨zeros (.pair x y)⟩ := by simp [toV, Ty.agg, Value.cells]
  rw [this]
  simpa using hf

theorem partsK_sound {t : Ty} : ∀ {ps : List (Nat × Operand)} {g : Gh} {st : St} {m : Md} {d : t.den} {F : Nat → Prop} {cs : List Value} {k : St → Md → t.den → Option R} {r : R} {vs : List AV} {us : List Value},
    partsK st t m d ((ps.zip vs).map fun x => (fldP x.1.1, (tyAt t (fldP x.1.1)).getD .unit, x.2)) k = some r → Rel E n g st a w → vs.length = ps.length → us.length = ps.length →
    (∀ (i : Nat) (v : AV) (u : Value), vs[i]? = some v → us[i]? = some u → AVR g st.bx w v [u]) → Rd w g.S t m F cs d → Held E g st w F → full t m = true →
    ∃ g1 st1 m1 d1 F1 cs1, k st1 m1 d1 = some r ∧ Rel E n g1 st1 a w ∧ Less g st g1 st1 ∧ Rd w g1.S t m1 F1 cs1 d1 ∧ Held E g1 st1 w F1 ∧ full t m1 = true ∧
      Instr.fill ((placesOf t 0)[·]?) ⟨cs⟩ ((ps.zip us).map fun x => (x.1.1, x.2)) = some ⟨cs1⟩
  | [], g, st, m, d, F, cs, k, r, vs, us, hk, h, hl, hl2, hv, hr, hH, hf => by
    simp only [List.zip_nil_left, List.map_nil, partsK] at hk ⊢
    exact ⟨g, st, m, d, F, cs, hk, h, Less.refl _ _, hr, hH, hf, rfl⟩
  | p :: ps, g, st, m, d, F, cs, k, r, [], us, hk, h, hl, hl2, hv, hr, hH, hf => by simp at hl
  | p :: ps, g, st, m, d, F, cs, k, r, v :: vs, [], hk, h, hl, hl2, hv, hr, hH, hf => by simp at hl2
  | p :: ps, g, st, m, d, F, cs, k, r, v :: vs, u :: us, hk, h, hl, hl2, hv, hr, hH, hf => by
    simp only [List.zip_cons_cons, List.map_cons, partsK] at hk ⊢
    obtain ⟨g1, st1, mv, dv, Fv, csv, hk1, hR1, hL1, hrd, hu, hHv, hFv, hfu, hkeep⟩ := takeK_sound hk h (hv 0 v u rfl rfl)
    dsimp only at hk1
    split at hk1
    · rename_i d' hd'
      have hty := setD_ty _ _ _ _ _ hd'
      simp only at hty
      have htf : tyAt t (fldP p.1) = some ((tyAt t (fldP p.1)).getD .unit) := by
        conv => lhs; rw [hty]
      generalize ((tyAt t (fldP p.1)).getD .unit) = tf at *
      have hw := walk_fld w p.1 t tf cs none htf
      have hcl := Rd_len _ _ _ _ _ _ _ hr
      have hvl := Rd_len _ _ _ _ _ _ _ hrd
      obtain ⟨d0, F', hF', hg0, _, _, hwr⟩ := write_walk w g.S _ t m F cs d none tf _ _ hr hw (okP_fld _ _ _ _ htf) (by simp)
      have hdis : ∀ y, Fv y → ¬ F y := fun y hy hFy => by
        obtain ⟨b, x, hx, hgy, _⟩ := hFv y hy
        exact hH.dF b x y hx hgy hFy
      obtain ⟨hrd', hfu'⟩ := ownIf_Rd hfu hrd
      obtain ⟨⟨dn, hdn, hrn⟩, _⟩ := hwr w g1.S Fv (ownIf tf mv) csv dv (fun y hy => ⟨by rw [hL1.S]; exact hy, rfl⟩) (fun _ => hfu') hrd' (fun y hy hh => hdis y hy hh.1) (fun b _ _ => by simp [Keeps])
      rw [hd'] at hdn
      simp only [Option.some.injEq] at hdn
      subst hdn
      rw [patch_fld _ _ _ _ _ htf hcl hvl] at hrn
      have hH1 : Held E g1 st1 w (fun y => (F y ∧ ¬ F' y) ∨ Fv y) := by
        have hHo := hH.less hL1
        refine ⟨fun b x y hx hy hh => ?_, fun b x hx hr hh => ?_, fun y hh => ?_, fun y hh => ?_, fun y hh => ?_⟩
        · rcases hh with hh | hh
          · exact hHo.dF b x y hx hy hh.1
          · exact hHv.dF b x y hx hy hh
        · rcases hh with hh | hh
          · exact hHo.dL b x hx hr hh.1
          · exact hHv.dL b x hx hr hh
        · rcases hh with hh | hh
          · exact hHo.dS y hh.1
          · exact hHv.dS y hh
        · rcases hh with hh | hh
          · exact hHo.bd y hh.1
          · exact hHv.bd y hh
        · rcases hh with hh | hh
          · exact hHo.nF y hh.1
          · exact hHv.nF y hh
      obtain ⟨g2, st2, m2, d2, F2, cs2, e1, e2, e3, e4, e5, e6, e7⟩ := partsK_sound (us := us) hk1 hR1 (by simpa using hl) (by simpa using hl2)
        (fun i v' u' h1 h2 => hkeep _ _ (hv (i + 1) v' u' (by simpa using h1) (by simpa using h2))) hrn hH1 (full_setM _ _ _ _ _ htf hf hfu')
      refine ⟨g2, st2, m2, d2, F2, cs2, e1, e2, hL1.trans e3, e4, e5, e6, ?_⟩
      unfold Instr.fill
      have hle := offF_le _ _ _ htf
      rw [placesOf_at _ _ _ 0 htf]
      simp only [Nat.zero_add]
      have hcc : u.cells = ⟨csv⟩ := by rw [hu]; exact toV_cells hvl (Rd_plain _ _ _ _ _ _ _ hrd)
      rw [hcc, if_neg (by simp; omega)]
      have := foldl_splice csv (offF t p.1) cs 0 (by omega)
      simp only [Nat.add_zero] at this
      rw [← Array.foldl_toList, Array.toList_zipIdx]
      simp only
      rw [this]
      exact e7
    · simp at hk1

theorem build_sound (hc : CxOk P E cx) (h : Rel E n g st a w) {T : TypeId} {x y : Ty} (hT : cx.ty T = some (.pair x y)) {parts : Array (Nat × Operand)} {k : St → Md → (Ty.pair x y).den → Option R} {r : R}
    (hk : partsK st (.pair x y) .own (Ty.dflt (.pair x y)) (parts.toList.map fun q => (fldP q.1, (tyAt (.pair x y) (fldP q.1)).getD .unit, opnd cx st q.2)) k = some r) :
    ∃ g1 st1 m1 d1 F1 cs1, k st1 m1 d1 = some r ∧ (Instr.build T (parts.map fun (i, z) => (i, a.eval z))).run P w = .ok (toV (.pair x y) cs1) w ∧ Rel E n g1 st1 a w ∧ Less g st g1 st1 ∧ Rd w g1.S (.pair x y) m1 F1 cs1 d1 ∧ Held E g1 st1 w F1 ∧ full (.pair x y) m1 = true := by
  have e1 : (parts.toList.map fun q => (fldP q.1, (tyAt (.pair x y) (fldP q.1)).getD .unit, opnd cx st q.2)) = ((parts.toList.zip (parts.toList.map fun q => opnd cx st q.2)).map fun x' => (fldP x'.1.1, (tyAt (.pair x y) (fldP x'.1.1)).getD .unit, x'.2)) := by
    rw [List.zip_map_right, List.map_map]
    have : parts.toList.zip parts.toList = parts.toList.map fun q => (q, q) := by
      generalize parts.toList = l
      induction l with
      | nil => rfl
      | cons q l ih => simp [ih]
    rw [this, List.map_map]
    rfl
  rw [e1] at hk
  obtain ⟨g1, st1, m1, d1, F1, cs1, k1, k2, k3, k4, k5, k6, k7⟩ := partsK_sound (us := parts.toList.map fun q => a.eval q.2) hk h (by simp) (by simp) (fun i v u h1 h2 => by
    simp only [List.getElem?_map, Option.map_eq_some_iff] at h1 h2
    obtain ⟨q, hq, rfl⟩ := h1
    obtain ⟨q2, hq2, rfl⟩ := h2
    rw [hq] at hq2
    simp only [Option.some.injEq] at hq2
    subst hq2
    exact opnd_sound hc h _) (Rd_zero w g.S _ T (hc.ty T _ hT)) Held.none (full_own _)
  refine ⟨g1, st1, m1, d1, F1, cs1, k1, ?_, k2, k3, k4, k5, k6⟩
  have : (parts.map fun (i, z) => (i, a.eval z)).toList = ((parts.toList.zip (parts.toList.map fun q => a.eval q.2)).map fun x => (x.1.1, x.2)) := by
    rw [Array.toList_map, List.zip_map_right, List.map_map]
    generalize parts.toList = l
    induction l with
    | nil => rfl
    | cons q l ih => simp at ih ⊢; exact ih
  rw [run_buildT (hc.ty T _ hT) _ (by rw [this]; exact k7)]
  simp [toV, Ty.agg]

theorem Rd_arr_set {S : Nat → Prop} {e : Ty} {m : Nat} {cs csv : List Value} {d : List e.den} {x : e.den} (h : Rd w S (.arr m e) .shr none' cs d) {i : Nat} (hi : i < m) (hx : Rd w S e .shr none' csv x) :
    Rd w S (.arr m e) .shr none' (splice cs (i * e.size) csv) (List.set d i x : List e.den) := by
  have hl := Rd_len _ _ _ _ _ _ _ hx
  simp only [Rd] at h ⊢
  obtain ⟨h1, h2, h3, h4⟩ := h
  have hle : i * e.size + csv.length ≤ cs.length := by rw [hl, h2]; exact chunk_in hi
  refine ⟨by simpa using h1, by rw [splice_length hle]; exact h2, h3, fun j hj => ?_⟩
  have hj' : j < d.length := by simpa using hj
  by_cases hij : i = j
  · subst hij
    have : chunk (splice cs (i * e.size) csv) (i * e.size) e.size = csv := by
      have := chunk_splice_same hle
      rwa [hl] at this
    rw [this, List.getElem_set_self]
    exact hx
  · rw [List.getElem_set_ne hij, chunk_splice_apart hle (by
      rw [hl]
      rcases Nat.lt_or_gt_of_ne hij with hh | hh
      · exact .inr (chunk_in hh)
      · exact .inl (chunk_in hh))]
    exact h4 j hj'

theorem arrK_sound {e : Ty} {m : Nat} (he : e.flat = true) : ∀ {ps : List (Nat × Operand)} {vs : List AV} {us : List Value} {g : Gh} {st : St} {d : List e.den} {cs : List Value} {k : St → List e.den → Option R} {r : R},
    arrK st e m d ((ps.zip vs).map fun x => (x.1.1, x.2)) k = some r → Rel E n g st a w → vs.length = ps.length → us.length = ps.length →
    (∀ (i : Nat) (v : AV) (u : Value), vs[i]? = some v → us[i]? = some u → AVR g st.bx w v [u]) → Rd w g.S (.arr m e) .shr none' cs d →
    ∃ g1 st1 d1 cs1, k st1 d1 = some r ∧ Rel E n g1 st1 a w ∧ Rd w g1.S (.arr m e) .shr none' cs1 d1 ∧
      Instr.fill (fun i => some (i * e.size, e.size)) ⟨cs⟩ ((ps.zip us).map fun x => (x.1.1, x.2)) = some ⟨cs1⟩
  | [], vs, us, g, st, d, cs, k, r, hk, h, hl, hl2, hv, hr => by
    simp only [List.zip_nil_left, List.map_nil, arrK] at hk ⊢
    exact ⟨g, st, d, cs, hk, h, hr, rfl⟩
  | p :: ps, [], us, g, st, d, cs, k, r, hk, h, hl, hl2, hv, hr => by simp at hl
  | p :: ps, v :: vs, [], g, st, d, cs, k, r, hk, h, hl, hl2, hv, hr => by simp at hl2
  | p :: ps, v :: vs, u :: us, g, st, d, cs, k, r, hk, h, hl, hl2, hv, hr => by
    simp only [List.zip_cons_cons, List.map_cons, arrK] at hk ⊢
    obtain ⟨hi, hk⟩ := cond_none hk
    rw [blt_dec, decide_eq_true_eq] at hi
    obtain ⟨g1, st1, mv, dv, Fv, csv, hk1, hR1, hL1, hrd, hu, _, _, hfu, hkeep⟩ := takeK_sound hk h (hv 0 v u rfl rfl)
    dsimp only at hk1
    have hx := Rd_flat w w g1.S g1.S e mv Fv none' csv dv he hfu hrd
    have hlv := Rd_len _ _ _ _ _ _ _ hrd
    have hn := Rd_arr_set (by rw [hL1.S]; exact hr) hi hx
    obtain ⟨g2, st2, d2, cs2, e1, e2, e3, e4⟩ := arrK_sound he (us := us) hk1 hR1 (by simpa using hl) (by simpa using hl2)
      (fun i v' u' h1 h2 => hkeep _ _ (hv (i + 1) v' u' (by simpa using h1) (by simpa using h2))) hn
    refine ⟨g2, st2, d2, cs2, e1, e2, e3, ?_⟩
    unfold Instr.fill
    have hcl : cs.length = m * e.size := by simp only [Rd] at hr; exact hr.2.1
    have hin := chunk_in (sz := e.size) hi
    have hcc : u.cells = ⟨csv⟩ := by rw [hu]; exact toV_cells hlv (Rd_plain _ _ _ _ _ _ _ hrd)
    simp only
    rw [hcc, if_neg (by simp; omega)]
    have := foldl_splice csv (p.1 * e.size) cs 0 (by omega)
    simp only [Nat.add_zero] at this
    rw [← Array.foldl_toList, Array.toList_zipIdx]
    simp only
    rw [this]
    exact e4

theorem buildArr_sound (hc : CxOk P E cx) (h : Rel E n g st a w) {T : TypeId} {e : Ty} {m : Nat} (hT : cx.ty T = some (.arr m e)) (he : e.flat = true) {parts : Array (Nat × Operand)} {k : St → List e.den → Option R} {r : R}
    (hk : arrK st e m (List.replicate m e.dflt) (parts.toList.map fun q => (q.1, opnd cx st q.2)) k = some r) :
    ∃ g1 st1 d1 cs1, k st1 d1 = some r ∧ (Instr.build T (parts.map fun (i, z) => (i, a.eval z))).run P w = .ok (toV (.arr m e) cs1) w ∧ Rel E n g1 st1 a w ∧ Rd w g1.S (.arr m e) .shr none' cs1 d1 := by
  have zz : ∀ {β : Type} (f : Operand → β), (parts.toList.map fun q => (q.1, f q.2)) = ((parts.toList.zip (parts.toList.map fun q => f q.2)).map fun x => (x.1.1, x.2)) := by
    intro β f
    rw [List.zip_map_right, List.map_map]
    generalize parts.toList = l
    induction l with
    | nil => rfl
    | cons q l ih => simp at ih ⊢; exact ih
  rw [zz] at hk
  have hty := hc.ty T _ hT
  have hz := Rd_zero w g.S _ T hty
  have hz' := Rd_flat w w g.S g.S (.arr m e) .own _ none' _ _ (by simpa only [Ty.flat] using he) (full_own _) hz
  obtain ⟨g1, st1, d1, cs1, k1, k2, k3, k4⟩ := arrK_sound he (us := parts.toList.map fun q => a.eval q.2) hk h (by simp) (by simp) (fun i v u h1 h2 => by
    simp only [List.getElem?_map, Option.map_eq_some_iff] at h1 h2
    obtain ⟨q, hq, rfl⟩ := h1
    obtain ⟨q2, hq2, rfl⟩ := h2
    rw [hq] at hq2
    simp only [Option.some.injEq] at hq2
    subst hq2
    exact opnd_sound hc h _) hz'
  refine ⟨g1, st1, d1, cs1, k1, ?_, k2, k3⟩
  have hrun := run_build (P := P) w T (parts.map fun (i, z) => (i, a.eval z)) ⟨cs1⟩ (by
    obtain ⟨i, j1, _, j3, _⟩ := hty.base.info
    have hty' := hty
    simp only [TyOk] at hty'
    obtain ⟨_, E', j4, j5, _⟩ := hty'
    obtain ⟨ie, i1, i2⟩ := info_size j5
    unfold Program.built
    simp only [j1, j4, j3, i1, i2]
    have : (toV (.arr m e) (zeros (.arr m e))).cells = ⟨zeros (.arr m e)⟩ := by simp [toV, Ty.agg, Value.cells]
    rw [this, Array.toList_map]
    rw [show (parts.toList.map fun x => match x with | (i, z) => (i, a.eval z)) = parts.toList.map fun q => (q.1, a.eval q.2) from rfl, zz]
    exact k4)
  rw [hrun]
  simp [toV, Ty.agg]

end
end Go.Eng
end

section
/- The engine: its operations are the model's: values that are read; append. -/
namespace Go.Eng
open Go

section
variable {P : Program} {E : En} {cx : Cx} {n : Nat} {g : Gh} {st : St} {a : Act} {w : World} {R : Type}

/-- All that is shared, and what the box of a value owns. -/
def SB (g : Gh) (v : AV) (y : Nat) : Prop := g.S y ∨ ∃ b, boxOf v = some b ∧ g.F b y

theorem readV_sound (h : Rel E n g st a w) {v : AV} {t : Ty} {d : t.den} {u : Value} (hr : readV st.bx v t = some d) (hv : AVR g st.bx w v [u]) :
    ∃ cs, Rd w (SB g v) t .shr none' cs d ∧ u = toV t cs := by
  cases v with
  | val t' d' =>
    simp only [readV] at hr
    have := Dat.as_some hr
    simp only [Sigma.mk.injEq] at this
    obtain ⟨rfl, hd⟩ := this
    simp only [heq_eq_eq] at hd
    subst hd
    obtain ⟨cs, h1, h2⟩ := hv
    simp only [List.cons.injEq, and_true] at h2
    exact ⟨cs, Rd_frame w w g.S _ (fun y hy => ⟨.inl hy, rfl⟩) _ _ _ _ _ (fun _ hx => hx.elim) h1, h2⟩
  | nils =>
    simp only [readV] at hr
    split at hr
    · simp only [Option.some.injEq] at hr
      subst hr
      obtain ⟨base, hb⟩ := hv
      simp only [List.cons.injEq, and_true] at hb
      subst hb
      exact ⟨[.slice base 0 0], by simp only [Rd]; exact ⟨base, 0, 0, rfl, rfl, Nat.le_refl _, .inl rfl⟩, rfl⟩
    · simp at hr
  | place b p =>
    simp only [readV] at hr
    split at hr
    · rename_i x hx
      obtain ⟨hc, hr⟩ := cond_none hr
      simp only [Bool.and_eq_true] at hc
      have hr := as_bind hr
      obtain ⟨t', cs, l', hw, hu⟩ := hv x hx hc.1
      simp only [List.cons.injEq, and_true] at hu
      obtain ⟨d', F', m', hg, hF', hfu, hrd⟩ := read_walk w g.S p x.t x.m (g.F b) (g.cs b) x.d _ t' cs l' (h.rd b x hx) hw hc.1
      rw [hr] at hg
      simp only [Option.some.injEq, Sigma.mk.injEq] at hg
      obtain ⟨rfl, hg⟩ := hg
      simp only [heq_eq_eq] at hg
      subst hg
      exact ⟨cs, Rd_share w g.S _ (fun y hy => .inl hy) t m' F' none' cs d (fun y hy => .inr ⟨b, rfl, hF' y hy⟩) (hfu hc.2) hrd, hu⟩
    · simp at hr
  | cut b p lo hi =>
    simp only [readV] at hr
    cases hx : look st.bx b with
    | none => rw [hx] at hr; simp at hr
    | some x =>
      rw [hx] at hr
      cases t <;> simp only [] at hr <;> (try (simp at hr; done))
      rename_i e
      obtain ⟨hc, hr⟩ := cond_none hr
      simp only [Bool.and_eq_true] at hc
      simp only [Option.map_eq_some_iff] at hr
      obtain ⟨dd, hr, hd⟩ := hr
      have hr := as_bind hr
      obtain ⟨e', base, len, cap, l', hw, hlo, hlh, hhl, base', cap', hu, hcap, hb⟩ := hv x hx hc.1
      simp only [List.cons.injEq, and_true] at hu
      obtain ⟨d', F', m', hg, hF', hfu, hrd⟩ := read_walk w g.S p x.t x.m (g.F b) (g.cs b) x.d _ _ _ l' (h.rd b x hx) hw hc.1
      rw [hr] at hg
      simp only [Option.some.injEq, Sigma.mk.injEq, Ty.slice.injEq] at hg
      obtain ⟨rfl, hg⟩ := hg
      simp only [heq_eq_eq] at hg
      subst hg
      have hsh := Rd_share w g.S (SB g (.cut b p lo hi)) (fun y hy => .inl hy) _ m' F' none' _ dd (fun y hy => .inr ⟨b, rfl, hF' y hy⟩) (hfu hc.2) hrd
      simp only [Rd] at hsh
      obtain ⟨base2, len2, cap2, he2, hl2, hc2, h5⟩ := hsh
      simp only [List.cons.injEq, Value.slice.injEq, and_true] at he2
      obtain ⟨rfl, rfl, rfl⟩ := he2
      subst hd
      refine ⟨[.slice base' (hi - lo).toNat cap'], ?_, hu⟩
      simp only [Rd]
      refine ⟨base', _, cap', rfl, by simp; omega, hcap, ?_⟩
      rcases hb with hb | ⟨hb1, b1, off1, hb2, hb3⟩
      · exact .inl (by omega)
      · rcases h5 with h5 | ⟨b2, off2, hb4, hS2, hr2⟩
        · exact .inl (by omega)
        · right
          rw [hb2] at hb4
          simp only [Option.some.injEq, Addr.mk.injEq, and_true] at hb4
          obtain ⟨rfl, rfl⟩ := hb4
          refine ⟨b1, _, hb3, hS2, fun i hi' => ?_⟩
          have hi2 : i + lo.toNat < dd.length := by simp at hi'; omega
          have := hr2 (lo.toNat + i) (by omega)
          rw [Nat.add_mul, ← Nat.add_assoc] at this
          simpa using this
  | undef => simp [readV] at hr
  | skip => simp [readV] at hr
  | ptr b p => simp [readV] at hr
  | sptr t d => simp [readV] at hr
  | fn f c => simp [readV] at hr
  | tup c => simp [readV] at hr
  | tnil => simp [readV] at hr
  | tcons a b => simp [readV] at hr

/-- The memory grows, or what nobody else owns turns: all stays. -/
theorem Rel.held {F : Nat → Prop} {w' : World} (h : Rel E n g st a w) (hH : Held E g st w F) (hk : ∀ y, y < w.heap.size → ¬ F y → w'.heap[y]? = w.heap[y]?)
    (hs : w.heap.size ≤ w'.heap.size) (ho : w'.os = w.os) (ht : w'.tape = w.tape) (hp : w'.output = w.output) : Rel E n g st a w' := by
  have hS : ∀ y, g.S y → g.S y ∧ w'.heap[y]? = w.heap[y]? := fun y hy => ⟨hy, hk y (h.bS y hy) fun hf => hH.dS y hf hy⟩
  have hB : ∀ b x, look st.bx b = some x → ∀ y, g.F b y → w'.heap[y]? = w.heap[y]? := fun b x hx y hy => hk y (h.bF b x y hx hy) (hH.dF b x y hx hy)
  refine { h with tm := ?_, rd := ?_, lc := ?_, bS := fun y hy => Nat.lt_of_lt_of_le (h.bS y hy) hs, bF := fun b x y hx hy => Nat.lt_of_lt_of_le (h.bF b x y hx hy) hs, fr := ?_, gl := h.gl.step hS }
  · intro k v hv
    refine AVR_step (g := g) (g' := g) (bx := st.bx) (bx' := st.bx) (fun _ _ _ => true) hS ?_ v _ (AV.all_true v) (h.tm k v hv)
    intro b p q _ x hx ho
    refine ⟨x, hx, ho, fun t' cs' l' hw => ⟨cs', ?_, fun _ => rfl⟩⟩
    rw [walk_frame w w' g.S p x.t x.m (g.F b) (g.cs b) x.d _ (h.rd b x hx) ho (hB b x hx)]
    exact hw
  · intro b x hx
    exact Rd_frame w w' g.S g.S hS _ _ _ _ _ (hB b x hx) (h.rd b x hx)
  · intro b x hx hr
    obtain ⟨c, el, h1, h2⟩ := h.lc b x hx hr
    exact ⟨c, el, by rw [hk _ (h.lt hx hr) (hH.dL b x hx hr)]; exact h1, h2⟩
  · have f := h.fr
    refine ⟨Nat.le_trans f.size hs, fun y hy h1 h2 => ?_, fun q hq => ?_, ho.trans f.os, ht.trans f.tape, hp.trans f.output⟩
    · rw [hk y (Nat.lt_of_lt_of_le hy f.size) fun hf => by rcases hH.nF y hf with h3 | h3; exact h1 h3; omega]; exact f.keep y hy h1 h2
    · obtain ⟨c0, c, el, h1, h2, h3⟩ := f.keepP q hq
      have hlt : q.1 < w.heap.size := by
        rcases Nat.lt_or_ge q.1 w.heap.size with h4 | h4
        · exact h4
        · rw [Array.getElem?_eq_none h4] at h2; simp at h2
      have hlt0 : q.1 < E.w.heap.size := by
        rcases Nat.lt_or_ge q.1 E.w.heap.size with h4 | h4
        · exact h4
        · rw [Array.getElem?_eq_none h4] at h1; simp at h1
      have hnF : ¬ F q.1 := fun hf => by
        rcases hH.nF q.1 hf with h4 | h4
        · exact h.ok.pF q hq h4
        · omega
      exact ⟨c0, c, el, h1, by rw [hk _ hlt hnF]; exact h2, h3⟩

/-- Cells that read as a row of values, each with what it owns. -/
def RowR (w : World) (S : Nat → Prop) (e : Ty) (me : Md) (Fi : Nat → Nat → Prop) (cs : List Value) (ds : List e.den) : Prop :=
  cs.length = ds.length * e.size ∧ (∀ v ∈ cs, plain v = true) ∧ (∀ i j x, i ≠ j → Fi i x → ¬ Fi j x) ∧ ∀ i (_ : i < ds.length), Rd w S e me (Fi i) (chunk cs (i * e.size) e.size) ds[i]

theorem RowR.frame {w' : World} {S : Nat → Prop} {e : Ty} {me : Md} {Fi : Nat → Nat → Prop} {cs : List Value} {ds : List e.den} (h : RowR w S e me Fi cs ds) (hS : ∀ y, S y → w'.heap[y]? = w.heap[y]?) (hF : ∀ i y, Fi i y → w'.heap[y]? = w.heap[y]?) :
    RowR w' S e me Fi cs ds :=
  ⟨h.1, h.2.1, h.2.2.1, fun i hi => Rd_frame w w' S S (fun y hy => ⟨hy, hS y hy⟩) _ _ _ _ _ (hF i) (h.2.2.2 i hi)⟩

theorem RowR.append {S : Nat → Prop} {e : Ty} {me : Md} {F1 F2 : Nat → Nat → Prop} {c1 c2 : List Value} {d1 d2 : List e.den} (h1 : RowR w S e me F1 c1 d1) (h2 : RowR w S e me F2 c2 d2) (hd : ∀ i j x, F1 i x → ¬ F2 j x) :
    RowR w S e me (fun i => if i < d1.length then F1 i else F2 (i - d1.length)) (c1 ++ c2) (d1 ++ d2) := by
  refine ⟨by rw [List.length_append, List.length_append, h1.1, h2.1, Nat.add_mul], fun v hv => ?_, fun i j x hij hi hj => ?_, fun i hi => ?_⟩
  · rcases List.mem_append.1 hv with hv | hv
    · exact h1.2.1 v hv
    · exact h2.2.1 v hv
  · simp only at hi hj
    by_cases a1 : i < d1.length <;> by_cases a2 : j < d1.length
    · rw [if_pos a1] at hi; rw [if_pos a2] at hj; exact h1.2.2.1 i j x hij hi hj
    · rw [if_pos a1] at hi; rw [if_neg a2] at hj; exact hd _ _ _ hi hj
    · rw [if_neg a1] at hi; rw [if_pos a2] at hj; exact hd _ _ _ hj hi
    · rw [if_neg a1] at hi; rw [if_neg a2] at hj; exact h2.2.2.1 _ _ x (by omega) hi hj
  · simp only
    by_cases a1 : i < d1.length
    · have := chunk_in (sz := e.size) a1
      rw [if_pos a1, List.getElem_append_left a1]
      have e1 : chunk (c1 ++ c2) (i * e.size) e.size = chunk c1 (i * e.size) e.size := by
        simp only [chunk]
        rw [List.drop_append_of_le_length (by rw [h1.1]; omega), List.take_append_of_le_length (by rw [List.length_drop, h1.1]; omega)]
      rw [e1]
      exact h1.2.2.2 i a1
    · rw [List.length_append] at hi
      rw [if_neg a1, List.getElem_append_right (by omega)]
      have e1 : chunk (c1 ++ c2) (i * e.size) e.size = chunk c2 ((i - d1.length) * e.size) e.size := by
        simp only [chunk]
        have : i * e.size = c1.length + (i - d1.length) * e.size := by
          rw [h1.1, ← Nat.add_mul]; congr 1; omega
        rw [this, ← List.drop_drop, List.drop_left]
      rw [e1]
      exact h2.2.2.2 _ (by omega)

/-- A row of values in a block is a slice. -/
theorem RowR.slice {S : Nat → Prop} {e : Ty} {mr me : Md} {Fi : Nat → Nat → Prop} {cs : List Value} {ds : List e.den} (h : RowR w S e me Fi cs ds) (hm : (mr = .own ∧ me = .own) ∨ (mr = .top ∧ me = .shr)) {c : Array Value} {el : TypeId} {blk off cap : Nat}
    (hb : w.heap[blk]? = some (.cells c el (0, 0))) (hc : ds.length ≤ cap) (hcap : off + cap * e.size ≤ c.size) (hcs : chunk c.toList off cs.length = cs) (hF : ∀ i, ¬ Fi i blk) :
    Rd w S (.slice e) mr (fun y => y = blk ∨ ∃ i, Fi i y) [.slice (some ⟨blk, off, none⟩) ds.length cap] ds := by
  have key : ∀ i (_ : i < ds.length), Rd w S e me (Fi i) (chunk c.toList (off + i * e.size) e.size) ds[i] := by
    intro i hi
    have := h.2.2.2 i hi
    rw [← hcs, chunk_chunk _ _ _ _ _ (by rw [h.1]; exact chunk_in hi)] at this
    exact this
  rcases hm with ⟨rfl, rfl⟩ | ⟨rfl, rfl⟩ <;> simp only [Rd] <;>
    exact ⟨_, _, _, rfl, rfl, hc, .inr ⟨blk, off, c, el, rfl, .inl rfl, hb, hcap, Fi, fun i x hx => ⟨.inr ⟨i, hx⟩, fun he => hF i (he ▸ hx)⟩, h.2.2.1, fun i hi => by simpa only [Md.elem] using key i hi⟩⟩

/-- The cells behind a slice. -/
structure RowAt (w : World) (u : Value) (cs : List Value) (len : Nat) (sz : Nat) : Prop where
  val : ∃ base cap, u = .slice base len cap ∧ len ≤ cap ∧ (cs.length = len * sz) ∧ (len = 0 ∨ ∃ b off, base = some ⟨b, off, none⟩ ∧ ∀ j v, cs[j]? = some v → w.cell? ((⟨b, off, none⟩ : Addr).add j) = some v)

theorem row_own {S F : Nat → Prop} {e : Ty} {m me : Md} (hm : (m = .own ∧ me = .own) ∨ (m = .top ∧ me = .shr)) {u : Value} {d : List e.den} (h : Rd w S (.slice e) m F [u] d) :
    ∃ Fi cs, RowR w S e me Fi cs d ∧ RowAt w u cs d.length e.size ∧ (∀ i y, Fi i y → F y) ∧
      ∃ base cap, u = .slice base d.length cap ∧ (cap = 0 ∨ ∃ b off c el, base = some ⟨b, off, none⟩ ∧ F b ∧ w.heap[b]? = some (.cells c el (0, 0)) ∧ off + cap * e.size ≤ c.size ∧ (∀ i, ¬ Fi i b) ∧ chunk c.toList off cs.length = cs) := by
  have h' : ∃ base len cap, [u] = [.slice base len cap] ∧ d.length = len ∧ len ≤ cap ∧ (cap = 0 ∨ ∃ b off c el, base = some ⟨b, off, none⟩ ∧ F b ∧
        w.heap[b]? = some (.cells c el (0, 0)) ∧ off + cap * e.size ≤ c.size ∧ ∃ Fi : Nat → Nat → Prop, (∀ i x, Fi i x → F x ∧ x ≠ b) ∧
        (∀ i j x, i ≠ j → Fi i x → ¬ Fi j x) ∧ ∀ i (h : i < d.length), Rd w S e me (Fi i) (chunk c.toList (off + i * e.size) e.size) d[i]) := by
    rcases hm with ⟨rfl, rfl⟩ | ⟨rfl, rfl⟩ <;> simpa only [Rd, Md.elem] using h
  obtain ⟨base, len, cap, hu, hl, hc, h4⟩ := h'
  simp only [List.cons.injEq, and_true] at hu
  subst hu hl
  rcases h4 with h4 | ⟨b, off, c, el, rfl, hFb, hh, hoc, Fi, hFi, hd, hr⟩
  · have hd0 : d = [] := List.eq_nil_of_length_eq_zero (by omega)
    subst hd0
    exact ⟨fun _ _ => False, [], ⟨by simp, by simp, fun _ _ _ _ h => h.elim, fun i hi => by simp at hi⟩, ⟨base, cap, rfl, hc, by simp, .inl rfl⟩, fun _ _ h => h.elim, base, cap, rfl, .inl h4⟩
  · have hle : d.length * e.size ≤ cap * e.size := Nat.mul_le_mul_right _ hc
    have hcl : (chunk c.toList off (d.length * e.size)).length = d.length * e.size := chunk_length (by simp; omega)
    refine ⟨Fi, chunk c.toList off (d.length * e.size), ⟨hcl, ?_, hd, fun i hi => ?_⟩, ⟨_, cap, rfl, hc, hcl, .inr ⟨b, off, rfl, ?_⟩⟩, fun i y hy => (hFi i y hy).1, _, cap, rfl, .inr ⟨b, off, c, el, rfl, hFb, hh, hoc, fun i hy => (hFi i b hy).2 rfl, by rw [hcl]⟩⟩
    · intro v hv
      by_cases hz : e.size = 0
      · rw [hz, Nat.mul_zero] at hv; simp [chunk] at hv
      · obtain ⟨j, hj, rfl⟩ := List.getElem_of_mem hv
        rw [hcl] at hj
        have hi : j / e.size < d.length := Nat.div_lt_of_lt_mul (by rw [Nat.mul_comm]; exact hj)
        have hmm := Nat.div_add_mod j e.size
        have hml := Nat.mod_lt j (show 0 < e.size by omega)
        have hrd := hr (j / e.size) hi
        have hcomm : e.size * (j / e.size) = j / e.size * e.size := Nat.mul_comm _ _
        have hmem : (chunk c.toList off (d.length * e.size))[j] ∈ chunk c.toList (off + j / e.size * e.size) e.size := by
          apply List.mem_of_getElem? (i := j % e.size)
          simp only [chunk, List.getElem?_take, List.getElem?_drop, List.getElem_take, List.getElem_drop]
          rw [if_pos hml, List.getElem?_eq_getElem (by have := hcl; simp [chunk] at this; simp; omega)]
          congr 2
          omega
        exact Rd_plain _ _ _ _ _ _ _ hrd _ hmem
    · rw [chunk_chunk _ _ _ _ _ (chunk_in hi)]
      exact hr i hi
    · exact cell_of (cellsAt_eq hh _ _)

theorem row_shr {S F : Nat → Prop} {e : Ty} {u : Value} {d : List e.den} (h : Rd w S (.slice e) .shr F [u] d) :
    ∃ cs, RowR w S e .shr (fun _ => none') cs d ∧ RowAt w u cs d.length e.size := by
  simp only [Rd] at h
  obtain ⟨base, len, cap, hu, hl, hc, h4⟩ := h
  simp only [List.cons.injEq, and_true] at hu
  subst hu hl
  rcases h4 with h4 | ⟨b, off, rfl, hS, hr⟩
  · have hd0 : d = [] := List.eq_nil_of_length_eq_zero (by omega)
    subst hd0
    exact ⟨[], ⟨by simp, by simp, fun _ _ _ _ h => h.elim, fun i hi => by simp at hi⟩, ⟨base, cap, rfl, hc, by simp, .inl rfl⟩⟩
  · have hcl : (cellsAt w b off (d.length * e.size)).length = d.length * e.size := by
      by_cases hz : d.length * e.size = 0
      · rw [hz]; unfold cellsAt; split <;> simp [chunk]
      · have hpos : 0 < d.length := Nat.pos_of_ne_zero fun h0 => hz (by rw [h0, Nat.zero_mul])
        have hl := Rd_len _ _ _ _ _ _ _ (hr (d.length - 1) (by omega))
        have hmul : d.length * e.size = (d.length - 1) * e.size + e.size := by
          conv => lhs; rw [show d.length = (d.length - 1) + 1 by omega, Nat.add_mul, Nat.one_mul]
        have hz2 : e.size ≠ 0 := fun h0 => hz (by rw [h0, Nat.mul_zero])
        unfold cellsAt at hl ⊢
        split at hl
        · simp [chunk] at hl ⊢
          omega
        · simp at hl; omega
    refine ⟨cellsAt w b off (d.length * e.size), ⟨hcl, ?_, fun _ _ _ _ h => h.elim, fun i hi => ?_⟩, ⟨_, cap, rfl, hc, hcl, .inr ⟨b, off, rfl, cell_of rfl⟩⟩⟩
    · intro v hv
      by_cases hz : e.size = 0
      · rw [hz, Nat.mul_zero] at hcl hv
        rw [List.eq_nil_of_length_eq_zero hcl] at hv
        simp at hv
      · obtain ⟨j, hj, rfl⟩ := List.getElem_of_mem hv
        rw [hcl] at hj
        have hi : j / e.size < d.length := Nat.div_lt_of_lt_mul (by rw [Nat.mul_comm]; exact hj)
        have hmm := Nat.div_add_mod j e.size
        have hml := Nat.mod_lt j (show 0 < e.size by omega)
        have hrd := hr (j / e.size) hi
        have hcomm : e.size * (j / e.size) = j / e.size * e.size := Nat.mul_comm _ _
        rw [cellsAt_chunk b off (d.length * e.size) (j / e.size * e.size) e.size (chunk_in hi)] at hrd
        refine Rd_plain _ _ _ _ _ _ _ hrd _ (List.mem_of_getElem? (i := j % e.size) ?_)
        simp only [List.getElem?_take, List.getElem?_drop]
        rw [if_pos hml, List.getElem?_eq_getElem (by rw [hcl]; omega)]
        congr 2
        omega
    · have := hr i hi
      rw [cellsAt_chunk b off (d.length * e.size) _ _ (chunk_in hi)] at this
      exact this

end
end Go.Eng
end
