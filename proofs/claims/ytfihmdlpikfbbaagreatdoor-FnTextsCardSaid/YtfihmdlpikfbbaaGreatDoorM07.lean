/- Part 7 of 20 of a claim; what is proved, and under which conditions, stands in the last part. Here: EngAA, EngAB, EngAC, EngAD, EngAE, EngAF, EngAG. -/
import Derived.Test.YtfihmdlpikfbbaaGreatDoorM06
import Derived.Laws.MakeOwn
import Derived.Laws.BytesString
set_option linter.unusedVariables false
set_option linter.unusedSimpArgs false
set_option linter.unusedSectionVars false
section
/- The engine: its operations are the model's: append. -/
namespace Go.Eng
open Go

section
variable {P : Program} {E : En} {cx : Cx} {n : Nat} {g : Gh} {st : St} {a : Act} {w : World} {R : Type}

theorem run_storeCells_spl {b o : Nat} {cs2 : List Value} {c : Array Value} {el : TypeId} (h1 : w.heap[b]? = some (.cells c el (0, 0))) (h2 : o + cs2.length ≤ c.size) (hp : ∀ v ∈ cs2, plain v = true) :
    (storeCells ⟨b, o, none⟩ cs2).run P w = .ok () (spl w b o cs2) := by
  have hone : ∀ v ∈ cs2, v.oneCell' = true := fun v hv => by have := hp v hv; cases v <;> simp [plain] at this <;> rfl
  have hst := run_storeCells_at (P := P) b o el cs2 0 c w h1 (by simpa using h2) hone
  simp only [Nat.add_zero] at hst
  rw [hst]
  congr 1
  simp only [spl, World.setRow, World.mk.injEq, and_self, and_true]
  apply Array.ext_getElem?
  intro y
  simp only [Array.getElem?_modify]
  by_cases hy : b = y
  · subst hy
    simp only [if_true, h1, Option.map_some]
    rfl
  · simp only [if_neg hy]

theorem Held.size {F : Nat → Prop} {w' : World} (hH : Held E g st w F) (hs : w'.heap.size = w.heap.size) : Held E g st w' F := hH.grow (by omega)

theorem RowAt.src {T e' : TypeId} (hT : P.underlying T = some (.slice e')) {u : Value} {cs : List Value} {len sz : Nat} (h : RowAt w u cs len sz) (hp : ∀ v ∈ cs, plain v = true) : Src P sz T u len cs w := by
  obtain ⟨base, cap, rfl, hc, hl, hb⟩ := h.val
  have hone : ∀ v ∈ cs, v.oneCell' = true := fun v hv => by have := hp v hv; cases v <;> simp [plain] at this <;> rfl
  rcases hb with rfl | ⟨b, off, rfl, hcell⟩
  · have : cs = [] := List.eq_nil_of_length_eq_zero (by rw [hl, Nat.zero_mul])
    subst this
    cases base with
    | none => exact Src.ofNil w hT cap
    | some ad => exact Src.ofSlice w hT ad 0 cap [] (by simp) (by simp) hone
  · exact Src.ofSlice w hT _ len cap cs hl hcell hone

theorem RowAt.first {u : Value} {cs : List Value} {len sz : Nat} (h : RowAt w u cs len sz) : (Builtin.firstCells sz len u).run P w.drew = .ok cs.toArray w.drew := by
  obtain ⟨base, cap, rfl, hc, hl, hb⟩ := h.val
  rcases hb with rfl | ⟨b, off, rfl, hcell⟩
  · have : cs = [] := List.eq_nil_of_length_eq_zero (by rw [hl, Nat.zero_mul])
    subst this
    cases base with
    | none => exact run_firstCells_none w.drew sz 0 0 cap
    | some ad => exact run_firstCells_some w.drew sz 0 ad 0 cap [] (by simp) (by simp)
  · exact run_firstCells_some w.drew sz len _ len cap cs hl (by simpa using hcell)

theorem append_core {T T2 ty e' : TypeId} {e : Ty} (hT : TyOk P (.slice e) T) (hT2 : P.underlying T2 = some (.slice e')) (h : Rel E n g st a w) {mr me : Md} (hm : (mr = .own ∧ me = .own) ∨ (mr = .top ∧ me = .shr))
    {u1 u2 : Value} {d1 d2 : List e.den} {F1 : Nat → Prop} {c2 : List Value} {Fi2 : Nat → Nat → Prop} (h1 : Rd w g.S (.slice e) mr F1 [u1] d1) (hH1 : Held E g st w F1) (hR2 : RowR w g.S e me Fi2 c2 d2) (hA2 : RowAt w u2 c2 d2.length e.size)
    (hH2 : ∀ i, Held E g st w (Fi2 i)) (hdis : ∀ i y, Fi2 i y → ¬ F1 y) (hsz : List.length d1 + List.length d2 < 1073741824) :
    ∃ w' u' F', (Builtin.append_ #[T, T2] ty #[u1, u2]).run P w = .ok u' w' ∧ Rel E n g st a w' ∧ Rd w' g.S (.slice e) mr F' [u'] (List.append d1 d2) ∧ Held E g st w' F' ∧ plain u' = true := by
  obtain ⟨Fi1, c1, hR1, hA1, hFi1, base, cap, rfl, hb⟩ := row_own hm h1
  have hSrc := hA2.src hT2 hR2.2.1
  have hT' := hT
  simp only [TyOk] at hT'
  obtain ⟨_, elem, hU, hE⟩ := hT'
  obtain ⟨i, i1, i2, i3, i4⟩ := hE.base.info
  have hRR := hR1.append hR2 (fun i j x hx hy => hdis j x hy (hFi1 i x hx))
  have hHu : Held E g st w (fun y => ∃ j, (if j < d1.length then Fi1 j else Fi2 (j - d1.length)) y) := by
    have hpt : ∀ j, Held E g st w (if j < d1.length then Fi1 j else Fi2 (j - d1.length)) := by
      intro j
      by_cases hj : j < d1.length
      · rw [if_pos hj]; exact hH1.monoF (hFi1 j)
      · rw [if_neg hj]; exact hH2 _
    exact ⟨fun b x y hx hy ⟨j, hh⟩ => (hpt j).dF b x y hx hy hh, fun b x hx hr ⟨j, hh⟩ => (hpt j).dL b x hx hr hh, fun y ⟨j, hh⟩ => (hpt j).dS y hh, fun y ⟨j, hh⟩ => (hpt j).bd y hh, fun y ⟨j, hh⟩ => (hpt j).nF y hh⟩
  rw [← i2] at hSrc hA1 hA2
  by_cases hroom : d1.length + d2.length ≤ cap
  · rcases hb with rfl | ⟨b, off, c, el, rfl, hFb, hh, hoc, hnb, hcs⟩
    · have e1 : d1 = [] := List.eq_nil_of_length_eq_zero (by omega)
      have e2 : d2 = [] := List.eq_nil_of_length_eq_zero (by omega)
      subst e1 e2
      have e3 : c2 = [] := List.eq_nil_of_length_eq_zero (by rw [hR2.1]; simp)
      subst e3
      refine ⟨w, .slice base 0 0, F1, ?_, h, h1, hH1, rfl⟩
      have hcells := hSrc.cells
      simp only [List.length_nil] at hcells
      have hst0 : ∀ ad : Addr, (storeCells ad []).run P w = .ok () w := fun ad => by simp [storeCells]
      rcases hSrc.kind with ⟨e', hk⟩ | hk <;> cases base <;> simp [Builtin.append_, run_underlying hU, run_underlying hk, sizeOf, typeInfo, i1, hSrc.len, hcells, hst0]
    · have hfit : off + d1.length * e.size + c2.length ≤ c.size := by
        have := Nat.mul_le_mul_right e.size hroom
        rw [Nat.add_mul] at this
        rw [hR2.1]
        omega
      have hst := run_storeCells_spl (P := P) hh hfit hR2.2.1
      have hlt1 : off + d1.length * e.size + c2.length ≤ c.toList.length := by simpa using hfit
      have hrun : (Builtin.append_ #[T, T2] ty #[.slice (some ⟨b, off, none⟩) d1.length cap, u2]).run P w = .ok (.slice (some ⟨b, off, none⟩) (d1.length + d2.length) cap) (spl w b (off + d1.length * e.size) c2) := by
        rw [← i2] at hst ⊢
        rcases hSrc.kind with ⟨e', hk⟩ | hk <;> simp [Builtin.append_, run_underlying hU, run_underlying hk, sizeOf, typeInfo, i1, hSrc.len, hroom, hSrc.cells, Addr.add_lit, hst]
      have hkeep : ∀ y, y ≠ b → (spl w b (off + d1.length * e.size) c2).heap[y]? = w.heap[y]? := fun y hy => spl_ne hy
      have hSb : ∀ y, g.S y → y ≠ b := fun y hy he => hH1.dS b hFb (he ▸ hy)
      have hFb2 : ∀ j, ¬ (if j < d1.length then Fi1 j else Fi2 (j - d1.length)) b := by
        intro j
        by_cases hj : j < d1.length
        · rw [if_pos hj]; exact hnb j
        · rw [if_neg hj]; exact fun hx => hdis _ _ hx hFb
      have hRR2 := hRR.frame (w' := spl w b (off + d1.length * e.size) c2) (fun y hy => hkeep y (hSb y hy)) (fun j y hy => hkeep y fun he => hFb2 j (he ▸ hy))
      have hcc : chunk (splice c.toList (off + d1.length * e.size) c2) off (c1 ++ c2).length = c1 ++ c2 := by
        have h3 : off + d1.length * e.size + c2.length ≤ c.toList.length := hlt1
        have h4 : c1.length = d1.length * e.size := hR1.1
        rw [List.length_append, h4, chunk_splice_in (x := c2) (o := off) (δ := d1.length * e.size) (n := d1.length * e.size + c2.length) (by omega) (by omega)]
        have h5 : (chunk c.toList off (d1.length * e.size + c2.length)).length = d1.length * e.size + c2.length := chunk_length (by omega)
        simp only [splice]
        have h6 : List.take (d1.length * e.size) (chunk c.toList off (d1.length * e.size + c2.length)) = c1 := by
          conv => rhs; rw [← hcs, h4]
          simp only [chunk, List.take_take]
          congr 1; omega
        rw [h6, List.drop_of_length_le (by omega), List.append_nil]
      have hsl := hRR2.slice hm (spl_eq hh) (cap := cap) (off := off) (by rw [List.length_append]; omega) (by
        have : (splice c.toList (off + d1.length * e.size) c2).length = c.toList.length := splice_length hlt1
        simp only [List.size_toArray, this]
        simpa using hoc) hcc hFb2
      rw [List.length_append] at hsl
      refine ⟨_, _, _, hrun, ?_, hsl, ?_, rfl⟩
      · exact h.held (hH1.monoF (F' := fun y => y = b) (fun y hy => hy ▸ hFb)) (fun y _ hy => hkeep y hy) (by rw [spl_size]; exact Nat.le_refl _) rfl rfl rfl
      · refine Held.size ?_ (spl_size _ _ _ _)
        refine ⟨fun b' x y hx hy hh => ?_, fun b' x hx hr hh => ?_, fun y hh => ?_, fun y hh => ?_, fun y hh => ?_⟩
        · rcases hh with rfl | hh
          · exact hH1.dF b' x _ hx hy hFb
          · exact hHu.dF b' x y hx hy hh
        · rcases hh with hh | hh
          · exact hH1.dL b' x hx hr (hh ▸ hFb)
          · exact hHu.dL b' x hx hr hh
        · rcases hh with rfl | hh
          · exact hH1.dS _ hFb
          · exact hHu.dS y hh
        · rcases hh with rfl | hh
          · exact hH1.bd _ hFb
          · exact hHu.bd y hh
        · rcases hh with rfl | hh
          · exact hH1.nF _ hFb
          · exact hHu.nF y hh
  · have hfits : Builtin.nextslicecap (d1.length + d2.length) cap * i.bytes ≤ 281474976710656 := by
      refine growslice_fits (by omega) ?_
      have := Nat.mul_le_mul (show d1.length + d2.length ≤ 1073741824 by omega) i4
      omega
    have hrun := run_append_grow_src (P := P) w T T2 ty elem i _ hU i1 i3 base d1.length cap c1 hA1.first u2 d2.length c2 hSrc (by omega) (by omega) hfits
    have hge := grownCap_ge w (d1.length + d2.length) cap elem
    generalize hcap : grownCap w (d1.length + d2.length) cap elem = ncap at *
    have hzs : (toV e (zeros e)).cells.size = e.size := by
      rw [toV_cells (zeros_len e) (Rd_plain w g.S e .own none' _ _ (Rd_zero w g.S e elem hE))]
      simp [zeros_len]
    generalize hZ : Builtin.zeroCells (toV e (zeros e)).cells (ncap - (d1.length + d2.length)) = Z at *
    have hZs : Z.size = (ncap - (d1.length + d2.length)) * e.size := by rw [← hZ, size_zeroCells, hzs]
    have hold : ∀ y, y < w.heap.size → (w.drew.alloc (.cells ((c1 ++ c2).toArray ++ Z) elem)).heap[y]? = w.heap[y]? := by
      intro y hy
      simp only [World.alloc, World.drew, Array.getElem?_push]
      rw [if_neg (by omega)]
    have hsize : (w.drew.alloc (.cells ((c1 ++ c2).toArray ++ Z) elem)).heap.size = w.heap.size + 1 := by simp only [World.alloc, World.drew, Array.size_push]
    have hnew : (w.drew.alloc (.cells ((c1 ++ c2).toArray ++ Z) elem)).heap[w.heap.size]? = some (.cells ((c1 ++ c2).toArray ++ Z) elem (0, 0)) := by
      simp only [World.alloc, World.drew, Array.getElem?_push, if_true]
    have hRR2 := hRR.frame (w' := w.drew.alloc (.cells ((c1 ++ c2).toArray ++ Z) elem)) (fun y hy => hold y (h.bS y hy)) (fun j y hy => hold y (hHu.bd y ⟨j, hy⟩))
    have hlen12 : (c1 ++ c2).length = (d1.length + d2.length) * e.size := by rw [List.length_append, hR1.1, hR2.1, Nat.add_mul]
    have hsl := hRR2.slice hm hnew (cap := ncap) (off := 0) (by rw [List.length_append]; exact hge) (by
        simp only [Array.size_append, List.size_toArray, hlen12, hZs]
        rw [← Nat.add_mul, Nat.zero_add]
        exact Nat.mul_le_mul_right _ (by omega)) (by
        simp only [chunk, Array.toList_append, List.drop_zero]
        rw [List.take_left]) (fun j hj => by have := hHu.bd _ ⟨j, hj⟩; omega)
    rw [List.length_append] at hsl
    refine ⟨_, _, _, hrun, h.grow hold (by omega) rfl rfl rfl, hsl, ?_, rfl⟩
    exact ((hHu.push h #[] 0).size (w' := w.drew.alloc (.cells ((c1 ++ c2).toArray ++ Z) elem)) (by rw [hsize]; simp only [pushW, Array.size_push]))

theorem appMd_ok {nil : Bool} {m1 m2 m : Md} (h : appMd nil m1 m2 = some m) : (m = .own ∧ m1 = .own ∧ m2 = .own) ∨ (m = .top ∧ (m1 = .top ∨ (m1 = .own ∧ nil = true)) ∧ (m2 = .top ∨ m2 = .shr)) := by
  cases m1 <;> cases m2 <;> simp only [appMd] at h <;> (try (simp at h; done)) <;> (try (simp only [Option.some.injEq] at h; subst h; simp; done))
  all_goals
    obtain ⟨h1, h2⟩ := cond_none h
    simp only [Option.some.injEq] at h2
    subst h2
    simp [h1]

theorem Rd_own_top {S F : Nat → Prop} {e : Ty} {u : Value} (h : Rd w S (.slice e) .own F [u] ([] : List e.den)) : Rd w S (.slice e) .top F [u] ([] : List e.den) := by
  simp only [Rd] at h ⊢
  obtain ⟨base, len, cap, h1, h2, h3, h4⟩ := h
  refine ⟨base, len, cap, h1, h2, h3, ?_⟩
  rcases h4 with h4 | ⟨b, off, c, el, k1, k2, k3, k4, Fi, k5, k6, _⟩
  · exact .inl h4
  · exact .inr ⟨b, off, c, el, k1, k2, k3, k4, Fi, k5, k6, fun i hi => by simp at hi⟩

theorem sl_one {S F : Nat → Prop} {e : Ty} {m : Md} {cs : List Value} {d : List e.den} (h : Rd w S (.slice e) m F cs d) : ∃ c, cs = [c] ∧ toV (.slice e) cs = c := by
  have := Rd_len _ _ _ _ _ _ _ h
  obtain ⟨c, rfl⟩ := List.length_eq_one_iff.1 this
  exact ⟨c, rfl, rfl⟩

theorem append_sound (hc : CxOk P E cx) (h : Rel E n g st a w) {strict : Bool} {d : Tmp} {T T2 ty : TypeId} {e' : Ty} {x y : AV} {u1 u2 : Value} {k : St → Option R} {r : R} (hT2 : cx.ty T2 = some (.slice e'))
    (hk : appendK cx st strict d T x y k = some r) (hx : AVR g st.bx w x [u1]) (hy : AVR g st.bx w y [u2]) :
    ∃ g' st' w' u', k (St.put st' (some d) (.place (kVal d) [])) = some r ∧ (Builtin.append_ #[T, T2] ty #[u1, u2]).run P w = .ok u' w' ∧ Rel E n g' st' a w' ∧ AVR g' st'.bx w' (.place (kVal d) []) [u'] := by
  have hTT := hc.ty T2 _ hT2
  simp only [TyOk] at hTT
  obtain ⟨_, elem2, hU2, _⟩ := hTT
  unfold appendK at hk
  split at hk
  · rename_i e hT
    obtain ⟨g1, st1, m1, d1, F1, cs1, hk1, hR1, hL1, hrd1, hu1, hH1, hF1, hfu1, hkeep1⟩ := takeK_sound hk h hx
    dsimp only at hk1
    obtain ⟨c1, rfl, hc1⟩ := sl_one hrd1
    rw [hc1] at hu1
    subst hu1
    cases hf : e.flat
    · rw [hf] at hk1
      simp only [cond_false] at hk1
      obtain ⟨g2, st2, m2, d2, F2, cs2, hk2, hR2, hL2, hrd2, hu2, hH2, hF2, hfu2, hkeep2⟩ := takeK_sound hk1 hR1 (hkeep1 _ _ hy)
      dsimp only at hk2
      obtain ⟨c2, rfl, hc2⟩ := sl_one hrd2
      rw [hc2] at hu2
      subst hu2
      split at hk2
      · rename_i m hm
        obtain ⟨hsz, hk3⟩ := cond_none hk2
        have hk4 := newK_ok hk3
        simp only [roomFor, decide_eq_true_eq] at hsz
        rw [← hL2.S] at hrd1
        have hH1' := hH1.less hL2
        have hdis : ∀ y, F2 y → ¬ F1 y := fun y hy hF => by
          obtain ⟨b, x, hx, hgy, _⟩ := hF2 y hy
          exact hH1.dF b x y hx hgy hF
        have core : ∃ (w' : World) (u' : Value) (F' : Nat → Prop), (Builtin.append_ #[T, T2] ty #[u1, u2]).run P w = .ok u' w' ∧ Rel E n g2 st2 a w' ∧ Rd w' g2.S (.slice e) m F' [u'] (List.append d1 d2) ∧ Held E g2 st2 w' F' ∧ plain u' = true := by
          rcases appMd_ok hm with ⟨rfl, rfl, rfl⟩ | ⟨rfl, hm1, hm2⟩
          · obtain ⟨Fi2, c2', hRw2, hAt2, hFi2, _⟩ := row_own (.inl ⟨rfl, rfl⟩) hrd2
            exact append_core (hc.ty T _ hT) hU2 hR2 (.inl ⟨rfl, rfl⟩) hrd1 hH1' hRw2 hAt2 (fun i => hH2.monoF (hFi2 i)) (fun i y hy => hdis y (hFi2 i y hy)) hsz
          · have hrd1' : Rd w g2.S (.slice e) .top F1 [u1] d1 := by
              rcases hm1 with rfl | ⟨rfl, hn⟩
              · exact hrd1
              · cases x <;> simp [isNils] at hn
                obtain ⟨base, hb⟩ := hx
                simp only [List.cons.injEq, and_true] at hb
                subst hb
                have hd0 : d1 = [] := by
                  simp only [Rd] at hrd1
                  obtain ⟨_, _, _, q1, q2, _⟩ := hrd1
                  simp at q1
                  exact List.eq_nil_of_length_eq_zero (by omega)
                subst hd0
                exact Rd_own_top hrd1
            rcases hm2 with rfl | rfl
            · obtain ⟨Fi2, c2', hRw2, hAt2, hFi2, _⟩ := row_own (.inr ⟨rfl, rfl⟩) hrd2
              exact append_core (hc.ty T _ hT) hU2 hR2 (.inr ⟨rfl, rfl⟩) hrd1' hH1' hRw2 hAt2 (fun i => hH2.monoF (hFi2 i)) (fun i y hy => hdis y (hFi2 i y hy)) hsz
            · obtain ⟨c2', hRw2, hAt2⟩ := row_shr hrd2
              exact append_core (hc.ty T _ hT) hU2 hR2 (.inr ⟨rfl, rfl⟩) hrd1' hH1' hRw2 hAt2 (fun i => Held.none) (fun i y hy => hy.elim) hsz
        obtain ⟨w', u', F', c1, c2, c3, c4, c5⟩ := core
        obtain ⟨g', k1, k2⟩ := new_val (b := kVal d) c2 (kVal_ne d) c3 c4
        exact ⟨g', _, w', u', hk4, c1, k1, k2⟩
      · simp at hk2
    · rw [hf] at hk1
      simp only [cond_true] at hk1
      split at hk1
      · rename_i d2 hd2
        obtain ⟨hcc, hk3⟩ := cond_none hk1
        have hk4 := newK_ok hk3
        simp only [Bool.and_eq_true, roomFor, decide_eq_true_eq] at hcc
        have hm1 : m1 = .own := by have := hcc.1; cases m1 <;> simp [isOwn] at this <;> rfl
        subst hm1
        obtain ⟨cs2, hrd2, hu2⟩ := readV_sound hR1 hd2 (hkeep1 _ _ hy)
        obtain ⟨c2, rfl, hc2⟩ := sl_one hrd2
        rw [hc2] at hu2
        subst hu2
        obtain ⟨c2', hRw2, hAt2⟩ := row_shr hrd2
        have hRw2' : RowR w g1.S e .own (fun _ => none') c2' d2 :=
          ⟨hRw2.1, hRw2.2.1, hRw2.2.2.1, fun i hi => Rd_ownF w g1.S e .shr none' _ _ hf (full_shr e) (Rd_flat w w _ g1.S e .shr _ none' _ _ hf (full_shr e) (hRw2.2.2.2 i hi)) none'⟩
        obtain ⟨w', u', F', c1, c2, c3, c4, c5⟩ := append_core (ty := ty) (hc.ty T _ hT) hU2 hR1 (.inl ⟨rfl, rfl⟩) hrd1 hH1 hRw2' hAt2 (fun i => Held.none) (fun i y hy => hy.elim) hcc.2
        obtain ⟨g', k1, k2⟩ := new_val (b := kVal d) c2 (kVal_ne d) c3 c4
        exact ⟨g', _, w', u', hk4, c1, k1, k2⟩
      · simp at hk1
  · simp at hk

end
end Go.Eng
end

section
/- The engine: its operations are the model's: those that remain but for the calls. -/
namespace Go.Eng
open Go

section
variable {P : Program} {E : En} {cx : Cx} {n : Nat} {g : Gh} {st : St} {a : Act} {w : World} {R : Type}

theorem len_sl (h : Rel E n g st a w) {v : AV} {u : Value} {m : Int} (hl : lenSl st v = some m) (hv : AVR g st.bx w v [u]) : ∃ (base : Option Addr) (len cap : Nat), u = .slice base len cap ∧ m = len := by
  unfold lenSl at hl
  split at hl
  · simp only [Option.some.injEq] at hl
    obtain ⟨base, len, cap, h1, h2, _⟩ := val_slice hv
    exact ⟨base, len, cap, h1, by rw [← hl, h2]⟩
  · simp only [Option.some.injEq] at hl
    obtain ⟨base, hb⟩ := hv
    simp only [List.cons.injEq, and_true] at hb
    exact ⟨base, 0, 0, hb, by rw [← hl]; rfl⟩
  · rename_i b p lo hi
    split at hl
    · rename_i x hx
      obtain ⟨ho, hl⟩ := cond_none hl
      simp only [Option.some.injEq] at hl
      obtain ⟨e, base, len, cap, l', hw, h1, h2, h3, base', cap', hu, _⟩ := hv x hx ho
      simp only [List.cons.injEq, and_true] at hu
      exact ⟨base', _, cap', hu, by omega⟩
    · simp at hl
  · rename_i b p
    split at hl
    · rename_i x hx
      split at hl
      · rename_i e s hg
        obtain ⟨ho, hl⟩ := cond_none hl
        simp only [Option.some.injEq] at hl
        have ho' := okR_prefix _ _ _ _ ho
        obtain ⟨t', cs', l', hw, hu⟩ := hv x hx ho'
        simp only [List.cons.injEq, and_true] at hu
        obtain ⟨d', F', m', hg', _, _, hrd⟩ := read_walk w g.S p x.t x.m (g.F b) (g.cs b) x.d _ t' cs' l' (h.rd b x hx) hw ho'
        rw [hg] at hg'
        simp only [Option.some.injEq, Sigma.mk.injEq] at hg'
        obtain ⟨rfl, _⟩ := hg'
        obtain ⟨base, len, cap, rfl, h1, h2, _⟩ := here_slice p _ _ _ _ _ _ _ _ _ _ _ (h.rd b x hx) hw hg ho
        exact ⟨base, len, cap, hu, by rw [← hl, h1]⟩
      · simp at hl
    · simp at hl
  · simp at hl

theorem len_sound (hc : CxOk P E cx) (h : Rel E n g st a w) {T ty : TypeId} {v : AV} {u : Value} {m : Int} (hl : lenV cx st T v = some m) (hv : AVR g st.bx w v [u]) : (Builtin.len_ #[T] ty #[u]).run P w = .ok (.int .i64 m) w := by
  unfold lenV at hl
  split at hl
  · rename_i e hT
    have := hc.ty T _ hT
    simp only [TyOk] at this
    obtain ⟨_, E', hU, _⟩ := this
    obtain ⟨base, len, cap, rfl, rfl⟩ := len_sl h hl hv
    simp [Builtin.len_, run_und hU, goInt]
  · rename_i hT
    have := hc.ty T _ hT
    simp only [TyOk] at this
    split at hl
    · simp only [Option.some.injEq] at hl
      have hu := str_AVR hv
      subst hu hl
      simp [Builtin.len_, run_und this.2, goInt]
      rfl
    · simp at hl
  · rename_i k e hT
    have := hc.ty T _ hT
    simp only [TyOk] at this
    obtain ⟨_, E', hU, _⟩ := this
    simp only [Option.some.injEq] at hl
    subst hl
    simp [Builtin.len_, run_und hU, goInt]
  · simp at hl

theorem tupGet_sound {bx : List (Nat × Bx)} : ∀ {c : AV} {i : Nat} {v : AV} {ws : List Value}, tupGet c i = some v → AVR g bx w c ws → ∃ u, ws[i]? = some u ∧ AVR g bx w v [u]
  | .tcons a b, 0, v, ws, h, hv => by
    simp only [tupGet, Option.some.injEq] at h
    obtain ⟨u, r, h1, h2, _⟩ := hv
    subst h h1
    exact ⟨u, rfl, h2⟩
  | .tcons a b, i + 1, v, ws, h, hv => by
    simp only [tupGet] at h
    obtain ⟨u, r, h1, _, h2⟩ := hv
    subst h1
    obtain ⟨u', k1, k2⟩ := tupGet_sound h h2
    exact ⟨u', by simpa using k1, k2⟩
  | .skip, i, v, ws, h, hv => by cases i <;> simp [tupGet] at h
  | .undef, i, v, ws, h, hv => by cases i <;> simp [tupGet] at h
  | .nils, i, v, ws, h, hv => by cases i <;> simp [tupGet] at h
  | .val _ _, i, v, ws, h, hv => by cases i <;> simp [tupGet] at h
  | .place _ _, i, v, ws, h, hv => by cases i <;> simp [tupGet] at h
  | .cut _ _ _ _, i, v, ws, h, hv => by cases i <;> simp [tupGet] at h
  | .ptr _ _, i, v, ws, h, hv => by cases i <;> simp [tupGet] at h
  | .sptr _ _, i, v, ws, h, hv => by cases i <;> simp [tupGet] at h
  | .fn _ _, i, v, ws, h, hv => by cases i <;> simp [tupGet] at h
  | .tup _, i, v, ws, h, hv => by cases i <;> simp [tupGet] at h
  | .tnil, i, v, ws, h, hv => by cases i <;> simp [tupGet] at h

theorem AVR_tupOf {bx : List (Nat × Bx)} : ∀ {l : List AV} {us : List Value}, l.length = us.length → (∀ (i : Nat) (v : AV) (u : Value), l[i]? = some v → us[i]? = some u → AVR g bx w v [u]) → AVR g bx w (tupOf l) us
  | [], us, h, _ => by cases us <;> simp at h; rfl
  | v :: l, [], h, _ => by simp at h
  | v :: l, u :: us, h, hh => ⟨u, us, rfl, hh 0 v u rfl rfl, AVR_tupOf (by simpa using h) fun i v' u' h1 h2 => hh (i + 1) v' u' (by simpa using h1) (by simpa using h2)⟩

theorem made_flat {zs : List Value} (hp : ∀ v ∈ zs, plain v = true) (m : Nat) : (madeCells ⟨zs⟩ (m * zs.length)).toList = (List.replicate m zs).flatten := by
  rcases Nat.eq_zero_or_pos zs.length with h0 | h0
  · have : zs = [] := List.eq_nil_of_length_eq_zero h0
    subst this
    simp [madeCells]
  · have hf := Great.flat_get h0 (List.replicate m (.agg ⟨zs⟩)) (by intro v hv; rw [(List.mem_replicate.1 hv).2]; rfl)
    have e1 : (List.replicate m (Value.agg ⟨zs⟩)).flatMap (fun v => v.cells.toList) = (List.replicate m zs).flatten := by
      rw [List.flatMap, List.map_replicate]; rfl
    rw [e1] at hf
    apply List.ext_getElem?
    intro k
    rw [hf k]
    by_cases hk : k < m * zs.length
    · have h1 : k / zs.length < m := Nat.div_lt_of_lt_mul (by rw [Nat.mul_comm]; exact hk)
      have h2 := Nat.mod_lt k h0
      simp [madeCells, List.getElem?_replicate, h1, hk, Value.cells, h2]
    · have h1 : ¬ k / zs.length < m := by rw [Nat.div_lt_iff_lt_mul h0]; omega
      simp [madeCells, List.getElem?_replicate, h1, hk]

theorem make_sound (hc : CxOk P E cx) (h : Rel E n g st a w) {T : TypeId} {e : Ty} {jl jc : IntKind} {l c : Int} (hT : cx.ty T = some (.slice e)) (h0 : 0 ≤ l) (h1 : l ≤ c) (h2 : c < 1073741824) (b : Nat) (hb : b % 16 ≠ 15) :
    ∃ g' w' u, (Instr.makeSlice T (.int jl l) (.int jc c)).run P w = .ok u w' ∧ Rel E n g' ⟨fltL (fun _ v => v.all (noBox b)) st.tm, putL st.bx b ⟨.slice e, .own, (List.replicate l.toNat e.dflt : List e.den), false⟩⟩ a w' ∧
      AVR g' (putL st.bx b ⟨.slice e, .own, (List.replicate l.toNat e.dflt : List e.den), false⟩) w' (.place b []) [u] := by
  have hTT := hc.ty T _ hT
  simp only [TyOk] at hTT
  obtain ⟨_, E', hU, hE⟩ := hTT
  obtain ⟨i, i1, i2, i3, i4⟩ := hE.base.info
  have hz0 := Rd_zero w g.S e E' hE
  have hpz := Rd_plain _ _ _ _ _ _ _ hz0
  have hcb : (i.bytes : Int) * c ≤ 281474976710656 := by
    have : (i.bytes : Int) ≤ 4096 := by omega
    have := Int.mul_le_mul this (show c ≤ 1073741824 by omega) (by omega) (by omega)
    omega
  have hrun := run_make (P := P) w T E' i _ hU i1 i3 jl jc l c h0 h1 hcb (by omega)
  rw [toV_cells (zeros_len e) hpz, i2] at hrun
  generalize hC : madeCells ⟨zeros e⟩ (c.toNat * e.size) = C at *
  have hCl : C.toList = (List.replicate c.toNat (zeros e)).flatten := by
    rw [← hC]
    have := made_flat hpz c.toNat
    rw [zeros_len] at this
    exact this
  have hCs : C.size = c.toNat * e.size := by rw [← hC]; simp [madeCells]
  have hrow : RowR (pushW w C E') g.S e .own (fun _ => none') (List.replicate l.toNat (zeros e)).flatten (List.replicate l.toNat e.dflt) := by
    refine ⟨by simp [zeros_len], fun v hv => ?_, fun _ _ _ _ h => h.elim, fun i hi => ?_⟩
    · obtain ⟨x, hx, hv⟩ := List.mem_flatten.1 hv
      rw [(List.mem_replicate.1 hx).2] at hv
      exact hpz v hv
    · simp only [List.length_replicate] at hi
      have := replicate_chunk (z := zeros e) (i := i) (m := l.toNat) hi
      rw [zeros_len] at this
      rw [this, List.getElem_replicate]
      exact Rd_zero _ _ e E' hE
  have hsl := hrow.slice (.inl ⟨rfl, rfl⟩) (pushW_new (w := w)) (cap := c.toNat) (off := 0) (by simp; omega) (by omega) (by
    rw [hCl, show c.toNat = l.toNat + (c.toNat - l.toNat) by omega, ← List.replicate_append_replicate, List.flatten_append]
    simp only [chunk, List.drop_zero]
    exact List.take_left) (fun i hi => hi)
  rw [List.length_replicate] at hsl
  obtain ⟨g', k1, k2⟩ := new_val (h.push C E') (b := b) hb hsl ((Held.push (F := none') Held.none h C E').monoF (by rintro y (hy | ⟨i, hi⟩); exact .inl hy; exact hi.elim))
  refine ⟨g', _, _, ?_, k1, k2⟩
  rw [hrun]
  simp [pushW, World.alloc_eq]
  rfl

end
end Go.Eng
end

section
/- The engine: its operations are the model's: conversions, parts of values. -/
namespace Go.Eng
open Go

section
variable {P : Program} {E : En} {cx : Cx} {n : Nat} {g : Gh} {st : St} {a : Act} {w : World} {R : Type}

theorem fold_bytes : ∀ (ns : List Int) (s : ByteArray), ns.foldl (fun r n => r.push (UInt8.ofNat n.toNat)) s = ⟨s.data ++ (⟨ns.map fun n : Int => UInt8.ofNat n.toNat⟩ : Array UInt8)⟩
  | [], s => by simp
  | n :: ns, s => by
    simp only [List.foldl_cons]
    rw [fold_bytes ns]
    congr 1
    simp only [ByteArray.push]
    apply Array.ext'
    simp

theorem conv_sound (hc : CxOk P E cx) (h : Rel E n g st a w) {S T : TypeId} {x : AV} {u : Value} {k : AV → Option R} {r : R} (hk : convK cx st S T x k = some r) (hx : AVR g st.bx w x [u]) :
    ∃ v' u', k v' = some r ∧ (convert S T u).run P w = .ok u' w ∧ AVR g st.bx w v' [u'] := by
  unfold convK at hk
  split at hk
  · rename_i j hT
    have hTT := hc.ty T _ hT
    simp only [TyOk] at hTT
    split at hk
    · rename_i j' y hS
      cases hS' : cx.ty S with
      | none => rw [hS'] at hS; simp at hS
      | some s =>
        have hb := hc.ty S _ hS'
        have hu := int_AVR hx
        subst hu
        have : ∃ ds, P.underlying S = some ds := by
          cases s <;> simp only [TyOk] at hb
          case unit => exact ⟨_, hb.2⟩
          case int => exact ⟨_, hb.2⟩
          case bool => exact ⟨_, hb.2⟩
          case str => exact ⟨_, hb.2⟩
          case pair => obtain ⟨_, _, _, h1, _⟩ := hb; exact ⟨_, h1⟩
          case slice => obtain ⟨_, _, h1, _⟩ := hb; exact ⟨_, h1⟩
          case arr => obtain ⟨_, _, h1, _⟩ := hb; exact ⟨_, h1⟩
          case iface => obtain ⟨_, _, h1⟩ := hb; exact ⟨_, h1⟩
        obtain ⟨ds, hds⟩ := this
        refine ⟨_, _, hk, ?_, AVR_int _ _⟩
        simp only [convert, Sem.run_bind, run_und hds, run_und hTT.2, Result.andThen_ok]
        cases ds <;> rfl
    · simp at hk
  · rename_i hT
    have hTT := hc.ty T _ hT
    simp only [TyOk] at hTT
    split at hk
    · rename_i hS
      have hSS := hc.ty S _ hS
      simp only [TyOk] at hSS
      split at hk
      · have hu := str_AVR hx
        subst hu
        refine ⟨_, _, hk, ?_, AVR_str _⟩
        simp [convert, run_und hSS.2, run_und hTT.2]
      · simp at hk
    · rename_i hS
      have hSS := hc.ty S _ hS
      simp only [TyOk] at hSS
      obtain ⟨_, E', hU, hE⟩ := hSS
      split at hk
      · rename_i l hl
        obtain ⟨cs, hrd, hu⟩ := readV_sound h hl hx
        obtain ⟨c, rfl, hc1⟩ := sl_one hrd
        rw [hc1] at hu
        subst hu
        refine ⟨_, _, hk, ?_, AVR_str _⟩
        simp only [Rd] at hrd
        obtain ⟨base, len, cap, he, h1, h2, h3⟩ := hrd
        simp only [List.cons.injEq, and_true] at he
        subst he
        rw [run_convert_bytes_string w S T E' base len cap hU hE.2 hTT.2]
        cases base with
        | none =>
          have hl0 : len = 0 := by
            rcases h3 with h3 | ⟨b, off, h3, _⟩
            · exact h3
            · simp at h3
          have : l = [] := List.eq_nil_of_length_eq_zero (by rw [h1, hl0])
          subst this
          simp [Conv.bytesToString]
          rfl
        | some ad =>
          have hload : (loadCells ad len).run P w = .ok (l.map (Value.int .u8)).toArray w := by
            have := run_loadCells_list (P := P) w ad (l.map (Value.int .u8)) ?_
            · rw [List.length_map, h1] at this
              exact this
            · intro j v hv
              simp only [List.getElem?_map, Option.map_eq_some_iff] at hv
              obtain ⟨y, hy, rfl⟩ := hv
              have hj : j < l.length := by
                rcases Nat.lt_or_ge j l.length with h4 | h4
                · exact h4
                · rw [List.getElem?_eq_none h4] at hy; simp at hy
              rcases h3 with h3 | ⟨b, off, h3, hS, hr⟩
              · omega
              · simp only [Option.some.injEq] at h3
                subst h3
                have := hr j hj
                simp only [Ty.size, Nat.mul_one] at this
                rw [addr_add]
                have hcell := cell_of (w := w) this 0 _ rfl
                rw [addr_add, Nat.add_zero] at hcell
                rw [hcell]
                rw [List.getElem?_eq_getElem hj] at hy
                simp only [Option.some.injEq] at hy
                rw [hy]
          rw [run_bytesToString w ad len cap l hload, fold_bytes]
          congr 3
          apply Array.ext'
          simp
      · simp at hk
    · simp at hk
  · simp at hk

theorem arr_part {m : Nat} {e : Ty} {cs : List Value} {l : List e.den} (h : Rd w g.S (.arr m e) .shr none' cs l) {i : Nat} (hi : i < m) :
    ((cs.drop (i * e.size)).take e.size).length = e.size ∧ Rd w g.S e .shr none' ((cs.drop (i * e.size)).take e.size) (List.getD l i e.dflt) := by
  simp only [Rd] at h
  obtain ⟨h1, h2, h3, h4⟩ := h
  have hi' : i < l.length := by rw [h1]; exact hi
  have := h4 i hi'
  refine ⟨Rd_len _ _ _ _ _ _ _ this, ?_⟩
  rw [getD_eq l i _ hi']
  exact this

theorem index_sound (hc : CxOk P E cx) {T : TypeId} {v i : AV} {u ui : Value} {k : AV → Option R} {r : R} (hk : indexK cx T v i k = some r) (hv : AVR g st.bx w v [u]) (hi : AVR g st.bx w i [ui]) :
    ∃ v' u', k v' = some r ∧ (Instr.index T u ui).run P w = .ok u' w ∧ AVR g st.bx w v' [u'] := by
  unfold indexK at hk
  split at hk
  · rename_i j m
    have hui := int_AVR hi
    subst hui
    change Int at m
    split at hk
    · rename_i s
      have hu := str_AVR hv
      subst hu
      obtain ⟨hck, hk⟩ := cond_none hk
      simp only [Bool.and_eq_true, decide_eq_true_eq] at hck
      have hT := tyIs_ok hc hck.1.1
      simp only [TyOk] at hT
      refine ⟨_, _, hk, ?_, AVR_int _ _⟩
      have h0 : (0 : Int) ≤ m := hck.1.2
      have h1 : m < (List.length s : Int) := hck.2
      have hlt : m.toNat < s.length := by omega
      simp only [Instr.index, asIntOf, Sem.run_bind, Sem.run_pure, Result.andThen_ok, run_und hT.2]
      rw [if_pos h0]
      have : (ByteArray.mk ⟨s⟩)[m.toNat]? = some s[m.toNat] := by
        have hsz : (ByteArray.mk ⟨s⟩).size = s.length := rfl
        rw [getElem?_pos _ _ (by rw [hsz]; exact hlt)]
        rfl
      rw [this]
      rw [getD_eq s _ _ hlt]
      simp
    · rename_i k0 e l
      obtain ⟨hck, hk⟩ := cond_none hk
      simp only [Bool.and_eq_true, decide_eq_true_eq] at hck
      have hT := tyIs_ok hc hck.1.1
      simp only [TyOk] at hT
      obtain ⟨_, E', hU, hE, hf⟩ := hT
      obtain ⟨cs, h1, h2⟩ := hv
      simp only [List.cons.injEq, and_true] at h2
      subst h2
      have h0 : (0 : Int) ≤ m := hck.1.2
      have h1' : m < (k0 : Int) := hck.2
      obtain ⟨p1, p2⟩ := arr_part h1 (show m.toNat < k0 by omega)
      refine ⟨_, _, hk, ?_, _, p2, rfl⟩
      simp only [toV, Ty.agg, if_true, Instr.index, asIntOf, Sem.run_bind, Sem.run_pure, Result.andThen_ok, run_und hU, run_sizeOf hE]
      rw [if_pos ⟨h0, h1'⟩]
      simp only [Sem.run_bind, run_sizeOf hE, Result.andThen_ok]
      exact run_part hE p1
    · simp at hk
  · simp at hk

theorem field_sound (hc : CxOk P E cx) {T : TypeId} {t : Ty} {d : t.den} {f : Nat} {u : Value} (hT : cx.ty T = some t) (ht : (tyAt t (fldP f)).isSome = true) (hv : AVR g st.bx w (.val t d) [u]) :
    ∃ v u', getD t (fldP f) d = some v ∧ (Instr.field T u f).run P w = .ok u' w ∧ AVR g st.bx w (.val v.1 v.2) [u'] := by
  obtain ⟨tf, htf⟩ := Option.isSome_iff_exists.1 ht
  obtain ⟨fs, fd, h1, h2, h3, _, h4⟩ := ty_fld (hc.ty T _ hT) htf
  obtain ⟨cs, r1, r2⟩ := hv
  simp only [List.cons.injEq, and_true] at r2
  subst r2
  obtain ⟨df, k1, k2, k3⟩ := getD_fld f t tf _ _ d r1 htf
  refine ⟨⟨tf, df⟩, _, k1, ?_, _, k2, rfl⟩
  have hag : t.agg = true := by cases t <;> cases f <;> simp [fldP, tyAt] at htf <;> rfl
  simp only [Instr.field, Sem.run_bind, run_und h1, Result.andThen_ok, h2, toV, hag, if_true, asAgg, Sem.run_pure, h3]
  exact run_part h4 (Rd_len _ _ _ _ _ _ _ k2)

end
end Go.Eng
end

section
/- The engine: its operations are the model's: one operation that is no call. -/
namespace Go.Eng
open Go

section
variable {P : Program} {E : En} {cx : Cx} {n : Nat} {g : Gh} {st : St} {a : Act} {w : World} {R : Type}

/-- What an operation that gives something leaves. -/
def Done (P : Program) (E : En) (n : Nat) (a : Act) (w : World) (o : Oper) (d : Tmp) (k : St → Option R) (r : R) : Prop :=
  ∃ g' st' w' u v, (execOp a.eval o).run P w = .ok (.value u) w' ∧ Rel E n g' st' a w' ∧ AVR g' st'.bx w' v [u] ∧ k (St.put st' (some d) v) = some r

theorem run_v {s : Sem Value} {u : Value} {w' : World} (h : s.run P w = .ok u w') : (do pure (Next.value (← s)) : Sem Next).run P w = .ok (.value u) w' := by
  simp [h]

theorem AV.all_noBox_of : ∀ {b : Nat} {v : AV}, v.all (noBox b) = v.all (noBox b) := rfl

theorem done_same (h : Rel E n g st a w) {o : Oper} {d : Tmp} {k : St → Option R} {r : R} {u : Value} {v : AV} (hr : (execOp a.eval o).run P w = .ok (.value u) w) (hv : AVR g st.bx w v [u]) (hk : k (St.put st (some d) v) = some r) :
    Done P E n a w o d k r := ⟨g, st, w, u, v, hr, h, hv, hk⟩

theorem move_sound (h : Rel E n g st a w) {strict : Bool} {t : Ty} {v : AV} {u : Value} {o : Oper} {d : Tmp} {k : St → Option R} {r : R} (hv : AVR g st.bx w v [u]) (hr : (execOp a.eval o).run P w = .ok (.value u) w)
    (hk : takeK st v t (fun st1 m x => newK strict st1 (kVal d) ⟨t, m, x, false⟩ fun st9 => k (st9.put (some d) (.place (kVal d) []))) = some r) : Done P E n a w o d k r := by
  obtain ⟨g1, st1, m, x, F, cs, hk1, hR, hL, hrd, hu, hH, _, _, _⟩ := takeK_sound hk h hv
  have hk2 := newK_ok hk1
  obtain ⟨g', k1, k2⟩ := new_val (b := kVal d) hR (kVal_ne d) hrd hH
  exact ⟨g', _, w, u, _, hr, k1, by rw [hu]; exact k2, hk2⟩

theorem assign_sound (h : Rel E n g st a w) {strict : Bool} {T0 : TypeId} {v : AV} {u : Value} {o : Oper} {d : Tmp} {k : St → Option R} {r : R} (hv : AVR g st.bx w v [u]) (hr : (execOp a.eval o).run P w = .ok (.value u) w)
    (hk : assignK cx st strict d T0 v k = some r) : Done P E n a w o d k r := by
  unfold assignK at hk
  dsimp only at hk
  split at hk
  · rename_i b
    cases hc : (Nat.beq b (kVal d) || !isV st b)
    · rw [hc] at hk
      simp only [cond_false] at hk
      split at hk
      · exact move_sound h hv hr hk
      · simp at hk
    · rw [hc] at hk
      exact done_same h hr hv hk
  · split at hk
    · exact move_sound h hv hr hk
    · simp at hk
  · split at hk
    · exact move_sound h hv hr hk
    · simp at hk
  · exact done_same h hr hv hk

theorem opO_sound (hc : CxOk P E cx) (h : Rel E n g st a w) : ∀ (x : Option Operand), AVO g st.bx w (opndO cx st x) (x.map a.eval)
  | none => trivial
  | some x => opnd_sound hc h x

theorem opK_sound (hc : CxOk P E cx) (h : Rel E n g st a w) {strict : Bool} {o : Oper} {d : Tmp} {k : St → Option R} {r : R} (hk : opK cx st strict d o.type o.op k = some r) : Done P E n a w o d k r := by
  obtain ⟨dst, op, T0, pos, after, guard⟩ := o
  dsimp only at hk
  cases op <;> simp only [opK] at hk <;> try (simp at hk; done)
  case move x => exact done_same h rfl (opnd_sound hc h x) hk
  case assign x => exact assign_sound h (opnd_sound hc h x) rfl hk
  case pick c x y =>
    split at hk
    · rename_i b hb
      have hcb := opnd_sound hc h c
      rw [hb] at hcb
      have hcv := bool_AVR hcb
      have hr : ∀ z, (if b then a.eval x else a.eval y) = z → (execOp a.eval ⟨dst, .pick c x y, T0, pos, after, guard⟩).run P w = .ok (.value z) w := by
        intro z hz
        subst hz
        simp only [execOp, hcv, asBool]
        cases b <;> simp
      cases b
      · exact done_same h (hr _ rfl) (opnd_sound hc h y) hk
      · exact done_same h (hr _ rfl) (opnd_sound hc h x) hk
    · simp at hk
  case alloc T =>
    split at hk
    · rename_i t hT
      have hk2 := newK_ok hk
      have hz := Rd_zero w g.S t T (hc.ty T t hT)
      obtain ⟨g', k1, k2⟩ := new_real h (b := kReal d) (T := T) (kReal_ne d) hz Held.none
      refine ⟨g', _, _, _, _, run_v ?_, k1, k2, hk2⟩
      simp only [Instr.alloc, Sem.run_bind, run_zeroV (hc.ty T t hT), Result.andThen_ok, run_newVar (P := P) (zeros_len t) (Rd_plain _ _ _ _ _ _ _ hz), Sem.run_pure]
    · simp at hk
  case box T x =>
    split at hk
    · rename_i t hT
      obtain ⟨g1, st1, m, v, F, cs, hk1, hR, hL, hrd, hu, hH, _, _, _⟩ := takeK_sound hk h (opnd_sound hc h x)
      have hk2 := newK_ok hk1
      obtain ⟨g', k1, k2⟩ := new_real hR (b := kReal d) (T := T) (kReal_ne d) hrd hH
      refine ⟨g', _, _, _, _, run_v ?_, k1, k2, hk2⟩
      simp only [Instr.box, hu, Sem.run_bind, run_newVar (P := P) (Rd_len _ _ _ _ _ _ _ hrd) (Rd_plain _ _ _ _ _ _ _ hrd), Result.andThen_ok, Sem.run_pure]
    · simp at hk
  case load T x =>
    split at hk
    · rename_i v hv
      obtain ⟨u, h1, h2⟩ := load_sound hc h hv (opnd_sound hc h x)
      exact done_same h (run_v h1) h2 hk
    · simp at hk
  case nilCheck x =>
    have hx := opnd_sound hc h x
    split at hk
    · rename_i b p hb
      rw [hb] at hx
      split at hk
      · rename_i x1 hx1
        obtain ⟨ho, hk⟩ := cond_none hk
        obtain ⟨t', cs', blk, off, hw, he⟩ := hx x1 hx1 ho
        simp only [List.cons.injEq, and_true] at he
        refine done_same h ?_ hx hk
        simp only [execOp, he]
        rfl
      · simp at hk
    · rename_i t u hb
      rw [hb] at hx
      obtain ⟨blk, off, he, _⟩ := id hx
      simp only [List.cons.injEq, and_true] at he
      refine done_same h ?_ hx hk
      simp only [execOp, he]
      rfl
    · simp at hk
  case fieldAddr T x f =>
    split at hk
    · rename_i v hv
      obtain ⟨u, h1, h2⟩ := fld_sound hc h hv (opnd_sound hc h x)
      exact done_same h (run_v h1) h2 hk
    · simp at hk
  case indexAddr T x i =>
    obtain ⟨v, u, h1, h2, h3⟩ := idx_sound hc h hk (opnd_sound hc h x) (opnd_sound hc h i)
    exact done_same h (run_v h2) h3 h1
  case index T x i =>
    obtain ⟨v, u, h1, h2, h3⟩ := index_sound hc hk (opnd_sound hc h x) (opnd_sound hc h i)
    exact done_same h (run_v h2) h3 h1
  case slice T x lo hi mx =>
    obtain ⟨v, u, h1, h2, h3⟩ := slice_sound hc h hk (opnd_sound hc h x) (opO_sound hc h lo) (opO_sound hc h hi) (opO_sound hc h mx)
    exact done_same h (run_v h2) h3 h1
  case binOp op T x y z =>
    obtain ⟨v, u, h1, h2, h3⟩ := bin_sound hc hk (opnd_sound hc h x) (opnd_sound hc h y)
    exact done_same h (run_v h2) h3 h1
  case unOp op T x =>
    have hx := opnd_sound hc h x
    split at hk
    · rename_i b hb
      rw [hb] at hx
      have := bool_AVR hx
      refine done_same h (u := .bool (!b)) ?_ (AVR_bool _) hk
      simp only [execOp, this]
      rfl
    · rename_i j z hb
      rw [hb] at hx
      have := int_AVR hx
      refine done_same h (u := .int j (j.wrap (0 - z))) ?_ (AVR_int _ _) hk
      simp only [execOp, this]
      rfl
    · simp at hk
  case convert S T x =>
    obtain ⟨v, u, h1, h2, h3⟩ := conv_sound hc h hk (opnd_sound hc h x)
    exact done_same h (run_v h2) h3 h1
  case makeSlice T l c =>
    have hl := opnd_sound hc h l
    have hcc := opnd_sound hc h c
    split at hk
    · rename_i e jl lv jc cv hT hlv hcv
      rw [hlv] at hl
      rw [hcv] at hcc
      have e1 := int_AVR hl
      have e2 := int_AVR hcc
      obtain ⟨hb, hk⟩ := cond_none hk
      simp only [Bool.and_eq_true, decide_eq_true_eq] at hb
      have hk2 := newK_ok hk
      obtain ⟨g', w', u, h1, h2, h3⟩ := make_sound hc h (jl := jl) (jc := jc) hT hb.1.1 hb.1.2 hb.2 (kVal d) (kVal_ne d)
      refine ⟨g', _, w', u, _, run_v (by rw [e1, e2]; exact h1), h2, h3, hk2⟩
    · simp at hk
  case buildSlice T m ps =>
    split at hk
    · rename_i e hT
      obtain ⟨g', st', w', u, h1, h2, h3, h4⟩ := buildSlice_sound hc h hT (kVal_ne d) hk
      exact ⟨g', st', w', u, _, run_v h2, h3, h4, h1⟩
    · simp at hk
  case build T ps =>
    split at hk
    · rename_i m e hT
      obtain ⟨he, hk⟩ := cond_none hk
      obtain ⟨g1, st1, d1, cs1, h1, h2, h3, h4⟩ := buildArr_sound hc h hT he hk
      exact ⟨g1, st1, w, _, .val (.arr m e) d1, run_v h2, h3, ⟨cs1, h4, rfl⟩, h1⟩
    · rename_i y z hT
      obtain ⟨g1, st1, m1, d1, F1, cs1, h1, h2, h3, h4, h5, h6, h7⟩ := build_sound hc h hT hk
      cases hf : Ty.flat (.pair y z)
      · rw [hf] at h1
        simp only [cond_false] at h1
        have hk2 := newK_ok h1
        obtain ⟨g', k1, k2⟩ := new_val (b := kVal d) h3 (kVal_ne d) h5 h6
        exact ⟨g', _, w, _, _, run_v h2, k1, k2, hk2⟩
      · rw [hf] at h1
        simp only [cond_true] at h1
        exact ⟨g1, st1, w, _, .val (.pair y z) d1, run_v h2, h3, ⟨cs1, Rd_flat w w g1.S g1.S _ m1 _ _ _ _ hf h7 h5, rfl⟩, h1⟩
    · simp at hk
  case field T x f =>
    have hx := opnd_sound hc h x
    split at hk
    · rename_i t u t' hb hT
      rw [hb] at hx
      obtain ⟨hck, hk⟩ := cond_none hk
      simp only [Bool.and_eq_true] at hck
      have := Ty.eq_of_beq hck.1
      subst this
      obtain ⟨v, u', h1, h2, h3⟩ := field_sound hc hT hck.2 hx
      rw [h1] at hk
      exact done_same h (run_v h2) h3 hk
    · simp at hk
  case extract x i =>
    have hx := opnd_sound hc h x
    split at hk
    · rename_i c hb
      rw [hb] at hx
      split at hk
      · rename_i v hv
        obtain ⟨ws, h1, h2⟩ := hx
        simp only [List.cons.injEq, and_true] at h1
        obtain ⟨u, h3, h4⟩ := tupGet_sound hv h2
        refine done_same h (run_v ?_) h4 hk
        simp only [Instr.extract, h1]
        rw [show (⟨ws⟩ : Array Value)[i]? = ws[i]? from by simp, h3]
        simp
      · simp at hk
    · simp at hk
  case makeFunc fn first cap =>
    split at hk
    · rename_i f
      obtain ⟨hb, hk⟩ := cond_none hk
      have hfi : first = #[] := by simpa using hb
      subst hfi
      refine done_same h (v := .fn f (tupOf (cap.toList.map (opnd cx st)))) (u := .func (.func f) #[] (cap.map a.eval)) (run_v ?_) ⟨(cap.toList.map a.eval), ?_, ?_⟩ hk
      · simp [Instr.makeFunc]
      · congr 2
        apply Array.ext'
        simp
      · refine AVR_tupOf (by simp) fun i v u h1 h2 => ?_
        simp only [List.getElem?_map, Option.map_eq_some_iff] at h1 h2
        obtain ⟨q, hq, rfl⟩ := h1
        obtain ⟨q2, hq2, rfl⟩ := h2
        rw [hq] at hq2
        simp only [Option.some.injEq] at hq2
        subst hq2
        exact opnd_sound hc h _
    · simp at hk

end
end Go.Eng
end

section
/- The engine: its operations are the model's: builtins. -/
namespace Go.Eng
open Go

section
variable {P : Program} {E : En} {cx : Cx} {n : Nat} {g : Gh} {st : St} {a : Act} {w : World} {R : Type}

theorem args_one {α β : Type} {as : Array α} {f : α → β} {v : β} (h : as.toList.map f = [v]) : ∃ x, as = #[x] ∧ f x = v := by
  obtain ⟨l⟩ := as
  cases l with
  | nil => simp at h
  | cons x l =>
    simp only [List.map_cons, List.cons.injEq, List.map_eq_nil_iff] at h
    obtain ⟨h1, h2⟩ := h
    subst h2
    exact ⟨x, rfl, h1⟩

theorem args_two {α β : Type} {as : Array α} {f : α → β} {v v2 : β} (h : as.toList.map f = [v, v2]) : ∃ x y, as = #[x, y] ∧ f x = v ∧ f y = v2 := by
  obtain ⟨l⟩ := as
  rcases l with _ | ⟨x, _ | ⟨y, _ | ⟨z, l⟩⟩⟩
  · simp at h
  · simp at h
  · simp only [List.map_cons, List.map_nil, List.cons.injEq, and_true] at h
    exact ⟨x, y, rfl, h.1, h.2⟩
  · simp at h

theorem arr_one {α : Type} {as : Array α} {v : α} (h : as.toList = [v]) : as = #[v] := by
  obtain ⟨l⟩ := as
  simp only at h
  subst h
  rfl

theorem run_blt {o : Oper} {c : Call} {b : Builtin} (ho : o.op = .call c) (hb : c.callee = .builtin b) :
    ∃ consts, (execOp a.eval o).run P w = (builtin b c.argTypes o.type consts (c.args.map a.eval)).run P w := by
  refine ⟨c.args.map fun | .const _ => true | _ => false, ?_⟩
  simp only [execOp, ho, resolve, hb, invoke, Sem.run_bind, Sem.run_pure, Result.andThen_ok]
  rfl

theorem bltK_sound (hc : CxOk P E cx) (h : Rel E n g st a w) {strict : Bool} {o : Oper} {c : Call} {b : Builtin} (ho : o.op = .call c) (hb : c.callee = .builtin b) {d : Tmp} {k : St → Option R} {r : R}
    (hk : bltK cx st strict d b (c.args.toList.map (opnd cx st)) c.argTypes.toList k = some r) : Done P E n a w o d k r := by
  obtain ⟨consts, hrun⟩ := run_blt (P := P) (a := a) (w := w) ho hb
  cases b <;> simp only [bltK] at hk <;> try (simp at hk; done)
  case len =>
    split at hk
    · rename_i v T hv hT
      obtain ⟨x, hx, rfl⟩ := args_one hv
      have hT := arr_one hT
      split at hk
      · rename_i m hm
        refine done_same h (u := .int .i64 m) ?_ (AVR_int _ _) hk
        rw [hrun, hx, hT]
        simp only [builtin, List.map_toArray, List.map_cons, List.map_nil]
        exact run_v (len_sound hc h hm (opnd_sound hc h x))
      · simp at hk
    · simp at hk
  case append =>
    split at hk
    · rename_i x y T T2 hv hT
      obtain ⟨x, y, hx, rfl, rfl⟩ := args_two hv
      have hTT : c.argTypes = #[T, T2] := by
        apply Array.ext'
        rw [hT]
      split at hk
      · rename_i e' hT2
        obtain ⟨g', st', w', u', h1, h2, h3, h4⟩ := append_sound (ty := o.type) hc h hT2 hk (opnd_sound hc h x) (opnd_sound hc h y)
        refine ⟨g', st', w', u', _, ?_, h3, h4, h1⟩
        rw [hrun, hx, hTT]
        simp only [builtin, List.map_toArray, List.map_cons, List.map_nil]
        exact run_v h2
      · simp at hk
    · simp at hk
  case min =>
    split at hk
    · rename_i j p j' q hv
      obtain ⟨x, y, hx, hxv, hyv⟩ := args_two hv
      obtain ⟨hj, hk⟩ := cond_none hk
      have h1 := opnd_sound hc h x
      have h2 := opnd_sound hc h y
      rw [hxv] at h1
      rw [hyv] at h2
      have e1 := int_AVR h1
      have e2 := int_AVR h2
      refine done_same h ?_ (AVR_int _ _) hk
      rw [hrun, hx]
      simp only [builtin]
      refine run_v ?_
      change Int at p
      change Int at q
      simp only [Builtin.min_, List.map_toArray, List.map_cons, List.map_nil, e1, e2, List.foldlM_cons, List.foldlM_nil, Builtin.min2]
      by_cases hpq : q < p <;> simp [hpq]
    · simp at hk
  case max =>
    split at hk
    · rename_i j p j' q hv
      obtain ⟨x, y, hx, hxv, hyv⟩ := args_two hv
      obtain ⟨hj, hk⟩ := cond_none hk
      have h1 := opnd_sound hc h x
      have h2 := opnd_sound hc h y
      rw [hxv] at h1
      rw [hyv] at h2
      have e1 := int_AVR h1
      have e2 := int_AVR h2
      refine done_same h ?_ (AVR_int _ _) hk
      rw [hrun, hx]
      simp only [builtin]
      refine run_v ?_
      change Int at p
      change Int at q
      simp only [Builtin.max_, List.map_toArray, List.map_cons, List.map_nil, e1, e2, List.foldlM_cons, List.foldlM_nil, Builtin.max2]
      by_cases hpq : q > p <;> simp [hpq]
    · simp at hk

end
end Go.Eng
end

section
/- The engine: what a function is known to do; what is handed over at a call. -/
namespace Go.Eng
open Go

theorem Md.eq_of_beq : ∀ {a b : Md}, Md.beq a b = true → a = b
  | .shr, b, h => by cases b <;> simp [Md.beq] at h <;> rfl
  | .own, b, h => by cases b <;> simp [Md.beq] at h <;> rfl
  | .gone, b, h => by cases b <;> simp [Md.beq] at h <;> rfl
  | .top, b, h => by cases b <;> simp [Md.beq] at h <;> rfl
  | .ix i m, b, h => by cases b <;> simp [Md.beq] at h
  | .pair a c, b, h => by
    cases b <;> simp only [Md.beq] at h <;> (try (simp at h; done))
    simp only [Bool.and_eq_true] at h
    rw [Md.eq_of_beq h.1, Md.eq_of_beq h.2]

theorem mdOk_Rd {w : World} {S : Nat → Prop} : ∀ {t : Ty} {m m2 : Md} {F : Nat → Prop} {cs : List Value} {d : t.den}, mdOk t m m2 = true → full t m = true → Rd w S t m F cs d → Rd w S t m2 F cs d ∧ full t m2 = true := by
  have key : ∀ {t : Ty} {m m2 : Md} {F : Nat → Prop} {cs : List Value} {d : t.den}, (Md.beq m m2 || (t.flat && full t m && full t m2)) = true → full t m = true → Rd w S t m F cs d → Rd w S t m2 F cs d ∧ full t m2 = true := by
    intro t m m2 F cs d h hf hr
    simp only [Bool.or_eq_true, Bool.and_eq_true] at h
    rcases h with h | h
    · rw [← Md.eq_of_beq h]; exact ⟨hr, hf⟩
    · exact ⟨Rd_flatTo w S t m2 F cs d h.1.1 h.2 (Rd_flat w w S S t m F none' cs d h.1.1 h.1.2 hr), h.2⟩
  intro t
  induction t with
  | pair a b iha ihb =>
    intro m m2 F cs d h hf hr
    simp only [mdOk, Bool.and_eq_true] at h
    simp only [full, Bool.and_eq_true] at hf ⊢
    simp only [Rd] at hr ⊢
    obtain ⟨F1, F2, h1, h2, h3, r1, r2⟩ := hr
    obtain ⟨k1, k2⟩ := iha h.1 hf.1 r1
    obtain ⟨k3, k4⟩ := ihb h.2 hf.2 r2
    exact ⟨⟨F1, F2, h1, h2, h3, k1, k3⟩, k2, k4⟩
  | unit | int | bool | str | slice | arr | iface => intro m m2 F cs d h hf hr; exact key (by simpa only [mdOk] using h) hf hr

/-- The captured variables, behind their pointers. -/
inductive Sps (w : World) (S : Nat → Prop) : List PK → List Value → List Dat → Prop where
  | nil : Sps w S [] [] []
  | cons {t blk off d ks us ds} : S blk → Rd w S t .shr none' (cellsAt w blk off t.size) d → Sps w S ks us ds → Sps w S (.sp t :: ks) (.pointer (some ⟨blk, off, none⟩) :: us) (⟨t, d⟩ :: ds)

/-- The arguments of a call; the blocks that each hands over; the places that may be written. -/
inductive ArgsOk (w : World) (S : Nat → Prop) : List PK → List Value → List Dat → List (Nat → Prop) → List (Nat × Nat × Nat) → Prop where
  | nil : ArgsOk w S [] [] [] [] []
  | bor {t cs d ks us ds Fs Ps} : Rd w S t .shr none' cs d → ArgsOk w S ks us ds Fs Ps → ArgsOk w S (.bor t :: ks) (toV t cs :: us) (⟨t, d⟩ :: ds) Fs Ps
  | sp {t blk off d ks us ds Fs Ps} : S blk → Rd w S t .shr none' (cellsAt w blk off t.size) d → ArgsOk w S ks us ds Fs Ps → ArgsOk w S (.sp t :: ks) (.pointer (some ⟨blk, off, none⟩) :: us) (⟨t, d⟩ :: ds) Fs Ps
  | own {t m F cs d ks us ds Fs Ps} : Rd w S t m F cs d → full t m = true → ArgsOk w S ks us ds Fs Ps → ArgsOk w S (.own t m :: ks) (toV t cs :: us) (⟨t, d⟩ :: ds) (F :: Fs) Ps
  | ptr {t m F cs d blk off ks us ds Fs Ps} : Rd w S t m F cs d → full t m = true → Loc w (blk, off) cs → ArgsOk w S ks us ds Fs Ps →
      ArgsOk w S (.ptr t m :: ks) (.pointer (some ⟨blk, off, none⟩) :: us) (⟨t, d⟩ :: ds) (F :: Fs) ((blk, off, t.size) :: Ps)
  | fnc {f kc ws dc ks us ds Fs Ps} : Sps w S kc ws dc → ArgsOk w S ks us ds Fs Ps → ArgsOk w S (.fnc f kc :: ks) (.func (.func f) #[] ⟨ws⟩ :: us) (dc ++ ds) Fs Ps

structure Apart (w : World) (S : Nat → Prop) (Fs : List (Nat → Prop)) (Ps : List (Nat × Nat × Nat)) : Prop where
  FF : Fs.Pairwise fun F G => ∀ y, F y → ¬ G y
  FS : ∀ F ∈ Fs, ∀ y, F y → ¬ S y
  Fb : ∀ F ∈ Fs, ∀ y, F y → y < w.heap.size
  FP : ∀ F ∈ Fs, ∀ q ∈ Ps, ¬ F q.1
  PS : ∀ q ∈ Ps, ¬ S q.1
  PP : Ps.Pairwise fun q q' => q.1 ≠ q'.1
  Sb : ∀ y, S y → y < w.heap.size

def some' (Fs : List (Nat → Prop)) (y : Nat) : Prop := ∃ F ∈ Fs, F y

/-- What is handed back. -/
inductive RetsOk (w : World) (S : Nat → Prop) : List (Ty × Md) → List Value → List Dat → List (Nat → Prop) → Prop where
  | nil : RetsOk w S [] [] [] []
  | cons {t m F cs d ks us ds Fs} : Rd w S t m F cs d → full t m = true → RetsOk w S ks us ds Fs → RetsOk w S ((t, m) :: ks) (toV t cs :: us) (⟨t, d⟩ :: ds) (F :: Fs)

/-- What lies behind the pointers then. -/
inductive OutsOk (w : World) (S : Nat → Prop) : List (Nat × Nat × Nat) → List (Ty × Md) → List Dat → List (Nat → Prop) → Prop where
  | nil : OutsOk w S [] [] [] []
  | cons {t m F cs d blk off Ps ks ds Fs} : Rd w S t m F cs d → full t m = true → Loc w (blk, off) cs → OutsOk w S Ps ks ds Fs → OutsOk w S ((blk, off, t.size) :: Ps) ((t, m) :: ks) (⟨t, d⟩ :: ds) (F :: Fs)

def resV : List Value → Value
  | [v] => v
  | l => .tuple ⟨l⟩

/-- What the call's value is: the results; or, where so said, a pointer to a new variable that holds the one result. -/
def ResIs (pr : Bool) (w w' : World) (S' : Nat → Prop) (FF : List (Nat → Prop)) (vs : List Value) (v : Value) : Prop :=
  match pr with
  | false => v = resV vs
  | true => ∃ t cs blk off, vs = [toV t cs] ∧ cs.length = t.size ∧ (∀ x ∈ cs, plain x = true) ∧ v = .pointer (some ⟨blk, off, none⟩) ∧ Loc w' (blk, off) cs ∧ w.heap.size ≤ blk ∧ ¬ S' blk ∧ ∀ F ∈ FF, ¬ F blk

/-- What a call leaves. -/
def Post (G : Nat → Option Dat) (ct : Ct) (w : World) (S : Nat → Prop) (Fs : List (Nat → Prop)) (Ps : List (Nat × Nat × Nat)) (rs : List Dat) (v : Value) (w' : World) : Prop :=
  ∃ (S' : Nat → Prop) (vs : List Value) (rr ro : List Dat) (Rs Os : List (Nat → Prop)), ResIs ct.pr w w' S' (Rs ++ Os) vs v ∧ rs = rr ++ ro ∧ RetsOk w' S' ct.rs vs rr Rs ∧ OutsOk w' S' Ps ct.os ro Os ∧
    (Rs ++ Os).Pairwise (fun F H => ∀ y, F y → ¬ H y) ∧ (∀ F ∈ Rs ++ Os, ∀ y, F y → ¬ S' y ∧ y < w'.heap.size ∧ (some' Fs y ∨ w.heap.size ≤ y)) ∧
    (∀ y, S y → S' y) ∧ (∀ y, S' y → (S y ∨ some' Fs y ∨ w.heap.size ≤ y) ∧ y < w'.heap.size) ∧ Fr ⟨w, S, some' Fs, Ps, G, fun _ => none⟩ w'

/-- A function does what its contract says. -/
def Holds (P : Program) (G : Nat → Option Dat) (f : FuncId) (ct : Ct) : Prop :=
  ∀ (w : World) (S : Nat → Prop) (args : List Value) (ds : List Dat) (Fs : List (Nat → Prop)) (Ps : List (Nat × Nat × Nat)) (x : Tup (ct.rs ++ ct.os)),
    ArgsOk w S ct.ps args ds Fs Ps → Apart w S Fs Ps → GlOk ⟨w, S, some' Fs, Ps, G, fun _ => none⟩ S w → ct.M ds = some x → Calls P f ⟨args⟩ w fun e w' => ∃ v, e = .returned v ∧ Post G ct w S Fs Ps (Tup.list _ x) v w'

def Enters (P : Program) (f : FuncId) : Prop := ∃ fn c, P.funcs[f]? = some fn ∧ fn.body = some c ∧ fn.name ≠ "runtime.NumGoroutine"

section
variable {P : Program} {E : En} {cx : Cx} {n : Nat} {g : Gh} {st : St} {a : Act} {w : World} {R : Type}


theorem takeK_place {b : Nat} {p : Path} {t : Ty} {k : St → Md → t.den → Option R} {r : R} (hk : takeK st (.place b p) t k = some r) : ∃ x, look st.bx b = some x ∧ okR x.t x.m p = true ∧ tyAt x.t p = some t ∧ (t.flat = true ∨ okP x.t x.m p = true) := by
  simp only [takeK] at hk
  split at hk
  · rename_i x hx
    split at hk
    · rename_i d hd
      have hd := as_bind hd
      have hty : ∀ (p : Path) (t0 : Ty) (d0 : t0.den) (u : Dat), getD t0 p d0 = some u → tyAt t0 p = some u.1 := by
        intro p
        induction p with
        | nil => intro t0 d0 u hu; simp [getD] at hu; subst hu; cases t0 <;> rfl
        | cons s p ih =>
          intro t0 d0 u hu
          cases t0 <;> cases s <;> simp only [getD] at hu <;> (try (simp at hu; done)) <;> simp only [tyAt] <;> exact ih _ _ _ hu
      refine ⟨x, hx, ?_, hty _ _ _ _ hd, ?_⟩ <;> cases hf : t.flat <;> rw [hf] at hk <;> simp only [cond_false, cond_true] at hk <;> have hc := (cond_none hk).1 <;> simp only [Bool.and_eq_true] at hc
      · exact okP_okR _ _ _ hc.1
      · exact hc.1
      · exact .inr hc.1
      · exact .inl rfl
    · simp at hk
  · simp at hk

end
end Go.Eng
end

section
/- The engine: the arguments of a call. -/
namespace Go.Eng
open Go

section
variable {P : Program} {E : En} {cx : Cx} {n : Nat} {g : Gh} {st : St} {a : Act} {w : World} {R : Type}

/-- What lies at a place is handed over, the place itself with it. -/
theorem takePl_sound {b : Nat} {p : Path} {t t' : Ty} {k : St → Md → t.den → Option R} {r : R} (hk : takeK st (.place b p) t k = some r) (h : Rel E n g st a w) {x : Bx} (hx : look st.bx b = some x) {cs : List Value} {l : Option (Nat × Nat)}
    (hw : walk w x.t p (g.cs b) (locOf g b x) = some (t', cs, l)) (ho : okP x.t x.m p = true) :
    t' = t ∧ ∃ g1 st1 m d F, k st1 m d = some r ∧ Rel E n g1 st1 a w ∧ Less g st g1 st1 ∧ Rd w g1.S t m F cs d ∧ Held E g1 st1 w F ∧ (∀ y, F y → g.F b y) ∧ full t m = true ∧ (∀ v vs, AVR g st.bx w v vs → AVR g1 st1.bx w v vs) ∧
      (∀ b' o, l = some (b', o) → ¬ F b' ∧ ((viaSl x.t p = true ∧ g.F b b') ∨ (viaSl x.t p = false ∧ ∃ o2, locOf g b x = some (b', o2)))) := by
  simp only [takeK, hx] at hk
  split at hk
  · rename_i d hd
    have hd := as_bind hd
    obtain ⟨d0, F0, hF0, hg0, hr0, hinfo, _⟩ := write_walk w g.S p x.t x.m (g.F b) (g.cs b) x.d (locOf g b x) t' cs l (h.rd b x hx) hw ho (locOf_ne h hx)
    rw [hd] at hg0
    simp only [Option.some.injEq, Sigma.mk.injEq] at hg0
    obtain ⟨rfl, hg0⟩ := hg0
    simp only [heq_eq_eq] at hg0
    subst hg0
    refine ⟨rfl, ?_⟩
    cases hf : t.flat
    · rw [hf] at hk
      simp only [cond_false] at hk
      obtain ⟨hc, hk⟩ := cond_none hk
      simp only [Bool.and_eq_true] at hc
      obtain ⟨d', F, hg, hr, hF, hR, hi⟩ := h.take hx hw hc.1 hf
      rw [hd] at hg
      simp only [Option.some.injEq, Sigma.mk.injEq, heq_eq_eq, true_and] at hg
      subst hg
      exact ⟨_, _, _, _, F, hk, hR, take_less hx _ F, hr, take_held h hx hF, hF, hc.2, AVR_take hx hc.1 F, hi⟩
    · rw [hf] at hk
      simp only [cond_true] at hk
      obtain ⟨hc, hk⟩ := cond_none hk
      simp only [Bool.and_eq_true] at hc
      obtain ⟨d', F', m', hg, _, hfu, hr⟩ := read_walk w g.S p x.t x.m (g.F b) (g.cs b) x.d (locOf g b x) t cs _ (h.rd b x hx) hw hc.1
      rw [hd] at hg
      simp only [Option.some.injEq, Sigma.mk.injEq, heq_eq_eq, true_and] at hg
      subst hg
      exact ⟨g, st, .shr, d, none', hk, h, Less.refl _ _, Rd_flat w w g.S g.S t m' _ _ _ _ hf (hfu hc.2) hr, Held.none, fun _ hy => hy.elim, full_shr t, fun _ _ h => h,
        fun b' o hl => ⟨fun hh => hh, (hinfo b' o hl).2⟩⟩
  · simp at hk

/-- What was handed over, and where it lay: said of the state at the call's beginning. -/
inductive Took (E : En) (w : World) (g0 : Gh) (bx0 : List (Nat × Bx)) (g : Gh) (st : St) : List PK → List AV → List Value → List (Option Dat) → List (Nat × Path) → List (Nat → Prop) → List (Nat × Nat × Nat) → Prop where
  | nil : Took E w g0 bx0 g st [] [] [] [] [] [] []
  | bor {t v u ks vs us l o Fs Ps} : AVR g st.bx w v [u] → Took E w g0 bx0 g st ks vs us l o Fs Ps → Took E w g0 bx0 g st (.bor t :: ks) (v :: vs) (u :: us) (none :: l) o Fs Ps
  | sp {t v u ks vs us l o Fs Ps} : AVR g st.bx w v [u] → Took E w g0 bx0 g st ks vs us l o Fs Ps → Took E w g0 bx0 g st (.sp t :: ks) (v :: vs) (u :: us) (none :: l) o Fs Ps
  | fnc {f kc v u ks vs us l o Fs Ps} : AVR g st.bx w v [u] → Took E w g0 bx0 g st ks vs us l o Fs Ps → Took E w g0 bx0 g st (.fnc f kc :: ks) (v :: vs) (u :: us) (none :: l) o Fs Ps
  | own {t m v F cs d ks vs us l o Fs Ps} : Rd w g.S t m F cs d → full t m = true → Held E g st w F → (∀ y, F y → ∃ b x, look bx0 b = some x ∧ g0.F b y ∧ boxOf v = some b ∧ t.flat = false) → (∀ F' ∈ Fs, ∀ y, F y → ¬ F' y) →
      Took E w g0 bx0 g st ks vs us l o Fs Ps → Took E w g0 bx0 g st (.own t m :: ks) (v :: vs) (toV t cs :: us) (some ⟨t, d⟩ :: l) o (F :: Fs) Ps
  | ptr {t m b p x x0 F cs d blk off ks vs us l o Fs Ps} : Rd w g.S t m F cs d → full t m = true → Held E g st w F → (∀ y, F y → g0.F b y) → (∀ F' ∈ Fs, ∀ y, F y → ¬ F' y) → look bx0 b = some x0 → look st.bx b = some x → x.t = x0.t →
      walk w x.t p (g.cs b) (locOf g b x) = some (t, cs, some (blk, off)) → Loc w (blk, off) cs → ¬ F blk → ((viaSl x.t p = true ∧ g0.F b blk) ∨ (viaSl x.t p = false ∧ x0.r = true ∧ (g0.loc b).1 = blk)) →
      Took E w g0 bx0 g st ks vs us l o Fs Ps →
      Took E w g0 bx0 g st (.ptr t m :: ks) (.ptr b p :: vs) (.pointer (some ⟨blk, off, none⟩) :: us) (some ⟨t, d⟩ :: l) ((b, p) :: o) (F :: Fs) ((blk, off, t.size) :: Ps)

theorem takeArgs_sound {g0 : Gh} {bx0 : List (Nat × Bx)} : ∀ {ks : List PK} {vs : List AV} {us : List Value} {g : Gh} {st : St} {k : St → List (Option Dat) → List (Nat × Path) → Option R} {r : R}, takeArgs st ks vs k = some r → Rel E n g st a w → vs.length = us.length →
    (∀ (i : Nat) (v : AV) (u : Value), vs[i]? = some v → us[i]? = some u → AVR g st.bx w v [u]) → (∀ b x, look st.bx b = some x → ∃ x0, look bx0 b = some x0 ∧ x.t = x0.t ∧ x.r = x0.r) → (∀ b y, g.F b y → g0.F b y) → g.loc = g0.loc →
    ∃ g1 st1 l o Fs Ps, k st1 l o = some r ∧ Rel E n g1 st1 a w ∧ Less g st g1 st1 ∧ (∀ v vs, AVR g st.bx w v vs → AVR g1 st1.bx w v vs) ∧ Took E w g0 bx0 g1 st1 ks vs us l o Fs Ps ∧
      (∀ F ∈ Fs, ∀ y, F y → ∃ b x, look st.bx b = some x ∧ g.F b y)
  | [], vs, us, g, st, k, r, hk, h, hl, hv, hb0, hF0, hl0 => by
    cases vs with
    | nil =>
      cases us with
      | nil => exact ⟨g, st, [], [], [], [], hk, h, Less.refl _ _, fun _ _ h => h, .nil, by simp⟩
      | cons u us => simp at hl
    | cons v vs => simp [takeArgs] at hk
  | pk :: ks, [], us, g, st, k, r, hk, h, hl, hv, hb0, hF0, hl0 => by cases pk <;> simp [takeArgs] at hk
  | pk :: ks, v :: vs, [], g, st, k, r, hk, h, hl, hv, hb0, hF0, hl0 => by simp at hl
  | .bor t :: ks, v :: vs, u :: us, g, st, k, r, hk, h, hl, hv, hb0, hF0, hl0 => by
    simp only [takeArgs] at hk
    obtain ⟨g1, st1, l, o, Fs, Ps, h1, h2, h3, h4, h5, h6⟩ := takeArgs_sound hk h (by simpa using hl) (fun i v' u' e1 e2 => hv (i + 1) v' u' (by simpa using e1) (by simpa using e2)) hb0 hF0 hl0
    exact ⟨g1, st1, _, o, Fs, Ps, h1, h2, h3, h4, .bor (h4 _ _ (hv 0 v u rfl rfl)) h5, h6⟩
  | .sp t :: ks, v :: vs, u :: us, g, st, k, r, hk, h, hl, hv, hb0, hF0, hl0 => by
    simp only [takeArgs] at hk
    obtain ⟨g1, st1, l, o, Fs, Ps, h1, h2, h3, h4, h5, h6⟩ := takeArgs_sound hk h (by simpa using hl) (fun i v' u' e1 e2 => hv (i + 1) v' u' (by simpa using e1) (by simpa using e2)) hb0 hF0 hl0
    exact ⟨g1, st1, _, o, Fs, Ps, h1, h2, h3, h4, .sp (h4 _ _ (hv 0 v u rfl rfl)) h5, h6⟩
  | .fnc f kc :: ks, v :: vs, u :: us, g, st, k, r, hk, h, hl, hv, hb0, hF0, hl0 => by
    simp only [takeArgs] at hk
    obtain ⟨g1, st1, l, o, Fs, Ps, h1, h2, h3, h4, h5, h6⟩ := takeArgs_sound hk h (by simpa using hl) (fun i v' u' e1 e2 => hv (i + 1) v' u' (by simpa using e1) (by simpa using e2)) hb0 hF0 hl0
    exact ⟨g1, st1, _, o, Fs, Ps, h1, h2, h3, h4, .fnc (h4 _ _ (hv 0 v u rfl rfl)) h5, h6⟩
  | .own t m :: ks, v :: vs, u :: us, g, st, k, r, hk, h, hl, hv, hb0, hF0, hl0 => by
    simp only [takeArgs] at hk
    obtain ⟨g1, st1, m1, d, F, cs, hk1, hR1, hL1, hrd, hu, hH, hF, hfu, hkeep⟩ := takeK_sound hk h (hv 0 v u rfl rfl)
    dsimp only at hk1
    obtain ⟨hmd, hk1⟩ := cond_none hk1
    obtain ⟨hrd, hfm⟩ := mdOk_Rd hmd hfu hrd
    obtain ⟨g2, st2, l, o, Fs, Ps, h1, h2, h3, h4, h5, h6⟩ := takeArgs_sound hk1 hR1 (by simpa using hl) (fun i v' u' e1 e2 => hkeep _ _ (hv (i + 1) v' u' (by simpa using e1) (by simpa using e2)))
      (fun b x hx => by obtain ⟨x1, k1, k2, k3⟩ := hL1.bx b x hx; obtain ⟨x0, j1, j2, j3⟩ := hb0 b x1 k1; exact ⟨x0, j1, k2.trans j2, k3.trans j3⟩) (fun b y hy => hF0 b y (hL1.F b y hy)) (hL1.loc.trans hl0)
    subst hu
    refine ⟨g2, st2, _, o, F :: Fs, Ps, h1, h2, hL1.trans h3, fun v vs hh => h4 _ _ (hkeep _ _ hh), .own (by rw [h3.S]; exact hrd) hfm (hH.less h3) ?_ ?_ h5, ?_⟩
    · intro y hy
      obtain ⟨b, x, e1, e2, e3, e4⟩ := hF y hy
      obtain ⟨x0, j1, _⟩ := hb0 b x e1
      exact ⟨b, x0, j1, hF0 b y e2, e3, e4⟩
    · intro F' hF' y hy hy'
      obtain ⟨b, x, e1, e2⟩ := h6 F' hF' y hy'
      exact hH.dF b x y e1 e2 hy
    · intro F' hF' y hy
      rcases List.mem_cons.1 hF' with rfl | hF'
      · obtain ⟨b, x, e1, e2, _⟩ := hF y hy
        exact ⟨b, x, e1, e2⟩
      · obtain ⟨b, x, e1, e2⟩ := h6 F' hF' y hy
        obtain ⟨x1, j1, _⟩ := hL1.bx b x e1
        exact ⟨b, x1, j1, hL1.F b y e2⟩
  | .ptr t m :: ks, v :: vs, u :: us, g, st, k, r, hk, h, hl, hv, hb0, hF0, hl0 => by
    cases v with
    | ptr b p =>
      simp only [takeArgs] at hk
      split at hk
      · rename_i x hx
        obtain ⟨ho, hk⟩ := cond_none hk
        obtain ⟨t', cs, blk, off, hw, he⟩ := hv 0 _ u rfl rfl x hx (okP_okR _ _ _ ho)
        simp only [List.cons.injEq, and_true] at he
        subst he
        have hLoc := h.loc hx hw (okP_okR _ _ _ ho) _ rfl
        obtain ⟨rfl, g1, st1, m1, d, F, hk1, hR1, hL1, hrd, hH, hF, hfu, hkeep, hinfo⟩ := takePl_sound hk h hx hw ho
        obtain ⟨hmd, hk1⟩ := cond_none hk1
        obtain ⟨hrd, hfm⟩ := mdOk_Rd hmd hfu hrd
        obtain ⟨g2, st2, l, o, Fs, Ps, h1, h2, h3, h4, h5, h6⟩ := takeArgs_sound hk1 hR1 (by simpa using hl) (fun i v' u' e1 e2 => hkeep _ _ (hv (i + 1) v' u' (by simpa using e1) (by simpa using e2)))
          (fun b x hx => by obtain ⟨x1, k1, k2, k3⟩ := hL1.bx b x hx; obtain ⟨x0, j1, j2, j3⟩ := hb0 b x1 k1; exact ⟨x0, j1, k2.trans j2, k3.trans j3⟩) (fun b y hy => hF0 b y (hL1.F b y hy)) (hL1.loc.trans hl0)
        obtain ⟨hnF, hvia⟩ := hinfo blk off rfl
        obtain ⟨x0, j1, j2, j3⟩ := hb0 b x hx
        have hLL := hL1.trans h3
        obtain ⟨x2, hx2⟩ := hLL.kp b x hx
        obtain ⟨x', i1, i2, i3⟩ := hLL.bx b x2 hx2
        rw [hx] at i1
        simp only [Option.some.injEq] at i1
        subst i1
        have hlocOf : locOf g2 b x2 = locOf g b x := by simp only [locOf, i3, hLL.loc]
        refine ⟨g2, st2, _, (b, p) :: o, F :: Fs, (blk, off, t'.size) :: Ps, h1, h2, hLL, fun v vs hh => h4 _ _ (hkeep _ _ hh),
          .ptr (x := x2) (x0 := x0) (by rw [h3.S]; exact hrd) hfm (hH.less h3) (fun y hy => hF0 b y (hF y hy)) ?_ j1 hx2 (i2.trans j2) (by rw [i2, hLL.cs, hlocOf]; exact hw) hLoc hnF ?_ h5, ?_⟩
        · intro F' hF' y hy hy'
          obtain ⟨b', x'', e1, e2⟩ := h6 F' hF' y hy'
          exact hH.dF b' x'' y e1 e2 hy
        · rw [i2]
          rcases hvia with ⟨hv1, hv2⟩ | ⟨hv1, o2, hv2⟩
          · exact .inl ⟨hv1, hF0 b _ hv2⟩
          · obtain ⟨q1, q2⟩ := locOf_some hv2
            exact .inr ⟨hv1, j3 ▸ q1, by rw [← hl0, q2]⟩
        · intro F' hF' y hy
          rcases List.mem_cons.1 hF' with rfl | hF'
          · exact ⟨b, x, hx, hF y hy⟩
          · obtain ⟨b', x'', e1, e2⟩ := h6 F' hF' y hy
            obtain ⟨x1, j1, _⟩ := hL1.bx b' x'' e1
            exact ⟨b', x1, j1, hL1.F b' y e2⟩
      · simp at hk
    | _ => simp [takeArgs] at hk

end
end Go.Eng
end
