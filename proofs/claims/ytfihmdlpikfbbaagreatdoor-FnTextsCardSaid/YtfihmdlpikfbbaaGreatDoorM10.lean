/- Part 10 of 20 of a claim; what is proved, and under which conditions, stands in the last part. Here: EngAW, EngAM, EngAN, EngAO, EngAP, EngAQ. -/
import Derived.Test.YtfihmdlpikfbbaaGreatDoorM09
set_option linter.unusedVariables false
set_option linter.unusedSimpArgs false
set_option linter.unusedSectionVars false
section
/- The engine, operations in an open order: all orders. -/
namespace Go.Eng
open Go

section
variable {cx : Cx} {all : List Oper} {A : List Nat} {R : Type}

theorem runD_log {k : St → Option R} : ∀ {L : List (Nat × Oper)} {log log' : List Fp} {st : St}, (∀ fp, okLog A fp log = okLog A fp log') → runD cx all A log L st k = runD cx all A log' L st k
  | [], log, log', st, h => rfl
  | x :: L, log, log', st, h => by
    simp only [runD]
    congr 1
    funext st' fp
    rw [h fp]
    congr 1
    exact runD_log (fun fp' => by simp only [okLog, h fp'])

theorem runD_front {k : St → Option R} {r : R} {i : Nat} {o : Oper} {L2 : List (Nat × Oper)} : ∀ {L1 : List (Nat × Oper)} {log : List Fp} {st : St}, Srt st.tm → Srt st.bx → (∀ x ∈ L1, ancB A x.1 i = false) →
    runD cx all A log (L1 ++ (i, o) :: L2) st k = some r → runD cx all A log ((i, o) :: (L1 ++ L2)) st k = some r
  | [], log, st, h0, h0', ha, hk => hk
  | x :: L1, log, st, h0, h0', ha, hk => by
    simp only [List.cons_append, runD] at hk
    obtain ⟨fp1, τ1, β1, d1⟩ := stepD_did h0 h0' hk
    obtain ⟨st1, e1, K1⟩ := d1.self h0 h0'
    rw [e1] at hk
    obtain ⟨hlog1, hk⟩ := cond_none hk
    have hk := runD_front K1.srtT K1.srtB (fun y hy => ha y (by simp [hy])) hk
    simp only [runD] at hk
    obtain ⟨fp2, τ2, β2, d2⟩ := stepD_did K1.srtT K1.srtB hk
    obtain ⟨st2, e2, K2⟩ := d2.self K1.srtT K1.srtB
    rw [e2] at hk
    obtain ⟨hlog2, hk⟩ := cond_none hk
    simp only [okLog, d1.ii, d2.ii, ha x (by simp), Bool.false_or, Bool.and_eq_true] at hlog2
    have hA := indep_apt hlog2.1
    obtain ⟨sA, eA, eB⟩ := swap_did h0 h0' d1 K1 d2 K2 hA
    have hind : indep fp2 fp1 = true := by
      have := hlog2.1
      simp only [indep, Bool.and_eq_true, Bool.or_eq_true, Bool.not_eq_true'] at this ⊢
      refine ⟨⟨⟨this.1.1.2, this.1.1.1⟩, disjN_iff.2 hA.symm.wt⟩, ?_⟩
      rcases this.2 with k | k
      · exact .inl ⟨k.2, k.1⟩
      · exact .inr (disjN_iff.2 fun y hy hy' => disjN_iff.1 k y hy' hy)
    simp only [List.cons_append, runD]
    rw [eA, hlog2.2]
    simp only [cond_true]
    rw [eB]
    simp only [okLog, hind, hlog1, Bool.or_true, Bool.and_self, cond_true]
    rw [runD_log (log' := fp2 :: fp1 :: log)]
    · exact hk
    · intro fp
      simp only [okLog]
      cases (ancB A fp1.i fp.i || indep fp1 fp) <;> cases (ancB A fp2.i fp.i || indep fp2 fp) <;> simp

end

section
variable {P : Program} {E : En} {cx : Cx} {g : Gh} {st : St} {a : Act} {w : World} {R : Type}

theorem goD_sound (hc : CxOk P E cx) (henv : EnvOk P E.G cx) (h : Rel E cx.n g st a w) {all : List Oper} {i : Nat} {o : Oper} {k : St → Fp → Option R} {r : R} {K : Act → World → Prop} {Q : Exit → Act → World → Prop} (hk : goD cx all st i o k = some r)
    (hn : ∀ g' st' fp a' w', Rel E cx.n g' st' a' w' → k st' fp = some r → K a' w') : o.wp P a w K Q := by
  unfold goD at hk
  cases hq : quietOp o.op
  · rw [hq] at hk
    simp only [cond_false] at hk
    generalize hbs : boxesAt st.tm (o.dst.toList ++ lookTs all o) ++ newKeys o.dst.toList = bs at hk
    generalize hwt : o.dst.toList ++ keysL (fltL (fun _ v => !v.free bs) st.tm) = wt at hk
    unfold turnD at hk
    obtain ⟨hck, hk⟩ := cond_none hk
    have hS := h.sub bs (fun t v => memN (lookTs all o) t || !v.free bs)
    have hc' : CxOk P (subE E g st w bs) cx := ⟨hc.ty, hc.gl, hc.eq, hc.mo⟩
    have hw := execK_sound (Q := Q) (K := fun a' w' => ∃ g2 s2, Rel (subE E g st w bs) cx.n g2 s2 a' w' ∧ (bif allL (fun t v => !memN wt t || v.only bs) s2.tm && allL (fun b _ => memN bs b) s2.bx then
        k ⟨putAll (fltL (fun t _ => !memN wt t) st.tm) (fltL (fun t _ => memN wt t) s2.tm), putAll (fltL (fun b _ => !memN bs b) st.bx) s2.bx⟩ ⟨i, lookTs all o, wt, bs, true⟩
      else none) = some r) hc' henv hS hk (fun g' st' a' w' h1 h2 => ⟨g', st', h1, h2⟩)
    refine Oper.wp_mono ?_ (wp_put hw)
    rintro a' w' ⟨⟨g2, s2, hR, hk2⟩, u, hu⟩
    obtain ⟨hcc, hk3⟩ := cond_none hk2
    simp only [Bool.and_eq_true] at hcc
    refine hn _ _ _ a' w' (h.merge hR ?_ hcc.1 hcc.2 ?_) hk3
    · intro t v hv ht
      cases hf : v.free bs
      · refine absurd ?_ ht
        rw [← hwt]
        exact List.mem_append_right _ (mem_keysL.2 ⟨v, mem_fltL.2 ⟨look_mem hv, by simp [hf]⟩⟩)
      · rfl
    · intro t ht
      rw [hu]
      cases hd : o.dst with
      | none => rfl
      | some d =>
        have hne : d ≠ t := fun he => ht (by rw [← hwt, hd, he]; simp)
        simp only [Act.put, Array.getD_eq_getD_getElem?, Array.getElem?_setIfInBounds, if_neg hne]
  · rw [hq] at hk
    simp only [cond_true] at hk
    split at hk
    · rename_i d hd
      generalize hbs : boxesAt st.tm (d :: lookTs all o) = bs at hk
      unfold lookD at hk
      have hS := (h.fltT (fun t _ => memN (lookTs all o) t)).fltB (fun b _ => memN bs b)
      obtain ⟨u, v, h1, h2, h3⟩ := opP_sound hc hS hk
      obtain ⟨hcc, h4⟩ := cond_none h3
      simp only [Bool.and_eq_true] at hcc
      have hlt := hcc.1
      rw [blt_dec, decide_eq_true_eq] at hlt
      refine wp_value h1 ?_
      rw [hd]
      refine hn g _ _ _ w (h.put hlt (v := v) (u := u) ?_) h4
      refine AVR_step (g := g) (g' := g) (bx := fltL (fun b _ => memN bs b) st.bx) (bx' := st.bx) (w := w) (fun b _ _ => memN bs b) (fun y hy => ⟨hy, rfl⟩) ?_ v _ hcc.2 h2
      intro b p q hb x' hx' ho
      exact ⟨x', by rw [look_fltN, if_pos hb]; exact hx', ho, fun t' cs' l' hw => ⟨cs', hw, fun _ => rfl⟩⟩
    · simp at hk

theorem stepD_sound (hc : CxOk P E cx) (henv : EnvOk P E.G cx) (h : Rel E cx.n g st a w) {ops : Array Oper} {i : Nat} {o : Oper} (ho : ops[i]? = some o) {k : St → Fp → Option R} {r : R} {K : Act → World → Prop} {Q : Exit → Act → World → Prop}
    (hk : stepD cx ops.toList st i o k = some r) (hn : ∀ g' st' fp a' w', Rel E cx.n g' st' a' w' → k st' fp = some r → K a' w') : wpOp P ops Q i K a w := by
  unfold wpOp
  simp only [ho]
  unfold stepD at hk
  split at hk
  · rename_i hg
    have : Region.wanted o (yielded ops a.tmps) = true := by simp [Region.wanted, hg]
    rw [this, if_pos rfl]
    exact .inl (goD_sound hc henv h hk hn)
  · rename_i j want hg
    split at hk
    · rename_i dj hdj
      split at hk
      · rename_i b hb
        have hv := bool_AVR (h.tm dj _ hb)
        have hy : yielded ops a.tmps j = some b := by
          have hjj : (ops[j]?).bind (·.dst) = some dj := by simpa using hdj
          unfold yielded
          rw [hjj]
          simp only [Option.bind_some]
          have : a.tmps[dj]? = some (.bool b) := by
            rw [Array.getD_eq_getD_getElem?] at hv
            cases hq : a.tmps[dj]? with
            | none => rw [hq] at hv; simp [undef] at hv
            | some z => rw [hq] at hv; simpa using hv
          rw [this]
        have hw : Region.wanted o (yielded ops a.tmps) = (bif want then b else !b) := by
          simp only [Region.wanted, hg, hy]
          cases b <;> cases want <;> rfl
        rw [hw]
        cases hcw : (bif want then b else !b)
        · rw [hcw] at hk
          simp only [cond_false] at hk
          rw [if_neg (by simp)]
          exact hn g _ _ _ w (h.put_skip o.dst) hk
        · rw [hcw] at hk
          simp only [cond_true] at hk
          rw [if_pos rfl]
          exact .inl (goD_sound hc henv h hk hn)
      · rename_i hsk
        have hw : Region.wanted o (yielded ops a.tmps) = false := by
          simp only [Region.wanted, hg, h.yielded_skip hdj hsk]
          rfl
        rw [hw, if_neg (by simp)]
        exact hn g _ _ _ w (h.put_skip o.dst) hk
      · simp at hk
    · simp at hk

/-- The bits tell what comes ahead. -/
theorem foldl_bit {A : List Nat} {q : Nat} : ∀ {es : List Edge} {m : Nat}, (es.foldl (fun m e => bif Region.binds .any e then m ||| (2 ^ e.on ||| A.getD e.on 0) else m) m).testBit q = true →
    m.testBit q = true ∨ ∃ e ∈ es, Region.binds .any e = true ∧ (e.on = q ∨ (A.getD e.on 0).testBit q = true)
  | [], m, h => .inl h
  | e :: es, m, h => by
    simp only [List.foldl_cons] at h
    rcases foldl_bit h with h | ⟨e', h1, h2⟩
    · cases hb : Region.binds .any e
      · rw [hb] at h; exact .inl h
      · rw [hb] at h
        simp only [cond_true, Nat.testBit_or, Bool.or_eq_true, Nat.testBit_two_pow, decide_eq_true_eq] at h
        rcases h with h | h | h
        · exact .inl h
        · exact .inr ⟨e, by simp, hb, .inl h⟩
        · exact .inr ⟨e, by simp, hb, .inr h⟩
    · exact .inr ⟨e', by simp [h1], h2⟩

theorem ancAux_spec : ∀ {l : List Oper} {acc : List Nat} (all : List Oper), all.drop acc.length = l → edgesOk acc.length l = true →
    (∀ (i q : Nat), i < acc.length → (acc.getD i 0).testBit q = true → ∃ o, all[i]? = some o ∧ ∃ e ∈ o.after.toList, Region.binds .any e = true ∧ e.on < i ∧ (e.on = q ∨ (acc.getD e.on 0).testBit q = true)) →
    ∀ (i q : Nat), ((ancAux acc l).getD i 0).testBit q = true → ∃ o, all[i]? = some o ∧ ∃ e ∈ o.after.toList, Region.binds .any e = true ∧ e.on < i ∧ (e.on = q ∨ ((ancAux acc l).getD e.on 0).testBit q = true)
  | [], acc, all, hl, he, h, i, q, hq => by
    simp only [ancAux] at hq ⊢
    rcases Nat.lt_or_ge i acc.length with hi | hi
    · exact h i q hi hq
    · simp only [List.getD, List.getElem?_eq_none hi] at hq
      simp at hq
  | o :: l, acc, all, hl, he, h, i, q, hq => by
    simp only [edgesOk, Bool.and_eq_true] at he
    simp only [ancAux] at hq ⊢
    have ho : all[acc.length]? = some o := by
      have := congrArg (fun x => x[0]?) hl
      simpa using this
    refine ancAux_spec (l := l) (acc := acc ++ [_]) all ?_ ?_ ?_ i q hq
    · rw [List.length_append, ← List.drop_drop, hl]; rfl
    · rw [List.length_append]; exact he.2
    · intro i q hi hq
      simp only [List.length_append, List.length_singleton] at hi
      have hget : ∀ j, j < acc.length → (acc ++ [o.after.toList.foldl (fun m e => bif Region.binds .any e then m ||| (2 ^ e.on ||| acc.getD e.on 0) else m) 0]).getD j 0 = acc.getD j 0 := fun j hj => by
        simp only [List.getD, List.getElem?_append_left hj]
      rcases Nat.lt_or_ge i acc.length with hi' | hi'
      · rw [hget i hi'] at hq
        obtain ⟨o', h1, e, h2, h3, h4, h5⟩ := h i q hi' hq
        refine ⟨o', h1, e, h2, h3, h4, ?_⟩
        rw [hget _ (by omega)]
        exact h5
      · have hii : i = acc.length := by omega
        subst hii
        simp only [List.getD, List.getElem?_append_right (Nat.le_refl _), Nat.sub_self, List.getElem?_cons_zero, Option.getD_some] at hq
        rcases foldl_bit hq with hq | ⟨e, h1, h2, h3⟩
        · simp at hq
        · have hlt : e.on < acc.length := by
            have := List.all_eq_true.1 he.1 e h1
            rw [h2] at this
            simpa [blt_dec] using this
          refine ⟨o, ho, e, h1, h2, hlt, ?_⟩
          rw [hget _ hlt]
          exact h3

theorem edgesOk_at : ∀ {l : List Oper} {n i : Nat} {o : Oper}, edgesOk n l = true → l[i]? = some o → ∀ e ∈ o.after.toList, Region.binds .any e = true → e.on < n + i
  | [], n, i, o, h, ho => by simp at ho
  | x :: l, n, i, o, h, ho => by
    simp only [edgesOk, Bool.and_eq_true] at h
    cases i with
    | zero =>
      simp only [List.getElem?_cons_zero, Option.some.injEq] at ho
      subst ho
      intro e he hb
      have := List.all_eq_true.1 h.1 e he
      rw [hb] at this
      simpa [blt_dec] using this
    | succ i =>
      intro e he hb
      have := edgesOk_at h.2 (by simpa using ho) e he hb
      omega

/-- What is left to do. -/
structure Todo (ops : Array Oper) (listed : Array Bool) (L : List (Nat × Oper)) : Prop where
  mem : ∀ i, (∃ o, (i, o) ∈ L) ↔ listed.getD i true = false
  op : ∀ x ∈ L, ops[x.1]? = some x.2
  asc : L.Pairwise fun x y => x.1 < y.1
  up : ∀ x ∈ L, ∀ (y : Nat) (o : Oper), ops[y]? = some o → ∀ e ∈ o.after.toList, Region.binds .any e = true → e.on = x.1 → ∃ o', (y, o') ∈ L

theorem runD_sound (hc : CxOk P E cx) (henv : EnvOk P E.G cx) {ops : Array Oper} (hE : edgesOk 0 ops.toList = true) {Q : Exit → Act → World → Prop} {k : St → Option R} {r : R} (hn : ∀ g' st' a' w', Rel E cx.n g' st' a' w' → k st' = some r → Q .normal a' w') :
    ∀ (fuel : Nat) (L : List (Nat × Oper)) (listed : Array Bool) (log : List Fp) (g : Gh) (st : St) (a : Act) (w : World), L.length = fuel → Todo ops listed L → Rel E cx.n g st a w →
      runD cx ops.toList (ancAux [] ops.toList) log L st k = some r → wpAny P .any ops Q fuel listed a w := by
  have hanc := ancAux_spec (l := ops.toList) (acc := []) ops.toList rfl hE (by simp)
  intro fuel
  induction fuel with
  | zero =>
    intro L listed log g st a w hl hT hR hk
    have hL : L = [] := List.length_eq_zero_iff.1 hl
    subst hL
    simp only [runD] at hk
    simp only [wpAny]
    refine ⟨?_, hn g st a w hR hk⟩
    simp only [Region.ready, List.filter_eq_nil_iff]
    intro i _ hi
    simp only [Bool.and_eq_true, Bool.not_eq_true'] at hi
    obtain ⟨o, ho⟩ := (hT.mem i).2 hi.1
    simp at ho
  | succ fuel ih =>
    intro L listed log g st a w hl hT hR hk
    simp only [wpAny]
    constructor
    · intro hempty
      exfalso
      cases L with
      | nil => simp at hl
      | cons x L =>
        have hx := hT.op x (by simp)
        have hasc := List.pairwise_cons.1 hT.asc
        have hmem : x.1 ∈ Region.ready .any ops listed := by
          simp only [Region.ready, List.mem_filter, List.mem_range, Bool.and_eq_true, Bool.not_eq_true']
          refine ⟨?_, (hT.mem x.1).1 ⟨x.2, by simp⟩, ?_⟩
          · rcases Nat.lt_or_ge x.1 ops.size with h | h
            · exact h
            · rw [Array.getElem?_eq_none h] at hx; simp at hx
          · rw [hx]
            simp only [Option.map_some, Option.getD_some, Array.all_eq_true', Bool.or_eq_true, Bool.not_eq_true']
            intro e he
            cases hb : Region.binds .any e
            · exact .inl rfl
            · refine .inr ?_
              have hlt := edgesOk_at hE (i := x.1) (by simpa using hx) e (by simpa using he) hb
              have hnl : ¬ listed.getD e.on true = false := by
                intro hf
                obtain ⟨o, ho⟩ := (hT.mem e.on).2 hf
                rcases List.mem_cons.1 ho with ho | ho
                · have := congrArg Prod.fst ho; simp only at this; omega
                · have := hasc.1 _ ho; simp only at this; omega
              have hsz : e.on < listed.size := by
                rcases Nat.lt_or_ge e.on listed.size with h | h
                · exact h
                · have hxs := (hT.mem x.1).1 ⟨x.2, by simp⟩
                  rw [Array.getD_eq_getD_getElem?, Array.getElem?_eq_none (by omega)] at hxs
                  simp at hxs
              rw [Array.getD_eq_getD_getElem?] at hnl ⊢
              rw [Array.getElem?_eq_getElem hsz] at hnl ⊢
              simpa using hnl
        rw [hempty] at hmem
        simp at hmem
    · intro i hi
      simp only [Region.ready, List.mem_filter, List.mem_range, Bool.and_eq_true, Bool.not_eq_true'] at hi
      obtain ⟨_, hun, hpr⟩ := hi
      obtain ⟨o, ho⟩ := (hT.mem i).2 hun
      have hop := hT.op _ ho
      simp only at hop
      rw [hop] at hpr
      simp only [Option.map_some, Option.getD_some, Array.all_eq_true', Bool.or_eq_true, Bool.not_eq_true'] at hpr
      -- what it waits for is done
      have hpred : ∀ e ∈ o.after.toList, Region.binds .any e = true → ∀ o', (e.on, o') ∉ L := by
        intro e he hb o' ho'
        have h1 := (hT.mem e.on).1 ⟨o', ho'⟩
        rcases hpr e (by simpa using he) with h2 | h2
        · rw [hb] at h2; simp at h2
        · rw [Array.getD_eq_getD_getElem?] at h1 h2
          cases hx : listed[e.on]? with
          | none => rw [hx] at h2; simp at h2
          | some b => rw [hx] at h1 h2; simp at h1 h2; rw [h2] at h1; simp at h1
      have key : ∀ (N j : Nat), j ≤ N → ∀ q oq, (q, oq) ∈ L → ancB (ancAux [] ops.toList) q j = true → ∃ oj, ops[j]? = some oj ∧ ∃ e ∈ oj.after.toList, Region.binds .any e = true ∧ ∃ o', (e.on, o') ∈ L := by
        intro N
        induction N with
        | zero =>
          intro j hj q oq hq hb
          obtain ⟨oj, h1, e, h2, h3, h4, h5⟩ := hanc j q hb
          omega
        | succ N ihN =>
          intro j hj q oq hq hb
          obtain ⟨oj, h1, e, h2, h3, h4, h5⟩ := hanc j q hb
          refine ⟨oj, by simpa using h1, e, h2, h3, ?_⟩
          rcases h5 with h5 | h5
          · exact ⟨oq, h5 ▸ hq⟩
          · obtain ⟨oe, j1, e', j2, j3, o', j4⟩ := ihN e.on (by omega) q oq hq h5
            exact hT.up _ j4 e.on oe j1 e' j2 j3 rfl
      obtain ⟨L1, L2, rfl⟩ := List.append_of_mem ho
      have hk' := runD_front hR.srtT hR.srtB (fun x hx => by
        cases hb : ancB (ancAux [] ops.toList) x.1 i with
        | false => rfl
        | true =>
          obtain ⟨oj, h1, e, h2, h3, o', h4⟩ := key i i (Nat.le_refl _) x.1 x.2 (by simp [hx]) hb
          rw [hop] at h1
          simp only [Option.some.injEq] at h1
          subst h1
          exact absurd h4 (hpred e h2 h3 o')) hk
      simp only [runD] at hk'
      refine stepD_sound hc henv hR hop hk' ?_
      intro g' st' fp a' w' hR' hk2
      obtain ⟨_, hk3⟩ := cond_none hk2
      have hasc := hT.asc
      rw [List.pairwise_append, List.pairwise_cons] at hasc
      obtain ⟨p1, ⟨p2, p3⟩, p4⟩ := hasc
      have hmem' : ∀ j o', (j, o') ∈ L1 ++ L2 ↔ ((j, o') ∈ L1 ++ (i, o) :: L2 ∧ j ≠ i) := by
        intro j o'
        simp only [List.mem_append, List.mem_cons, Prod.mk.injEq]
        constructor
        · rintro (h | h)
          · exact ⟨.inl h, fun he => by have := p4 _ h (i, o) (by simp); simp only at this; omega⟩
          · exact ⟨.inr (.inr h), fun he => by have := p2 _ h; simp only at this; omega⟩
        · rintro ⟨h | ⟨h, _⟩ | h, hne⟩
          · exact .inl h
          · exact absurd h hne
          · exact .inr h
      refine ih (L1 ++ L2) _ (fp :: log) g' st' a' w' ?_ ?_ hR' hk3
      · simp only [List.length_append, List.length_cons] at hl ⊢; omega
      · refine ⟨fun j => ?_, fun x hx => hT.op x ((hmem' x.1 x.2).1 hx).1, ?_, ?_⟩
        · have hb := hT.mem j
          by_cases hji : j = i
          · subst hji
            constructor
            · rintro ⟨o', ho'⟩
              exact absurd rfl ((hmem' j o').1 ho').2
            · intro hf
              exfalso
              rw [Array.getD_eq_getD_getElem?] at hf hun
              rw [Array.getElem?_setIfInBounds] at hf
              cases hx : listed[j]? with
              | none => rw [hx] at hun; simp at hun
              | some b =>
                have : j < listed.size := by
                  rcases Nat.lt_or_ge j listed.size with h | h
                  · exact h
                  · rw [Array.getElem?_eq_none h] at hx; simp at hx
                simp [this] at hf
          · have : (listed.setIfInBounds i true).getD j true = listed.getD j true := by
              simp only [Array.getD_eq_getD_getElem?, Array.getElem?_setIfInBounds, if_neg (Ne.symm hji)]
            rw [this, ← hb]
            constructor
            · rintro ⟨o', ho'⟩; exact ⟨o', ((hmem' j o').1 ho').1⟩
            · rintro ⟨o', ho'⟩; exact ⟨o', (hmem' j o').2 ⟨ho', hji⟩⟩
        · rw [List.pairwise_append]
          exact ⟨p1, p3, fun x hx y hy => p4 x hx y (by simp [hy])⟩
        · intro x hx y oy hy e he hb hon
          obtain ⟨o', ho'⟩ := hT.up x ((hmem' x.1 x.2).1 hx).1 y oy hy e he hb hon
          refine ⟨o', (hmem' y o').2 ⟨ho', ?_⟩⟩
          rintro rfl
          rw [hop] at hy
          simp only [Option.some.injEq] at hy
          subst hy
          exact hpred e he hb x.2 (by rw [hon]; exact ((hmem' x.1 x.2).1 hx).1)

theorem idxd_mem {α : Type} : ∀ {l : List α} {n i : Nat} {x : α}, (i, x) ∈ idxd n l ↔ n ≤ i ∧ l[i - n]? = some x
  | [], n, i, x => by simp [idxd]
  | y :: l, n, i, x => by
    simp only [idxd, List.mem_cons, Prod.mk.injEq, idxd_mem (l := l)]
    constructor
    · rintro (⟨rfl, rfl⟩ | ⟨h1, h2⟩)
      · simp
      · refine ⟨by omega, ?_⟩
        rw [show i - n = (i - (n + 1)) + 1 by omega, List.getElem?_cons_succ]; exact h2
    · rintro ⟨h1, h2⟩
      by_cases hi : i = n
      · subst hi
        simp at h2
        exact .inl ⟨rfl, h2.symm⟩
      · refine .inr ⟨by omega, ?_⟩
        rw [show i - n = (i - (n + 1)) + 1 by omega, List.getElem?_cons_succ] at h2; exact h2

theorem idxd_asc {α : Type} : ∀ {l : List α} {n : Nat}, (idxd n l).Pairwise fun x y => x.1 < y.1
  | [], n => .nil
  | y :: l, n => List.pairwise_cons.2 ⟨fun x hx => by have := (idxd_mem (i := x.1) (x := x.2)).1 hx; simp only; omega, idxd_asc⟩

theorem idxd_len {α : Type} : ∀ {l : List α} {n : Nat}, (idxd n l).length = l.length
  | [], n => rfl
  | y :: l, n => by simp [idxd, idxd_len (l := l)]

theorem draw_sound (hc : CxOk P E cx) (henv : EnvOk P E.G cx) {id : Nat} {ops : Array Oper} (hE : edgesOk 0 ops.toList = true) {Q : Exit → Act → World → Prop} {k : St → Option R} {r : R} (hn : ∀ g' st' a' w', Rel E cx.n g' st' a' w' → k st' = some r → Q .normal a' w')
    (h : Rel E cx.n g st a w) (hk : runD cx ops.toList (ancAux [] ops.toList) [] (idxd 0 ops.toList) st k = some r) : (Code.region id ops true).wp P Q a w := by
  refine wp_region_any hc.mo ?_
  have hR : Rel E cx.n g st a { w with drawn := w.drawn + 1 } := h.grow (fun _ _ => rfl) (Nat.le_refl _) rfl rfl rfl
  refine runD_sound hc henv hE hn ops.size (idxd 0 ops.toList) _ [] g st a _ (by rw [idxd_len]; simp) ⟨fun i => ?_, fun x hx => ?_, idxd_asc, fun x _ y oy hy e _ _ _ => ⟨oy, idxd_mem.2 ⟨Nat.zero_le _, by simpa using hy⟩⟩⟩ hR hk
  · rw [Array.getD_eq_getD_getElem?]
    constructor
    · rintro ⟨o, ho⟩
      have := (idxd_mem.1 ho).2
      simp only [Nat.sub_zero, Array.getElem?_toList] at this
      have hlt : i < ops.size := by
        rcases Nat.lt_or_ge i ops.size with h | h
        · exact h
        · rw [Array.getElem?_eq_none h] at this; simp at this
      simp [hlt]
    · intro hf
      have hlt : i < ops.size := by
        rcases Nat.lt_or_ge i ops.size with h | h
        · exact h
        · rw [Array.getElem?_eq_none (by simpa using h)] at hf; simp at hf
      exact ⟨ops[i], idxd_mem.2 ⟨Nat.zero_le _, by simp [hlt]⟩⟩
  · have := (idxd_mem (i := x.1) (x := x.2)).1 hx
    simpa using this.2

end
end Go.Eng
end

section
/- The engine: regions, branches, loops. -/
namespace Go.Eng
open Go

section
variable {P : Program} {E : En} {cx : Cx} {n : Nat} {g : Gh} {st : St} {a : Act} {w : World} {R : Type}

theorem opsK_sound (hc : CxOk P E cx) (henv : EnvOk P E.G cx) {ops : Array Oper} {Q : Exit → Act → World → Prop} {k : St → Option R} {r : R} (hn : ∀ g' st' a' w', Rel E cx.n g' st' a' w' → k st' = some r → Q .normal a' w') :
    ∀ (l : List Oper) (i : Nat) (ss : List Bool) (g : Gh) (st : St) (a : Act) (w : World), ops.toList.drop i = l → opsK cx ops.toList ss l st k = some r → Rel E cx.n g st a w → wpOps P ops Q (List.range' i l.length) a w
  | [], i, ss, g, st, a, w, hl, hk, h => by
    simp only [opsK] at hk
    simp only [List.length_nil, List.range'_zero, wpOps]
    exact hn g st a w h hk
  | o :: l, i, ss, g, st, a, w, hl, hk, h => by
    have hi : ops[i]? = some o := by
      have := congrArg (fun x => x[0]?) hl
      simpa using this
    have hl' : ops.toList.drop (i + 1) = l := by
      rw [← List.drop_drop, hl]; rfl
    simp only [List.length_cons, List.range'_succ, wpOps, hi]
    simp only [opsK] at hk
    have next : ∀ (st1 : St), Rel E cx.n g st1 a w → execK cx st1 (ss.headD false) o (fun st' => opsK cx ops.toList ss.tail l st' k) = some r → o.wp P a w (wpOps P ops Q (List.range' (i + 1) l.length)) Q := by
      intro st1 h1 hk1
      exact execK_sound hc henv h1 hk1 fun g' st' a' w' hR hk' => opsK_sound hc henv hn l (i + 1) ss.tail g' st' a' w' hl' hk' hR
    split at hk
    · rename_i hg
      have : Region.wanted o (yielded ops a.tmps) = true := by simp [Region.wanted, hg]
      rw [this, if_pos rfl]
      exact .inl (next st h hk)
    · rename_i j want hg
      split at hk
      · rename_i dj hdj
        split at hk
        · rename_i b hb
          have hv := bool_AVR (h.tm dj _ hb)
          have hy : yielded ops a.tmps j = some b := by
            have hjj : (ops[j]?).bind (·.dst) = some dj := by simpa using hdj
            unfold yielded
            rw [hjj]
            simp only [Option.bind_some]
            have : a.tmps[dj]? = some (.bool b) := by
              rw [Array.getD_eq_getD_getElem?] at hv
              cases hq : a.tmps[dj]? with
              | none => rw [hq] at hv; simp [undef] at hv
              | some z => rw [hq] at hv; simpa using hv
            rw [this]
          have hw : Region.wanted o (yielded ops a.tmps) = (b == want) := by
            simp only [Region.wanted, hg, hy]
            cases b <;> cases want <;> rfl
          rw [hw]
          cases b <;> cases want <;> simp only [cond_true, cond_false] at hk
          · rw [if_pos (by rfl)]
            exact .inl (next _ (h.setT (by rw [hv]; exact AVR_bool _)) hk)
          · rw [if_neg (by decide)]
            exact opsK_sound hc henv hn l (i + 1) ss.tail g _ _ w hl' hk ((h.setT (k := dj) (v := .val .bool false) (by rw [hv]; exact AVR_bool _)).put_skip o.dst)
          · rw [if_neg (by decide)]
            exact opsK_sound hc henv hn l (i + 1) ss.tail g _ _ w hl' hk ((h.setT (k := dj) (v := .val .bool true) (by rw [hv]; exact AVR_bool _)).put_skip o.dst)
          · rw [if_pos (by rfl)]
            exact .inl (next _ (h.setT (by rw [hv]; exact AVR_bool _)) hk)
        · rename_i hsk
          have hdj' : (ops.toList[j]?).bind (·.dst) = some dj := hdj
          have hw : Region.wanted o (yielded ops a.tmps) = false := by
            simp only [Region.wanted, hg, h.yielded_skip hdj' hsk]
            rfl
          rw [hw, if_neg (by simp)]
          exact opsK_sound hc henv hn l (i + 1) ss.tail g _ _ w hl' hk (h.put_skip o.dst)
        · simp at hk
      · simp at hk

def Ex.toExit : Ex → Exit
  | .normal => .normal
  | .exit id => .exit id
  | .ret => .ret

/-- A loop that ends within so many rounds. -/
theorem wp_loopN {c : Code} {Q : Exit → Act → World → Prop} (J : Nat → Act → World → Prop) (h0 : ∀ a w, ¬ J 0 a w) (round : ∀ N a w, J (N + 1) a w → c.wp P (Exit.then (J N) Q) a w) {N : Nat} (h : J N a w) : (Code.loop c).wp P Q a w := by
  intro b k cs
  have key : ∀ N a w, J N a w → ∃ e a' w', Q e a' w' ∧ Arrives P (lone (b.at a (.code c :: .inLoop c :: k)) cs w) b k cs e a' w' := by
    intro N
    induction N with
    | zero => intro a w hJ; exact absurd hJ (h0 a w)
    | succ N ih =>
      intro a w hJ
      obtain ⟨e, a₁, w₁, hq, harr⟩ := round N a w hJ b (.inLoop c :: k) cs
      cases e with
      | normal =>
        obtain ⟨e₂, a₂, w₂, hq₂, harr₂⟩ := ih a₁ w₁ hq
        exact ⟨e₂, a₂, w₂, hq₂, .of_steps (Steps.trans harr (.one step_inLoop)) harr₂⟩
      | exit id => exact ⟨_, a₁, w₁, hq, .pass (x := .inLoop c) rfl (fun _ _ => .inl (by simp)) harr⟩
      | goto l => exact ⟨_, a₁, w₁, hq, .pass (x := .inLoop c) rfl (fun _ _ => .inl (by simp)) harr⟩
      | ret => exact ⟨_, a₁, w₁, hq, .pass (x := .inLoop c) rfl (fun _ _ => .inl (by simp)) harr⟩
      | panic ch => exact ⟨_, a₁, w₁, hq, .pass (x := .inLoop c) rfl (fun _ _ => .inl (by simp)) harr⟩
      | outgrown => exact ⟨_, a₁, w₁, hq, .pass (x := .inLoop c) rfl (fun _ _ => .inl (by simp)) harr⟩
  obtain ⟨e, a', w', hq, harr⟩ := key _ a w h
  exact ⟨e, a', w', hq, .of_steps (.one step_loop) harr⟩

theorem exec_sound (hc : CxOk P E cx) (henv : EnvOk P E.G cx) : ∀ (c : Code) {Q : Exit → Act → World → Prop} {k : Ex → St → Option R} {r : R} {g : Gh} {st : St} {a : Act} {w : World}, exec cx c st k = some r → Rel E cx.n g st a w →
    (∀ e g' st' a' w', Rel E cx.n g' st' a' w' → k e st' = some r → Q e.toExit a' w') → c.wp P Q a w
  | .skip, Q, k, r, g, st, a, w, hk, h, hn => by
    simp only [exec] at hk
    exact Go.wp_skip (hn .normal g st a w h hk)
  | .region id ops draw, Q, k, r, g, st, a, w, hk, h, hn => by
    simp only [exec] at hk
    cases draw
    · simp only [cond_false] at hk
      refine wp_region ?_
      rw [List.range_eq_range']
      have := opsK_sound (Q := Q) hc henv (fun g' st' a' w' hR hk' => hn .normal g' _ a' w' (hR.fltT _) hk') ops.toList 0 [] g st a w rfl hk h
      simpa using this
    · simp only [cond_true] at hk
      obtain ⟨hE, hk⟩ := cond_none hk
      exact draw_sound (Q := Q) hc henv hE (fun g' st' a' w' hR hk' => hn .normal g' _ a' w' (hR.fltT _) hk') h hk
  | .seq x y, Q, k, r, g, st, a, w, hk, h, hn => by
    simp only [exec] at hk
    refine wp_seq (exec_sound hc henv x hk h ?_)
    intro e g' st' a' w' hR hk'
    cases e with
    | normal => exact exec_sound hc henv y hk' hR hn
    | exit id => exact hn _ g' st' a' w' hR hk'
    | ret => exact hn _ g' st' a' w' hR hk'
  | .cond c x y, Q, k, r, g, st, a, w, hk, h, hn => by
    simp only [exec] at hk
    split at hk
    · rename_i b hb
      have hv := opnd_sound hc h c
      rw [hb] at hv
      have hv := bool_AVR hv
      refine wp_cond hv ?_
      cases b
      · exact exec_sound hc henv y hk h hn
      · exact exec_sound hc henv x hk h hn
    · simp at hk
  | .block id c, Q, k, r, g, st, a, w, hk, h, hn => by
    simp only [exec] at hk
    refine wp_block (exec_sound hc henv c hk h ?_)
    intro e g' st' a' w' hR hk'
    cases e with
    | normal => exact hn .normal g' st' a' w' hR hk'
    | ret => exact hn .ret g' st' a' w' hR hk'
    | exit id' =>
      simp only [beq_dec] at hk'
      simp only [Ex.toExit, Exit.inBlock]
      by_cases hid : id' = id
      · rw [if_pos hid]
        simp only [hid, decide_true, cond_true] at hk'
        exact hn .normal g' st' a' w' hR hk'
      · rw [if_neg hid]
        simp only [hid, decide_false, cond_false] at hk'
        exact hn (.exit id') g' st' a' w' hR hk'
  | .loop c, Q, k, r, g, st, a, w, hk, h, hn => by
    simp only [exec] at hk
    refine wp_loopN (J := fun N a w => ∃ g st', Rel E cx.n g st' a w ∧ loopN (exec cx c) (restr st) k N st' = some r) ?_ ?_ (N := fuel) ⟨g, st, h, hk⟩
    · rintro a w ⟨g, st', _, hk⟩
      simp [loopN] at hk
    · rintro N a w ⟨g, st', hR, hk⟩
      simp only [loopN] at hk
      refine exec_sound hc henv c hk hR ?_
      intro e g' st'' a' w' hR' hk'
      cases e with
      | normal => exact ⟨g', _, hR'.restr st, hk'⟩
      | exit id => exact hn _ g' st'' a' w' hR' hk'
      | ret => exact hn _ g' st'' a' w' hR' hk'
  | .exit id, Q, k, r, g, st, a, w, hk, h, hn => by
    simp only [exec] at hk
    exact wp_exit (hn (.exit id) g st a w h hk)
  | .ret, Q, k, r, g, st, a, w, hk, h, hn => by
    simp only [exec] at hk
    exact wp_ret (hn .ret g st a w h hk)
  | .scope c, Q, k, r, g, st, a, w, hk, h, hn => by simp [exec] at hk
  | .label l, Q, k, r, g, st, a, w, hk, h, hn => by simp [exec] at hk
  | .goto l, Q, k, r, g, st, a, w, hk, h, hn => by simp [exec] at hk
  | .refuse _, Q, k, r, g, st, a, w, hk, h, hn => by simp [exec] at hk
  | .rangeFunc _ _ _ _, Q, k, r, g, st, a, w, hk, h, hn => by simp [exec] at hk

end
end Go.Eng
end

section
/- The engine: what a function hands back. -/
namespace Go.Eng
open Go

section
variable {P : Program} {E : En} {cx : Cx} {n : Nat} {g : Gh} {st : St} {a : Act} {w : World} {R : Type}

/-- A state in which less is owned and more may be shared. -/
structure LessS (g : Gh) (st : St) (g1 : Gh) (st1 : St) : Prop where
  S : ∀ y, g.S y → g1.S y
  nS : ∀ y, g1.S y → g.S y ∨ ∃ b x, look st.bx b = some x ∧ g.F b y
  loc : g1.loc = g.loc
  cs : g1.cs = g.cs
  F : ∀ b y, g1.F b y → g.F b y
  tm : st1.tm = st.tm
  bx : ∀ b x1, look st1.bx b = some x1 → ∃ x, look st.bx b = some x ∧ x1.t = x.t ∧ x1.r = x.r

theorem LessS.refl (g : Gh) (st : St) : LessS g st g st := ⟨fun _ h => h, fun _ h => .inl h, rfl, rfl, fun _ _ h => h, rfl, fun _ x h => ⟨x, h, rfl, rfl⟩⟩

theorem LessS.trans {g g1 g2 : Gh} {st st1 st2 : St} (h : LessS g st g1 st1) (k : LessS g1 st1 g2 st2) : LessS g st g2 st2 :=
  ⟨fun y hy => k.S y (h.S y hy), fun y hy => by
    rcases k.nS y hy with hy | ⟨b, x, hx, hy⟩
    · exact h.nS y hy
    · obtain ⟨x0, h1, _⟩ := h.bx b x hx
      exact .inr ⟨b, x0, h1, h.F b y hy⟩, k.loc.trans h.loc, k.cs.trans h.cs, fun b y hy => h.F b y (k.F b y hy), k.tm.trans h.tm, fun b x2 h2 => by
    obtain ⟨x1, a1, a2, a3⟩ := k.bx b x2 h2
    obtain ⟨x, b1, b2, b3⟩ := h.bx b x1 a1
    exact ⟨x, b1, a2.trans b2, a3.trans b3⟩⟩

theorem Less.toS {g1 : Gh} {st1 : St} (h : Less g st g1 st1) : LessS g st g1 st1 :=
  ⟨fun y hy => by rw [h.S]; exact hy, fun y hy => .inl (by rw [h.S] at hy; exact hy), h.loc, h.cs, h.F, h.tm, h.bx⟩

theorem Held.lessS {g1 : Gh} {st1 : St} {F : Nat → Prop} (h : Held E g st w F) (k : LessS g st g1 st1) : Held E g1 st1 w F :=
  ⟨fun b x1 y hx hy => by obtain ⟨x, a1, _⟩ := k.bx b x1 hx; exact h.dF b x y a1 (k.F b y hy),
   fun b x1 hx hr => by obtain ⟨x, a1, _, a3⟩ := k.bx b x1 hx; rw [k.loc]; exact h.dL b x a1 (a3 ▸ hr),
   fun y hy hs => by
    rcases k.nS y hs with hs | ⟨b, x, hx, hs⟩
    · exact h.dS y hy hs
    · exact h.dF b x y hx hs hy, h.bd, h.nF⟩

def resSem (tmps : Array Value) : ResultVar → Sem Value
  | .tmp t => pure (tmps.getD t undef)
  | .cell a t => do loadVar t (← asAddr (tmps.getD a undef))

theorem RetsOk.mono {S S2 : Nat → Prop} {ks : List (Ty × Md)} {us : List Value} {ds : List Dat} {Rs : List (Nat → Prop)} (h : RetsOk w S ks us ds Rs) (hS : ∀ y, S y → S2 y) : RetsOk w S2 ks us ds Rs := by
  induction h with
  | nil => exact .nil
  | cons h1 h2 _ ih => exact .cons (Rd_frame w w S S2 (fun y hy => ⟨hS y hy, rfl⟩) _ _ _ _ _ (fun _ _ => rfl) h1) h2 ih

/-- One result: handed over, or shared. -/
theorem res_one (h : Rel E n g st a w) {t : Ty} {m1 m : Md} {F : Nat → Prop} {cs : List Value} {x : t.den} (hr : Rd w g.S t m1 F cs x) (hH : Held E g st w F) (hfu : full t m1 = true) (hm : resOk t m1 m = true) :
    ∃ S2 F2, (∀ y, g.S y → S2 y) ∧ (∀ y, S2 y → g.S y ∨ F y) ∧ Rel E n { g with S := S2 } st a w ∧ Rd w S2 t m F2 cs x ∧ full t m = true ∧ (∀ y, F2 y → F y) ∧ Held E { g with S := S2 } st w F2 := by
  simp only [resOk, Bool.or_eq_true] at hm
  rcases hm with hm | hm
  · obtain ⟨k1, k2⟩ := mdOk_Rd hm hfu hr
    exact ⟨g.S, F, fun _ h => h, fun _ h => .inl h, h, k1, k2, fun _ h => h, hH⟩
  · cases m <;> simp [isShr] at hm
    refine ⟨fun y => g.S y ∨ F y, none', fun _ h => .inl h, fun _ h => h, h.growS (fun _ h => .inl h) ?_, Rd_share w g.S _ (fun y hy => .inl hy) t m1 F none' cs x (fun y hy => .inr hy) hfu hr, full_shr t, fun _ h => h.elim, Held.none⟩
    intro y hy
    rcases hy with hy | hy
    · exact ⟨h.bS y hy, .inl hy⟩
    · exact ⟨hH.bd y hy, .inr ⟨fun b x hx hh => hH.dF b x y hx hh hy, fun b x hx hr he => hH.dL b x hx hr (he ▸ hy), .inr (hH.nF y hy)⟩⟩

theorem takeRes_sound (hc : CxOk P E cx) : ∀ {rv : List ResultVar} {ks : List (Ty × Md)} {g : Gh} {st : St} {k : St → List Dat → Option R} {r : R}, takeRes cx st rv ks k = some r → Rel E cx.n g st a w →
    ∃ g1 st1 us rr Rs, k st1 rr = some r ∧ Rel E cx.n g1 st1 a w ∧ (rv.mapM (resSem a.tmps)).run P w = .ok us w ∧ RetsOk w g1.S ks us rr Rs ∧ (∀ F ∈ Rs, Held E g1 st1 w F) ∧ Rs.Pairwise (fun F H => ∀ y, F y → ¬ H y) ∧
      (∀ F ∈ Rs, ∀ y, F y → ∃ b x, look st.bx b = some x ∧ g.F b y) ∧ LessS g st g1 st1
  | [], ks, g, st, k, r, hk, h => by
    cases ks with
    | nil =>
      simp only [takeRes] at hk
      exact ⟨g, st, [], [], [], hk, h, by simp, .nil, by simp, .nil, by simp, LessS.refl _ _⟩
    | cons _ _ => simp [takeRes] at hk
  | v :: rv, [], g, st, k, r, hk, h => by cases v <;> simp [takeRes] at hk
  | v :: rv, (t, m) :: ks, g, st, k, r, hk, h => by
    -- one result is taken
    have step : ∀ (av : AV) (u : Value), takeK st av t (fun st1 m1 x => bif resOk t m1 m then takeRes cx st1 rv ks fun st2 r => k st2 (⟨t, x⟩ :: r) else none) = some r → AVR g st.bx w av [u] → (resSem a.tmps v).run P w = .ok u w →
        ∃ g1 st1 us rr Rs, k st1 rr = some r ∧ Rel E cx.n g1 st1 a w ∧ ((v :: rv).mapM (resSem a.tmps)).run P w = .ok us w ∧ RetsOk w g1.S ((t, m) :: ks) us rr Rs ∧ (∀ F ∈ Rs, Held E g1 st1 w F) ∧ Rs.Pairwise (fun F H => ∀ y, F y → ¬ H y) ∧
          (∀ F ∈ Rs, ∀ y, F y → ∃ b x, look st.bx b = some x ∧ g.F b y) ∧ LessS g st g1 st1 := by
      intro av u hk hav hrun
      obtain ⟨g1, st1, m1, x, F, cs, hk1, hR1, hL1, hrd, hu, hH, hF, hfu, hkeep⟩ := takeK_sound hk h hav
      dsimp only at hk1
      obtain ⟨hmd, hk2⟩ := cond_none hk1
      obtain ⟨S2, F2, s1, s2, hR2, hrd2, hfm, hF2, hH2⟩ := res_one hR1 hrd hH hfu hmd
      have hL2 : LessS g st { g1 with S := S2 } st1 := ⟨fun y hy => s1 y (by rw [hL1.S]; exact hy), fun y hy => by
        rcases s2 y hy with hy | hy
        · exact .inl (by rw [hL1.S] at hy; exact hy)
        · obtain ⟨b, x, e1, e2, _⟩ := hF y hy; exact .inr ⟨b, x, e1, e2⟩, hL1.loc, hL1.cs, hL1.F, hL1.tm, hL1.bx⟩
      obtain ⟨g3, st3, us, rr, Rs, e1, e2, e3, e4, e5, e6, e7, e8⟩ := takeRes_sound (g := { g1 with S := S2 }) hc hk2 hR2
      refine ⟨g3, st3, u :: us, ⟨t, x⟩ :: rr, F2 :: Rs, e1, e2, ?_, ?_, ?_, ?_, ?_, hL2.trans e8⟩
      · simp [List.mapM_cons, hrun, e3]
      · rw [hu]
        exact .cons (Rd_frame w w S2 _ (fun y hy => ⟨e8.S y hy, rfl⟩) _ _ _ _ _ (fun _ _ => rfl) hrd2) hfm e4
      · intro F' hF'
        rcases List.mem_cons.1 hF' with rfl | hF'
        · exact hH2.lessS e8
        · exact e5 F' hF'
      · refine List.pairwise_cons.2 ⟨fun F' hF' y hy hy' => ?_, e6⟩
        obtain ⟨b, x', q1, q2⟩ := e7 F' hF' y hy'
        exact hH2.dF b x' y q1 q2 hy
      · intro F' hF' y hy
        rcases List.mem_cons.1 hF' with rfl | hF'
        · obtain ⟨b, x', q1, q2, _⟩ := hF y (hF2 y hy)
          exact ⟨b, x', q1, q2⟩
        · obtain ⟨b, x', q1, q2⟩ := e7 F' hF' y hy
          obtain ⟨x0, q3, _⟩ := hL2.bx b x' q1
          exact ⟨b, x0, q3, hL2.F b y q2⟩
    cases v with
    | tmp d =>
      simp only [takeRes] at hk
      refine step _ (a.tmps.getD d undef) hk ?_ (by simp [resSem])
      cases hd : look st.tm d with
      | none => trivial
      | some av => exact h.tm d av hd
    | cell d T =>
      simp only [takeRes] at hk
      split at hk
      · rename_i b p hd
        split at hk
        · rename_i x hx
          obtain ⟨hcd, hk⟩ := cond_none hk
          simp only [Bool.and_eq_true] at hcd
          obtain ⟨t', cs, blk, off, he, hw, hL, hlen⟩ := ptr_read h (h.tm d _ hd) hx hcd.1
          have hty : t' = t := by
            obtain ⟨x', e1, _, e3, _⟩ := takeK_place hk
            rw [hx] at e1
            simp only [Option.some.injEq] at e1
            subst e1
            have := walk_ty w p x.t _ _ _ _ _ hw
            rw [e3] at this
            exact (Option.some.inj this).symm
          subst hty
          have hcs := hL.cellsAt
          rw [hlen] at hcs
          refine step _ (toV t' cs) hk ?_ ?_
          · intro x2 hx2 _
            rw [hx] at hx2
            simp only [Option.some.injEq] at hx2
            subst hx2
            exact ⟨t', cs, _, hw, rfl⟩
          · simp only [resSem, he, asAddr, Sem.run_bind, Sem.run_pure, Result.andThen_ok]
            exact run_loadVar (tyIs_ok hc hcd.2) hlen hcs
        · simp at hk
      · simp at hk

end
end Go.Eng
end

section
/- The engine: how a function begins. -/
namespace Go.Eng
open Go

theorem AV.all_mono {f f' : Nat → Path → Bool → Bool} (h : ∀ b p q, f b p q = true → f' b p q = true) : ∀ (v : AV), v.all f = true → v.all f' = true
  | .undef, _ | .skip, _ | .nils, _ | .val _ _, _ | .sptr _ _, _ | .tnil, _ => rfl
  | .place b p, hv => by simp only [AV.all] at hv ⊢; exact h _ _ _ hv
  | .cut b p _ _, hv => by simp only [AV.all] at hv ⊢; exact h _ _ _ hv
  | .ptr b p, hv => by simp only [AV.all] at hv ⊢; exact h _ _ _ hv
  | .fn _ c, hv => by simp only [AV.all] at hv ⊢; exact AV.all_mono h c hv
  | .tup c, hv => by simp only [AV.all] at hv ⊢; exact AV.all_mono h c hv
  | .tcons a b, hv => by
    simp only [AV.all, Bool.and_eq_true] at hv ⊢
    exact ⟨AV.all_mono h a hv.1, AV.all_mono h b hv.2⟩

def above (i : Nat) (b : Nat) (_ : Path) (_ : Bool) : Bool := decide (16 * i ≤ b)

structure Init (w : World) (i : Nat) (us : List Value) (Fs : List (Nat → Prop)) (Ps : List (Nat × Nat × Nat)) (g : Gh) (s : St) (keys : List Nat) : Prop where
  srtT : Srt s.tm
  srtB : Srt s.bx
  tmK : ∀ x ∈ s.tm, i ≤ x.1
  bxK : ∀ x ∈ s.bx, 16 * i ≤ x.1
  tm : ∀ k v, look s.tm k = some v → v.all (above i) = true ∧ ∃ u, us[k - i]? = some u ∧ AVR g s.bx w v [u]
  rd : ∀ b x, look s.bx b = some x → Rd w g.S x.t x.m (g.F b) (g.cs b) x.d
  lc : ∀ b x, look s.bx b = some x → x.r = true → Loc w (g.loc b) (g.cs b)
  dF : ∀ b1 b2 x1 x2 y, look s.bx b1 = some x1 → look s.bx b2 = some x2 → b1 ≠ b2 → g.F b1 y → ¬ g.F b2 y
  inF : ∀ b x, look s.bx b = some x → ∃ F ∈ Fs, ∀ y, g.F b y → F y
  inP : ∀ b x, look s.bx b = some x → x.r = true → ∃ q ∈ Ps, g.loc b = (q.1, q.2.1) ∧ x.t.size = q.2.2
  dP : ∀ b1 b2 x1 x2, look s.bx b1 = some x1 → look s.bx b2 = some x2 → x1.r = true → x2.r = true → b1 ≠ b2 → (g.loc b1).1 ≠ (g.loc b2).1
  ky : All2 (fun b (q : Nat × Nat × Nat) => ∃ x, look s.bx b = some x ∧ x.r = true ∧ g.loc b = (q.1, q.2.1) ∧ x.t.size = q.2.2) keys Ps
  keysK : ∀ b ∈ keys, 16 * i ≤ b
  keysD : keys.Pairwise fun b c => b ≠ c

section
variable {w : World} {i : Nat} {us : List Value} {Fs : List (Nat → Prop)} {Ps : List (Nat × Nat × Nat)} {g : Gh} {s : St} {keys : List Nat}

/-- One more argument, which has no box. -/
theorem Init.consT (h : Init w (i + 1) us Fs Ps g s keys) {v : AV} {u : Value} (hv : AVR g s.bx w v [u]) (ha : v.all (above i) = true) : Init w i (u :: us) Fs Ps g ⟨(i, v) :: s.tm, s.bx⟩ keys := by
  refine { h with srtT := ?_, tmK := ?_, bxK := fun x hx => by have := h.bxK x hx; omega, tm := ?_, keysK := fun b hb => by have := h.keysK b hb; omega }
  · exact List.pairwise_cons.2 ⟨fun x hx => by have := h.tmK x hx; simp only; omega, h.srtT⟩
  · intro x hx
    rcases List.mem_cons.1 hx with rfl | hx
    · exact Nat.le_refl _
    · have := h.tmK x hx; omega
  · intro k v' hk
    simp only [look, beq_dec] at hk
    by_cases hik : i = k
    · subst hik
      simp only [decide_true, cond_true, Option.some.injEq] at hk
      subst hk
      exact ⟨ha, u, by simp, hv⟩
    · simp only [hik, decide_false, cond_false] at hk
      obtain ⟨k1, u', k2, k3⟩ := h.tm k v' hk
      have hge := h.tmK _ (look_mem hk)
      simp only at hge
      refine ⟨AV.all_mono (fun b p q hb => ?_) v' k1, u', ?_, k3⟩
      · simp only [above, decide_eq_true_eq] at hb ⊢; omega
      · rw [show k - i = (k - (i + 1)) + 1 by omega, List.getElem?_cons_succ]; exact k2

/-- One more box. -/
def addG (g : Gh) (K : Nat) (F : Nat → Prop) (cs : List Value) (loc : Nat × Nat) : Gh :=
  { g with F := fun b => if b = K then F else g.F b, cs := fun b => if b = K then cs else g.cs b, loc := fun b => if b = K then loc else g.loc b }

theorem Init.consB (h : Init w (i + 1) us Fs Ps g s keys) {K : Nat} (hK : 16 * i ≤ K ∧ K < 16 * (i + 1)) {x : Bx} {F : Nat → Prop} {cs : List Value} {loc : Nat × Nat} {Ps' : List (Nat × Nat × Nat)} {ks' : List Nat}
    (hr : Rd w g.S x.t x.m F cs x.d) (hF : ∀ G ∈ Fs, ∀ y, F y → ¬ G y)
    (hL : (x.r = false ∧ Ps' = Ps ∧ ks' = keys) ∨ (x.r = true ∧ Loc w loc cs ∧ Ps' = (loc.1, loc.2, x.t.size) :: Ps ∧ ks' = K :: keys ∧ ∀ q ∈ Ps, loc.1 ≠ q.1)) :
    (∀ k v, look s.tm k = some v → v.all (above (i + 1)) = true ∧ ∃ u, us[k - (i + 1)]? = some u ∧ AVR (addG g K F cs loc) ((K, x) :: s.bx) w v [u]) ∧
    ∀ (u : Value) (v : AV), AVR (addG g K F cs loc) ((K, x) :: s.bx) w v [u] → v.all (above i) = true → Init w i (u :: us) (F :: Fs) Ps' (addG g K F cs loc) ⟨(i, v) :: s.tm, (K, x) :: s.bx⟩ ks' := by
  have hlt : ∀ y ∈ s.bx, K < y.1 := fun y hy => by have := h.bxK y hy; omega
  have hlk : ∀ b x', look ((K, x) :: s.bx) b = some x' → (b = K ∧ x' = x) ∨ (b ≠ K ∧ look s.bx b = some x') := by
    intro b x' hx'
    simp only [look, beq_dec] at hx'
    by_cases hb : K = b
    · subst hb
      simp only [decide_true, cond_true, Option.some.injEq] at hx'
      exact .inl ⟨rfl, hx'.symm⟩
    · simp only [hb, decide_false, cond_false] at hx'
      exact .inr ⟨Ne.symm hb, hx'⟩
  have hlk2 : ∀ b x', look s.bx b = some x' → b ≠ K ∧ look ((K, x) :: s.bx) b = some x' := by
    intro b x' hx'
    have hne : K ≠ b := fun he => by have := hlt _ (look_mem hx'); simp only at this; omega
    refine ⟨Ne.symm hne, ?_⟩
    simp only [look, beq_dec, hne, decide_false, cond_false]
    exact hx'
  have eF : ∀ b, b ≠ K → (addG g K F cs loc).F b = g.F b := fun b hb => by simp only [addG, if_neg hb]
  have eC : ∀ b, b ≠ K → (addG g K F cs loc).cs b = g.cs b := fun b hb => by simp only [addG, if_neg hb]
  have eL : ∀ b, b ≠ K → (addG g K F cs loc).loc b = g.loc b := fun b hb => by simp only [addG, if_neg hb]
  have eF0 : (addG g K F cs loc).F K = F := by simp only [addG, if_true]
  have eC0 : (addG g K F cs loc).cs K = cs := by simp only [addG, if_true]
  have eL0 : (addG g K F cs loc).loc K = loc := by simp only [addG, if_true]
  have hold : ∀ v vs, v.all (above (i + 1)) = true → AVR g s.bx w v vs → AVR (addG g K F cs loc) ((K, x) :: s.bx) w v vs := by
    intro v vs ha hv
    refine AVR_step (g := g) (g' := addG g K F cs loc) (bx := s.bx) (bx' := (K, x) :: s.bx) (above (i + 1)) (fun y hy => ⟨hy, rfl⟩) ?_ v vs ha hv
    intro b p q hb x' hx' ho
    simp only [above, decide_eq_true_eq] at hb
    rcases hlk b x' hx' with ⟨rfl, _⟩ | ⟨hne, hx0⟩
    · omega
    · refine ⟨x', hx0, ho, fun t' cs' l' hw => ⟨cs', ?_, fun _ => rfl⟩⟩
      rw [eC b hne]
      simp only [locOf, eL b hne] at hw ⊢
      exact hw
  have htm : ∀ k v, look s.tm k = some v → v.all (above (i + 1)) = true ∧ ∃ u, us[k - (i + 1)]? = some u ∧ AVR (addG g K F cs loc) ((K, x) :: s.bx) w v [u] := by
    intro k v hk
    obtain ⟨k1, u, k2, k3⟩ := h.tm k v hk
    exact ⟨k1, u, k2, hold v _ k1 k3⟩
  refine ⟨htm, fun u v hv ha => ?_⟩
  exact {
    srtT := List.pairwise_cons.2 ⟨fun y hy => by have := h.tmK y hy; simp only; omega, h.srtT⟩
    srtB := List.pairwise_cons.2 ⟨fun y hy => hlt y hy, h.srtB⟩
    tmK := fun y hy => by
      rcases List.mem_cons.1 hy with rfl | hy
      · exact Nat.le_refl _
      · have := h.tmK y hy; omega
    bxK := fun y hy => by
      rcases List.mem_cons.1 hy with rfl | hy
      · simp only; omega
      · have := h.bxK y hy; omega
    tm := fun k v' hk => by
      simp only [look, beq_dec] at hk
      by_cases hik : i = k
      · subst hik
        simp only [decide_true, cond_true, Option.some.injEq] at hk
        subst hk
        exact ⟨ha, u, by simp, hv⟩
      · simp only [hik, decide_false, cond_false] at hk
        obtain ⟨k1, u', k2, k3⟩ := htm k v' hk
        have hge := h.tmK _ (look_mem hk)
        simp only at hge
        refine ⟨AV.all_mono (fun b p q hb => ?_) v' k1, u', ?_, k3⟩
        · simp only [above, decide_eq_true_eq] at hb ⊢; omega
        · rw [show k - i = (k - (i + 1)) + 1 by omega, List.getElem?_cons_succ]; exact k2
    rd := fun b x' hx' => by
      rcases hlk b x' hx' with ⟨rfl, rfl⟩ | ⟨hne, hx0⟩
      · rw [eF0, eC0]; exact hr
      · rw [eF b hne, eC b hne]; exact h.rd b x' hx0
    lc := fun b x' hx' hr' => by
      rcases hlk b x' hx' with ⟨rfl, rfl⟩ | ⟨hne, hx0⟩
      · rw [eL0, eC0]
        rcases hL with ⟨h1, _⟩ | ⟨_, h1, _⟩
        · rw [h1] at hr'; simp at hr'
        · exact h1
      · rw [eL b hne, eC b hne]; exact h.lc b x' hx0 hr'
    dF := fun b1 b2 x1 x2 y h1 h2 hne hy1 hy2 => by
      rcases hlk b1 x1 h1 with ⟨rfl, rfl⟩ | ⟨hn1, h1'⟩ <;> rcases hlk b2 x2 h2 with ⟨rfl, rfl⟩ | ⟨hn2, h2'⟩
      · exact hne rfl
      · rw [eF0] at hy1
        rw [eF b2 hn2] at hy2
        obtain ⟨G, hG, hG2⟩ := h.inF b2 x2 h2'
        exact hF G hG y hy1 (hG2 y hy2)
      · rw [eF0] at hy2
        rw [eF b1 hn1] at hy1
        obtain ⟨G, hG, hG2⟩ := h.inF b1 x1 h1'
        exact hF G hG y hy2 (hG2 y hy1)
      · rw [eF b1 hn1] at hy1
        rw [eF b2 hn2] at hy2
        exact h.dF b1 b2 x1 x2 y h1' h2' hne hy1 hy2
    inF := fun b x' hx' => by
      rcases hlk b x' hx' with ⟨rfl, rfl⟩ | ⟨hne, hx0⟩
      · exact ⟨F, by simp, fun y hy => by rw [eF0] at hy; exact hy⟩
      · obtain ⟨G, hG, hG2⟩ := h.inF b x' hx0
        exact ⟨G, by simp [hG], fun y hy => by rw [eF b hne] at hy; exact hG2 y hy⟩
    inP := fun b x' hx' hr' => by
      rcases hlk b x' hx' with ⟨rfl, rfl⟩ | ⟨hne, hx0⟩
      · rcases hL with ⟨h1, _⟩ | ⟨_, _, h2, _⟩
        · rw [h1] at hr'; simp at hr'
        · exact ⟨(loc.1, loc.2, x'.t.size), by simp [h2], by rw [eL0], rfl⟩
      · obtain ⟨q, hq, h1, h2⟩ := h.inP b x' hx0 hr'
        refine ⟨q, ?_, by rw [eL b hne]; exact h1, h2⟩
        rcases hL with ⟨_, h3, _⟩ | ⟨_, _, h3, _⟩
        · rw [h3]; exact hq
        · rw [h3]; simp [hq]
    dP := fun b1 b2 x1 x2 h1 h2 hr1 hr2 hne => by
      rcases hlk b1 x1 h1 with ⟨rfl, rfl⟩ | ⟨hn1, h1'⟩ <;> rcases hlk b2 x2 h2 with ⟨rfl, rfl⟩ | ⟨hn2, h2'⟩
      · exact absurd rfl hne
      · rcases hL with ⟨h3, _⟩ | ⟨_, _, _, _, h3⟩
        · rw [h3] at hr1; simp at hr1
        · obtain ⟨q, hq, e1, _⟩ := h.inP b2 x2 h2' hr2
          rw [eL0, eL b2 hn2, e1]
          exact h3 q hq
      · rcases hL with ⟨h3, _⟩ | ⟨_, _, _, _, h3⟩
        · rw [h3] at hr2; simp at hr2
        · obtain ⟨q, hq, e1, _⟩ := h.inP b1 x1 h1' hr1
          rw [eL0, eL b1 hn1, e1]
          exact Ne.symm (h3 q hq)
      · rw [eL b1 hn1, eL b2 hn2]
        exact h.dP b1 b2 x1 x2 h1' h2' hr1 hr2 hne
    ky := by
      have hk : All2 (fun b (q : Nat × Nat × Nat) => ∃ x', look ((K, x) :: s.bx) b = some x' ∧ x'.r = true ∧ (addG g K F cs loc).loc b = (q.1, q.2.1) ∧ x'.t.size = q.2.2) keys Ps := by
        refine h.ky.imp ?_
        rintro b q ⟨x', e1, e2, e3, e4⟩
        obtain ⟨hne, e5⟩ := hlk2 b x' e1
        exact ⟨x', e5, e2, by rw [eL b hne]; exact e3, e4⟩
      rcases hL with ⟨_, h3, h4⟩ | ⟨h2, _, h3, h4, _⟩
      · rw [h3, h4]; exact hk
      · rw [h3, h4]
        exact .cons ⟨x, by simp [look], h2, by rw [eL0], rfl⟩ hk
    keysK := fun b hb => by
      rcases hL with ⟨_, _, h4⟩ | ⟨_, _, _, h4, _⟩
      · rw [h4] at hb; have := h.keysK b hb; omega
      · rw [h4] at hb
        rcases List.mem_cons.1 hb with rfl | hb
        · omega
        · have := h.keysK b hb; omega
    keysD := by
      rcases hL with ⟨_, _, h4⟩ | ⟨_, _, _, h4, _⟩
      · rw [h4]; exact h.keysD
      · rw [h4]; exact List.pairwise_cons.2 ⟨fun c hc he => by have := h.keysK c hc; omega, h.keysD⟩ }

end
end Go.Eng
end

section
/- The engine: a function's run, and what it is known to do. -/
namespace Go.Eng
open Go

section
variable {P : Program} {E : En} {cx : Cx} {n : Nat} {g : Gh} {st : St} {a : Act} {w : World} {R : Type}

theorem initCaps_sound {S : Nat → Prop} {i : Nat} : ∀ {kc : List PK} {ws : List Value} {dc ds : List Dat} {c : AV × List Dat}, Sps w S kc ws dc → initCaps kc (dc ++ ds) = some c → c.2 = ds ∧ c.1.all (above i) = true ∧ ∀ (g : Gh) (bx : List (Nat × Bx)), g.S = S → AVR g bx w c.1 ws
  | _, _, _, ds, c, .nil, h => by
    simp only [initCaps, List.nil_append, Option.some.injEq] at h
    subst h
    exact ⟨rfl, rfl, fun g bx _ => rfl⟩
  | _, _, _, ds, c, .cons hS hr hs, h => by
    simp only [List.cons_append, initCaps, Dat.as_self] at h
    split at h
    · rename_i d' r hd hr'
      simp only [Option.some.injEq] at hd h
      subst hd h
      obtain ⟨h1, h2, h3⟩ := initCaps_sound (i := i) hs hr'
      refine ⟨h1, by simp only [AV.all, h2, Bool.and_self], fun g bx hg => ⟨_, _, rfl, ⟨_, _, rfl, by rw [hg]; exact hS, by rw [hg]; exact hr⟩, h3 g bx hg⟩⟩
    · simp at h

theorem initS_sound {S : Nat → Prop} : ∀ {ps : List PK} {us : List Value} {ds : List Dat} {Fs : List (Nat → Prop)} {Ps : List (Nat × Nat × Nat)} {i : Nat} {s : St × List Nat}, ArgsOk w S ps us ds Fs Ps → initS i ps ds = some s →
    Fs.Pairwise (fun F G => ∀ y, F y → ¬ G y) → Ps.Pairwise (fun q q' => q.1 ≠ q'.1) → ∃ g, g.S = S ∧ Init w i us Fs Ps g s.1 s.2
  | _, _, _, _, _, i, s, .nil, h, _, _ => by
    simp only [initS, Option.some.injEq] at h
    subst h
    exact ⟨⟨S, fun _ => (0, 0), fun _ => [], fun _ => none'⟩, rfl, ⟨.nil, .nil, by simp, by simp, by simp [look], by simp [look], by simp [look], by simp [look], by simp [look], by simp [look], by simp [look], .nil, by simp, .nil⟩⟩
  | _, _, _, _, _, i, s, .bor hr ha, h, hF, hP => by
    simp only [initS, Dat.as_self] at h
    split at h
    · rename_i d' r hd hr'
      simp only [Option.some.injEq] at hd h
      subst hd h
      obtain ⟨g, hg, hI⟩ := initS_sound ha hr' hF hP
      exact ⟨g, hg, hI.consT ⟨_, by rw [hg]; exact hr, rfl⟩ rfl⟩
    · simp at h
  | _, _, _, _, _, i, s, .sp hS hr ha, h, hF, hP => by
    simp only [initS, Dat.as_self] at h
    split at h
    · rename_i d' r hd hr'
      simp only [Option.some.injEq] at hd h
      subst hd h
      obtain ⟨g, hg, hI⟩ := initS_sound ha hr' hF hP
      exact ⟨g, hg, hI.consT ⟨_, _, rfl, by rw [hg]; exact hS, by rw [hg]; exact hr⟩ rfl⟩
    · simp at h
  | _, _, _, _, _, i, s, .own (t := t) (m := m) (F := F) (cs := cs) (d := d) hr hf ha, h, hF, hP => by
    simp only [initS, Dat.as_self] at h
    split at h
    · rename_i d' r hd hr'
      simp only [Option.some.injEq] at hd h
      subst hd h
      have hF' := List.pairwise_cons.1 hF
      obtain ⟨g, hg, hI⟩ := initS_sound ha hr' hF'.2 hP
      have := (hI.consB (K := kVal i) (by unfold kVal; omega) (x := ⟨t, m, d, false⟩) (F := F) (cs := cs) (loc := (0, 0)) (by rw [hg]; exact hr) hF'.1 (.inl ⟨rfl, rfl, rfl⟩)).2 (toV t cs) (.place (kVal i) [])
      refine ⟨addG g (kVal i) F cs (0, 0), hg, this ?_ ?_⟩
      · intro x' hx' _
        simp only [look, beq_dec, decide_true, cond_true, Option.some.injEq] at hx'
        subst hx'
        exact ⟨t, cs, none, by simp [walk, locOf, addG], rfl⟩
      · exact decide_eq_true (show 16 * i ≤ kVal i by unfold kVal; omega)
    · simp at h
  | _, _, _, _, _, i, s, .ptr (t := t) (m := m) (F := F) (cs := cs) (d := d) (blk := blk) (off := off) hr hf hL ha, h, hF, hP => by
    simp only [initS, Dat.as_self] at h
    split at h
    · rename_i d' r hd hr'
      simp only [Option.some.injEq] at hd h
      subst hd h
      have hF' := List.pairwise_cons.1 hF
      have hP' := List.pairwise_cons.1 hP
      obtain ⟨g, hg, hI⟩ := initS_sound ha hr' hF'.2 hP'.2
      have := (hI.consB (K := kTop i) (by unfold kTop; omega) (x := ⟨t, m, d, true⟩) (F := F) (cs := cs) (loc := (blk, off)) (by rw [hg]; exact hr) hF'.1 (.inr ⟨rfl, hL, rfl, rfl, hP'.1⟩)).2 (.pointer (some ⟨blk, off, none⟩)) (.ptr (kTop i) [])
      refine ⟨addG g (kTop i) F cs (blk, off), hg, this ?_ ?_⟩
      · intro x' hx' _
        simp only [look, beq_dec, decide_true, cond_true, Option.some.injEq] at hx'
        subst hx'
        exact ⟨t, cs, blk, off, by simp [walk, locOf, addG], rfl⟩
      · exact decide_eq_true (show 16 * i ≤ kTop i by unfold kTop; omega)
    · simp at h
  | _, _, _, _, _, i, s, .fnc hs ha, h, hF, hP => by
    simp only [initS] at h
    split at h
    · rename_i c hc
      obtain ⟨h1, h2, h3⟩ := initCaps_sound (i := i) hs hc
      split at h
      · rename_i r hr'
        simp only [Option.some.injEq] at h
        subst h
        rw [h1] at hr'
        obtain ⟨g, hg, hI⟩ := initS_sound ha hr' hF hP
        exact ⟨g, hg, hI.consT ⟨_, rfl, h3 g _ hg⟩ (by simpa only [AV.all] using h2)⟩
      · simp at h
    · simp at h

end
end Go.Eng
end

section
/- The engine: a function's run, and what it is known to do. -/
namespace Go.Eng
open Go

section
variable {P : Program} {E : En} {cx : Cx} {n : Nat} {g : Gh} {st : St} {a : Act} {w : World} {R : Type}

theorem takeOuts_sound (h : Rel E n g st a w) : ∀ {keys : List Nat} {os : List (Ty × Md)} {ro : List Dat} {Ps : List (Nat × Nat × Nat)}, takeOuts st keys os = some ro →
    All2 (fun b (q : Nat × Nat × Nat) => ∀ x, look st.bx b = some x → x.r = true ∧ g.loc b = (q.1, q.2.1) ∧ x.t.size = q.2.2) keys Ps → keys.Pairwise (fun b c => b ≠ c) →
    ∃ Os, OutsOk w g.S Ps os ro Os ∧ Os.Pairwise (fun F H => ∀ y, F y → ¬ H y) ∧ ∀ F ∈ Os, ∃ b ∈ keys, ∃ x, look st.bx b = some x ∧ F = g.F b
  | [], [], ro, Ps, hk, hA, hd => by
    cases hA
    simp only [takeOuts, Option.some.injEq] at hk
    subst hk
    exact ⟨[], .nil, .nil, by simp⟩
  | [], _ :: _, ro, Ps, hk, hA, hd => by simp [takeOuts] at hk
  | _ :: _, [], ro, Ps, hk, hA, hd => by simp [takeOuts] at hk
  | b :: keys, (t, m) :: os, ro, Ps, hk, hA, hd => by
    cases hA with
    | @cons _ q _ Ps hq hA =>
    simp only [takeOuts] at hk
    split at hk
    · rename_i x hx
      split at hk
      · rename_i d hdat
        have := Dat.as_some hdat
        simp only [Sigma.mk.injEq] at this
        obtain ⟨rfl, hdd⟩ := this
        simp only [heq_eq_eq] at hdd
        subst hdd
        obtain ⟨hc, hk⟩ := cond_none hk
        simp only [Bool.and_eq_true] at hc
        split at hk
        · rename_i r hr
          simp only [Option.some.injEq] at hk
          subst hk
          have hd' := List.pairwise_cons.1 hd
          obtain ⟨Os, e1, e2, e3⟩ := takeOuts_sound h hr hA hd'.2
          obtain ⟨q1, q2, q3⟩ := hq x hx
          have hL := h.lc b x hx q1
          rw [q2] at hL
          obtain ⟨k1, k2⟩ := mdOk_Rd hc.1 hc.2 (h.rd b x hx)
          have hq' : q = (q.1, q.2.1, x.t.size) := by rw [q3]
          refine ⟨g.F b :: Os, ?_, ?_, ?_⟩
          · rw [hq']
            exact .cons k1 k2 hL e1
          · refine List.pairwise_cons.2 ⟨fun F hF y hy hy2 => ?_, e2⟩
            obtain ⟨b', hb', x', hx', rfl⟩ := e3 F hF
            exact h.dF b b' x x' y hx hx' (hd'.1 b' hb') hy hy2
          · intro F hF
            rcases List.mem_cons.1 hF with rfl | hF
            · exact ⟨b, by simp, x, hx, rfl⟩
            · obtain ⟨b', hb', rest⟩ := e3 F hF
              exact ⟨b', by simp [hb'], rest⟩
        · simp at hk
      · simp at hk
    · simp at hk

end
end Go.Eng
end
