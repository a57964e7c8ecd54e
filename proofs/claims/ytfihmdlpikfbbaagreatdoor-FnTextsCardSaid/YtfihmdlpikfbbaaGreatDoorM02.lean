/- Part 2 of 20 of a claim; what is proved, and under which conditions, stands in the last part. Here: EngE, EngF, EngG. -/
import Derived.Test.YtfihmdlpikfbbaaGreatDoorM01
set_option linter.unusedVariables false
set_option linter.unusedSimpArgs false
set_option linter.unusedSectionVars false
section
/- The engine's ground: what a value reads as once a part of it has been replaced. -/
namespace Go.Eng
open Go

theorem walk_via (w : World) : ∀ (p : Path) (t : Ty) (cs : List Value) (l l2 : Option (Nat × Nat)), viaSl t p = true → walk w t p cs l = walk w t p cs l2
  | [], t, cs, l, l2, h => by cases t <;> simp [viaSl] at h
  | s :: p, t, cs, l, l2, h => by
    cases t <;> cases s <;> simp only [viaSl] at h <;> try (simp at h; done)
    · simp only [walk]; exact walk_via w p _ _ _ _ h
    · simp only [walk]; exact walk_via w p _ _ _ _ h
    · simp only [walk]

theorem nat_chunks {i j sz : Nat} (h : i ≠ j) : i * sz + sz ≤ j * sz ∨ j * sz + sz ≤ i * sz := by
  rcases Nat.lt_or_gt_of_ne h with h | h
  · left
    have : (i + 1) * sz ≤ j * sz := Nat.mul_le_mul_right _ h
    rwa [Nat.add_mul, Nat.one_mul] at this
  · right
    have : (j + 1) * sz ≤ i * sz := Nat.mul_le_mul_right _ h
    rwa [Nat.add_mul, Nat.one_mul] at this

theorem chunk_in {i n sz : Nat} (h : i < n) : i * sz + sz ≤ n * sz := by
  have : (i + 1) * sz ≤ n * sz := Nat.mul_le_mul_right _ h
  rwa [Nat.add_mul, Nat.one_mul] at this

/-- A path through no slice. -/
def noSl : Ty → Path → Bool
  | _, [] => true
  | .pair a _, .fst :: p => noSl a p
  | .pair _ b, .snd :: p => noSl b p
  | _, _ :: _ => false

/-- Where q is written, an address at the end of P is as it was. -/
def indA : Ty → Path → Path → Bool
  | t, [], P => noSl t P
  | _, _ :: _, [] => true
  | .pair a b, s :: q, s2 :: P => match s, s2 with
    | .fst, .fst => indA a q P
    | .snd, .snd => indA b q P
    | .fst, .snd => true
    | .snd, .fst => true
    | _, _ => false
  | .slice e, s :: q, s2 :: P => match s, s2 with
    | .ix _, .ix _ => indA e q P
    | _, _ => false
  | .arr _ e, s :: _, s2 :: P => match s, s2 with
    | .ix _, .ix _ => noSl e P
    | _, _ => false
  | _, _ :: _, _ :: _ => false

/-- Where q is written, the cells at the end of P are as they were. -/
def indP : Ty → Path → Path → Bool
  | _, [], _ => false
  | t, s :: q, [] => viaSl t (s :: q)
  | .pair a b, s :: q, s2 :: P => match s, s2 with
    | .fst, .fst => indP a q P
    | .snd, .snd => indP b q P
    | .fst, .snd => true
    | .snd, .fst => true
    | _, _ => false
  | .slice e, s :: q, s2 :: P => match s, s2 with
    | .ix _, .ix _ => indP e q P
    | _, _ => false
  | _, _ :: _, _ :: _ => false

theorem walk_noSl (w w2 : World) : ∀ (P : Path) (t : Ty) (cs cs2 : List Value) (l : Option (Nat × Nat)) (tP : Ty) (csP : List Value) (lP : Option (Nat × Nat)),
    noSl t P = true → walk w t P cs l = some (tP, csP, lP) → ∃ csP', walk w2 t P cs2 l = some (tP, csP', lP)
  | [], t, cs, cs2, l, tP, csP, lP, h, hw => by
    simp only [walk, Option.some.injEq, Prod.mk.injEq] at hw ⊢
    obtain ⟨rfl, rfl, rfl⟩ := hw
    exact ⟨cs2, rfl, rfl, rfl⟩
  | s :: P, t, cs, cs2, l, tP, csP, lP, h, hw => by
    cases t <;> cases s <;> simp only [walk, noSl] at hw h ⊢ <;> try (simp at hw; done)
    · exact walk_noSl w w2 P _ _ _ _ _ _ _ h hw
    · exact walk_noSl w w2 P _ _ _ _ _ _ _ h hw
    · simp at h
    · simp at h

/-- The conclusion of 'write_walk', by itself. -/
def Writes (w : World) (S : Nat → Prop) (t : Ty) (m : Md) (F : Nat → Prop) (cs : List Value) (d : t.den) (p : Path) (t' : Ty) (cs' : List Value) (l l' : Option (Nat × Nat)) : Prop :=
  ∃ (d' : t'.den) (F' : Nat → Prop), (∀ x, F' x → F x) ∧ getD t p d = some ⟨t', d'⟩ ∧ Rd w S t' (getW t m p) F' cs' d' ∧
    (∀ b o, l' = some (b, o) → ¬ F' b ∧ ((viaSl t p = true ∧ F b) ∨ (viaSl t p = false ∧ ∃ o2, l = some (b, o2)))) ∧
    ∀ (w2 : World) (S2 F2 : Nat → Prop) (m2 : Md) (cs2 : List Value) (d2 : t'.den), (∀ b, S b → S2 b ∧ w2.heap[b]? = w.heap[b]?) → (t'.flat = true → full t' m2 = true) →
      Rd w2 S2 t' m2 F2 cs2 d2 → (∀ x, F2 x → ¬ (F x ∧ ¬ F' x)) → (∀ b, F b → ¬ F' b → Keeps w w2 l' cs2 b) →
      (∃ dn, setD t p d ⟨t', d2⟩ = some dn ∧ Rd w2 S2 t (setM t m p m2) (fun x => (F x ∧ ¬ F' x) ∨ F2 x) (patch t p cs cs2) dn) ∧
      ∀ (P : Path) (tP : Ty) (csP : List Value) (lP : Option (Nat × Nat)), walk w t P cs l = some (tP, csP, lP) → okR t m P = true → indA t p P = true →
        ∃ csP', walk w2 t P (patch t p cs cs2) l = some (tP, csP', lP) ∧ (indP t p P = true → csP' = csP)

theorem Md.mkIx_elem (i : Int) (m : Md) (j : Nat) : (Md.mkIx i m).elem j = if i = (j : Int) then m else .own := by
  cases m <;> simp [Md.mkIx, Md.elem]

/-- An element of a slice that is mine. -/
theorem write_elem (w : World) (S : Nat → Prop) (e : Ty) (p : Path) (m : Md) (F : Nat → Prop) (cs : List Value) (d : List e.den) (i : Int) (l : Option (Nat × Nat)) (t' : Ty) (cs' : List Value) (l' : Option (Nat × Nat)) (mk : Md)
    (base : Option Addr) (len cap : Nat) (hcs : cs = [.slice base len cap]) (hl : d.length = len) (hc : len ≤ cap)
    (h4 : cap = 0 ∨ ∃ b off c el, base = some ⟨b, off, none⟩ ∧ F b ∧ w.heap[b]? = some (.cells c el (0, 0)) ∧ off + cap * e.size ≤ c.size ∧ ∃ Fi : Nat → Nat → Prop, (∀ i x, Fi i x → F x ∧ x ≠ b) ∧
        (∀ i j x, i ≠ j → Fi i x → ¬ Fi j x) ∧ ∀ j (_ : j < d.length), Rd w S e (m.elem j) (Fi j) (chunk c.toList (off + j * e.size) e.size) d[j])
    (hw : walk w (.slice e) (.ix i :: p) cs l = some (t', cs', l')) (hmk : m.elem i.toNat = mk) (hmo : ∀ j, j ≠ i.toNat → m.elem j = .own)
    (hok : okP e mk p = true) (hgw : getW (.slice e) m (.ix i :: p) = getW e mk p) (hsm : ∀ u, setM (.slice e) m (.ix i :: p) u = Md.mkIx i (setM e mk p u))
    (ih : ∀ (F : Nat → Prop) (cs : List Value) (d : e.den) (l : Option (Nat × Nat)), Rd w S e mk F cs d → walk w e p cs l = some (t', cs', l') → okP e mk p = true → (∀ b o, l = some (b, o) → ¬ F b) →
      Writes w S e mk F cs d p t' cs' l l') :
    Writes w S (.slice e) m F cs d (.ix i :: p) t' cs' l l' := by
  subst hcs
  simp only [walk] at hw
  rcases h4 with h4 | ⟨b, off, c, el, rfl, hFb, hh, hoc, Fi, hFi, hd, hr⟩
  · split at hw
    · rename_i heq
      simp at heq
      split at hw
      · omega
      · simp at hw
    · simp at hw
  · simp only at hw
    split at hw
    case isFalse => simp at hw
    rename_i hi
    have hi' : i.toNat < d.length := by omega
    have hii : (i.toNat : Int) = i := by omega
    rw [cellsAt_eq hh] at hw
    have hrk := hr i.toNat hi'
    rw [hmk] at hrk
    have hck : off + i.toNat * e.size + e.size ≤ c.toList.length := by
      have := chunk_in (sz := e.size) (show i.toNat < cap by omega)
      simp; omega
    obtain ⟨d', F', hF', hg, hrd, hinfo, hrest⟩ := ih _ _ _ _ hrk hw hok (fun b' o' hb' => by
      simp only [Option.some.injEq, Prod.mk.injEq] at hb'
      intro hf
      exact (hFi _ _ hf).2 hb'.1.symm)
    have hbF' : ¬ F' b := fun hf => (hFi _ _ (hF' _ hf)).2 rfl
    refine ⟨d', F', fun x hx => (hFi _ x (hF' x hx)).1, by simp only [getD]; rw [getD_eq d _ _ hi']; exact hg, by rw [hgw]; exact hrd, ?_, ?_⟩
    · intro b' o' hb'
      obtain ⟨h1, h2⟩ := hinfo b' o' hb'
      refine ⟨h1, .inl ⟨rfl, ?_⟩⟩
      rcases h2 with ⟨_, h2⟩ | ⟨_, o2, h2⟩
      · exact (hFi _ _ h2).1
      · simp only [Option.some.injEq, Prod.mk.injEq] at h2
        rw [← h2.1]; exact hFb
    · intro w2 S2 F2 m2 cs2 d2 hS hfl hr2 hF2 hK
      have hcs2 := Rd_len _ _ _ _ _ _ _ hr2
      obtain ⟨⟨dn, hdn, hrn⟩, hwk⟩ := hrest w2 S2 F2 m2 cs2 d2 hS hfl hr2 (fun x hx hc' => hF2 x hx ⟨(hFi _ x hc'.1).1, hc'.2⟩) (fun b' h1 h2 => hK b' (hFi _ _ h1).1 h2)
      -- the block of the row, as it is now
      have hblk : ∃ c2, w2.heap[b]? = some (.cells c2 el (0, 0)) ∧ c2.size = c.size ∧ chunk c2.toList (off + i.toNat * e.size) e.size = patch e p (chunk c.toList (off + i.toNat * e.size) e.size) cs2 ∧
          ∀ j, j ≠ i.toNat → chunk c2.toList (off + j * e.size) e.size = chunk c.toList (off + j * e.size) e.size := by
        have hKb := hK b hFb hbF'
        by_cases hv : viaSl e p = true
        · have hsame : w2.heap[b]? = w.heap[b]? := by
            unfold Keeps at hKb
            split at hKb
            · rename_i b' o' 
              split at hKb
              · rename_i hbb
                subst hbb
                obtain ⟨_, h2⟩ := hinfo _ _ rfl
                rcases h2 with ⟨_, h2⟩ | ⟨h2, _⟩
                · exact absurd rfl (hFi _ _ h2).2
                · rw [hv] at h2; simp at h2
              · exact hKb
            · exact hKb
          exact ⟨c, by rw [hsame]; exact hh, rfl, by rw [patch_via _ _ _ _ hv], fun _ _ => rfl⟩
        · have hv' : viaSl e p = false := by simpa using hv
          obtain ⟨δ, e1, e2, e3, e4⟩ := walk_noix w p e mk _ _ _ _ _ (by rw [chunk_length hck]) hw hv' hok
          subst e1
          simp only [Keeps, Option.map_some, if_true] at hKb
          obtain ⟨c0, c2, el0, k1, k2, k3, k4⟩ := hKb
          rw [hh] at k1
          simp only [Option.some.injEq, Obj.cells.injEq] at k1
          obtain ⟨rfl, rfl, _⟩ := k1
          refine ⟨c2, k2, ?_, ?_, ?_⟩
          · have := congrArg List.length k3
            rw [splice_length (by omega)] at this
            simpa using this
          · rw [e4 cs2 hcs2, k3]
            apply List.ext_getElem?
            intro q
            rw [getElem?_splice (by rw [chunk_length hck]; omega)]
            simp only [chunk, List.getElem?_take, List.getElem?_drop]
            by_cases hq : q < e.size
            · rw [if_pos hq, getElem?_splice (by omega)]
              by_cases q1 : q < δ
              · rw [if_pos (by omega), if_pos q1, if_pos hq]
              · rw [if_neg (by omega), if_neg q1]
                by_cases q2 : q < δ + cs2.length
                · rw [if_pos (by omega), if_pos q2]; congr 1; omega
                · rw [if_neg (by omega), if_neg q2, if_pos hq]
            · rw [if_neg hq, if_neg (by omega), if_neg (by omega), if_neg hq]
          · intro j hj
            rw [k3]
            refine chunk_splice_apart (by omega) ?_
            have := nat_chunks (sz := e.size) hj
            omega
      obtain ⟨c2, hh2, hsz, hck2, hoth⟩ := hblk
      -- the other elements stay
      have hkeep : ∀ j, j ≠ i.toNat → ∀ x, Fi j x → w2.heap[x]? = w.heap[x]? := by
        intro j hj x hx
        have hxF' : ¬ F' x := fun hf => hd _ _ x hj hx (hF' x hf)
        have hKx := hK x (hFi _ _ hx).1 hxF'
        unfold Keeps at hKx
        split at hKx
        · rename_i b' o'
          split at hKx
          · rename_i hbb
            subst hbb
            obtain ⟨_, h2⟩ := hinfo _ _ rfl
            rcases h2 with ⟨_, h2⟩ | ⟨_, o2, h2⟩
            · exact absurd h2 (hd _ _ x hj hx)
            · simp only [Option.some.injEq, Prod.mk.injEq] at h2
              exact absurd h2.1.symm (hFi _ _ hx).2
          · exact hKx
        · exact hKx
      have hres : ∃ base' len' cap', [Value.slice (some ⟨b, off, none⟩) len cap] = [Value.slice base' len' cap'] ∧ (List.set d i.toNat dn).length = len' ∧ len' ≤ cap' ∧ (cap' = 0 ∨ ∃ b off c el, base' = some ⟨b, off, none⟩ ∧ ((F b ∧ ¬ F' b) ∨ F2 b) ∧
          w2.heap[b]? = some (.cells c el (0, 0)) ∧ off + cap' * e.size ≤ c.size ∧ ∃ Fi : Nat → Nat → Prop, (∀ i x, Fi i x → ((F x ∧ ¬ F' x) ∨ F2 x) ∧ x ≠ b) ∧
          (∀ i j x, i ≠ j → Fi i x → ¬ Fi j x) ∧ ∀ j (_ : j < (List.set d i.toNat dn).length), Rd w2 S2 e ((Md.mkIx i (setM e mk p m2)).elem j) (Fi j) (chunk c.toList (off + j * e.size) e.size) (List.set d i.toNat dn)[j]) := by
        refine ⟨_, _, _, rfl, by simpa using hl, hc, .inr ⟨b, off, c2, el, rfl, .inl ⟨hFb, hbF'⟩, hh2, by omega, fun j x => if j = i.toNat then (Fi j x ∧ ¬ F' x) ∨ F2 x else Fi j x, ?_, ?_, ?_⟩⟩
        · intro j x hx
          split at hx
          · rcases hx with ⟨hx, hn⟩ | hx
            · exact ⟨.inl ⟨(hFi _ _ hx).1, hn⟩, (hFi _ _ hx).2⟩
            · exact ⟨.inr hx, fun hxb => hF2 x hx (by subst hxb; exact ⟨hFb, hbF'⟩)⟩
          · rename_i hj
            exact ⟨.inl ⟨(hFi _ _ hx).1, fun hf => hd _ _ x hj hx (hF' x hf)⟩, (hFi _ _ hx).2⟩
        · have cross : ∀ j, j ≠ i.toNat → ∀ x, (Fi i.toNat x ∧ ¬ F' x) ∨ F2 x → ¬ Fi j x := by
            rintro j hj x (⟨hx, _⟩ | hx) hy
            · exact hd _ _ x (Ne.symm hj) hx hy
            · exact hF2 x hx ⟨(hFi _ _ hy).1, fun hf => hd _ _ x hj hy (hF' x hf)⟩
          intro j1 j2 x hne hx hy
          by_cases a1 : j1 = i.toNat
          · subst a1
            rw [if_pos rfl] at hx
            rw [if_neg (Ne.symm hne)] at hy
            exact cross j2 (Ne.symm hne) x hx hy
          · rw [if_neg a1] at hx
            by_cases a2 : j2 = i.toNat
            · subst a2
              rw [if_pos rfl] at hy
              exact cross j1 a1 x hy hx
            · rw [if_neg a2] at hy
              exact hd _ _ x hne hx hy
        · intro j hj
          simp only [List.length_set] at hj
          rw [Md.mkIx_elem]
          by_cases hji : j = i.toNat
          · subst hji
            rw [if_pos hii.symm, hck2]
            simp only [if_true, List.getElem_set_self]
            exact hrn
          · rw [if_neg (by omega), hoth j hji]
            simp only [if_neg hji]
            rw [List.getElem_set_ne (by omega)]
            have := hr j hj
            rw [hmo j hji] at this
            exact Rd_frame w w2 S S2 hS e _ _ _ _ (hkeep j hji) this
      refine ⟨⟨List.set d i.toNat dn, by simp only [setD]; rw [getD_eq d _ _ hi', hdn]; rfl, ?_⟩, ?_⟩
      case refine_2 =>
        intro P tP csP lP hwP hoP hind
        cases P with
        | nil =>
          simp only [walk, Option.some.injEq, Prod.mk.injEq] at hwP ⊢
          obtain ⟨rfl, rfl, rfl⟩ := hwP
          exact ⟨_, ⟨rfl, rfl, rfl⟩, fun _ => rfl⟩
        | cons s P =>
          cases s with
          | fst => simp [walk] at hwP
          | snd => simp [walk] at hwP
          | ix k =>
            simp only [walk] at hwP
            split at hwP
            case isFalse => simp at hwP
            rename_i hk
            have hpt : patch (.slice e) (.ix i :: p) [Value.slice (some ⟨b, off, none⟩) len cap] cs2 = [Value.slice (some ⟨b, off, none⟩) len cap] := rfl
            rw [hpt]
            simp only [walk, if_pos hk]
            rw [cellsAt_eq hh2]
            rw [cellsAt_eq hh] at hwP
            by_cases hki : k.toNat = i.toNat
            · have hkk : k = i := by omega
              subst hkk
              rw [hck2]
              have hoe : okR e mk P = true := by
                rw [← hmk]
                cases m <;> simp only [okR, Bool.and_eq_true] at hoP <;> simp only [Md.elem] <;> first | exact hoP | (simp at hoP; done) | (split <;> simp [hoP])
              have hie : indA e p P = true := by simpa only [indA] using hind
              obtain ⟨csP', e1, e2⟩ := hwk P tP csP lP hwP hoe hie
              exact ⟨csP', e1, fun h => e2 (by simpa only [indP] using h)⟩
            · have hk' : k.toNat < d.length := by omega
              rw [hoth _ hki]
              have hrk2 := hr k.toNat hk'
              rw [hmo _ hki] at hrk2
              have hoe : okR e .own P = true := by
                have := hmo _ hki
                cases m <;> simp only [okR, Bool.and_eq_true] at hoP <;> simp only [Md.elem] at this <;> first | exact hoP | (simp at hoP; done) | exact hoP.2 | (simp at this)
              rw [walk_frame w w2 S P e _ _ _ _ _ hrk2 hoe (hkeep _ hki)]
              exact ⟨csP, hwP, fun _ => rfl⟩
      rw [hsm m2]
      have hpt : patch (.slice e) (.ix i :: p) [Value.slice (some ⟨b, off, none⟩) len cap] cs2 = [Value.slice (some ⟨b, off, none⟩) len cap] := rfl
      rw [hpt]
      generalize hM : Md.mkIx i (setM e mk p m2) = M at hres
      cases M with
      | own => simp only [Rd]; exact hres
      | ix j mj => simp only [Rd]; exact hres
      | shr => cases hm2 : setM e mk p m2 <;> rw [hm2] at hM <;> simp [Md.mkIx] at hM
      | gone => cases hm2 : setM e mk p m2 <;> rw [hm2] at hM <;> simp [Md.mkIx] at hM
      | top => cases hm2 : setM e mk p m2 <;> rw [hm2] at hM <;> simp [Md.mkIx] at hM
      | pair a b => cases hm2 : setM e mk p m2 <;> rw [hm2] at hM <;> simp [Md.mkIx] at hM

/-- What is read at the end of a path that may be written, and what the whole reads as when another part is put there. -/
theorem write_walk (w : World) (S : Nat → Prop) : ∀ (p : Path) (t : Ty) (m : Md) (F : Nat → Prop) (cs : List Value) (d : t.den) (l : Option (Nat × Nat)) (t' : Ty) (cs' : List Value) (l' : Option (Nat × Nat)),
    Rd w S t m F cs d → walk w t p cs l = some (t', cs', l') → okP t m p = true → (∀ b o, l = some (b, o) → ¬ F b) → Writes w S t m F cs d p t' cs' l l'
  | [], t, m, F, cs, d, l, t', cs', l', h, hw, ho, hl => by
    simp only [walk, Option.some.injEq, Prod.mk.injEq] at hw
    obtain ⟨rfl, rfl, rfl⟩ := hw
    have e1 : getW t m [] = m := by cases t <;> rfl
    have e2 : ∀ u, setM t m [] u = u := by intro u; cases t <;> rfl
    have e3 : viaSl t [] = false := by cases t <;> rfl
    refine ⟨d, F, fun x hx => hx, by simp [getD], by rw [e1]; exact h, fun b o hb => ⟨hl b o hb, .inr ⟨e3, o, hb⟩⟩, ?_⟩
    intro w2 S2 F2 m2 cs2 d2 hS hfl hr2 hF2 hK
    refine ⟨⟨d2, by simp [setD], ?_⟩, ?_⟩
    case refine_2 =>
      intro P tP csP lP hwP hoP hind
      have hn : noSl t P = true := by cases t <;> simpa only [indA] using hind
      obtain ⟨csP', h1⟩ := walk_noSl w w2 P t cs (patch t [] cs cs2) l tP csP lP hn hwP
      exact ⟨csP', h1, fun hp => by cases t <;> simp [indP] at hp⟩
    rw [e2]
    have e4 : patch t [] cs cs2 = cs2 := by cases t <;> rfl
    rw [e4]
    exact Rd_monoF w2 S2 t m2 F2 _ cs2 d2 (fun x hx => .inr hx) hr2
  | s :: p, t, m, F, cs, d, l, t', cs', l', h, hw, ho, hl => by
    cases t with
    | pair a b =>
      have hlen := Rd_len _ _ _ _ _ _ _ h
      simp only [Ty.size] at hlen
      simp only [Rd] at h
      obtain ⟨F1, F2, h1, h2, h3, r1, r2⟩ := h
      cases s with
      | ix i => simp [walk] at hw
      | fst =>
        simp only [walk, okP] at hw ho
        obtain ⟨d', F', hF', hg, hrd, hinfo, hrest⟩ := write_walk w S p a _ _ _ _ _ _ _ _ r1 hw ho (fun b' o hb hf => hl b' o hb (h1 _ hf))
        refine ⟨d', F', fun x hx => h1 x (hF' x hx), by simpa only [getD] using hg, by simpa only [getW] using hrd, ?_, ?_⟩
        · intro b' o hb
          obtain ⟨k1, k2⟩ := hinfo b' o hb
          refine ⟨k1, ?_⟩
          simp only [viaSl]
          rcases k2 with ⟨k2, k3⟩ | k2
          · exact .inl ⟨k2, h1 _ k3⟩
          · exact .inr k2
        · intro w2 S2 G m2 cs2 d2 hS hfl hr2 hG hK
          obtain ⟨⟨dn, hdn, hrn⟩, hwk⟩ := hrest w2 S2 G m2 cs2 d2 hS hfl hr2 (fun x hx hc => hG x hx ⟨h1 _ hc.1, hc.2⟩) (fun x hx hn => hK x (h1 _ hx) hn)
          have hnot : ∀ x, F2 x → ¬ F' x := fun x hx hf => h3 x (hF' x hf) hx
          have hkeep : ∀ x, F2 x → w2.heap[x]? = w.heap[x]? := by
            intro x hx
            have hKx := hK x (h2 _ hx) (hnot x hx)
            unfold Keeps at hKx
            split at hKx
            · rename_i b' o'
              split at hKx
              · rename_i hbb
                subst hbb
                obtain ⟨_, k2⟩ := hinfo _ _ rfl
                rcases k2 with ⟨_, k2⟩ | ⟨_, o2, k2⟩
                · exact absurd hx (h3 _ k2)
                · exact absurd (h2 _ hx) (hl _ _ k2)
              · exact hKx
            · exact hKx
          have hpl : (patch a p (cs.take a.size) cs2).length = a.size := Rd_len _ _ _ _ _ _ _ hrn
          refine ⟨⟨(dn, d.2), by simp only [setD, hdn, Option.map_some], ?_⟩, ?_⟩
          case refine_2 =>
            intro P tP csP lP hwP hoP hind
            cases P with
            | nil =>
              simp only [walk, Option.some.injEq, Prod.mk.injEq] at hwP ⊢
              obtain ⟨rfl, rfl, rfl⟩ := hwP
              exact ⟨_, ⟨rfl, rfl, rfl⟩, fun hp => patch_via _ _ _ _ (by simpa only [indP] using hp)⟩
            | cons s P =>
              cases s with
              | ix k => simp [walk] at hwP
              | fst =>
                simp only [walk, okR, indA, patch] at hwP hoP hind ⊢
                rw [List.take_left' hpl]
                obtain ⟨csP', e1, e2⟩ := hwk P tP csP lP hwP hoP hind
                exact ⟨csP', e1, fun hp => e2 (by simpa only [indP] using hp)⟩
              | snd =>
                simp only [walk, okR, patch] at hwP hoP ⊢
                rw [List.drop_left' hpl, walk_frame w w2 S P b _ _ _ _ _ r2 hoP hkeep]
                exact ⟨csP, hwP, fun _ => rfl⟩
          simp only [Rd, patch, setM, Md.mkPair_fst, Md.mkPair_snd]
          refine ⟨fun x => (F1 x ∧ ¬ F' x) ∨ G x, F2, ?_, fun x hx => .inl ⟨h2 x hx, hnot x hx⟩, ?_, ?_, ?_⟩
          · rintro x (⟨hx, hn⟩ | hx)
            · exact .inl ⟨h1 x hx, hn⟩
            · exact .inr hx
          · rintro x (⟨hx, _⟩ | hx) hy
            · exact h3 x hx hy
            · exact hG x hx ⟨h2 x hy, hnot x hy⟩
          · rw [List.take_left' hpl]; exact hrn
          · rw [List.drop_left' hpl]; exact Rd_frame w w2 S S2 hS b _ _ _ _ hkeep r2
      | snd =>
        simp only [walk, okP] at hw ho
        obtain ⟨d', F', hF', hg, hrd, hinfo, hrest⟩ := write_walk w S p b _ _ _ _ _ _ _ _ r2 hw ho (fun b' o hb hf => by
          cases l with
          | none => simp at hb
          | some x => simp only [Option.map_some, Option.some.injEq, Prod.mk.injEq] at hb; exact hl x.1 x.2 rfl (by rw [hb.1]; exact h2 _ hf))
        refine ⟨d', F', fun x hx => h2 x (hF' x hx), by simpa only [getD] using hg, by simpa only [getW] using hrd, ?_, ?_⟩
        · intro b' o hb
          obtain ⟨k1, k2⟩ := hinfo b' o hb
          refine ⟨k1, ?_⟩
          simp only [viaSl]
          rcases k2 with ⟨k2, k3⟩ | ⟨k2, o2, k3⟩
          · exact .inl ⟨k2, h2 _ k3⟩
          · refine .inr ⟨k2, ?_⟩
            cases l with
            | none => simp at k3
            | some x => simp only [Option.map_some, Option.some.injEq, Prod.mk.injEq] at k3; exact ⟨x.2, by rw [← k3.1]⟩
        · intro w2 S2 G m2 cs2 d2 hS hfl hr2 hG hK
          obtain ⟨⟨dn, hdn, hrn⟩, hwk⟩ := hrest w2 S2 G m2 cs2 d2 hS hfl hr2 (fun x hx hc => hG x hx ⟨h2 _ hc.1, hc.2⟩) (fun x hx hn => hK x (h2 _ hx) hn)
          have hnot : ∀ x, F1 x → ¬ F' x := fun x hx hf => h3 x hx (hF' x hf)
          have hkeep : ∀ x, F1 x → w2.heap[x]? = w.heap[x]? := by
            intro x hx
            have hKx := hK x (h1 _ hx) (hnot x hx)
            unfold Keeps at hKx
            split at hKx
            · rename_i b' o'
              split at hKx
              · rename_i hbb
                subst hbb
                obtain ⟨_, k2⟩ := hinfo _ _ rfl
                rcases k2 with ⟨_, k2⟩ | ⟨_, o2, k2⟩
                · exact absurd k2 (h3 _ hx)
                · cases l with
                  | none => simp at k2
                  | some y => simp only [Option.map_some, Option.some.injEq, Prod.mk.injEq] at k2; exact absurd (h1 _ hx) (by rw [← k2.1]; exact hl y.1 y.2 rfl)
              · exact hKx
            · exact hKx
          have htl : (cs.take a.size).length = a.size := by simp; omega
          refine ⟨⟨(d.1, dn), by simp only [setD, hdn, Option.map_some], ?_⟩, ?_⟩
          case refine_2 =>
            intro P tP csP lP hwP hoP hind
            cases P with
            | nil =>
              simp only [walk, Option.some.injEq, Prod.mk.injEq] at hwP ⊢
              obtain ⟨rfl, rfl, rfl⟩ := hwP
              exact ⟨_, ⟨rfl, rfl, rfl⟩, fun hp => patch_via _ _ _ _ (by simpa only [indP] using hp)⟩
            | cons s P =>
              cases s with
              | ix k => simp [walk] at hwP
              | snd =>
                simp only [walk, okR, indA, patch] at hwP hoP hind ⊢
                rw [List.drop_left' htl]
                obtain ⟨csP', e1, e2⟩ := hwk P tP csP lP hwP hoP hind
                exact ⟨csP', e1, fun hp => e2 (by simpa only [indP] using hp)⟩
              | fst =>
                simp only [walk, okR, patch] at hwP hoP ⊢
                rw [List.take_left' htl, walk_frame w w2 S P a _ _ _ _ _ r1 hoP hkeep]
                exact ⟨csP, hwP, fun _ => rfl⟩
          simp only [Rd, patch, setM, Md.mkPair_fst, Md.mkPair_snd]
          refine ⟨F1, fun x => (F2 x ∧ ¬ F' x) ∨ G x, fun x hx => .inl ⟨h1 x hx, hnot x hx⟩, ?_, ?_, ?_, ?_⟩
          · rintro x (⟨hx, hn⟩ | hx)
            · exact .inl ⟨h2 x hx, hn⟩
            · exact .inr hx
          · rintro x hy (⟨hx, _⟩ | hx)
            · exact h3 x hy hx
            · exact hG x hx ⟨h1 x hy, hnot x hy⟩
          · rw [List.take_left' htl]; exact Rd_frame w w2 S S2 hS a _ _ _ _ hkeep r1
          · rw [List.drop_left' htl]; exact hrn
    | slice e =>
      cases s with
      | fst => simp [walk] at hw
      | snd => simp [walk] at hw
      | ix i =>
        cases m with
        | gone => simp [okP] at ho
        | pair _ _ => simp [okP] at ho
        | shr => simp [okP] at ho
        | top => simp [okP] at ho
        | own =>
          have h' := h
          simp only [Rd] at h'
          obtain ⟨base, len, cap, hcs, hl1, hc, h4⟩ := h'
          exact write_elem w S e p .own F cs d i l t' cs' l' .own base len cap hcs hl1 hc h4 hw rfl (fun _ _ => rfl) (by simpa only [okP] using ho) rfl (fun _ => rfl)
            (fun F cs d l a1 a2 a3 a4 => write_walk w S p e .own F cs d l t' cs' l' a1 a2 a3 a4)
        | ix j mj =>
          simp only [okP, Bool.and_eq_true, decide_eq_true_eq] at ho
          obtain ⟨rfl, ho⟩ := ho
          have h' := h
          simp only [Rd] at h'
          obtain ⟨base, len, cap, hcs, hl1, hc, h4⟩ := h'
          have hji : 0 ≤ j := by
            subst hcs
            simp only [walk] at hw
            split at hw
            · split at hw
              · omega
              · simp at hw
            · simp at hw
          exact write_elem w S e p (.ix j mj) F cs d j l t' cs' l' mj base len cap hcs hl1 hc h4 hw (by simp only [Md.elem]; rw [if_pos (by omega)]) (fun q hq => by simp only [Md.elem]; rw [if_neg (by omega)]) ho rfl (fun _ => rfl)
            (fun F cs d l a1 a2 a3 a4 => write_walk w S p e mj F cs d l t' cs' l' a1 a2 a3 a4)
    | arr n e =>
      cases s with
      | fst => simp [walk] at hw
      | snd => simp [walk] at hw
      | ix i =>
        have hp : p = [] := by
          cases m <;> cases p <;> simp [okP] at ho <;> rfl
        subst hp
        have hmg : m ≠ .gone := by rintro rfl; simp [okP] at ho
        have h0 : d.length = n ∧ cs.length = n * e.size ∧ e.flat = true ∧ ∀ i (h : i < d.length), Rd w S e .shr (fun _ => False) (chunk cs (i * e.size) e.size) d[i] := by
          cases m <;> simp only [Rd] at h <;> first | exact h | exact absurd rfl hmg
        obtain ⟨hd, hc, hf, hr⟩ := h0
        simp only [walk] at hw
        split at hw
        case isFalse => simp at hw
        rename_i hi
        simp only [Option.some.injEq, Prod.mk.injEq] at hw
        obtain ⟨rfl, rfl, rfl⟩ := hw
        have hi' : i.toNat < d.length := by omega
        have hb := chunk_in (sz := e.size) (show i.toNat < n by omega)
        have hgw : getW (.arr n e) m [.ix i] = .shr := by cases m <;> first | rfl | exact absurd rfl hmg
        have hsm : ∀ u, setM (.arr n e) m [.ix i] u = m := fun _ => rfl
        have hvs : viaSl (.arr n e) [.ix i] = false := rfl
        refine ⟨d[i.toNat], fun _ => False, fun _ hx => hx.elim, by simp only [getD]; rw [getD_eq d _ _ hi'], by rw [hgw]; exact hr _ hi', ?_, ?_⟩
        · intro b' o hb'
          refine ⟨fun hx => hx, .inr ⟨hvs, ?_⟩⟩
          cases l with
          | none => simp at hb'
          | some x => simp only [Option.map_some, Option.some.injEq, Prod.mk.injEq] at hb'; exact ⟨x.2, by rw [← hb'.1]⟩
        · intro w2 S2 G m2 cs2 d2 hS hfl hr2 hG hK
          have hl2 := Rd_len _ _ _ _ _ _ _ hr2
          refine ⟨⟨List.set d i.toNat d2, by simp [setD], ?_⟩, ?_⟩
          case refine_2 =>
            intro P tP csP lP hwP hoP hind
            cases P with
            | nil =>
              simp only [walk, Option.some.injEq, Prod.mk.injEq] at hwP ⊢
              obtain ⟨rfl, rfl, rfl⟩ := hwP
              exact ⟨_, ⟨rfl, rfl, rfl⟩, fun hp => by simp [indP, viaSl] at hp⟩
            | cons s P =>
              cases s with
              | fst => simp [walk] at hwP
              | snd => simp [walk] at hwP
              | ix k =>
                simp only [indA] at hind
                simp only [walk] at hwP ⊢
                split at hwP
                · rename_i hk
                  rw [if_pos hk]
                  obtain ⟨csP', e1⟩ := walk_noSl w w2 P e _ (chunk (patch (.arr n e) [.ix i] cs cs2) (k.toNat * e.size) e.size) _ tP csP lP hind hwP
                  exact ⟨csP', e1, fun hp => by simp [indP] at hp⟩
                · simp at hwP
          have hsp : patch (.arr n e) [.ix i] cs cs2 = splice cs (i.toNat * e.size) cs2 := by
            have : patch e [] (chunk cs (i.toNat * e.size) e.size) cs2 = cs2 := by cases e <;> rfl
            simp only [patch, this]
          rw [hsm, hsp]
          have key : (List.set d i.toNat d2).length = n ∧ (splice cs (i.toNat * e.size) cs2).length = n * e.size ∧ e.flat = true ∧ ∀ j (h : j < (List.set d i.toNat d2).length), Rd w2 S2 e .shr (fun _ => False) (chunk (splice cs (i.toNat * e.size) cs2) (j * e.size) e.size) (List.set d i.toNat d2)[j] := by
            refine ⟨by simpa using hd, by rw [splice_length (by omega)]; exact hc, hf, fun j hj => ?_⟩
            simp only [List.length_set] at hj
            by_cases hji : j = i.toNat
            · subst hji
              have := chunk_splice_same (cs := cs) (x := cs2) (off := i.toNat * e.size) (by omega)
              rw [hl2] at this
              rw [this]
              simp only [List.getElem_set_self]
              exact Rd_flat w2 w2 S2 S2 e m2 _ _ _ _ hf (hfl hf) hr2
            · rw [chunk_splice_apart (by omega) (by rw [hl2]; exact nat_chunks hji), List.getElem_set_ne (by omega)]
              exact Rd_frame w w2 S S2 hS e _ _ _ _ (fun _ hx => hx.elim) (hr j hj)
          cases m <;> simp only [Rd] <;> first | exact key | exact absurd rfl hmg
    | unit => simp [walk] at hw
    | int k => simp [walk] at hw
    | bool => simp [walk] at hw
    | str => simp [walk] at hw
    | iface => simp [walk] at hw

end Go.Eng
end

section
/- The engine's machine: what a text does, said on pure data. -/
namespace Go.Eng
open Go

/-- What is known of a value: nothing; an empty slice without room; a datum that all may read; what lies at a place of a box (or a stretch of it); a pointer to a place; a pointer to shared memory; a function with what it has captured; a tuple. -/
inductive AV where
  | undef
  | skip
  | nils
  | val (t : Ty) (d : t.den)
  | place (b : Nat) (p : Path)
  | cut (b : Nat) (p : Path) (lo hi : Int)
  | ptr (b : Nat) (p : Path)
  | sptr (t : Ty) (d : t.den)
  | fn (f : FuncId) (c : AV)
  | tup (c : AV)
  | tnil
  | tcons (a b : AV)
  deriving Inhabited

/-- A box: a variable in memory (r), or a value that nobody else owns. -/
structure Bx where
  t : Ty
  m : Md
  d : t.den
  r : Bool

structure St where
  tm : List (Nat × AV)
  bx : List (Nat × Bx)

section
variable {α : Type}
def look : List (Nat × α) → Nat → Option α
  | [], _ => none
  | x :: r, k => bif Nat.beq x.1 k then some x.2 else look r k

def putL : List (Nat × α) → Nat → α → List (Nat × α)
  | [], k, a => [(k, a)]
  | x :: r, k, a => bif Nat.beq x.1 k then (k, a) :: r else bif Nat.blt k x.1 then (k, a) :: x :: r else x :: putL r k a

theorem beq_dec (a b : Nat) : Nat.beq a b = decide (a = b) := by
  by_cases h : a = b
  · subst h; simp
  · simp [h]; cases hb : Nat.beq a b
    · rfl
    · exact absurd (Nat.eq_of_beq_eq_true hb) h

theorem blt_dec (a b : Nat) : Nat.blt a b = decide (a < b) := by
  simp only [Nat.blt]
  cases h : Nat.ble (a + 1) b
  · simp; refine Nat.le_of_not_lt fun hh => ?_; have := Nat.ble_eq_true_of_le (n := a + 1) (m := b) (by omega); rw [h] at this; simp at this
  · simp; have := Nat.le_of_ble_eq_true h; omega

theorem look_putL (l : List (Nat × α)) (k : Nat) (a : α) (k2 : Nat) : look (putL l k a) k2 = if k = k2 then some a else look l k2 := by
  induction l with
  | nil => by_cases h : k = k2 <;> simp [putL, look, beq_dec, h]
  | cons x r ih =>
    simp only [putL, beq_dec, blt_dec]
    by_cases h1 : x.1 = k
    · subst h1
      by_cases h : x.1 = k2 <;> simp [look, beq_dec, h]
    · simp only [h1, decide_false, cond_false]
      by_cases h2 : k < x.1
      · simp only [h2, decide_true, cond_true]
        by_cases h : k = k2 <;> simp [look, beq_dec, h]
      · simp only [h2, decide_false, cond_false, look, ih, beq_dec]
        by_cases h3 : x.1 = k2
        · subst h3; simp [Ne.symm h1]
        · simp [h3]

def fltL (p : Nat → α → Bool) : List (Nat × α) → List (Nat × α)
  | [] => []
  | x :: r => bif p x.1 x.2 then x :: fltL p r else fltL p r

def allL (p : Nat → α → Bool) : List (Nat × α) → Bool
  | [] => true
  | x :: r => p x.1 x.2 && allL p r
end

def St.put (st : St) (dst : Option Tmp) (v : AV) : St :=
  match dst with
  | some d => ⟨putL st.tm d v, st.bx⟩
  | none => st

def St.setB (st : St) (b : Nat) (x : Bx) : St := ⟨st.tm, putL st.bx b x⟩

/-- Which boxes a value speaks of, each with its path: all of them pass the test. -/
def AV.all (f : Nat → Path → Bool → Bool) : AV → Bool
  | .place b p => f b p false
  | .cut b p _ _ => f b p false
  | .ptr b p => f b p true
  | .fn _ c => c.all f
  | .tup c => c.all f
  | .tcons a b => a.all f && b.all f
  | _ => true

def liveIn (bx : List (Nat × Bx)) (b : Nat) (p : Path) (_ : Bool) : Bool :=
  match look bx b with
  | some x => okR x.t x.m p
  | none => false

/-- The parameters of a function: read; handed over; written through a pointer; read through a pointer; a function. -/
inductive PK where
  | bor (t : Ty)
  | own (t : Ty) (m : Md)
  | ptr (t : Ty) (m : Md)
  | sp (t : Ty)
  | fnc (f : FuncId) (ks : List PK)

/-- Data of these types. -/
@[reducible] def Tup : List (Ty × Md) → Type
  | [] => Unit
  | x :: r => x.1.den × Tup r

def Tup.list : (l : List (Ty × Md)) → Tup l → List Dat
  | [], _ => []
  | x :: r, t => ⟨x.1, t.1⟩ :: Tup.list r t.2

def Tup.of : (l : List (Ty × Md)) → List Dat → Option (Tup l)
  | [], [] => some ()
  | x :: r, u :: us => match u.as x.1 with
    | some d => match Tup.of r us with
      | some t => some (d, t)
      | none => none
    | none => none
  | _, _ => none

theorem Tup.of_some : ∀ {l : List (Ty × Md)} {us : List Dat} {t : Tup l}, Tup.of l us = some t → us = Tup.list l t
  | [], [], t, _ => rfl
  | [], _ :: _, t, h => by simp [Tup.of] at h
  | x :: l, [], t, h => by simp [Tup.of] at h
  | x :: l, u :: us, t, h => by
    simp only [Tup.of] at h
    split at h
    · rename_i d hd
      split at h
      · rename_i t' ht'
        simp only [Option.some.injEq] at h
        subst h
        rw [Dat.as_some hd, Tup.of_some ht']
        rfl
      · simp at h
    · simp at h

/-- What a function is known to do. -/
structure Ct where
  ps : List PK
  rs : List (Ty × Md)
  os : List (Ty × Md)
  M : List Dat → Option (Tup (rs ++ os))
  pr : Bool

structure Cx where
  ty : TypeId → Option Ty
  env : FuncId → List AV → Option Ct
  gl : Nat → Option Dat
  kp : Nat → Bool
  tops : Nat → Bool
  n : Nat

def fldP : Nat → Path
  | 0 => [.fst]
  | n + 1 => .snd :: fldP n

def constAV : Value → AV
  | .bool b => .val .bool b
  | .int k n => .val (.int k) n
  | .string s => .val .str s.data.toList
  | .slice _ 0 0 => .nils
  | .nilIface => .val .iface false
  | _ => .undef

def opnd (cx : Cx) (st : St) : Operand → AV
  | .tmp t => (look st.tm t).getD .undef
  | .const v => constAV v
  | .global g => match cx.gl g with
    | some u => .sptr u.1 u.2
    | none => .undef
  | .func f => .fn f .tnil

def Md.beq : Md → Md → Bool
  | .shr, .shr => true
  | .own, .own => true
  | .gone, .gone => true
  | .top, .top => true
  | .pair a b, .pair c d => Md.beq a c && Md.beq b d
  | _, _ => false

def mdOk : Ty → Md → Md → Bool
  | .pair a b, m, m2 => mdOk a m.fst m2.fst && mdOk b m.snd m2.snd
  | t, m, m2 => Md.beq m m2 || (t.flat && full t m && full t m2)

/-- Is it shared at the end of the path, for sure? -/
def shrAt : Ty → Md → Path → Bool
  | _, m, [] => match m with
    | .shr => true
    | _ => false
  | .pair a _, m, .fst :: p => shrAt a m.fst p
  | .pair _ b, m, .snd :: p => shrAt b m.snd p
  | .slice e, m, .ix _ :: p => match m with
    | .top => shrAt e .shr p
    | _ => false
  | _, _, _ :: _ => false

def ownTop : Md → Bool
  | .own => true
  | .top => true
  | _ => false

section
variable {R : Type}

/-- Drop what the test fails; where one must not, fail. -/
def fltK (strict : Bool) (f : Nat → Path → Bool → Bool) (st : St) (k : St → Option R) : Option R :=
  bif strict then (bif allL (fun _ v => v.all f) st.tm then k st else none) else k ⟨fltL (fun _ v => v.all f) st.tm, st.bx⟩

/-- A value is handed over. -/
def takeK (st : St) (v : AV) (t : Ty) (k : St → Md → t.den → Option R) : Option R :=
  match v with
  | .val t' d => match Dat.as ⟨t', d⟩ t with
    | some d => k st .shr d
    | none => none
  | .nils => match Dat.as ⟨.slice .unit, []⟩ t, t, k with
    | _, .slice _, k => k st .own []
    | _, _, _ => none
  | .place b p => match look st.bx b with
    | some x => match (getD x.t p x.d).bind (·.as t) with
      | some d => bif t.flat then (bif okR x.t x.m p && allFull x.t x.m p then k st .shr d else none)
        else bif okP x.t x.m p && full t (getW x.t x.m p) then k (st.setB b ⟨x.t, setM x.t x.m p .gone, x.d, x.r⟩) (getW x.t x.m p) d else none
      | none => none
    | none => none
  | .cut b p lo hi => match look st.bx b, t, k with
    | some x, .slice e, k => match (getD x.t p x.d).bind (·.as (.slice e)) with
      | some d => bif okP x.t x.m p && ownTop (getW x.t x.m p) then k (st.setB b ⟨x.t, setM x.t x.m p .gone, x.d, x.r⟩) (getW x.t x.m p) (List.drop lo.toNat (List.take hi.toNat d)) else none
      | none => none
    | _, _, _ => none
  | _ => none

/-- A value is read. -/
def readV (bx : List (Nat × Bx)) (v : AV) (t : Ty) : Option t.den :=
  match v with
  | .val t' d => Dat.as ⟨t', d⟩ t
  | .nils => match t with
    | .slice _ => some []
    | _ => none
  | .place b p => match look bx b with
    | some x => bif okR x.t x.m p && allFull x.t x.m p then (getD x.t p x.d).bind (·.as t) else none
    | none => none
  | .cut b p lo hi => match look bx b, t with
    | some x, .slice e => bif okR x.t x.m p && allFull x.t x.m p then (((getD x.t p x.d).bind (·.as (.slice e))).map fun d => List.drop lo.toNat (List.take hi.toNat d)) else none
    | _, _ => none
  | _ => none

/-- A place is read through a pointer. -/
def readP (bx : List (Nat × Bx)) (v : AV) (t : Ty) : Option t.den :=
  match v with
  | .sptr t' d => Dat.as ⟨t', d⟩ t
  | .ptr b p => match look bx b with
    | some x => bif okR x.t x.m p && allFull x.t x.m p then (getD x.t p x.d).bind (·.as t) else none
    | none => none
  | _ => none

end
end Go.Eng
end

section
/- The engine's machine: the operations. -/
namespace Go.Eng
open Go

section
variable {R : Type}

/-- Is the Go type this one? -/
def tyIs (cx : Cx) (T : TypeId) (t : Ty) : Bool :=
  match cx.ty T with
  | some t' => Ty.beq t' t
  | none => false

/-- '==' on a type without slices. -/
def eqD : (t : Ty) → t.den → t.den → Bool
  | .unit, _, _ => true
  | .int _, a, b => a == b
  | .bool, a, b => a == b
  | .str, a, b => List.beq a b
  | .pair s t, a, b => eqD s a.1 b.1 && eqD t a.2 b.2
  | _, _, _ => false

/-- A type of which '==' may be asked: integers, bools, strings, structs of these. -/
def eqTy : Ty → Bool
  | .unit | .int _ | .bool | .str => true
  | .pair s t => eqTy s && eqTy t
  | _ => false

def tupAt : AV → Nat → AV
  | .tcons a _, 0 => a
  | .tcons _ b, n + 1 => tupAt b n
  | _, _ => .undef

def nd : Ty → Nat
  | .pair a b => nd a + nd b + 1
  | _ => 1

def binV (cx : Cx) (op : BinOp) (T : TypeId) (yc : Bool) (x y : AV) (k : AV → Option R) : Option R :=
  match x, y with
  | .val (.int j) a, .val (.int j') b =>
    match op with
    | .shl => bif decide (0 ≤ b) then k (.val (.int j) (j.wrap (a * 2 ^ (min b.toNat j.bits)))) else none
    | .shr => bif decide (0 ≤ b) then k (.val (.int j) (a.fdiv (2 ^ (min b.toNat j.bits)))) else none
    | _ => bif Nat.beq (IntKind.num j) (IntKind.num j') then (match op with
      | .add => k (.val (.int j) (j.wrap (a + b)))
      | .sub => k (.val (.int j) (j.wrap (a - b)))
      | .mul => k (.val (.int j) (j.wrap (a * b)))
      | .quo => bif decide (b ≠ 0) then k (.val (.int j) (j.wrap (a.tdiv b))) else none
      | .rem => bif decide (b ≠ 0) then k (.val (.int j) (a.tmod b)) else none
      | .and => k (.val (.int j) (j.wrap (BitVec.ofInt j.bits a &&& BitVec.ofInt j.bits b).toNat))
      | .or => k (.val (.int j) (j.wrap (BitVec.ofInt j.bits a ||| BitVec.ofInt j.bits b).toNat))
      | .xor => k (.val (.int j) (j.wrap (BitVec.ofInt j.bits a ^^^ BitVec.ofInt j.bits b).toNat))
      | .eql => k (.val .bool (a == b))
      | .neq => k (.val .bool (a != b))
      | .lss => k (.val .bool (decide (a < b)))
      | .leq => k (.val .bool (decide (a ≤ b)))
      | .gtr => k (.val .bool (decide (a > b)))
      | .geq => k (.val .bool (decide (a ≥ b)))
      | _ => none) else none
  | .val .str a, .val .str b => match op with
    | .add => bif decide (List.length a + List.length b < 4611686018427387904) then k (.val .str (a ++ b)) else none
    | .eql => k (.val .bool (List.beq a b))
    | .neq => k (.val .bool (!List.beq a b))
    | _ => none
  | .val .bool a, .val .bool b => bif tyIs cx T .bool then (match op with
    | .eql => k (.val .bool (a == b))
    | .neq => k (.val .bool (!(a == b)))
    | _ => none) else none
  | .val .iface a, .val .iface false => bif yc && tyIs cx T .iface then (match op with
    | .eql => k (.val .bool (!a))
    | .neq => k (.val .bool a)
    | _ => none) else none
  | .val (.pair s t) a, .val (.pair s' t') b => match Dat.as ⟨.pair s' t', b⟩ (.pair s t) with
    | some b => bif eqTy (.pair s t) && tyIs cx T (.pair s t) && Nat.blt (nd (.pair s t)) 1000 then (match op with
      | .eql => k (.val .bool (eqD (.pair s t) a b))
      | .neq => k (.val .bool (!eqD (.pair s t) a b))
      | _ => none) else none
    | none => none
  | _, _ => none

/-- The keys of the boxes that an operation at this slot makes: in memory; a value; a tuple's parts. -/
def kReal (d : Tmp) : Nat := 16 * d
def kVal (d : Tmp) : Nat := 16 * d + 1
def kTup (d : Tmp) (i : Nat) : Nat := 16 * d + 2 + i

/-- The key of the box behind a pointer that the function was handed. -/
def kTop (i : Nat) : Nat := 16 * i + 15

def noBox (b : Nat) (b2 : Nat) (_ : Path) (_ : Bool) : Bool := !Nat.beq b b2

/-- A new box under this key: what spoke of the elder one of this key is forgotten. -/
def newK (strict : Bool) (st : St) (b : Nat) (x : Bx) (k : St → Option R) : Option R :=
  fltK strict (noBox b) st fun st => k ⟨st.tm, putL st.bx b x⟩

def loadV (cx : Cx) (st : St) (T : TypeId) (v : AV) : Option AV :=
  match v with
  | .sptr t d => match cx.ty T with
    | some t' => bif Ty.beq t' t then some (.val t d) else none
    | none => none
  | .ptr b p => match look st.bx b, cx.ty T with
    | some x, some t' => match (getD x.t p x.d).bind (·.as t') with
      | some d => bif okR x.t x.m p then (bif t'.flat then (bif allFull x.t x.m p then some (.val t' d) else none) else bif shrAt x.t x.m p then some (.val t' d) else some (.place b p)) else none
      | none => none
    | _, _ => none
  | _ => none

/-- The type at the end of a path. -/
def tyAt : Ty → Path → Option Ty
  | t, [] => some t
  | .pair a _, .fst :: p => tyAt a p
  | .pair _ b, .snd :: p => tyAt b p
  | .slice e, .ix _ :: p => tyAt e p
  | .arr _ e, .ix _ :: p => tyAt e p
  | _, _ :: _ => none

def hasSize (t : Option Ty) : Bool :=
  match t with
  | some t => Nat.blt 0 t.size
  | none => false

def fldV (cx : Cx) (st : St) (T : TypeId) (v : AV) (f : Nat) : Option AV :=
  match v with
  | .sptr t d => bif tyIs cx T t && hasSize (tyAt t (fldP f)) then ((getD t (fldP f) d).map fun u => .sptr u.1 u.2) else none
  | .ptr b p => match look st.bx b with
    | some x => match tyAt x.t p with
      | some t2 => bif tyIs cx T t2 && okR x.t x.m (p ++ fldP f) && hasSize (tyAt t2 (fldP f)) then some (.ptr b (p ++ fldP f)) else none
      | none => none
    | none => none
  | _ => none

def idxK (cx : Cx) (st : St) (T : TypeId) (v i : AV) (k : AV → Option R) : Option R :=
  match i with
  | .val (.int _) n => match v with
    | .val (.slice e) l => bif tyIs cx T (.slice e) then (bif decide (0 ≤ n) && decide (n < (List.length l : Int)) then k (.sptr e (List.getD l n.toNat e.dflt)) else none) else none
    | .sptr (.arr m e) l => bif tyIs cx T (.arr m e) then (bif decide (0 ≤ n) && decide (n < (m : Int)) then k (.sptr e (List.getD l n.toNat e.dflt)) else none) else none
    | .place b p => match look st.bx b with
      | some x => match getD x.t p x.d with
        | some ⟨.slice e, l⟩ => bif tyIs cx T (.slice e) && okR x.t x.m (p ++ [.ix n]) then (bif decide (0 ≤ n) && decide (n < (List.length l : Int)) then k (.ptr b (p ++ [.ix n])) else none) else none
        | _ => none
      | none => none
    | .ptr b p => match look st.bx b with
      | some x => match tyAt x.t p with
        | some (.arr m e) => bif tyIs cx T (.arr m e) && okR x.t x.m (p ++ [.ix n]) then (bif decide (0 ≤ n) && decide (n < (m : Int)) then k (.ptr b (p ++ [.ix n])) else none) else none
        | _ => none
      | _ => none
    | _ => none
  | _ => none

def indexK (cx : Cx) (T : TypeId) (v i : AV) (k : AV → Option R) : Option R :=
  match i with
  | .val (.int _) n => match v with
    | .val .str s => bif tyIs cx T .str && decide (0 ≤ n) && decide (n < (List.length s : Int)) then k (.val (.int .u8) (UInt8.toNat (List.getD s n.toNat 0) : Int)) else none
    | .val (.arr m e) l => bif tyIs cx T (.arr m e) && decide (0 ≤ n) && decide (n < (m : Int)) then k (.val e (List.getD l n.toNat e.dflt)) else none
    | _ => none
  | _ => none

/-- A bound of a slice expression, or what stands for it. -/
def bndV (v : Option AV) (other : Int) : Option Int :=
  match v with
  | none => some other
  | some (.val (.int _) n) => some n
  | _ => none

def sliceK (cx : Cx) (st : St) (T : TypeId) (v : AV) (lo hi mx : Option AV) (k : AV → Option R) : Option R :=
  match v with
  | .val .str s => match mx, bndV lo 0, bndV hi (List.length s : Int) with
    | none, some l, some h => bif tyIs cx T .str then (bif decide (0 ≤ l) && decide (l ≤ h) && decide (h ≤ (List.length s : Int)) then k (.val .str (List.drop l.toNat (List.take h.toNat s))) else none) else none
    | _, _, _ => none
  | .val (.slice e) s => match mx, bndV lo 0, bndV hi (List.length s : Int) with
    | none, some l, some h => bif tyIs cx T (.slice e) then (bif decide (0 ≤ l) && decide (l ≤ h) && decide (h ≤ (List.length s : Int)) then k (.val (.slice e) (List.drop l.toNat (List.take h.toNat s))) else none) else none
    | some (.val (.int _) m), some l, some h => bif tyIs cx T (.slice e) && hi.isSome then (bif decide (0 ≤ l) && decide (l ≤ h) && decide (h ≤ m) && decide (m ≤ (List.length s : Int)) then k (.val (.slice e) (List.drop l.toNat (List.take h.toNat s))) else none) else none
    | _, _, _ => none
  | .place b p => match look st.bx b with
    | some x => match getD x.t p x.d with
      | some ⟨.slice e, s⟩ => match mx, bndV lo 0, bndV hi (List.length s : Int) with
        | none, some l, some h => bif tyIs cx T (.slice e) && okR x.t x.m (p ++ [.ix 0]) then (bif decide (0 ≤ l) && decide (l ≤ h) && decide (h ≤ (List.length s : Int)) then k (.cut b p l h) else none) else none
        | some (.val (.int _) m), some l, some h => bif tyIs cx T (.slice e) && okR x.t x.m (p ++ [.ix 0]) && hi.isSome then (bif decide (0 ≤ l) && decide (l ≤ h) && decide (h ≤ m) && decide (m ≤ (List.length s : Int)) then k (.cut b p l h) else none) else none
        | _, _, _ => none
      | _ => none
    | none => none
  | .sptr (.arr n e) s => match mx, lo, hi with
    | none, none, none => bif tyIs cx T (.arr n e) then k (.val (.slice e) s) else none
    | _, _, _ => none
  | _ => none

/-- What has no addresses in it is ours. -/
def ownIf (t : Ty) (m : Md) : Md := bif t.flat then .own else m

/-- Several values are handed over, each to its field or element: the modes are put together. -/
def partsK (st : St) (t : Ty) (m : Md) (d : t.den) : List (Path × Ty × AV) → (St → Md → t.den → Option R) → Option R
  | [], k => k st m d
  | (p, e, v) :: r, k => takeK st v e fun st' mv dv => match setD t p d ⟨e, dv⟩ with
    | some d' => partsK st' t (setM t m p (ownIf e mv)) d' r k
    | none => none

/-- Several values of one type are handed over. -/
def takeL (st : St) (e : Ty) : List AV → (St → List Md → List e.den → Option R) → Option R
  | [], k => k st [] []
  | v :: r, k => takeK st v e fun st1 m d => takeL st1 e r fun st2 ms ds => k st2 (m :: ms) (d :: ds)

def isOwn : Md → Bool
  | .own => true
  | _ => false

def isShr : Md → Bool
  | .shr => true
  | _ => false

/-- The mode of a slice whose elements have these modes. -/
def rowMd (e : Ty) (ms : List Md) : Option Md :=
  bif e.flat || ms.all isOwn then some .own else bif ms.all isShr then some .top else none

/-- Is there nothing shared in it that has an address? -/
def noShr : Ty → Md → Bool
  | .pair a b, m => noShr a m.fst && noShr b m.snd
  | .slice _, m => match m with
    | .own => true
    | _ => false
  | _, _ => true

end
end Go.Eng
end
