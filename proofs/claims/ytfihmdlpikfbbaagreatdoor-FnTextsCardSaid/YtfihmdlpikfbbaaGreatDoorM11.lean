/- Part 11 of 20 of a claim; what is proved, and under which conditions, stands in the last part. Here: EngAR, EngAX, EngAY, Zs, Zk. -/
import Derived.Test.YtfihmdlpikfbbaaGreatDoorM10
import Derived.Below
import Derived.Shelf.Strings.Builder1
import Derived.Shelf.Strings.Builder2
import Derived.Shelf.Strings.OnBuilder
import Derived.Shelf.Utf8.RuneCount
import Derived.Shelf.Strconv.Atoi
import Derived.Shelf.Strconv.Itoa0
import Derived.Shelf.Strconv.Itoa1
import Derived.Shelf.LaysM
import Derived.Shelf.Strconv.Itoa2
import Derived.Shelf.Strconv.Itoa3
import Derived.Shelf.Strconv.AtoiErrFast
import Derived.Shelf.Strconv.ParseIntEmpty
import Derived.Shelf.Strconv.AtoiFail
import Derived.Shelf.Strconv.Clone
import Derived.Shelf.Strconv.SyntaxError
import Derived.Shelf.LaysC
import Derived.Shelf.Strconv.ToError
import Derived.Shelf.Strconv.Lower
import Derived.Shelf.Strconv.ParseUint10
import Derived.Shelf.Strconv.ParseUint10Empty
import Derived.Shelf.Strconv.ParseUint10Any
import Derived.Shelf.Strconv.ParseInt10
import Derived.Shelf.Strconv.AtoiLong
import Derived.Shelf.Strconv.AtoiInnerAll
import Derived.Shelf.Strconv.RangeError
import Derived.Shelf.Strconv.ToErrorRange
import Derived.Shelf.Strconv.AtoiAll
import Derived.Shelf.Strings.Search1
import Derived.Shelf.Strings.Search2
import Derived.Shelf.Strings.Search3
import Derived.Shelf.Strings.Count
import Derived.Shelf.Strings.Shaped
import Derived.Shelf.Strings.Prefix
import Derived.Shelf.Strings.Split
import Derived.Shelf.Strings.SplitShaped
import Derived.Shelf.Unicode.Decode
import Derived.Shelf.Strings.RuneCount
import Derived.Shelf.Strings.Explode
import Derived.Shelf.Unicode.DecodeSlow
import Derived.Shelf.Unicode.DecodeAny
import Derived.Test.YtfihmdlpikfbbaaGreatDoorProg
import Derived.KernelRfl
set_option linter.unusedVariables false
set_option linter.unusedSimpArgs false
set_option linter.unusedSectionVars false
section
/- The engine: a function does what its run says. -/
namespace Go.Eng
open Go

section
variable {P : Program} {cx : Cx} {w : World} {R : Type}

theorem ArgsOk.len {S : Nat → Prop} {ps : List PK} {us : List Value} {ds : List Dat} {Fs : List (Nat → Prop)} {Ps : List (Nat × Nat × Nat)} (h : ArgsOk w S ps us ds Fs Ps) : us.length = ps.length := by
  induction h with
  | nil => rfl
  | bor _ _ ih => simp [ih]
  | sp _ _ _ ih => simp [ih]
  | own _ _ _ ih => simp [ih]
  | ptr _ _ _ _ ih => simp [ih]
  | fnc _ _ ih => simp [ih]

theorem ArgsOk.locs {S : Nat → Prop} {ps : List PK} {us : List Value} {ds : List Dat} {Fs : List (Nat → Prop)} {Ps : List (Nat × Nat × Nat)} (h : ArgsOk w S ps us ds Fs Ps) : ∀ q ∈ Ps, ∃ c el, w.heap[q.1]? = some (.cells c el (0, 0)) := by
  induction h with
  | nil => simp
  | bor _ _ ih => exact ih
  | sp _ _ _ ih => exact ih
  | own _ _ _ ih => exact ih
  | ptr _ _ hL _ ih =>
    intro q hq
    rcases List.mem_cons.1 hq with rfl | hq
    · obtain ⟨c, el, h1, _⟩ := hL; exact ⟨c, el, h1⟩
    · exact ih q hq
  | fnc _ _ ih => exact ih

theorem run_results {fn : Func} {tmps : Array Value} {us : List Value} (h : (fn.results.toList.mapM (resSem tmps)).run P w = .ok us w) : (results fn tmps).run P w = .ok (resV us) w := by
  have e : results fn tmps = (do
      let vs ← fn.results.mapM (resSem tmps)
      pure (if h : vs.size = 1 then vs[0] else .tuple vs)) := by
    unfold results
    congr 1
  rw [e, Array.mapM_eq_mapM_toList]
  simp only [map_eq_pure_bind, Sem.run_bind, h, Result.andThen_ok, Sem.run_pure]
  rcases us with _ | ⟨u, _ | ⟨u2, us⟩⟩ <;> simp [resV]

theorem look_zip {Ps : List (Nat × Nat × Nat)} {p : Nat → (Nat × Nat × Nat) → Prop} : ∀ {keys : List Nat}, All2 p keys Ps → ∀ {b : Nat} {q : Nat × Nat × Nat}, look (keys.zip Ps) b = some q → b ∈ keys ∧ q ∈ Ps ∧ p b q := by
  intro keys h
  induction h with
  | nil => intro b q hq; simp [look] at hq
  | @cons x y l r h1 _ ih =>
    intro b q hq
    simp only [List.zip_cons_cons, look, beq_dec] at hq
    by_cases hb : x = b
    · subst hb
      simp only [decide_true, cond_true, Option.some.injEq] at hq
      subst hq
      exact ⟨by simp, by simp, h1⟩
    · simp only [hb, decide_false, cond_false] at hq
      obtain ⟨i1, i2, i3⟩ := ih hq
      exact ⟨by simp [i1], by simp [i2], i3⟩

theorem zip_all2 {Ps : List (Nat × Nat × Nat)} {p : Nat → (Nat × Nat × Nat) → Prop} : ∀ {keys : List Nat}, All2 p keys Ps → keys.Pairwise (fun b c => b ≠ c) → All2 (fun b q => look (keys.zip Ps) b = some q) keys Ps := by
  intro keys h
  induction h with
  | nil => intro _; exact .nil
  | @cons x y l r h1 _ ih =>
    intro hp
    have hp' := List.pairwise_cons.1 hp
    refine .cons (by simp [look]) ((ih hp'.2).impM ?_)
    intro c hc q hq
    have hne : x ≠ c := hp'.1 c hc
    simp only [List.zip_cons_cons, look, beq_dec, hne, decide_false, cond_false]
    exact hq

theorem Fr.toE {E E' : En} {w : World} (h : Fr E w) (hw : E'.w = E.w) (hF : E'.F = E.F) (hP : E'.P = E.P) : Fr E' w := by
  obtain ⟨w0, S, F, P, G, K⟩ := E
  obtain ⟨w0', S', F', P', G', K'⟩ := E'
  simp only at hw hF hP
  subst hw hF hP
  exact ⟨h.size, h.keep, h.keepP, h.os, h.tape, h.output⟩

theorem pw_first {Ps : List (Nat × Nat × Nat)} (h : Ps.Pairwise fun q q' => q.1 ≠ q'.1) : ∀ q ∈ Ps, ∀ q' ∈ Ps, q.1 = q'.1 → q = q' := by
  induction h with
  | nil => simp
  | @cons x l h1 _ ih =>
    intro q hq q' hq' he
    rcases List.mem_cons.1 hq with e1 | hq <;> rcases List.mem_cons.1 hq' with e2 | hq'
    · rw [e1, e2]
    · exact absurd (e1 ▸ he) (h1 q' hq')
    · exact absurd (e2 ▸ he.symm) (h1 q hq)
    · exact ih q hq q' hq' he

theorem initS_keys : ∀ {ps : List PK} {ds : List Dat} {i : Nat} {s : St × List Nat}, initS i ps ds = some s → ∀ b ∈ s.2, b % 16 = 15
  | [], ds, i, s, h, b, hb => by
    cases ds with
    | nil => simp only [initS, Option.some.injEq] at h; subst h; simp at hb
    | cons _ _ => simp [initS] at h
  | pk :: ps, ds, i, s, h, b, hb => by
    cases pk with
    | fnc f kc =>
      simp only [initS] at h
      split at h
      · split at h
        · rename_i r hr
          simp only [Option.some.injEq] at h
          subst h
          exact initS_keys hr b hb
        · simp at h
      · simp at h
    | bor t =>
      cases ds with
      | nil => simp [initS] at h
      | cons u ds =>
        simp only [initS] at h
        split at h
        · rename_i r _ hr
          simp only [Option.some.injEq] at h
          subst h
          exact initS_keys hr b hb
        · simp at h
    | sp t =>
      cases ds with
      | nil => simp [initS] at h
      | cons u ds =>
        simp only [initS] at h
        split at h
        · rename_i r _ hr
          simp only [Option.some.injEq] at h
          subst h
          exact initS_keys hr b hb
        · simp at h
    | own t m =>
      cases ds with
      | nil => simp [initS] at h
      | cons u ds =>
        simp only [initS] at h
        split at h
        · rename_i r _ hr
          simp only [Option.some.injEq] at h
          subst h
          exact initS_keys hr b hb
        · simp at h
    | ptr t m =>
      cases ds with
      | nil => simp [initS] at h
      | cons u ds =>
        simp only [initS] at h
        split at h
        · rename_i r _ hr
          simp only [Option.some.injEq] at h
          subst h
          rcases List.mem_cons.1 hb with rfl | hb
          · unfold kTop; omega
          · exact initS_keys hr b hb
        · simp at h

theorem run_holds {f : FuncId} {fn : Func} {c : Code} {G : Nat → Option Dat} (hf : P.funcs[f]? = some fn) (hb : fn.body = some c) (hcx : ∀ E : En, E.G = G → CxOk P E cx) (henv : EnvOk P G cx) {ps : List PK} {rs os : List (Ty × Md)} {pr : Bool} (hn : cx.n = fn.ntmps) (hp : ps.length ≤ fn.ntmps) :
    Holds P G f ⟨ps, rs, os, fun ds => run cx c fn.results.toList pr ps rs os ds, pr⟩ := by
  intro w S args ds Fs Ps out hA hAp hgl hM
  simp only at hA hM
  unfold run at hM
  split at hM
  · rename_i s hs
    obtain ⟨g, hgS, hI⟩ := initS_sound hA hs hAp.FF hAp.PP
    have hlen := hA.len
    have hsome : ∀ {b x y}, look s.1.bx b = some x → g.F b y → some' Fs y := fun hx hy => by
      obtain ⟨F, hF, h1⟩ := hI.inF _ _ hx
      exact ⟨F, hF, h1 _ hy⟩
    have hPlt : ∀ q ∈ Ps, q.1 < w.heap.size := by
      intro q hq
      obtain ⟨c, el, hh⟩ := hA.locs q hq
      rcases Nat.lt_or_ge q.1 w.heap.size with h4 | h4
      · exact h4
      · rw [Array.getElem?_eq_none h4] at hh; simp at hh
    have hcx' := hcx ⟨w, S, some' Fs, Ps, G, look (s.2.zip Ps)⟩ rfl
    have hR : Rel ⟨w, S, some' Fs, Ps, G, look (s.2.zip Ps)⟩ cx.n g s.1 { tmps := (⟨args⟩ : Array Value) ++ Array.replicate (fn.ntmps - (⟨args⟩ : Array Value).size) undef, defers := [] } w := by
      exact {
        srtT := hI.srtT
        srtB := hI.srtB
        tm := fun k v hv => by
          obtain ⟨_, u, h1, h2⟩ := hI.tm k v hv
          rw [Nat.sub_zero] at h1
          have hk : k < args.length := by
            rcases Nat.lt_or_ge k args.length with h4 | h4
            · exact h4
            · rw [List.getElem?_eq_none h4] at h1; simp at h1
          have : ((⟨args⟩ : Array Value) ++ Array.replicate (fn.ntmps - (⟨args⟩ : Array Value).size) undef).getD k undef = u := by
            rw [Array.getD_eq_getD_getElem?, Array.getElem?_append_left (by simpa using hk)]
            simp [h1]
          rw [this]
          exact h2
        rd := hI.rd
        lc := hI.lc
        dF := hI.dF
        dL := fun b1 b2 x1 x2 h1 h2 hr hy => by
          obtain ⟨q, hq, e1, _⟩ := hI.inP b1 x1 h1 hr
          obtain ⟨F, hF, h3⟩ := hI.inF b2 x2 h2
          rw [e1] at hy
          exact hAp.FP F hF q hq (h3 _ hy)
        dLL := hI.dP
        dS := fun b x y hx hy hs => by
          obtain ⟨F, hF, h3⟩ := hI.inF b x hx
          exact hAp.FS F hF y (h3 y hy) (hgS ▸ hs)
        dLS := fun b x hx hr hs => by
          obtain ⟨q, hq, e1, _⟩ := hI.inP b x hx hr
          rw [e1, hgS] at hs
          exact hAp.PS q hq hs
        bS := fun y hy => hAp.Sb y (hgS ▸ hy)
        bF := fun b x y hx hy => by
          obtain ⟨F, hF, h3⟩ := hI.inF b x hx
          exact hAp.Fb F hF y (h3 y hy)
        fr := ⟨Nat.le_refl _, fun _ _ _ _ => rfl, fun q hq => by
          obtain ⟨c, el, h1⟩ := hA.locs q hq
          exact ⟨c, c, el, h1, h1, rfl, fun _ _ => rfl⟩, rfl, rfl, rfl⟩
        oS := fun y hy => hgS ▸ hy
        nS := fun y hy => .inl (hgS ▸ hy)
        nF := fun b x y hx hy => .inl (hsome hx hy)
        nL := fun b x hx hr => .inl (hI.inP b x hx hr)
        df := rfl
        sz := by
          simp only [Array.size_append, List.size_toArray, Array.size_replicate]
          omega
        ok := ⟨pw_first hAp.PP, fun q hq ⟨F, hF, h1⟩ => hAp.FP F hF q hq h1, fun b q hb => initS_keys hs b (look_zip hI.ky hb).1⟩
        gl := by rw [hgS]; exact fun i u hu => hgl i u hu
        tp := fun b q x hb hx => by
          obtain ⟨_, _, x', e1, e2, e3, e4⟩ := look_zip hI.ky hb
          rw [hx] at e1
          simp only [Option.some.injEq] at e1
          subst e1
          exact ⟨e2, e3, e4⟩ }
    refine calls_of_wp hf hb ?_
    refine exec_sound hcx' henv c hM hR ?_
    intro e g' st' a' w' hR' hk
    unfold finK at hk
    cases hpr : pr
    · rw [hpr] at hk
      have key : takeRes cx st' fn.results.toList rs (fun st1 r => match takeOuts st1 s.2 os with
          | some o => Tup.of (rs ++ os) (r ++ o)
          | none => none) = some out → a'.defers = [] ∧ ∃ v, (results fn a'.tmps).run P w' = .ok v w' ∧ ∃ v', Ending.returned v = .returned v' ∧ Post G ⟨ps, rs, os, fun ds => run cx c fn.results.toList false ps rs os ds, false⟩ w S Fs Ps (Tup.list _ out) v' w' := by
        intro hk
        obtain ⟨g1, st1, us, rr, Rs, k1, k2, k3, k4, k5, k6, k7, k8⟩ := takeRes_sound hcx' hk hR'
        split at k1
        · rename_i ro hro
          have k1 := Tup.of_some k1
          obtain ⟨Os, o1, o2, o3⟩ := takeOuts_sound k2 hro ((zip_all2 hI.ky hI.keysD).imp fun b q hb x hx => k2.tp b q x hb hx) hI.keysD
          refine ⟨hR'.df, _, run_results k3, _, rfl, g1.S, us, rr, ro, Rs, Os, rfl, k1.symm, k4, o1, ?_, ?_, k2.oS, fun y hy => ⟨k2.nS y hy, k2.bS y hy⟩, k2.fr.toE rfl rfl rfl⟩
          · rw [List.pairwise_append]
            refine ⟨k6, o2, fun F hF H hH y hy hy2 => ?_⟩
            obtain ⟨b, _, x, hx, rfl⟩ := o3 H hH
            exact (k5 F hF).dF b x y hx hy2 hy
          · intro F hF y hy
            rcases List.mem_append.1 hF with hF | hF
            · exact ⟨(k5 F hF).dS y hy, (k5 F hF).bd y hy, (k5 F hF).nF y hy⟩
            · obtain ⟨b, _, x, hx, rfl⟩ := o3 F hF
              exact ⟨k2.dS b x y hx hy, k2.bF b x y hx hy, k2.nF b x y hx hy⟩
        · simp at k1
      cases e with
      | normal => exact key hk
      | ret => exact key hk
      | exit id => simp at hk
    · rw [hpr] at hk
      clear hM
      have key : (bif s.2.isEmpty && os.isEmpty then takeResP st' fn.results.toList rs fun _ r => Tup.of (rs ++ os) r else none) = some out → a'.defers = [] ∧ ∃ v, (results fn a'.tmps).run P w' = .ok v w' ∧ ∃ v', Ending.returned v = .returned v' ∧ Post G ⟨ps, rs, os, fun ds => run cx c fn.results.toList true ps rs os ds, true⟩ w S Fs Ps (Tup.list _ out) v' w' := by
        intro hk
        obtain ⟨hemp, hk⟩ := cond_none hk
        simp only [Bool.and_eq_true, List.isEmpty_iff] at hemp
        · have hs2 := hemp.1
          have hos := hemp.2
          have hPs : Ps = [] := by
            have := hI.ky
            rw [hs2] at this
            cases this
            rfl
          subst hPs
          generalize hrv : fn.results.toList = rv at hk
          unfold takeResP at hk
          split at hk
          · rename_i d t m _ _ _
            split at hk
            · rename_i b hd
              split at hk
              · rename_i x hx
                obtain ⟨hc1, hk⟩ := cond_none hk
                simp only [Bool.and_eq_true] at hc1
                obtain ⟨t', cs, blk, off, he, hw, hL, hlen⟩ := ptr_read hR' (hR'.tm d _ hd) hx (okP_okR _ _ _ hc1.2)
                obtain ⟨htt, g1, st1, m1, y, F, hk1, hR1, hL1, hrd, hH, hF, hfu, _, hinfo⟩ := takePl_sound hk hR' hx hw hc1.2
                subst htt
                obtain ⟨hmd, hk2⟩ := cond_none hk1
                have hk2 := Tup.of_some hk2
                obtain ⟨hrd2, hfm⟩ := mdOk_Rd hmd hfu hrd
                have hwx := hw
                simp only [walk, Option.some.injEq, Prod.mk.injEq] at hwx
                obtain ⟨_, _, hloc⟩ := hwx
                obtain ⟨hr0, hloc⟩ := locOf_some hloc
                have hfresh : w.heap.size ≤ blk := by
                  rcases hR'.nL b x hx hr0 with ⟨q, hq, _⟩ | h4
                  · simp at hq
                  · rw [hloc] at h4; exact h4
                refine ⟨hR'.df, _, run_results (us := [.pointer (some ⟨blk, off, none⟩)]) ?_, _, rfl, g1.S, [toV t' cs], [⟨t', y⟩], [], [F], [], ?_, hk2.symm, .cons hrd2 hfm .nil, by rw [hos]; exact .nil, ?_, ?_, hR1.oS, fun y hy => ⟨hR1.nS y hy, hR1.bS y hy⟩, hR1.fr.toE rfl rfl rfl⟩
                · rw [hrv]
                  simp [List.mapM_cons, resSem, he]
                · refine ⟨t', cs, blk, off, rfl, hlen, Rd_plain _ _ _ _ _ _ _ hrd, rfl, hL, hfresh, ?_, ?_⟩
                  · rw [hL1.S]
                    have := hR'.dLS b x hx hr0
                    rw [hloc] at this
                    exact this
                  · intro F' hF'
                    simp only [List.append_nil, List.mem_singleton] at hF'
                    subst hF'
                    intro hh
                    have := hR'.dL b b x x hx hx hr0
                    rw [hloc] at this
                    exact this (hF _ hh)
                · simp
                · intro F' hF' y hy
                  simp only [List.append_nil, List.mem_singleton] at hF'
                  subst hF'
                  exact ⟨hH.dS y hy, hH.bd y hy, hH.nF y hy⟩
              · simp at hk
            · simp at hk
          · simp at hk
      cases e with
      | normal => exact key hk
      | ret => exact key hk
      | exit id => simp at hk
  · simp at hM

end
end Go.Eng
end

section
/- The engine: a program's types, looked over once; the functions that are known, as a list. -/
namespace Go.Eng
open Go

section
variable {P : Program}

def nilStr (s : ByteArray) : Bool := s.data.toList.isEmpty

def zOne : Value → Value → Bool
  | .int k n, .int k' n' => Nat.beq (IntKind.num k) (IntKind.num k') && decide (n = n')
  | .bool a, .bool b => a == b
  | .string s, .string s' => nilStr s && nilStr s'
  | .slice none 0 0, .slice none 0 0 => true
  | .nilIface, .nilIface => true
  | _, _ => false

def zList : List Value → List Value → Bool
  | [], [] => true
  | x :: r, y :: s => zOne x y && zList r s
  | _, _ => false

def zVal : Value → Value → Bool
  | .agg a, .agg b => zList a.toList b.toList
  | x, y => zOne x y

theorem nilStr_eq {s s' : ByteArray} (h : nilStr s = true) (h' : nilStr s' = true) : s = s' := by
  obtain ⟨⟨l⟩⟩ := s
  obtain ⟨⟨l'⟩⟩ := s'
  simp only [nilStr, List.isEmpty_iff] at h h'
  subst h h'
  rfl

theorem zOne_eq : ∀ {x y : Value}, zOne x y = true → x = y := by
  intro x y h
  unfold zOne at h
  split at h
  · simp only [Bool.and_eq_true, decide_eq_true_eq] at h
    rw [IntKind.num_inj (Nat.eq_of_beq_eq_true h.1), h.2]
  · rw [beq_iff_eq] at h; rw [h]
  · simp only [Bool.and_eq_true] at h
    rw [nilStr_eq h.1 h.2]
  · rfl
  · rfl
  · simp at h

theorem zList_eq : ∀ {x y : List Value}, zList x y = true → x = y
  | [], [], _ => rfl
  | [], _ :: _, h => by simp [zList] at h
  | _ :: _, [], h => by simp [zList] at h
  | x :: r, y :: s, h => by
    simp only [zList, Bool.and_eq_true] at h
    rw [zOne_eq h.1, zList_eq h.2]

theorem zVal_eq {x y : Value} (h : zVal x y = true) : x = y := by
  unfold zVal at h
  split at h
  · rename_i a b
    obtain ⟨a⟩ := a
    obtain ⟨b⟩ := b
    have := zList_eq h
    simp only at this
    rw [this]
  · exact zOne_eq h

def baseChk (P : Program) (t : Ty) (T : TypeId) : Bool :=
  !P.stoodInHeld T && (match P.info? T with
    | some i => Nat.beq i.size t.size && Nat.ble i.bytes 4096 && (match i.zero with
      | some z => zVal z (toV t (zeros t))
      | none => false)
    | none => false)

theorem baseChk_ok {t : Ty} {T : TypeId} (h : baseChk P t T = true) : Base P T t := by
  simp only [baseChk, Bool.and_eq_true, Bool.not_eq_true'] at h
  obtain ⟨h1, h2⟩ := h
  refine ⟨h1, ?_⟩
  split at h2
  · rename_i i hi
    simp only [Bool.and_eq_true] at h2
    obtain ⟨⟨h3, h4⟩, h5⟩ := h2
    split at h5
    · rename_i z hz
      exact ⟨i, hi, Nat.eq_of_beq_eq_true h3, by rw [hz, zVal_eq h5], Nat.le_of_ble_eq_true h4⟩
    · simp at h5
  · simp at h2

mutual
def tyChk (P : Program) : Ty → TypeId → Bool
  | .unit, T => baseChk P .unit T && (match P.underlying T with
    | some (.struct fs) => fs.toList.isEmpty
    | _ => false)
  | .int k, T => baseChk P (.int k) T && (match P.underlying T with
    | some (.int k') => Nat.beq (IntKind.num k') (IntKind.num k)
    | _ => false)
  | .bool, T => baseChk P .bool T && (match P.underlying T with
    | some .bool => true
    | _ => false)
  | .str, T => baseChk P .str T && (match P.underlying T with
    | some .string => true
    | _ => false)
  | .pair a b, T => baseChk P (.pair a b) T && (match P.underlying T with
    | some (.struct fs) => (match fs.toList with
      | f :: r => Nat.beq f.offset 0 && f.name != "_" && tyChk P a f.type && fldChk P b r a.size
      | [] => false)
    | _ => false)
  | .slice e, T => baseChk P (.slice e) T && (match P.underlying T with
    | some (.slice E) => tyChk P e E
    | _ => false)
  | .arr n e, T => baseChk P (.arr n e) T && (match P.underlying T with
    | some (.array m E) => Nat.beq m n && tyChk P e E && e.flat
    | _ => false)
  | .iface, T => baseChk P .iface T && (match P.underlying T with
    | some (.interface _) => true
    | _ => false)
def fldChk (P : Program) : Ty → List Field → Nat → Bool
  | .unit, [], _ => true
  | .pair a b, f :: r, o => Nat.beq f.offset o && f.name != "_" && tyChk P a f.type && fldChk P b r (o + a.size)
  | _, _, _ => false
end

mutual
theorem tyChk_ok : ∀ {t : Ty} {T : TypeId}, tyChk P t T = true → TyOk P t T
  | .unit, T, h => by
    simp only [tyChk, Bool.and_eq_true] at h
    refine ⟨baseChk_ok h.1, ?_⟩
    have h2 := h.2
    split at h2
    · rename_i fs hfs
      obtain ⟨fs⟩ := fs
      simp only [List.isEmpty_iff] at h2
      subst h2
      exact hfs
    · simp at h2
  | .int k, T, h => by
    simp only [tyChk, Bool.and_eq_true] at h
    refine ⟨baseChk_ok h.1, ?_⟩
    have h2 := h.2
    split at h2
    · rename_i k' hk
      rw [hk, IntKind.num_inj (Nat.eq_of_beq_eq_true h2)]
    · simp at h2
  | .bool, T, h => by
    simp only [tyChk, Bool.and_eq_true] at h
    refine ⟨baseChk_ok h.1, ?_⟩
    have h2 := h.2
    split at h2
    · assumption
    · simp at h2
  | .str, T, h => by
    simp only [tyChk, Bool.and_eq_true] at h
    refine ⟨baseChk_ok h.1, ?_⟩
    have h2 := h.2
    split at h2
    · assumption
    · simp at h2
  | .pair a b, T, h => by
    simp only [tyChk, Bool.and_eq_true] at h
    refine ⟨baseChk_ok h.1, ?_⟩
    have h2 := h.2
    split at h2
    · rename_i fs hfs
      obtain ⟨fs⟩ := fs
      simp only at h2
      split at h2
      · rename_i f r
        simp only [Bool.and_eq_true, bne_iff_ne] at h2
        exact ⟨f, r, hfs, Nat.eq_of_beq_eq_true h2.1.1.1, h2.1.1.2, tyChk_ok h2.1.2, fldChk_ok h2.2⟩
      · simp at h2
    · simp at h2
  | .slice e, T, h => by
    simp only [tyChk, Bool.and_eq_true] at h
    refine ⟨baseChk_ok h.1, ?_⟩
    have h2 := h.2
    split at h2
    · rename_i E hE
      exact ⟨E, hE, tyChk_ok h2⟩
    · simp at h2
  | .arr n e, T, h => by
    simp only [tyChk, Bool.and_eq_true] at h
    refine ⟨baseChk_ok h.1, ?_⟩
    have h2 := h.2
    split at h2
    · rename_i m E hE
      simp only [Bool.and_eq_true] at h2
      rw [Nat.eq_of_beq_eq_true h2.1.1] at hE
      exact ⟨E, hE, tyChk_ok h2.1.2, h2.2⟩
    · simp at h2
  | .iface, T, h => by
    simp only [tyChk, Bool.and_eq_true] at h
    refine ⟨baseChk_ok h.1, ?_⟩
    have h2 := h.2
    split at h2
    · rename_i ms hm
      exact ⟨ms, hm⟩
    · simp at h2
theorem fldChk_ok : ∀ {t : Ty} {fs : List Field} {o : Nat}, fldChk P t fs o = true → FldOk P t fs o
  | .unit, [], o, h => by simp [FldOk]
  | .unit, _ :: _, o, h => by simp [fldChk] at h
  | .pair a b, [], o, h => by simp [fldChk] at h
  | .pair a b, f :: r, o, h => by
    simp only [fldChk, Bool.and_eq_true, bne_iff_ne] at h
    simp only [FldOk]
    exact ⟨f, r, rfl, Nat.eq_of_beq_eq_true h.1.1.1, h.1.1.2, tyChk_ok h.1.2, fldChk_ok h.2⟩
  | .int _, _, _, h => by simp [fldChk] at h
  | .bool, _, _, h => by simp [fldChk] at h
  | .str, _, _, h => by simp [fldChk] at h
  | .slice _, _, _, h => by simp [fldChk] at h
  | .arr _ _, _, _, h => by simp [fldChk] at h
  | .iface, _, _, h => by simp [fldChk] at h
end

/-- Are these the program's types? -/
def tabChk (P : Program) (l : List (Nat × Ty)) : Bool :=
  P.follows .mixedOrders && allL (fun T t => tyChk P t T && (!eqTy t || !P.eqGuardType P.depth T)) l

/-- What is known of a program: its types, its variables. -/
structure Kn where
  ty : List (Nat × Ty)
  gl : List (Nat × Dat)

def Kn.G (kn : Kn) : Nat → Option Dat := Go.Eng.look kn.gl

/-- The functions that are known: by their number, and by the number (from 1 on) of a function that is handed to them. -/
def fnArg : List AV → Nat
  | [] => 0
  | .fn f _ :: _ => f + 1
  | _ :: r => fnArg r

def lookE : List (Nat × Nat × Ct) → Nat → Nat → Option Ct
  | [], _, _ => none
  | x :: r, f, j => bif Nat.beq x.1 f && (Nat.beq x.2.1 0 || Nat.beq x.2.1 j) then some x.2.2 else lookE r f j

def memK : List Nat → Nat → Bool
  | [], _ => false
  | x :: r, k => bif Nat.blt k x then false else bif Nat.beq x k then true else memK r k

def mkCx (kn : Kn) (env : List (Nat × Nat × Ct)) (kp : List Nat) (n : Nat) : Cx where
  ty := Go.Eng.look kn.ty
  env := fun f vs => lookE env f (fnArg vs)
  gl := Go.Eng.look kn.gl
  kp := memK kp
  tops := fun _ => false
  n := n

/-- All of them do what their contracts say. -/
def EnvL (P : Program) (G : Nat → Option Dat) (l : List (Nat × Nat × Ct)) : Prop := ∀ x ∈ l, Holds P G x.1 x.2.2 ∧ Enters P x.1

theorem lookE_mem : ∀ {l : List (Nat × Nat × Ct)} {f j : Nat} {ct : Ct}, lookE l f j = some ct → ∃ i, (f, i, ct) ∈ l
  | [], f, j, ct, h => by simp [lookE] at h
  | x :: l, f, j, ct, h => by
    simp only [lookE] at h
    cases hc : (Nat.beq x.1 f && (Nat.beq x.2.1 0 || Nat.beq x.2.1 j))
    · rw [hc] at h
      obtain ⟨i, hi⟩ := lookE_mem h
      exact ⟨i, by simp [hi]⟩
    · rw [hc] at h
      simp only [cond_true, Option.some.injEq] at h
      simp only [Bool.and_eq_true] at hc
      have := Nat.eq_of_beq_eq_true hc.1
      obtain ⟨a, b, c⟩ := x
      simp only at this h
      subst this h
      exact ⟨b, by simp⟩

theorem EnvL.ok {G : Nat → Option Dat} {kn : Kn} {env : List (Nat × Nat × Ct)} {kp : List Nat} {n : Nat} (h : EnvL P G env) : EnvOk P G (mkCx kn env kp n) := by
  intro f vs ct hct
  obtain ⟨i, hi⟩ := lookE_mem hct
  exact h _ hi

theorem EnvL.nil {G : Nat → Option Dat} : EnvL P G [] := fun x hx => by simp at hx

theorem EnvL.cons {G : Nat → Option Dat} {l : List (Nat × Nat × Ct)} {f i : Nat} {ct : Ct} (h1 : Holds P G f ct) (h2 : Enters P f) (h : EnvL P G l) : EnvL P G ((f, i, ct) :: l) := by
  intro x hx
  rcases List.mem_cons.1 hx with rfl | hx
  · exact ⟨h1, h2⟩
  · exact h x hx

theorem cx_ok {kn : Kn} (h : tabChk P kn.ty = true) {env : List (Nat × Nat × Ct)} {kp : List Nat} {n : Nat} {E : En} (hE : E.G = kn.G) : CxOk P E (mkCx kn env kp n) := by
  simp only [tabChk, Bool.and_eq_true] at h
  refine ⟨fun T t ht => ?_, fun i u hu => by rw [hE]; exact hu, fun T t ht he => ?_, h.1⟩
  · have := allL_look h.2 ht
    simp only [Bool.and_eq_true] at this
    exact tyChk_ok this.1
  · have := allL_look h.2 ht
    simp only [Bool.and_eq_true, Bool.or_eq_true, Bool.not_eq_true'] at this
    rcases this.2 with k | k
    · rw [he] at k; simp at k
    · exact k

theorem Holds.of_run {kn : Kn} {env : List (Nat × Nat × Ct)} {kp : List Nat} {f : FuncId} {fn : Func} {c : Code} (hf : P.funcs[f]? = some fn) (hb : fn.body = some c) (ht : tabChk P kn.ty = true) (henv : EnvL P kn.G env) {ct : Ct} {n : Nat} (hn : n = fn.ntmps) (hp : Nat.ble ct.ps.length n = true)
    {rv : List ResultVar} (hrv : fn.results.toList = rv)
    (hM : ∀ ds x, ct.M ds = some x → run (mkCx kn env kp n) c rv ct.pr ct.ps ct.rs ct.os ds = some x) : Holds P kn.G f ct := by
  intro w S args ds Fs Ps x hA hAp hgl hx
  subst hrv
  exact run_holds hf hb (fun E hE => cx_ok ht hE) (EnvL.ok henv) (ps := ct.ps) (rs := ct.rs) (os := ct.os) (pr := ct.pr) hn (by have := Nat.le_of_ble_eq_true hp; rw [hn] at this; exact this) w S args ds Fs Ps x hA hAp hgl (hM ds x hx)

theorem Enters.of {f : FuncId} {fn : Func} {c : Code} (hf : P.funcs[f]? = some fn) (hb : fn.body = some c) (hn : (fn.name != "runtime.NumGoroutine") = true) : Enters P f :=
  ⟨fn, c, hf, hb, by simpa using hn⟩

def bitAnd (j : IntKind) (a b : Int) : Int := j.wrap (BitVec.ofInt j.bits a &&& BitVec.ofInt j.bits b).toNat
def bitOr (j : IntKind) (a b : Int) : Int := j.wrap (BitVec.ofInt j.bits a ||| BitVec.ofInt j.bits b).toNat
def bitXor (j : IntKind) (a b : Int) : Int := j.wrap (BitVec.ofInt j.bits a ^^^ BitVec.ofInt j.bits b).toNat

/-- A function's text. -/
def codeOf (fn : Func) : Code := fn.body.getD .skip

/-- A function's model on typed data. -/
def M1 {T : Type} (t : Ty) (m : t.den → Option T) : List Dat → Option T
  | [u] => match u.as t with
    | some a => m a
    | none => none
  | _ => none

def M2 {T : Type} (t1 t2 : Ty) (m : t1.den → t2.den → Option T) : List Dat → Option T
  | [u, v] => match u.as t1, v.as t2 with
    | some a, some b => m a b
    | _, _ => none
  | _ => none

def M3 {T : Type} (t1 t2 t3 : Ty) (m : t1.den → t2.den → t3.den → Option T) : List Dat → Option T
  | [u, v, w] => match u.as t1, v.as t2, w.as t3 with
    | some a, some b, some c => m a b c
    | _, _, _ => none
  | _ => none

def M4 {T : Type} (t1 t2 t3 t4 : Ty) (m : t1.den → t2.den → t3.den → t4.den → Option T) : List Dat → Option T
  | [u, v, w, y] => match u.as t1, v.as t2, w.as t3, y.as t4 with
    | some a, some b, some c, some d => m a b c d
    | _, _, _, _ => none
  | _ => none

def M0 {T : Type} (m : Option T) : List Dat → Option T
  | [] => m
  | _ => none

theorem M0_ok {T : Type} {m : Option T} {r : List Dat → Option T} (h : r [] = m) : ∀ ds x, M0 m ds = some x → r ds = some x := by
  intro ds x hx
  unfold M0 at hx
  split at hx
  · rw [h]; exact hx
  · simp at hx

theorem M1_ok {T : Type} {t : Ty} {m : t.den → Option T} {r : List Dat → Option T} (h : ∀ a, r [⟨t, a⟩] = m a) : ∀ ds x, M1 t m ds = some x → r ds = some x := by
  intro ds x hx
  unfold M1 at hx
  split at hx
  · split at hx
    · rename_i a ha
      rw [Dat.as_some ha, h]; exact hx
    · simp at hx
  · simp at hx

theorem M2_ok {T : Type} {t1 t2 : Ty} {m : t1.den → t2.den → Option T} {r : List Dat → Option T} (h : ∀ a b, r [⟨t1, a⟩, ⟨t2, b⟩] = m a b) : ∀ ds x, M2 t1 t2 m ds = some x → r ds = some x := by
  intro ds x hx
  unfold M2 at hx
  split at hx
  · split at hx
    · rename_i a b ha hb
      rw [Dat.as_some ha, Dat.as_some hb, h]; exact hx
    · simp at hx
  · simp at hx

theorem M3_ok {T : Type} {t1 t2 t3 : Ty} {m : t1.den → t2.den → t3.den → Option T} {r : List Dat → Option T} (h : ∀ a b c, r [⟨t1, a⟩, ⟨t2, b⟩, ⟨t3, c⟩] = m a b c) : ∀ ds x, M3 t1 t2 t3 m ds = some x → r ds = some x := by
  intro ds x hx
  unfold M3 at hx
  split at hx
  · split at hx
    · rename_i a b c ha hb hc
      rw [Dat.as_some ha, Dat.as_some hb, Dat.as_some hc, h]; exact hx
    · simp at hx
  · simp at hx

theorem M4_ok {T : Type} {t1 t2 t3 t4 : Ty} {m : t1.den → t2.den → t3.den → t4.den → Option T} {r : List Dat → Option T} (h : ∀ a b c d, r [⟨t1, a⟩, ⟨t2, b⟩, ⟨t3, c⟩, ⟨t4, d⟩] = m a b c d) : ∀ ds x, M4 t1 t2 t3 t4 m ds = some x → r ds = some x := by
  intro ds x hx
  unfold M4 at hx
  split at hx
  · split at hx
    · rename_i a b c d ha hb hc hd
      rw [Dat.as_some ha, Dat.as_some hb, Dat.as_some hc, Dat.as_some hd, h]; exact hx
    · simp at hx
  · simp at hx

end
end Go.Eng
end

section
/- The engine: a contract of the library, said as the engine has it. -/
namespace Go.Eng
open Go Go.RowKit

section
variable {P : Program}

theorem Rd_str {w : World} {S : Nat → Prop} {F : Nat → Prop} {cs : List Value} {d : List UInt8} (h : Rd w S .str .shr F cs d) : cs = [.string ⟨⟨d⟩⟩] := by simpa only [Rd] using h
theorem Rd_int {w : World} {S : Nat → Prop} {k : IntKind} {F : Nat → Prop} {cs : List Value} {d : Int} (h : Rd w S (.int k) .shr F cs d) : cs = [.int k d] := by simpa only [Rd] using h

/-- All that was there is as it was; nothing was handed over. -/
theorem Post.of_below {G : Nat → Option Dat} {ct : Ct} {w w' : World} {S : Nat → Prop} {vs : List Value} {ds : List Dat} {Rs : List (Nat → Prop)} (ho : ct.os = []) (hp : ct.pr = false) (hS : ∀ y, S y → y < w.heap.size) (hb : Below w.heap.size w w')
    (hr : RetsOk w' S ct.rs vs ds Rs) (hR : ∀ F ∈ Rs, ∀ y, ¬ F y) : Post G ct w S [] [] ds (resV vs) w' := by
  refine ⟨S, vs, ds, [], Rs, [], by rw [hp]; rfl, by simp, hr, by rw [ho]; exact .nil, ?_, ?_, fun _ h => h, fun y hy => ⟨.inl hy, Nat.lt_of_lt_of_le (hS y hy) hb.size⟩, ?_⟩
  · rw [List.append_nil]
    exact List.pairwise_of_forall_mem_list fun F hF H _ y hy => absurd hy (hR F hF y)
  · intro F hF y hy
    rw [List.append_nil] at hF
    exact absurd hy (hR F hF y)
  · exact ⟨hb.size, fun y hy _ _ => hb.block y hy, fun q hq => by simp at hq, hb.os, hb.tape, hb.output⟩

/-- The cells of a variable that is known. -/
theorem GlOk.cells {G : Nat → Option Dat} {w : World} {S : Nat → Prop} {F : Nat → Prop} {Ps : List (Nat × Nat × Nat)} {K : Nat → Option (Nat × Nat × Nat)} (h : GlOk ⟨w, S, F, Ps, G, K⟩ S w) {i : Nat} {u : Dat} (hu : G i = some u) :
    ∃ c el fz, w.heap[i]? = some (.cells c el fz) ∧ Rd w S u.1 .shr none' c.toList u.2 := by
  obtain ⟨_, h2, c, el, fz, h3, h4⟩ := h i u hu
  refine ⟨c, el, fz, h3, ?_⟩
  have : cellsAt w i 0 u.1.size = c.toList := by
    rw [cellsAt_eq h3, ← h4]
    simp only [chunk, List.drop_zero]
    rw [← Array.length_toList]
    exact List.take_length ..
  rwa [this] at h2

/-- What an array of integers reads as. -/
theorem Rd_arr_int {w : World} {S : Nat → Prop} {m : Nat} {k : IntKind} {F : Nat → Prop} {cs : List Value} {d : List Int} (h : Rd w S (.arr m (.int k)) .shr F cs d) : cs = d.map (Value.int k) := by
  simp only [Rd, Ty.size, Nat.mul_one] at h
  obtain ⟨h1, h2, _, h4⟩ := h
  apply List.ext_getElem?
  intro i
  by_cases hi : i < d.length
  · have := h4 i hi
    have hc : chunk cs i 1 = [.int k d[i]] := this
    have hci : cs[i]? = some (.int k d[i]) := by
      have := congrArg (fun l => l[0]?) hc
      simpa [chunk] using this
    rw [hci]
    simp [hi]
  · rw [List.getElem?_eq_none (by omega), List.getElem?_eq_none (by simpa using hi)]

/-- What a shared slice of strings reads as. -/
theorem Rd_strs {w : World} {S : Nat → Prop} {F : Nat → Prop} {cs : List Value} {d : List (List UInt8)} (h : Rd w S (.slice .str) .shr F cs d) :
    ∃ base cap, cs = [.slice base d.length cap] ∧ d.length ≤ cap ∧ (d = [] ∨ ∃ b off, base = some ⟨b, off, none⟩ ∧ S b ∧ ∀ j (x : List UInt8), d[j]? = some x → w.cell? ⟨b, off + j, none⟩ = some (.string ⟨⟨x⟩⟩)) := by
  simp only [Rd] at h
  obtain ⟨base, len, cap, rfl, rfl, h2, h3⟩ := h
  refine ⟨base, cap, rfl, h2, ?_⟩
  rcases h3 with h3 | ⟨b, off, rfl, hS, h4⟩
  · exact .inl (List.length_eq_zero_iff.1 h3)
  · refine .inr ⟨b, off, rfl, hS, fun j x hx => ?_⟩
    have hj : j < d.length := by
      rcases Nat.lt_or_ge j d.length with h5 | h5
      · exact h5
      · rw [List.getElem?_eq_none h5] at hx; simp at hx
    have h5 := h4 j hj
    simp only [Ty.size, Nat.mul_one] at h5
    have hdj : d[j] = x := by rw [List.getElem?_eq_getElem hj] at hx; exact Option.some.inj hx
    rw [hdj] at h5
    have := cell_of (w := w) (b := b) (o := off + j) (n := 1) rfl 0 (.string ⟨⟨x⟩⟩) (by rw [h5]; rfl)
    simpa [Addr.add] using this

end
end Go.Eng
end

section
/- The library contracts that are proved once (the shelf), laid at this dump by its command: strings.Count and strings.Index at one byte, strings.Join, strconv.Itoa, strconv.Atoi. -/
namespace Go.Proofs
open Go.Shelf
def Tryz.lays156_ren : Go.Shelf.Ren := ⟨fun | 156 => 33 | 165 => 56 | 166 => 57 | 169 => 58 | 240 => 72 | 241 => 73 | 276 => 82 | 277 => 83 | n => n, fun | 31 => 49 | 9 => 9 | 3 => 3 | 4 => 4 | 0 => 0 | 20 => 20 | 72 => 80 | 76 => 84 | 70 => 78 | 37 => 22 | 75 => 83 | 127 => 94 | 164 => 101 | 5 => 5 | 80 => 86 | n => n, fun | n => n⟩
theorem Tryz.lays156 : Go.Proofs.Lays.n156 Tryz.prog Tryz.lays156_ren := {
  mixed := by kernel_rfl
  f156 := Tryz.func33.trans (congrArg some (by kernel_rfl))
  f165 := Tryz.func56.trans (congrArg some (by kernel_rfl))
  f166 := Tryz.func57.trans (congrArg some (by kernel_rfl))
  f169 := Tryz.func58.trans (congrArg some (by kernel_rfl))
  f240 := Tryz.func72.trans (congrArg some (by kernel_rfl))
  f241 := Tryz.func73.trans (congrArg some (by kernel_rfl))
  f276 := Tryz.func82.trans (congrArg some (by kernel_rfl))
  f277 := Tryz.func83.trans (congrArg some (by kernel_rfl))
  t0 := Tryz.underlying0
  a0 := Tryz.isAgg0
  z0 := Tryz.sizeOf0
  v0 := Tryz.zeroValue0
  t3 := Tryz.underlying3
  a3 := Tryz.isAgg3
  z3 := Tryz.sizeOf3
  v3 := Tryz.zeroValue3
  t4 := Tryz.underlying4
  a4 := Tryz.isAgg4
  z4 := Tryz.sizeOf4
  v4 := Tryz.zeroValue4
  t9 := Tryz.underlying9
  a9 := Tryz.isAgg9
  z9 := Tryz.sizeOf9
  v9 := Tryz.zeroValue9
  t20 := Tryz.underlying20
  a20 := Tryz.isAgg20
  z20 := Tryz.sizeOf20
  v20 := Tryz.zeroValue20
  t31 := Tryz.underlying49
  a31 := Tryz.isAgg49
  z31 := Tryz.sizeOf49
  v31 := Tryz.zeroValue49
  t37 := Tryz.underlying22
  a37 := Tryz.isAgg22
  z37 := Tryz.sizeOf22
  v37 := Tryz.zeroValue22
  t70 := Tryz.underlying78
  a70 := Tryz.isAgg78
  z70 := Tryz.sizeOf78
  v70 := Tryz.zeroValue78
  t72 := Tryz.underlying80
  a72 := Tryz.isAgg80
  z72 := Tryz.sizeOf80
  v72 := Tryz.zeroValue80
  t75 := Tryz.underlying83
  a75 := Tryz.isAgg83
  z75 := Tryz.sizeOf83
  v75 := Tryz.zeroValue83
  t76 := Tryz.underlying84
  a76 := Tryz.isAgg84
  z76 := Tryz.sizeOf84
  v76 := Tryz.zeroValue84
  t127 := Tryz.underlying94
  a127 := Tryz.isAgg94
  z127 := Tryz.sizeOf94
  v127 := Tryz.zeroValue94
  t164 := Tryz.underlying101
  a164 := Tryz.isAgg101
  z164 := Tryz.sizeOf101
  v164 := Tryz.zeroValue101 }
theorem Tryz.Builder_Extra_156 : Builder.Extra Tryz.prog Tryz.lays156_ren := {
  sizeBuilder := by kernel_rfl
  liesBuilder := by kernel_rfl
  t5 := Tryz.underlying5
  a5 := Tryz.isAgg5
  z5 := Tryz.sizeOf5
  v5 := Tryz.zeroValue5
  infoByte := by kernel_rfl
  cellsByte := by kernel_rfl
  sizeByte := by kernel_rfl
  neB5 := by decide }
open Go.RowKit in
theorem Tryz.strings_Join_none (a : Option Addr) (c : Nat) (sep : ByteArray) (w : World) :
    Calls Tryz.prog 33 #[.slice a 0 c, .string sep] w fun e w' => e = .returned (.string ⟨#[]⟩) ∧ w' = w := Any.strings_Join_none Tryz.lays156 Tryz.Builder_Extra_156 a c sep w
open Go.RowKit in
theorem Tryz.strings_Join (bk o c : Nat) (xs : List ByteArray) (sep : ByteArray) (w : World) (hcells : ∀ (j : Nat) x, xs[j]? = some x → w.cell? ⟨bk, o + j, none⟩ = some (.string x)) (hbk : bk < w.heap.size) (hN : xs.length ≤ 140737488355328) (hcap : xs.length ≤ c) (hlen : (Lib.join (xs.map (·.data.toList)) sep.data.toList).length ≤ 140737488355328) :
    Calls Tryz.prog 33 #[.slice (some ⟨bk, o, none⟩) xs.length c, .string sep] w fun e w' => e = .returned (.string ⟨(Lib.join (xs.map (·.data.toList)) sep.data.toList).toArray⟩) ∧ Below w.heap.size w w' := Any.strings_Join Tryz.lays156 Tryz.Builder_Extra_156 bk o c xs sep w hcells hbk hN hcap hlen
def Tryz.laysM171_ren : Go.Shelf.Ren := ⟨fun | 171 => 65 | 243 => 74 | 246 => 84 | 283 => 96 | 284 => 97 | 285 => 98 | 286 => 99 | 129 => 106 | 317 => 105 | 318 => 107 | 319 => 108 | 320 => 109 | 337 => 112 | 338 => 113 | n => n, fun | 3 => 3 | 9 => 9 | 2 => 2 | 4 => 4 | 171 => 113 | 0 => 0 | 53 => 114 | 37 => 22 | 5 => 5 | 173 => 117 | 212 => 133 | 51 => 123 | 20 => 20 | 213 => 134 | 46 => 95 | 232 => 142 | 233 => 143 | n => n, fun | 17 => 6 | 18 => 7 | 19 => 8 | n => n⟩
theorem Tryz.laysM171 : Go.Proofs.LaysM.n171 Tryz.prog Tryz.laysM171_ren := {
  mixed := by kernel_rfl
  f129 := Tryz.func106.trans (congrArg some (by kernel_rfl))
  f171 := Tryz.func65.trans (congrArg some (by kernel_rfl))
  f243 := Tryz.func74.trans (congrArg some (by kernel_rfl))
  f246 := Tryz.func84.trans (congrArg some (by kernel_rfl))
  f283 := Tryz.func96.trans (congrArg some (by kernel_rfl))
  f284 := Tryz.func97.trans (congrArg some (by kernel_rfl))
  f285 := Tryz.func98.trans (congrArg some (by kernel_rfl))
  f286 := Tryz.func99.trans (congrArg some (by kernel_rfl))
  f317 := Tryz.func105.trans (congrArg some (by kernel_rfl))
  f318 := Tryz.func107.trans (congrArg some (by kernel_rfl))
  f319 := Tryz.func108.trans (congrArg some (by kernel_rfl))
  f320 := Tryz.func109.trans (congrArg some (by kernel_rfl))
  f337 := Tryz.func112.trans (congrArg some (by kernel_rfl))
  f338 := Tryz.func113.trans (congrArg some (by kernel_rfl))
  t0 := Tryz.underlying0
  a0 := Tryz.isAgg0
  z0 := Tryz.sizeOf0
  v0 := Tryz.zeroValue0
  t2 := Tryz.underlying2
  a2 := Tryz.isAgg2
  z2 := Tryz.sizeOf2
  v2 := Tryz.zeroValue2
  t3 := Tryz.underlying3
  a3 := Tryz.isAgg3
  z3 := Tryz.sizeOf3
  v3 := Tryz.zeroValue3
  t4 := Tryz.underlying4
  a4 := Tryz.isAgg4
  z4 := Tryz.sizeOf4
  v4 := Tryz.zeroValue4
  t5 := Tryz.underlying5
  a5 := Tryz.isAgg5
  z5 := Tryz.sizeOf5
  v5 := Tryz.zeroValue5
  t9 := Tryz.underlying9
  a9 := Tryz.isAgg9
  z9 := Tryz.sizeOf9
  v9 := Tryz.zeroValue9
  t20 := Tryz.underlying20
  a20 := Tryz.isAgg20
  z20 := Tryz.sizeOf20
  v20 := Tryz.zeroValue20
  t37 := Tryz.underlying22
  a37 := Tryz.isAgg22
  z37 := Tryz.sizeOf22
  v37 := Tryz.zeroValue22
  t46 := Tryz.underlying95
  a46 := Tryz.isAgg95
  z46 := Tryz.sizeOf95
  v46 := Tryz.zeroValue95
  t51 := Tryz.underlying123
  a51 := Tryz.isAgg123
  z51 := Tryz.sizeOf123
  v51 := Tryz.zeroValue123
  t53 := Tryz.underlying114
  a53 := Tryz.isAgg114
  z53 := Tryz.sizeOf114
  v53 := Tryz.zeroValue114
  t171 := Tryz.underlying113
  a171 := Tryz.isAgg113
  z171 := Tryz.sizeOf113
  v171 := Tryz.zeroValue113
  t173 := Tryz.underlying117
  a173 := Tryz.isAgg117
  z173 := Tryz.sizeOf117
  v173 := Tryz.zeroValue117
  t212 := Tryz.underlying133
  a212 := Tryz.isAgg133
  z212 := Tryz.sizeOf133
  v212 := Tryz.zeroValue133
  t213 := Tryz.underlying134
  a213 := Tryz.isAgg134
  z213 := Tryz.sizeOf134
  t232 := Tryz.underlying142
  a232 := Tryz.isAgg142
  z232 := Tryz.sizeOf142
  v232 := Tryz.zeroValue142
  t233 := Tryz.underlying143
  a233 := Tryz.isAgg143
  z233 := Tryz.sizeOf143
  v233 := Tryz.zeroValue143
  g17 := by kernel_rfl
  g18 := by kernel_rfl
  g19 := by kernel_rfl
  i0 := by kernel_rfl
  i2 := by kernel_rfl
  i3 := by kernel_rfl
  i4 := by kernel_rfl
  i5 := by kernel_rfl
  i9 := by kernel_rfl
  i20 := by kernel_rfl
  i37 := by kernel_rfl
  i46 := by kernel_rfl
  i51 := by kernel_rfl
  i53 := by kernel_rfl
  i171 := by kernel_rfl
  i173 := by kernel_rfl
  i212 := by kernel_rfl
  i232 := by kernel_rfl
  i233 := by kernel_rfl
  m17 := by kernel_rfl
  m18 := by kernel_rfl
  m19 := by kernel_rfl }
open Go.RowKit Go.Sort Go.Lib in
theorem Tryz.strconv_Itoa (n : Int) (h0 : -9223372036854775808 ≤ n) (h1 : n ≤ 9223372036854775807) (w : World) (htab : Lib.TabIs Tryz.prog w "internal/strconv.uint64pow10" .u64 Lib.pow10Tab) :
    Calls Tryz.prog 65 #[.int .i64 n] w fun e w' => e = .returned (.string ⟨(Lib.itoa n).toArray⟩) ∧ ∃ k os, w' = grow (w.drewN k) os := Any.strconv_Itoa Tryz.laysM171 n h0 h1 w htab
def Tryz.laysC172_ren : Go.Shelf.Ren := ⟨fun | 172 => 69 | 244 => 79 | 245 => 80 | 247 => 90 | 279 => 91 | 280 => 92 | 281 => 93 | 282 => 94 | 287 => 102 | 316 => 103 | 171 => 65 | 205 => 104 | 321 => 110 | 322 => 111 | 243 => 74 | 246 => 84 | 283 => 96 | 284 => 97 | 285 => 98 | 286 => 99 | 129 => 106 | 317 => 105 | 318 => 107 | 319 => 108 | 320 => 109 | 337 => 112 | 338 => 113 | n => n, fun | 9 => 9 | 3 => 3 | 75 => 83 | 76 => 84 | 4 => 4 | 5 => 5 | 167 => 106 | 37 => 22 | 0 => 0 | 85 => 107 | 2 => 2 | 168 => 109 | 53 => 114 | 175 => 126 | 46 => 95 | 210 => 130 | 127 => 94 | 145 => 140 | 143 => 138 | 21 => 21 | 171 => 113 | 173 => 117 | 212 => 133 | 51 => 123 | 20 => 20 | 213 => 134 | 232 => 142 | 233 => 143 | 80 => 86 | n => n, fun | 15 => 4 | 16 => 5 | 17 => 6 | 18 => 7 | 19 => 8 | n => n⟩
theorem Tryz.laysC172 : Go.Proofs.LaysC.n172 Tryz.prog Tryz.laysC172_ren := {
  mixed := by kernel_rfl
  f129 := Tryz.func106.trans (congrArg some (by kernel_rfl))
  f171 := Tryz.func65.trans (congrArg some (by kernel_rfl))
  f172 := Tryz.func69.trans (congrArg some (by kernel_rfl))
  f205 := Tryz.func104.trans (congrArg some (by kernel_rfl))
  f243 := Tryz.func74.trans (congrArg some (by kernel_rfl))
  f244 := Tryz.func79.trans (congrArg some (by kernel_rfl))
  f245 := Tryz.func80.trans (congrArg some (by kernel_rfl))
  f246 := Tryz.func84.trans (congrArg some (by kernel_rfl))
  f247 := Tryz.func90.trans (congrArg some (by kernel_rfl))
  f279 := Tryz.func91.trans (congrArg some (by kernel_rfl))
  f280 := Tryz.func92.trans (congrArg some (by kernel_rfl))
  f281 := Tryz.func93.trans (congrArg some (by kernel_rfl))
  f282 := Tryz.func94.trans (congrArg some (by kernel_rfl))
  f283 := Tryz.func96.trans (congrArg some (by kernel_rfl))
  f284 := Tryz.func97.trans (congrArg some (by kernel_rfl))
  f285 := Tryz.func98.trans (congrArg some (by kernel_rfl))
  f286 := Tryz.func99.trans (congrArg some (by kernel_rfl))
  f287 := Tryz.func102.trans (congrArg some (by kernel_rfl))
  f316 := Tryz.func103.trans (congrArg some (by kernel_rfl))
  f317 := Tryz.func105.trans (congrArg some (by kernel_rfl))
  f318 := Tryz.func107.trans (congrArg some (by kernel_rfl))
  f319 := Tryz.func108.trans (congrArg some (by kernel_rfl))
  f320 := Tryz.func109.trans (congrArg some (by kernel_rfl))
  f321 := Tryz.func110.trans (congrArg some (by kernel_rfl))
  f322 := Tryz.func111.trans (congrArg some (by kernel_rfl))
  f337 := Tryz.func112.trans (congrArg some (by kernel_rfl))
  f338 := Tryz.func113.trans (congrArg some (by kernel_rfl))
  t0 := Tryz.underlying0
  a0 := Tryz.isAgg0
  z0 := Tryz.sizeOf0
  v0 := Tryz.zeroValue0
  t2 := Tryz.underlying2
  a2 := Tryz.isAgg2
  z2 := Tryz.sizeOf2
  v2 := Tryz.zeroValue2
  t3 := Tryz.underlying3
  a3 := Tryz.isAgg3
  z3 := Tryz.sizeOf3
  v3 := Tryz.zeroValue3
  t4 := Tryz.underlying4
  a4 := Tryz.isAgg4
  z4 := Tryz.sizeOf4
  v4 := Tryz.zeroValue4
  t5 := Tryz.underlying5
  a5 := Tryz.isAgg5
  z5 := Tryz.sizeOf5
  v5 := Tryz.zeroValue5
  t9 := Tryz.underlying9
  a9 := Tryz.isAgg9
  z9 := Tryz.sizeOf9
  v9 := Tryz.zeroValue9
  t20 := Tryz.underlying20
  a20 := Tryz.isAgg20
  z20 := Tryz.sizeOf20
  v20 := Tryz.zeroValue20
  t21 := Tryz.underlying21
  a21 := Tryz.isAgg21
  z21 := Tryz.sizeOf21
  v21 := Tryz.zeroValue21
  t37 := Tryz.underlying22
  a37 := Tryz.isAgg22
  z37 := Tryz.sizeOf22
  v37 := Tryz.zeroValue22
  t46 := Tryz.underlying95
  a46 := Tryz.isAgg95
  z46 := Tryz.sizeOf95
  v46 := Tryz.zeroValue95
  t51 := Tryz.underlying123
  a51 := Tryz.isAgg123
  z51 := Tryz.sizeOf123
  v51 := Tryz.zeroValue123
  t53 := Tryz.underlying114
  a53 := Tryz.isAgg114
  z53 := Tryz.sizeOf114
  v53 := Tryz.zeroValue114
  t75 := Tryz.underlying83
  a75 := Tryz.isAgg83
  z75 := Tryz.sizeOf83
  v75 := Tryz.zeroValue83
  t76 := Tryz.underlying84
  a76 := Tryz.isAgg84
  z76 := Tryz.sizeOf84
  v76 := Tryz.zeroValue84
  t85 := Tryz.underlying107
  a85 := Tryz.isAgg107
  z85 := Tryz.sizeOf107
  v85 := Tryz.zeroValue107
  t127 := Tryz.underlying94
  a127 := Tryz.isAgg94
  z127 := Tryz.sizeOf94
  v127 := Tryz.zeroValue94
  t143 := Tryz.underlying138
  a143 := Tryz.isAgg138
  z143 := Tryz.sizeOf138
  v143 := Tryz.zeroValue138
  t145 := Tryz.underlying140
  a145 := Tryz.isAgg140
  z145 := Tryz.sizeOf140
  v145 := Tryz.zeroValue140
  t167 := Tryz.underlying106
  a167 := Tryz.isAgg106
  z167 := Tryz.sizeOf106
  v167 := Tryz.zeroValue106
  t168 := Tryz.underlying109
  a168 := Tryz.isAgg109
  z168 := Tryz.sizeOf109
  v168 := Tryz.zeroValue109
  t171 := Tryz.underlying113
  a171 := Tryz.isAgg113
  z171 := Tryz.sizeOf113
  v171 := Tryz.zeroValue113
  t173 := Tryz.underlying117
  a173 := Tryz.isAgg117
  z173 := Tryz.sizeOf117
  v173 := Tryz.zeroValue117
  t175 := Tryz.underlying126
  a175 := Tryz.isAgg126
  z175 := Tryz.sizeOf126
  v175 := Tryz.zeroValue126
  t210 := Tryz.underlying130
  a210 := Tryz.isAgg130
  z210 := Tryz.sizeOf130
  v210 := Tryz.zeroValue130
  t212 := Tryz.underlying133
  a212 := Tryz.isAgg133
  z212 := Tryz.sizeOf133
  v212 := Tryz.zeroValue133
  t213 := Tryz.underlying134
  a213 := Tryz.isAgg134
  z213 := Tryz.sizeOf134
  t232 := Tryz.underlying142
  a232 := Tryz.isAgg142
  z232 := Tryz.sizeOf142
  v232 := Tryz.zeroValue142
  t233 := Tryz.underlying143
  a233 := Tryz.isAgg143
  z233 := Tryz.sizeOf143
  v233 := Tryz.zeroValue143
  g15 := by kernel_rfl
  g16 := by kernel_rfl
  g17 := by kernel_rfl
  g18 := by kernel_rfl
  g19 := by kernel_rfl
  t80 := Tryz.underlying86
  a80 := Tryz.isAgg86
  z80 := Tryz.sizeOf86
  v80 := Tryz.zeroValue86
  i0 := by kernel_rfl
  i2 := by kernel_rfl
  i3 := by kernel_rfl
  i4 := by kernel_rfl
  i5 := by kernel_rfl
  i9 := by kernel_rfl
  i20 := by kernel_rfl
  i21 := by kernel_rfl
  i37 := by kernel_rfl
  i46 := by kernel_rfl
  i51 := by kernel_rfl
  i53 := by kernel_rfl
  i75 := by kernel_rfl
  i76 := by kernel_rfl
  i80 := by kernel_rfl
  i85 := by kernel_rfl
  i127 := by kernel_rfl
  i143 := by kernel_rfl
  i145 := by kernel_rfl
  i167 := by kernel_rfl
  i168 := by kernel_rfl
  i171 := by kernel_rfl
  i173 := by kernel_rfl
  i175 := by kernel_rfl
  i210 := by kernel_rfl
  i212 := by kernel_rfl
  i232 := by kernel_rfl
  i233 := by kernel_rfl
  m15 := by kernel_rfl
  m16 := by kernel_rfl
  m17 := by kernel_rfl
  m18 := by kernel_rfl
  m19 := by kernel_rfl
  c0 := by kernel_rfl
  c2 := by kernel_rfl
  c3 := by kernel_rfl
  c4 := by kernel_rfl
  c5 := by kernel_rfl
  c9 := by kernel_rfl
  c20 := by kernel_rfl
  c21 := by kernel_rfl
  c37 := by kernel_rfl
  c46 := by kernel_rfl
  c51 := by kernel_rfl
  c53 := by kernel_rfl
  c75 := by kernel_rfl
  c76 := by kernel_rfl
  c80 := by kernel_rfl
  c85 := by kernel_rfl
  c127 := by kernel_rfl
  c143 := by kernel_rfl
  c145 := by kernel_rfl
  c167 := by kernel_rfl
  c168 := by kernel_rfl
  c171 := by kernel_rfl
  c173 := by kernel_rfl
  c175 := by kernel_rfl
  c210 := by kernel_rfl
  c212 := by kernel_rfl
  c213 := by kernel_rfl
  c232 := by kernel_rfl
  c233 := by kernel_rfl }
open Go.RowKit in
theorem Tryz.strconv_Atoi_ok (s : ByteArray) (hmax : s.size ≤ 9223372036854775806) (v : Int) (h : Lib.atoiAll s.data.toList = .ok v) (w : World) :
    Calls Tryz.prog 69 #[.string s] w fun e w' => e = .returned (.tuple #[.int .i64 v, .nilIface]) ∧ (w' = w ∨ ∃ t, w' = Lib.bytesWorld w 5 t) := Any.strconv_Atoi_ok Tryz.laysC172 s hmax v h w
open Go.RowKit in
theorem Tryz.strconv_Atoi_syntax (s : ByteArray) (hlim : s.size ≤ 281474976710656) (h : Lib.atoiAll s.data.toList = Lib.atoiAll []) (ev : Value) (w : World) (hv : w.cell? ⟨4, 0, none⟩ = some ev) (hev : ev = .nilIface ∨ ∃ te pe, ev = .iface te pe) :
    Calls Tryz.prog 69 #[.string s] w fun e w' => ∃ N, e = .returned (.tuple #[.int .i64 (0), .iface 109 (.pointer (some ⟨N, 0, none⟩))]) ∧ w.heap.size ≤ N ∧ w'.heap[N]? = some (.cells #[.string ⟨#[65, 116, 111, 105]⟩, .string s, ev] 130 (0, 0)) ∧ Below w.heap.size w w' := Any.strconv_Atoi_syntax Tryz.laysC172 s hlim h ev w hv hev
open Go.RowKit in
theorem Tryz.strconv_Atoi_range (s : ByteArray) (hlim : s.size ≤ 281474976710656) (h : Lib.atoiAll s.data.toList = .range) (ev : Value) (w : World) (hv : w.cell? ⟨5, 0, none⟩ = some ev) (hev : ev = .nilIface ∨ ∃ te pe, ev = .iface te pe) :
    Calls Tryz.prog 69 #[.string s] w fun e w' => ∃ N, e = .returned (.tuple #[.int .i64 (Lib.atoiSat s.data.toList), .iface 109 (.pointer (some ⟨N, 0, none⟩))]) ∧ w.heap.size ≤ N ∧ w'.heap[N]? = some (.cells #[.string ⟨#[65, 116, 111, 105]⟩, .string s, ev] 130 (0, 0)) ∧ Below w.heap.size w w' := Any.strconv_Atoi_range Tryz.laysC172 s hlim h ev w hv hev
def Tryz.lays143_ren : Go.Shelf.Ren := ⟨fun | 143 => 68 | 219 => 78 | 217 => 86 | 225 => 87 | 224 => 88 | 267 => 89 | 266 => 100 | 314 => 101 | n => n, fun | 9 => 9 | 3 => 3 | 4 => 4 | 5 => 5 | 46 => 95 | 146 => 124 | 51 => 123 | n => n, fun | 1 => 1 | n => n⟩
theorem Tryz.lays143 : Go.Proofs.Lays.n143 Tryz.prog Tryz.lays143_ren := {
  mixed := by kernel_rfl
  f143 := Tryz.func68.trans (congrArg some (by kernel_rfl))
  f217 := Tryz.func86.trans (congrArg some (by kernel_rfl))
  f219 := Tryz.func78.trans (congrArg some (by kernel_rfl))
  f224 := Tryz.func88.trans (congrArg some (by kernel_rfl))
  f225 := Tryz.func87.trans (congrArg some (by kernel_rfl))
  f266 := Tryz.func100.trans (congrArg some (by kernel_rfl))
  f267 := Tryz.func89.trans (congrArg some (by kernel_rfl))
  f314 := Tryz.func101.trans (congrArg some (by kernel_rfl))
  t3 := Tryz.underlying3
  a3 := Tryz.isAgg3
  z3 := Tryz.sizeOf3
  v3 := Tryz.zeroValue3
  t4 := Tryz.underlying4
  a4 := Tryz.isAgg4
  z4 := Tryz.sizeOf4
  v4 := Tryz.zeroValue4
  t5 := Tryz.underlying5
  a5 := Tryz.isAgg5
  z5 := Tryz.sizeOf5
  v5 := Tryz.zeroValue5
  t9 := Tryz.underlying9
  a9 := Tryz.isAgg9
  z9 := Tryz.sizeOf9
  v9 := Tryz.zeroValue9
  t46 := Tryz.underlying95
  a46 := Tryz.isAgg95
  z46 := Tryz.sizeOf95
  v46 := Tryz.zeroValue95
  t51 := Tryz.underlying123
  a51 := Tryz.isAgg123
  z51 := Tryz.sizeOf123
  v51 := Tryz.zeroValue123
  t146 := Tryz.underlying124
  a146 := Tryz.isAgg124
  z146 := Tryz.sizeOf124
  v146 := Tryz.zeroValue124
  g1 := by kernel_rfl }
open Go.RowKit Go.Lib in
theorem Tryz.strings_Index_one (s : ByteArray) (c : UInt8) (w : World) :
    Calls Tryz.prog 68 #[.string s, .string ⟨#[c]⟩] w fun e w' => e = .returned (.int .i64 (Lib.indexByte s.data.toList c)) ∧ w' = w := Any.strings_Index_one Tryz.lays143 s c w
def Tryz.lays138_ren : Go.Shelf.Ren := ⟨fun | 138 => 67 | 195 => 75 | 218 => 77 | 143 => 68 | 219 => 78 | 217 => 86 | 225 => 87 | 224 => 88 | 267 => 89 | 266 => 100 | 314 => 101 | n => n, fun | 9 => 9 | 3 => 3 | 4 => 4 | 5 => 5 | 0 => 0 | 46 => 95 | 146 => 124 | 51 => 123 | n => n, fun | 1 => 1 | n => n⟩
theorem Tryz.lays138 : Go.Proofs.Lays.n138 Tryz.prog Tryz.lays138_ren := {
  mixed := by kernel_rfl
  f138 := Tryz.func67.trans (congrArg some (by kernel_rfl))
  f143 := Tryz.func68.trans (congrArg some (by kernel_rfl))
  f195 := Tryz.func75.trans (congrArg some (by kernel_rfl))
  f217 := Tryz.func86.trans (congrArg some (by kernel_rfl))
  f218 := Tryz.func77.trans (congrArg some (by kernel_rfl))
  f219 := Tryz.func78.trans (congrArg some (by kernel_rfl))
  f224 := Tryz.func88.trans (congrArg some (by kernel_rfl))
  f225 := Tryz.func87.trans (congrArg some (by kernel_rfl))
  f266 := Tryz.func100.trans (congrArg some (by kernel_rfl))
  f267 := Tryz.func89.trans (congrArg some (by kernel_rfl))
  f314 := Tryz.func101.trans (congrArg some (by kernel_rfl))
  t0 := Tryz.underlying0
  a0 := Tryz.isAgg0
  z0 := Tryz.sizeOf0
  v0 := Tryz.zeroValue0
  t3 := Tryz.underlying3
  a3 := Tryz.isAgg3
  z3 := Tryz.sizeOf3
  v3 := Tryz.zeroValue3
  t4 := Tryz.underlying4
  a4 := Tryz.isAgg4
  z4 := Tryz.sizeOf4
  v4 := Tryz.zeroValue4
  t5 := Tryz.underlying5
  a5 := Tryz.isAgg5
  z5 := Tryz.sizeOf5
  v5 := Tryz.zeroValue5
  t9 := Tryz.underlying9
  a9 := Tryz.isAgg9
  z9 := Tryz.sizeOf9
  v9 := Tryz.zeroValue9
  t46 := Tryz.underlying95
  a46 := Tryz.isAgg95
  z46 := Tryz.sizeOf95
  v46 := Tryz.zeroValue95
  t51 := Tryz.underlying123
  a51 := Tryz.isAgg123
  z51 := Tryz.sizeOf123
  v51 := Tryz.zeroValue123
  t146 := Tryz.underlying124
  a146 := Tryz.isAgg124
  z146 := Tryz.sizeOf124
  v146 := Tryz.zeroValue124
  g1 := by kernel_rfl }
open Go.RowKit Go.Lib in
theorem Tryz.strings_Count_one (s : ByteArray) (c : UInt8) (w : World) :
    Calls Tryz.prog 67 #[.string s, .string ⟨#[c]⟩] w fun e w' => e = .returned (.int .i64 (Lib.countByte s.data.toList c)) ∧ w' = w := Any.strings_Count_one Tryz.lays138 s c w
end Go.Proofs
end

section
/- What is known of the program: its types, its variables; the library's functions (strings.Count and strings.Index at one byte, strings.Join, strconv.Itoa, strconv.Atoi), out of the shelf's contracts. -/
namespace Go.Proofs.YtfihmdlpikfbbaaGreatDoor
open Go Go.Eng Go.RowKit
set_option maxRecDepth 100000
noncomputable section
def kn : Kn := ⟨[(3, (.int .i64)), (4, .bool), (5, (.int .u8)), (9, .str), (22, (.slice (.int .u8))), (25, (.pair (.int .i64) (.pair (.int .i64) (.pair (.int .i64) (.pair (.int .i64) .unit))))), (31, (.pair (.int .i64) (.pair (.int .i64) (.pair (.int .i64) .unit)))), (36, (.slice (.pair (.int .i64) (.pair (.int .i64) (.pair (.int .i64) .unit))))), (38, (.pair .bool (.pair (.slice (.pair (.int .i64) (.pair (.int .i64) (.pair (.int .i64) .unit)))) .unit))), (49, (.slice .str)), (51, (.arr 3 (.int .i64))), (56, (.arr 4 .str)), (70, (.slice (.int .i64))), (71, (.arr 7 .str)), (76, (.pair (.slice (.int .u8)) (.pair (.int .i64) (.pair (.int .i64) .unit)))), (83, .iface)], [(0, ⟨.arr 4 .str, [([103, 101, 116] : List UInt8), ([112, 117, 116] : List UInt8), ([100, 101, 108] : List UInt8), ([97, 100, 100] : List UInt8)]⟩), (4, ⟨.iface, true⟩), (5, ⟨.iface, true⟩), (6, ⟨.arr 20 (.int .u64), Lib.pow10Tab⟩)]⟩
theorem tab_ok : tabChk Tryz.prog kn.ty = true := by kernel_rfl
def lCount (s sep : List UInt8) : Option (Int × Unit) := match sep with
  | [c] => some ((Lib.countByte s c : Int), ())
  | _ => none
def lIndex (s sep : List UInt8) : Option (Int × Unit) := match sep with
  | [c] => some (Lib.indexByte s c, ())
  | _ => none
def lExplode (_ : List UInt8) (_ : Int) : Option ((List (List UInt8)) × Unit) := none
def lJoin (l : List (List UInt8)) (sep : List UInt8) : Option ((List UInt8) × Unit) :=
  bif decide (List.length l ≤ 140737488355328) && decide (List.length (Lib.join l sep) ≤ 140737488355328) then some (Lib.join l sep, ()) else none
def lItoa (n : Int) : Option ((List UInt8) × Unit) := bif decide (-9223372036854775808 ≤ n) && decide (n ≤ 9223372036854775807) then some (Lib.itoa n, ()) else none
def lAtoi (s : List UInt8) : Option (Int × Bool × Unit) := bif decide (List.length s ≤ 281474976710656) then (match Lib.atoiAll s with
  | .ok v => some (v, false, ())
  | .range => some (Lib.atoiSat s, true, ())
  | _ => some (0, true, ())) else none
def ct_lCount : Ct := ⟨[.bor .str, .bor .str], [((.int .i64), .own)], [], M2 .str .str lCount, false⟩
theorem e_lCount : Eng.Enters Tryz.prog 67 := Eng.Enters.of Tryz.func67 (c := codeOf Tryz.f67) (by kernel_rfl) (by kernel_rfl)
def ct_lIndex : Ct := ⟨[.bor .str, .bor .str], [((.int .i64), .own)], [], M2 .str .str lIndex, false⟩
theorem e_lIndex : Eng.Enters Tryz.prog 68 := Eng.Enters.of Tryz.func68 (c := codeOf Tryz.f68) (by kernel_rfl) (by kernel_rfl)
def ct_lExplode : Ct := ⟨[.bor .str, .bor (.int .i64)], [((.slice .str), .own)], [], M2 .str (.int .i64) lExplode, false⟩
theorem e_lExplode : Eng.Enters Tryz.prog 66 := Eng.Enters.of Tryz.func66 (c := codeOf Tryz.f66) (by kernel_rfl) (by kernel_rfl)
def ct_lJoin : Ct := ⟨[.bor (.slice .str), .bor .str], [(.str, .own)], [], M2 (.slice .str) .str lJoin, false⟩
theorem e_lJoin : Eng.Enters Tryz.prog 33 := Eng.Enters.of Tryz.func33 (c := codeOf Tryz.f33) (by kernel_rfl) (by kernel_rfl)
def ct_lItoa : Ct := ⟨[.bor (.int .i64)], [(.str, .own)], [], M1 (.int .i64) lItoa, false⟩
theorem e_lItoa : Eng.Enters Tryz.prog 65 := Eng.Enters.of Tryz.func65 (c := codeOf Tryz.f65) (by kernel_rfl) (by kernel_rfl)
def ct_lAtoi : Ct := ⟨[.bor .str], [((.int .i64), .own), (.iface, .own)], [], M1 .str lAtoi, false⟩
theorem e_lAtoi : Eng.Enters Tryz.prog 69 := Eng.Enters.of Tryz.func69 (c := codeOf Tryz.f69) (by kernel_rfl) (by kernel_rfl)

theorem h_lCount : Holds Tryz.prog kn.G 67 ct_lCount := by
  intro w S args ds Fs Ps x hA hAp hgl hM
  cases hA with
  | bor hr1 hA =>
  cases hA with
  | bor hr2 hA =>
  cases hA
  rw [Rd_str hr1, Rd_str hr2]
  simp only [ct_lCount, M2, Dat.as_self, lCount] at hM
  split at hM
  · rename_i c
    have hM := Option.some.inj hM
    subst hM
    refine (Tryz.strings_Count_one ⟨⟨_⟩⟩ c w).mono ?_
    rintro e w' ⟨rfl, rfl⟩
    refine ⟨_, rfl, ?_⟩
    refine Post.of_below (Rs := [none']) (vs := [.int .i64 _]) rfl rfl hAp.Sb (Below.refl _ _) (.cons (F := none') (cs := [.int .i64 _]) (by simp only [Rd]) rfl .nil) ?_
    intro F hF y hy; (simp at hF); (subst hF); exact hy
  · simp at hM

theorem h_lIndex : Holds Tryz.prog kn.G 68 ct_lIndex := by
  intro w S args ds Fs Ps x hA hAp hgl hM
  cases hA with
  | bor hr1 hA =>
  cases hA with
  | bor hr2 hA =>
  cases hA
  rw [Rd_str hr1, Rd_str hr2]
  simp only [ct_lIndex, M2, Dat.as_self, lIndex] at hM
  split at hM
  · rename_i c
    have hM := Option.some.inj hM
    subst hM
    refine (Tryz.strings_Index_one ⟨⟨_⟩⟩ c w).mono ?_
    rintro e w' ⟨rfl, rfl⟩
    refine ⟨_, rfl, ?_⟩
    refine Post.of_below (Rs := [none']) (vs := [.int .i64 _]) rfl rfl hAp.Sb (Below.refl _ _) (.cons (F := none') (cs := [.int .i64 _]) (by simp only [Rd]) rfl .nil) ?_
    intro F hF y hy; (simp at hF); (subst hF); exact hy
  · simp at hM

theorem h_lExplode : Holds Tryz.prog kn.G 66 ct_lExplode := by
  intro w S args ds Fs Ps x hA hAp hgl hM
  cases hA with
  | bor hr1 hA =>
  cases hA with
  | bor hr2 hA =>
  cases hA
  simp [ct_lExplode, M2, Dat.as_self, lExplode] at hM

theorem h_lJoin : Holds Tryz.prog kn.G 33 ct_lJoin := by
  intro w S args ds Fs Ps x hA hAp hgl hM
  cases hA with
  | bor hr1 hA =>
  cases hA with
  | bor hr2 hA =>
  cases hA
  rename_i cs1 d1 cs2 d2
  simp only [ct_lJoin, M2, Dat.as_self, lJoin] at hM
  obtain ⟨hc, hM⟩ := cond_none hM
  simp only [Bool.and_eq_true, decide_eq_true_eq] at hc
  have hM := Option.some.inj hM
  subst hM
  obtain ⟨base, cap, h1, h2, h3⟩ := Rd_strs hr1
  subst h1
  rw [Rd_str hr2]
  have fin : ∀ (l : List UInt8) (w' : World), Below w.heap.size w w' → Post kn.G ct_lJoin w S [] [] (Tup.list [(.str, .own)] (l, ())) (.string ⟨l.toArray⟩) w' := by
    intro l w' hb
    refine Post.of_below (Rs := [none']) (vs := [.string ⟨l.toArray⟩]) rfl rfl hAp.Sb hb (.cons (F := none') (cs := [.string ⟨l.toArray⟩]) (by simp only [Rd]) rfl .nil) ?_
    intro F hF y hy; (simp at hF); (subst hF); exact hy
  rcases h3 with h3 | ⟨b, off, rfl, hS, hcells⟩
  · subst h3
    refine (Tryz.strings_Join_none base cap ⟨⟨d2⟩⟩ w).mono ?_
    rintro e w' ⟨rfl, rfl⟩
    exact ⟨_, rfl, fin (Lib.join [] d2) w' (Below.refl _ _)⟩
  · have hmap : (d1.map fun l : List UInt8 => (⟨⟨l⟩⟩ : ByteArray)).map (·.data.toList) = d1 := by
      rw [List.map_map]
      exact List.map_id'' (fun _ => rfl) _
    have := Tryz.strings_Join b off cap (d1.map fun l : List UInt8 => (⟨⟨l⟩⟩ : ByteArray)) ⟨⟨d2⟩⟩ w (fun j x hx => by
      simp only [List.getElem?_map, Option.map_eq_some_iff] at hx
      obtain ⟨l, hl, rfl⟩ := hx
      exact hcells j l hl) (hAp.Sb b hS) (by simpa using hc.1) (by simpa using h2) (by rw [hmap]; exact hc.2)
    rw [hmap, List.length_map] at this
    refine Calls.mono this ?_
    rintro e w' ⟨rfl, hb⟩
    exact ⟨_, rfl, fin _ w' hb⟩

theorem h_lItoa : Holds Tryz.prog kn.G 65 ct_lItoa := by
  intro w S args ds Fs Ps x hA hAp hgl hM
  cases hA with
  | bor hr1 hA =>
  cases hA
  rename_i cs1 d1
  simp only [ct_lItoa, M1, Dat.as_self, lItoa] at hM
  obtain ⟨hc, hM⟩ := cond_none hM
  simp only [Bool.and_eq_true, decide_eq_true_eq] at hc
  have hM := Option.some.inj hM
  subst hM
  rw [Rd_int hr1]
  obtain ⟨c, el, fz, h1, h2⟩ := hgl.cells (i := 6) (u := ⟨.arr 20 (.int .u64), Lib.pow10Tab⟩) rfl
  have h3 := Rd_arr_int h2
  have htab : Lib.TabIs Tryz.prog w "internal/strconv.uint64pow10" .u64 Lib.pow10Tab := by
    unfold Lib.TabIs World.var?
    rw [show Tryz.prog.globalNamed "internal/strconv.uint64pow10" = some 6 from by kernel_rfl]
    simp only [Option.bind_some, h1, Option.some.injEq]
    apply Array.ext'
    rw [h3]
  refine (Tryz.strconv_Itoa d1 hc.1 hc.2 w htab).mono ?_
  rintro e w' ⟨rfl, k, os, rfl⟩
  refine ⟨_, rfl, ?_⟩
  refine Post.of_below (Rs := [none']) (vs := [.string ⟨(Lib.itoa d1).toArray⟩]) rfl rfl hAp.Sb ?_ (.cons (F := none') (cs := [.string ⟨(Lib.itoa d1).toArray⟩]) (by simp only [Rd]) rfl .nil) ?_
  · exact ⟨rfl, rfl, rfl, by simp [Go.Sort.grow, World.drewN], fun y hy => by simp only [Go.Sort.grow, World.drewN]; rw [Array.getElem?_append_left hy]⟩
  · intro F hF y hy; (simp at hF); (subst hF); exact hy

theorem h_lAtoi : Holds Tryz.prog kn.G 69 ct_lAtoi := by
  intro w S args ds Fs Ps x hA hAp hgl hM
  cases hA with
  | bor hr1 hA =>
  cases hA
  rename_i cs1 d1
  simp only [ct_lAtoi, M1, Dat.as_self, lAtoi] at hM
  obtain ⟨hc, hM⟩ := cond_none hM
  simp only [decide_eq_true_eq] at hc
  rw [Rd_str hr1]
  have gv : ∀ i, kn.G i = some ⟨.iface, true⟩ → ∃ te pe, w.cell? ⟨i, 0, none⟩ = some (.iface te pe) := by
    intro i hi
    obtain ⟨_, h2, _⟩ := hgl i _ hi
    simp only [Rd, if_true] at h2
    obtain ⟨_, te, pe, h3⟩ := h2
    refine ⟨te, pe, ?_⟩
    have := cell_of h3 0 _ rfl
    simpa [Addr.add] using this
  split at hM
  · rename_i v hv
    have hM := Option.some.inj hM
    subst hM
    refine (Tryz.strconv_Atoi_ok ⟨⟨d1⟩⟩ (by simpa [ByteArray.size] using (by omega : d1.length ≤ 9223372036854775806)) v hv w).mono ?_
    rintro e w' ⟨rfl, hw⟩
    refine ⟨_, rfl, ?_⟩
    refine Post.of_below (Rs := [none', none']) (vs := [.int .i64 v, .nilIface]) rfl rfl hAp.Sb ?_ (.cons (F := none') (cs := [.int .i64 v]) (by simp only [Rd]) rfl (.cons (F := none') (cs := [.nilIface]) (by simp [Rd, Gone, plain]) rfl .nil)) ?_
    · rcases hw with rfl | ⟨t, rfl⟩
      · exact Below.refl _ _
      · exact ⟨rfl, rfl, rfl, by rw [Lib.bytesWorld_size]; omega, fun j hj => Lib.bytesWorld_at_old w 5 t j hj⟩
    · intro F hF y hy; (simp at hF); (subst hF); exact hy
  · rename_i hv
    have hM := Option.some.inj hM
    subst hM
    obtain ⟨te, pe, hcell⟩ := gv 5 rfl
    refine (Tryz.strconv_Atoi_range ⟨⟨d1⟩⟩ (by simpa [ByteArray.size] using hc) hv _ w hcell (.inr ⟨te, pe, rfl⟩)).mono ?_
    rintro e w' ⟨N, rfl, _, _, hb⟩
    refine ⟨_, rfl, ?_⟩
    refine Post.of_below (Rs := [none', none']) (vs := [.int .i64 _, .iface 109 _]) rfl rfl hAp.Sb hb (.cons (F := none') (cs := [.int .i64 _]) (by simp only [Rd]) rfl (.cons (F := none') (cs := [.iface 109 _]) (by simp [Rd, Gone, plain]) rfl .nil)) ?_
    intro F hF y hy; (simp at hF); (subst hF); exact hy
  · rename_i hno hnr
    have hv : Lib.atoiAll d1 = Lib.atoiAll [] := by
      cases hx : Lib.atoiAll d1 with
      | ok v => exact absurd hx (hno v)
      | range => exact absurd hx hnr
      | _ => rfl
    have hM := Option.some.inj hM
    subst hM
    obtain ⟨te, pe, hcell⟩ := gv 4 rfl
    refine (Tryz.strconv_Atoi_syntax ⟨⟨d1⟩⟩ (by simpa [ByteArray.size] using hc) hv _ w hcell (.inr ⟨te, pe, rfl⟩)).mono ?_
    rintro e w' ⟨N, rfl, _, _, hb⟩
    refine ⟨_, rfl, ?_⟩
    refine Post.of_below (Rs := [none', none']) (vs := [.int .i64 0, .iface 109 _]) rfl rfl hAp.Sb hb (.cons (F := none') (cs := [.int .i64 0]) (by simp only [Rd]) rfl (.cons (F := none') (cs := [.iface 109 _]) (by simp [Rd, Gone, plain]) rfl .nil)) ?_
    intro F hF y hy; (simp at hF); (subst hF); exact hy
end
end Go.Proofs.YtfihmdlpikfbbaaGreatDoor
end
