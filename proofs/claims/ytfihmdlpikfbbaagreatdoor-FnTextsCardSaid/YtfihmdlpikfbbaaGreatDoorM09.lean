/- Part 9 of 20 of a claim; what is proved, and under which conditions, stands in the last part. Here: EngAS, EngAT, EngAU, EngAV. -/
import Derived.Test.YtfihmdlpikfbbaaGreatDoorM08
set_option linter.unusedVariables false
set_option linter.unusedSimpArgs false
set_option linter.unusedSectionVars false
section
/- The engine, operations in an open order: what comes of an operation does not hang on what is done with it. -/
namespace Go.Eng
open Go

section
variable {R : Type} {cx : Cx} {st : St}

theorem bind_cond {α β : Type} (c : Bool) (x y : Option α) (k : α → Option β) : (bif c then x else y).bind k = bif c then x.bind k else y.bind k := by cases c <;> rfl

theorem binV_bind {op : BinOp} {T : TypeId} {yc : Bool} {x y : AV} {k : AV → Option R} : binV cx op T yc x y k = (binV cx op T yc x y some).bind k := by
  unfold binV
  repeat' split
  all_goals simp [bind_cond]

theorem idxK_bind {T : TypeId} {x y : AV} {k : AV → Option R} : idxK cx st T x y k = (idxK cx st T x y some).bind k := by
  unfold idxK
  repeat' split
  all_goals simp [bind_cond]

theorem indexK_bind {T : TypeId} {x y : AV} {k : AV → Option R} : indexK cx T x y k = (indexK cx T x y some).bind k := by
  unfold indexK
  repeat' split
  all_goals simp [bind_cond]

theorem sliceK_bind {T : TypeId} {x : AV} {a b c : Option AV} {k : AV → Option R} : sliceK cx st T x a b c k = (sliceK cx st T x a b c some).bind k := by
  unfold sliceK
  repeat' split
  all_goals simp [bind_cond]

theorem convK_bind {S T : TypeId} {x : AV} {k : AV → Option R} : convK cx st S T x k = (convK cx st S T x some).bind k := by
  unfold convK
  repeat' split
  all_goals simp [bind_cond]

theorem takeK_bind {v : AV} {t : Ty} {k : St → Md → t.den → Option R} : takeK st v t k = (takeK st v t fun s m d => some (s, m, d)).bind fun x => k x.1 x.2.1 x.2.2 := by
  cases v
  case nils => cases t <;> simp only [takeK] <;> rfl
  case cut b p lo hi =>
    simp only [takeK]
    cases look st.bx b <;> cases t <;> simp only [] <;> (try rfl)
    split <;> simp [bind_cond]
  all_goals
    simp only [takeK]
    repeat' split
    all_goals simp [bind_cond]

theorem fltK_bind {b : Bool} {f : Nat → Path → Bool → Bool} {k : St → Option R} : fltK b f st k = (fltK b f st some).bind k := by
  unfold fltK; simp [bind_cond]

theorem newK_bind {s : Bool} {b : Nat} {x : Bx} {k : St → Option R} : newK s st b x k = (newK s st b x some).bind k := by
  unfold newK; rw [fltK_bind]; conv => rhs; rw [fltK_bind]
  rw [Option.bind_assoc]; rfl

theorem takeL_bind {e : Ty} : ∀ {R : Type} {l : List AV} {st : St} {k : St → List Md → List e.den → Option R}, takeL st e l k = (takeL st e l fun s m d => some (s, m, d)).bind fun x => k x.1 x.2.1 x.2.2
  | _, [], st, k => rfl
  | _, v :: l, st, k => by
    simp only [takeL]
    rw [takeK_bind, takeK_bind (k := fun st1 m d => takeL st1 e l fun st2 ms ds => some (st2, m :: ms, d :: ds)), Option.bind_assoc]
    congr 1
    funext x
    rw [takeL_bind, takeL_bind (k := fun st2 ms ds => some (st2, x.2.1 :: ms, x.2.2 :: ds)), Option.bind_assoc]
    rfl

theorem partsK_bind {t : Ty} : ∀ {R : Type} {l : List (Path × Ty × AV)} {m : Md} {d : t.den} {st : St} {k : St → Md → t.den → Option R}, partsK st t m d l k = (partsK st t m d l fun s m d => some (s, m, d)).bind fun x => k x.1 x.2.1 x.2.2
  | _, [], m, d, st, k => rfl
  | _, (p, e, v) :: l, m, d, st, k => by
    simp only [partsK]
    rw [takeK_bind]
    conv => rhs; rw [takeK_bind]
    rw [Option.bind_assoc]
    congr 1
    funext x
    split
    · rw [partsK_bind]
    · rfl

theorem arrK_bind {e : Ty} {n : Nat} : ∀ {R : Type} {l : List (Nat × AV)} {d : List e.den} {st : St} {k : St → List e.den → Option R}, arrK st e n d l k = (arrK st e n d l fun s d => some (s, d)).bind fun x => k x.1 x.2
  | _, [], d, st, k => rfl
  | _, (i, v) :: l, d, st, k => by
    simp only [arrK]
    rw [bind_cond]
    congr 1
    rw [takeK_bind]
    conv => rhs; rw [takeK_bind]
    rw [Option.bind_assoc]
    congr 1
    funext x
    exact arrK_bind

theorem takeArgs_bind : ∀ {R : Type} {ks : List PK} {vs : List AV} {st : St} {k : St → List (Option Dat) → List (Nat × Path) → Option R}, takeArgs st ks vs k = (takeArgs st ks vs fun s l o => some (s, l, o)).bind fun x => k x.1 x.2.1 x.2.2
  | _, [], vs, st, k => by cases vs <;> rfl
  | _, pk :: ks, [], st, k => by cases pk <;> rfl
  | _, .bor t :: ks, v :: vs, st, k => by
    simp only [takeArgs]; rw [takeArgs_bind]
    conv => rhs; rw [takeArgs_bind]
    rw [Option.bind_assoc]; rfl
  | _, .sp t :: ks, v :: vs, st, k => by
    simp only [takeArgs]; rw [takeArgs_bind]
    conv => rhs; rw [takeArgs_bind]
    rw [Option.bind_assoc]; rfl
  | _, .fnc f kc :: ks, v :: vs, st, k => by
    simp only [takeArgs]; rw [takeArgs_bind]
    conv => rhs; rw [takeArgs_bind]
    rw [Option.bind_assoc]; rfl
  | _, .own t m :: ks, v :: vs, st, k => by
    simp only [takeArgs]
    rw [takeK_bind]
    conv => rhs; rw [takeK_bind]
    rw [Option.bind_assoc]
    congr 1
    funext x
    rw [bind_cond]
    congr 1
    rw [takeArgs_bind]
    conv => rhs; rw [takeArgs_bind]
    rw [Option.bind_assoc]; rfl
  | _, .ptr t m :: ks, v :: vs, st, k => by
    cases v <;> simp only [takeArgs] <;> (try rfl)
    split
    · rw [bind_cond]
      congr 1
      rw [takeK_bind]
      conv => rhs; rw [takeK_bind]
      rw [Option.bind_assoc]
      congr 1
      funext x
      rw [bind_cond]
      congr 1
      rw [takeArgs_bind]
      conv => rhs; rw [takeArgs_bind]
      rw [Option.bind_assoc]; rfl
    · rfl

theorem putOutsK_bind {b : Bool} : ∀ {R : Type} {o : List (Nat × Path)} {ks : List (Ty × Md)} {us : List Dat} {st : St} {k : St → Option R}, putOutsK b st o ks us k = (putOutsK b st o ks us some).bind k
  | _, [], ks, us, st, k => by cases ks <;> cases us <;> rfl
  | _, q :: o, [], us, st, k => by cases us <;> rfl
  | _, q :: o, x :: ks, [], st, k => rfl
  | _, (q, p) :: o, (t, m) :: ks, u :: us, st, k => by
    simp only [putOutsK]
    split
    · split
      · rw [bind_cond]
        congr 1
        rw [fltK_bind]
        conv => rhs; rw [fltK_bind]
        rw [Option.bind_assoc]
        congr 1
        funext x
        exact putOutsK_bind
      · rfl
    · rfl

theorem putRes_bind {b : Bool} {d : Tmp} : ∀ {R : Type} {ks : List (Ty × Md)} {us : List Dat} {i : Nat} {st : St} {k : St → List AV → Option R}, putRes b st d i ks us k = (putRes b st d i ks us fun s l => some (s, l)).bind fun x => k x.1 x.2
  | _, [], us, i, st, k => by cases us <;> rfl
  | _, x :: ks, [], i, st, k => rfl
  | _, (t, m) :: ks, u :: us, i, st, k => by
    simp only [putRes]
    split
    · simp only [bind_cond]
      congr 1
      · rw [putRes_bind]
        conv => rhs; rw [putRes_bind]
        rw [Option.bind_assoc]; rfl
      · congr 1
        rw [newK_bind]
        conv => rhs; rw [newK_bind]
        rw [Option.bind_assoc]
        congr 1
        funext x
        rw [putRes_bind]
        conv => rhs; rw [putRes_bind]
        rw [Option.bind_assoc]; rfl
    · rfl

theorem callK_bind {b : Bool} {dst : Option Tmp} {ct : Ct} {vs : List AV} {k : St → Option R} : callK st b dst ct vs k = (callK st b dst ct vs some).bind k := by
  unfold callK
  rw [takeArgs_bind]
  conv => rhs; rw [takeArgs_bind]
  rw [Option.bind_assoc]
  congr 1
  funext x
  rw [bind_cond]
  congr 1
  split
  · rw [bind_cond]
    congr 1
    rw [Option.bind_assoc]
    congr 1
    funext y
    unfold backK
    rw [putOutsK_bind]
    conv => rhs; rw [putOutsK_bind]
    rw [Option.bind_assoc]
    congr 1
    funext z
    cases dst with
    | none => rfl
    | some d =>
      simp only
      rw [bind_cond]
      congr 1
      · split
        · split
          · rw [newK_bind]
            conv => rhs; rw [newK_bind]
            rw [Option.bind_assoc]; rfl
          · rfl
        · rfl
      rw [putRes_bind]
      conv => rhs; rw [putRes_bind]
      rw [Option.bind_assoc]; rfl
  · rfl

theorem appendK_bind {b : Bool} {d : Tmp} {T : TypeId} {x y : AV} {k : St → Option R} : appendK cx st b d T x y k = (appendK cx st b d T x y some).bind k := by
  unfold appendK
  split
  · rw [takeK_bind]
    conv => rhs; rw [takeK_bind]
    rw [Option.bind_assoc]
    congr 1
    funext z
    rw [bind_cond]
    congr 1
    · split
      · rw [bind_cond]
        congr 1
        rw [newK_bind]
        conv => rhs; rw [newK_bind]
        rw [Option.bind_assoc]; rfl
      · rfl
    · rw [takeK_bind]
      conv => rhs; rw [takeK_bind]
      rw [Option.bind_assoc]
      congr 1
      funext z2
      split
      · rw [bind_cond]
        congr 1
        rw [newK_bind]
        conv => rhs; rw [newK_bind]
        rw [Option.bind_assoc]; rfl
      · rfl
  · rfl

theorem storeK_bind {b : Bool} {T : TypeId} {x v : AV} {k : St → Option R} : storeK cx st b T x v k = (storeK cx st b T x v some).bind k := by
  cases x <;> simp only [storeK] <;> (try rfl)
  cases cx.ty T with
  | none => rfl
  | some t =>
    simp only
    rw [takeK_bind]
    conv => rhs; rw [takeK_bind]
    rw [Option.bind_assoc]
    congr 1
    funext z
    split
    · split
      · rw [bind_cond]
        congr 1
        exact fltK_bind
      · rfl
    · rfl

theorem move_bind {b : Bool} {d : Tmp} {v : AV} {t : Ty} {k : St → Option R} : (takeK st v t fun st1 m x => newK b st1 (kVal d) ⟨t, m, x, false⟩ fun st9 => k (st9.put (some d) (.place (kVal d) []))) =
    (takeK st v t fun st1 m x => newK b st1 (kVal d) ⟨t, m, x, false⟩ fun st9 => some (st9.put (some d) (.place (kVal d) []))).bind k := by
  rw [takeK_bind]
  conv => rhs; rw [takeK_bind]
  rw [Option.bind_assoc]
  congr 1
  funext z
  rw [newK_bind]
  conv => rhs; rw [newK_bind]
  rw [Option.bind_assoc]; rfl

theorem assignK_bind {b : Bool} {d : Tmp} {T : TypeId} {v : AV} {k : St → Option R} : assignK cx st b d T v k = (assignK cx st b d T v some).bind k := by
  unfold assignK
  dsimp only
  split
  · rw [bind_cond]
    congr 1
    split
    · exact move_bind
    · rfl
  · split
    · exact move_bind
    · rfl
  · split
    · exact move_bind
    · rfl
  · rfl

theorem funK_bind {b : Bool} {dst : Option Tmp} {f : AV} {vs : List AV} {k : St → Option R} : funK cx st b dst f vs k = (funK cx st b dst f vs some).bind k := by
  unfold funK
  repeat' split
  all_goals first | rfl | exact callK_bind

theorem bltK_bind {s : Bool} {d : Tmp} {b : Builtin} {vs : List AV} {Ts : List TypeId} {k : St → Option R} : bltK cx st s d b vs Ts k = (bltK cx st s d b vs Ts some).bind k := by
  cases b <;> simp only [bltK] <;> (try rfl)
  case append =>
    split
    · split
      · exact appendK_bind
      · rfl
    · rfl
  all_goals
    repeat' split
    all_goals simp [bind_cond]

theorem opK_bind {s : Bool} {d : Tmp} {T : TypeId} {op : Op} {k : St → Option R} : opK cx st s d T op k = (opK cx st s d T op some).bind k := by
  cases op <;> simp only [opK] <;> (try rfl)
  case assign x => exact assignK_bind
  case alloc t =>
    split
    · rw [newK_bind]
      conv => rhs; rw [newK_bind]
      rw [Option.bind_assoc]; rfl
    · rfl
  case box t x =>
    split
    · rw [takeK_bind]
      conv => rhs; rw [takeK_bind]
      rw [Option.bind_assoc]
      congr 1
      funext z
      rw [newK_bind]
      conv => rhs; rw [newK_bind]
      rw [Option.bind_assoc]; rfl
    · rfl
  case indexAddr t x i =>
    rw [idxK_bind]
    conv => rhs; rw [idxK_bind]
    rw [Option.bind_assoc]; rfl
  case index t x i =>
    rw [indexK_bind]
    conv => rhs; rw [indexK_bind]
    rw [Option.bind_assoc]; rfl
  case slice t x lo hi mx =>
    rw [sliceK_bind]
    conv => rhs; rw [sliceK_bind]
    rw [Option.bind_assoc]; rfl
  case binOp o t x y z =>
    rw [binV_bind]
    conv => rhs; rw [binV_bind]
    rw [Option.bind_assoc]; rfl
  case convert a b x =>
    rw [convK_bind]
    conv => rhs; rw [convK_bind]
    rw [Option.bind_assoc]; rfl
  case makeSlice t l c =>
    split
    · rw [bind_cond]
      congr 1
      rw [newK_bind]
      conv => rhs; rw [newK_bind]
      rw [Option.bind_assoc]; rfl
    · rfl
  case buildSlice t m ps =>
    split
    · rw [bind_cond]
      congr 1
      rw [takeL_bind]
      conv => rhs; rw [takeL_bind]
      rw [Option.bind_assoc]
      congr 1
      funext z
      split
      · rw [newK_bind]
        conv => rhs; rw [newK_bind]
        rw [Option.bind_assoc]; rfl
      · rfl
    · rfl
  case build t ps =>
    split
    · rw [bind_cond]
      congr 1
      rw [arrK_bind]
      conv => rhs; rw [arrK_bind]
      rw [Option.bind_assoc]; rfl
    · rw [partsK_bind]
      conv => rhs; rw [partsK_bind]
      rw [Option.bind_assoc]
      congr 1
      funext z
      rw [bind_cond]
      congr 1
      rw [newK_bind]
      conv => rhs; rw [newK_bind]
      rw [Option.bind_assoc]; rfl
    · rfl
  all_goals
    repeat' split
    all_goals simp [bind_cond]

theorem execK_bind {s : Bool} {o : Oper} {k : St → Option R} : execK cx st s o k = (execK cx st s o some).bind k := by
  unfold execK
  split
  · split
    · exact storeK_bind
    · split
      · exact funK_bind
      · rfl
    · rfl
  · rw [bind_cond]
    congr 1
    split
    · split
      · exact bltK_bind
      · exact funK_bind
      · rfl
    · exact opK_bind

theorem opP_bind {o : Oper} {k : AV → Option R} : opP cx st o k = (opP cx st o some).bind k := by
  obtain ⟨dst, op, T0, pos, after, guard⟩ := o
  cases op <;> simp only [opP] <;> (try rfl)
  case indexAddr t x i => exact idxK_bind
  case index t x i => exact indexK_bind
  case slice t x lo hi mx => exact sliceK_bind
  case binOp o t x y z => exact binV_bind
  case convert a b x => exact convK_bind
  all_goals
    repeat' split
    all_goals simp [bind_cond]

end
end Go.Eng
end

section
/- The engine, operations in an open order: lists by keys; operations that only look. -/
namespace Go.Eng
open Go

section
variable {α : Type}

theorem memN_iff {B : List Nat} {b : Nat} : memN B b = true ↔ b ∈ B := by
  induction B with
  | nil => simp [memN]
  | cons x r ih =>
    simp only [memN, beq_dec, Bool.or_eq_true, decide_eq_true_eq, ih, List.mem_cons]
    constructor
    · rintro (h | h); exact .inl h.symm; exact .inr h
    · rintro (h | h); exact .inl h.symm; exact .inr h

theorem memN_false {B : List Nat} {b : Nat} : memN B b = false ↔ b ∉ B := by
  rw [← memN_iff]; simp

theorem disjN_iff {A B : List Nat} : disjN A B = true ↔ ∀ x ∈ A, x ∉ B := by
  induction A with
  | nil => simp [disjN]
  | cons x r ih => simp [disjN, memN_false, ih]

theorem look_none : ∀ {l : List (Nat × α)} {k : Nat}, (∀ x ∈ l, k < x.1) → look l k = none
  | [], k, _ => rfl
  | x :: l, k, h => by
    have h1 := h x (by simp)
    simp only [look, beq_dec]
    have : ¬ x.1 = k := by omega
    simp only [this, decide_false, cond_false]
    exact look_none fun y hy => h y (by simp [hy])

theorem srt_ext : ∀ {l r : List (Nat × α)}, Srt l → Srt r → (∀ k, look l k = look r k) → l = r
  | [], [], _, _, _ => rfl
  | [], y :: r, _, _, h => by have := h y.1; simp [look] at this
  | x :: l, [], _, _, h => by have := h x.1; simp [look] at this
  | x :: l, y :: r, hl, hr, h => by
    have hl' := hl
    have hr' := hr
    simp only [Srt, List.pairwise_cons] at hl hr
    have key : x.1 = y.1 := by
      rcases Nat.lt_trichotomy x.1 y.1 with hlt | he | hlt
      · have := h x.1
        rw [look_none (l := y :: r) (by
          intro z hz
          rcases List.mem_cons.1 hz with rfl | hz
          · exact hlt
          · have := hr.1 z hz; omega)] at this
        simp [look] at this
      · exact he
      · have := h y.1
        rw [look_none (l := x :: l) (by
          intro z hz
          rcases List.mem_cons.1 hz with rfl | hz
          · exact hlt
          · have := hl.1 z hz; omega)] at this
        simp [look] at this
    have hv : x.2 = y.2 := by
      have := h x.1
      simp only [look, beq_dec, key, decide_true, cond_true, Option.some.injEq] at this
      exact this
    have hxy : x = y := Prod.ext key hv
    subst hxy
    congr 1
    refine srt_ext hl.2 hr.2 fun k => ?_
    by_cases hk : x.1 = k
    · subst hk
      rw [look_none (fun z hz => hl.1 z hz), look_none (fun z hz => hr.1 z hz)]
    · have := h k
      simpa only [look, beq_dec, hk, decide_false, cond_false] using this

theorem look_flt {p : Nat → α → Bool} : ∀ {l : List (Nat × α)}, Srt l → ∀ k, look (fltL p l) k = (look l k).bind fun a => bif p k a then some a else none
  | [], _, k => rfl
  | x :: l, h, k => by
    have h' := h
    simp only [Srt, List.pairwise_cons] at h
    have ih := look_flt (p := p) h.2 k
    simp only [fltL]
    by_cases hk : x.1 = k
    · subst hk
      cases hp : p x.1 x.2
      · simp only [cond_false, look, beq_dec, decide_true, cond_true, Option.bind_some, hp]
        rw [ih, look_none (fun z hz => h.1 z hz)]
        rfl
      · simp only [cond_true, look, beq_dec, decide_true, Option.bind_some, hp]
    · cases hp : p x.1 x.2
      · simp only [cond_false, look, beq_dec, hk, decide_false]; exact ih
      · simp only [cond_true, look, beq_dec, hk, decide_false, cond_false]; exact ih

theorem look_putAll {l : List (Nat × α)} : ∀ {r : List (Nat × α)} {k : Nat}, look (putAll l r) k = match look r k with
    | some a => some a
    | none => look l k
  | [], k => rfl
  | x :: r, k => by
    simp only [putAll, look_putL, look, beq_dec]
    by_cases hk : x.1 = k
    · simp [hk]
    · simp only [hk, if_false, decide_false, cond_false]
      exact look_putAll

theorem srt_putAll {l : List (Nat × α)} (h : Srt l) : ∀ {r : List (Nat × α)}, Srt (putAll l r)
  | [] => h
  | x :: r => srt_putL (srt_putAll h)

theorem allL_iff {p : Nat → α → Bool} {l : List (Nat × α)} : allL p l = true ↔ ∀ x ∈ l, p x.1 x.2 = true := by
  induction l with
  | nil => simp [allL]
  | cons x r ih => simp [allL, ih]

theorem allL_look {p : Nat → α → Bool} {l : List (Nat × α)} (h : allL p l = true) {k : Nat} {a : α} (hk : look l k = some a) : p k a = true :=
  allL_iff.1 h (k, a) (look_mem hk)

theorem mem_keysL {l : List (Nat × α)} {k : Nat} : k ∈ keysL l ↔ ∃ a, (k, a) ∈ l := by
  induction l with
  | nil => simp [keysL]
  | cons x r ih =>
    simp only [keysL, List.mem_cons, ih]
    constructor
    · rintro (rfl | ⟨a, h⟩)
      · exact ⟨x.2, .inl rfl⟩
      · exact ⟨a, .inr h⟩
    · rintro ⟨a, h | h⟩
      · exact .inl (by rw [← h])
      · exact .inr ⟨a, h⟩
end

theorem AV.only_boxes : ∀ {v : AV} {B : List Nat}, v.only B = true ↔ ∀ b ∈ v.boxes, b ∈ B
  | .undef, B | .skip, B | .nils, B | .val _ _, B | .sptr _ _, B | .tnil, B => by simp [AV.only, AV.all, AV.boxes]
  | .place b p, B => by simp [AV.only, AV.all, AV.boxes, memN_iff]
  | .cut b p _ _, B => by simp [AV.only, AV.all, AV.boxes, memN_iff]
  | .ptr b p, B => by simp [AV.only, AV.all, AV.boxes, memN_iff]
  | .fn _ c, B => by
    have := AV.only_boxes (v := c) (B := B)
    simpa [AV.only, AV.all, AV.boxes] using this
  | .tup c, B => by
    have := AV.only_boxes (v := c) (B := B)
    simpa [AV.only, AV.all, AV.boxes] using this
  | .tcons x y, B => by
    have h1 := AV.only_boxes (v := x) (B := B)
    have h2 := AV.only_boxes (v := y) (B := B)
    simp only [AV.only] at h1 h2
    simp only [AV.only, AV.all, AV.boxes, Bool.and_eq_true, h1, h2, List.mem_append]
    constructor
    · rintro ⟨k1, k2⟩ b (hb | hb)
      · exact k1 b hb
      · exact k2 b hb
    · exact fun k => ⟨fun b hb => k b (.inl hb), fun b hb => k b (.inr hb)⟩

theorem AV.free_boxes : ∀ {v : AV} {B : List Nat}, v.free B = true ↔ ∀ b ∈ v.boxes, b ∉ B
  | .undef, B | .skip, B | .nils, B | .val _ _, B | .sptr _ _, B | .tnil, B => by simp [AV.free, AV.all, AV.boxes]
  | .place b p, B => by simp [AV.free, AV.all, AV.boxes, memN_false]
  | .cut b p _ _, B => by simp [AV.free, AV.all, AV.boxes, memN_false]
  | .ptr b p, B => by simp [AV.free, AV.all, AV.boxes, memN_false]
  | .fn _ c, B => by
    have := AV.free_boxes (v := c) (B := B)
    simpa [AV.free, AV.all, AV.boxes] using this
  | .tup c, B => by
    have := AV.free_boxes (v := c) (B := B)
    simpa [AV.free, AV.all, AV.boxes] using this
  | .tcons x y, B => by
    have h1 := AV.free_boxes (v := x) (B := B)
    have h2 := AV.free_boxes (v := y) (B := B)
    simp only [AV.free] at h1 h2
    simp only [AV.free, AV.all, AV.boxes, Bool.and_eq_true, h1, h2, List.mem_append]
    constructor
    · rintro ⟨k1, k2⟩ b (hb | hb)
      · exact k1 b hb
      · exact k2 b hb
    · exact fun k => ⟨fun b hb => k b (.inl hb), fun b hb => k b (.inr hb)⟩

section
variable {P : Program} {E : En} {cx : Cx} {n : Nat} {g : Gh} {st : St} {a : Act} {w : World} {R : Type}

theorem opP_sound (hc : CxOk P E cx) (h : Rel E n g st a w) {o : Oper} {k : AV → Option R} {r : R} (hk : opP cx st o k = some r) :
    ∃ u v, (execOp a.eval o).run P w = .ok (.value u) w ∧ AVR g st.bx w v [u] ∧ k v = some r := by
  obtain ⟨dst, op, T0, pos, after, guard⟩ := o
  cases op <;> simp only [opP] at hk <;> try (simp at hk; done)
  case move x => exact ⟨_, _, rfl, opnd_sound hc h x, hk⟩
  case pick c x y =>
    split at hk
    · rename_i b hb
      have hcb := opnd_sound hc h c
      rw [hb] at hcb
      have hcv := bool_AVR hcb
      have hr : ∀ z, (if b then a.eval x else a.eval y) = z → (execOp a.eval ⟨dst, .pick c x y, T0, pos, after, guard⟩).run P w = .ok (.value z) w := by
        intro z hz
        subst hz
        simp only [execOp, hcv, asBool]
        cases b <;> simp
      cases b
      · exact ⟨_, _, hr _ rfl, opnd_sound hc h y, hk⟩
      · exact ⟨_, _, hr _ rfl, opnd_sound hc h x, hk⟩
    · simp at hk
  case load T x =>
    split at hk
    · rename_i v hv
      obtain ⟨u, h1, h2⟩ := load_sound hc h hv (opnd_sound hc h x)
      exact ⟨_, _, run_v h1, h2, hk⟩
    · simp at hk
  case nilCheck x =>
    have hx := opnd_sound hc h x
    split at hk
    · rename_i b p hb
      rw [hb] at hx
      split at hk
      · rename_i x1 hx1
        obtain ⟨ho, hk⟩ := cond_none hk
        obtain ⟨t', cs', blk, off, hw, he⟩ := hx x1 hx1 ho
        simp only [List.cons.injEq, and_true] at he
        refine ⟨_, _, ?_, hx, hk⟩
        simp only [execOp, he]
        rfl
      · simp at hk
    · rename_i t u hb
      rw [hb] at hx
      obtain ⟨blk, off, he, _⟩ := id hx
      simp only [List.cons.injEq, and_true] at he
      refine ⟨_, _, ?_, hx, hk⟩
      simp only [execOp, he]
      rfl
    · simp at hk
  case fieldAddr T x f =>
    split at hk
    · rename_i v hv
      obtain ⟨u, h1, h2⟩ := fld_sound hc h hv (opnd_sound hc h x)
      exact ⟨_, _, run_v h1, h2, hk⟩
    · simp at hk
  case indexAddr T x i =>
    obtain ⟨v, u, h1, h2, h3⟩ := idx_sound hc h hk (opnd_sound hc h x) (opnd_sound hc h i)
    exact ⟨_, _, run_v h2, h3, h1⟩
  case index T x i =>
    obtain ⟨v, u, h1, h2, h3⟩ := index_sound hc hk (opnd_sound hc h x) (opnd_sound hc h i)
    exact ⟨_, _, run_v h2, h3, h1⟩
  case slice T x lo hi mx =>
    obtain ⟨v, u, h1, h2, h3⟩ := slice_sound hc h hk (opnd_sound hc h x) (opO_sound hc h lo) (opO_sound hc h hi) (opO_sound hc h mx)
    exact ⟨_, _, run_v h2, h3, h1⟩
  case binOp op T x y z =>
    obtain ⟨v, u, h1, h2, h3⟩ := bin_sound hc hk (opnd_sound hc h x) (opnd_sound hc h y)
    exact ⟨_, _, run_v h2, h3, h1⟩
  case unOp op T x =>
    have hx := opnd_sound hc h x
    split at hk
    · rename_i b hb
      rw [hb] at hx
      have := bool_AVR hx
      refine ⟨.bool (!b), _, ?_, AVR_bool _, hk⟩
      simp only [execOp, this]
      rfl
    · rename_i j z hb
      rw [hb] at hx
      have := int_AVR hx
      refine ⟨.int j (j.wrap (0 - z)), _, ?_, AVR_int _ _, hk⟩
      simp only [execOp, this]
      rfl
    · simp at hk
  case convert S T x =>
    obtain ⟨v, u, h1, h2, h3⟩ := conv_sound hc h hk (opnd_sound hc h x)
    exact ⟨_, _, run_v h2, h3, h1⟩
  case field T x f =>
    have hx := opnd_sound hc h x
    split at hk
    · rename_i t u t' hb hT
      rw [hb] at hx
      obtain ⟨hck, hk⟩ := cond_none hk
      simp only [Bool.and_eq_true] at hck
      have := Ty.eq_of_beq hck.1
      subst this
      obtain ⟨v, u', h1, h2, h3⟩ := field_sound hc hT hck.2 hx
      rw [h1] at hk
      exact ⟨_, _, run_v h2, h3, hk⟩
    · simp at hk
  case extract x i =>
    have hx := opnd_sound hc h x
    split at hk
    · rename_i c hb
      rw [hb] at hx
      split at hk
      · rename_i v hv
        obtain ⟨ws, h1, h2⟩ := hx
        simp only [List.cons.injEq, and_true] at h1
        obtain ⟨u, h3, h4⟩ := tupGet_sound hv h2
        refine ⟨_, _, run_v ?_, h4, hk⟩
        simp only [Instr.extract, h1]
        rw [show (⟨ws⟩ : Array Value)[i]? = ws[i]? from by simp, h3]
        simp
      · simp at hk
    · simp at hk
  case call c =>
    have hrun : ∀ b, c.callee = .builtin b → ∃ consts, (execOp a.eval ⟨dst, .call c, T0, pos, after, guard⟩).run P w = (builtin b c.argTypes T0 consts (c.args.map a.eval)).run P w := fun b hb => run_blt rfl hb
    split at hk
    · rename_i hb
      obtain ⟨consts, hrun⟩ := hrun _ hb
      split at hk
      · rename_i v T hv hT
        obtain ⟨x, hx, rfl⟩ := args_one hv
        have hT := arr_one hT
        split at hk
        · rename_i m hm
          refine ⟨.int .i64 m, _, ?_, AVR_int _ _, hk⟩
          rw [hrun, hx, hT]
          simp only [builtin, List.map_toArray, List.map_cons, List.map_nil]
          exact run_v (len_sound hc h hm (opnd_sound hc h x))
        · simp at hk
      · simp at hk
    · rename_i hb
      obtain ⟨consts, hrun⟩ := hrun _ hb
      split at hk
      · rename_i j p j' q hv
        obtain ⟨x, y, hx, hxv, hyv⟩ := args_two hv
        obtain ⟨hj, hk⟩ := cond_none hk
        have h1 := opnd_sound hc h x
        have h2 := opnd_sound hc h y
        rw [hxv] at h1
        rw [hyv] at h2
        have e1 := int_AVR h1
        have e2 := int_AVR h2
        refine ⟨_, _, ?_, AVR_int _ _, hk⟩
        rw [hrun, hx]
        simp only [builtin]
        refine run_v ?_
        change Int at p
        change Int at q
        simp only [Builtin.min_, List.map_toArray, List.map_cons, List.map_nil, e1, e2, List.foldlM_cons, List.foldlM_nil, Builtin.min2]
        by_cases hpq : q < p <;> simp [hpq]
      · simp at hk
    · rename_i hb
      obtain ⟨consts, hrun⟩ := hrun _ hb
      split at hk
      · rename_i j p j' q hv
        obtain ⟨x, y, hx, hxv, hyv⟩ := args_two hv
        obtain ⟨hj, hk⟩ := cond_none hk
        have h1 := opnd_sound hc h x
        have h2 := opnd_sound hc h y
        rw [hxv] at h1
        rw [hyv] at h2
        have e1 := int_AVR h1
        have e2 := int_AVR h2
        refine ⟨_, _, ?_, AVR_int _ _, hk⟩
        rw [hrun, hx]
        simp only [builtin]
        refine run_v ?_
        change Int at p
        change Int at q
        simp only [Builtin.max_, List.map_toArray, List.map_cons, List.map_nil, e1, e2, List.foldlM_cons, List.foldlM_nil, Builtin.max2]
        by_cases hpq : q > p <;> simp [hpq]
      · simp at hk
    · simp at hk

/-- More is known of a value. -/
theorem Rel.setT (h : Rel E n g st a w) {k : Nat} {v : AV} (hv : AVR g st.bx w v [a.tmps.getD k undef]) : Rel E n g ⟨putL st.tm k v, st.bx⟩ a w :=
  { h with
    srtT := srt_putL h.srtT
    tm := fun k' v' hv' => by
      rw [look_putL] at hv'
      by_cases hk : k = k'
      · subst hk
        simp only [if_true, Option.some.injEq] at hv'
        subst hv'
        exact hv
      · rw [if_neg hk] at hv'
        exact h.tm k' v' hv' }

theorem Rel.put_skip (h : Rel E n g st a w) (dst : Option Tmp) : Rel E n g (St.put st dst .skip) (a.put dst undef) w := by
  cases dst with
  | none => exact h
  | some d =>
    exact { h with
      srtT := srt_putL h.srtT
      tm := fun k v hv => by
        simp only [St.put, look_putL] at hv
        by_cases hk : d = k
        · rw [if_pos hk] at hv
          simp only [Option.some.injEq] at hv
          subst hv
          subst hk
          simp only [AVR, Act.put, Array.getD_eq_getD_getElem?, Array.getElem?_setIfInBounds, if_true]
          split <;> rfl
        · rw [if_neg hk] at hv
          have : (a.put (some d) undef).tmps.getD k undef = a.tmps.getD k undef := by
            simp only [Act.put, Array.getD_eq_getD_getElem?, Array.getElem?_setIfInBounds, if_neg hk]
          rw [this]
          exact h.tm k v hv
      df := h.df
      sz := by simp [Act.put, h.sz] }

theorem Rel.yielded_skip (h : Rel E n g st a w) {ops : Array Oper} {j dj : Nat} (hd : (ops.toList[j]?).bind (·.dst) = some dj) (hs : look st.tm dj = some .skip) : yielded ops a.tmps j = none := by
  have hv : [a.tmps.getD dj undef] = [undef] := h.tm dj _ hs
  simp only [List.cons.injEq, and_true] at hv
  have hjj : (ops[j]?).bind (·.dst) = some dj := by simpa using hd
  unfold yielded
  rw [hjj]
  simp only [Option.bind_some]
  rw [Array.getD_eq_getD_getElem?] at hv
  cases hq : a.tmps[dj]? with
  | none => rfl
  | some z => rw [hq] at hv; simp only [Option.getD_some] at hv; rw [hv]; rfl

/-- Boxes are forgotten. -/
theorem Rel.fltB (h : Rel E n g st a w) (p : Nat → Bx → Bool) : Rel E n g ⟨st.tm, fltL p st.bx⟩ a w := by
  have hb : ∀ b x, look (fltL p st.bx) b = some x → look st.bx b = some x := fun b x hx => (look_fltL h.srtB hx).1
  exact { h with
    srtB := srt_fltL h.srtB
    tm := fun k v hv => AVR_step (g := g) (g' := g) (bx := st.bx) (bx' := fltL p st.bx) (fun _ _ _ => true) (fun y hy => ⟨hy, rfl⟩) (fun b P q _ x hx ho => ⟨x, hb b x hx, ho, fun t' cs' l' hw => ⟨cs', hw, fun _ => rfl⟩⟩) v _ (AV.all_true v) (h.tm k v hv)
    rd := fun b x hx => h.rd b x (hb b x hx)
    lc := fun b x hx => h.lc b x (hb b x hx)
    dF := fun b1 b2 x1 x2 y h1 h2 => h.dF b1 b2 x1 x2 y (hb _ _ h1) (hb _ _ h2)
    dL := fun b1 b2 x1 x2 h1 h2 => h.dL b1 b2 x1 x2 (hb _ _ h1) (hb _ _ h2)
    dLL := fun b1 b2 x1 x2 h1 h2 => h.dLL b1 b2 x1 x2 (hb _ _ h1) (hb _ _ h2)
    dS := fun b x y hx => h.dS b x y (hb b x hx)
    dLS := fun b x hx => h.dLS b x (hb b x hx)
    bF := fun b x y hx => h.bF b x y (hb b x hx)
    nF := fun b x y hx => h.nF b x y (hb b x hx)
    nL := fun b x hx => h.nL b x (hb b x hx)
    tp := fun b q x hq hx => h.tp b q x hq (hb b x hx) }

theorem Rel.restr (h : Rel E n g st a w) (st0 : St) : Rel E n g (restr st0 st) a w := (h.fltT _).fltB _

end
end Go.Eng
end

section
/- The engine, operations in an open order: a change in a part of a state is a change in the whole. -/
namespace Go.Eng
open Go

section
variable {P : Program} {E : En} {cx : Cx} {n : Nat} {g : Gh} {st : St} {a : Act} {w : World} {R : Type}

theorem wp_put {o : Oper} {K : Act → World → Prop} {Q : Exit → Act → World → Prop} (h : o.wp P a w K Q) : o.wp P a w (fun a' w' => K a' w' ∧ ∃ u, a'.tmps = (a.put o.dst u).tmps) Q := by
  unfold Oper.wp at *
  generalize (execOp a.eval o).run P w = r at *
  cases r with
  | ok n w' =>
    cases n <;> simp only [Oper.upon] at h ⊢ <;>
      first
        | exact h
        | exact ⟨h, _, rfl⟩
        | exact Calls.mono h (fun e w'' he => by cases e <;> first | exact ⟨he, _, rfl⟩ | exact he)
        | exact Rows.mono h (fun _ _ he => ⟨he, _, rfl⟩)
        | (refine ⟨h, undef, ?_⟩; cases o.dst <;> rfl)
  | halt x w' => cases x <;> simp only [Oper.upon] at h ⊢ <;> exact h

def subP (g : Gh) : List Nat → List (Nat × Bx) → List (Nat × Nat × Nat)
  | _, [] => []
  | bs, x :: r => if memN bs x.1 = true ∧ x.2.r = true then ((g.loc x.1).1, (g.loc x.1).2, x.2.t.size) :: subP g bs r else subP g bs r

theorem mem_subP {bs : List Nat} : ∀ {l : List (Nat × Bx)} {q : Nat × Nat × Nat}, q ∈ subP g bs l → ∃ b x, (b, x) ∈ l ∧ b ∈ bs ∧ x.r = true ∧ q = ((g.loc b).1, (g.loc b).2, x.t.size)
  | [], q, h => by simp [subP] at h
  | y :: r, q, h => by
    simp only [subP] at h
    split at h
    · rename_i hc
      rcases List.mem_cons.1 h with rfl | h
      · exact ⟨y.1, y.2, by simp, memN_iff.1 hc.1, hc.2, rfl⟩
      · obtain ⟨b, x, h1, h2⟩ := mem_subP h; exact ⟨b, x, by simp [h1], h2⟩
    · obtain ⟨b, x, h1, h2⟩ := mem_subP h; exact ⟨b, x, by simp [h1], h2⟩

theorem subP_mem {bs : List Nat} : ∀ {l : List (Nat × Bx)} {b : Nat} {x : Bx}, (b, x) ∈ l → b ∈ bs → x.r = true → ((g.loc b).1, (g.loc b).2, x.t.size) ∈ subP g bs l
  | y :: r, b, x, h, hb, hr => by
    simp only [subP]
    rcases List.mem_cons.1 h with rfl | h
    · rw [if_pos ⟨memN_iff.2 hb, hr⟩]; simp
    · have := subP_mem h hb hr
      split
      · simp [this]
      · exact this

/-- The part of a call that an operation's change begins with. -/
def subE (E : En) (g : Gh) (st : St) (w : World) (bs : List Nat) : En :=
  ⟨w, g.S, fun y => ∃ b ∈ bs, ∃ x, look st.bx b = some x ∧ g.F b y, subP g bs st.bx, E.G, fun b => if memN bs b then E.K b else none⟩

theorem Rel.sub (h : Rel E n g st a w) (bs : List Nat) (p : Nat → AV → Bool) : Rel (subE E g st w bs) n g ⟨fltL p st.tm, fltL (fun b _ => memN bs b) st.bx⟩ a w := by
  have h' := (h.fltT p).fltB (fun b _ => memN bs b)
  have hb : ∀ b x, look (fltL (fun b _ => memN bs b) st.bx) b = some x → look st.bx b = some x ∧ b ∈ bs := fun b x hx => by
    obtain ⟨h1, h2⟩ := look_fltL h.srtB hx
    exact ⟨h1, memN_iff.1 h2⟩
  have hq : ∀ q ∈ subP g bs st.bx, ∃ b x, look st.bx b = some x ∧ b ∈ bs ∧ x.r = true ∧ q = ((g.loc b).1, (g.loc b).2, x.t.size) := fun q hq => by
    obtain ⟨b, x, h1, h2⟩ := mem_subP hq
    exact ⟨b, x, mem_look h.srtB h1, h2⟩
  exact {
    srtT := h'.srtT
    srtB := h'.srtB
    tm := h'.tm
    rd := h'.rd
    lc := h'.lc
    dF := h'.dF
    dL := h'.dL
    dLL := h'.dLL
    dS := h'.dS
    dLS := h'.dLS
    bS := h'.bS
    bF := h'.bF
    fr := ⟨Nat.le_refl _, fun _ _ _ _ => rfl, fun q hqq => by
      obtain ⟨b, x, h1, _, h3, rfl⟩ := hq q hqq
      obtain ⟨c, el, k1, _⟩ := h.lc b x h1 h3
      exact ⟨c, c, el, k1, k1, rfl, fun _ _ => rfl⟩, rfl, rfl, rfl⟩
    oS := fun y hy => hy
    nS := fun y hy => .inl hy
    nF := fun b x y hx hy => by
      obtain ⟨h1, h2⟩ := hb b x hx
      exact .inl ⟨b, h2, x, h1, hy⟩
    nL := fun b x hx hr => by
      obtain ⟨h1, h2⟩ := hb b x hx
      exact .inl ⟨_, subP_mem (look_mem h1) h2 hr, rfl, rfl⟩
    df := h'.df
    sz := h'.sz
    ok := ⟨fun q hqq q' hqq' he => by
      obtain ⟨b, x, h1, _, h3, rfl⟩ := hq q hqq
      obtain ⟨b', x', h1', _, h3', rfl⟩ := hq q' hqq'
      by_cases hbb : b = b'
      · subst hbb
        rw [h1] at h1'
        simp only [Option.some.injEq] at h1'
        subst h1'
        rfl
      · exact absurd he (h.dLL b b' x x' h1 h1' h3 h3' hbb), fun q hqq => by
      obtain ⟨b, x, h1, _, h3, rfl⟩ := hq q hqq
      rintro ⟨b', _, x', h1', hF⟩
      exact h.dL b b' x x' h1 h1' h3 hF, fun b q hbq => by
      simp only [subE] at hbq
      split at hbq
      · exact h.ok.kk b q hbq
      · simp at hbq⟩
    gl := fun i u hu => h.gl i u hu
    tp := fun b q x hbq hx => by
      simp only [subE] at hbq
      split at hbq
      · exact h.tp b q x hbq (hb b x hx).1
      · simp at hbq }

def mrgG (g g2 : Gh) (bs : List Nat) : Gh :=
  ⟨g2.S, fun b => if memN bs b then g2.loc b else g.loc b, fun b => if memN bs b then g2.cs b else g.cs b, fun b => if memN bs b then g2.F b else g.F b⟩

theorem Rel.merge (h : Rel E n g st a w) {bs wt : List Nat} {g2 : Gh} {s2 : St} {a2 : Act} {w2 : World} (h2 : Rel (subE E g st w bs) n g2 s2 a2 w2) (hwt : ∀ k v, look st.tm k = some v → k ∉ wt → v.free bs = true)
    (htm : allL (fun t v => !memN wt t || v.only bs) s2.tm = true) (hbx : allL (fun b _ => memN bs b) s2.bx = true) (ha : ∀ k, k ∉ wt → a2.tmps.getD k undef = a.tmps.getD k undef) :
    Rel E n (mrgG g g2 bs) ⟨putAll (fltL (fun t _ => !memN wt t) st.tm) (fltL (fun t _ => memN wt t) s2.tm), putAll (fltL (fun b _ => !memN bs b) st.bx) s2.bx⟩ a2 w2 := by
  have gin : ∀ b, b ∈ bs → (mrgG g g2 bs).loc b = g2.loc b ∧ (mrgG g g2 bs).cs b = g2.cs b ∧ (mrgG g g2 bs).F b = g2.F b := fun b hb => by
    have := memN_iff.2 hb
    simp only [mrgG, this, if_true, and_self]
  have gout : ∀ b, b ∉ bs → (mrgG g g2 bs).loc b = g.loc b ∧ (mrgG g g2 bs).cs b = g.cs b ∧ (mrgG g g2 bs).F b = g.F b := fun b hb => by
    have := memN_false.2 hb
    simp only [mrgG, this, Bool.false_eq_true, if_false, and_self]
  have hlk : ∀ b x, look (putAll (fltL (fun b _ => !memN bs b) st.bx) s2.bx) b = some x → (b ∈ bs ∧ look s2.bx b = some x) ∨ (b ∉ bs ∧ look st.bx b = some x) := by
    intro b x hx
    rw [look_putAll] at hx
    split at hx
    · rename_i y hy
      simp only [Option.some.injEq] at hx
      subst hx
      exact .inl ⟨memN_iff.1 (allL_look hbx hy), hy⟩
    · obtain ⟨k1, k2⟩ := look_fltL h.srtB hx
      simp only [Bool.not_eq_true'] at k2
      exact .inr ⟨memN_false.1 k2, k1⟩
  have hlin : ∀ b x, b ∈ bs → look (putAll (fltL (fun b _ => !memN bs b) st.bx) s2.bx) b = some x → look s2.bx b = some x := fun b x hb hx => by
    rcases hlk b x hx with k | k
    · exact k.2
    · exact absurd hb k.1
  have hlout : ∀ b x, b ∉ bs → look (putAll (fltL (fun b _ => !memN bs b) st.bx) s2.bx) b = some x → look st.bx b = some x := fun b x hb hx => by
    rcases hlk b x hx with k | k
    · exact absurd k.1 hb
    · exact k.2
  have hsz := h2.fr.size
  simp only [subE] at hsz
  have hq : ∀ q ∈ subP g bs st.bx, ∃ b x, look st.bx b = some x ∧ b ∈ bs ∧ x.r = true ∧ q = ((g.loc b).1, (g.loc b).2, x.t.size) := fun q hq => by
    obtain ⟨b, x, h1, h2⟩ := mem_subP hq
    exact ⟨b, x, mem_look h.srtB h1, h2⟩
  -- a block that the part does not own stays
  have hkeep : ∀ y, y < w.heap.size → (∀ b x, look st.bx b = some x → b ∈ bs → ¬ g.F b y) → (∀ b x, look st.bx b = some x → b ∈ bs → x.r = true → (g.loc b).1 ≠ y) → w2.heap[y]? = w.heap[y]? := by
    intro y hy h1 h3
    refine h2.fr.keep y hy ?_ ?_
    · rintro ⟨b, hb, x, hx, hF⟩
      exact h1 b x hx hb hF
    · intro q hqq
      obtain ⟨b, x, k1, k2, k3, rfl⟩ := hq q hqq
      exact h3 b x k1 k2 k3
  have hS : ∀ y, g.S y → g2.S y ∧ w2.heap[y]? = w.heap[y]? := fun y hy =>
    ⟨h2.oS y hy, hkeep y (h.bS y hy) (fun b x hx _ hF => h.dS b x y hx hF hy) (fun b x hx _ hr he => h.dLS b x hx hr (he ▸ hy))⟩
  have hFk : ∀ b x y, look st.bx b = some x → b ∉ bs → g.F b y → w2.heap[y]? = w.heap[y]? := fun b x y hx hb hF =>
    hkeep y (h.bF b x y hx hF) (fun b' x' hx' hb' hF' => h.dF b b' x x' y hx hx' (fun he => hb (he ▸ hb')) hF hF') (fun b' x' hx' _ hr he => h.dL b' b x' x hx' hx hr (he ▸ hF))
  have hn2F : ∀ b x y, look s2.bx b = some x → g2.F b y → (∃ b' ∈ bs, ∃ x', look st.bx b' = some x' ∧ g.F b' y) ∨ w.heap.size ≤ y := fun b x y hx hF => h2.nF b x y hx hF
  have hn2L : ∀ b x, look s2.bx b = some x → x.r = true → (∃ b' x', look st.bx b' = some x' ∧ b' ∈ bs ∧ x'.r = true ∧ g2.loc b = g.loc b' ∧ x.t.size = x'.t.size) ∨ w.heap.size ≤ (g2.loc b).1 := by
    intro b x hx hr
    rcases h2.nL b x hx hr with ⟨q, hqq, k1, k2⟩ | k
    · obtain ⟨b', x', j1, j2, j3, rfl⟩ := hq q hqq
      exact .inl ⟨b', x', j1, j2, j3, k1, k2⟩
    · exact .inr k
  have hn2S : ∀ y, g2.S y → g.S y ∨ (∃ b' ∈ bs, ∃ x', look st.bx b' = some x' ∧ g.F b' y) ∨ w.heap.size ≤ y := fun y hy => h2.nS y hy
  have hEsz : E.w.heap.size ≤ w.heap.size := h.fr.size
  refine {
    srtT := srt_putAll (srt_fltL h.srtT)
    srtB := srt_putAll (srt_fltL h.srtB)
    tm := ?_, rd := ?_, lc := ?_, dF := ?_, dL := ?_, dLL := ?_, dS := ?_, dLS := ?_
    bS := fun y hy => h2.bS y hy
    bF := ?_, fr := ?_
    oS := fun y hy => h2.oS y (h.oS y hy)
    nS := ?_, nF := ?_, nL := ?_
    df := h2.df, sz := h2.sz, ok := h.ok
    gl := fun i u hu => h2.gl i u hu
    tp := ?_ }
  · intro k v hv
    simp only [look_putAll] at hv
    split at hv
    · rename_i v' hv'
      simp only [Option.some.injEq] at hv
      subst hv
      obtain ⟨k1, k2⟩ := look_fltL h2.srtT hv'
      have hon := allL_look htm k1
      rw [k2] at hon
      simp only [Bool.not_true, Bool.false_or] at hon
      refine AVR_step (g := g2) (g' := mrgG g g2 bs) (bx := s2.bx) (w := w2) (fun b _ _ => memN bs b) (fun y hy => ⟨hy, rfl⟩) ?_ v' _ hon (h2.tm k v' k1)
      intro b p q hb x' hx' ho
      have hb' := memN_iff.1 hb
      refine ⟨x', hlin b x' hb' hx', ho, fun t' cs' l' hw => ⟨cs', ?_, fun _ => rfl⟩⟩
      obtain ⟨e1, e2, _⟩ := gin b hb'
      simp only [locOf, e1, e2] at hw ⊢
      exact hw
    · obtain ⟨k1, k2⟩ := look_fltL h.srtT hv
      simp only [Bool.not_eq_true'] at k2
      have hkw := memN_false.1 k2
      rw [ha k hkw]
      refine AVR_step (g := g) (g' := mrgG g g2 bs) (bx := st.bx) (w := w) (fun b _ _ => !memN bs b) hS ?_ v _ (hwt k v k1 hkw) (h.tm k v k1)
      intro b p q hb x' hx' ho
      simp only [Bool.not_eq_true'] at hb
      have hb' := memN_false.1 hb
      have hx := hlout b x' hb' hx'
      refine ⟨x', hx, ho, fun t' cs' l' hw => ⟨cs', ?_, fun _ => rfl⟩⟩
      obtain ⟨e1, e2, _⟩ := gout b hb'
      simp only [locOf, e1, e2] at hw ⊢
      rw [walk_frame w w2 g.S p x'.t x'.m (g.F b) (g.cs b) x'.d _ (h.rd b x' hx) ho (fun y hy => hFk b x' y hx hb' hy)]
      exact hw
  · intro b x hx
    rcases hlk b x hx with ⟨hb, k⟩ | ⟨hb, k⟩
    · obtain ⟨_, e2, e3⟩ := gin b hb
      rw [e2, e3]
      exact h2.rd b x k
    · obtain ⟨_, e2, e3⟩ := gout b hb
      rw [e2, e3]
      exact Rd_frame w w2 g.S g2.S hS _ _ _ _ _ (fun y hy => hFk b x y k hb hy) (h.rd b x k)
  · intro b x hx hr
    rcases hlk b x hx with ⟨hb, k⟩ | ⟨hb, k⟩
    · obtain ⟨e1, e2, e3⟩ := gin b hb
      rw [e1, e2]
      exact h2.lc b x k hr
    · obtain ⟨e1, e2, e3⟩ := gout b hb
      rw [e1, e2]
      obtain ⟨c, el, k1, k2⟩ := h.lc b x k hr
      refine ⟨c, el, ?_, k2⟩
      rw [hkeep (g.loc b).1 (h.lt k hr) (fun b' x' hx' hb' hF => h.dL b b' x x' k hx' hr hF) (fun b' x' hx' hb' hr' he => h.dLL b' b x' x hx' k hr' hr (fun hh => hb (hh ▸ hb')) he)]
      exact k1
  · intro b1 b2 x1 x2 y h1 h3 hne hF1 hF2
    rcases hlk b1 x1 h1 with ⟨hb1, k1⟩ | ⟨hb1, k1⟩ <;> rcases hlk b2 x2 h3 with ⟨hb2, k2⟩ | ⟨hb2, k2⟩
    · rw [(gin b1 hb1).2.2] at hF1; rw [(gin b2 hb2).2.2] at hF2
      exact h2.dF b1 b2 x1 x2 y k1 k2 hne hF1 hF2
    · rw [(gin b1 hb1).2.2] at hF1; rw [(gout b2 hb2).2.2] at hF2
      rcases hn2F b1 x1 y k1 hF1 with ⟨b', hb', x', j1, j2⟩ | j
      · exact h.dF b' b2 x' x2 y j1 k2 (fun he => hb2 (he ▸ hb')) j2 hF2
      · have := h.bF b2 x2 y k2 hF2; omega
    · rw [(gout b1 hb1).2.2] at hF1; rw [(gin b2 hb2).2.2] at hF2
      rcases hn2F b2 x2 y k2 hF2 with ⟨b', hb', x', j1, j2⟩ | j
      · exact h.dF b' b1 x' x1 y j1 k1 (fun he => hb1 (he ▸ hb')) j2 hF1
      · have := h.bF b1 x1 y k1 hF1; omega
    · rw [(gout b1 hb1).2.2] at hF1; rw [(gout b2 hb2).2.2] at hF2
      exact h.dF b1 b2 x1 x2 y k1 k2 hne hF1 hF2
  · intro b1 b2 x1 x2 h1 h3 hr hF
    rcases hlk b1 x1 h1 with ⟨hb1, k1⟩ | ⟨hb1, k1⟩ <;> rcases hlk b2 x2 h3 with ⟨hb2, k2⟩ | ⟨hb2, k2⟩
    · rw [(gin b1 hb1).1, (gin b2 hb2).2.2] at hF
      exact h2.dL b1 b2 x1 x2 k1 k2 hr hF
    · rw [(gin b1 hb1).1, (gout b2 hb2).2.2] at hF
      rcases hn2L b1 x1 k1 hr with ⟨b', x', j1, j2, j3, j4, _⟩ | j
      · rw [j4] at hF; exact h.dL b' b2 x' x2 j1 k2 j3 hF
      · have := h.bF b2 x2 _ k2 hF; omega
    · rw [(gout b1 hb1).1, (gin b2 hb2).2.2] at hF
      rcases hn2F b2 x2 _ k2 hF with ⟨b', hb', x', j1, j2⟩ | j
      · exact h.dL b1 b' x1 x' k1 j1 hr j2
      · have := h.lt k1 hr; omega
    · rw [(gout b1 hb1).1, (gout b2 hb2).2.2] at hF
      exact h.dL b1 b2 x1 x2 k1 k2 hr hF
  · intro b1 b2 x1 x2 h1 h3 hr1 hr2 hne he
    rcases hlk b1 x1 h1 with ⟨hb1, k1⟩ | ⟨hb1, k1⟩ <;> rcases hlk b2 x2 h3 with ⟨hb2, k2⟩ | ⟨hb2, k2⟩
    · rw [(gin b1 hb1).1, (gin b2 hb2).1] at he
      exact h2.dLL b1 b2 x1 x2 k1 k2 hr1 hr2 hne he
    · rw [(gin b1 hb1).1, (gout b2 hb2).1] at he
      rcases hn2L b1 x1 k1 hr1 with ⟨b', x', j1, j2, j3, j4, _⟩ | j
      · rw [j4] at he; exact h.dLL b' b2 x' x2 j1 k2 j3 hr2 (fun hh => hb2 (hh ▸ j2)) he
      · have := h.lt k2 hr2; omega
    · rw [(gout b1 hb1).1, (gin b2 hb2).1] at he
      rcases hn2L b2 x2 k2 hr2 with ⟨b', x', j1, j2, j3, j4, _⟩ | j
      · rw [j4] at he; exact h.dLL b' b1 x' x1 j1 k1 j3 hr1 (fun hh => hb1 (hh ▸ j2)) he.symm
      · have := h.lt k1 hr1; omega
    · rw [(gout b1 hb1).1, (gout b2 hb2).1] at he
      exact h.dLL b1 b2 x1 x2 k1 k2 hr1 hr2 hne he
  · intro b x y hx hF hs
    rcases hlk b x hx with ⟨hb, k⟩ | ⟨hb, k⟩
    · rw [(gin b hb).2.2] at hF
      exact h2.dS b x y k hF hs
    · rw [(gout b hb).2.2] at hF
      rcases hn2S y hs with j | ⟨b', hb', x', j1, j2⟩ | j
      · exact h.dS b x y k hF j
      · exact h.dF b' b x' x y j1 k (fun he => hb (he ▸ hb')) j2 hF
      · have := h.bF b x y k hF; omega
  · intro b x hx hr hs
    rcases hlk b x hx with ⟨hb, k⟩ | ⟨hb, k⟩
    · rw [(gin b hb).1] at hs
      exact h2.dLS b x k hr hs
    · rw [(gout b hb).1] at hs
      rcases hn2S _ hs with j | ⟨b', hb', x', j1, j2⟩ | j
      · exact h.dLS b x k hr j
      · exact h.dL b b' x x' k j1 hr j2
      · have := h.lt k hr; omega
  · intro b x y hx hF
    rcases hlk b x hx with ⟨hb, k⟩ | ⟨hb, k⟩
    · rw [(gin b hb).2.2] at hF; exact h2.bF b x y k hF
    · rw [(gout b hb).2.2] at hF; exact Nat.lt_of_lt_of_le (h.bF b x y k hF) hsz
  · have f := h.fr
    have hFE : ∀ b x y, look st.bx b = some x → g.F b y → y < E.w.heap.size → E.F y := fun b x y hx hF hy => by
      rcases h.nF b x y hx hF with j | j
      · exact j
      · omega
    refine ⟨Nat.le_trans f.size hsz, fun y hy h1 h3 => ?_, fun q hqq => ?_, h2.fr.os.trans f.os, h2.fr.tape.trans f.tape, h2.fr.output.trans f.output⟩
    · rw [hkeep y (Nat.lt_of_lt_of_le hy f.size) (fun b x hx _ hF => h1 (hFE b x y hx hF hy)) (fun b x hx _ hr he => ?_)]
      · exact f.keep y hy h1 h3
      · rcases h.nL b x hx hr with ⟨q, hqq, k1, _⟩ | k
        · rw [k1] at he; exact h3 q hqq he
        · omega
    · obtain ⟨c0, c, el, k1, k2, k3, k4⟩ := f.keepP q hqq
      have hlt : q.1 < E.w.heap.size := by
        rcases Nat.lt_or_ge q.1 E.w.heap.size with h4 | h4
        · exact h4
        · rw [Array.getElem?_eq_none h4] at k1; simp at k1
      by_cases hex : ∃ b x, look st.bx b = some x ∧ b ∈ bs ∧ x.r = true ∧ (g.loc b).1 = q.1
      · obtain ⟨b, x, j1, j2, j3, j4⟩ := hex
        rcases h.nL b x j1 j3 with ⟨q0, hq0, i1, i2⟩ | i
        · have : q0 = q := h.ok.pd q0 hq0 q hqq (by rw [← j4, i1])
          subst this
          obtain ⟨d0, d, el', l1, l2, l3, l4⟩ := h2.fr.keepP _ (subP_mem (look_mem j1) j2 j3)
          simp only [subE, i1, i2] at l1 l2 l4
          rw [k2] at l1
          simp only [Option.some.injEq, Obj.cells.injEq, and_true] at l1
          obtain ⟨rfl, rfl⟩ := l1
          exact ⟨c0, d, el, k1, l2, l3.trans k3, fun i hi => (l4 i hi).trans (k4 i hi)⟩
        · omega
      · refine ⟨c0, c, el, k1, ?_, k3, k4⟩
        rw [hkeep q.1 (Nat.lt_of_lt_of_le hlt f.size) (fun b x hx _ hF => h.ok.pF q hqq (hFE b x q.1 hx hF hlt)) (fun b x hx hb hr he => hex ⟨b, x, hx, hb, hr, he⟩)]
        exact k2
  · intro y hy
    rcases hn2S y hy with j | ⟨b', _, x', j1, j2⟩ | j
    · exact h.nS y j
    · exact .inr (h.nF b' x' y j1 j2)
    · exact .inr (.inr (by omega))
  · intro b x y hx hF
    rcases hlk b x hx with ⟨hb, k⟩ | ⟨hb, k⟩
    · rw [(gin b hb).2.2] at hF
      rcases hn2F b x y k hF with ⟨b', _, x', j1, j2⟩ | j
      · exact h.nF b' x' y j1 j2
      · exact .inr (by omega)
    · rw [(gout b hb).2.2] at hF; exact h.nF b x y k hF
  · intro b x hx hr
    rcases hlk b x hx with ⟨hb, k⟩ | ⟨hb, k⟩
    · rw [(gin b hb).1]
      rcases hn2L b x k hr with ⟨b', x', j1, _, j3, j4, j5⟩ | j
      · rw [j4, j5]; exact h.nL b' x' j1 j3
      · exact .inr (by omega)
    · rw [(gout b hb).1]; exact h.nL b x k hr
  · intro b q x hbq hx
    rcases hlk b x hx with ⟨hb, k⟩ | ⟨hb, k⟩
    · rw [(gin b hb).1]
      exact h2.tp b q x (by simp only [subE, memN_iff.2 hb, if_true]; exact hbq) k
    · rw [(gout b hb).1]; exact h.tp b q x hbq k

end
end Go.Eng
end

section
/- The engine, operations in an open order: what one operation does, and that two that are apart may change places. -/
namespace Go.Eng
open Go

section
variable {α : Type}

theorem look_fltN {p : Nat → Bool} : ∀ {l : List (Nat × α)} {k : Nat}, look (fltL (fun t _ => p t) l) k = if p k = true then look l k else none
  | [], k => by simp [fltL, look]
  | x :: l, k => by
    have ih := look_fltN (p := p) (l := l) (k := k)
    simp only [fltL]
    by_cases hk : x.1 = k
    · subst hk
      cases hp : p x.1
      · simp only [cond_false, ih, hp, Bool.false_eq_true, if_false]
      · simp [look]
    · cases hp : p x.1
      · simp only [cond_false, ih, look, beq_dec, hk, decide_false]
      · simp only [cond_true, look, beq_dec, hk, decide_false, cond_false, ih]

theorem flt_eq {p : Nat → α → Bool} {l r : List (Nat × α)} (hl : Srt l) (hr : Srt r) (h : ∀ k a, p k a = true → (look r k = some a ↔ look l k = some a)) : fltL p r = fltL p l := by
  refine srt_ext (srt_fltL hr) (srt_fltL hl) fun k => ?_
  rw [look_flt hr, look_flt hl]
  cases hk : look r k with
  | none =>
    cases hk2 : look l k with
    | none => rfl
    | some a =>
      cases hp : p k a
      · simp [hp]
      · rw [(h k a hp).2 hk2] at hk; simp at hk
  | some a =>
    cases hp : p k a
    · cases hk2 : look l k with
      | none => simp [hp]
      | some b =>
        cases hp2 : p k b
        · simp [hp, hp2]
        · have := (h k b hp2).2 hk2
          rw [hk] at this
          simp only [Option.some.injEq] at this
          subst this
          simp [hp] at hp2
    · rw [(h k a hp).1 hk]
end

theorem boxesAt_congr {tm tm' : List (Nat × AV)} : ∀ {ts : List Nat}, (∀ t ∈ ts, look tm' t = look tm t) → boxesAt tm' ts = boxesAt tm ts
  | [], _ => rfl
  | t :: ts, h => by
    have ih := boxesAt_congr (tm := tm) (tm' := tm') (ts := ts) (fun t ht => h t (by simp [ht]))
    simp only [boxesAt, List.flatMap_cons] at ih ⊢
    rw [ih, h t (by simp)]

theorem boxesAt_mem {tm : List (Nat × AV)} {ts : List Nat} {t : Nat} {v : AV} (ht : t ∈ ts) (hv : look tm t = some v) : ∀ b ∈ v.boxes, b ∈ boxesAt tm ts := by
  intro b hb
  simp only [boxesAt, List.mem_flatMap]
  exact ⟨t, ht, by simp only [hv]; exact hb⟩

/-- A state is as another one where an operation looks. -/
structure Agree (st st' : St) (fp : Fp) (o : Oper) : Prop where
  srtT : Srt st'.tm
  srtB : Srt st'.bx
  ts : ∀ t ∈ fp.ts, look st'.tm t = look st.tm t
  bs : ∀ b ∈ fp.bs, look st'.bx b = look st.bx b
  el : ∀ d, o.dst = some d → look st'.tm d = look st.tm d
  rf : fp.e = true → ∀ k v, v.free fp.bs = false → (look st'.tm k = some v ↔ look st.tm k = some v)
  ck : fp.e = true → ∀ k v, look st'.tm k = some v → v.free fp.bs = true ∨ v.only fp.bs = true

/-- What it leaves. -/
structure Left (st st' : St) (fp : Fp) (τ : Nat → Option AV) (β : Nat → Option Bx) : Prop where
  srtT : Srt st'.tm
  srtB : Srt st'.bx
  tm : ∀ k, look st'.tm k = if k ∈ fp.wt then τ k else look st.tm k
  bx : ∀ b, look st'.bx b = if fp.e = true ∧ b ∈ fp.bs then β b else look st.bx b

structure Did (cx : Cx) (all : List Oper) (st : St) (i : Nat) (o : Oper) (fp : Fp) (τ : Nat → Option AV) (β : Nat → Option Bx) : Prop where
  ii : fp.i = i
  dw : ∀ d, o.dst = some d → d ∈ fp.wt
  on : ∀ k ∈ fp.wt, ∀ v, τ k = some v → v.only fp.bs = true
  ol : ∀ k ∈ fp.wt, ∀ v, look st.tm k = some v → v.only fp.bs = true
  ck : fp.e = true → ∀ k v, look st.tm k = some v → v.free fp.bs = true ∨ v.only fp.bs = true
  go : ∀ st', Agree st st' fp o → ∃ st2, (∀ (R : Type) (k : St → Fp → Option R), stepD cx all st' i o k = k st2 fp) ∧ Left st' st2 fp τ β

theorem Did.self {cx : Cx} {all : List Oper} {st : St} {i : Nat} {o : Oper} {fp : Fp} {τ : Nat → Option AV} {β : Nat → Option Bx} (h : Did cx all st i o fp τ β) (h1 : Srt st.tm) (h2 : Srt st.bx) :
    ∃ st2, (∀ (R : Type) (k : St → Fp → Option R), stepD cx all st i o k = k st2 fp) ∧ Left st st2 fp τ β :=
  h.go st ⟨h1, h2, fun _ _ => rfl, fun _ _ => rfl, fun _ _ => rfl, fun _ _ _ _ => Iff.rfl, h.ck⟩

section
variable {cx : Cx} {all : List Oper} {st : St} {R : Type}

theorem goD_did (h1 : Srt st.tm) (h2 : Srt st.bx) {i : Nat} {o : Oper} {k : St → Fp → Option R} {r : R} (hk : goD cx all st i o k = some r) :
    ∃ fp τ β, fp.i = i ∧ fp.ts = lookTs all o ∧ (∀ d, o.dst = some d → d ∈ fp.wt) ∧ (∀ k ∈ fp.wt, ∀ v, τ k = some v → v.only fp.bs = true) ∧ (∀ k ∈ fp.wt, ∀ v, look st.tm k = some v → v.only fp.bs = true) ∧
      (fp.e = true → ∀ k v, look st.tm k = some v → v.free fp.bs = true ∨ v.only fp.bs = true) ∧
      ∀ st', Agree st st' fp o → ∃ st2, (∀ (R : Type) (k : St → Fp → Option R), goD cx all st' i o k = k st2 fp) ∧ Left st' st2 fp τ β := by
  unfold goD at hk
  cases hq : quietOp o.op
  · rw [hq] at hk
    simp only [cond_false] at hk
    generalize hbs : boxesAt st.tm (o.dst.toList ++ lookTs all o) ++ newKeys o.dst.toList = bs at hk
    generalize hwt : o.dst.toList ++ keysL (fltL (fun _ v => !v.free bs) st.tm) = wt at hk
    unfold turnD at hk
    obtain ⟨hc, hk⟩ := cond_none hk
    rw [execK_bind] at hk
    obtain ⟨s2, hs2, hk⟩ := Option.bind_eq_some_iff.1 hk
    obtain ⟨hc2, hk⟩ := cond_none hk
    simp only [Bool.and_eq_true] at hc2
    have hck : ∀ k v, look st.tm k = some v → v.free bs = true ∨ v.only bs = true := fun k v hv => by
      have := allL_look hc hv
      simpa only [Bool.or_eq_true] using this
    refine ⟨⟨i, lookTs all o, wt, bs, true⟩, fun k => look s2.tm k, fun b => look s2.bx b, rfl, rfl, ?_, ?_, ?_, fun _ => hck, ?_⟩
    · intro d hd
      rw [← hwt, hd]; simp
    · intro k hkw v hv
      have := allL_look hc2.1 hv
      simpa [memN_iff.2 hkw] using this
    · intro k hkw v hv
      simp only at hkw
      rw [← hwt, List.mem_append] at hkw
      rcases hkw with hkw | hkw
      · refine AV.only_boxes.2 fun b hb => ?_
        simp only [← hbs]
        exact List.mem_append_left _ (boxesAt_mem (List.mem_append_left _ hkw) hv b hb)
      · obtain ⟨v', hv'⟩ := mem_keysL.1 hkw
        obtain ⟨h3, h4⟩ := mem_fltL.1 hv'
        have := mem_look h1 h3
        rw [hv] at this
        simp only [Option.some.injEq] at this
        subst this
        simp only [Bool.not_eq_true'] at h4
        rcases hck k v hv with h5 | h5
        · rw [h4] at h5; simp at h5
        · exact h5
    · intro st' hA
      have e1 : boxesAt st'.tm (o.dst.toList ++ lookTs all o) ++ newKeys o.dst.toList = bs := by
        rw [← hbs]
        congr 1
        refine boxesAt_congr fun t ht => ?_
        rcases List.mem_append.1 ht with ht | ht
        · cases hd : o.dst with
          | none => rw [hd] at ht; simp at ht
          | some d => rw [hd] at ht; simp at ht; subst ht; exact hA.el t hd
        · exact hA.ts t ht
      have e2 : fltL (fun _ v => !v.free bs) st'.tm = fltL (fun _ v => !v.free bs) st.tm := by
        refine flt_eq h1 hA.srtT fun k v hv => ?_
        simp only [Bool.not_eq_true'] at hv
        exact hA.rf rfl k v hv
      have e3 : fltL (fun t v => memN (lookTs all o) t || !v.free bs) st'.tm = fltL (fun t v => memN (lookTs all o) t || !v.free bs) st.tm := by
        refine flt_eq h1 hA.srtT fun k v hv => ?_
        simp only [Bool.or_eq_true, memN_iff, Bool.not_eq_true'] at hv
        rcases hv with hv | hv
        · rw [hA.ts k hv]
        · exact hA.rf rfl k v hv
      have e4 : fltL (fun b _ => memN bs b) st'.bx = fltL (fun b _ => memN bs b) st.bx := by
        refine flt_eq h2 hA.srtB fun k v hv => ?_
        rw [hA.bs k (memN_iff.1 hv)]
      have hc' : allL (fun _ v => v.free bs || v.only bs) st'.tm = true := by
        refine allL_iff.2 fun x hx => ?_
        have := hA.ck rfl x.1 x.2 (mem_look hA.srtT hx)
        simpa only [Bool.or_eq_true] using this
      refine ⟨⟨putAll (fltL (fun t _ => !memN wt t) st'.tm) (fltL (fun t _ => memN wt t) s2.tm), putAll (fltL (fun b _ => !memN bs b) st'.bx) s2.bx⟩, fun R k => ?_, ?_⟩
      · unfold goD
        rw [hq]
        simp only [cond_false]
        rw [e1, e2, hwt]
        unfold turnD
        rw [hc', e3, e4, execK_bind, hs2]
        simp only [cond_true, Option.bind_some, hc2.1, hc2.2, Bool.and_self]
      · refine ⟨srt_putAll (srt_fltL hA.srtT), srt_putAll (srt_fltL hA.srtB), fun k => ?_, fun b => ?_⟩
        · simp only [look_putAll, look_fltN]
          by_cases hkw : k ∈ wt
          · simp only [memN_iff.2 hkw, if_true, if_pos hkw, Bool.not_true, Bool.false_eq_true, if_false]
            cases look s2.tm k <;> rfl
          · simp only [memN_false.2 hkw, Bool.false_eq_true, if_false, if_neg hkw, Bool.not_false, if_true]
        · simp only [look_putAll, look_fltN, true_and]
          by_cases hb : b ∈ bs
          · simp only [memN_iff.2 hb, if_pos hb, Bool.not_true, Bool.false_eq_true, if_false]
            cases look s2.bx b <;> rfl
          · have : look s2.bx b = none := by
              cases hx : look s2.bx b with
              | none => rfl
              | some x => exact absurd (memN_iff.1 (allL_look hc2.2 hx)) hb
            simp only [this, memN_false.2 hb, if_neg hb, Bool.not_false, if_true]
  · rw [hq] at hk
    simp only [cond_true] at hk
    split at hk
    · rename_i d hd
      generalize hbs : boxesAt st.tm (d :: lookTs all o) = bs at hk
      unfold lookD at hk
      rw [opP_bind] at hk
      obtain ⟨v, hv, hk⟩ := Option.bind_eq_some_iff.1 hk
      obtain ⟨hc, hk⟩ := cond_none hk
      simp only [Bool.and_eq_true] at hc
      refine ⟨⟨i, lookTs all o, [d], bs, false⟩, fun _ => some v, fun _ => none, rfl, rfl, ?_, ?_, ?_, by simp, ?_⟩
      · intro d' hd'
        rw [hd] at hd'; simp at hd'; simp [hd']
      · intro k _ v' hv'
        simp only [Option.some.injEq] at hv'
        subst hv'
        exact hc.2
      · intro k hkw v' hv'
        simp only [List.mem_singleton] at hkw
        subst hkw
        refine AV.only_boxes.2 fun b hb => ?_
        simp only [← hbs]
        exact boxesAt_mem (by simp) hv' b hb
      · intro st' hA
        have e1 : boxesAt st'.tm (d :: lookTs all o) = bs := by
          rw [← hbs]
          refine boxesAt_congr fun t ht => ?_
          rcases List.mem_cons.1 ht with rfl | ht
          · exact hA.el t hd
          · exact hA.ts t ht
        have e3 : fltL (fun t _ => memN (lookTs all o) t) st'.tm = fltL (fun t _ => memN (lookTs all o) t) st.tm := by
          refine flt_eq h1 hA.srtT fun k v hv => ?_
          rw [hA.ts k (memN_iff.1 hv)]
        have e4 : fltL (fun b _ => memN bs b) st'.bx = fltL (fun b _ => memN bs b) st.bx := by
          refine flt_eq h2 hA.srtB fun k v hv => ?_
          rw [hA.bs k (memN_iff.1 hv)]
        refine ⟨⟨putL st'.tm d v, st'.bx⟩, fun R k => ?_, ⟨srt_putL hA.srtT, hA.srtB, fun k => ?_, fun b => by simp⟩⟩
        · unfold goD
          rw [hq]
          simp only [cond_true, hd]
          rw [e1]
          unfold lookD
          rw [e3, e4, opP_bind, hv]
          simp only [Option.bind_some, hc.1, hc.2, Bool.and_self, cond_true]
        · simp only [look_putL, List.mem_singleton]
          by_cases hkd : d = k
          · subst hkd; simp
          · rw [if_neg hkd, if_neg (Ne.symm hkd)]
    · simp at hk

theorem stepD_did (h1 : Srt st.tm) (h2 : Srt st.bx) {i : Nat} {o : Oper} {k : St → Fp → Option R} {r : R} (hk : stepD cx all st i o k = some r) : ∃ fp τ β, Did cx all st i o fp τ β := by
  unfold stepD at hk
  split at hk
  · rename_i hg
    obtain ⟨fp, τ, β, k1, _, k3, k4, k5, k6, k7⟩ := goD_did h1 h2 hk
    refine ⟨fp, τ, β, k1, k3, k4, k5, k6, fun st' hA => ?_⟩
    obtain ⟨st2, j1, j2⟩ := k7 st' hA
    refine ⟨st2, fun R k => ?_, j2⟩
    unfold stepD
    simp only [hg]
    exact j1 R k
  · rename_i j want hg
    split at hk
    · rename_i dj hdj
      have hts : dj ∈ lookTs all o := by
        unfold lookTs
        rw [hg]
        simp only [hdj]
        simp
      split at hk
      · rename_i b hb
        cases hw : (bif want then b else !b)
        · rw [hw] at hk
          simp only [cond_false] at hk
          refine ⟨⟨i, lookTs all o, o.dst.toList, boxesAt st.tm o.dst.toList, false⟩, fun _ => some .skip, fun _ => none, rfl, ?_, ?_, ?_, by simp, ?_⟩
          · intro d hd; rw [hd]; simp
          · intro k _ v hv
            simp only [Option.some.injEq] at hv
            subst hv
            rfl
          · intro k hkw v hv
            refine AV.only_boxes.2 fun b hb => boxesAt_mem hkw hv b hb
          · intro st' hA
            refine ⟨St.put st' o.dst .skip, fun R k => ?_, ?_⟩
            · unfold stepD
              simp only [hg, hdj]
              rw [hA.ts dj hts, hb]
              simp only [hw, cond_false]
              congr 2
              refine boxesAt_congr fun t ht => ?_
              cases hd : o.dst with
              | none => rw [hd] at ht; simp at ht
              | some d => rw [hd] at ht; simp at ht; subst ht; exact hA.el t hd
            · cases hd : o.dst with
              | none => exact ⟨hA.srtT, hA.srtB, by simp [St.put], by simp [St.put]⟩
              | some d =>
                refine ⟨srt_putL hA.srtT, hA.srtB, fun k => ?_, by simp [St.put]⟩
                simp only [St.put, look_putL, Option.toList_some, List.mem_singleton]
                by_cases hkd : d = k
                · subst hkd; simp
                · rw [if_neg hkd, if_neg (Ne.symm hkd)]
        · rw [hw] at hk
          simp only [cond_true] at hk
          obtain ⟨fp, τ, β, k1, k2, k3, k4, k5, k6, k7⟩ := goD_did h1 h2 hk
          refine ⟨fp, τ, β, k1, k3, k4, k5, k6, fun st' hA => ?_⟩
          obtain ⟨st2, j1, j2⟩ := k7 st' hA
          refine ⟨st2, fun R k => ?_, j2⟩
          unfold stepD
          simp only [hg, hdj]
          rw [hA.ts dj (by rw [k2]; exact hts), hb]
          simp only [hw, cond_true]
          exact j1 R k
      · rename_i hb
        refine ⟨⟨i, lookTs all o, o.dst.toList, boxesAt st.tm o.dst.toList, false⟩, fun _ => some .skip, fun _ => none, rfl, ?_, ?_, ?_, by simp, ?_⟩
        · intro d hd; rw [hd]; simp
        · intro k _ v hv
          simp only [Option.some.injEq] at hv
          subst hv
          rfl
        · intro k hkw v hv
          refine AV.only_boxes.2 fun b hb => boxesAt_mem hkw hv b hb
        · intro st' hA
          refine ⟨St.put st' o.dst .skip, fun R k => ?_, ?_⟩
          · unfold stepD
            simp only [hg, hdj]
            rw [hA.ts dj hts, hb]
            dsimp only
            congr 2
            refine boxesAt_congr fun t ht => ?_
            cases hd : o.dst with
            | none => rw [hd] at ht; simp at ht
            | some d => rw [hd] at ht; simp at ht; subst ht; exact hA.el t hd
          · cases hd : o.dst with
            | none => exact ⟨hA.srtT, hA.srtB, by simp [St.put], by simp [St.put]⟩
            | some d =>
              refine ⟨srt_putL hA.srtT, hA.srtB, fun k => ?_, by simp [St.put]⟩
              simp only [St.put, look_putL, Option.toList_some, List.mem_singleton]
              by_cases hkd : d = k
              · subst hkd; simp
              · rw [if_neg hkd, if_neg (Ne.symm hkd)]
      · simp at hk
    · simp at hk

theorem only_free {v : AV} {A B : List Nat} (h : v.only A = true) (hd : ∀ x ∈ A, x ∉ B) : v.free B = true :=
  AV.free_boxes.2 fun b hb => hd b (AV.only_boxes.1 h b hb)

structure Apt (a b : Fp) : Prop where
  ts : ∀ x ∈ a.ts, x ∉ b.wt
  ts2 : ∀ x ∈ b.ts, x ∉ a.wt
  wt : ∀ x ∈ a.wt, x ∉ b.wt
  bs : (a.e = true ∨ b.e = true) → ∀ x ∈ a.bs, x ∉ b.bs

theorem indep_apt {a b : Fp} (h : indep a b = true) : Apt a b := by
  simp only [indep, Bool.and_eq_true, Bool.or_eq_true, Bool.not_eq_true'] at h
  refine ⟨disjN_iff.1 h.1.1.1, disjN_iff.1 h.1.1.2, disjN_iff.1 h.1.2, fun he => ?_⟩
  rcases h.2 with k | k
  · rcases he with he | he
    · rw [k.1] at he; simp at he
    · rw [k.2] at he; simp at he
  · exact disjN_iff.1 k

theorem Apt.symm {a b : Fp} (h : Apt a b) : Apt b a :=
  ⟨h.ts2, h.ts, fun x hx hx' => h.wt x hx' hx, fun he x hx hx' => h.bs he.symm x hx' hx⟩

/-- After one operation all is as before where the other one looks. -/
theorem agree_of {st1 : St} {i j : Nat} {o1 o2 : Oper} {fp1 fp2 : Fp} {τ1 τ2 : Nat → Option AV} {β1 β2 : Nat → Option Bx} (hA : Apt fp1 fp2) (hL : Left st st1 fp1 τ1 β1) (h1 : Did cx all st i o1 fp1 τ1 β1) (h2 : Did cx all st j o2 fp2 τ2 β2) : Agree st st1 fp2 o2 where
  srtT := hL.srtT
  srtB := hL.srtB
  ts := fun t ht => by rw [hL.tm, if_neg (hA.ts2 t ht)]
  bs := fun b hb => by
    rw [hL.bx, if_neg]
    rintro ⟨he, hb'⟩
    exact hA.bs (.inl he) b hb' hb
  el := fun d hd => by
    rw [hL.tm, if_neg]
    intro hd'
    exact hA.wt d hd' (h2.dw d hd)
  rf := fun he k v hv => by
    rw [hL.tm]
    by_cases hk : k ∈ fp1.wt
    · rw [if_pos hk]
      constructor
      · intro h
        rw [only_free (h1.on k hk v h) (hA.bs (.inr he))] at hv
        simp at hv
      · intro h
        rw [only_free (h1.ol k hk v h) (hA.bs (.inr he))] at hv
        simp at hv
    · rw [if_neg hk]
  ck := fun he k v hv => by
    rw [hL.tm] at hv
    by_cases hk : k ∈ fp1.wt
    · rw [if_pos hk] at hv
      exact .inl (only_free (h1.on k hk v hv) (hA.bs (.inr he)))
    · rw [if_neg hk] at hv
      exact h2.ck he k v hv

/-- The same, backwards. -/
theorem agree_back {st1 : St} {i : Nat} {o1 o2 : Oper} {fp1 fp2 : Fp} {τ1 τ2 : Nat → Option AV} {β1 β2 : Nat → Option Bx} {j : Nat} (h0 : Srt st.tm) (h0' : Srt st.bx) (hA : Apt fp1 fp2) (hL : Left st st1 fp1 τ1 β1) (h1 : Did cx all st i o1 fp1 τ1 β1) (h2 : Did cx all st1 j o2 fp2 τ2 β2) : Agree st1 st fp2 o2 where
  srtT := h0
  srtB := h0'
  ts := fun t ht => by rw [hL.tm, if_neg (hA.ts2 t ht)]
  bs := fun b hb => by
    rw [hL.bx, if_neg]
    rintro ⟨he, hb'⟩
    exact hA.bs (.inl he) b hb' hb
  el := fun d hd => by
    rw [hL.tm, if_neg]
    intro hd'
    exact hA.wt d hd' (h2.dw d hd)
  rf := fun he k v hv => by
    rw [hL.tm]
    by_cases hk : k ∈ fp1.wt
    · rw [if_pos hk]
      constructor
      · intro h
        rw [only_free (h1.ol k hk v h) (hA.bs (.inr he))] at hv
        simp at hv
      · intro h
        rw [only_free (h1.on k hk v h) (hA.bs (.inr he))] at hv
        simp at hv
    · rw [if_neg hk]
  ck := fun he k v hv => by
    by_cases hk : k ∈ fp1.wt
    · exact .inl (only_free (h1.ol k hk v hv) (hA.bs (.inr he)))
    · refine h2.ck he k v ?_
      rw [hL.tm, if_neg hk]
      exact hv

theorem Did.move {st' : St} {i : Nat} {o : Oper} {fp : Fp} {τ : Nat → Option AV} {β : Nat → Option Bx} (h : Did cx all st i o fp τ β) (hA : Agree st st' fp o) (ol : ∀ k ∈ fp.wt, ∀ v, look st'.tm k = some v → v.only fp.bs = true)
    (hback : ∀ st2, Agree st' st2 fp o → Agree st st2 fp o) : Did cx all st' i o fp τ β :=
  ⟨h.ii, h.dw, h.on, ol, hA.ck, fun st2 h2 => h.go st2 (hback st2 h2)⟩

theorem Agree.trans {st1 st2 : St} {fp : Fp} {o : Oper} (h : Agree st st1 fp o) (k : Agree st1 st2 fp o) : Agree st st2 fp o :=
  ⟨k.srtT, k.srtB, fun t ht => (k.ts t ht).trans (h.ts t ht), fun b hb => (k.bs b hb).trans (h.bs b hb), fun d hd => (k.el d hd).trans (h.el d hd), fun he x v hv => (k.rf he x v hv).trans (h.rf he x v hv), k.ck⟩

/-- Two operations that are apart may change places. -/
theorem swap_did (h0 : Srt st.tm) (h0' : Srt st.bx) {i j : Nat} {o1 o2 : Oper} {fp1 fp2 : Fp} {τ1 τ2 : Nat → Option AV} {β1 β2 : Nat → Option Bx} {st1 st2 : St}
    (d1 : Did cx all st i o1 fp1 τ1 β1) (L1 : Left st st1 fp1 τ1 β1) (d2 : Did cx all st1 j o2 fp2 τ2 β2) (L2 : Left st1 st2 fp2 τ2 β2) (hA : Apt fp1 fp2) :
    ∃ sA, (∀ (R : Type) (k : St → Fp → Option R), stepD cx all st j o2 k = k sA fp2) ∧ (∀ (R : Type) (k : St → Fp → Option R), stepD cx all sA i o1 k = k st2 fp1) := by
  have ab := agree_back h0 h0' hA L1 d1 d2
  have ol2 : ∀ k ∈ fp2.wt, ∀ v, look st.tm k = some v → v.only fp2.bs = true := fun k hk2 v hv => by
    refine d2.ol k hk2 v ?_
    rw [L1.tm, if_neg (fun hk1 => hA.wt k hk1 hk2)]
    exact hv
  have d2' : Did cx all st j o2 fp2 τ2 β2 := d2.move ab ol2 (fun s hs => ab.trans hs)
  obtain ⟨sA, eA, LA⟩ := d2'.self h0 h0'
  obtain ⟨sB, eB, LB⟩ := d1.go sA (agree_of hA.symm LA d2' d1)
  have : sB = st2 := by
    have ht : sB.tm = st2.tm := srt_ext LB.srtT L2.srtT fun x => by
      rw [LB.tm, LA.tm, L2.tm, L1.tm]
      by_cases h1 : x ∈ fp1.wt
      · rw [if_pos h1, if_neg (hA.wt x h1), if_pos h1]
      · rw [if_neg h1, if_neg h1]
    have hb : sB.bx = st2.bx := srt_ext LB.srtB L2.srtB fun x => by
      rw [LB.bx, LA.bx, L2.bx, L1.bx]
      by_cases h1 : fp1.e = true ∧ x ∈ fp1.bs
      · rw [if_pos h1, if_neg (fun h2 => hA.bs (.inl h1.1) x h1.2 h2.2), if_pos h1]
      · rw [if_neg h1, if_neg h1]
    cases sB; cases st2
    simp only at ht hb
    rw [ht, hb]
  exact ⟨sA, eA, fun R k => by rw [eB, this]⟩

end
end Go.Eng
end
