/- Part 3 of 20 of a claim; what is proved, and under which conditions, stands in the last part. Here: EngH, EngI, EngJ. -/
import Derived.Test.YtfihmdlpikfbbaaGreatDoorM02
set_option linter.unusedVariables false
set_option linter.unusedSimpArgs false
set_option linter.unusedSectionVars false
section
/- The engine's machine: calls, regions, code. -/
namespace Go.Eng
open Go

section
variable {R : Type}

/-- The captured variables of a function value, read through their pointers. -/
def readCaps (bx : List (Nat × Bx)) : List PK → AV → Option (List Dat)
  | [], .tnil => some []
  | .sp t :: ks, .tcons v c => match readP bx v t, readCaps bx ks c with
    | some d, some r => some (⟨t, d⟩ :: r)
    | _, _ => none
  | _, _ => none

def takeArgs (st : St) : List PK → List AV → (St → List (Option Dat) → List (Nat × Path) → Option R) → Option R
  | [], [], k => k st [] []
  | .bor _ :: ks, _ :: vs, k => takeArgs st ks vs fun st l o => k st (none :: l) o
  | .sp _ :: ks, _ :: vs, k => takeArgs st ks vs fun st l o => k st (none :: l) o
  | .fnc _ _ :: ks, _ :: vs, k => takeArgs st ks vs fun st l o => k st (none :: l) o
  | .own t m :: ks, v :: vs, k => takeK st v t fun st1 m1 d => bif mdOk t m1 m then takeArgs st1 ks vs fun st2 l o => k st2 (some ⟨t, d⟩ :: l) o else none
  | .ptr t m :: ks, .ptr b p :: vs, k => match look st.bx b with
    | some x => bif okP x.t x.m p then takeK st (.place b p) t fun st1 m1 d => bif mdOk t m1 m then takeArgs st1 ks vs fun st2 l o => k st2 (some ⟨t, d⟩ :: l) ((b, p) :: o) else none
      else none
    | none => none
  | _, _, _ => none

def readArgs (bx : List (Nat × Bx)) : List PK → List AV → List (Option Dat) → Option (List Dat)
  | [], [], [] => some []
  | .bor t :: ks, v :: vs, _ :: l => match readV bx v t, readArgs bx ks vs l with
    | some d, some r => some (⟨t, d⟩ :: r)
    | _, _ => none
  | .sp t :: ks, v :: vs, _ :: l => match readP bx v t, readArgs bx ks vs l with
    | some d, some r => some (⟨t, d⟩ :: r)
    | _, _ => none
  | .fnc f kc :: ks, v :: vs, _ :: l => match v with
    | .fn f' c => bif Nat.beq f f' then (match readCaps bx kc c, readArgs bx ks vs l with
      | some a, some r => some (a ++ r)
      | _, _ => none) else none
    | _ => none
  | .own _ _ :: ks, _ :: vs, some u :: l => match readArgs bx ks vs l with
    | some r => some (u :: r)
    | none => none
  | .ptr _ _ :: ks, _ :: vs, some u :: l => match readArgs bx ks vs l with
    | some r => some (u :: r)
    | none => none
  | _, _, _ => none

def capsS : AV → Bool
  | .tcons (.sptr _ _) c => capsS c
  | .tnil => true
  | _ => false

/-- Is nothing of ours lent but what has no addresses in it? -/
def lentOk : List PK → List AV → Bool
  | .bor t :: ks, v :: vs => (match v with
    | .val _ _ => true
    | .nils => true
    | _ => t.flat) && lentOk ks vs
  | .sp _ :: ks, v :: vs => (match v with
    | .sptr _ _ => true
    | _ => false) && lentOk ks vs
  | .fnc _ _ :: ks, v :: vs => (match v with
    | .fn _ c => capsS c
    | _ => false) && lentOk ks vs
  | _ :: ks, _ :: vs => lentOk ks vs
  | _, _ => true

def allNoShr : List (Ty × Md) → Bool
  | [] => true
  | x :: r => noShr x.1 x.2 && allNoShr r

def keepOuts (bx : List (Nat × Bx)) (o : List (Nat × Path)) (b : Nat) (p : Path) (isPtr : Bool) : Bool :=
  match look bx b with
  | some x => okR x.t x.m p && o.all fun q => !Nat.beq q.1 b || (indA x.t q.2 p && (isPtr || indP x.t q.2 p))
  | none => false

/-- What was lent through pointers comes back. -/
def putOutsK (strict : Bool) (st : St) : List (Nat × Path) → List (Ty × Md) → List Dat → (St → Option R) → Option R
  | [], [], [], k => k st
  | (b, p) :: o, (t, m) :: ks, u :: us, k => match look st.bx b, u.as t with
    | some x, some d => match setD x.t p x.d ⟨t, d⟩ with
      | some d' => bif okP x.t x.m p && full t m then (let st2 := st.setB b ⟨x.t, setM x.t x.m p m, d', x.r⟩
          fltK strict (keepOuts st2.bx [(b, p)]) st2 fun st3 => putOutsK strict st3 o ks us k) else none
      | none => none
    | _, _ => none
  | _, _, _, _ => none

def notIn (o : List (Nat × Path)) (b : Nat) : Bool :=
  match o with
  | [] => true
  | q :: r => !Nat.beq q.1 b && notIn r b

/-- No box twice. -/
def distB : List (Nat × Path) → Bool
  | [] => true
  | q :: r => notIn r q.1 && distB r

/-- May all these places be written? -/
def outsB (bx : List (Nat × Bx)) : List (Nat × Path) → Bool
  | [] => true
  | q :: r => (match look bx q.1 with
      | some x => okP x.t x.m q.2
      | none => false) && outsB bx r

def notVia (bx : List (Nat × Bx)) (b : Nat) : List (Nat × Path) → Bool
  | [] => true
  | q :: r => (!Nat.beq q.1 b || (match look bx b with
      | some x => !viaSl x.t q.2
      | none => false)) && notVia bx b r

def capsB (o : List (Nat × Path)) : AV → Bool
  | .tcons (.ptr b _) c => notIn o b && capsB o c
  | .tcons (.sptr _ _) c => capsB o c
  | .tnil => true
  | _ => false

/-- What is lent is not what lies behind a pointer that is handed over. -/
def lendB (bx : List (Nat × Bx)) (o : List (Nat × Path)) : List PK → List AV → Bool
  | .bor t :: ks, v :: vs => (match v with
    | .place b _ => t.flat || notVia bx b o
    | .cut b _ _ _ => t.flat || notVia bx b o
    | _ => true) && lendB bx o ks vs
  | .sp _ :: ks, v :: vs => (match v with
    | .ptr b _ => notIn o b
    | _ => true) && lendB bx o ks vs
  | .fnc _ _ :: ks, v :: vs => (match v with
    | .fn _ c => capsB o c
    | _ => false) && lendB bx o ks vs
  | .own t _ :: ks, v :: vs => (match v with
    | .place b _ => t.flat || notVia bx b o
    | .cut b _ _ _ => t.flat || notVia bx b o
    | _ => true) && lendB bx o ks vs
  | _ :: ks, _ :: vs => lendB bx o ks vs
  | _, _ => true

/-- The results, each in a box of its own where it is not shared. -/
def putRes (strict : Bool) (st : St) (d : Tmp) : Nat → List (Ty × Md) → List Dat → (St → List AV → Option R) → Option R
  | _, [], [], k => k st []
  | i, (t, m) :: ks, u :: us, k => match u.as t with
    | some x => bif t.flat || isShr m then putRes strict st d (i + 1) ks us fun st r => k st (.val t x :: r)
      else bif Nat.blt i 13 then (newK strict st (kTup d i) ⟨t, m, x, false⟩ fun st => putRes strict st d (i + 1) ks us fun st r => k st (.place (kTup d i) [] :: r)) else none
    | none => none
  | _, _, _, _ => none

def tupOf : List AV → AV
  | [] => .tnil
  | v :: r => .tcons v (tupOf r)

def resAV : List AV → AV
  | [v] => v
  | l => .tup (tupOf l)

/-- What comes back from a call. -/
def backK (st1 : St) (strict : Bool) (dst : Option Tmp) (ct : Ct) (outs : List (Nat × Path)) (rs : List Dat) (k : St → Option R) : Option R :=
  putOutsK strict st1 outs ct.os (rs.drop ct.rs.length) fun st2 => match dst with
        | some d => bif ct.pr then (match ct.rs, rs.take ct.rs.length with
            | [(t, m)], [u] => (match u.as t with
              | some x => newK strict st2 (kReal d) ⟨t, m, x, true⟩ fun st4 => k (st4.put (some d) (.ptr (kReal d) []))
              | none => none)
            | _, _ => none)
          else putRes strict st2 d 0 ct.rs (rs.take ct.rs.length) fun st4 r => k (st4.put (some d) (resAV r))
        | none => k st2

def callK (st : St) (strict : Bool) (dst : Option Tmp) (ct : Ct) (vs : List AV) (k : St → Option R) : Option R :=
  takeArgs st ct.ps vs fun st1 l outs => bif distB outs && outsB st1.bx outs && lendB st1.bx outs ct.ps vs then (match readArgs st1.bx ct.ps vs l with
    | some ds => bif (lentOk ct.ps vs || (allNoShr ct.rs && allNoShr ct.os)) then (ct.M ds).bind fun x => backK st1 strict dst ct outs (Tup.list _ x) k
      else none
    | none => none) else none

/-- The length of a slice, a string, an array. -/
def lenSl (st : St) (v : AV) : Option Int :=
  match v with
  | .val (.slice _) s => some (List.length s : Int)
  | .nils => some 0
  | .cut b p lo hi => match look st.bx b with
    | some x => bif okR x.t x.m p then some (hi - lo) else none
    | none => none
  | .place b p => match look st.bx b with
    | some x => match getD x.t p x.d with
      | some ⟨.slice _, s⟩ => bif okR x.t x.m (p ++ [.ix 0]) then some (List.length s : Int) else none
      | _ => none
    | none => none
  | _ => none

def lenV (cx : Cx) (st : St) (T : TypeId) (v : AV) : Option Int :=
  match cx.ty T with
  | some (.slice _) => lenSl st v
  | some .str => match v with
    | .val .str s => some (List.length s : Int)
    | _ => none
  | some (.arr n _) => some (n : Int)
  | _ => none

def tupGet : AV → Nat → Option AV
  | .tcons a _, 0 => some a
  | .tcons _ b, n + 1 => tupGet b n
  | _, _ => none

def roomFor (n : Nat) : Bool := decide (n < 1073741824)

/-- The mode of the elements that are appended; the mode of the slice that comes of it. -/
def rowOf : Md → Option Bool
  | .own => some true
  | .top => some false
  | .shr => some false
  | _ => none

def isNils : AV → Bool
  | .nils => true
  | _ => false

def appMd (nil : Bool) (m1 m2 : Md) : Option Md :=
  match m1, m2 with
  | .own, .own => some .own
  | .top, .top => some .top
  | .top, .shr => some .top
  | .own, .top => bif nil then some .top else none
  | .own, .shr => bif nil then some .top else none
  | _, _ => none

/-- append: to what is ours. -/
def appendK (cx : Cx) (st : St) (strict : Bool) (d : Tmp) (T : TypeId) (x y : AV) (k : St → Option R) : Option R :=
  match cx.ty T with
  | some (.slice e) => takeK st x (.slice e) fun st1 m1 d1 =>
    bif e.flat then (match readV st1.bx y (.slice e) with
      | some d2 => bif isOwn m1 && roomFor (List.length d1 + List.length d2) then newK strict st1 (kVal d) ⟨.slice e, .own, List.append d1 d2, false⟩ fun st9 => k (st9.put (some d) (.place (kVal d) [])) else none
      | none => none)
    else takeK st1 y (.slice e) fun st2 m2 d2 => match appMd (isNils x) m1 m2 with
      | some m => bif roomFor (List.length d1 + List.length d2) then newK strict st2 (kVal d) ⟨.slice e, m, List.append d1 d2, false⟩ fun st9 => k (st9.put (some d) (.place (kVal d) []))
        else none
      | none => none
  | _ => none

def storeK (cx : Cx) (st : St) (strict : Bool) (T : TypeId) (x v : AV) (k : St → Option R) : Option R :=
  match x, cx.ty T with
  | .ptr b p, some t => takeK st v t fun st1 m d => match look st1.bx b with
    | some x => match setD x.t p x.d ⟨t, d⟩ with
      | some d' => bif okP x.t x.m p then (let st2 := st1.setB b ⟨x.t, setM x.t x.m p (ownIf t m), d', x.r⟩
          fltK strict (keepOuts st2.bx [(b, p)]) st2 k) else none
      | none => none
    | none => none
  | _, _ => none

/-- Is the box a value, no variable? -/
def isV (st : St) (b : Nat) : Bool :=
  match look st.bx b with
  | some x => !x.r
  | none => false

def assignK (cx : Cx) (st : St) (strict : Bool) (d : Tmp) (T : TypeId) (v : AV) (k : St → Option R) : Option R :=
  let move (t : Ty) : Option R := takeK st v t fun st1 m x => newK strict st1 (kVal d) ⟨t, m, x, false⟩ fun st9 => k (st9.put (some d) (.place (kVal d) []))
  match v with
  | .place b [] => bif Nat.beq b (kVal d) || !isV st b then k (st.put (some d) v) else (match cx.ty T with
    | some t => move t
    | none => none)
  | .cut _ _ _ _ => match cx.ty T with
    | some t => move t
    | none => none
  | .nils => match cx.ty T with
    | some t => move t
    | none => none
  | v => k (st.put (some d) v)

def opndO (cx : Cx) (st : St) : Option Operand → Option AV
  | some x => some (opnd cx st x)
  | none => none

/-- A conversion. -/
def convK (cx : Cx) (st : St) (S T : TypeId) (x : AV) (k : AV → Option R) : Option R :=
  match cx.ty T with
  | some (.int j) => match x, (cx.ty S).isSome with
    | .val (.int _) a, true => k (.val (.int j) (j.wrap a))
    | _, _ => none
  | some .str => match cx.ty S with
    | some .str => match x with
      | .val .str a => k (.val .str a)
      | _ => none
    | some (.slice (.int .u8)) => match readV st.bx x (.slice (.int .u8)) with
      | some l => k (.val .str (List.map (fun x : Int => UInt8.ofNat x.toNat) l))
      | none => none
    | _ => none
  | _ => none

def capsOf : AV → Option (List AV)
  | .tnil => some []
  | .tcons a b => match capsOf b with
    | some l => some (a :: l)
    | none => none
  | _ => none

/-- A call of a function value. -/
def funK (cx : Cx) (st : St) (strict : Bool) (dst : Option Tmp) (f : AV) (vs : List AV) (k : St → Option R) : Option R :=
  match f with
  | .fn g cap => match cx.env g vs with
    | some ct => match capsOf cap with
      | some l => callK st strict dst ct (vs ++ l) k
      | none => none
    | none => none
  | _ => none

/-- A builtin that gives something. -/
def bltK (cx : Cx) (st : St) (strict : Bool) (d : Tmp) (b : Builtin) (vs : List AV) (Ts : List TypeId) (k : St → Option R) : Option R :=
  match b with
  | .len => (match vs, Ts with
    | [v], [T] => (match lenV cx st T v with
      | some n => k (st.put (some d) (.val (.int .i64) n))
      | none => none)
    | _, _ => none)
  | .append => (match vs, Ts with
    | [x, y], [T, T2] => (match cx.ty T2 with
      | some (.slice _) => appendK cx st strict d T x y k
      | _ => none)
    | _, _ => none)
  | .min => (match vs with
    | [.val (.int j) a, .val (.int j') b] => bif Nat.beq (IntKind.num j) (IntKind.num j') then k (st.put (some d) (.val (.int j) (bif decide (b < a) then b else a))) else none
    | _ => none)
  | .max => (match vs with
    | [.val (.int j) a, .val (.int j') b] => bif Nat.beq (IntKind.num j) (IntKind.num j') then k (st.put (some d) (.val (.int j) (bif decide (b > a) then b else a))) else none
    | _ => none)
  | _ => none

/-- The elements of an array that is written out. -/
def arrK (st : St) (e : Ty) (n : Nat) (l : List e.den) : List (Nat × AV) → (St → List e.den → Option R) → Option R
  | [], k => k st l
  | (i, v) :: r, k => bif Nat.blt i n then takeK st v e fun st1 _ d => arrK st1 e n (List.set l i d) r k else none

def isC : Operand → Bool
  | .const _ => true
  | _ => false

/-- An operation that gives something, and is no call. -/
def opK (cx : Cx) (st : St) (strict : Bool) (d : Tmp) (T0 : TypeId) (op : Op) (k : St → Option R) : Option R :=
  match op with
  | .move x => k (st.put (some d) (opnd cx st x))
  | .assign x => assignK cx st strict d T0 (opnd cx st x) k
  | .pick c a b => (match opnd cx st c with
    | .val .bool c => bif c then k (st.put (some d) (opnd cx st a)) else k (st.put (some d) (opnd cx st b))
      | _ => none)
  | .alloc T => (match cx.ty T with
      | some t => newK strict st (kReal d) ⟨t, .own, t.dflt, true⟩ fun st9 => k (st9.put (some d) (.ptr (kReal d) []))
      | none => none)
  | .box T x => (match cx.ty T with
      | some t => takeK st (opnd cx st x) t fun st1 m v => newK strict st1 (kReal d) ⟨t, m, v, true⟩ fun st9 => k (st9.put (some d) (.ptr (kReal d) []))
      | none => none)
  | .load T a => (match loadV cx st T (opnd cx st a) with
      | some v => k (st.put (some d) v)
      | none => none)
  | .nilCheck x => (match opnd cx st x with
    | .ptr b p => (match look st.bx b with
        | some x => bif okR x.t x.m p then k (st.put (some d) (.ptr b p)) else none
        | none => none)
    | .sptr t u => k (st.put (some d) (.sptr t u))
      | _ => none)
  | .fieldAddr T x f => (match fldV cx st T (opnd cx st x) f with
      | some v => k (st.put (some d) v)
      | none => none)
  | .indexAddr T x i => idxK cx st T (opnd cx st x) (opnd cx st i) fun v => k (st.put (some d) v)
  | .index T x i => indexK cx T (opnd cx st x) (opnd cx st i) fun v => k (st.put (some d) v)
  | .slice T x lo hi mx => sliceK cx st T (opnd cx st x) (opndO cx st lo) (opndO cx st hi) (opndO cx st mx) fun v => k (st.put (some d) v)
  | .binOp op T x y _ => binV cx op T (isC y) (opnd cx st x) (opnd cx st y) fun v => k (st.put (some d) v)
  | .unOp op _ x => (match op, opnd cx st x with
    | .not, .val .bool b => k (st.put (some d) (.val .bool (!b)))
    | .neg, .val (.int j) a => k (st.put (some d) (.val (.int j) (j.wrap (0 - a))))
      | _, _ => none)
  | .convert S T x => convK cx st S T (opnd cx st x) fun v => k (st.put (some d) v)
  | .makeSlice T l c => (match cx.ty T, opnd cx st l, opnd cx st c with
      | some (.slice e), .val (.int _) l, .val (.int _) c => bif decide (0 ≤ l) && decide (l ≤ c) && decide (c < 1073741824) then
          newK strict st (kVal d) ⟨.slice e, .own, List.replicate l.toNat e.dflt, false⟩ fun st9 => k (st9.put (some d) (.place (kVal d) [])) else none
      | _, _, _ => none)
  | .buildSlice T n ps => (match cx.ty T with
      | some (.slice e) => bif Nat.blt n 65536 && Nat.blt e.size 256 && Nat.blt 0 e.size && List.beq (ps.toList.map (·.1)) (List.range n) then takeL st e (ps.toList.map fun x => opnd cx st x.2) fun st1 ms l => (match rowMd e ms with
          | some m => newK strict st1 (kVal d) ⟨.slice e, m, l, false⟩ fun st9 => k (st9.put (some d) (.place (kVal d) []))
          | none => none) else none
      | _ => none)
  | .build T ps => (match cx.ty T with
      | some (.arr n e) => bif e.flat then arrK st e n (List.replicate n e.dflt) (ps.toList.map fun x => (x.1, opnd cx st x.2)) (fun st1 l => k (st1.put (some d) (.val (.arr n e) l))) else none
      | some (.pair y z) => partsK st (.pair y z) .own (Ty.dflt (.pair y z)) (ps.toList.map fun x => (fldP x.1, (tyAt (.pair y z) (fldP x.1)).getD .unit, opnd cx st x.2)) fun st1 m u =>
          bif Ty.flat (.pair y z) then k (st1.put (some d) (.val (.pair y z) u)) else newK strict st1 (kVal d) ⟨.pair y z, m, u, false⟩ fun st9 => k (st9.put (some d) (.place (kVal d) []))
      | _ => none)
  | .field T x f => (match opnd cx st x, cx.ty T with
    | .val t u, some t' => bif Ty.beq t' t && (tyAt t (fldP f)).isSome then (match getD t (fldP f) u with
        | some v => k (st.put (some d) (.val v.1 v.2))
        | none => none) else none
      | _, _ => none)
  | .extract x i => (match opnd cx st x with
    | .tup c => (match tupGet c i with
        | some v => k (st.put (some d) v)
        | none => none)
      | _ => none)
  | .makeFunc fn first cap => (match fn with
    | .func f => bif first.isEmpty then k (st.put (some d) (.fn f (tupOf (cap.toList.map (opnd cx st))))) else none
      | _ => none)
  | _ => none

/-- The value of an operation that only looks. -/
def opP (cx : Cx) (st : St) (o : Oper) (k : AV → Option R) : Option R :=
  match o.op with
  | .move x => k (opnd cx st x)
  | .pick c a b => (match opnd cx st c with
    | .val .bool c => bif c then k (opnd cx st a) else k (opnd cx st b)
      | _ => none)
  | .load T a => (match loadV cx st T (opnd cx st a) with
      | some v => k v
      | none => none)
  | .nilCheck x => (match opnd cx st x with
    | .ptr b p => (match look st.bx b with
        | some x => bif okR x.t x.m p then k (.ptr b p) else none
        | none => none)
    | .sptr t u => k (.sptr t u)
      | _ => none)
  | .fieldAddr T x f => (match fldV cx st T (opnd cx st x) f with
      | some v => k v
      | none => none)
  | .indexAddr T x i => idxK cx st T (opnd cx st x) (opnd cx st i) k
  | .index T x i => indexK cx T (opnd cx st x) (opnd cx st i) k
  | .slice T x lo hi mx => sliceK cx st T (opnd cx st x) (opndO cx st lo) (opndO cx st hi) (opndO cx st mx) k
  | .binOp op T x y _ => binV cx op T (isC y) (opnd cx st x) (opnd cx st y) k
  | .unOp op _ x => (match op, opnd cx st x with
    | .not, .val .bool b => k (.val .bool (!b))
    | .neg, .val (.int j) a => k (.val (.int j) (j.wrap (0 - a)))
      | _, _ => none)
  | .convert S T x => convK cx st S T (opnd cx st x) k
  | .field T x f => (match opnd cx st x, cx.ty T with
    | .val t u, some t' => bif Ty.beq t' t && (tyAt t (fldP f)).isSome then (match getD t (fldP f) u with
        | some v => k (.val v.1 v.2)
        | none => none) else none
      | _, _ => none)
  | .extract x i => (match opnd cx st x with
    | .tup c => (match tupGet c i with
        | some v => k v
        | none => none)
      | _ => none)
  | .call c => (match c.callee with
    | .builtin .len => (match c.args.toList.map (opnd cx st), c.argTypes.toList with
      | [v], [T] => (match lenV cx st T v with
        | some n => k (.val (.int .i64) n)
        | none => none)
      | _, _ => none)
    | .builtin .min => (match c.args.toList.map (opnd cx st) with
      | [.val (.int j) a, .val (.int j') b] => bif Nat.beq (IntKind.num j) (IntKind.num j') then k (.val (.int j) (bif decide (b < a) then b else a)) else none
      | _ => none)
    | .builtin .max => (match c.args.toList.map (opnd cx st) with
      | [.val (.int j) a, .val (.int j') b] => bif Nat.beq (IntKind.num j) (IntKind.num j') then k (.val (.int j) (bif decide (b > a) then b else a)) else none
      | _ => none)
    | _ => none)
  | _ => none

def execK (cx : Cx) (st : St) (strict : Bool) (o : Oper) (k : St → Option R) : Option R :=
  match o.dst with
  | none => (match o.op with
    | .store T a x => storeK cx st strict T (opnd cx st a) (opnd cx st x) k
    | .call c => (match c.callee with
      | .value f => funK cx st strict none (opnd cx st f) (c.args.toList.map (opnd cx st)) k
      | _ => none)
    | _ => none)
  | some d => bif Nat.blt d cx.n then (match o.op with
    | .call c => (match c.callee with
      | .builtin b => bltK cx st strict d b (c.args.toList.map (opnd cx st)) c.argTypes.toList k
      | .value f => funK cx st strict (some d) (opnd cx st f) (c.args.toList.map (opnd cx st)) k
      | _ => none)
    | op => opK cx st strict d o.type op k) else none

/-- How a piece of code is left. -/
inductive Ex where
  | normal
  | exit (id : Nat)
  | ret

def opsK (cx : Cx) (all : List Oper) : List Bool → List Oper → St → (St → Option R) → Option R
  | _, [], st, k => k st
  | ss, o :: r, st, k => match o.guard with
    | none => execK cx st (ss.headD false) o fun st' => opsK cx all ss.tail r st' k
    | some (j, want) => match (all[j]?).bind (·.dst) with
      | some dj => match look st.tm dj with
        | some (.val .bool b) => bif b then (bif want then execK cx ⟨putL st.tm dj (.val .bool true), st.bx⟩ (ss.headD false) o fun st' => opsK cx all ss.tail r st' k
              else opsK cx all ss.tail r (St.put ⟨putL st.tm dj (.val .bool true), st.bx⟩ o.dst .skip) k)
            else (bif want then opsK cx all ss.tail r (St.put ⟨putL st.tm dj (.val .bool false), st.bx⟩ o.dst .skip) k
              else execK cx ⟨putL st.tm dj (.val .bool false), st.bx⟩ (ss.headD false) o fun st' => opsK cx all ss.tail r st' k)
        | some .skip => opsK cx all ss.tail r (St.put st o.dst .skip) k
        | _ => none
      | none => none

/-- Which boxes a value speaks of. -/
def AV.boxes : AV → List Nat
  | .place b _ => [b]
  | .cut b _ _ _ => [b]
  | .ptr b _ => [b]
  | .fn _ c => c.boxes
  | .tup c => c.boxes
  | .tcons a b => a.boxes ++ b.boxes
  | _ => []

def memN : List Nat → Nat → Bool
  | [], _ => false
  | x :: r, b => Nat.beq x b || memN r b

def disjN : List Nat → List Nat → Bool
  | [], _ => true
  | x :: r, l => !memN l x && disjN r l

/-- It speaks of no other boxes; of none of them. -/
def AV.only (B : List Nat) (v : AV) : Bool := v.all fun b _ _ => memN B b
def AV.free (B : List Nat) (v : AV) : Bool := v.all fun b _ _ => !memN B b

def opdT : Operand → List Nat
  | .tmp t => [t]
  | _ => []

/-- The slots that an operation reads. -/
def lookTs (all : List Oper) (o : Oper) : List Nat :=
  (o.op.operands.toList.flatMap opdT) ++ (match o.guard with
    | some (j, _) => (match (all[j]?).bind (·.dst) with
      | some d => [d]
      | none => [])
    | none => [])

/-- Does it only look? -/
def quietOp : Op → Bool
  | .move _ => true
  | .pick _ _ _ => true
  | .load _ _ => true
  | .nilCheck _ => true
  | .fieldAddr _ _ _ => true
  | .indexAddr _ _ _ => true
  | .index _ _ _ => true
  | .slice _ _ _ _ _ => true
  | .binOp _ _ _ _ _ => true
  | .unOp _ _ _ => true
  | .convert _ _ _ => true
  | .field _ _ _ => true
  | .extract _ _ => true
  | .call c => (match c.callee with
    | .builtin .len => true
    | .builtin .min => true
    | .builtin .max => true
    | _ => false)
  | _ => false

/-- What an operation of an open order touched: its number; the slots that it read; those that it wrote; the boxes; did it write these? -/
structure Fp where
  i : Nat
  ts : List Nat
  wt : List Nat
  bs : List Nat
  e : Bool

def indep (a b : Fp) : Bool := disjN a.ts b.wt && disjN b.ts a.wt && disjN a.wt b.wt && ((!a.e && !b.e) || disjN a.bs b.bs)

def boxesAt (tm : List (Nat × AV)) (ts : List Nat) : List Nat :=
  ts.flatMap fun t => match look tm t with
    | some v => v.boxes
    | none => []

def keysL {α : Type} : List (Nat × α) → List Nat
  | [] => []
  | x :: r => x.1 :: keysL r

def putAll {α : Type} (l : List (Nat × α)) : List (Nat × α) → List (Nat × α)
  | [] => l
  | x :: r => putL (putAll l r) x.1 x.2

def newKeys (ds : List Nat) : List Nat := ds.flatMap fun d => (List.range 15).map fun j => 16 * d + j

/-- A look, in a state that holds what it asks for. -/
def lookD (cx : Cx) (st : St) (ts bs : List Nat) (i : Nat) (o : Oper) (d : Nat) (k : St → Fp → Option R) : Option R :=
  opP cx ⟨fltL (fun t _ => memN ts t) st.tm, fltL (fun b _ => memN bs b) st.bx⟩ o fun v =>
    bif Nat.blt d cx.n && v.only bs then k ⟨putL st.tm d v, st.bx⟩ ⟨i, ts, [d], bs, false⟩ else none

/-- A change, in a state that holds what it asks for and what speaks of the same boxes. -/
def turnD (cx : Cx) (st : St) (ts bs wt : List Nat) (i : Nat) (o : Oper) (k : St → Fp → Option R) : Option R :=
  bif allL (fun _ v => v.free bs || v.only bs) st.tm then
    execK cx ⟨fltL (fun t v => memN ts t || !v.free bs) st.tm, fltL (fun b _ => memN bs b) st.bx⟩ false o fun s2 =>
      bif allL (fun t v => !memN wt t || v.only bs) s2.tm && allL (fun b _ => memN bs b) s2.bx then
        k ⟨putAll (fltL (fun t _ => !memN wt t) st.tm) (fltL (fun t _ => memN wt t) s2.tm), putAll (fltL (fun b _ => !memN bs b) st.bx) s2.bx⟩ ⟨i, ts, wt, bs, true⟩
      else none
  else none

def goD (cx : Cx) (all : List Oper) (st : St) (i : Nat) (o : Oper) (k : St → Fp → Option R) : Option R :=
  bif quietOp o.op then (match o.dst with
      | some d => lookD cx st (lookTs all o) (boxesAt st.tm (d :: lookTs all o)) i o d k
      | none => none)
    else turnD cx st (lookTs all o) (boxesAt st.tm (o.dst.toList ++ lookTs all o) ++ newKeys o.dst.toList)
      (o.dst.toList ++ keysL (fltL (fun _ v => !v.free (boxesAt st.tm (o.dst.toList ++ lookTs all o) ++ newKeys o.dst.toList)) st.tm)) i o k

/-- One operation of an open order. -/
def stepD (cx : Cx) (all : List Oper) (st : St) (i : Nat) (o : Oper) (k : St → Fp → Option R) : Option R :=
  match o.guard with
  | none => goD cx all st i o k
  | some (j, want) => match (all[j]?).bind (·.dst) with
    | some dj => match look st.tm dj with
      | some (.val .bool b) => bif (bif want then b else !b) then goD cx all st i o k
          else k (St.put st o.dst .skip) ⟨i, lookTs all o, o.dst.toList, boxesAt st.tm o.dst.toList, false⟩
      | some .skip => k (St.put st o.dst .skip) ⟨i, lookTs all o, o.dst.toList, boxesAt st.tm o.dst.toList, false⟩
      | _ => none
    | none => none

/-- Which operations come ahead of each, as bits. -/
def ancAux : List Nat → List Oper → List Nat
  | acc, [] => acc
  | acc, o :: r => ancAux (acc ++ [o.after.toList.foldl (fun m e => bif Region.binds .any e then m ||| (2 ^ e.on ||| acc.getD e.on 0) else m) 0]) r

def ancB (A : List Nat) (q i : Nat) : Bool := (A.getD i 0).testBit q

def okLog (A : List Nat) (fp : Fp) : List Fp → Bool
  | [] => true
  | q :: r => (ancB A q.i fp.i || indep q fp) && okLog A fp r

def runD (cx : Cx) (all : List Oper) (A : List Nat) : List Fp → List (Nat × Oper) → St → (St → Option R) → Option R
  | _, [], st, k => k st
  | log, x :: r, st, k => stepD cx all st x.1 x.2 fun st' fp => bif okLog A fp log then runD cx all A (fp :: log) r st' k else none

/-- Does each operation come behind those that it waits for? -/
def edgesOk : Nat → List Oper → Bool
  | _, [] => true
  | n, o :: r => o.after.toList.all (fun e => !Region.binds .any e || Nat.blt e.on n) && edgesOk (n + 1) r

def idxd {α : Type} : Nat → List α → List (Nat × α)
  | _, [] => []
  | n, x :: r => (n, x) :: idxd (n + 1) r

/-- Only what later code asks for is kept. -/
def keepT (cx : Cx) (st : St) : St := ⟨fltL (fun k _ => cx.kp k) st.tm, st.bx⟩

def restr (st0 st : St) : St := ⟨fltL (fun k _ => (look st0.tm k).isSome) st.tm, fltL (fun k _ => (look st0.bx k).isSome) st.bx⟩

def loopN (body : St → (Ex → St → Option R) → Option R) (rs : St → St) (k : Ex → St → Option R) : Nat → St → Option R
  | 0, _ => none
  | n + 1, st => body st fun e st' => match e with
    | .normal => loopN body rs k n (rs st')
    | e => k e st'

def fuel : Nat := 4611686018427387904

def exec (cx : Cx) : Code → St → (Ex → St → Option R) → Option R
  | .skip, st, k => k .normal st
  | .region _ ops draw, st, k => bif draw then (bif edgesOk 0 ops.toList then runD cx ops.toList (ancAux [] ops.toList) [] (idxd 0 ops.toList) st (fun st' => k .normal (keepT cx st')) else none) else opsK cx ops.toList [] ops.toList st fun st' => k .normal (keepT cx st')
  | .seq a b, st, k => exec cx a st fun e st' => match e with
    | .normal => exec cx b st' k
    | e => k e st'
  | .cond c a b, st, k => match opnd cx st c with
    | .val .bool x => bif x then exec cx a st k else exec cx b st k
    | _ => none
  | .block id c, st, k => exec cx c st fun e st' => match e with
    | .exit id' => bif Nat.beq id' id then k .normal st' else k (.exit id') st'
    | e => k e st'
  | .loop c, st, k => loopN (exec cx c) (restr st) k fuel st
  | .exit id, st, k => k (.exit id) st
  | .ret, st, k => k .ret st
  | _, _, _ => none

/-- May what is so be handed back as this? What is ours may be shared. -/
def resOk (t : Ty) (m1 m : Md) : Bool := mdOk t m1 m || isShr m

/-- The results are handed over. -/
def takeRes (cx : Cx) (st : St) : List ResultVar → List (Ty × Md) → (St → List Dat → Option R) → Option R
  | [], [], k => k st []
  | .tmp d :: rv, (t, m) :: ks, k => takeK st ((look st.tm d).getD .undef) t fun st1 m1 x => bif resOk t m1 m then takeRes cx st1 rv ks fun st2 r => k st2 (⟨t, x⟩ :: r) else none
  | .cell d T :: rv, (t, m) :: ks, k => match look st.tm d with
    | some (.ptr b p) => match look st.bx b with
      | some x => bif okR x.t x.m p && tyIs cx T t then takeK st (.place b p) t fun st1 m1 x => bif resOk t m1 m then takeRes cx st1 rv ks fun st2 r => k st2 (⟨t, x⟩ :: r) else none
        else none
      | none => none
    | _ => none
  | _, _, _ => none

/-- What was written through pointers. -/
def takeOuts (st : St) : List Nat → List (Ty × Md) → Option (List Dat)
  | [], [] => some []
  | b :: bs, (t, m) :: ks => match look st.bx b with
    | some x => match Dat.as ⟨x.t, x.d⟩ t with
      | some d => bif mdOk t x.m m && full t x.m then (match takeOuts st bs ks with
        | some r => some (⟨t, d⟩ :: r)
        | none => none) else none
      | none => none
    | none => none
  | _, _ => none

/-- The captured variables as pointers to shared memory. -/
def initCaps : List PK → List Dat → Option (AV × List Dat)
  | [], ds => some (.tnil, ds)
  | .sp t :: ks, u :: ds => match u.as t, initCaps ks ds with
    | some d, some r => some (.tcons (.sptr t d) r.1, r.2)
    | _, _ => none
  | _, _ => none

/-- The state in which a function begins; and the boxes behind its pointers. -/
def initS : Nat → List PK → List Dat → Option (St × List Nat)
  | _, [], [] => some (⟨[], []⟩, [])
  | i, .bor t :: ks, u :: ds => match u.as t, initS (i + 1) ks ds with
    | some d, some r => some (⟨(i, .val t d) :: r.1.tm, r.1.bx⟩, r.2)
    | _, _ => none
  | i, .sp t :: ks, u :: ds => match u.as t, initS (i + 1) ks ds with
    | some d, some r => some (⟨(i, .sptr t d) :: r.1.tm, r.1.bx⟩, r.2)
    | _, _ => none
  | i, .own t m :: ks, u :: ds => match u.as t, initS (i + 1) ks ds with
    | some d, some r => some (⟨(i, .place (kVal i) []) :: r.1.tm, (kVal i, ⟨t, m, d, false⟩) :: r.1.bx⟩, r.2)
    | _, _ => none
  | i, .ptr t m :: ks, u :: ds => match u.as t, initS (i + 1) ks ds with
    | some d, some r => some (⟨(i, .ptr (kTop i) []) :: r.1.tm, (kTop i, ⟨t, m, d, true⟩) :: r.1.bx⟩, kTop i :: r.2)
    | _, _ => none
  | i, .fnc f kc :: ks, ds => match initCaps kc ds with
    | some c => match initS (i + 1) ks c.2 with
      | some r => some (⟨(i, .fn f c.1) :: r.1.tm, r.1.bx⟩, r.2)
      | none => none
    | none => none
  | _, _, _ => none

/-- The one result behind a new pointer. -/
def takeResP (st : St) : List ResultVar → List (Ty × Md) → (St → List Dat → Option R) → Option R
  | [.tmp d], [(t, m)], k => match look st.tm d with
    | some (.ptr b []) => match look st.bx b with
      | some x => bif x.r && okP x.t x.m [] then takeK st (.place b []) t fun st1 m1 y => bif mdOk t m1 m then k st1 [⟨t, y⟩] else none else none
      | none => none
    | _ => none
  | _, _, _ => none

/-- How a function ends. -/
def finK (cx : Cx) (rv : List ResultVar) (pr : Bool) (keys : List Nat) (rs os : List (Ty × Md)) (e : Ex) (st : St) : Option (Tup (rs ++ os)) :=
  match e with
    | .exit _ => none
    | _ => bif pr then (bif keys.isEmpty && os.isEmpty then takeResP st rv rs fun _ r => Tup.of _ r else none)
      else takeRes cx st rv rs fun st1 r => match takeOuts st1 keys os with
      | some o => Tup.of _ (r ++ o)
      | none => none

/-- The run of a function: from its arguments' data to its results' and what lies behind its pointers then. -/
def run (cx : Cx) (c : Code) (rv : List ResultVar) (pr : Bool) (ps : List PK) (rs os : List (Ty × Md)) (ds : List Dat) : Option (Tup (rs ++ os)) :=
  match initS 0 ps ds with
  | some s => exec cx c s.1 (finK cx rv pr s.2 rs os)
  | none => none

/-- A part of a text; what comes behind it. -/
def codeAt : Code → List Nat → Code
  | .seq a _, 0 :: p => codeAt a p
  | .seq _ b, _ :: p => codeAt b p
  | .cond _ a _, 0 :: p => codeAt a p
  | .cond _ _ b, _ :: p => codeAt b p
  | .block _ c, _ :: p => codeAt c p
  | .loop c, _ :: p => codeAt c p
  | c, _ => c

/-- The text's run, what a loop does left open. -/
def execL (cx : Cx) (L : Code → St → (Ex → St → Option R) → Option R) : Code → St → (Ex → St → Option R) → Option R
  | .skip, st, k => k .normal st
  | .region _ ops draw, st, k => bif draw then (bif edgesOk 0 ops.toList then runD cx ops.toList (ancAux [] ops.toList) [] (idxd 0 ops.toList) st (fun st' => k .normal (keepT cx st')) else none) else opsK cx ops.toList [] ops.toList st fun st' => k .normal (keepT cx st')
  | .seq a b, st, k => execL cx L a st fun e st' => match e with
    | .normal => execL cx L b st' k
    | e => k e st'
  | .cond c a b, st, k => match opnd cx st c with
    | .val .bool x => bif x then execL cx L a st k else execL cx L b st k
    | _ => none
  | .block id c, st, k => execL cx L c st fun e st' => match e with
    | .exit id' => bif Nat.beq id' id then k .normal st' else k (.exit id') st'
    | e => k e st'
  | .loop c, st, k => L c st k
  | .exit id, st, k => k (.exit id) st
  | .ret, st, k => k .ret st
  | _, _, _ => none

def loopH (cx : Cx) (c : Code) (st : St) (k : Ex → St → Option R) : Option R := loopN (exec cx c) (restr st) k fuel st

theorem exec_L {cx : Cx} : ∀ (c : Code) (st : St) (k : Ex → St → Option R), exec cx c st k = execL cx (loopH cx) c st k
  | .skip, st, k => rfl
  | .region _ _ _, st, k => rfl
  | .seq a b, st, k => by
    simp only [exec, execL]
    rw [exec_L a]
    congr 1
    funext e st'
    cases e with
    | normal => exact exec_L b st' k
    | exit _ => rfl
    | ret => rfl
  | .cond c a b, st, k => by
    simp only [exec, execL, exec_L a, exec_L b]
  | .block id c, st, k => by
    simp only [exec, execL, exec_L c]
  | .loop c, st, k => rfl
  | .exit id, st, k => rfl
  | .ret, st, k => rfl
  | .scope _, st, k => rfl
  | .label _, st, k => rfl
  | .goto _, st, k => rfl
  | .refuse _, st, k => rfl
  | .rangeFunc _ _ _ _, st, k => rfl

def runL {rs os : List (Ty × Md)} (cx : Cx) (L : Code → St → (Ex → St → Option (Tup (rs ++ os))) → Option (Tup (rs ++ os))) (c : Code) (rv : List ResultVar) (pr : Bool) (ps : List PK) (ds : List Dat) : Option (Tup (rs ++ os)) :=
  match initS 0 ps ds with
  | some s => execL cx L c s.1 (finK cx rv pr s.2 rs os)
  | none => none

theorem run_L {cx : Cx} {c : Code} {rv : List ResultVar} {pr : Bool} {ps : List PK} {rs os : List (Ty × Md)} {ds : List Dat} : run cx c rv pr ps rs os ds = runL cx (loopH cx) c rv pr ps ds := by
  unfold run runL
  split
  · exact exec_L _ _ _
  · rfl

/-- What comes behind a part of a text. -/
def ctxL (cx : Cx) (L : Code → St → (Ex → St → Option R) → Option R) : Code → List Nat → (Ex → St → Option R) → Ex → St → Option R
  | .seq a b, 0 :: p, k => ctxL cx L a p fun e st' => match e with
    | .normal => execL cx L b st' k
    | e => k e st'
  | .seq _ b, _ :: p, k => ctxL cx L b p k
  | .cond _ a _, 0 :: p, k => ctxL cx L a p k
  | .cond _ _ b, _ :: p, k => ctxL cx L b p k
  | .block id c, _ :: p, k => ctxL cx L c p fun e st' => match e with
    | .exit id' => bif Nat.beq id' id then k .normal st' else k (.exit id') st'
    | e => k e st'
  | _, _, k => k

/-- How a loop's round ends. -/
def bodyK (rs : St → St) (K : St → Option R) (kk : Ex → St → Option R) (e : Ex) (st : St) : Option R :=
  match e with
  | .normal => K (rs st)
  | e => kk e st

/-- A loop on data. -/
def loopM {D : Type} (body : (D → Option R) → D → Option R) : Nat → D → Option R
  | 0, _ => none
  | n + 1, d => body (loopM body n) d

theorem loopN_eq {D : Type} {cx : Cx} {c : Code} {kk : Ex → St → Option R} {rs : St → St} (stOf : D → St) (body : (D → Option R) → D → Option R)
    (h : ∀ (K : St → Option R) (d : D), exec cx c (stOf d) (bodyK rs K kk) = body (fun d' => K (stOf d')) d) : ∀ (n : Nat) (d : D), loopN (exec cx c) rs kk n (stOf d) = loopM body n d
  | 0, d => rfl
  | n + 1, d => by
    simp only [loopM]
    rw [show (loopM body n) = fun d' => loopN (exec cx c) rs kk n (stOf d') from funext fun d' => (loopN_eq stOf body h n d').symm, ← h]
    rfl

theorem loop_eq {D : Type} {cx : Cx} {c : Code} {kk : Ex → St → Option R} (stOf : D → St) (body : (D → Option R) → D → Option R) (d0 : D)
    (h : ∀ (K : St → Option R) (d : D), execL cx (loopH cx) c (stOf d) (bodyK (restr (stOf d0)) K kk) = body (fun d' => K (stOf d')) d) : loopH cx c (stOf d0) kk = loopM body fuel d0 :=
  loopN_eq stOf body (fun K d => (exec_L _ _ _).trans (h K d)) fuel d0

end
end Go.Eng
end

section
/- The engine: how its states stand to the model's. -/
namespace Go.Eng
open Go

section
variable {α : Type}
def Srt (l : List (Nat × α)) : Prop := l.Pairwise fun a b => a.1 < b.1

theorem look_mem : ∀ {l : List (Nat × α)} {k : Nat} {a : α}, look l k = some a → (k, a) ∈ l
  | [], k, a, h => by simp [look] at h
  | x :: r, k, a, h => by
    simp only [look, beq_dec] at h
    by_cases hx : x.1 = k
    · simp only [hx, decide_true, cond_true, Option.some.injEq] at h
      subst hx; subst h; simp
    · simp only [hx, decide_false, cond_false] at h
      exact List.mem_cons_of_mem _ (look_mem h)

theorem mem_look : ∀ {l : List (Nat × α)} {k : Nat} {a : α}, Srt l → (k, a) ∈ l → look l k = some a
  | [], k, a, _, h => by simp at h
  | x :: r, k, a, hs, h => by
    simp only [Srt, List.pairwise_cons] at hs
    simp only [look, beq_dec]
    rcases List.mem_cons.1 h with h | h
    · subst h; simp
    · have := hs.1 _ h
      have hne : x.1 ≠ k := by simp at this; omega
      simp only [hne, decide_false, cond_false]
      exact mem_look hs.2 h

theorem mem_fltL {p : Nat → α → Bool} : ∀ {l : List (Nat × α)} {x : Nat × α}, x ∈ fltL p l ↔ x ∈ l ∧ p x.1 x.2 = true
  | [], x => by simp [fltL]
  | y :: r, x => by
    simp only [fltL]
    by_cases hp : p y.1 y.2 = true
    · rw [hp]
      simp only [cond_true, List.mem_cons, mem_fltL]
      constructor
      · rintro (rfl | h)
        · exact ⟨.inl rfl, hp⟩
        · exact ⟨.inr h.1, h.2⟩
      · rintro ⟨rfl | h, h2⟩
        · exact .inl rfl
        · exact .inr ⟨h, h2⟩
    · simp only [Bool.not_eq_true] at hp
      rw [hp]
      simp only [cond_false, List.mem_cons, mem_fltL]
      constructor
      · rintro ⟨h, h2⟩; exact ⟨.inr h, h2⟩
      · rintro ⟨rfl | h, h2⟩
        · rw [hp] at h2; simp at h2
        · exact ⟨h, h2⟩

theorem srt_fltL {p : Nat → α → Bool} : ∀ {l : List (Nat × α)}, Srt l → Srt (fltL p l)
  | [], h => h
  | y :: r, h => by
    simp only [Srt, List.pairwise_cons] at h
    simp only [fltL]
    cases p y.1 y.2
    · exact srt_fltL h.2
    · simp only [cond_true, Srt, List.pairwise_cons]
      exact ⟨fun a ha => h.1 a (mem_fltL.1 ha).1, srt_fltL h.2⟩

theorem look_fltL {p : Nat → α → Bool} {l : List (Nat × α)} {k : Nat} {a : α} (hs : Srt l) (h : look (fltL p l) k = some a) : look l k = some a ∧ p k a = true :=
  ⟨mem_look hs (mem_fltL.1 (look_mem h)).1, (mem_fltL.1 (look_mem h)).2⟩

theorem mem_putL : ∀ {l : List (Nat × α)} {k : Nat} {a : α} {x : Nat × α}, x ∈ putL l k a → x = (k, a) ∨ x ∈ l
  | [], k, a, x, h => by simp [putL] at h; exact .inl h
  | y :: r, k, a, x, h => by
    simp only [putL, beq_dec, blt_dec] at h
    by_cases h1 : y.1 = k
    · simp only [h1, decide_true, cond_true, List.mem_cons] at h
      rcases h with h | h
      · exact .inl h
      · exact .inr (List.mem_cons_of_mem _ h)
    · simp only [h1, decide_false, cond_false] at h
      by_cases h2 : k < y.1
      · simp only [h2, decide_true, cond_true, List.mem_cons] at h
        rcases h with h | h
        · exact .inl h
        · exact .inr (List.mem_cons.2 h)
      · simp only [h2, decide_false, cond_false, List.mem_cons] at h
        rcases h with h | h
        · exact .inr (h ▸ List.mem_cons_self ..)
        · rcases mem_putL h with h | h
          · exact .inl h
          · exact .inr (List.mem_cons_of_mem _ h)

theorem srt_putL : ∀ {l : List (Nat × α)} {k : Nat} {a : α}, Srt l → Srt (putL l k a)
  | [], k, a, h => by simp [putL, Srt]
  | y :: r, k, a, h => by
    have h' := h
    simp only [Srt, List.pairwise_cons] at h
    simp only [putL, beq_dec, blt_dec]
    by_cases h1 : y.1 = k
    · simp only [h1, decide_true, cond_true, Srt, List.pairwise_cons]
      exact ⟨fun z hz => by have := h.1 z hz; simpa [h1] using this, h.2⟩
    · simp only [h1, decide_false, cond_false]
      by_cases h2 : k < y.1
      · simp only [h2, decide_true, cond_true, Srt, List.pairwise_cons, List.mem_cons]
        refine ⟨?_, h.1, h.2⟩
        rintro z (rfl | hz)
        · exact h2
        · have := h.1 z hz; simp; omega
      · simp only [h2, decide_false, cond_false, Srt, List.pairwise_cons]
        refine ⟨fun z hz => ?_, srt_putL h.2⟩
        rcases mem_putL hz with rfl | hz
        · simp; omega
        · exact h.1 z hz
end

/-- What is not seen in the engine's state: the shared blocks; where each box lies; its cells; the blocks that it owns. -/
structure Gh where
  S : Nat → Prop
  loc : Nat → Nat × Nat
  cs : Nat → List Value
  F : Nat → Nat → Prop

def locOf (g : Gh) (b : Nat) (x : Bx) : Option (Nat × Nat) := if x.r then some (g.loc b) else none

/-- These cells lie there, and may be written. -/
def Loc (w : World) (l : Nat × Nat) (cs : List Value) : Prop :=
  ∃ c el, w.heap[l.1]? = some (.cells c el (0, 0)) ∧ l.2 + cs.length ≤ c.toList.length ∧ chunk c.toList l.2 cs.length = cs

abbrev none' : Nat → Prop := fun _ => False

def AVR (g : Gh) (bx : List (Nat × Bx)) (w : World) : AV → List Value → Prop
  | .undef, _ => True
  | .skip, vs => vs = [undef]
  | .nils, vs => ∃ base, vs = [.slice base 0 0]
  | .val t d, vs => ∃ cs, Rd w g.S t .shr none' cs d ∧ vs = [toV t cs]
  | .place b p, vs => ∀ x, look bx b = some x → okR x.t x.m p = true → ∃ t' cs' l', walk w x.t p (g.cs b) (locOf g b x) = some (t', cs', l') ∧ vs = [toV t' cs']
  | .cut b p lo hi, vs => ∀ x, look bx b = some x → okR x.t x.m p = true → ∃ e base len cap l', walk w x.t p (g.cs b) (locOf g b x) = some (.slice e, [.slice base len cap], l') ∧
      0 ≤ lo ∧ lo ≤ hi ∧ hi ≤ len ∧ ∃ base' cap', vs = [.slice base' (hi - lo).toNat cap'] ∧ (hi - lo).toNat ≤ cap' ∧
      (cap' = 0 ∨ (cap' + lo.toNat ≤ cap ∧ ∃ b off, base = some ⟨b, off, none⟩ ∧ base' = some ⟨b, off + lo.toNat * e.size, none⟩))
  | .ptr b p, vs => ∀ x, look bx b = some x → okR x.t x.m p = true → ∃ t' cs' blk off, walk w x.t p (g.cs b) (locOf g b x) = some (t', cs', some (blk, off)) ∧ vs = [.pointer (some ⟨blk, off, none⟩)]
  | .sptr t d, vs => ∃ blk off, vs = [.pointer (some ⟨blk, off, none⟩)] ∧ g.S blk ∧ Rd w g.S t .shr none' (cellsAt w blk off t.size) d
  | .fn f c, vs => ∃ ws, vs = [.func (.func f) #[] ⟨ws⟩] ∧ AVR g bx w c ws
  | .tup c, vs => ∃ ws, vs = [.tuple ⟨ws⟩] ∧ AVR g bx w c ws
  | .tnil, vs => vs = []
  | .tcons a b, vs => ∃ v r, vs = v :: r ∧ AVR g bx w a [v] ∧ AVR g bx w b r

/-- How the call began: the world; what was shared, what was handed over, what may be written. -/
structure En where
  w : World
  S : Nat → Prop
  F : Nat → Prop
  P : List (Nat × Nat × Nat)
  G : Nat → Option Dat
  K : Nat → Option (Nat × Nat × Nat)

/-- The package-level variables that are known. -/
def GlOk (E : En) (S : Nat → Prop) (w : World) : Prop := ∀ i u, E.G i = some u → S i ∧ Rd w S u.1 .shr none' (cellsAt w i 0 u.1.size) u.2 ∧ ∃ c el fz, w.heap[i]? = some (.cells c el fz) ∧ c.size = u.1.size

theorem GlOk.step {E : En} {S S' : Nat → Prop} {w w' : World} (h : GlOk E S w) (hS : ∀ y, S y → S' y ∧ w'.heap[y]? = w.heap[y]?) : GlOk E S' w' := by
  intro i u hu
  obtain ⟨h1, h2, c, el, fz, h3, h4⟩ := h i u hu
  have e1 : cellsAt w' i 0 u.1.size = cellsAt w i 0 u.1.size := by simp only [cellsAt, (hS i h1).2]
  exact ⟨(hS i h1).1, by rw [e1]; exact Rd_frame w w' S S' hS _ _ _ _ _ (fun _ hx => hx.elim) h2, c, el, fz, by rw [(hS i h1).2]; exact h3, h4⟩

structure EnOk (E : En) : Prop where
  pd : ∀ q ∈ E.P, ∀ q' ∈ E.P, q.1 = q'.1 → q = q'
  pF : ∀ q ∈ E.P, ¬ E.F q.1
  kk : ∀ b q, E.K b = some q → b % 16 = 15

structure Fr (E : En) (w : World) : Prop where
  size : E.w.heap.size ≤ w.heap.size
  keep : ∀ y, y < E.w.heap.size → ¬ E.F y → (∀ q ∈ E.P, q.1 ≠ y) → w.heap[y]? = E.w.heap[y]?
  keepP : ∀ q ∈ E.P, ∃ c0 c el, E.w.heap[q.1]? = some (.cells c0 el (0, 0)) ∧ w.heap[q.1]? = some (.cells c el (0, 0)) ∧ c.size = c0.size ∧
    ∀ i, i < q.2.1 ∨ q.2.1 + q.2.2 ≤ i → c.toList[i]? = c0.toList[i]?
  os : w.os = E.w.os
  tape : w.tape = E.w.tape
  output : w.output = E.w.output

structure Rel (E : En) (n : Nat) (g : Gh) (st : St) (a : Act) (w : World) : Prop where
  srtT : Srt st.tm
  srtB : Srt st.bx
  tm : ∀ k v, look st.tm k = some v → AVR g st.bx w v [a.tmps.getD k undef]
  rd : ∀ b x, look st.bx b = some x → Rd w g.S x.t x.m (g.F b) (g.cs b) x.d
  lc : ∀ b x, look st.bx b = some x → x.r = true → Loc w (g.loc b) (g.cs b)
  dF : ∀ b1 b2 x1 x2 y, look st.bx b1 = some x1 → look st.bx b2 = some x2 → b1 ≠ b2 → g.F b1 y → ¬ g.F b2 y
  dL : ∀ b1 b2 x1 x2, look st.bx b1 = some x1 → look st.bx b2 = some x2 → x1.r = true → ¬ g.F b2 (g.loc b1).1
  dLL : ∀ b1 b2 x1 x2, look st.bx b1 = some x1 → look st.bx b2 = some x2 → x1.r = true → x2.r = true → b1 ≠ b2 → (g.loc b1).1 ≠ (g.loc b2).1
  dS : ∀ b x y, look st.bx b = some x → g.F b y → ¬ g.S y
  dLS : ∀ b x, look st.bx b = some x → x.r = true → ¬ g.S (g.loc b).1
  bS : ∀ y, g.S y → y < w.heap.size
  bF : ∀ b x y, look st.bx b = some x → g.F b y → y < w.heap.size
  fr : Fr E w
  oS : ∀ y, E.S y → g.S y
  nS : ∀ y, g.S y → E.S y ∨ E.F y ∨ E.w.heap.size ≤ y
  nF : ∀ b x y, look st.bx b = some x → g.F b y → E.F y ∨ E.w.heap.size ≤ y
  nL : ∀ b x, look st.bx b = some x → x.r = true → (∃ q ∈ E.P, g.loc b = (q.1, q.2.1) ∧ x.t.size = q.2.2) ∨ E.w.heap.size ≤ (g.loc b).1
  df : a.defers = []
  sz : a.tmps.size = n
  ok : EnOk E
  gl : GlOk E g.S w
  tp : ∀ b q x, E.K b = some q → look st.bx b = some x → x.r = true ∧ g.loc b = (q.1, q.2.1) ∧ x.t.size = q.2.2

theorem Rel.lt {E : En} {n : Nat} {g : Gh} {st : St} {a : Act} {w : World} (h : Rel E n g st a w) {b : Nat} {x : Bx} (hx : look st.bx b = some x) (hr : x.r = true) : (g.loc b).1 < w.heap.size := by
  obtain ⟨c, el, h1, _⟩ := h.lc b x hx hr
  rcases Nat.lt_or_ge (g.loc b).1 w.heap.size with h2 | h2
  · exact h2
  · rw [Array.getElem?_eq_none h2] at h1; simp at h1

/-- What is kept of a value from one state to the next. -/
theorem AVR_step {g g' : Gh} {bx bx' : List (Nat × Bx)} {w w' : World} (f : Nat → Path → Bool → Bool)
    (hS : ∀ y, g.S y → g'.S y ∧ w'.heap[y]? = w.heap[y]?)
    (hk : ∀ b p q, f b p q = true → ∀ x', look bx' b = some x' → okR x'.t x'.m p = true → ∃ x, look bx b = some x ∧ okR x.t x.m p = true ∧
      ∀ t' cs' l', walk w x.t p (g.cs b) (locOf g b x) = some (t', cs', l') → ∃ cs'', walk w' x'.t p (g'.cs b) (locOf g' b x') = some (t', cs'', l') ∧ (q = false → cs'' = cs')) :
    ∀ (v : AV) (vs : List Value), v.all f = true → AVR g bx w v vs → AVR g' bx' w' v vs
  | .undef, vs, _, h => trivial
  | .skip, vs, _, h => h
  | .nils, vs, _, h => h
  | .val t d, vs, _, h => by
    obtain ⟨cs, h1, h2⟩ := h
    exact ⟨cs, Rd_frame w w' g.S g'.S hS t _ _ _ _ (fun _ hx => hx.elim) h1, h2⟩
  | .place b p, vs, hf, h => by
    intro x' hx' ho'
    obtain ⟨x, hx, ho, hw⟩ := hk b p false hf x' hx' ho'
    obtain ⟨t', cs', l', h1, h2⟩ := h x hx ho
    obtain ⟨cs'', h3, h4⟩ := hw t' cs' l' h1
    rw [h4 rfl] at h3
    exact ⟨t', cs', l', h3, h2⟩
  | .cut b p lo hi, vs, hf, h => by
    intro x' hx' ho'
    obtain ⟨x, hx, ho, hw⟩ := hk b p false hf x' hx' ho'
    obtain ⟨e, base, len, cap, l', h1, h2⟩ := h x hx ho
    obtain ⟨cs'', h3, h4⟩ := hw _ _ l' h1
    rw [h4 rfl] at h3
    exact ⟨e, base, len, cap, l', h3, h2⟩
  | .ptr b p, vs, hf, h => by
    intro x' hx' ho'
    obtain ⟨x, hx, ho, hw⟩ := hk b p true hf x' hx' ho'
    obtain ⟨t', cs', blk, off, h1, h2⟩ := h x hx ho
    obtain ⟨cs'', h3, h4⟩ := hw t' cs' _ h1
    exact ⟨t', cs'', blk, off, h3, h2⟩
  | .sptr t d, vs, _, h => by
    obtain ⟨blk, off, h1, h2, h3⟩ := h
    have e1 : cellsAt w' blk off t.size = cellsAt w blk off t.size := by simp only [cellsAt, (hS blk h2).2]
    exact ⟨blk, off, h1, (hS blk h2).1, by rw [e1]; exact Rd_frame w w' g.S g'.S hS t _ _ _ _ (fun _ hx => hx.elim) h3⟩
  | .fn f c, vs, hf, h => by
    obtain ⟨ws, h1, h2⟩ := h
    exact ⟨ws, h1, AVR_step _ hS hk c ws (by simpa only [AV.all] using hf) h2⟩
  | .tup c, vs, hf, h => by
    obtain ⟨ws, h1, h2⟩ := h
    exact ⟨ws, h1, AVR_step _ hS hk c ws (by simpa only [AV.all] using hf) h2⟩
  | .tnil, vs, _, h => h
  | .tcons a b, vs, hf, h => by
    obtain ⟨v, r, h1, h2, h3⟩ := h
    simp only [AV.all, Bool.and_eq_true] at hf
    exact ⟨v, r, h1, AVR_step _ hS hk a [v] hf.1 h2, AVR_step _ hS hk b r hf.2 h3⟩

theorem AV.all_true : ∀ (v : AV), v.all (fun _ _ _ => true) = true
  | .undef | .skip | .nils | .val _ _ | .place _ _ | .cut _ _ _ _ | .ptr _ _ | .sptr _ _ | .tnil => rfl
  | .fn _ c => by simp only [AV.all]; exact AV.all_true c
  | .tup c => by simp only [AV.all]; exact AV.all_true c
  | .tcons a b => by simp [AV.all, AV.all_true a, AV.all_true b]

/-- The memory grows, or the tape is asked: all stays. -/
theorem Rel.grow {E : En} {n : Nat} {g : Gh} {st : St} {a : Act} {w w' : World} (h : Rel E n g st a w) (hk : ∀ y, y < w.heap.size → w'.heap[y]? = w.heap[y]?)
    (hs : w.heap.size ≤ w'.heap.size) (ho : w'.os = w.os) (ht : w'.tape = w.tape) (hp : w'.output = w.output) : Rel E n g st a w' := by
  have hS : ∀ y, g.S y → g.S y ∧ w'.heap[y]? = w.heap[y]? := fun y hy => ⟨hy, hk y (h.bS y hy)⟩
  refine { h with tm := ?_, rd := ?_, lc := ?_, bS := fun y hy => Nat.lt_of_lt_of_le (h.bS y hy) hs, bF := fun b x y hx hy => Nat.lt_of_lt_of_le (h.bF b x y hx hy) hs, fr := ?_, gl := h.gl.step hS }
  · intro k v hv
    refine AVR_step (fun _ _ _ => true) hS ?_ v _ (AV.all_true v) (h.tm k v hv)
    intro b p q _ x hx ho
    refine ⟨x, hx, ho, fun t' cs' l' hw => ⟨cs', ?_, fun _ => rfl⟩⟩
    rw [walk_frame w w' g.S p x.t x.m (g.F b) (g.cs b) x.d _ (h.rd b x hx) ho (fun y hy => hk y (h.bF b x y hx hy))]
    exact hw
  · intro b x hx
    exact Rd_frame w w' g.S g.S hS _ _ _ _ _ (fun y hy => hk y (h.bF b x y hx hy)) (h.rd b x hx)
  · intro b x hx hr
    obtain ⟨c, el, h1, h2⟩ := h.lc b x hx hr
    exact ⟨c, el, by rw [hk _ (h.lt hx hr)]; exact h1, h2⟩
  · have f := h.fr
    exact ⟨Nat.le_trans f.size hs, fun y hy h1 h2 => by rw [hk y (Nat.lt_of_lt_of_le hy f.size)]; exact f.keep y hy h1 h2,
      fun q hq => by
        obtain ⟨c0, c, el, h1, h2, h3⟩ := f.keepP q hq
        have hlt : q.1 < w.heap.size := by
          rcases Nat.lt_or_ge q.1 w.heap.size with h4 | h4
          · exact h4
          · rw [Array.getElem?_eq_none h4] at h2; simp at h2
        exact ⟨c0, c, el, h1, by rw [hk _ hlt]; exact h2, h3⟩, ho.trans f.os, ht.trans f.tape, hp.trans f.output⟩

theorem getD_put {a : Act} {d : Tmp} {v : Value} {k : Nat} (hd : d < a.tmps.size) : (a.put (some d) v).tmps.getD k undef = if d = k then v else a.tmps.getD k undef := by
  simp only [Act.put, Array.getD_eq_getD_getElem?, Array.getElem?_setIfInBounds]
  by_cases h : d = k
  · subst h; simp [hd]
  · simp [h]

theorem Rel.put {E : En} {n : Nat} {g : Gh} {st : St} {a : Act} {w : World} (h : Rel E n g st a w) {d : Tmp} (hd : d < n) {v : AV} {u : Value} (hv : AVR g st.bx w v [u]) :
    Rel E n g (st.put (some d) v) (a.put (some d) u) w := by
  have hd' : d < a.tmps.size := by rw [h.sz]; exact hd
  refine { h with srtT := srt_putL h.srtT, tm := ?_, sz := by simp [Act.put, h.sz], df := h.df }
  intro k v' hv'
  simp only [St.put, look_putL] at hv'
  rw [getD_put hd']
  by_cases hk : d = k
  · subst hk
    simp only [if_true, Option.some.injEq] at hv'
    subst hv'
    simp only [if_true]
    exact hv
  · rw [if_neg hk] at hv' ⊢
    exact h.tm k v' hv'

theorem Rel.fltT {E : En} {n : Nat} {g : Gh} {st : St} {a : Act} {w : World} (h : Rel E n g st a w) (p : Nat → AV → Bool) : Rel E n g ⟨fltL p st.tm, st.bx⟩ a w :=
  { h with srtT := srt_fltL h.srtT, tm := fun k v hv => h.tm k v (look_fltL h.srtT hv).1 }

end Go.Eng
end

section
/- The engine: writing a place; handing a value over. -/
namespace Go.Eng
open Go

theorem set_getD {α : Type} (l : List α) (i : Nat) (x : α) : List.set l i (List.getD l i x) = l := by
  apply List.ext_getElem?
  intro j
  rw [List.getElem?_set]
  split
  · rename_i h
    subst h
    split
    · rename_i h; simp [List.getD, h]
    · rename_i h; rw [List.getElem?_eq_none (by omega)]
  · rfl

theorem setD_getD : ∀ (p : Path) (t : Ty) (d : t.den) (u : Dat), getD t p d = some u → setD t p d u = some d
  | [], t, d, u, h => by
    simp only [getD, Option.some.injEq] at h
    subst h
    simp [setD]
  | s :: p, t, d, u, h => by
    cases t <;> cases s <;> simp only [getD] at h <;> try (simp at h; done)
    · simp only [setD, setD_getD p _ _ _ h, Option.map_some]
    · simp only [setD, setD_getD p _ _ _ h, Option.map_some]
    · simp only [setD, setD_getD p _ _ _ h, Option.map_some]; rw [set_getD]
    · simp only [setD, setD_getD p _ _ _ h, Option.map_some]; rw [set_getD]

theorem splice_chunk {cs : List Value} {o n : Nat} (h : o + n ≤ cs.length) : splice cs o (chunk cs o n) = cs := by
  apply List.ext_getElem?
  intro i
  rw [getElem?_splice (by rw [chunk_length h]; exact h), chunk_length h]
  simp only [chunk, List.getElem?_take, List.getElem?_drop]
  split
  · rfl
  · split
    · rw [if_pos (by omega)]; congr 1; omega
    · rfl

theorem patch_same (w : World) : ∀ (p : Path) (t : Ty) (cs : List Value) (l : Option (Nat × Nat)) (t' : Ty) (cs' : List Value) (l' : Option (Nat × Nat)),
    cs.length = t.size → walk w t p cs l = some (t', cs', l') → patch t p cs cs' = cs
  | [], t, cs, l, t', cs', l', hc, h => by
    simp only [walk, Option.some.injEq, Prod.mk.injEq] at h
    obtain ⟨rfl, rfl, rfl⟩ := h
    cases t <;> rfl
  | s :: p, t, cs, l, t', cs', l', hc, h => by
    cases t <;> cases s <;> simp only [walk] at h <;> try (simp at h; done)
    case pair.fst a b =>
      simp only [Ty.size] at hc
      simp only [patch]
      rw [patch_same w p _ _ _ _ _ _ (by simp; omega) h, List.take_append_drop]
    case pair.snd a b =>
      simp only [Ty.size] at hc
      simp only [patch]
      rw [patch_same w p _ _ _ _ _ _ (by simp; omega) h, List.take_append_drop]
    case slice.ix => rfl
    case arr.ix n e i =>
      simp only [Ty.size] at hc
      split at h
      · rename_i hi
        have hb := chunk_in (sz := e.size) (show i.toNat < n by omega)
        simp only [patch]
        rw [patch_same w p _ _ _ _ _ _ (chunk_length (by omega)) h, splice_chunk (by omega)]
      · simp at h

theorem okR_noSl : ∀ (P : Path) (t : Ty) (m : Md), noSl t P = true → okR t m P = true
  | [], t, m, h => by cases t <;> rfl
  | s :: P, t, m, h => by
    cases t <;> cases s <;> simp only [noSl] at h <;> try (simp at h; done)
    · simp only [okR]; exact okR_noSl P _ _ h
    · simp only [okR]; exact okR_noSl P _ _ h

theorem okR_mkIx {e : Ty} {i : Int} {m : Md} {k : Int} {P : Path} (h : okR (.slice e) (Md.mkIx i m) (.ix k :: P) = true) : okR e m P = true ∧ okR e .own P = true := by
  cases m <;> simp only [Md.mkIx, okR, Bool.and_eq_true] at h
  case own => exact ⟨h, h⟩
  all_goals exact h

theorem okR_ind : ∀ (p : Path) (t : Ty) (m m2 : Md) (P : Path), okP t m p = true → okR t (setM t m p m2) P = true → indA t p P = true → okR t m P = true
  | [], t, m, m2, P, ho, h, hi => okR_noSl P t m (by cases t <;> simpa only [indA] using hi)
  | s :: p, t, m, m2, [], ho, h, hi => by cases t <;> rfl
  | s :: p, t, m, m2, s2 :: P, ho, h, hi => by
    cases t with
    | pair a b =>
      cases s <;> cases s2 <;> simp only [indA, okP] at hi ho <;> try (simp at hi; done)
      · simp only [setM, okR, Md.mkPair_fst] at h ⊢; exact okR_ind p _ _ _ _ ho h hi
      · simp only [setM, okR, Md.mkPair_snd] at h ⊢; exact h
      · simp only [setM, okR, Md.mkPair_fst] at h ⊢; exact h
      · simp only [setM, okR, Md.mkPair_snd] at h ⊢; exact okR_ind p _ _ _ _ ho h hi
    | slice e =>
      cases s <;> cases s2 <;> simp only [indA] at hi <;> try (simp at hi; done)
      rename_i i k
      cases m <;> simp only [okP] at ho <;> try (simp at ho; done)
      · simp only [setM] at h
        simp only [okR]
        exact (okR_mkIx h).2
      · simp only [setM] at h
        simp only [Bool.and_eq_true] at ho
        simp only [okR, Bool.and_eq_true]
        exact ⟨okR_ind p _ _ _ _ ho.2 (okR_mkIx h).1 hi, (okR_mkIx h).2⟩
    | arr n e =>
      cases s <;> cases s2 <;> simp only [indA] at hi <;> try (simp at hi; done)
      simpa only [setM] using h
    | unit => simp [indA] at hi
    | int k => simp [indA] at hi
    | bool => simp [indA] at hi
    | str => simp [indA] at hi
    | iface => simp [indA] at hi

theorem okR_nil (t : Ty) (m : Md) : okR t m [] = true := by cases t <;> rfl

theorem okR_goneT : ∀ (P : Path) (t : Ty) (m : Md), okR t .gone P = true → okR t m P = true
  | [], t, m, h => okR_nil t m
  | s :: P, t, m, h => by
    cases t <;> cases s <;> simp only [okR, Md.fst, Md.snd] at h <;> try (simp at h; done)
    · simp only [okR]; exact okR_goneT P _ _ h
    · simp only [okR]; exact okR_goneT P _ _ h

theorem okR_gone : ∀ (p : Path) (t : Ty) (m : Md) (P : Path), okP t m p = true → okR t (setM t m p .gone) P = true → okR t m P = true
  | [], t, m, P, ho, h => by
    have e1 : setM t m [] .gone = .gone := by cases t <;> rfl
    rw [e1] at h
    exact okR_goneT P t m h
  | s :: p, t, m, [], ho, h => okR_nil t m
  | s :: p, t, m, s2 :: P, ho, h => by
    cases t with
    | pair a b =>
      cases s <;> cases s2 <;> simp only [okP] at ho <;> (try (simp at ho; done)) <;> simp only [setM, okR, Md.mkPair_fst, Md.mkPair_snd] at h ⊢ <;> first
        | (simp at h; done)
        | exact okR_gone p _ _ _ ho h
        | exact h
    | slice e =>
      cases s with
      | fst => simp [okP] at ho
      | snd => simp [okP] at ho
      | ix i =>
        cases s2 with
        | fst => simp [okR] at h
        | snd => simp [okR] at h
        | ix k =>
          cases m <;> simp only [okP] at ho <;> try (simp at ho; done)
          · simp only [setM] at h
            simp only [okR]; exact (okR_mkIx h).2
          · simp only [setM] at h
            simp only [Bool.and_eq_true] at ho
            simp only [okR, Bool.and_eq_true]
            exact ⟨okR_gone p _ _ _ ho.2 (okR_mkIx h).1, (okR_mkIx h).2⟩
    | arr n e =>
      cases s with
      | fst => simp [okP] at ho
      | snd => simp [okP] at ho
      | ix i => simpa only [setM] using h
    | unit => simp [okP] at ho
    | int k => simp [okP] at ho
    | bool => simp [okP] at ho
    | str => simp [okP] at ho
    | iface => simp [okP] at ho

/-- Other cells at this place of a block. -/
def spl (w : World) (blk off : Nat) (x : List Value) : World :=
  { w with heap := w.heap.modify blk fun
      | .cells c el fz => .cells ⟨splice c.toList off x⟩ el fz
      | o => o }

theorem spl_size (w : World) (blk off : Nat) (x : List Value) : (spl w blk off x).heap.size = w.heap.size := by simp [spl]

theorem spl_ne {w : World} {blk off : Nat} {x : List Value} {y : Nat} (h : y ≠ blk) : (spl w blk off x).heap[y]? = w.heap[y]? := by
  simp only [spl, Array.getElem?_modify]
  rw [if_neg (Ne.symm h)]

theorem spl_eq {w : World} {blk off : Nat} {x : List Value} {c : Array Value} {el : TypeId} {fz : Nat × Nat} (h : w.heap[blk]? = some (.cells c el fz)) :
    (spl w blk off x).heap[blk]? = some (.cells ⟨splice c.toList off x⟩ el fz) := by
  simp only [spl, Array.getElem?_modify, if_true, h, Option.map_some]

/-- Blocks that are owned, and that no box of the state owns. -/
structure Held (E : En) (g : Gh) (st : St) (w : World) (F : Nat → Prop) : Prop where
  dF : ∀ b x y, look st.bx b = some x → g.F b y → ¬ F y
  dL : ∀ b x, look st.bx b = some x → x.r = true → ¬ F (g.loc b).1
  dS : ∀ y, F y → ¬ g.S y
  bd : ∀ y, F y → y < w.heap.size
  nF : ∀ y, F y → E.F y ∨ E.w.heap.size ≤ y

theorem Held.none {E : En} {g : Gh} {st : St} {w : World} : Held E g st w none' :=
  ⟨fun _ _ _ _ _ h => h, fun _ _ _ _ h => h, fun _ h => h.elim, fun _ h => h.elim, fun _ h => h.elim⟩

/-- A state in which less is owned; memory and values are the same. -/
structure Less (g : Gh) (st : St) (g1 : Gh) (st1 : St) : Prop where
  S : g1.S = g.S
  loc : g1.loc = g.loc
  cs : g1.cs = g.cs
  F : ∀ b y, g1.F b y → g.F b y
  tm : st1.tm = st.tm
  bx : ∀ b x1, look st1.bx b = some x1 → ∃ x, look st.bx b = some x ∧ x1.t = x.t ∧ x1.r = x.r
  kp : ∀ b x, look st.bx b = some x → ∃ x1, look st1.bx b = some x1

theorem Less.refl (g : Gh) (st : St) : Less g st g st := ⟨rfl, rfl, rfl, fun _ _ h => h, rfl, fun _ x h => ⟨x, h, rfl, rfl⟩, fun _ x h => ⟨x, h⟩⟩

theorem Less.trans {g g1 g2 : Gh} {st st1 st2 : St} (h : Less g st g1 st1) (k : Less g1 st1 g2 st2) : Less g st g2 st2 :=
  ⟨k.S.trans h.S, k.loc.trans h.loc, k.cs.trans h.cs, fun b y hy => h.F b y (k.F b y hy), k.tm.trans h.tm, fun b x2 h2 => by
    obtain ⟨x1, a1, a2, a3⟩ := k.bx b x2 h2
    obtain ⟨x, b1, b2, b3⟩ := h.bx b x1 a1
    exact ⟨x, b1, a2.trans b2, a3.trans b3⟩,
   fun b x hx => by obtain ⟨x1, h1⟩ := h.kp b x hx; exact k.kp b x1 h1⟩

theorem Held.less {E : En} {g g1 : Gh} {st st1 : St} {w : World} {F : Nat → Prop} (h : Held E g st w F) (k : Less g st g1 st1) : Held E g1 st1 w F :=
  ⟨fun b x1 y hx hy => by obtain ⟨x, a1, _⟩ := k.bx b x1 hx; exact h.dF b x y a1 (k.F b y hy),
   fun b x1 hx hr => by obtain ⟨x, a1, _, a3⟩ := k.bx b x1 hx; rw [k.loc]; exact h.dL b x a1 (a3 ▸ hr),
   fun y hy => by rw [k.S]; exact h.dS y hy, h.bd, h.nF⟩

end Go.Eng
end
