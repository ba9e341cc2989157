import PyProof.Rows.All
import Wide.All
import OpenK.AllK
import Wide.FinOn
import PySem.Challenge.RW_onefromeach_k33_whole_shifted_and_no_fix
import PySem.Syntax
import PySem.PyData
import PyProof.EqAt
import PyProof.EqKinds
import PyProof.TupleCall
import HandS.ForMost
import HandS.Flow
import HandS.Zip
import HandS.Rev
import HandS.Conv
import HandS.Deep
import HandS.TupAny
import HandS.TupMul
import HandS.TupLen
import HandS.IsInst
import HandS.Wide
import HandS.WideBits
import HandS.Walk
import PyProof.Rows.RuleB_pow
import HandS.SortInts
import HandS.Gcd
import KE.KTupSum
import KE.DatumOrd
import KE.KMathGC
import HandS.More
import HandS.Style
import KE.GoesEnum
import HandS.Words
import HandS.Ends
set_option linter.all false
set_option autoImplicit false
set_option Elab.async false
section
/-! TL, part a: trees, environments, outcomes. -/
namespace Tq
open PySem

/-- a value as a tree; lists and dicts bear a mark: owned (true), or shared and never changed again (false) -/
inductive T where
  | non | bl (b : Bool) | int (i : Int) | str (s : Str)
  | tup (xs : List T) | lst (o : Bool) (xs : List T) | dic (o : Bool) (kvs : List (T × T))
  /-- the law's own argument: cut, no more -/
  | scr (xs : List T)
  deriving Inhabited

/-- lists have at most so many items -/
def LL : Nat := 16777216

mutual
/-- nothing owned within -/
def T.sh : T → Bool
  | .non => true
  | .bl _ => true
  | .int _ => true
  | .str _ => true
  | .tup xs => shL xs
  | .lst o xs => !o && shL xs
  | .dic o kvs => !o && shK kvs
  | .scr _ => true
def shL : List T → Bool
  | [] => true
  | x :: xs => x.sh && shL xs
def shK : List (T × T) → Bool
  | [] => true
  | (k, v) :: r => k.sh && v.sh && shK r
end
mutual
/-- shared from here on -/
def T.frz : T → T
  | .non => .non
  | .bl b => .bl b
  | .int i => .int i
  | .str s => .str s
  | .tup xs => .tup (frzL xs)
  | .lst _ xs => .lst false (frzL xs)
  | .dic _ kvs => .dic false (frzK kvs)
  | .scr xs => .scr xs
def frzL : List T → List T
  | [] => []
  | x :: xs => x.frz :: frzL xs
def frzK : List (T × T) → List (T × T)
  | [] => []
  | (k, v) :: r => (k.frz, v.frz) :: frzK r
end
mutual
/-- == of Python (marks don't count; dicts are never asked) -/
def T.eq : T → T → Bool
  | .non, .non => true
  | .bl a, .bl b => a == b
  | .bl a, .int j => (if a then 1 else 0) == j
  | .int i, .bl b => i == (if b then 1 else 0)
  | .int i, .int j => decide (i = j)
  | .str x, .str y => decide (x = y)
  | .tup xs, .tup ys => eqL xs ys
  | .lst _ xs, .lst _ ys => eqL xs ys
  | _, _ => false
def eqL : List T → List T → Bool
  | [], [] => true
  | x :: xs, y :: ys => x.eq y && eqL xs ys
  | _, _ => false
end
def sOk (s : Str) : Bool := s.cps.all (· < 0x110000)
mutual
/-- data without dicts, nested at most n deep -/
def T.dp : Nat → T → Bool
  | _, .non => true
  | _, .bl _ => true
  | _, .int _ => true
  | _, .str s => sOk s
  | 0, .tup _ => false
  | n + 1, .tup xs => dpL n xs
  | 0, .lst _ _ => false
  | n + 1, .lst _ xs => dpL n xs
  | _, .dic _ _ => false
  | _, .scr _ => false
def dpL : Nat → List T → Bool
  | _, [] => true
  | n, x :: xs => x.dp n && dpL n xs
end

theorem shL_all : ∀ xs : List T, shL xs = xs.all T.sh
  | [] => rfl
  | x :: xs => by rw [shL, List.all_cons, shL_all xs]
theorem shK_all : ∀ kvs : List (T × T), shK kvs = kvs.all fun p => p.1.sh && p.2.sh
  | [] => rfl
  | (k, v) :: r => by rw [shK, List.all_cons, shK_all r]
theorem frzL_map : ∀ xs : List T, frzL xs = xs.map T.frz
  | [] => rfl
  | x :: xs => by rw [frzL, List.map_cons, frzL_map xs]
theorem frzK_map : ∀ kvs : List (T × T), frzK kvs = kvs.map fun p => (p.1.frz, p.2.frz)
  | [] => rfl
  | (k, v) :: r => by rw [frzK, List.map_cons, frzK_map r]
theorem dpL_all (n : Nat) : ∀ xs : List T, dpL n xs = xs.all (T.dp n)
  | [] => by rw [dpL]; rfl
  | x :: xs => by rw [dpL, List.all_cons, dpL_all n xs]

mutual
theorem sh_frz : ∀ t : T, t.frz.sh = true
  | .non => rfl
  | .bl _ => rfl
  | .int _ => rfl
  | .str _ => rfl
  | .tup xs => by rw [T.frz, T.sh]; exact shL_frz xs
  | .lst _ xs => by rw [T.frz, T.sh, shL_frz xs]; rfl
  | .dic _ kvs => by rw [T.frz, T.sh, shK_frz kvs]; rfl
  | .scr _ => rfl
theorem shL_frz : ∀ xs : List T, shL (frzL xs) = true
  | [] => rfl
  | x :: xs => by rw [frzL, shL, sh_frz x, shL_frz xs]; rfl
theorem shK_frz : ∀ kvs : List (T × T), shK (frzK kvs) = true
  | [] => rfl
  | (k, v) :: r => by rw [frzK, shK, sh_frz k, sh_frz v, shK_frz r]; rfl
end
mutual
theorem frz_sh : ∀ t : T, t.sh = true → t.frz = t
  | .non, _ => rfl
  | .bl _, _ => rfl
  | .int _, _ => rfl
  | .str _, _ => rfl
  | .tup xs, h => by rw [T.sh] at h; rw [T.frz, frzL_sh xs h]
  | .lst o xs, h => by
    rw [T.sh, Bool.and_eq_true] at h
    rw [T.frz, frzL_sh xs h.2]
    cases o with
    | true => exact absurd h.1 (by decide)
    | false => rfl
  | .dic o kvs, h => by
    rw [T.sh, Bool.and_eq_true] at h
    rw [T.frz, frzK_sh kvs h.2]
    cases o with
    | true => exact absurd h.1 (by decide)
    | false => rfl
  | .scr _, _ => rfl
theorem frzL_sh : ∀ xs : List T, shL xs = true → frzL xs = xs
  | [], _ => rfl
  | x :: xs, h => by
    rw [shL, Bool.and_eq_true] at h
    rw [frzL, frz_sh x h.1, frzL_sh xs h.2]
theorem frzK_sh : ∀ kvs : List (T × T), shK kvs = true → frzK kvs = kvs
  | [], _ => rfl
  | (k, v) :: r, h => by
    rw [shK, Bool.and_eq_true, Bool.and_eq_true] at h
    rw [frzK, frz_sh k h.1.1, frz_sh v h.1.2, frzK_sh r h.2]
end

/-! ### the environment: the slots' trees (none: not assigned, or given away) -/
abbrev Env := List (Option T)
def gt : Env → Nat → Option T
  | [], _ => none
  | x :: _, 0 => x
  | _ :: r, n + 1 => gt r n
def st : Env → Nat → Option T → Env
  | [], _, _ => []
  | _ :: r, 0, v => v :: r
  | x :: r, n + 1, v => x :: st r n v
theorem st_length : ∀ (ε : Env) (i : Nat) (v : Option T), (st ε i v).length = ε.length
  | [], _, _ => rfl
  | _ :: _, 0, _ => rfl
  | _ :: r, n + 1, v => by simp [st, st_length r n v]

/-! ### outcomes -/
/-- an error that flies: its class by its number, its field -/
structure Exc where
  c : Nat
  a : Option T
inductive R (α : Type) where
  | ok (a : α) (ε : Env)
  | ex (x : Exc) (ε : Env)
  | no
def bnd {α β : Type} (r : R α) (f : α → Env → R β) : R β := match r with
  | .ok a ε => f a ε
  | .ex x ε => .ex x ε
  | .no => .no
@[simp] theorem bnd_ok {α β : Type} (a : α) (ε : Env) (f : α → Env → R β) : bnd (.ok a ε) f = f a ε := rfl
/-- a statement's outcome -/
inductive O where
  | nx (ε : Env) | ret (t : T) (ε : Env) | brk (ε : Env) | ct (ε : Env) | ex (x : Exc) (ε : Env) | no
def obnd {α : Type} (r : R α) (f : α → Env → O) : O := match r with
  | .ok a ε => f a ε
  | .ex x ε => .ex x ε
  | .no => .no
@[simp] theorem obnd_ok {α : Type} (a : α) (ε : Env) (f : α → Env → O) : obnd (.ok a ε) f = f a ε := rfl
def osq (o : O) (f : Env → O) : O := match o with
  | .nx ε => f ε
  | o => o
@[simp] theorem osq_nx (ε : Env) (f : Env → O) : osq (.nx ε) f = f ε := rfl
@[simp] theorem osq_ret (t : T) (ε : Env) (f : Env → O) : osq (.ret t ε) f = .ret t ε := rfl
@[simp] theorem osq_brk (ε : Env) (f : Env → O) : osq (.brk ε) f = .brk ε := rfl
@[simp] theorem osq_ct (ε : Env) (f : Env → O) : osq (.ct ε) f = .ct ε := rfl
/-- a call's outcome: the answer, what the parameters' objects hold behind it -/
inductive FR where
  | ok (t : T) (outs : List (Option T))
  | ex (x : Exc)
  | no
abbrev Fns := Nat → List T → FR

/-! ### values by kinds -/
def ofO {α : Type} (o : Option α) (ε : Env) : R α := match o with
  | some a => .ok a ε
  | none => .no
@[simp] theorem ofO_some {α : Type} (a : α) (ε : Env) : ofO (some a) ε = .ok a ε := rfl

/-- truth -/
def tru : T → Option Bool
  | .non => some false
  | .bl b => some b
  | .int i => some (decide (i ≠ 0))
  | .str s => if s.length ≤ LL then some (decide (s.length ≠ 0)) else none
  | .tup xs => some (!xs.isEmpty)
  | .lst _ xs => some (!xs.isEmpty)
  | _ => none

/-- the j-th item that i asks for among n -/
def ixOf (n : Nat) (i : Int) : Option Nat :=
  if 0 ≤ i then (if i < n then some i.toNat else none) else if -(n : Int) ≤ i then some (i + n).toNat else none
/-- a slice's end, clipped -/
def clip (n d : Nat) : Option Int → Nat
  | none => d
  | some v => if v < 0 then (max (v + (n : Int)) 0).toNat else min v.toNat n
def cut {α : Type} (xs : List α) (lo hi : Option Int) : List α := (xs.drop (clip xs.length 0 lo)).take (clip xs.length xs.length hi - clip xs.length 0 lo)
/-- every so many-th item -/
def every {α : Type} (k : Nat) : Nat → List α → List α
  | _, [] => []
  | 0, x :: xs => x :: every k (k - 1) xs
  | n + 1, _ :: xs => every k n xs

/-- keys: 1 ints and texts, 2 tuples of such -/
def k1 : T → Bool
  | .int _ => true
  | .str _ => true
  | _ => false
def k2 : T → Bool
  | .tup xs => xs.all k1
  | _ => false
def kOk (o : Bool) (kvs : List (T × T)) (k : T) : Bool := match kvs with
  | [] => k1 k || (o && k2 k)
  | (j, _) :: _ => (k1 j && k1 k) || (k2 j && k2 k)
def dget : List (T × T) → T → Option T
  | [], _ => none
  | (j, v) :: r, k => if j.eq k then some v else dget r k
def dput : List (T × T) → T → T → List (T × T)
  | [], k, v => [(k, v)]
  | (j, u) :: r, k, v => if j.eq k then (j, v) :: r else (j, u) :: dput r k v

/-! ### sizes of ints -/
def B1 : Nat := 18446744073709551616
def B2 : Nat := 2 ^ 400000
def mulOk (i j : Int) : Bool := decide (i.natAbs < B1) || decide (j.natAbs < B1) || (decide (i.natAbs < B2) && decide (j.natAbs < B2))
def divOk (i j : Int) : Bool := decide (j ≠ 0) && (decide (j.natAbs < 1073741824) || decide (j.natAbs < 2 ^ 8000) || decide (i.natAbs < j.natAbs * 2 ^ 4000))
def powOk (i j : Int) : Bool := decide (0 ≤ j) && decide (j ≤ 1000) && decide (i.natAbs < 2 ^ 10000)
def shlOk (i j : Int) : Bool := decide (0 ≤ j) && decide (j ≤ 1000000) && decide (i.natAbs < B1)

end Tq
end

section
/-! TL, part b: the small language and its evaluator. -/
namespace Tq
open PySem

inductive Op2 where | add | sub | mul | fdiv | mod | pow | shl | shr | band | bor | bxor
  deriving DecidableEq
inductive Cm where | eq | ne | lt | le | gt | ge | is | isnot | isin | notin
  deriving DecidableEq
inductive Bi where
  | len | abs | sum | min1 | max1 | min2 | max2 | sorted | sortedR | tuple | list | int | any | all | repr | str | gcd | lcm | factorial | setlen | setsorted | dict | min3
  deriving DecidableEq
inductive Ty where | int | bool | tuple | list | str | dict
  deriving DecidableEq
/-- what is stored to: a slot, or a tuple of such -/
inductive Tg where | s (i : Nat) | t (ts : List Tg)

mutual
inductive E where
  | non | bl (b : Bool) | int (i : Int) | str (s : Str)
  /-- a name's value: shared, or moved out of the slot -/
  | var (i : Nat)
  /-- a name's value, shared from here on -/
  | frz (i : Nat)
  /-- a name as an operand: looked at, left in its slot -/
  | pl (i : Nat)
  /-- a module's constant -/
  | gl (k : Nat)
  | op (o : Op2) (a b : E)
  | neg (a : E) | not (a : E)
  | and (a b : E) | or (a b : E)
  | cmp (o : Cm) (a b : E)
  | cmp2 (o p : Cm) (a b c : E)
  /-- x[k] == [], x[k] != [], x a name of a list of lists -/
  | nil (ne : Bool) (i : Nat) (k : E)
  | ite (c a b : E)
  | call (f : Nat) (as : Es)
  | callk (f : Nat) (as ks : Es) (ord : List Nat)
  | bi (f : Bi) (as : Es)
  /-- f(x[k]), x a name of a list of lists -/
  | bi1 (f : Bi) (i : Nat) (k : E)
  | isi (a : E) (ts : List Ty)
  | idx (a b : E)
  /-- an item of a name's list, shared from here on -/
  | frz1 (i : Nat) (a : E)
  | sl (a lo hi : E)
  | tup (es : Es) | lst (es : Es) | dic (ks vs : Es)
  | lc (own : List Nat) (tg : Tg) (it : It) (cs : Es) (e : E)
  | pop (i : Nat) | popi (i : Nat) (e : E)
  /-- bag[k].pop() -/
  | pop1 (i : Nat) (k : E)
  | get1 (a k : E) | get2 (a k d : E)
  | count (a k : E) | index (a k : E)
  /-- list(range(a)), list(range(a, b)), list(reversed(e)) .. and as tuples -/
  | lrng (tp : Bool) (a : E) | lrng2 (tp : Bool) (a b : E) | lrev (tp : Bool) (e : E)
inductive Es where
  | nil | cons (e : E) (es : Es)
inductive It where
  | seq (e : E) | rng1 (a : E) | rng2 (a b : E) | rng3 (a b c : E)
  | enum (e : E) | zip (a b : E) | rev (e : E) | items (e : E) | vals (e : E)
end

/-- an operand: a tree of its own, or a slot -/
inductive Op where | t (t : T) | s (i : Nat)
def pk (ε : Env) : Op → Option T
  | .t t => some t
  | .s i => gt ε i
/-- a slot that holds an owned list; an operand that is a dict -/
def isL (t : Option T) : Bool := match t with
  | some (.lst true _) => true
  | _ => false
def isDi (t : Option T) : Bool := match t with
  | some (.dic _ _) => true
  | _ => false
def Op.isS : Op → Bool
  | .t _ => false
  | .s _ => true
def asO (e : E) (f : Env → R T) (ε : Env) : R Op := match e with
  | .pl i => match gt ε i with
    | some _ => .ok (.s i) ε
    | none => .no
  | _ => bnd (f ε) fun t ε' => .ok (.t t) ε'
def pks (ε : Env) : List Op → Option (List T)
  | [] => some []
  | o :: r => match pk ε o, pks ε r with
    | some t, some ts => some (t :: ts)
    | _, _ => none

/-- what a def's evaluation leans on: the other defs, the module's constants, how often a while may turn -/
structure Cn where
  call : Fns
  glb : List T
  fuel : Nat
  /-- repr's text -/
  rp : T → Str

/-! operators -/
def bnat (f : Nat → Nat → Nat) (i j : Int) : Option T := if 0 ≤ i ∧ 0 ≤ j then some (.int (f i.toNat j.toNat : Nat)) else none
def opI : Op2 → Int → Int → Option T
  | .add, i, j => some (.int (i + j))
  | .sub, i, j => some (.int (i - j))
  | .mul, i, j => if mulOk i j then some (.int (i * j)) else none
  | .fdiv, i, j => if divOk i j then some (.int (i.fdiv j)) else none
  | .mod, i, j => if j = 0 then none else some (.int (i.fmod j))
  | .pow, i, j => if powOk i j then some (.int (i ^ j.toNat)) else none
  | .shl, i, j => if shlOk i j then some (.int (i * 2 ^ j.toNat)) else none
  | .shr, i, j => if 0 ≤ j then some (.int (i.fdiv (2 ^ j.toNat))) else none
  | .band, i, j => bnat (· &&& ·) i j
  | .bor, i, j => bnat (· ||| ·) i j
  | .bxor, i, j => bnat (· ^^^ ·) i j
def cat (sx sy : Bool) (xs ys : List T) : Option (List T) :=
  if (!sx || shL xs) && (!sy || shL ys) && decide (xs.length + ys.length ≤ LL) then some (xs ++ ys) else none
def rep (xs : List T) (n : Int) : Option (List T) :=
  if shL xs && decide (n < 2 ^ 62) && decide (-(2 ^ 62) < n) && decide (xs.length * n.toNat ≤ LL) then some (List.replicate n.toNat xs).flatten else none
def op2 (o : Op2) (sx sy : Bool) : T → T → Option T
  | .int i, .int j => opI o i j
  | .lst _ xs, .lst _ ys => if o = .add then (cat sx sy xs ys).map (.lst true) else none
  | .tup xs, .tup ys => if o = .add then (cat sx sy xs ys).map .tup else none
  | .lst _ xs, .int n => if o = .mul then (rep xs n).map (.lst true) else none
  | .tup xs, .int n => if o = .mul then (rep xs n).map .tup else none
  | .str x, .str y => if o = .add ∧ x.length + y.length ≤ LL then some (.str (x ++ y)) else none
  | _, _ => none

/-! comparisons -/
def leaf : T → Bool
  | .non => true
  | .bl _ => true
  | .int _ => true
  | .str _ => true
  | _ => false
def sc2 : T → T → Bool
  | .int _, .int _ => true
  | .str _, .str _ => true
  | .bl _, .bl _ => true
  | _, _ => false
def memT (t : T) (xs : List T) : Bool := xs.any fun y => y.eq t
def lexI : List Int → List Int → Bool
  | [], [] => false
  | [], _ :: _ => true
  | _ :: _, [] => false
  | x :: xs, y :: ys => if x = y then lexI xs ys else decide (x < y)
def intsL : List T → Option (List Int)
  | [] => some []
  | .int i :: r => (intsL r).map (i :: ·)
  | _ => none
def cm (o : Cm) : T → T → Option Bool
  | a, b => match o with
    | .eq => if sc2 a b || (a.dp 8 && b.dp 8) then some (a.eq b) else none
    | .ne => if sc2 a b || (a.dp 8 && b.dp 8) then some (!a.eq b) else none
    | .lt => match a, b with
      | .int i, .int j => some (decide (i < j))
      | _, _ => none
    | .le => match a, b with
      | .int i, .int j => some (decide (i ≤ j))
      | _, _ => none
    | .gt => match a, b with
      | .int i, .int j => some (decide (j < i))
      | _, _ => none
    | .ge => match a, b with
      | .int i, .int j => some (decide (j ≤ i))
      | _, _ => none
    | .is => match b with
      | .non => some (match a with | .non => true | _ => false)
      | .bl c => some (match a with | .bl d => d == c | _ => false)
      | _ => none
    | .isnot => match b with
      | .non => some (match a with | .non => false | _ => true)
      | .bl c => some (match a with | .bl d => !(d == c) | _ => true)
      | _ => none
    | .isin => match b with
      | .tup xs => if leaf a && xs.all leaf then some (memT a xs) else none
      | .lst _ xs => if a.dp 7 && dpL 7 xs then some (memT a xs) else none
      | .dic o kvs => if kOk o kvs a then some (dget kvs a).isSome else none
      | _ => none
    | .notin => match b with
      | .tup xs => if leaf a && xs.all leaf then some (!memT a xs) else none
      | .lst _ xs => if a.dp 7 && dpL 7 xs then some (!memT a xs) else none
      | .dic o kvs => if kOk o kvs a then some (!(dget kvs a).isSome) else none
      | _ => none

/-! built-ins -/
def lenT : T → Option Nat
  | .tup xs => some xs.length
  | .lst _ xs => some xs.length
  | .dic true kvs => some kvs.length
  | .str s => if s.length ≤ LL then some s.length else none
  | _ => none
def bls : List T → Option (List Bool)
  | [] => some []
  | .bl b :: r => (bls r).map (b :: ·)
  | _ => none
def seqOf : T → Option (List T)
  | .tup xs => some xs
  | .lst _ xs => some xs
  | _ => none
def minL : Int → List Int → Int
  | m, [] => m
  | m, x :: xs => minL (if x < m then x else m) xs
def maxL : Int → List Int → Int
  | m, [] => m
  | m, x :: xs => maxL (if m < x then x else m) xs
def leI (a b : Int) : Bool := decide (a ≤ b)
def insI (x : Int) : List Int → List Int
  | [] => [x]
  | y :: ys => if x ≤ y then x :: y :: ys else y :: insI x ys
def sortI : List Int → List Int
  | [] => []
  | x :: xs => insI x (sortI xs)
/-- the order of intsL, and of tuples of intsL -/
def toInts : T → Option (List Int)
  | .tup xs => intsL xs
  | _ => none
def tupsI : List T → Option (List (List Int))
  | [] => some []
  | t :: r => match toInts t, tupsI r with
    | some x, some xs => some (x :: xs)
    | _, _ => none
def insT (x : List Int) : List (List Int) → List (List Int)
  | [] => [x]
  | y :: ys => if lexI y x then y :: insT x ys else x :: y :: ys
def sortT : List (List Int) → List (List Int)
  | [] => []
  | x :: xs => insT x (sortT xs)
def ofInts (xs : List Int) : List T := xs.map T.int
/-- how much text a tree may make -/
def T.wt : Nat → T → Nat
  | _, .non => 4
  | _, .bl _ => 5
  | _, .int i => if i.natAbs < 10 ^ 300 then 400 else LL
  | _, .str _ => LL
  | 0, _ => LL
  | n + 1, .tup xs => 4 + (xs.map fun x => x.wt n + 2).sum
  | n + 1, .lst _ xs => 4 + (xs.map fun x => x.wt n + 2).sum
  | _, .dic _ _ => LL
  | _, .scr _ => LL
def wtOk (t : T) : Bool := decide (t.wt 7 ≤ 1000000) && t.dp 7

def fact : Nat → Nat
  | 0 => 1
  | n + 1 => (n + 1) * fact n
def isSq : T → Bool
  | .tup _ => true
  | .lst _ _ => true
  | _ => false
def biF (C : Cn) (f : Bi) (ts : List T) : Option T := match f, ts with
  | .len, [t] => (lenT t).map fun (n : Nat) => T.int (n : Int)
  | .abs, [.int i] => some (.int i.natAbs)
  | .sum, [t] => ((seqOf t).bind intsL).map fun ns => .int ns.sum
  | .min1, [t] => ((seqOf t).bind intsL).bind fun ns => match ns with
    | [] => none
    | x :: xs => some (.int (minL x xs))
  | .max1, [t] => ((seqOf t).bind intsL).bind fun ns => match ns with
    | [] => none
    | x :: xs => some (.int (maxL x xs))
  | .min2, [.int i, .int j] => some (.int (if j < i then j else i))
  | .max2, [.int i, .int j] => some (.int (if i < j then j else i))
  | .sorted, [.lst _ xs] => (intsL xs).map fun ns => .lst true (ofInts (sortI ns))
  | .tuple, [t] => (seqOf t).bind fun xs => if shL xs then some (.tup xs) else none
  | .list, [.dic _ kvs] => some (.lst true (kvs.map (·.1)))
  | .list, [t] => (seqOf t).bind fun xs => if shL xs then some (.lst true xs) else none
  | .int, [.int i] => some (.int i)
  | .int, [.bl b] => some (.int (if b then 1 else 0))
  | .any, [.lst _ xs] => (bls xs).map fun bs => .bl (bs.any id)
  | .all, [.lst _ xs] => (bls xs).map fun bs => .bl (bs.all id)
  | .repr, [t] => if isSq t && wtOk t then some (.str (C.rp t)) else none
  | .gcd, [.int i, .int j] => some (.int (Int.gcd i j))
  | .factorial, [.int i] => if 0 ≤ i ∧ i ≤ 1000 then some (.int (fact i.toNat)) else none
  | .dict, [.dic _ kvs] => if shK kvs && kvs.all fun p => k1 p.1 then some (.dic true kvs) else none
  | _, _ => none
def isK : T → Bool
  | .dic false _ => false
  | .scr _ => false
  | _ => true
def tyOf : T → Option Ty
  | .bl _ => some .bool
  | .int _ => some .int
  | .str _ => some .str
  | .tup _ => some .tuple
  | .lst _ _ => some .list
  | .dic _ _ => some .dict
  | _ => none
/-- isinstance(t, y) -/
def isTy (t : T) (y : Ty) : Bool := match t, y with
  | .bl _, .int => true
  | t, y => decide (tyOf t = some y)

/-! items -/
def getI (t i : T) : Option T := match t with
  | .tup xs => match i with
    | .int i => (ixOf xs.length i).bind fun j => xs[j]?
    | _ => none
  | .lst _ xs => match i with
    | .int i => (ixOf xs.length i).bind fun j => xs[j]?
    | _ => none
  | .dic o kvs => if kOk o kvs i then dget kvs i else none
  | _ => none
def oInt (e : E) (t : T) : Option (Option Int) := match e with
  | .non => some none
  | _ => match t with
    | .int i => some (some i)
    | _ => none
def cutT (sx : Bool) (t : T) (lo hi : Option Int) : Option T := match t with
  | .tup xs => if sx && !shL xs then none else some (.tup (cut xs lo hi))
  | .lst _ xs => if shL xs then some (.lst true (cut xs lo hi)) else none
  | .scr xs => some (.lst true (cut xs lo hi))
  | _ => none
def setI (t : T) (i : T) (v : T) : Option T := match t with
  | .lst true xs => match i with
    | .int i => (ixOf xs.length i).map fun j => .lst true (xs.set j v)
    | _ => none
  | .dic true kvs => if kOk true kvs i && decide (kvs.length < LL) then some (.dic true (dput kvs i v)) else none
  | _ => none
/-- what a for walks: shared from here on -/
def itemsOf : T → Option (List T)
  | .tup xs => some (frzL xs)
  | .lst _ xs => some (frzL xs)
  | .dic _ kvs => some ((frzK kvs).map (·.1))
  | _ => none
def seqF : T → Option (List T)
  | .tup xs => some (frzL xs)
  | .lst _ xs => some (frzL xs)
  | _ => none
def rngL (lo : Int) (n : Nat) (c : Int) : List T := (List.range n).map fun (k : Nat) => .int (lo + (k : Int) * c)
def rngOk (lo hi : Int) : Bool := decide (-(2 ^ 62) < lo) && decide (lo < 2 ^ 62) && decide (-(2 ^ 62) < hi) && decide (hi < 2 ^ 62) && decide (hi - lo ≤ LL)
def rng (lo hi : Int) : Option (List T) := if rngOk lo hi then some (rngL lo (hi - lo).toNat 1) else none
/-- range(lo, hi, -1) -/
def rngD (lo hi : Int) : Option (List T) := if rngOk hi lo then some (rngL lo (lo - hi).toNat (-1)) else none
def enumL (xs : List T) : Nat → List T
  | k => (xs.zipIdx k).map fun p => .tup [.int p.2, p.1]
def zipL (xs ys : List T) : List T := (xs.zip ys).map fun p => .tup [p.1, p.2]
def itemsD : T → Option (List T)
  | .dic _ kvs => if (frzK kvs).all fun p => k1 p.1 then some ((frzK kvs).map fun p => .tup [p.1, p.2]) else none
  | _ => none
def valsD : T → Option (List T)
  | .dic _ kvs => if (frzK kvs).all fun p => k1 p.1 then some ((frzK kvs).map fun p => p.2) else none
  | _ => none
def asSeq (tp : Bool) (xs : List T) : T := if tp then .tup xs else .lst true xs
def zipT : T → T → Option (List T)
  | .tup xs, .tup ys => some (zipL (frzL xs) (frzL ys))
  | .lst _ xs, .lst _ ys => some (zipL (frzL xs) (frzL ys))
  | _, _ => none
mutual
/-- stores -/
def asg : Tg → T → Env → Option Env
  | .s i, t, ε => if i < ε.length then some (st ε i (some t)) else none
  | .t ts, t, ε => match t with
    | .tup xs => asgs ts xs ε
    | _ => none
def asgs : List Tg → List T → Env → Option Env
  | [], [], ε => some ε
  | g :: gs, x :: xs, ε => match asg g x ε with
    | some ε' => asgs gs xs ε'
    | none => none
  | _, _, _ => none
end
def wipe (ε : Env) : List Nat → Env
  | [] => ε
  | i :: r => st (wipe ε r) i none
/-- own slots emptied; .. and back as they stood -/
def wipeS : List Nat → Env → Env
  | [], ε => ε
  | i :: r, ε => wipeS r (st ε i none)
def backS : List Nat → Env → Env → Env
  | [], _, ε => ε
  | i :: r, ε0, ε => st (backS r (st ε0 i none) ε) i (gt ε0 i)

/-! calls -/
def takes : Env → List Op → Option (List T × Env)
  | ε, [] => some ([], ε)
  | ε, .t t :: r => match takes ε r with
    | some (ts, ε') => some (t :: ts, ε')
    | none => none
  | ε, .s i :: r => match gt ε i with
    | some t => match takes (if t.sh then ε else st ε i none) r with
      | some (ts, ε') => some (t :: ts, ε')
      | none => none
    | none => none
def gives : Env → List Op → List T → List (Option T) → Env
  | ε, .s i :: r, t :: ts, o :: os => gives (if t.sh then ε else st ε i o) r ts os
  | ε, .t _ :: r, _ :: ts, _ :: os => gives ε r ts os
  | ε, _, _, _ => ε
def perm {α : Type} (xs : List α) : List Nat → Option (List α)
  | [] => some []
  | i :: r => match xs[i]?, perm xs r with
    | some x, some ys => some (x :: ys)
    | _, _ => none
def calls (C : Cn) (f : Nat) (os : List Op) (ε : Env) : R T := match takes ε os with
  | none => .no
  | some (ts, ε') => match C.call f ts with
    | .ok t outs => .ok t (gives ε' os ts outs)
    | .ex x => .ex x ε'
    | .no => .no

/-! loops -/
def lcL (tg : Tg) (own : List Nat) (cs : Env → R Bool) (e : Env → R T) : List T → List T → Env → R (List T)
  | [], acc, ε => .ok acc ε
  | x :: xs, acc, ε => match asg tg x ε with
    | none => .no
    | some ε1 => bnd (cs ε1) fun b ε2 => if b then bnd (e ε2) fun t ε3 => lcL tg own cs e xs (acc ++ [t]) (wipe ε3 own) else lcL tg own cs e xs acc (wipe ε2 own)
def forL (tg : Tg) (body : Env → O) : List T → Env → O
  | [], ε => .nx ε
  | x :: xs, ε => match asg tg x ε with
    | none => .no
    | some ε1 => match body ε1 with
      | .nx ε2 => forL tg body xs ε2
      | .ct ε2 => forL tg body xs ε2
      | .brk ε2 => .nx ε2
      | o => o
def whL (c : Env → R Bool) (body : Env → O) : Nat → Env → O
  | 0, _ => .no
  | n + 1, ε => obnd (c ε) fun b ε1 => if b then (match body ε1 with
      | .nx ε2 => whL c body n ε2
      | .ct ε2 => whL c body n ε2
      | .brk ε2 => .nx ε2
      | o => o) else .nx ε1

def cnd (e : E) (f : Env → R T) (ε : Env) : R Bool := bnd (asO e f ε) fun x ε' => match pk ε' x with
  | some t => ofO (tru t) ε'
  | none => .no
def un (e : E) (f : Env → R T) (g : T → Option T) (ε : Env) : R T := bnd (asO e f ε) fun x ε' => match pk ε' x with
  | some t => ofO (g t) ε'
  | none => .no
def two (a b : E) (fa fb : Env → R T) (g : Bool → Bool → T → T → Option T) (ε : Env) : R T := bnd (asO a fa ε) fun x ε1 => bnd (asO b fb ε1) fun y ε2 => match pk ε2 x, pk ε2 y with
  | some t, some u => ofO (g x.isS y.isS t u) ε2
  | _, _ => .no

/-- the item of a slot's list -/
def itm (o : Option T) (j : T) : Option (List T × Nat × T) := match o, j with
  | some (.lst true xs), .int j => (ixOf xs.length j).bind fun n => (xs[n]?).map fun u => (xs, n, u)
  | _, _ => none
def gNil (ne : Bool) : T → Option T
  | .lst _ xs => if dpL 7 xs then some (.bl (xs.isEmpty != ne)) else none
  | _ => none
def fItm (i : Nat) (f : Env → R T) (g : T → Option T) (ε : Env) : R T := if !isL (gt ε i) then .no else bnd (f ε) fun j ε1 => match itm (gt ε1 i) j with
  | some (_, _, u) => ofO (g u) ε1
  | none => .no
def fFrz1 (i : Nat) (f : Env → R T) (ε : Env) : R T := if !isL (gt ε i) then .no else bnd (f ε) fun j ε1 => match itm (gt ε1 i) j with
  | some (xs, n, u) => .ok u.frz (st ε1 i (some (.lst true (xs.set n u.frz))))
  | none => .no
def fPop1 (i : Nat) (f : Env → R T) (ε : Env) : R T := if !isL (gt ε i) then .no else bnd (f ε) fun j ε1 => match itm (gt ε1 i) j with
  | some (xs, n, .lst true ys) => match ys.getLast? with
    | some x => .ok x (st ε1 i (some (.lst true (xs.set n (.lst true ys.dropLast)))))
    | none => .no
  | _ => .no
def negT : T → Option T
  | .int i => some (.int (-i))
  | _ => none
mutual
def ev (C : Cn) : E → Env → R T
  | .non, ε => .ok .non ε
  | .bl b, ε => .ok (.bl b) ε
  | .int i, ε => .ok (.int i) ε
  | .str s, ε => .ok (.str s) ε
  | .var i, ε => match gt ε i with
    | some t => .ok t (if t.sh then ε else st ε i none)
    | none => .no
  | .frz i, ε => match gt ε i with
    | some t => .ok t.frz (if t.sh then ε else st ε i (some t.frz))
    | none => .no
  | .pl _, _ => .no
  | .gl k, ε => ofO (C.glb[k]?) ε
  | .op o a b, ε => two a b (ev C a) (ev C b) (op2 o) ε
  | .neg a, ε => un a (ev C a) negT ε
  | .not a, ε => un a (ev C a) (fun t => (tru t).map fun b => .bl !b) ε
  | .and a b, ε => bnd (ev C a ε) fun t ε1 => match t with
    | .bl true => ev C b ε1
    | .bl false => .ok (.bl false) ε1
    | _ => .no
  | .or a b, ε => bnd (ev C a ε) fun t ε1 => match t with
    | .bl false => ev C b ε1
    | .bl true => .ok (.bl true) ε1
    | _ => .no
  | .cmp o a b, ε => two a b (ev C a) (ev C b) (fun _ _ t u => (cm o t u).map .bl) ε
  | .cmp2 o p a b c, ε => bnd (ev C a ε) fun t ε1 => bnd (ev C b ε1) fun u ε2 => match cm o t u with
    | some true => bnd (ev C c ε2) fun v ε3 => ofO ((cm p u v).map .bl) ε3
    | some false => .ok (.bl false) ε2
    | none => .no
  | .nil ne i k, ε => fItm i (ev C k) (fun u => gNil ne u) ε
  | .ite c a b, ε => bnd (cnd c (ev C c) ε) fun d ε1 => if d then ev C a ε1 else ev C b ε1
  | .call f as, ε => bnd (evs C as ε) fun os ε1 => calls C f os ε1
  | .callk f as ks ord, ε => bnd (evs C as ε) fun os ε1 => bnd (evs C ks ε1) fun us ε2 => match perm (os ++ us) ord with
    | some ws => calls C f ws ε2
    | none => .no
  | .bi f as, ε => bnd (evs C as ε) fun os ε1 => match pks ε1 os with
      | some ts => ofO (biF C f ts) ε1
      | none => .no
  | .bi1 f i k, ε => fItm i (ev C k) (fun u => biF C f [u]) ε
  | .isi a ts, ε => un a (ev C a) (fun t => if isK t then some (.bl (ts.any (isTy t))) else none) ε
  | .idx a b, ε => two a b (ev C a) (ev C b) (fun sx _ t u => (getI t u).bind fun r => if (sx || isDi (some t)) && !r.sh then none else some r) ε
  | .frz1 i a, ε => fFrz1 i (ev C a) ε
  | .sl a lo hi, ε => bnd (asO a (ev C a) ε) fun x ε1 => bnd (ev C lo ε1) fun l ε2 => bnd (ev C hi ε2) fun h ε3 => match pk ε3 x, oInt lo l, oInt hi h with
    | some t, some l, some h => ofO (cutT x.isS t l h) ε3
    | _, _, _ => .no
  | .tup es, ε => bnd (evv C es ε) fun ts ε1 => .ok (.tup ts) ε1
  | .lst es, ε => bnd (evv C es ε) fun ts ε1 => .ok (.lst true ts) ε1
  | .dic ks vs, ε => match ks, vs with
    | .nil, .nil => .ok (.dic true []) ε
    | .cons k .nil, .cons v .nil => bnd (ev C k ε) fun t ε1 => bnd (ev C v ε1) fun u ε2 => if k1 t then .ok (.dic true [(t, u)]) ε2 else .no
    | _, _ => .no
  | .lc own tg it cs e, ε => bnd (evi C it ε) fun xs ε1 => if xs.length ≤ LL then
      bnd (lcL tg own (evc C cs) (ev C e) xs [] (wipeS own ε1)) fun ts ε2 => .ok (.lst true ts) (backS own ε1 ε2) else .no
  | .pop i, ε => match gt ε i with
    | some (.lst true xs) => match xs.getLast? with
      | some x => .ok x (st ε i (some (.lst true xs.dropLast)))
      | none => .no
    | _ => .no
  | .popi i e, ε => if !isL (gt ε i) then .no else bnd (ev C e ε) fun k ε1 => match gt ε1 i, k with
    | some (.lst true xs), .int k => match ixOf xs.length k with
      | some j => match xs[j]? with
        | some x => .ok x (st ε1 i (some (.lst true (xs.eraseIdx j))))
        | none => .no
      | none => .no
    | _, _ => .no
  | .pop1 i k, ε => fPop1 i (ev C k) ε
  | .get1 a k, ε => bnd (asO a (ev C a) ε) fun x ε1 => if !isDi (pk ε1 x) then .no else bnd (ev C k ε1) fun u ε2 => match pk ε2 x with
    | some (.dic o kvs) => if kOk o kvs u then (match dget kvs u with | some r => if !r.sh then .no else .ok r ε2 | none => .ok .non ε2) else .no
    | _ => .no
  | .get2 a k d, ε => bnd (asO a (ev C a) ε) fun x ε1 => if !isDi (pk ε1 x) then .no else bnd (ev C k ε1) fun u ε2 => bnd (ev C d ε2) fun w ε3 => match pk ε3 x with
    | some (.dic o kvs) => if kOk o kvs u then (match dget kvs u with | some r => if !r.sh then .no else .ok r ε3 | none => .ok w ε3) else .no
    | _ => .no
  | .count a k, ε => two a k (ev C a) (ev C k) (fun _ _ t u => (seqOf t).bind fun xs => if dpL 7 xs && u.dp 7 then some (.int (xs.countP fun y => y.eq u)) else none) ε
  | .index a k, ε => two a k (ev C a) (ev C k) (fun _ _ t u => (seqOf t).bind fun xs => if dpL 7 xs && u.dp 7 && memT u xs then some (.int (xs.findIdx fun y => y.eq u)) else none) ε
  | .lrng tp a, ε => bnd (ev C a ε) fun t ε1 => match t with
    | .int n => ofO ((rng 0 n).map (asSeq tp)) ε1
    | _ => .no
  | .lrng2 tp a b, ε => bnd (ev C a ε) fun t ε1 => bnd (ev C b ε1) fun u ε2 => match t, u with
    | .int m, .int n => ofO ((rng m n).map (asSeq tp)) ε2
    | _, _ => .no
  | .lrev tp e, ε => bnd (ev C e ε) fun t ε1 => match t with
    | .lst _ xs => .ok (asSeq tp (frzL xs).reverse) ε1
    | _ => .no
/-- operands -/
def evs (C : Cn) : Es → Env → R (List Op)
  | .nil, ε => .ok [] ε
  | .cons e es, ε => bnd (asO e (ev C e) ε) fun x ε1 => bnd (evs C es ε1) fun xs ε2 => .ok (x :: xs) ε2
/-- values -/
def evv (C : Cn) : Es → Env → R (List T)
  | .nil, ε => .ok [] ε
  | .cons e es, ε => bnd (ev C e ε) fun x ε1 => bnd (evv C es ε1) fun xs ε2 => .ok (x :: xs) ε2
/-- a clause's test, at most one -/
def evc (C : Cn) : Es → Env → R Bool
  | .nil, ε => .ok true ε
  | .cons c .nil, ε => cnd c (ev C c) ε
  | _, _ => .no
/-- what is walked -/
def evi (C : Cn) : It → Env → R (List T)
  | .seq e, ε => bnd (ev C e ε) fun t ε1 => ofO (itemsOf t) ε1
  | .rng1 a, ε => bnd (ev C a ε) fun t ε1 => match t with
    | .int n => ofO (rng 0 n) ε1
    | _ => .no
  | .rng2 a b, ε => bnd (ev C a ε) fun t ε1 => bnd (ev C b ε1) fun u ε2 => match t, u with
    | .int m, .int n => ofO (rng m n) ε2
    | _, _ => .no
  | .rng3 a b c, ε => bnd (ev C a ε) fun t ε1 => bnd (ev C b ε1) fun u ε2 => bnd (ev C c ε2) fun v ε3 => match t, u, v with
    | .int m, .int n, .int (-1) => ofO (rngD m n) ε3
    | _, _, _ => .no
  | .enum e, ε => bnd (ev C e ε) fun t ε1 => match seqF t with
    | some xs => .ok (enumL xs 0) ε1
    | none => .no
  | .zip a b, ε => bnd (ev C a ε) fun t ε1 => bnd (ev C b ε1) fun u ε2 => ofO (zipT t u) ε2
  | .rev e, ε => bnd (ev C e ε) fun t ε1 => match seqF t with
    | some xs => .ok xs.reverse ε1
    | none => .no
  | .items e, ε => bnd (ev C e ε) fun t ε1 => ofO (itemsD t) ε1
  | .vals e, ε => bnd (ev C e ε) fun t ε1 => ofO (valsD t) ε1
end

mutual
inductive S where
  | pass | brk | ct | retN
  | ret (e : E)
  | asg (tg : Tg) (e : E)
  /-- a, b = e, f with plain local names: no tuple -/
  | par (is : List Nat) (es : Es)
  /-- x[k] = e -/
  | seti (i : Nat) (k e : E)
  | app (i : Nat) (e : E)
  | ext (i : Nat) (e : E)
  | drop (e : E)
  | iff (c : E) (a b : Ss)
  | for (tg : Tg) (it : It) (b : Ss)
  | whl (c : E) (b : Ss)
  | raise (c : Nat) (e : E)
inductive Ss where
  | nil | cons (s : S) (ss : Ss)
end
def setAll : List Nat → List T → Env → Option Env
  | [], [], ε => some ε
  | i :: is, t :: ts, ε => if i < ε.length then setAll is ts (st ε i (some t)) else none
  | _, _, _ => none
mutual
def evS (C : Cn) : S → Env → O
  | .pass, ε => .nx ε
  | .brk, ε => .brk ε
  | .ct, ε => .ct ε
  | .retN, ε => .ret .non ε
  | .ret e, ε => obnd (ev C e ε) fun t ε1 => .ret t ε1
  | .asg tg e, ε => obnd (ev C e ε) fun t ε1 => match asg tg t ε1 with
    | some ε2 => .nx ε2
    | none => .no
  | .par is es, ε => obnd (evv C es ε) fun ts ε1 => match setAll is ts ε1 with
    | some ε2 => .nx ε2
    | none => .no
  | .seti i k e, ε => obnd (ev C e ε) fun t ε1 => if (gt ε1 i).isNone then .no else obnd (ev C k ε1) fun j ε2 => match gt ε2 i with
    | some c => match setI c j t with
      | some c' => .nx (st ε2 i (some c'))
      | none => .no
    | none => .no
  | .app i e, ε => if !isL (gt ε i) then .no else obnd (ev C e ε) fun t ε1 => match gt ε1 i with
    | some (.lst true xs) => if xs.length < LL then .nx (st ε1 i (some (.lst true (xs ++ [t])))) else .no
    | _ => .no
  | .ext i e, ε => if !isL (gt ε i) then .no else obnd (ev C e ε) fun t ε1 => match gt ε1 i, t with
    | some (.lst true xs), .lst _ ys => if xs.length + ys.length ≤ LL then .nx (st ε1 i (some (.lst true (xs ++ ys)))) else .no
    | _, _ => .no
  | .drop e, ε => obnd (ev C e ε) fun _ ε1 => .nx ε1
  | .iff c a b, ε => obnd (cnd c (ev C c) ε) fun d ε1 => if d then evSs C a ε1 else evSs C b ε1
  | .for tg it b, ε => obnd (evi C it ε) fun xs ε1 => forL tg (evSs C b) xs ε1
  | .whl c b, ε => whL (cnd c (ev C c)) (evSs C b) C.fuel ε
  | .raise c e, ε => obnd (ev C e ε) fun t ε1 => .ex ⟨c, some t⟩ ε1
def evSs (C : Cn) : Ss → Env → O
  | .nil, ε => .nx ε
  | .cons s ss, ε => osq (evS C s ε) (evSs C ss)
end

/-! defs -/
structure Fn where
  np : Nat
  ns : Nat
  keep : List Bool
  body : Ss
def outsOf : Nat → List Bool → Env → List (Option T)
  | _, [], _ => []
  | i, k :: ks, ε => (if k then gt ε i else none) :: outsOf (i + 1) ks ε
def fin (keep : List Bool) : O → FR
  | .ret t ε => .ok t (outsOf 0 keep ε)
  | .nx ε => .ok .non (outsOf 0 keep ε)
  | .ex x _ => .ex x
  | _ => .no
def start (d : Fn) (ts : List T) : Env := ts.map some ++ List.replicate (d.ns - d.np) none
structure Pg where
  fns : List Fn
  glb : List T
  fuel : Nat
  rp : T → Str
/-- n calls deep -/
def run (P : Pg) : Nat → Fns
  | 0 => fun _ _ => .no
  | n + 1 => fun f ts => match P.fns[f]? with
    | some d => if ts.length = d.np then fin d.keep (evSs ⟨run P n, P.glb, P.fuel, P.rp⟩ d.body (start d ts)) else .no
    | none => .no
end Tq
end

section
set_option Elab.async false
set_option maxRecDepth 100000
set_option maxHeartbeats 2000000
/-! TLs1: how trees lie in the layer's heap. -/
namespace Tq
open PySem PySem.Spec PyProof.Rows L2

def keyT : Key → T
  | .inl i => .int i
  | .inr s => .str s
def keysT (l : List Key) : T := .tup (l.map keyT)

/-- a list of the module's own -/
def SqK (K : PySem.W.Frag) (a : Addr) (xs : List V) : Prop :=
  ∃ (o : Obj) (its : Array Value) (n : Nat), K.lookup a = some o ∧ o.cls = .type "list" ∧ o.dict = none ∧ o.data = .seq its n ∧ its.size ≤ sizeLine ∧ Vals xs its.toList
section
variable (K : PySem.W.Frag) (H : Hp) (W : Addr → Prop)
mutual
/-- the value v stands for the tree t; the owned objects within -/
inductive Rep : V → T → List Addr → Prop
  | non : Rep .non .non []
  | bl (b : Bool) : Rep (.bl b) (.bl b) []
  | int (i : Int) : Rep (.int i) (.int i) []
  | str (s : Str) : Rep (.str s) (.str s) []
  | tup {a : Addr} {vs : List V} {xs : List T} {A : List Addr} : H a = some (.tup vs) → Reps vs xs A → Rep (.ref a) (.tup xs) A
  | own {a : Addr} {vs : List V} {xs : List T} {A : List Addr} : H a = some (.lst vs) → Reps vs xs A → Rep (.ref a) (.lst true xs) (a :: A)
  | lst {a : Addr} {vs : List V} {xs : List T} : H a = some (.lst vs) → ¬ W a → Reps vs xs [] → Rep (.ref a) (.lst false xs) []
  | scr {a : Addr} {vs : List V} {xs : List T} : Rd H a (.lst vs) → ¬ W a → Reps vs xs [] → Rep (.ref a) (.scr xs) []
  | scrK {a : Addr} {vs : List V} {xs : List T} : SqK K a vs → Reps vs xs [] → Rep (.ref a) (.scr xs) []
  | ownK {a : Addr} {kv : List (Key × V)} {ts : List T} {A : List Addr} : H a = some (.dK kv) → (kv.map (·.1)).Nodup → Reps (kv.map (·.2)) ts A → Rep (.ref a) (.dic true ((kv.map fun p => keyT p.1).zip ts)) (a :: A)
  | ownT {a : Addr} {kv : List (List Key × V)} {ts : List T} {A : List Addr} : H a = some (.dT kv) → (kv.map (·.1)).Nodup ∧ kv ≠ [] → Reps (kv.map (·.2)) ts A → Rep (.ref a) (.dic true ((kv.map fun p => keysT p.1).zip ts)) (a :: A)
  | dicK {a : Addr} {kv : List (Key × V)} {ts : List T} : Rd H a (.dK kv) → ¬ W a → (kv.map (·.1)).Nodup → Reps (kv.map (·.2)) ts [] → Rep (.ref a) (.dic false ((kv.map fun p => keyT p.1).zip ts)) []
  | dicT {a : Addr} {kv : List (List Key × V)} {ts : List T} : Rd H a (.dT kv) → ¬ W a → (kv.map (·.1)).Nodup ∧ kv ≠ [] → Reps (kv.map (·.2)) ts [] → Rep (.ref a) (.dic false ((kv.map fun p => keysT p.1).zip ts)) []
inductive Reps : List V → List T → List Addr → Prop
  | nil : Reps [] [] []
  | cons {v : V} {t : T} {A : List Addr} {vs : List V} {ts : List T} {B : List Addr} : Rep v t A → Reps vs ts B → Reps (v :: vs) (t :: ts) (A ++ B)
end
end

section
variable {K : PySem.W.Frag} {H H' : Hp} {W W' : Addr → Prop}
theorem Reps.length {vs : List V} {ts : List T} {A : List Addr} (h : Reps K H W vs ts A) : vs.length = ts.length := by
  induction vs generalizing ts A with
  | nil => cases h; rfl
  | cons v vs ih => cases h with | cons a b => simp [ih b]
/-- nothing that is leant on has changed -/
structure Kp (H H' : Hp) (W W' : Addr → Prop) (A : List Addr) : Prop where
  rd : ∀ b u, Rd H b u → ¬ W b → Rd H' b u
  ls : ∀ b vs, H b = some (.lst vs) → ¬ W b → H' b = some (.lst vs)
  tup : ∀ b vs, H b = some (.tup vs) → H' b = some (.tup vs)
  own : ∀ b u, b ∈ A → H b = some u → H' b = some u
  w : ∀ b u, Rd H b u → ¬ W b → ¬ W' b
theorem Kp.sub {A B : List Addr} (k : Kp H H' W W' A) (h : ∀ b ∈ B, b ∈ A) : Kp H H' W W' B := ⟨k.rd, k.ls, k.tup, fun b u hb => k.own b u (h b hb), k.w⟩
mutual
theorem Rep.keep : ∀ {v : V} {t : T} {A : List Addr}, Rep K H W v t A → Kp H H' W W' A → Rep K H' W' v t A
  | _, _, _, .non, _ => .non
  | _, _, _, .bl b, _ => .bl b
  | _, _, _, .int i, _ => .int i
  | _, _, _, .str i, _ => .str i
  | _, _, _, .tup h r, k => .tup (k.tup _ _ h) (Reps.keep r k)
  | _, _, _, .own h r, k => .own (k.own _ _ List.mem_cons_self h) (Reps.keep r (k.sub fun _ => List.mem_cons_of_mem _))
  | _, _, _, .lst h n r, k => .lst (k.ls _ _ h n) (k.w _ _ (.inl h) n) (Reps.keep r k)
  | _, _, _, .scr h n r, k => .scr (k.rd _ _ h n) (k.w _ _ h n) (Reps.keep r k)
  | _, _, _, .scrK h r, k => .scrK h (Reps.keep r k)
  | _, _, _, .ownK h nd r, k => .ownK (k.own _ _ List.mem_cons_self h) nd (Reps.keep r (k.sub fun _ => List.mem_cons_of_mem _))
  | _, _, _, .ownT h nd r, k => .ownT (k.own _ _ List.mem_cons_self h) nd (Reps.keep r (k.sub fun _ => List.mem_cons_of_mem _))
  | _, _, _, .dicK h n nd r, k => .dicK (k.rd _ _ h n) (k.w _ _ h n) nd (Reps.keep r k)
  | _, _, _, .dicT h n nd r, k => .dicT (k.rd _ _ h n) (k.w _ _ h n) nd (Reps.keep r k)
theorem Reps.keep : ∀ {vs : List V} {ts : List T} {A : List Addr}, Reps K H W vs ts A → Kp H H' W W' A → Reps K H' W' vs ts A
  | _, _, _, .nil, _ => .nil
  | _, _, _, .cons a b, k => .cons (Rep.keep a (k.sub fun _ => List.mem_append_left _)) (Reps.keep b (k.sub fun _ => List.mem_append_right _))
end
theorem shL_cons {x : T} {xs : List T} : shL (x :: xs) = true ↔ x.sh = true ∧ shL xs = true := by rw [shL, Bool.and_eq_true]
theorem shK_zip : ∀ {ks : List T} {ts : List T}, ks.length = ts.length → shK (ks.zip ts) = true → shL ts = true
  | [], [], _, _ => rfl
  | k :: ks, t :: ts, h, e => by
    rw [List.zip_cons_cons, shK, Bool.and_eq_true, Bool.and_eq_true] at e
    rw [shL, Bool.and_eq_true]
    exact ⟨e.1.2, shK_zip (by simpa using h) e.2⟩
mutual
/-- what is shared owns nothing -/
theorem Rep.sh : ∀ {v : V} {t : T} {A : List Addr}, Rep K H W v t A → t.sh = true → A = []
  | _, _, _, .non, _ => rfl
  | _, _, _, .bl _, _ => rfl
  | _, _, _, .int _, _ => rfl
  | _, _, _, .str _, _ => rfl
  | _, _, _, .tup _ r, e => Reps.sh r (by rw [T.sh] at e; exact e)
  | _, _, _, .own _ _, e => by simp [T.sh] at e
  | _, _, _, .lst _ _ _, _ => rfl
  | _, _, _, .scr _ _ _, _ => rfl
  | _, _, _, .scrK _ _, _ => rfl
  | _, _, _, .ownK _ _ _, e => by simp [T.sh] at e
  | _, _, _, .ownT _ _ _, e => by simp [T.sh] at e
  | _, _, _, .dicK _ _ _ _, _ => rfl
  | _, _, _, .dicT _ _ _ _, _ => rfl
theorem Reps.sh : ∀ {vs : List V} {ts : List T} {A : List Addr}, Reps K H W vs ts A → shL ts = true → A = []
  | _, _, _, .nil, _ => rfl
  | _, _, _, .cons a b, e => by
    have e := shL_cons.mp e
    rw [Rep.sh a e.1, Reps.sh b e.2]; rfl
end
theorem shK_zipK : ∀ {kv : List (Key × V)} {ts : List T}, shL ts = true → shK ((kv.map fun p => keyT p.1).zip ts) = true
  | [], _, _ => by simp [shK]
  | _ :: _, [], _ => by simp [shK]
  | k :: kv, t :: ts, h => by
    have h := shL_cons.mp h
    have e : (keyT k.1).sh = true := by cases k.1 <;> rfl
    rw [List.map_cons, List.zip_cons_cons, shK, e, h.1, shK_zipK h.2]; rfl
theorem keyT_frz (k : Key) : (keyT k).frz = keyT k := by cases k <;> rfl
theorem keyT_sh (k : Key) : (keyT k).sh = true := by cases k <;> rfl
theorem keysT_frz (l : List Key) : (keysT l).frz = keysT l := by
  unfold keysT
  rw [T.frz, frzL_map, List.map_map]
  exact congrArg _ (List.map_congr_left fun k _ => keyT_frz k)
theorem keysT_sh (l : List Key) : (keysT l).sh = true := by
  unfold keysT
  rw [T.sh, shL_all, List.all_map, List.all_eq_true]
  exact fun k _ => keyT_sh k
theorem shK_zipT : ∀ {kv : List (List Key × V)} {ts : List T}, shL ts = true → shK ((kv.map fun p => keysT p.1).zip ts) = true
  | [], _, _ => by simp [shK]
  | _ :: _, [], _ => by simp [shK]
  | k :: kv, t :: ts, h => by
    have h := shL_cons.mp h
    rw [List.map_cons, List.zip_cons_cons, shK, keysT_sh, h.1, shK_zipT h.2]; rfl
mutual
/-- what owns nothing is shared -/
theorem Rep.nil_sh : ∀ {v : V} {t : T} {A : List Addr}, Rep K H W v t A → A = [] → t.sh = true
  | _, _, _, .non, _ => rfl
  | _, _, _, .bl _, _ => rfl
  | _, _, _, .int _, _ => rfl
  | _, _, _, .str _, _ => rfl
  | _, _, _, .tup _ r, e => by rw [T.sh]; exact Reps.nil_sh r e
  | _, _, _, .own _ _, e => nomatch e
  | _, _, _, .lst _ _ r, _ => by rw [T.sh, Reps.nil_sh r rfl]; rfl
  | _, _, _, .scr _ _ _, _ => rfl
  | _, _, _, .scrK _ _, _ => rfl
  | _, _, _, .ownK _ _ _, e => nomatch e
  | _, _, _, .ownT _ _ _, e => nomatch e
  | _, _, _, .dicK _ _ _ r, _ => by rw [T.sh, shK_zipK (Reps.nil_sh r rfl)]; rfl
  | _, _, _, .dicT _ _ _ r, _ => by rw [T.sh, shK_zipT (Reps.nil_sh r rfl)]; rfl
theorem Reps.nil_sh : ∀ {vs : List V} {ts : List T} {A : List Addr}, Reps K H W vs ts A → A = [] → shL ts = true
  | _, _, _, .nil, _ => rfl
  | _, _, _, .cons a b, e => by
    have e := List.append_eq_nil_iff.mp e
    rw [shL, Rep.nil_sh a e.1, Reps.nil_sh b e.2]; rfl
end
theorem frzK_zip0 : ∀ {ks : List T} {ts : List T}, frzK (ks.zip ts) = (ks.map T.frz).zip (frzL ts)
  | [], _ => by simp [frzK]
  | _ :: _, [] => by simp [frzK, frzL]
  | k :: ks, t :: ts => by simp [frzK, frzL, frzK_zip0]
theorem frzK_zipK {kv : List (Key × V)} {ts : List T} : frzK ((kv.map fun p => keyT p.1).zip ts) = (kv.map fun p => keyT p.1).zip (frzL ts) := by
  rw [frzK_zip0, List.map_map]
  exact congrArg (fun a => List.zip a _) (List.map_congr_left fun p _ => keyT_frz p.1)
theorem frzK_zipT {kv : List (List Key × V)} {ts : List T} : frzK ((kv.map fun p => keysT p.1).zip ts) = (kv.map fun p => keysT p.1).zip (frzL ts) := by
  rw [frzK_zip0, List.map_map]
  exact congrArg (fun a => List.zip a _) (List.map_congr_left fun p _ => keysT_frz p.1)
mutual
/-- given up: shared, if no writer has its objects -/
theorem Rep.frz : ∀ {v : V} {t : T} {A : List Addr}, Rep K H W v t A → (∀ b, W' b → W b) → (∀ b ∈ A, ¬ W' b) → Rep K H W' v t.frz []
  | _, _, _, .non, _, _ => .non
  | _, _, _, .bl b, _, _ => .bl b
  | _, _, _, .int i, _, _ => .int i
  | _, _, _, .str i, _, _ => .str i
  | _, _, _, .tup h r, k, n => by rw [T.frz]; exact .tup h (Reps.frz r k n)
  | _, _, _, .own h r, k, n => by rw [T.frz]; exact .lst h (n _ List.mem_cons_self) (Reps.frz r k fun b hb => n b (List.mem_cons_of_mem _ hb))
  | _, _, _, .lst h w r, k, n => by rw [T.frz]; exact .lst h (fun z => w (k _ z)) (Reps.frz r k n)
  | _, _, _, .scr h w r, k, n => by rw [T.frz]; exact .scr h (fun z => w (k _ z)) (r.keep ⟨fun _ _ r _ => r, fun _ _ e _ => e, fun _ _ r => r, fun _ _ _ e => e, fun _ _ _ n z => n (k _ z)⟩)
  | _, _, _, .scrK h r, k, n => by rw [T.frz]; exact .scrK h (r.keep ⟨fun _ _ r _ => r, fun _ _ e _ => e, fun _ _ r => r, fun _ _ _ e => e, fun _ _ _ n z => n (k _ z)⟩)
  | _, _, _, .ownK h nd r, k, n => by rw [T.frz, frzK_zipK]; exact .dicK (.inl h) (n _ List.mem_cons_self) nd (Reps.frz r k fun b hb => n b (List.mem_cons_of_mem _ hb))
  | _, _, _, .ownT h nd r, k, n => by rw [T.frz, frzK_zipT]; exact .dicT (.inl h) (n _ List.mem_cons_self) nd (Reps.frz r k fun b hb => n b (List.mem_cons_of_mem _ hb))
  | _, _, _, .dicK h w nd r, k, n => by rw [T.frz, frzK_zipK]; exact .dicK h (fun z => w (k _ z)) nd (Reps.frz r k n)
  | _, _, _, .dicT h w nd r, k, n => by rw [T.frz, frzK_zipT]; exact .dicT h (fun z => w (k _ z)) nd (Reps.frz r k n)
theorem Reps.frz : ∀ {vs : List V} {ts : List T} {A : List Addr}, Reps K H W vs ts A → (∀ b, W' b → W b) → (∀ b ∈ A, ¬ W' b) → Reps K H W' vs (frzL ts) []
  | _, _, _, .nil, _, _ => by rw [frzL]; exact .nil
  | _, _, _, .cons a b, k, n => by
    rw [frzL]
    exact .cons (A := []) (B := []) (Rep.frz a k fun c hc => n c (List.mem_append_left _ hc)) (Reps.frz b k fun c hc => n c (List.mem_append_right _ hc))
end
theorem Rep.anti {v : V} {t : T} {A : List Addr} (h : Rep K H W v t A) (k : ∀ b, W' b → W b) : Rep K H W' v t A := h.keep ⟨fun _ _ r _ => r, fun _ _ e _ => e, fun _ _ r => r, fun _ _ _ e => e, fun _ _ _ n z => n (k _ z)⟩
theorem Reps.anti {v : List V} {t : List T} {A : List Addr} (h : Reps K H W v t A) (k : ∀ b, W' b → W b) : Reps K H W' v t A := h.keep ⟨fun _ _ r _ => r, fun _ _ e _ => e, fun _ _ r => r, fun _ _ _ e => e, fun _ _ _ n z => n (k _ z)⟩
theorem Reps.append : ∀ {vs : List V} {ts : List T} {A : List Addr} {ws : List V} {us : List T} {B : List Addr}, Reps K H W vs ts A → Reps K H W ws us B → Reps K H W (vs ++ ws) (ts ++ us) (A ++ B)
  | _, _, _, _, _, _, .nil, h => h
  | _, _, _, _, _, _, .cons a b, h => by rw [List.append_assoc]; exact .cons a (Reps.append b h)
theorem Reps.at : ∀ {vs : List V} {ts : List T} {A : List Addr}, Reps K H W vs ts A → ∀ {i : Nat} {t : T}, ts[i]? = some t → ∃ v B, vs[i]? = some v ∧ Rep K H W v t B ∧ ∀ b ∈ B, b ∈ A
  | _, _, _, .nil, i, t, e => by simp at e
  | _, _, _, .cons (A := A) a b, 0, t, e => by simp at e; subst e; exact ⟨_, _, rfl, a, fun b hb => List.mem_append_left _ hb⟩
  | _, _, _, .cons a b, i + 1, t, e => by
    obtain ⟨v, B, h1, h2, h3⟩ := Reps.at b (i := i) (by simpa using e)
    exact ⟨v, B, by simpa using h1, h2, fun c hc => List.mem_append_right _ (h3 c hc)⟩

/-- a fact of the heap that stays: of no plain dict (a dict is locked when it is walked) -/
def noDic : HO → Bool
  | .dK _ => false
  | .dT _ => false
  | _ => true
structure Pin where
  fst : Addr
  snd : HO
  ok : noDic snd = true
/-! ### the whole state: what is live -/
end
/-- a list of values with their trees -/
abbrev VT := List (V × T)
structure Sat (K : PySem.W.Frag) (H : Hp) (C : List Addr) (P : List Pin) (L : VT) : Prop where
  ex : ∃ A, Reps K H (fun b => b ∈ C ++ A) (L.map (·.1)) (L.map (·.2)) A ∧ (C ++ A).Nodup ∧ ∀ p ∈ P, H p.1 = some p.2 ∧ p.1 ∉ A
section
variable {K : PySem.W.Frag} {H H' : Hp} {C : List Addr} {P : List Pin} {L L' : VT} {v : V} {t : T}
theorem reps_perm {W : Addr → Prop} (h : L.Perm L') : ∀ {A : List Addr}, Reps K H W (L.map (·.1)) (L.map (·.2)) A → ∃ A', A.Perm A' ∧ Reps K H W (L'.map (·.1)) (L'.map (·.2)) A' := by
  induction h with
  | nil => intro A r; exact ⟨A, .refl _, r⟩
  | cons x _ ih =>
    intro A r
    cases r with
    | cons a b =>
      obtain ⟨B, p, q⟩ := ih b
      exact ⟨_, p.append_left _, .cons a q⟩
  | swap x y l =>
    intro A r
    cases r with
    | cons a b =>
      cases b with
      | cons c d =>
        refine ⟨_, ?_, .cons c (.cons a d)⟩
        rw [← List.append_assoc, ← List.append_assoc]
        exact List.perm_append_comm.append_right _
  | trans _ _ i1 i2 =>
    intro A r
    obtain ⟨B, p, q⟩ := i1 r
    obtain ⟨B', p', q'⟩ := i2 q
    exact ⟨B', p.trans p', q'⟩
theorem Sat.perm (s : Sat K H C P L) (h : L.Perm L') : Sat K H C P L' := by
  obtain ⟨A, r, nd, hp⟩ := s.ex
  obtain ⟨A', p, r'⟩ := reps_perm h r
  refine ⟨A', r'.anti fun b hb => ?_, (p.append_left C).nodup_iff.mp nd, fun q hq => ⟨(hp q hq).1, fun z => (hp q hq).2 (p.mem_iff.mpr z)⟩⟩
  rcases List.mem_append.mp hb with z | z
  · exact List.mem_append_left _ z
  · exact List.mem_append_right _ (p.mem_iff.mpr z)
theorem Sat.drop (s : Sat K H C P ((v, t) :: L)) : Sat K H C P L := by
  obtain ⟨A, r, nd, hp⟩ := s.ex
  cases r with
  | cons a b =>
    rename_i A B
    have sub : ∀ c, c ∈ C ++ B → c ∈ C ++ (A ++ B) := fun c hc => by
      rcases List.mem_append.mp hc with z | z
      · exact List.mem_append_left _ z
      · exact List.mem_append_right _ (List.mem_append_right _ z)
    refine ⟨B, b.anti sub, nd.sublist ((List.Sublist.refl C).append (List.sublist_append_right A B)), fun q hq => ⟨(hp q hq).1, fun z => (hp q hq).2 (List.mem_append_right _ z)⟩⟩
theorem Sat.dropL : ∀ {L1 : VT}, Sat K H C P (L1 ++ L) → Sat K H C P L
  | [], s => s
  | _ :: _, s => Sat.dropL (Sat.drop s)
/-- a further value that owns nothing -/
theorem Sat.add (s : Sat K H C P L) (h : ∀ W : Addr → Prop, (∃ A, Reps K H W (L.map (·.1)) (L.map (·.2)) A) → Rep K H W v t []) : Sat K H C P ((v, t) :: L) := by
  obtain ⟨A, r, nd, hp⟩ := s.ex
  exact ⟨A, .cons (A := []) (h _ ⟨A, r⟩) r, nd, hp⟩
theorem Sat.int (s : Sat K H C P L) (i : Int) : Sat K H C P ((.int i, .int i) :: L) := s.add fun _ _ => .int i
theorem Sat.bl (s : Sat K H C P L) (i : Bool) : Sat K H C P ((.bl i, .bl i) :: L) := s.add fun _ _ => .bl i
theorem Sat.non (s : Sat K H C P L) : Sat K H C P ((.non, .non) :: L) := s.add fun _ _ => .non
theorem Sat.str (s : Sat K H C P L) (i : Str) : Sat K H C P ((.str i, .str i) :: L) := s.add fun _ _ => .str i
/-- what a live value is -/
theorem Sat.look (s : Sat K H C P L) (h : (v, t) ∈ L) : ∃ A W, Rep K H W v t A := by
  obtain ⟨A, r, nd, hp⟩ := s.ex
  obtain ⟨i, hi, e⟩ := List.mem_iff_getElem.mp h
  obtain ⟨w, B, h1, h2, h3⟩ := r.at (i := i) (t := t) (by rw [List.getElem?_map, List.getElem?_eq_getElem hi, e]; rfl)
  rw [List.getElem?_map, List.getElem?_eq_getElem hi, e] at h1
  cases h1
  exact ⟨B, _, h2⟩
theorem Sat.copy (s : Sat K H C P L) (h : (v, t) ∈ L) (e : t.sh = true) : Sat K H C P ((v, t) :: L) := by
  refine s.add fun W ⟨A, r⟩ => ?_
  obtain ⟨i, hi, q⟩ := List.mem_iff_getElem.mp h
  obtain ⟨w, B, h1, h2, h3⟩ := r.at (i := i) (t := t) (by rw [List.getElem?_map, List.getElem?_eq_getElem hi, q]; rfl)
  rw [List.getElem?_map, List.getElem?_eq_getElem hi, q] at h1
  cases h1
  rw [h2.sh e] at h2
  exact h2
theorem Sat.frz (s : Sat K H C P ((v, t) :: L)) : Sat K H C P ((v, t.frz) :: L) := by
  obtain ⟨A, r, nd, hp⟩ := s.ex
  cases r with
  | cons a b =>
    rename_i A B
    have sub : ∀ c, c ∈ C ++ B → c ∈ C ++ (A ++ B) := fun c hc => by
      rcases List.mem_append.mp hc with z | z
      · exact List.mem_append_left _ z
      · exact List.mem_append_right _ (List.mem_append_right _ z)
    have dj : ∀ c ∈ A, ¬ c ∈ C ++ B := fun c hc z => by
      have h1 := List.nodup_append.mp nd
      have h2 := List.nodup_append.mp h1.2.1
      rcases List.mem_append.mp z with z | z
      · exact h1.2.2 c z c (List.mem_append_left _ hc) rfl
      · exact h2.2.2 c hc c z rfl
    exact ⟨B, .cons (A := []) (a.frz sub dj) (b.anti sub), nd.sublist ((List.Sublist.refl C).append (List.sublist_append_right A B)), fun q hq => ⟨(hp q hq).1, fun z => (hp q hq).2 (List.mem_append_right _ z)⟩⟩
end
end Tq
end

section
set_option Elab.async false
set_option maxRecDepth 100000
set_option maxHeartbeats 2000000
/-! TLs2: objects made, opened, written, closed. -/
namespace Tq
open PySem PySem.Spec PyProof.Rows L2
section
variable {K : PySem.W.Frag} {H H' : Hp} {C : List Addr} {P : List Pin} {L L' L1 : VT} {v : V} {t : T}
theorem rd_new {p b : Addr} {o u : HO} (hp : H p = none) (r : Rd H b u) : b ≠ p ∧ Rd (upd H p o) b u := by
  have ne : b ≠ p := by
    rintro rfl
    rcases r with r | ⟨_, r⟩ <;> (rw [hp] at r; cases r)
  refine ⟨ne, ?_⟩
  rcases r with r | ⟨z, r⟩
  · exact .inl (by rw [upd_ne ne]; exact r)
  · exact .inr ⟨z, by rw [upd_ne ne]; exact r⟩
theorem kp_new {W W' : Addr → Prop} {A : List Addr} {p : Addr} {o : HO} (hp : H p = none) (h : ∀ b, W' b → W b ∨ b = p) : Kp H (upd H p o) W W' A where
  rd := fun b u r _ => (rd_new hp r).2
  ls := fun b u r _ => by rw [upd_ne (ne_of_none r hp)]; exact r
  tup := fun b vs r => by rw [upd_ne (ne_of_none r hp)]; exact r
  own := fun b u _ e => by rw [upd_ne (ne_of_none e hp)]; exact e
  w := fun b u r n z => by
    rcases h b z with q | q
    · exact n q
    · exact (rd_new (o := o) hp r).1 q
theorem split_map {vs : List V} {ts : List T} {A : List Addr} {W : Addr → Prop} : ∀ {L1 : VT} {A : List Addr}, Reps K H W ((L1 ++ L).map (·.1)) ((L1 ++ L).map (·.2)) A →
    ∃ A1 A2, A = A1 ++ A2 ∧ Reps K H W (L1.map (·.1)) (L1.map (·.2)) A1 ∧ Reps K H W (L.map (·.1)) (L.map (·.2)) A2
  | [], A, r => ⟨[], A, rfl, .nil, r⟩
  | (v, t) :: r, A, h => by
    cases h with
    | cons a b =>
      obtain ⟨A1, A2, e, r1, r2⟩ := split_map (vs := vs) (ts := ts) (A := A) b
      subst e
      exact ⟨_, A2, by rw [List.append_assoc], .cons a r1, r2⟩
theorem p_new {A : List Addr} {p : Addr} {o : HO} (hp : H p = none) (h : ∀ q ∈ P, H q.1 = some q.2 ∧ q.1 ∉ A) : ∀ q ∈ P, upd H p o q.1 = some q.2 ∧ q.1 ∉ A := fun q hq => by
  have h1 := h q hq
  exact ⟨by rw [upd_ne (ne_of_none h1.1 hp)]; exact h1.1, h1.2⟩
/-- a new object that no tree owns -/
theorem Sat.grow (s : Sat K H C P L) {p : Addr} {o : HO} (hp : H p = none) : Sat K (upd H p o) C P L := by
  obtain ⟨A, r, nd, h⟩ := s.ex
  exact ⟨A, r.keep (kp_new hp fun b z => .inl z), nd, p_new hp h⟩
theorem Sat.newTup (s : Sat K H C P (L1 ++ L)) {p : Addr} (hp : H p = none) : Sat K (upd H p (.tup (L1.map (·.1)))) C P ((.ref p, .tup (L1.map (·.2))) :: L) := by
  obtain ⟨A, r, nd, h⟩ := (s.grow (o := .tup (L1.map (·.1))) hp).ex
  obtain ⟨A1, A2, e, r1, r2⟩ := split_map (vs := []) (ts := []) (A := []) r
  subst e
  exact ⟨A1 ++ A2, .cons (.tup upd_same r1) r2, nd, h⟩
/-- .. owned -/
theorem Sat.newO (s : Sat K H C P (L1 ++ L)) {p : Addr} {o : HO} {t : T} (hp : H p = none)
    (h : ∀ (W : Addr → Prop) (A : List Addr), Reps K (upd H p o) W (L1.map (·.1)) (L1.map (·.2)) A → Rep K (upd H p o) W (.ref p) t (p :: A)) (hC : p ∉ C) : Sat K (upd H p o) C P ((.ref p, t) :: L) := by
  obtain ⟨A, r, nd, hP⟩ := s.ex
  obtain ⟨A1, A2, e, r1, r2⟩ := split_map (vs := []) (ts := []) (A := []) r
  subst e
  have hA : p ∉ A1 ++ A2 := by
    intro z
    have all : ∀ (vs : List V) (ts : List T) (B : List Addr) (W : Addr → Prop), Reps K H W vs ts B → ∀ b ∈ B, H b ≠ none := by
      intro vs ts B W q
      refine Reps.rec (H := H) (W := W) (motive_1 := fun _ _ B _ => ∀ b ∈ B, H b ≠ none) (motive_2 := fun _ _ B _ => ∀ b ∈ B, H b ≠ none)
        ?_ ?_ ?_ ?_ ?_ ?_ ?_ ?_ ?_ ?_ ?_ ?_ ?_ ?_ ?_ q
      · intro b hb; cases hb
      · intro _ b hb; cases hb
      · intro _ b hb; cases hb
      · intro _ b hb; cases hb
      · intro _ _ _ _ _ _ ih; exact ih
      · intro a _ _ _ e _ ih b hb
        rcases List.mem_cons.mp hb with rfl | hb
        · rw [e]; exact fun z => nomatch z
        · exact ih b hb
      · intro _ _ _ _ _ _ _ b hb; cases hb
      · intro _ _ _ _ _ _ _ b hb; cases hb
      · intro _ _ _ _ _ _ b hb; cases hb
      · intro a _ _ _ e _ _ ih b hb
        rcases List.mem_cons.mp hb with rfl | hb
        · rw [e]; exact fun z => nomatch z
        · exact ih b hb
      · intro a _ _ _ e _ _ ih b hb
        rcases List.mem_cons.mp hb with rfl | hb
        · rw [e]; exact fun z => nomatch z
        · exact ih b hb
      · intro _ _ _ _ _ _ _ _ b hb; cases hb
      · intro _ _ _ _ _ _ _ _ b hb; cases hb
      · intro b hb; cases hb
      · intro _ _ _ _ _ _ _ _ i1 i2 b hb
        rcases List.mem_append.mp hb with hb | hb
        · exact i1 b hb
        · exact i2 b hb
    exact all _ _ _ _ r p z hp
  have k : ∀ B, Kp H (upd H p o) (fun b => b ∈ C ++ (A1 ++ A2)) (fun b => b ∈ C ++ ((p :: A1) ++ A2)) B := fun B => kp_new hp fun b z => by
    rcases List.mem_append.mp z with z | z
    · exact .inl (List.mem_append_left _ z)
    · rcases List.mem_cons.mp z with z | z
      · exact .inr z
      · exact .inl (List.mem_append_right _ z)
  refine ⟨(p :: A1) ++ A2, .cons (h _ _ (r1.keep (k _))) (r2.keep (k _)), ?_, fun q hq => ?_⟩
  · rw [List.nodup_append] at nd ⊢
    refine ⟨nd.1, List.nodup_cons.mpr ⟨hA, nd.2.1⟩, fun a ha b hb => ?_⟩
    rcases List.mem_cons.mp hb with hb | hb
    · subst hb; exact fun e => hC (e ▸ ha)
    · exact nd.2.2 a ha b hb
  · have h1 := p_new (o := o) hp hP q hq
    refine ⟨h1.1, fun z => ?_⟩
    rcases List.mem_cons.mp z with z | z
    · have h2 := (hP q hq).1
      rw [z, hp] at h2; cases h2
    · exact h1.2 z
/-- the objects held open are there -/
def CH (H : Hp) (C : List Addr) : Prop := ∀ a ∈ C, H a ≠ none
theorem CH.not (h : CH H C) {p : Addr} (hp : H p = none) : p ∉ C := fun z => h p z hp
theorem CH.upd (h : CH H C) {p : Addr} {o : HO} : CH (L2.upd H p o) C := fun a ha => by
  by_cases e : a = p
  · subst e; rw [upd_same]; exact fun z => nomatch z
  · rw [upd_ne e]; exact h a ha
theorem Sat.newLst (s : Sat K H C P (L1 ++ L)) (hc : CH H C) {p : Addr} (hp : H p = none) : Sat K (upd H p (.lst (L1.map (·.1)))) C P ((.ref p, .lst true (L1.map (·.2))) :: L) :=
  s.newO hp (fun _ _ r => .own upd_same r) (hc.not hp)
theorem Sat.newDicK (s : Sat K H C P L) (hc : CH H C) {p : Addr} (hp : H p = none) : Sat K (upd H p (.dK [])) C P ((.ref p, .dic true []) :: L) :=
  Sat.newO (L1 := []) s hp (fun _ A r => by
    have e : A = [] := by
      generalize ha : List.map (fun x : V × T => x.1) [] = a at r
      generalize hb : List.map (fun x : V × T => x.2) [] = b at r
      cases r with
      | nil => rfl
      | cons x y => cases ha
    subst e
    exact .ownK (kv := []) upd_same List.nodup_nil .nil) (hc.not hp)
/-- an owned object is opened -/
theorem Sat.openO (s : Sat K H C P ((v, t) :: L)) {a : Addr} (h : ∀ (W : Addr → Prop) (A : List Addr), Rep K H W v t A → ∃ B, A = a :: B ∧ Reps K H W (L1.map (·.1)) (L1.map (·.2)) B) :
    Sat K H (a :: C) P (L1 ++ L) ∧ (∀ p ∈ P, p.1 ≠ a) ∧ a ∉ C := by
  obtain ⟨A, r, nd, hP⟩ := s.ex
  cases r with
  | cons x y =>
    rename_i A B
    obtain ⟨A, rfl, x⟩ := h _ _ x
    have pm : (C ++ (a :: A ++ B)).Perm (a :: C ++ (A ++ B)) := by
      show (C ++ a :: (A ++ B)).Perm (a :: (C ++ (A ++ B)))
      exact List.perm_middle
    refine ⟨⟨A ++ B, ?_, pm.nodup_iff.mp nd, fun q hq => ⟨(hP q hq).1, fun z => (hP q hq).2 (List.mem_cons_of_mem _ z)⟩⟩, fun q hq e => (hP q hq).2 (e ▸ List.mem_cons_self), fun z => ?_⟩
    · rw [List.map_append, List.map_append]
      exact (x.append y).anti fun b hb => pm.mem_iff.mpr hb
    · exact (List.nodup_append.mp nd).2.2 a z a List.mem_cons_self rfl
/-- .. written -/
theorem Sat.write {a : Addr} {o u : HO} (s : Sat K H (a :: C) P L) (e : H a = some u) (hu : ∀ vs, u ≠ .tup vs) (hP : ∀ p ∈ P, p.1 ≠ a) : Sat K (upd H a o) (a :: C) P L := by
  obtain ⟨A, r, nd, h⟩ := s.ex
  have na : a ∉ A := fun z => (List.nodup_cons.mp nd).1 (List.mem_append_right _ z)
  refine ⟨A, r.keep ⟨fun b u rd n => ?_, fun b vs rd n => by
    have ne : b ≠ a := fun z => n (by rw [z]; exact List.mem_cons_self)
    rw [upd_ne ne]; exact rd, fun b vs rd => ?_, fun b u hb eb => ?_, fun _ _ _ n => n⟩, nd, fun q hq => ⟨by rw [upd_ne (hP q hq)]; exact (h q hq).1, (h q hq).2⟩⟩
  · have ne : b ≠ a := fun z => n (z ▸ List.mem_cons_self)
    rcases rd with rd | ⟨z, rd⟩
    · exact .inl (by rw [upd_ne ne]; exact rd)
    · exact .inr ⟨z, by rw [upd_ne ne]; exact rd⟩
  · have ne : b ≠ a := fun z => by
      rw [z] at rd
      rw [e] at rd; exact hu _ (Option.some.inj rd)
    rw [upd_ne ne]; exact rd
  · have ne : b ≠ a := fun z => na (by rw [← z]; exact hb)
    rw [upd_ne ne]; exact eb
/-- .. closed -/
theorem Sat.closeO {a : Addr} {t : T} (s : Sat K H (a :: C) P (L1 ++ L)) (hP : ∀ p ∈ P, p.1 ≠ a) (h : ∀ (W : Addr → Prop) (A : List Addr), Reps K H W (L1.map (·.1)) (L1.map (·.2)) A → Rep K H W (.ref a) t (a :: A)) : Sat K H C P ((.ref a, t) :: L) := by
  obtain ⟨A, r, nd, hp⟩ := s.ex
  obtain ⟨A1, A2, e, r1, r2⟩ := split_map (vs := []) (ts := []) (A := []) r
  subst e
  have pm : (C ++ (a :: A1 ++ A2)).Perm (a :: C ++ (A1 ++ A2)) := by
    show (C ++ a :: (A1 ++ A2)).Perm (a :: (C ++ (A1 ++ A2)))
    exact List.perm_middle
  refine ⟨a :: A1 ++ A2, .cons (h _ _ (r1.anti fun b hb => pm.mem_iff.mp hb)) (r2.anti fun b hb => pm.mem_iff.mp hb), pm.symm.nodup_iff.mp nd, fun q hq => ⟨(hp q hq).1, fun z => ?_⟩⟩
  rcases List.mem_cons.mp z with z | z
  · exact hP q hq z
  · exact (hp q hq).2 z
/-- .. let go -/
theorem Sat.let {a : Addr} (s : Sat K H (a :: C) P L) : Sat K H C P L := by
  obtain ⟨A, r, nd, hp⟩ := s.ex
  exact ⟨A, r.anti fun b hb => List.mem_cons_of_mem _ hb, (List.nodup_cons.mp nd).2, hp⟩
theorem reps_pair {W : Addr → Prop} : ∀ {vs : List V} {ts : List T} {A : List Addr}, Reps K H W vs ts A → ∃ L1 : VT, L1.map (·.1) = vs ∧ L1.map (·.2) = ts
  | _, _, _, .nil => ⟨[], rfl, rfl⟩
  | _, _, _, .cons (v := v) (t := t) _ b => by
    obtain ⟨L1, h1, h2⟩ := reps_pair b
    exact ⟨(v, t) :: L1, by rw [List.map_cons, h1], by rw [List.map_cons, h2]⟩
theorem Sat.openL {xs : List T} (s : Sat K H C P ((v, .lst true xs) :: L)) : ∃ a L1, v = .ref a ∧ L1.map (·.2) = xs ∧ H a = some (.lst (L1.map (·.1))) ∧ Sat K H (a :: C) P (L1 ++ L) ∧ (∀ p ∈ P, p.1 ≠ a) ∧ a ∉ C := by
  obtain ⟨A, W, r⟩ := s.look List.mem_cons_self
  cases r with
  | own h r =>
    rename_i a vs A
    obtain ⟨L1, e1, e2⟩ := reps_pair r
    refine ⟨a, L1, rfl, e2, by rw [e1]; exact h, s.openO fun W A r => ?_⟩
    cases r with
    | own h' r' =>
      rw [h] at h'; cases h'
      exact ⟨_, rfl, by rw [e1, e2]; exact r'⟩
theorem Sat.closeL {a : Addr} (s : Sat K H (a :: C) P (L1 ++ L)) (e : H a = some (.lst (L1.map (·.1)))) (hP : ∀ p ∈ P, p.1 ≠ a) : Sat K H C P ((.ref a, .lst true (L1.map (·.2))) :: L) :=
  s.closeO hP fun _ _ r => .own e r
theorem Sat.unTup {xs : List T} (s : Sat K H C P ((v, .tup xs) :: L)) : ∃ a L1, v = .ref a ∧ L1.map (·.2) = xs ∧ H a = some (.tup (L1.map (·.1))) ∧ Sat K H C P (L1 ++ L) := by
  obtain ⟨A, r, nd, hP⟩ := s.ex
  cases r with
  | cons x y =>
    cases x with
    | tup h q =>
      obtain ⟨L1, e1, e2⟩ := reps_pair q
      refine ⟨_, L1, rfl, e2, by rw [e1]; exact h, _, ?_, nd, hP⟩
      rw [List.map_append, List.map_append, e1, e2]
      exact q.append y
/-- a list or a tuple that is looked at -/
def Sq (H : Hp) (t : T) (a : Addr) (vs : List V) : Prop := match t with
  | .tup _ => H a = some (.tup vs)
  | .lst _ _ => H a = some (.lst vs)
  | _ => False
/-- a live value within the whole -/
theorem Sat.at (s : Sat K H C P L) (h : (v, t) ∈ L) : ∃ A B, Reps K H (fun b => b ∈ C ++ A) (L.map (·.1)) (L.map (·.2)) A ∧ (C ++ A).Nodup ∧ (∀ p ∈ P, H p.1 = some p.2 ∧ p.1 ∉ A) ∧ Rep K H (fun b => b ∈ C ++ A) v t B := by
  obtain ⟨A, r, nd, hP⟩ := s.ex
  obtain ⟨i, hi, q⟩ := List.mem_iff_getElem.mp h
  obtain ⟨w, B, h1, h2, h3⟩ := r.at (i := i) (t := t) (by rw [List.getElem?_map, List.getElem?_eq_getElem hi, q]; rfl)
  rw [List.getElem?_map, List.getElem?_eq_getElem hi, q] at h1
  cases h1
  exact ⟨A, B, r, nd, hP, h2⟩
theorem rep_seq {W : Addr → Prop} {B : List Addr} (r : Rep K H W v t B) {xs : List T} (e : seqOf t = some xs) : ∃ a vs B', v = .ref a ∧ Sq H t a vs ∧ Reps K H W vs xs B' := by
  cases r with
  | tup h q => cases e; exact ⟨_, _, _, rfl, h, q⟩
  | own h q => cases e; exact ⟨_, _, _, rfl, h, q⟩
  | lst h _ q => cases e; exact ⟨_, _, _, rfl, h, q⟩
  | _ => cases e
theorem Sat.seq (s : Sat K H C P L) (h : (v, t) ∈ L) {xs : List T} (e : seqOf t = some xs) :
    ∃ (a : Addr) (L1 : VT), v = .ref a ∧ L1.map (·.2) = xs ∧ Sq H t a (L1.map (·.1)) ∧ ∀ p ∈ L1, p.2.sh = true → Sat K H C P (p :: L) := by
  obtain ⟨A, B, r, nd, hP, q⟩ := s.at h
  obtain ⟨a, vs, B', rfl, h1, rr⟩ := rep_seq q e
  obtain ⟨L1, e1, e2⟩ := reps_pair rr
  refine ⟨a, L1, rfl, e2, by rw [e1]; exact h1, fun p hp hs => ?_⟩
  obtain ⟨j, hj, ej⟩ := List.mem_iff_getElem.mp hp
  obtain ⟨w, B', g1, g2, g3⟩ := rr.at (i := j) (t := p.2) (by rw [← e2, List.getElem?_map, List.getElem?_eq_getElem hj, ej]; rfl)
  rw [← e1, List.getElem?_map, List.getElem?_eq_getElem hj, ej] at g1
  cases g1
  rw [g2.sh hs] at g2
  exact ⟨A, .cons (A := []) g2 r, nd, hP⟩
/-- all its items, shared ones -/
theorem Sat.seqs (s : Sat K H C P L) (h : (v, t) ∈ L) {xs : List T} (e : seqOf t = some xs) (hs : shL xs = true) :
    ∃ (a : Addr) (L1 : VT), v = .ref a ∧ L1.map (·.2) = xs ∧ Sq H t a (L1.map (·.1)) ∧ Sat K H C P (L1 ++ L) := by
  obtain ⟨A, B, r, nd, hP, q⟩ := s.at h
  obtain ⟨a, vs, B', rfl, h1, rr⟩ := rep_seq q e
  obtain ⟨L1, e1, e2⟩ := reps_pair rr
  rw [rr.sh hs] at rr
  refine ⟨a, L1, rfl, e2, by rw [e1]; exact h1, A, ?_, nd, hP⟩
  rw [List.map_append, List.map_append, e1, e2]
  exact rr.append r
end
end Tq
end

section
set_option Elab.async false
set_option maxRecDepth 100000
set_option maxHeartbeats 2000000
/-! TLs3: slots, the state, the judgements. -/
namespace Tq
open PySem PySem.Spec PyProof.Rows L2

theorem gt_get : ∀ (ε : Env) (i : Nat), gt ε i = (ε[i]?).join
  | [], _ => rfl
  | x :: _, 0 => rfl
  | _ :: r, n + 1 => by rw [gt, gt_get r n]; simp
theorem st_set : ∀ (ε : Env) (i : Nat) (v : Option T), st ε i v = ε.set i v
  | [], _, _ => rfl
  | x :: _, 0, _ => rfl
  | _ :: r, n + 1, v => by rw [st, st_set r n v]; rfl
theorem gt_st_same : ∀ {ε : Env} {i : Nat} {v : Option T}, i < ε.length → gt (st ε i v) i = v
  | _ :: _, 0, _, _ => rfl
  | _ :: r, n + 1, v, h => gt_st_same (ε := r) (i := n) (by simpa using h)
theorem gt_st_ne : ∀ {ε : Env} {i j : Nat} {v : Option T}, j ≠ i → gt (st ε i v) j = gt ε j
  | [], _, _, _, _ => rfl
  | _ :: _, 0, 0, _, h => absurd rfl h
  | _ :: _, 0, j + 1, _, _ => rfl
  | _ :: _, i + 1, 0, _, _ => rfl
  | _ :: r, i + 1, j + 1, v, h => gt_st_ne (ε := r) (i := i) (j := j) (by omega)
theorem gt_lt : ∀ {ε : Env} {i : Nat} {t : T}, gt ε i = some t → i < ε.length
  | [], _, _, h => nomatch h
  | _ :: _, 0, _, _ => by simp
  | _ :: r, i + 1, t, h => by have := gt_lt (ε := r) (i := i) h; simp; exact this
theorem st_st : ∀ {ε : Env} {i : Nat} {u v : Option T}, st (st ε i u) i v = st ε i v
  | [], _, _, _ => rfl
  | _ :: _, 0, _, _ => rfl
  | _ :: r, i + 1, u, v => by simp [st, st_st (ε := r) (i := i)]
theorem st_none : ∀ {ε : Env} {i : Nat}, gt ε i = none → st ε i none = ε
  | [], _, _ => rfl
  | x :: _, 0, h => by simp [gt] at h; subst h; rfl
  | _ :: r, i + 1, h => by simp [gt] at h; simp [st, st_none h]
theorem st_self : ∀ {ε : Env} {i : Nat}, i < ε.length → st ε i (gt ε i) = ε
  | [], _, h => by simp at h
  | x :: _, 0, h => rfl
  | _ :: r, i + 1, h => by simp [st, gt, st_self (ε := r) (i := i) (by simpa using h)]

/-- the slots' live values -/
def slots : L2.St → Env → VT
  | some v :: σ, some t :: ε => (v, t) :: slots σ ε
  | _ :: σ, _ :: ε => slots σ ε
  | _, _ => []
structure Al (σ : L2.St) (ε : Env) : Prop where
  len : ε.length = σ.length
  has : ∀ i t, gt ε i = some t → ∃ v, σ[i]? = some (some v)
theorem Al.tail {x : Option V} {y : Option T} {σ : L2.St} {ε : Env} (a : Al (x :: σ) (y :: ε)) : Al σ ε :=
  ⟨by simpa using a.len, fun i t e => by simpa using a.has (i + 1) t e⟩
theorem Al.none {σ : L2.St} {ε : Env} (a : Al σ ε) (i : Nat) : Al σ (st ε i none) := ⟨by rw [st_length]; exact a.len, fun j t e => by
  by_cases h : j = i
  · subst h
    by_cases hl : j < ε.length
    · rw [gt_st_same hl] at e; cases e
    · have := gt_lt e; rw [st_length] at this; exact absurd this hl
  · rw [gt_st_ne h] at e; exact a.has j t e⟩
/-- a slot's value is taken out -/
theorem slots_take : ∀ {σ : L2.St} {ε : Env} {i : Nat} {t : T}, Al σ ε → gt ε i = some t → ∃ v, σ[i]? = some (some v) ∧ (slots σ ε).Perm ((v, t) :: slots σ (st ε i none))
  | [], [], _, _, _, e => nomatch e
  | [], _ :: _, _, _, a, _ => by have := a.len; simp at this
  | _ :: _, [], _, _, _, e => nomatch e
  | x :: σ, y :: ε, 0, t, a, e => by
    simp [gt] at e; subst e
    obtain ⟨v, h⟩ := a.has 0 t rfl
    simp at h; subst h
    exact ⟨v, rfl, .refl _⟩
  | x :: σ, y :: ε, i + 1, t, a, e => by
    obtain ⟨v, h1, h2⟩ := slots_take (σ := σ) (ε := ε) (i := i) a.tail e
    refine ⟨v, by simpa using h1, ?_⟩
    cases x with
    | none => exact h2
    | some w =>
      cases y with
      | none => exact h2
      | some u => exact (h2.cons _).trans (.swap _ _ _)
/-- and put back, the slot's value being the same object -/
theorem slots_fill : ∀ {σ : L2.St} {ε : Env} {i : Nat} {t : T} {v : V}, Al σ ε → σ[i]? = some (some v) → Al σ (st ε i (some t)) ∧ (slots σ (st ε i (some t))).Perm ((v, t) :: slots σ (st ε i none))
  | [], _, _, _, _, _, e => by simp at e
  | _ :: _, [], _, _, _, a, _ => by have := a.len; simp at this
  | x :: σ, y :: ε, 0, t, v, a, e => by
    simp at e; subst e
    refine ⟨⟨by simpa [st] using a.len, fun i u h => ?_⟩, .refl _⟩
    cases i with
    | zero => exact ⟨v, rfl⟩
    | succ i => simpa using a.tail.has i u h
  | x :: σ, y :: ε, i + 1, t, v, a, e => by
    obtain ⟨h1, h2⟩ := slots_fill (σ := σ) (ε := ε) (i := i) (t := t) a.tail (by simpa using e)
    refine ⟨⟨by simp [st]; rw [h1.len], fun j u h => ?_⟩, ?_⟩
    · cases j with
      | zero => simpa using a.has 0 u h
      | succ j => simpa using h1.has j u h
    · cases x with
      | none => exact h2
      | some w =>
        cases y with
        | none => exact h2
        | some u => exact (h2.cons _).trans (.swap _ _ _)
/-- a slot is stored to -/
theorem slots_put {σ : L2.St} {ε : Env} {i : Nat} {t : T} {v : V} (a : Al σ ε) (h : i < ε.length) : Al (σ.set i (some v)) (st ε i (some t)) ∧ (slots (σ.set i (some v)) (st ε i (some t))).Perm ((v, t) :: slots σ (st ε i none)) := by
  have hs : i < σ.length := by rw [← a.len]; exact h
  have key : ∀ (σ : L2.St) (ε : Env) (i : Nat), slots (σ.set i (some v)) (st ε i none) = slots σ (st ε i none) := by
    intro σ
    induction σ with
    | nil => intro ε i; rfl
    | cons x σ ih =>
      intro ε i
      cases ε with
      | nil => cases i <;> cases x <;> rfl
      | cons y ε =>
        cases i with
        | zero => cases x <;> rfl
        | succ i =>
          have := ih ε i
          cases x <;> cases y <;> simp [slots, st, this]
  have a' : Al (σ.set i (some v)) (st ε i none) := by
    refine ⟨by rw [List.length_set, st_length]; exact a.len, fun j u e => ?_⟩
    have hj : j ≠ i := by
      rintro rfl
      rw [gt_st_same h] at e; cases e
    rw [gt_st_ne hj] at e
    obtain ⟨w, hw⟩ := a.has j u e
    exact ⟨w, by rw [List.getElem?_set_ne (Ne.symm hj)]; exact hw⟩
  obtain ⟨h1, h2⟩ := slots_fill (t := t) (v := v) a' (List.getElem?_set_self hs)
  rw [st_st] at h1 h2
  rw [st_st, key] at h2
  exact ⟨h1, h2⟩

structure Fr where
  C : List Addr
  P : List Pin
  R : VT
/-- the state: slots' trees, the frame around -/
structure SR (K : PySem.W.Frag) (σ : L2.St) (ε : Env) (F : Fr) (H : Hp) : Prop where
  al : Al σ ε
  ch : CH H F.C
  sat : Sat K H F.C F.P (F.R ++ slots σ ε)
/-- a further value on top -/
def Fr.push (F : Fr) (p : V × T) : Fr := ⟨F.C, F.P, p :: F.R⟩
def Fr.pushs (F : Fr) (ps : VT) : Fr := ⟨F.C, F.P, ps ++ F.R⟩
section
variable {K : PySem.W.Frag} {σ : L2.St} {ε ε' : Env} {F : Fr} {H H' : Hp} {v : V} {t : T} {i : Nat}
theorem SR.pop (s : SR K σ ε (F.push (v, t)) H) : SR K σ ε F H := ⟨s.al, s.ch, s.sat.drop⟩
theorem SR.int (s : SR K σ ε F H) (i : Int) : SR K σ ε (F.push (.int i, .int i)) H := ⟨s.al, s.ch, s.sat.int i⟩
theorem SR.bl (s : SR K σ ε F H) (i : Bool) : SR K σ ε (F.push (.bl i, .bl i)) H := ⟨s.al, s.ch, s.sat.bl i⟩
theorem SR.str (s : SR K σ ε F H) (i : Str) : SR K σ ε (F.push (.str i, .str i)) H := ⟨s.al, s.ch, s.sat.str i⟩
theorem SR.non (s : SR K σ ε F H) : SR K σ ε (F.push (.non, .non)) H := ⟨s.al, s.ch, s.sat.non⟩
theorem SR.mem (s : SR K σ ε F H) (e : gt ε i = some t) : ∃ v, σ[i]? = some (some v) ∧ (v, t) ∈ F.R ++ slots σ ε := by
  obtain ⟨v, h1, h2⟩ := slots_take s.al e
  exact ⟨v, h1, List.mem_append_right _ (h2.mem_iff.mpr List.mem_cons_self)⟩
/-- moved out of the slot, onto the top -/
theorem SR.take (s : SR K σ ε F H) (e : gt ε i = some t) : ∃ v, σ[i]? = some (some v) ∧ SR K σ (st ε i none) (F.push (v, t)) H := by
  obtain ⟨v, h1, h2⟩ := slots_take s.al e
  refine ⟨v, h1, s.al.none i, s.ch, s.sat.perm ((h2.append_left F.R).trans ?_)⟩
  exact List.perm_middle
/-- and back -/
theorem SR.fill (s : SR K σ ε (F.push (v, t)) H) (e : σ[i]? = some (some v)) : SR K σ (st ε i (some t)) F H := by
  obtain ⟨h1, h2⟩ := slots_fill (t := t) s.al e
  refine ⟨h1, s.ch, ?_⟩
  have hd : Sat K H F.C F.P ((v, t) :: F.R ++ slots σ (st ε i none)) := by
    cases g : gt ε i with
    | none => rw [st_none g]; exact s.sat
    | some u =>
      obtain ⟨w, _, p⟩ := slots_take s.al g
      have q := s.sat.perm (p.append_left ((v, t) :: F.R))
      exact (q.perm List.perm_middle).drop
  exact hd.perm ((List.perm_middle.symm).trans (h2.symm.append_left F.R))
/-- stored -/
theorem SR.put (s : SR K σ ε (F.push (v, t)) H) (e : i < ε.length) : SR K (σ.set i (some v)) (st ε i (some t)) F H := by
  obtain ⟨h1, h2⟩ := slots_put (t := t) (v := v) s.al e
  refine ⟨h1, s.ch, ?_⟩
  have hd : Sat K H F.C F.P ((v, t) :: F.R ++ slots σ (st ε i none)) := by
    cases g : gt ε i with
    | none => rw [st_none g]; exact s.sat
    | some u =>
      obtain ⟨w, _, p⟩ := slots_take s.al g
      have q := s.sat.perm (p.append_left ((v, t) :: F.R))
      exact (q.perm List.perm_middle).drop
  exact hd.perm ((List.perm_middle.symm).trans (h2.symm.append_left F.R))
theorem SR.copy (s : SR K σ ε F H) (e : gt ε i = some t) (h : t.sh = true) : ∃ v, σ[i]? = some (some v) ∧ SR K σ ε (F.push (v, t)) H := by
  obtain ⟨v, h1, h2⟩ := s.mem e
  exact ⟨v, h1, s.al, s.ch, s.sat.copy h2 h⟩
/-- a slot's value, as var tells it -/
theorem SR.var (s : SR K σ ε F H) (e : gt ε i = some t) : ∃ v, σ[i]? = some (some v) ∧ SR K σ (if t.sh then ε else st ε i none) (F.push (v, t)) H := by
  by_cases h : t.sh = true
  · rw [if_pos h]; exact s.copy e h
  · rw [if_neg h]; exact s.take e
end
end Tq
end

section
set_option Elab.async false
set_option maxRecDepth 100000
set_option maxHeartbeats 2000000
/-! TLs4: the judgements of the layer with the evaluator's meaning. -/
namespace Tq
open PySem PySem.Spec PyProof.Rows L2
section
variable {X : Cx} {e : Expr} {st : Stmt}
theorem pe_imp {t t' : TE} (h : PE X e t) (k : ∀ σ H Q, t' σ H Q → t σ H Q) : PE X e t' := ⟨fun pins s σ H Q I w => h.run pins s σ H Q I (k σ H Q w)⟩
theorem pt_imp {t t' : TT} (h : PT X e t) (k : ∀ σ H Q, t' σ H Q → t σ H Q) : PT X e t' := ⟨fun pins s σ H Q I w => h.run pins s σ H Q I (k σ H Q w)⟩
theorem pw_imp {t t' : TT} (h : PW X e t) (k : ∀ σ H Q, t' σ H Q → t σ H Q) : PW X e t' := ⟨fun wh pins s σ H Q I w => h.run wh pins s σ H Q I (k σ H Q w)⟩
theorem pa_imp {es : List Expr} {t t' : TA} (h : PA X es t) (k : ∀ σ H Q, t' σ H Q → t σ H Q) : PA X es t' := ⟨fun p pins s σ H Q I w => h.run p pins s σ H Q I (k σ H Q w)⟩
theorem pk_imp {es : List Keyword} {t t' : TA} (h : PK X es t) (k : ∀ σ H Q, t' σ H Q → t σ H Q) : PK X es t' := ⟨fun p pins s σ H Q I w => h.run p pins s σ H Q I (k σ H Q w)⟩
theorem ps_imp {t t' : TS} (h : PS X st t) (k : ∀ D σ H, t' D σ H → t D σ H) : PS X st t' := ⟨fun pins s σ H D I w => h.run pins s σ H D I (k D σ H w)⟩
theorem pss_imp {sts : List Stmt} {t t' : TS} (h : PSs X sts t) (k : ∀ D σ H, t' D σ H → t D σ H) : PSs X sts t' := ⟨fun pins s σ H D I w => h.run pins s σ H D I (k D σ H w)⟩
theorem pg_imp {t t' : TG} (h : PG X e t) (k : ∀ v σ H Q, t' v σ H Q → t v σ H Q) : PG X e t' := ⟨fun pins s σ H v u Q I r w => h.run pins s σ H v u Q I r (k v σ H Q w)⟩
theorem pi_imp {it : Expr} {t t' : TI} (h : PI X e it t) (k : ∀ σ H Q, t' σ H Q → t σ H Q) : PI X e it t' := ⟨fun pins s σ H Q I w => h.run pins s σ H Q I (k σ H Q w)⟩
theorem pe_or2 {t t' : TE} (h : PE X e t) (h' : PE X e t') : PE X e (fun σ H Q => t σ H Q ∨ t' σ H Q) := ⟨fun pins s σ H Q I w => w.elim (h.run pins s σ H Q I) (h'.run pins s σ H Q I)⟩
theorem ps_or2 {t t' : TS} (h : PS X st t) (h' : PS X st t') : PS X st (fun D σ H => t D σ H ∨ t' D σ H) := ⟨fun pins s σ H D I w => w.elim (h.run pins s σ H D I) (h'.run pins s σ H D I)⟩
end

/-- an expression evaluates as f tells -/
def tE (K : PySem.W.Frag) (f : Env → R T) : TE := fun σ H Q => ∃ ε F t ε', SR K σ ε F H ∧ f ε = .ok t ε' ∧ ∀ v H', SR K σ ε' (F.push (v, t)) H' → Q v H'
def tT (K : PySem.W.Frag) (f : Env → R Bool) : TT := fun σ H Q => ∃ ε F b ε', SR K σ ε F H ∧ f ε = .ok b ε' ∧ ∀ H', SR K σ ε' F H' → Q b H'
/-- an operand stays in its slot, or stands on top -/
def Fr.op (F : Fr) (v : V) : Op → Fr
  | .t t => F.push (v, t)
  | .s _ => F
def OpOk (σ : L2.St) (v : V) : Op → Prop
  | .t _ => True
  | .s i => σ[i]? = some (some v)
def tO (K : PySem.W.Frag) (f : Env → R Op) : TE := fun σ H Q => ∃ ε F x ε', SR K σ ε F H ∧ f ε = .ok x ε' ∧ ∀ v H', SR K σ ε' (F.op v x) H' → OpOk σ v x → Q v H'

section
variable {K : PySem.W.Frag} {σ : L2.St} {ε ε' : Env} {F : Fr} {H H' : Hp} {v w : V} {t u : T} {i : Nat} {x y : Op}
theorem bnd_inv {α β : Type} {r : R α} {f : α → Env → R β} {b : β} {ε' : Env} (h : bnd r f = .ok b ε') : ∃ a ε1, r = .ok a ε1 ∧ f a ε1 = .ok b ε' := by
  cases r with
  | ok a ε1 => exact ⟨a, ε1, rfl, h⟩
  | ex x ε1 => cases h
  | no => cases h
theorem ofO_inv {α : Type} {o : Option α} {a : α} {ε ε' : Env} (h : ofO o ε = .ok a ε') : o = some a ∧ ε' = ε := by
  cases o with
  | none => cases h
  | some b => cases h; exact ⟨rfl, rfl⟩
theorem SR.live (s : SR K σ ε F H) (hx : pk ε x = some t) (ok : OpOk σ v x) (h : ∀ t', x = .t t' → (v, t') ∈ F.R) : (v, t) ∈ F.R ++ slots σ ε := by
  cases x with
  | t t' => cases hx; exact List.mem_append_left _ (h _ rfl)
  | s i =>
    obtain ⟨w, h1, h2⟩ := s.mem (i := i) hx
    have : σ[i]? = some (some v) := ok
    rw [this] at h1; cases h1
    exact h2
theorem Fr.op_mem (F : Fr) {t : T} (h : x = .t t) : (v, t) ∈ (F.op v x).R := by subst h; exact List.mem_cons_self
theorem Fr.op_sub (F : Fr) {p : V × T} (h : p ∈ F.R) : p ∈ (F.op v x).R := by
  cases x with
  | t _ => exact List.mem_cons_of_mem _ h
  | s _ => exact h
theorem Fr.op_C (F : Fr) : (F.op v x).C = F.C := by cases x <;> rfl
theorem Fr.op_P (F : Fr) : (F.op v x).P = F.P := by cases x <;> rfl
/-- what lies beneath the top is dropped -/
theorem SR.under {p : V × T} (s : SR K σ ε ((F.op v x).push p) H) : SR K σ ε (F.push p) H := by
  cases x with
  | s _ => exact s
  | t t =>
    refine ⟨s.al, s.ch, ?_⟩
    have q : Sat K H F.C F.P (p :: (v, t) :: (F.R ++ slots σ ε)) := s.sat
    exact (q.perm (.swap _ _ _)).drop
theorem SR.over (s : SR K σ ε (F.op v x) H) : SR K σ ε F H := by
  cases x with
  | s _ => exact s
  | t t => exact s.pop
end

/-! ### rules by values, the operands being looked at -/
section
variable (K : PySem.W.Frag)
structure RU (g : T → Option T) (r : V → Hp → VK → Prop) : Prop where
  run : ∀ {H : Hp} {C : List Addr} {P : List Pin} {L : VT} {v : V} {t u : T} {Q : VK}, Sat K H C P L → CH H C → (v, t) ∈ L → g t = some u →
  (∀ z H', Sat K H' C P ((z, u) :: L) → CH H' C → Q z H') → r v H Q
structure RO2 (g : T → T → Option T) (r : V → V → Hp → VK → Prop) : Prop where
  run : ∀ {H : Hp} {C : List Addr} {P : List Pin} {L : VT} {v w : V} {t u z : T} {Q : VK}, Sat K H C P L → CH H C → (v, t) ∈ L → (w, u) ∈ L → g t u = some z →
  (∀ y H', Sat K H' C P ((y, z) :: L) → CH H' C → Q y H') → r v w H Q
end
section
variable {X : Cx} {a b : Expr} {pos : Pos} {ir jr : E} {f f' : Env → R T} {g : T → Option T} {g2 : T → T → Option T}
theorem SR.make {K : PySem.W.Frag} {σ : L2.St} {ε : Env} {F : Fr} {H : Hp} {p : V × T} (al : Al σ ε) (s : Sat K H F.C F.P (p :: (F.R ++ slots σ ε))) (c : CH H F.C) : SR K σ ε (F.push p) H := ⟨al, c, s⟩
theorem tO_val (h : PE X a (tE X.K f)) (hp : ∀ i, ir ≠ .pl i) : PE X a (tO X.K (asO ir f)) := pe_imp h fun σ H Q ⟨ε, F, x, ε', s, e, k⟩ => by
  have e' : bnd (f ε) (fun t ε' => .ok (.t t) ε') = .ok x ε' := by
    unfold asO at e
    split at e
    · exact absurd rfl (hp _)
    · exact e
  obtain ⟨t, ε1, h1, h2⟩ := bnd_inv e'
  cases h2
  exact ⟨ε, F, t, _, s, h1, fun v H' s' => k v H' s' trivial⟩
theorem tO_pl {i : Nat} (h : PE X a (tVar i)) : PE X a (tO X.K (asO (.pl i) f)) := pe_imp h fun σ H Q ⟨ε, F, x, ε', s, e, k⟩ => by
  have e' : (match gt ε i with | some _ => R.ok (Op.s i) ε | none => .no) = .ok x ε' := e
  cases g : gt ε i with
  | none => rw [g] at e'; cases e'
  | some t =>
    rw [g] at e'; cases e'
    obtain ⟨v, h1, _⟩ := s.mem g
    exact ⟨v, h1, k v H s h1⟩
theorem pe_un' {op : UnaryOp} {r : V → Hp → VK → Prop} (ha : PE X a (tO X.K (asO ir f))) (hr : UnR X (unaryOp op) r) (hg : RU X.K g r) : PE X (.UnaryOp op a pos) (tE X.K (un ir f g)) :=
  pe_imp (pe_un hr ha) fun σ H Q ⟨ε, F, t, ε', s, e, k⟩ => by
    obtain ⟨x, ε1, h1, h2⟩ := bnd_inv e
    cases hx : pk ε1 x with
    | none => simp [hx] at h2
    | some t0 =>
      simp only [hx] at h2
      obtain ⟨q2, rfl⟩ := ofO_inv h2
      refine ⟨ε, F, x, _, s, h1, fun v H' s' ok => ?_⟩
      exact hg.run s'.sat s'.ch (s'.live hx ok fun t' q => F.op_mem q) q2 fun z H'' s2 c2 => k z H'' (SR.under (v := v) (x := x) (SR.make s'.al s2 c2))
/-- two operands, looked at -/
theorem two_look {ε ε' : Env} {t : T} {h : Bool → Bool → T → T → Option T} (e : two ir jr f f' h ε = .ok t ε') :
    ∃ x ε1 y t1 t2, asO ir f ε = .ok x ε1 ∧ asO jr f' ε1 = .ok y ε' ∧ pk ε' x = some t1 ∧ pk ε' y = some t2 ∧ h x.isS y.isS t1 t2 = some t := by
  obtain ⟨x, ε1, h1, h2⟩ := bnd_inv e
  obtain ⟨y, ε2, h3, h4⟩ := bnd_inv h2
  cases hx : pk ε2 x with
  | none => simp [hx] at h4
  | some t1 =>
    cases hy : pk ε2 y with
    | none => simp [hx, hy] at h4
    | some t2 =>
      simp only [hx, hy] at h4
      obtain ⟨q4, rfl⟩ := ofO_inv h4
      exact ⟨x, ε1, y, t1, t2, h1, h3, hx, hy, q4⟩
theorem read2 {r : V → V → Hp → VK → Prop} (hg : RO2 X.K g2 r) {σ : L2.St} {H : Hp} {Q : VK} (h : tE X.K (two ir jr f f' fun _ _ => g2) σ H Q) : tOp r (tO X.K (asO ir f)) (tO X.K (asO jr f')) σ H Q := by
  obtain ⟨ε, F, t, ε', s, e, k⟩ := h
  obtain ⟨x, ε1, y, t1, t2, h1, h3, hx, hy, h4⟩ := two_look e
  refine ⟨ε, F, x, ε1, s, h1, fun v H1 s1 ok1 => ⟨ε1, F.op v x, y, ε', s1, h3, fun w H2 s2 ok2 => ?_⟩⟩
  refine hg.run s2.sat s2.ch (s2.live hx ok1 fun t' q => Fr.op_sub _ (F.op_mem q)) (s2.live hy ok2 fun t' q => Fr.op_mem _ q) h4 fun z H'' s3 c3 => k z H'' ?_
  have q : SR X.K σ ε' (((F.op v x).op w y).push (z, t)) H'' := SR.make s2.al s3 c3
  exact (q.under).under
theorem pe_op2' {op : Operator} {r : V → V → Hp → VK → Prop} (ha : PE X a (tO X.K (asO ir f))) (hb : PE X b (tO X.K (asO jr f'))) (hr : OpR X (binaryOp op) r) (hg : RO2 X.K g2 r) : PE X (.BinOp a op b pos) (tE X.K (two ir jr f f' fun _ _ => g2)) :=
  pe_imp (pe_op hr ha hb) fun _ _ _ h => read2 hg h
theorem pe_cmp' {op : CmpOp} {r : V → V → Hp → VK → Prop} (ha : PE X a (tO X.K (asO ir f))) (hb : PE X b (tO X.K (asO jr f'))) (hr : OpR X (compareOp op) r) (hg : RO2 X.K g2 r) (hm : behindInMarks op b = false) :
    PE X (.Compare a [op] [b] pos) (tE X.K (two ir jr f f' fun _ _ => g2)) := pe_imp (pe_cmpR hr ha hb hm) fun _ _ _ h => read2 hg h
end
end Tq
end

section
set_option Elab.async false
set_option maxRecDepth 100000
set_option maxHeartbeats 2000000
/-! TLs5: operators by values. -/
namespace Tq
open PySem PySem.Spec PyProof.Rows L2
section
variable {K : PySem.W.Frag} {σ : L2.St} {ε ε' : Env} {F : Fr} {H H' : Hp} {C : List Addr} {P : List Pin} {L : VT} {v w : V} {t u : T} {x y : Op}
theorem Sat.isInt (s : Sat K H C P L) {i : Int} (h : (v, .int i) ∈ L) : v = .int i := by obtain ⟨A, W, r⟩ := s.look h; cases r; rfl
theorem Sat.isBl (s : Sat K H C P L) {i : Bool} (h : (v, .bl i) ∈ L) : v = .bl i := by obtain ⟨A, W, r⟩ := s.look h; cases r; rfl
theorem Sat.isStr (s : Sat K H C P L) {i : Str} (h : (v, .str i) ∈ L) : v = .str i := by obtain ⟨A, W, r⟩ := s.look h; cases r; rfl
theorem Sat.isNon (s : Sat K H C P L) (h : (v, .non) ∈ L) : v = .non := by obtain ⟨A, W, r⟩ := s.look h; cases r; rfl

/-- two operands stand; what the operator makes of them -/
structure ROx (K : PySem.W.Frag) (g : Bool → Bool → T → T → Option T) (r : V → V → Hp → VK → Prop) : Prop where
  run : ∀ {σ : L2.St} {ε : Env} {F : Fr} {H : Hp} {v w : V} {x y : Op} {t u z : T} {Q : VK}, SR K σ ε ((F.op v x).op w y) H → OpOk σ v x → OpOk σ w y → pk ε x = some t → pk ε y = some u → g x.isS y.isS t u = some z →
    (∀ q H', SR K σ ε (F.push (q, z)) H' → Q q H') → r v w H Q
theorem ROx.of {g : T → T → Option T} {r : V → V → Hp → VK → Prop} (h : RO2 K g r) : ROx K (fun _ _ => g) r := by
  refine ⟨fun {σ ε F H v w x y t u z Q} s ok1 ok2 hx hy e k => ?_⟩
  refine h.run s.sat s.ch (s.live hx ok1 fun t' q => Fr.op_sub _ (F.op_mem q)) (s.live hy ok2 fun t' q => Fr.op_mem _ q) e fun q H' s' c' => k q H' ?_
  have q' : SR K σ ε (((F.op v x).op w y).push (q, z)) H' := SR.make s.al s' c'
  exact q'.under.under
theorem ROx.imp {g g' : Bool → Bool → T → T → Option T} {r r' : V → V → Hp → VK → Prop} (h : ROx K g r) (k : ∀ a b t u z, g' a b t u = some z → g a b t u = some z) (q : ∀ v w H Q, r v w H Q → r' v w H Q) : ROx K g' r' :=
  ⟨fun s ok1 ok2 hx hy e k' => q _ _ _ _ (h.run s ok1 ok2 hx hy (k _ _ _ _ _ e) k')⟩
theorem ROx.or {g g1 g2 : Bool → Bool → T → T → Option T} {r r' : V → V → Hp → VK → Prop} (h : ROx K g1 r) (h' : ROx K g2 r') (k : ∀ a b t u z, g a b t u = some z → g1 a b t u = some z ∨ g2 a b t u = some z) :
    ROx K g (fun v w H Q => r v w H Q ∨ r' v w H Q) := by
  refine ⟨fun {σ ε F H v w x y t u z Q} s ok1 ok2 hx hy e q => ?_⟩
  rcases k _ _ _ _ _ e with e | e
  · exact .inl (h.run s ok1 ok2 hx hy e q)
  · exact .inr (h'.run s ok1 ok2 hx hy e q)
theorem opr_or {X : Cx} {f : Value → Value → Sem Value} {r r' : V → V → Hp → VK → Prop} (h : OpR X f r) (h' : OpR X f r') : OpR X f (fun v w H Q => r v w H Q ∨ r' v w H Q) := by
  intro pins s σ H x y v u Q I rx ry q
  rcases q with q | q
  · exact h pins s σ H x y v u Q I rx ry q
  · exact h' pins s σ H x y v u Q I rx ry q
def gI (o : Op2) (_ _ : Bool) : T → T → Option T
  | .int i, .int j => opI o i j
  | _, _ => none
theorem rox_int {o : Op2} {Cd : Int → Int → Prop} {g : Int → Int → Int} (h : ∀ i j z, opI o i j = some z → Cd i j ∧ z = .int (g i j)) : ROx K (gI o) (rI Cd fun i j => .int (g i j)) := by
  refine (ROx.of (g := gI o false false) ⟨fun {H C P L v w t u z Q} s c h1 h2 e k => ?_⟩).imp (fun a b t u z e => e) fun _ _ _ _ q => q
  cases t <;> try (cases e; done)
  cases u <;> try (cases e; done)
  rename_i i j
  obtain ⟨hc, rfl⟩ := h i j z e
  exact ⟨i, j, s.isInt h1, s.isInt h2, hc, k _ H (s.int _) c⟩
theorem rox_int0 {o : Op2} {g : Int → Int → Int} (h : ∀ i j z, opI o i j = some z → z = .int (g i j)) : ROx K (gI o) (rI0 fun i j => .int (g i j)) :=
  (rox_int (K := K) (o := o) (Cd := fun _ _ => True) (g := g) fun i j z e => ⟨trivial, h i j z e⟩).imp (fun _ _ _ _ _ e => e) fun _ _ _ _ ⟨i, j, h1, h2, _, h3⟩ => ⟨i, j, h1, h2, h3⟩
/-- an operand's items: moved out of a value on top, copied where they are shared -/
theorem SR.items {p : Op} (s : SR K σ ε (F.op v p) H) (ok : OpOk σ v p) (hx : pk ε p = some t) {xs : List T} (e : seqOf t = some xs) (hs : p.isS = true → shL xs = true) :
    ∃ (a : Addr) (L1 : VT), v = .ref a ∧ L1.map (·.2) = xs ∧ Sq H t a (L1.map (·.1)) ∧ SR K σ ε (F.pushs L1) H := by
  have cp : shL xs = true → ∃ (a : Addr) (L1 : VT), v = .ref a ∧ L1.map (·.2) = xs ∧ Sq H t a (L1.map (·.1)) ∧ SR K σ ε (F.pushs L1) H := fun hs => by
    obtain ⟨a, L1, h1, h2, h3, h4⟩ := s.sat.seqs (s.live hx ok fun t' q => F.op_mem q) e hs
    refine ⟨a, L1, h1, h2, h3, s.al, by have := s.ch; rw [F.op_C] at this; exact this, ?_⟩
    rw [F.op_C, F.op_P] at h4
    cases p with
    | s _ => rw [← List.append_assoc] at h4; exact h4
    | t t' =>
      have q : Sat K H F.C F.P (L1 ++ (v, t') :: (F.R ++ slots σ ε)) := h4
      have q2 := (q.perm List.perm_middle).drop
      rw [← List.append_assoc] at q2
      exact q2
  cases p with
  | s i => exact cp (hs rfl)
  | t t' =>
    have et : t' = t := Option.some.inj hx
    subst et
    cases t' with
    | tup ys =>
      cases e
      obtain ⟨a, L1, h1, h2, h3, h4⟩ := Sat.unTup (L := F.R ++ slots σ ε) s.sat
      exact ⟨a, L1, h1, h2, h3, s.al, s.ch, by rw [← List.append_assoc] at h4; exact h4⟩
    | lst o ys =>
      cases e
      cases o with
      | true =>
        obtain ⟨a, L1, h1, h2, h3, h4, _, _⟩ := Sat.openL (L := F.R ++ slots σ ε) s.sat
        exact ⟨a, L1, h1, h2, h3, s.al, s.ch, by have q := h4.let; rw [← List.append_assoc] at q; exact q⟩
      | false =>
        refine cp ?_
        obtain ⟨A, W, r⟩ := s.sat.look (v := v) (t := .lst false xs) (s.live (x := .t (.lst false xs)) rfl trivial fun t' q => F.op_mem q)
        cases r with
        | lst h n r => exact r.nil_sh rfl
    | _ => cases e
/-- lists put together -/
theorem SR.items2 {ε : Env} {x y : Op} {t u : T} (s : SR K σ ε ((F.op v x).op w y) H) (ok1 : OpOk σ v x) (ok2 : OpOk σ w y) (hx : pk ε x = some t) (hy : pk ε y = some u) {xs ys : List T} (e1 : seqOf t = some xs) (e2 : seqOf u = some ys)
    (h1 : x.isS = true → shL xs = true) (h2 : y.isS = true → shL ys = true) :
    ∃ (a b : Addr) (L1 L2 : VT), v = .ref a ∧ w = .ref b ∧ L1.map (·.2) = xs ∧ L2.map (·.2) = ys ∧ Sq H t a (L1.map (·.1)) ∧ Sq H u b (L2.map (·.1)) ∧ SR K σ ε (F.pushs (L1 ++ L2)) H := by
  obtain ⟨b, L2, rfl, m2, q2, s2⟩ := s.items ok2 hy e2 h2
  have s3 : SR K σ ε ((F.pushs L2).op v x) H := by
    cases x with
    | s _ => exact s2
    | t t' => exact ⟨s2.al, s2.ch, (show Sat K H F.C F.P (L2 ++ (v, t') :: F.R ++ slots σ ε) from s2.sat).perm (by
        rw [List.append_assoc]
        exact List.perm_middle.trans (by show (((v, t') :: (L2 ++ (F.R ++ slots σ ε)))).Perm ((v, t') :: (L2 ++ F.R) ++ slots σ ε); rw [List.cons_append, List.append_assoc])) ⟩
  obtain ⟨a, L1, rfl, m1, q1, s4⟩ := s3.items ok1 hx e1 h1
  refine ⟨a, b, L1, L2, rfl, rfl, m1, m2, q1, q2, s4.al, s4.ch, ?_⟩
  have q : Sat K H F.C F.P ((L1 ++ (L2 ++ F.R)) ++ slots σ ε) := s4.sat
  rw [← List.append_assoc L1 L2 F.R] at q
  exact q
def gL (_ _ : Bool) : T → T → Option T
  | _, _ => none
def gCat (sx sy : Bool) : T → T → Option T
  | .lst _ xs, .lst _ ys => (cat sx sy xs ys).map (.lst true)
  | _, _ => none
def gCatT (sx sy : Bool) : T → T → Option T
  | .tup xs, .tup ys => (cat sx sy xs ys).map .tup
  | _, _ => none
theorem cat_inv {sx sy : Bool} {xs ys zs : List T} (e : cat sx sy xs ys = some zs) : zs = xs ++ ys ∧ (sx = true → shL xs = true) ∧ (sy = true → shL ys = true) ∧ xs.length + ys.length ≤ sizeLine := by
  unfold cat at e
  split at e
  · rename_i h
    rw [Bool.and_eq_true, Bool.and_eq_true, decide_eq_true_eq] at h
    cases e
    refine ⟨rfl, fun a => ?_, fun a => ?_, by rw [sizeLine_eq]; exact h.2⟩
    · have := h.1.1; rw [a] at this; simpa using this
    · have := h.1.2; rw [a] at this; simpa using this
  · cases e
theorem rox_cat : ROx K gCat rCat := by
  refine ⟨fun {σ ε F H v w x y t u z Q} s ok1 ok2 hx hy e k => ?_⟩
  cases t <;> try (cases e; done)
  cases u <;> try (cases e; done)
  rename_i o xs o' ys
  obtain ⟨zs, e', rfl⟩ := Option.map_eq_some_iff.mp (show (cat x.isS y.isS xs ys).map (T.lst true) = some z from e)
  obtain ⟨rfl, h1, h2, h3⟩ := cat_inv e'
  obtain ⟨a, b, L1, L2, rfl, rfl, rfl, rfl, q1, q2, s'⟩ := s.items2 ok1 ok2 hx hy rfl rfl h1 h2
  refine ⟨a, b, _, _, rfl, rfl, q1, q2, by simpa using h3, fun p hp => k _ _ ?_⟩
  have s2 := Sat.newLst (L1 := L1 ++ L2) (L := F.R ++ slots σ ε) (by have q := s'.sat; rw [← List.append_assoc]; exact q) s'.ch hp
  rw [List.map_append, List.map_append] at s2
  exact ⟨s'.al, s'.ch.upd, s2⟩
end
end Tq
end

section
set_option Elab.async false
set_option maxRecDepth 100000
set_option maxHeartbeats 4000000
/-! TLs6: all binary operators. -/
namespace Tq
open PySem PySem.Spec PyProof.Rows L2
theorem noPylong_near {x y : Int} (hy : y ≠ 0) (h : x.natAbs < y.natAbs * 2 ^ 4000) : Builtin.divisionGoesByPylong x y = false := by
  have h1 : y.natAbs ≠ 0 := by omega
  have h2 : x.natAbs.log2 ≤ y.natAbs.log2 + 4000 := by
    by_cases hx : x.natAbs = 0
    · rw [hx]; exact Nat.le_trans (Nat.le_of_eq (show Nat.log2 0 = 0 by decide)) (Nat.zero_le _)
    · have a := Nat.log2_self_le hx
      have b : y.natAbs < 2 ^ (y.natAbs.log2 + 1) := Nat.lt_log2_self
      have c : 2 ^ x.natAbs.log2 < 2 ^ (y.natAbs.log2 + 1 + 4000) := by
        rw [Nat.pow_add]
        exact Nat.lt_of_le_of_lt a (Nat.lt_of_lt_of_le h (Nat.mul_le_mul_right _ (Nat.le_of_lt b)))
      have := (Nat.pow_lt_pow_iff_right (by decide)).mp c
      omega
  have e : (y == 0) = false := by simpa using hy
  show (_ && decide ((if x == 0 then 0 else x.natAbs.log2 / 30 + 1) > (if y == 0 then 0 else y.natAbs.log2 / 30 + 1) + 150)) = false
  rw [e]
  have : ¬ ((if x == 0 then 0 else x.natAbs.log2 / 30 + 1) > (if false = true then 0 else y.natAbs.log2 / 30 + 1) + 150) := by
    simp only [Bool.false_eq_true, if_false]
    split <;> omega
  rw [decide_eq_false this, Bool.and_false]

/-! ### tuples times ints -/
theorem tup_mul_same (l : Addr) (items : Array Value) (n : Nat) (dd : Option Addr) (sl : Array (Option Value)) (x : Int) (u : Tok) (c0 : (decide (x < -(2 ^ 63)) || decide (x ≥ 2 ^ 63)) = false) (c1 : (items.isEmpty || x == 1) = true) :
    Meets (Builtin.«tuple.__mul__» ⟨[.ref l, .int x u], []⟩) (fun _ R s => s.heap.get? l = some { cls := .type "tuple", dict := dd, data := .seq items n, slots := sl } ∧ R (.ok (.ret (Value.ref l))) s) :=
  .of_wp fun prog w A R s h => by
    obtain ⟨hp, g, d, tk, os⟩ := s
    obtain ⟨hl, h⟩ := h
    have f1 := AutoSeq1.idx_int
    have f2 := AutoSeq1.sub_tuple_tuple
    wp_walk using AutoSeq1.wpAny_loadPart' hl
    repeat (first
      | (refine wpAny_ite_false (decide_eq_false (by rw [c0]; exact Bool.false_ne_true)) ?_; wp_walk using AutoSeq1.wpAny_loadPart' hl)
      | (refine wpAny_ite_true (decide_eq_true (by rw [c1])) ?_; wp_walk using AutoSeq1.wpAny_loadPart' hl))
    exact ⟨_, rfl, h⟩
theorem tup_mul_none (l : Addr) (items : Array Value) (n : Nat) (dd : Option Addr) (sl : Array (Option Value)) (x : Int) (u : Tok) (c0 : (decide (x < -(2 ^ 63)) || decide (x ≥ 2 ^ 63)) = false) (c1 : (items.isEmpty || x == 1) = false) (c2 : (decide (x ≤ 0) || items.isEmpty) = true) :
    Meets (Builtin.«tuple.__mul__» ⟨[.ref l, .int x u], []⟩) (fun _ R s => s.heap.get? l = some { cls := .type "tuple", dict := dd, data := .seq items n, slots := sl } ∧
      R (.ok (.ret (Value.ref s.heap.objs.size))) { s with heap := s.heap.push { cls := Value.type "tuple", data := Data.seq #[] }, toks := s.toks }) :=
  .of_wp fun prog w A R s h => by
    obtain ⟨hp, g, d, tk, os⟩ := s
    obtain ⟨hl, h⟩ := h
    have f1 := AutoSeq1.idx_int
    wp_walk using AutoSeq1.wpAny_loadPart' hl
    repeat (first
      | (refine wpAny_ite_false (decide_eq_false (by rw [c0]; exact Bool.false_ne_true)) ?_; wp_walk using AutoSeq1.wpAny_loadPart' hl)
      | (refine wpAny_ite_false (decide_eq_false (by rw [c1]; exact Bool.false_ne_true)) ?_; wp_walk using AutoSeq1.wpAny_loadPart' hl)
      | (refine wpAny_ite_true (decide_eq_true (by rw [c2])) ?_; wp_walk using AutoSeq1.wpAny_loadPart' hl))
    exact ⟨_, rfl, h⟩
def rRepA (K : PySem.W.Frag) : V → V → Hp → VK → Prop := fun x y H Q => ∃ l k xs, x = .ref l ∧ y = .int k ∧ SqT K H l xs ∧ -(2 ^ 62) < k ∧ k < 2 ^ 62 ∧ xs.length * k.toNat ≤ sizeLine ∧ ((xs = [] ∨ k = 1) → Q (.ref l) H) ∧
  (¬ (xs = [] ∨ k = 1) → ∀ p, H p = none → Q (.ref p) (upd H p (.tup (List.replicate k.toNat xs).flatten)))
theorem op_repA {X : Cx} : OpR X (binaryOp .Mult) (rRepA X.K) := by
  intro pins s σ H x y v u Q I rx ry h
  obtain ⟨l, k, xs, rfl, rfl, hT, h1, h2, hz, q0, q1⟩ := h
  cases rx
  obtain ⟨t, rfl⟩ := ry
  obtain ⟨its, r, ⟨⟨cls, dd, data, sl⟩, ho, hc, n, hd⟩, hs⟩ := I.tuple hT
  simp only at hc hd
  subst hc hd
  have hle : its.length = xs.length := r.length.symm
  have hn : its = [] ↔ xs = [] := Vals.nil_iff r
  have hi : its.toArray.isEmpty = decide (xs = []) := by
    cases its with
    | nil => rw [decide_eq_true (hn.mp rfl)]; rfl
    | cons a b => rw [decide_eq_false (fun e => by have := hn.mpr e; cases this)]; rfl
  have hsz0 : its.toArray.size = xs.length := by rw [List.size_toArray, hle]
  have c0 : (decide (k < -(2 ^ 63)) || decide (k ≥ 2 ^ 63)) = false := by
    rw [decide_eq_false (by omega), decide_eq_false (by omega)] <;> rfl
  refine wpAny_binaryOp_repeat_ref (T := "tuple") (U := "int") (by decide) ⟨_, ho, rfl⟩ (fun s' => typeIs_int s' k t) noFill_tuple_mul F.fills_int_mul F.slot_int_rmul repeat_tuple F.slot_int_index.lookup
    (call_meets F.slot_int_rmul (typeIs_int s k t) F.entry_int_rmul (F.args_int_rmul_2 _ _) (int_rmul_tuple k t l its.toArray n dd sl) ⟨ho, rfl, ⟨_, ho, rfl⟩, ?_⟩)
  by_cases hc : xs = [] ∨ k = 1
  · have c1 : (its.toArray.isEmpty || k == 1) = true := by
      rw [hi]
      rcases hc with e | e
      · rw [decide_eq_true e]; rfl
      · subst e; simp
    exact call_meets F.slot_tuple_mul ⟨_, ho, rfl⟩ F.entry_tuple_mul (F.args_tuple_mul_2 _ _) (tup_mul_same l its.toArray n dd sl k t c0 c1) ⟨ho, .ref l, H, I, rfl, q0 hc⟩
  · have hne : xs ≠ [] := fun e => hc (.inl e)
    have hk1 : k ≠ 1 := fun e => hc (.inr e)
    have c1 : (its.toArray.isEmpty || k == 1) = false := by
      rw [hi, decide_eq_false hne, Bool.false_or]
      exact beq_eq_false_iff_ne.mpr hk1
    by_cases hk : k ≤ 0
    · have c2 : (decide (k ≤ 0) || its.toArray.isEmpty) = true := by rw [decide_eq_true hk]; rfl
      refine call_meets F.slot_tuple_mul ⟨_, ho, rfl⟩ F.entry_tuple_mul (F.args_tuple_mul_2 _ _) (tup_mul_none l its.toArray n dd sl k t c0 c1 c2) ⟨ho, ?_⟩
      have e0 : (List.replicate k.toNat xs).flatten = [] := by
        have : k.toNat = 0 := by omega
        rw [this]; rfl
      refine ⟨.ref s.heap.objs.size, _, I.laid (t' := s.toks) (o := .tup (List.replicate k.toNat xs).flatten) (fun b ob q => Heap.get?_push_of_some _ q) (Nat.le_refl _) ?_, rfl, q1 hc _ (I.hok.fresh (Nat.le_refl _))⟩
      rw [e0]
      exact ⟨Nat.zero_le _, [], .nil, IsTup.new _ _⟩
    · have c2 : (decide (k ≤ 0) || its.toArray.isEmpty) = false := by
        rw [hi, decide_eq_false hne, Bool.or_false]
        exact decide_eq_false hk
      have hkn : ((k.toNat : Nat) : Int) = k := by omega
      have hm : ((its.toArray.size : Nat) : Int) * k ≤ 16777216 := by
        rw [hsz0, ← hkn]
        rw [sizeLine_eq] at hz
        have h5 : ((xs.length * k.toNat : Nat) : Int) ≤ ((16777216 : Nat) : Int) := Int.ofNat_le.mpr hz
        rw [Int.natCast_mul] at h5
        exact h5
      have flen : (List.replicate k.toNat its).flatten.length ≤ sizeLine := by
        rw [PyProof.Rows.lm_len_rep_flat, hle, Nat.mul_comm]
        exact hz
      have c4 : Builtin.Tuple.tupleTooMany (((its.toArray.size : Nat) : Int) * k) = false := by
        unfold Builtin.Tuple.tupleTooMany
        rw [sizeLine_eq]
        exact decide_eq_false (by omega)
      refine call_meets F.slot_tuple_mul ⟨_, ho, rfl⟩ F.entry_tuple_mul (F.args_tuple_mul_2 _ _) (tuple_mulW l its.toArray n dd sl k t c0 c1 c2 (by omega) c4 (by rw [size_rep, List.size_toArray]; exact flen)) ⟨ho, ?_⟩
      rw [size_rep]
      refine ⟨.ref s.heap.objs.size, _, I.laid (t' := s.toks) (o := .tup (List.replicate k.toNat xs).flatten) (fun b ob q => Heap.get?_push_of_some _ q) (Nat.le_refl _) ?_, rfl, q1 hc _ (I.hok.fresh (Nat.le_refl _))⟩
      exact ⟨by rw [PyProof.Rows.lm_len_rep_flat, Nat.mul_comm]; exact hz, _, r.rep k.toNat, IsTup.new _ _⟩

/-! ### the operators, one by one -/
def opOf : Op2 → Operator
  | .add => .Add | .sub => .Sub | .mul => .Mult | .fdiv => .FloorDiv | .mod => .Mod | .pow => .Pow | .shl => .LShift | .shr => .RShift | .band => .BitAnd | .bor => .BitOr | .bxor => .BitXor
section
variable {K : PySem.W.Frag} {σ : L2.St} {ε ε' : Env} {F : Fr} {H H' : Hp} {v w : V} {t u : T}
/-- an operand's value goes on top -/
theorem SR.val {p : Op} (s : SR K σ ε (F.op v p) H) (ok : OpOk σ v p) (hx : pk ε p = some t) (hs : p.isS = true → t.sh = true) : SR K σ ε (F.push (v, t)) H := by
  cases p with
  | t t' => cases hx; exact s
  | s i =>
    have e : gt ε i = some t := hx
    obtain ⟨w, h1, h2⟩ := SR.copy (F := F) s e (hs rfl)
    have h3 : σ[i]? = some (some v) := ok
    rw [h3] at h1; cases h1
    exact h2
theorem rox_catT : ROx K gCatT (rCatA K) := by
  refine ⟨fun {σ ε F H v w x y t u z Q} s ok1 ok2 hx hy e k => ?_⟩
  cases t <;> try (cases e; done)
  cases u <;> try (cases e; done)
  rename_i xs ys
  obtain ⟨zs, e', rfl⟩ := Option.map_eq_some_iff.mp (show (cat x.isS y.isS xs ys).map T.tup = some z from e)
  obtain ⟨rfl, h1, h2, h3⟩ := cat_inv e'
  obtain ⟨a, b, L1, L2, rfl, rfl, rfl, rfl, q1, q2, s'⟩ := s.items2 ok1 ok2 hx hy rfl rfl h1 h2
  refine ⟨a, b, _, _, rfl, rfl, SqT.of (show H a = _ from q1), SqT.of (show H b = _ from q2), by simpa using h3, fun e0 => k _ _ ?_, fun _ e0 => k _ _ ?_, fun n1 n2 p hp => k _ _ ?_⟩
  · have e1 : L1 = [] := List.map_eq_nil_iff.mp e0
    subst e1
    have s2 := s.val ok2 hy fun z => by rw [T.sh]; exact h2 z
    have s3 : SR K σ ε ((F.op (.ref a) x).push (.ref b, .tup (L2.map (·.2)))) H := s2
    exact s3.under
  · have e1 : L2 = [] := List.map_eq_nil_iff.mp e0
    subst e1
    have s2 := s.over.val ok1 hx fun z => by rw [T.sh]; exact h1 z
    rw [List.map_nil, List.append_nil]
    exact s2
  · have s2 := Sat.newTup (L1 := L1 ++ L2) (L := F.R ++ slots σ ε) (by have q := s'.sat; rw [← List.append_assoc]; exact q) hp
    rw [List.map_append, List.map_append] at s2
    exact ⟨s'.al, s'.ch.upd, s2⟩
def gRep (_ _ : Bool) : T → T → Option T
  | .lst _ xs, .int n => (rep xs n).map (.lst true)
  | _, _ => none
def gRepT (_ _ : Bool) : T → T → Option T
  | .tup xs, .int n => (rep xs n).map .tup
  | _, _ => none
theorem rep_inv {xs zs : List T} {n : Int} (e : rep xs n = some zs) : zs = (List.replicate n.toNat xs).flatten ∧ shL xs = true ∧ -(2 ^ 62) < n ∧ n < 2 ^ 62 ∧ xs.length * n.toNat ≤ sizeLine := by
  unfold rep at e
  split at e
  · rename_i h
    simp only [Bool.and_eq_true, decide_eq_true_eq] at h
    cases e
    exact ⟨rfl, h.1.1.1, h.1.2, h.1.1.2, by rw [sizeLine_eq]; exact h.2⟩
  · cases e
theorem rep_pairs {C : List Addr} {P : List Pin} {L L1 : VT} (s : Sat K H C P (L1 ++ L)) (h : shL (L1.map (·.2)) = true) : ∀ n : Nat, Sat K H C P ((List.replicate n L1).flatten ++ L)
  | 0 => s.dropL
  | n + 1 => by
    obtain ⟨A, r, nd, hP⟩ := (rep_pairs s h n).ex
    obtain ⟨A', r', nd', hP'⟩ := s.ex
    obtain ⟨A1, A2, e, r1, r2⟩ := split_map (vs := []) (ts := []) (A := []) r'
    have hn := r1.sh h
    subst hn
    rw [List.nil_append] at e
    subst e
    have det : ∀ (m : Nat) (W : Addr → Prop), Reps K H W (L1.map (·.1)) (L1.map (·.2)) [] → Reps K H W (((List.replicate m L1).flatten).map (·.1)) (((List.replicate m L1).flatten).map (·.2)) [] := by
      intro m W q
      induction m with
      | zero => exact .nil
      | succ m ih =>
        rw [List.replicate_succ, List.flatten_cons, List.map_append, List.map_append]
        exact q.append ih
    refine ⟨A', ?_, nd', hP'⟩
    rw [List.map_append, List.map_append]
    exact (det (n + 1) _ r1).append r2
theorem map_rep {α β : Type} (f : α → β) (L : List α) : ∀ n : Nat, ((List.replicate n L).flatten).map f = (List.replicate n (L.map f)).flatten
  | 0 => rfl
  | n + 1 => by rw [List.replicate_succ, List.flatten_cons, List.map_append, map_rep f L n, List.replicate_succ, List.flatten_cons]
theorem SR.int2 {x y : Op} {n : Int} (s : SR K σ ε ((F.op v x).op w y) H) (ok2 : OpOk σ w y) (hy : pk ε y = some (.int n)) : w = .int n := s.sat.isInt (s.live hy ok2 fun t' q => Fr.op_mem _ q)
theorem rox_rep : ROx K gRep rRep := by
  refine ⟨fun {σ ε F H v w x y t u z Q} s ok1 ok2 hx hy e k => ?_⟩
  cases t <;> try (cases e; done)
  cases u <;> try (cases e; done)
  rename_i o xs n
  obtain ⟨zs, e', rfl⟩ := Option.map_eq_some_iff.mp (show (rep xs n).map (T.lst true) = some z from e)
  obtain ⟨rfl, h1, h2, h3, h4⟩ := rep_inv e'
  obtain rfl := s.int2 ok2 hy
  obtain ⟨a, L1, rfl, rfl, q1, s'⟩ := s.over.items ok1 hx rfl fun _ => h1
  refine ⟨a, n, _, rfl, rfl, q1, by omega, by omega, by simpa using h4, fun p hp => k _ _ ?_⟩
  have s2 := Sat.newLst (L1 := (List.replicate n.toNat L1).flatten) (L := F.R ++ slots σ ε) (rep_pairs (by have q := s'.sat; rw [← List.append_assoc]; exact q) h1 _) s'.ch hp
  rw [map_rep, map_rep] at s2
  exact ⟨s'.al, s'.ch.upd, s2⟩
theorem rox_repT : ROx K gRepT (rRepA K) := by
  refine ⟨fun {σ ε F H v w x y t u z Q} s ok1 ok2 hx hy e k => ?_⟩
  cases t <;> try (cases e; done)
  cases u <;> try (cases e; done)
  rename_i xs n
  obtain ⟨zs, e', rfl⟩ := Option.map_eq_some_iff.mp (show (rep xs n).map T.tup = some z from e)
  obtain ⟨rfl, h1, h2, h3, h4⟩ := rep_inv e'
  obtain rfl := s.int2 ok2 hy
  obtain ⟨a, L1, rfl, rfl, q1, s'⟩ := s.over.items ok1 hx rfl fun _ => h1
  refine ⟨a, n, _, rfl, rfl, SqT.of (show H a = _ from q1), by omega, by omega, by simpa using h4, fun e0 => k _ _ ?_, fun _ p hp => k _ _ ?_⟩
  · have s2 := s.over.val ok1 hx fun z => by rw [T.sh]; exact h1
    rcases e0 with e0 | e0
    · have e1 : L1 = [] := List.map_eq_nil_iff.mp e0
      subst e1
      have : (List.replicate n.toNat (List.map (fun x : V × T => x.2) [])).flatten = [] := by rw [List.map_nil, List.flatten_replicate_nil]
      rw [this]
      exact s2
    · subst e0
      have : (List.replicate (1 : Int).toNat (List.map (fun x : V × T => x.2) L1)).flatten = L1.map (·.2) := by simp
      rw [this]
      exact s2
  · have s2 := Sat.newTup (L1 := (List.replicate n.toNat L1).flatten) (L := F.R ++ slots σ ε) (rep_pairs (by have q := s'.sat; rw [← List.append_assoc]; exact q) h1 _) hp
    rw [map_rep, map_rep] at s2
    exact ⟨s'.al, s'.ch.upd, s2⟩
def gStr (_ _ : Bool) : T → T → Option T
  | .str x, .str y => if x.length + y.length ≤ LL then some (.str (x ++ y)) else none
  | _, _ => none
theorem rox_str : ROx K gStr (fun x y H Q => ∃ i j, x = .str i ∧ y = .str j ∧ i.length + j.length ≤ sizeLine ∧ Q (.str (i ++ j)) H) := by
  refine (ROx.of (g := gStr false false) ⟨fun {H C P L v w t u z Q} s c h1 h2 e k => ?_⟩).imp (fun a b t u z e => e) fun _ _ _ _ q => q
  obtain ⟨i, j, rfl, rfl⟩ : ∃ i j, t = .str i ∧ u = .str j := by
    cases t <;> first
      | (cases u <;> first | exact ⟨_, _, rfl, rfl⟩ | (exfalso; simp [gStr] at e))
      | (exfalso; simp [gStr] at e)
  rw [gStr] at e
  split at e <;> cases e
  rename_i hl
  exact ⟨i, j, s.isStr h1, s.isStr h2, by rw [sizeLine_eq]; exact hl, k _ H (s.str _) c⟩
theorem mul_ok {i j : Int} (h : mulOk i j = true) : IntMulOk i j := by
  unfold mulOk at h
  simp only [Bool.or_eq_true, decide_eq_true_eq, Bool.and_eq_true] at h
  have b : B1 = 2 ^ 64 := by unfold B1; decide
  rcases h with (h | h) | h
  · rw [b] at h
    exact .of_left (intBits_le_64 (by omega) (by omega))
  · rw [b] at h
    exact .of_right (intBits_le_64 (by omega) (by omega))
  · exact (wide_mul h.1 h.2 (by decide) (by decide) (by decide)).ok
theorem ROx.or3 {g g1 g2 g3 : Bool → Bool → T → T → Option T} {r1 r2 r3 : V → V → Hp → VK → Prop} (h1 : ROx K g1 r1) (h2 : ROx K g2 r2) (h3 : ROx K g3 r3)
    (k : ∀ a b t u z, g a b t u = some z → g1 a b t u = some z ∨ g2 a b t u = some z ∨ g3 a b t u = some z) : ROx K g (fun v w H Q => r1 v w H Q ∨ r2 v w H Q ∨ r3 v w H Q) := by
  refine ⟨fun {σ ε F H v w x y t u z Q} s ok1 ok2 hx hy e q => ?_⟩
  rcases k _ _ _ _ _ e with e | e | e
  · exact .inl (h1.run s ok1 ok2 hx hy e q)
  · exact .inr (.inl (h2.run s ok1 ok2 hx hy e q))
  · exact .inr (.inr (h3.run s ok1 ok2 hx hy e q))
theorem ROx.or4 {g g1 g2 g3 g4 : Bool → Bool → T → T → Option T} {r1 r2 r3 r4 : V → V → Hp → VK → Prop} (h1 : ROx K g1 r1) (h2 : ROx K g2 r2) (h3 : ROx K g3 r3) (h4 : ROx K g4 r4)
    (k : ∀ a b t u z, g a b t u = some z → g1 a b t u = some z ∨ g2 a b t u = some z ∨ g3 a b t u = some z ∨ g4 a b t u = some z) : ROx K g (fun v w H Q => r1 v w H Q ∨ r2 v w H Q ∨ r3 v w H Q ∨ r4 v w H Q) := by
  refine ⟨fun {σ ε F H v w x y t u z Q} s ok1 ok2 hx hy e q => ?_⟩
  rcases k _ _ _ _ _ e with e | e | e | e
  · exact .inl (h1.run s ok1 ok2 hx hy e q)
  · exact .inr (.inl (h2.run s ok1 ok2 hx hy e q))
  · exact .inr (.inr (.inl (h3.run s ok1 ok2 hx hy e q)))
  · exact .inr (.inr (.inr (h4.run s ok1 ok2 hx hy e q)))
/-- operators that ints alone have -/
def isIO : Op2 → Bool
  | .add => false
  | .mul => false
  | _ => true
theorem op2_int {o : Op2} (ho : isIO o = true) (a b : Bool) (t u z : T) (e : op2 o a b t u = some z) : gI o a b t u = some z := by
  cases t <;> cases u <;> first
    | exact e
    | (cases o <;> first | (exact absurd ho (by decide)) | (exfalso; simp [op2] at e))
theorem opr_int {X : Cx} {o : Op2} {Cd : Int → Int → Prop} {g : Int → Int → Int} (ho : isIO o = true) (h : OpR X (binaryOp (opOf o)) (rI Cd fun i j => .int (g i j))) (k : ∀ i j z, opI o i j = some z → Cd i j ∧ z = .int (g i j)) :
    ∃ r, OpR X (binaryOp (opOf o)) r ∧ ROx X.K (op2 o) r := ⟨_, h, (rox_int k).imp (op2_int ho) fun _ _ _ _ q => q⟩
theorem opr (X : Cx) (o : Op2) : ∃ r, OpR X (binaryOp (opOf o)) r ∧ ROx X.K (op2 o) r := by
  cases o with
  | add =>
    refine ⟨_, opr_or op_add (opr_or op_cat (opr_or op_catA op_add_str)), ROx.or4 (rox_int0 (o := .add) fun i j z e => by cases e; rfl) rox_cat rox_catT rox_str ?_⟩
    intro a b t u z e
    cases t <;> cases u <;> first
      | exact .inl e
      | exact .inr (.inl e)
      | exact .inr (.inr (.inl e))
      | (refine .inr (.inr (.inr ?_)); simpa [op2, gStr] using e)
      | (simp [op2] at e)
  | mul =>
    refine ⟨_, opr_or (L2.opI (C := fun i j => IntMulOk i j) (g := fun i j => i * j) fun _ _ _ _ _ _ _ hc q => mul_int q hc) (opr_or op_rep op_repA), ROx.or3 (rox_int (o := .mul) fun i j z e => ?_) rox_rep rox_repT ?_⟩
    · rw [opI] at e
      split at e
      · rename_i h; cases e; exact ⟨mul_ok h, rfl⟩
      · cases e
    · intro a b t u z e
      cases t <;> cases u <;> first
        | exact .inl e
        | exact .inr (.inl e)
        | exact .inr (.inr e)
        | (simp [op2] at e)
  | sub => exact opr_int rfl (Cd := fun _ _ => True) (L2.opI fun _ _ _ _ _ _ _ _ q => sub_int q) fun i j z e => by cases e; exact ⟨trivial, rfl⟩
  | fdiv =>
    refine opr_int rfl (Cd := fun i j => divOk i j = true) (g := fun i j => i.fdiv j) (L2.opI fun i j _ _ _ _ _ hc q => ?_) fun i j z e => ?_
    · unfold divOk at hc
      simp only [Bool.and_eq_true, Bool.or_eq_true, decide_eq_true_eq] at hc
      refine floordiv_int hc.1 q (.inl ?_)
      rcases hc.2 with (h | h) | h
      · exact PyProof.noPylong_small h
      · exact PyProof.noPylong_of_log2 (Nat.lt_of_lt_of_le (PySem.Flt.log2_lt_of (by decide) h) (by decide))
      · exact noPylong_near hc.1 h
    · rw [opI] at e
      split at e
      · rename_i h; cases e; exact ⟨h, rfl⟩
      · cases e
  | mod =>
    refine opr_int rfl op_modN fun i j z e => ?_
    rw [opI] at e
    split at e
    · cases e
    · rename_i h; cases e; exact ⟨h, rfl⟩
  | pow =>
    refine opr_int rfl (Cd := fun i j => powOk i j = true) (g := fun i j => i ^ j.toNat) (L2.opI fun i j _ _ _ _ _ hc q => ?_) fun i j z e => ?_
    · unfold powOk at hc
      simp only [Bool.and_eq_true, decide_eq_true_eq] at hc
      refine pow_int hc.1.1 ?_ q
      have hb : Builtin.Int.intBits i ≤ 10001 := by
        have h := PySem.Flt.log2_lt_of (k := 10000) (by decide) hc.2
        unfold Builtin.Int.intBits
        split <;> omega
      have : (Builtin.Int.intBits i : Int) * j ≤ 10001 * 1000 := Int.mul_le_mul (by omega) hc.1.2 hc.1.1 (by decide)
      omega
    · rw [opI] at e
      split at e
      · rename_i h; cases e; exact ⟨h, rfl⟩
      · cases e
  | shl =>
    refine opr_int rfl op_shl fun i j z e => ?_
    rw [opI] at e
    split at e
    · rename_i h
      unfold shlOk at h
      simp only [Bool.and_eq_true, decide_eq_true_eq] at h
      cases e
      exact ⟨⟨h.1.1, h.1.2, by have := h.2; unfold B1 at this; omega⟩, rfl⟩
    · cases e
  | shr =>
    refine opr_int rfl (Cd := fun i j => 0 ≤ j) (g := fun i j => i.fdiv (2 ^ j.toNat)) (L2.opI fun i j _ _ _ _ _ hc q => rshift_int hc q) fun i j z e => ?_
    rw [opI] at e
    split at e
    · rename_i h; cases e; exact ⟨h, rfl⟩
    · cases e
  | band =>
    refine opr_int rfl (Cd := fun i j => 0 ≤ i ∧ 0 ≤ j) (g := fun i j => ((i.toNat &&& j.toNat : Nat) : Int)) (L2.opI fun i j _ _ _ _ _ hc q => and_int (by rw [PyProof.Rows.bitAnd_pp hc.1 hc.2]; exact q)) fun i j z e => ?_
    rw [opI, bnat] at e
    split at e
    · rename_i h; cases e; exact ⟨h, rfl⟩
    · cases e
  | bor =>
    refine opr_int rfl (Cd := fun i j => 0 ≤ i ∧ 0 ≤ j) (g := fun i j => ((i.toNat ||| j.toNat : Nat) : Int)) (L2.opI fun i j _ _ _ _ _ hc q => or_int (by rw [Bits.bitOr_pp hc.1 hc.2]; exact q)) fun i j z e => ?_
    rw [opI, bnat] at e
    split at e
    · rename_i h; cases e; exact ⟨h, rfl⟩
    · cases e
  | bxor =>
    refine opr_int rfl (Cd := fun i j => 0 ≤ i ∧ 0 ≤ j) (g := fun i j => ((i.toNat ^^^ j.toNat : Nat) : Int)) (L2.opI fun i j _ _ _ _ _ hc q => xor_int (by rw [Bits.bitXor_pp hc.1 hc.2]; exact q)) fun i j z e => ?_
    rw [opI, bnat] at e
    split at e
    · rename_i h; cases e; exact ⟨h, rfl⟩
    · cases e
end
end Tq
end

section
set_option Elab.async false
set_option maxRecDepth 100000
set_option maxHeartbeats 4000000
/-! TLs7: comparisons. -/
namespace Tq
open PySem PySem.Spec PyProof.Rows L2

mutual
def toD : T → PyData
  | .non => .none
  | .bl b => .bool b
  | .int i => .int i
  | .str s => .str s
  | .tup xs => .tuple (toDs xs)
  | .lst _ xs => .list (toDs xs)
  | .dic _ _ => .none
  | .scr _ => .none
def toDs : List T → List PyData
  | [] => []
  | x :: xs => toD x :: toDs xs
end
theorem toDs_map : ∀ xs : List T, toDs xs = xs.map toD
  | [] => rfl
  | x :: xs => by rw [toDs, List.map_cons, toDs_map xs]
mutual
theorem eq_data : ∀ (n : Nat) (t u : T), t.dp n = true → u.dp n = true → PyData.eqv (toD t) (toD u) = t.eq u
  | n, .non, u, h, g => by cases u <;> first | rfl | (simp [T.dp] at g)
  | n, .bl a, u, h, g => by cases u <;> first | rfl | (simp [T.dp] at g)
  | n, .int a, u, h, g => by
    cases u <;> first
      | rfl
      | (simp [T.dp] at g)
      | (simp only [toD, PyData.eqv, T.eq]; rw [Bool.eq_iff_iff]; simp)
  | n, .str a, u, h, g => by
    cases u <;> first
      | rfl
      | (simp [T.dp] at g; done)
      | (simp only [toD, PyData.eqv, T.eq]; rw [Bool.eq_iff_iff]; simp)
  | 0, .tup _, u, h, g => by simp [T.dp] at h
  | n + 1, .tup xs, u, h, g => by
    cases u with
    | tup ys => simp only [T.dp] at h g; simp only [toD, PyData.eqv, T.eq]; exact eq_datas n xs ys h g
    | _ => first | rfl | (simp [T.dp] at g)
  | 0, .lst _ _, u, h, g => by simp [T.dp] at h
  | n + 1, .lst _ xs, u, h, g => by
    cases u with
    | lst o ys => simp only [T.dp] at h g; simp only [toD, PyData.eqv, T.eq]; exact eq_datas n xs ys h g
    | _ => first | rfl | (simp [T.dp] at g)
  | n, .dic _ _, u, h, g => by simp [T.dp] at h
  | n, .scr _, u, h, g => by simp [T.dp] at h
theorem eq_datas : ∀ (n : Nat) (ts us : List T), dpL n ts = true → dpL n us = true → PyData.eqvAll (toDs ts) (toDs us) = eqL ts us
  | n, [], [], _, _ => rfl
  | n, [], _ :: _, _, _ => rfl
  | n, _ :: _, [], _, _ => rfl
  | n, t :: ts, u :: us, h, g => by
    rw [dpL, Bool.and_eq_true] at h g
    rw [toDs, toDs, PyData.eqvAll, eqL, eq_data n t u h.1 g.1, eq_datas n ts us h.2 g.2]
end
mutual
theorem lay_data : ∀ (n : Nat) (t : T), t.dp n = true → (toD t).canLay0 = true ∧ (toD t).depth ≤ n
  | n, .non, h => ⟨rfl, Nat.zero_le _⟩
  | n, .bl a, h => ⟨rfl, Nat.zero_le _⟩
  | n, .int a, h => ⟨rfl, Nat.zero_le _⟩
  | n, .str a, h => by
    have h' : sOk a = true := by cases n <;> exact h
    exact ⟨h', Nat.zero_le _⟩
  | 0, .tup _, h => by simp [T.dp] at h
  | n + 1, .tup xs, h => by
    have q := lay_datas n xs (by simpa only [T.dp] using h)
    simp only [toD, PyData.canLay0, PyData.depth]
    exact ⟨q.1, Nat.succ_le_succ q.2⟩
  | 0, .lst _ _, h => by simp [T.dp] at h
  | n + 1, .lst _ xs, h => by
    have q := lay_datas n xs (by simpa only [T.dp] using h)
    simp only [toD, PyData.canLay0, PyData.depth]
    exact ⟨q.1, Nat.succ_le_succ q.2⟩
  | n, .dic _ _, h => by simp [T.dp] at h
  | n, .scr _, h => by simp [T.dp] at h
theorem lay_datas : ∀ (n : Nat) (ts : List T), dpL n ts = true → PyData.canLayAll0 (toDs ts) = true ∧ PyData.depthAll (toDs ts) ≤ n
  | n, [], _ => ⟨rfl, Nat.zero_le _⟩
  | n, t :: ts, h => by
    rw [dpL, Bool.and_eq_true] at h
    have q1 := lay_data n t h.1
    have q2 := lay_datas n ts h.2
    simp only [toDs, PyData.canLayAll0, PyData.depthAll, q1.1, q2.1]
    exact ⟨rfl, Nat.max_le.mpr ⟨q1.2, q2.2⟩⟩
end
theorem shaped_of {n : Nat} {t : T} (h : t.dp n = true) (hn : n ≤ 64) : SeqAt.shaped (toD t) = true := by
  have q := lay_data n t h
  unfold SeqAt.shaped
  rw [q.1, decide_eq_true (Nat.le_trans q.2 hn)]; rfl
section
variable {K : PySem.W.Frag} {H : Hp} {W : Addr → Prop}
mutual
theorem Rep.data : ∀ {n : Nat} {v : V} {t : T} {A : List Addr}, Rep K H W v t A → t.dp n = true → Dp K H v (toD t)
  | _, _, _, _, .non, _ => .non
  | _, _, _, _, .bl b, _ => .bl b
  | _, _, _, _, .int i, _ => .int i
  | _, _, _, _, .str i, _ => .str i
  | 0, _, _, _, .tup h r, e => by simp [T.dp] at e
  | n + 1, _, _, _, .tup h r, e => by rw [toD]; exact .tup (SqT.of h) (Reps.data (n := n) r (by simpa only [T.dp] using e))
  | 0, _, _, _, .own h r, e => by simp [T.dp] at e
  | n + 1, _, _, _, .own h r, e => by rw [toD]; exact .lst (SqL.of h) (Reps.data (n := n) r (by simpa only [T.dp] using e))
  | 0, _, _, _, .lst h _ r, e => by simp [T.dp] at e
  | n + 1, _, _, _, .lst h _ r, e => by rw [toD]; exact .lst (SqL.of h) (Reps.data (n := n) r (by simpa only [T.dp] using e))
  | n, _, _, _, .scr h _ r, e => by simp [T.dp] at e
  | n, _, _, _, .scrK h r, e => by simp [T.dp] at e
  | n, _, _, _, .ownK h _ r, e => by simp [T.dp] at e
  | n, _, _, _, .ownT h _ r, e => by simp [T.dp] at e
  | n, _, _, _, .dicK h _ _ r, e => by simp [T.dp] at e
  | n, _, _, _, .dicT h _ _ r, e => by simp [T.dp] at e
theorem Reps.data : ∀ {n : Nat} {vs : List V} {ts : List T} {A : List Addr}, Reps K H W vs ts A → dpL n ts = true → DpAll K H vs (toDs ts)
  | _, _, _, _, .nil, _ => .nil
  | n, _, _, _, .cons a b, e => by
    rw [dpL, Bool.and_eq_true] at e
    rw [toDs]
    exact .cons (Rep.data a e.1) (Reps.data b e.2)
end
end
section
variable {K : PySem.W.Frag} {X : Cx}
theorem RO2.or {g g1 g2 : T → T → Option T} {r r' : V → V → Hp → VK → Prop} (h : RO2 K g1 r) (h' : RO2 K g2 r') (k : ∀ t u z, g t u = some z → g1 t u = some z ∨ g2 t u = some z) : RO2 K g (fun v w H Q => r v w H Q ∨ r' v w H Q) := by
  refine ⟨fun {H C P L v w t u z Q} s c h1 h2 e q => ?_⟩
  rcases k _ _ _ e with e | e
  · exact .inl (h.run s c h1 h2 e q)
  · exact .inr (h'.run s c h1 h2 e q)
def gEqS (n : Bool) (t u : T) : Option T := if sc2 t u = true then some (.bl (if n then !t.eq u else t.eq u)) else none
def gEqD (n : Bool) (t u : T) : Option T := if (t.dp 8 && u.dp 8) = true then some (.bl (if n then !t.eq u else t.eq u)) else none
theorem sc2_inv {t u : T} (h : sc2 t u = true) : (∃ i j, t = .int i ∧ u = .int j) ∨ (∃ i j, t = .str i ∧ u = .str j) ∨ ∃ i j, t = .bl i ∧ u = .bl j := by
  cases t <;> cases u <;> first
    | exact .inl ⟨_, _, rfl, rfl⟩
    | exact .inr (.inl ⟨_, _, rfl, rfl⟩)
    | exact .inr (.inr ⟨_, _, rfl, rfl⟩)
    | cases h
theorem eqS {H : Hp} {C : List Addr} {P : List Pin} {L : VT} {v w : V} {t u : T} (s : Sat K H C P L) (h1 : (v, t) ∈ L) (h2 : (w, u) ∈ L) (h : sc2 t u = true) : scal v w = true ∧ decide (v = w) = t.eq u := by
  rcases sc2_inv h with ⟨i, j, rfl, rfl⟩ | ⟨i, j, rfl, rfl⟩ | ⟨i, j, rfl, rfl⟩
  · rw [s.isInt h1, s.isInt h2, T.eq]
    refine ⟨rfl, ?_⟩
    rw [Bool.eq_iff_iff]; simp
  · rw [s.isStr h1, s.isStr h2, T.eq]
    refine ⟨rfl, ?_⟩
    rw [Bool.eq_iff_iff]; simp
  · rw [s.isBl h1, s.isBl h2, T.eq]
    refine ⟨rfl, ?_⟩
    rw [Bool.eq_iff_iff]; simp
theorem ro_eqS : RO2 K (gEqS false) rEq := ⟨fun {H C P L v w t u z Q} s c h1 h2 e q => by
  unfold gEqS at e
  split at e <;> cases e
  rename_i h
  obtain ⟨a, b⟩ := eqS s h1 h2 h
  exact ⟨a, by rw [b]; exact q _ H (s.bl _) c⟩⟩
theorem ro_neS : RO2 K (gEqS true) rNe := ⟨fun {H C P L v w t u z Q} s c h1 h2 e q => by
  unfold gEqS at e
  split at e <;> cases e
  rename_i h
  obtain ⟨a, b⟩ := eqS s h1 h2 h
  exact ⟨a, by rw [b]; exact q _ H (s.bl _) c⟩⟩
theorem Sat.data {H : Hp} {C : List Addr} {P : List Pin} {L : VT} {v : V} {t : T} (s : Sat K H C P L) (h : (v, t) ∈ L) {n : Nat} (e : t.dp n = true) : Dp K H v (toD t) := by
  obtain ⟨A, W, r⟩ := s.look h
  exact r.data e
theorem ro_eqD : RO2 K (gEqD false) (rEqD K) := ⟨fun {H C P L v w t u z Q} s c h1 h2 e q => by
  unfold gEqD at e
  split at e <;> cases e
  rename_i h
  rw [Bool.and_eq_true] at h
  exact ⟨_, _, s.data h1 h.1, s.data h2 h.2, shaped_of h.1 (by decide), shaped_of h.2 (by decide), by rw [eq_data 8 t u h.1 h.2]; exact q _ H (s.bl _) c⟩⟩
theorem ro_neD : RO2 K (gEqD true) (rNeD K) := ⟨fun {H C P L v w t u z Q} s c h1 h2 e q => by
  unfold gEqD at e
  split at e <;> cases e
  rename_i h
  rw [Bool.and_eq_true] at h
  exact ⟨_, _, s.data h1 h.1, s.data h2 h.2, shaped_of h.1 (by decide), shaped_of h.2 (by decide), by rw [eq_data 8 t u h.1 h.2]; exact q _ H (s.bl _) c⟩⟩
def gInt (f : Int → Int → Bool) : T → T → Option T
  | .int i, .int j => some (.bl (f i j))
  | _, _ => none
theorem ro_int (f : Int → Int → Bool) : RO2 K (gInt f) (rI0 fun i j => .bl (f i j)) := ⟨fun {H C P L v w t u z Q} s c h1 h2 e q => by
  cases t <;> try (cases e; done)
  cases u <;> try (cases e; done)
  cases e
  exact ⟨_, _, s.isInt h1, s.isInt h2, q _ H (s.bl _) c⟩⟩
def isN : T → Bool
  | .non => true
  | _ => false
def gIs (n : Bool) : T → T → Option T
  | t, .non => some (.bl (if n then !isN t else isN t))
  | _, _ => none
theorem Sat.isN {H : Hp} {C : List Addr} {P : List Pin} {L : VT} {v : V} {t : T} (s : Sat K H C P L) (h : (v, t) ∈ L) : decide (v = .non) = isN t := by
  obtain ⟨A, W, r⟩ := s.look h
  cases r <;> simp [Tq.isN]
theorem ro_is : RO2 K (gIs false) (fun x y H Q => y = .non ∧ Q (.bl (decide (x = .non))) H) := ⟨fun {H C P L v w t u z Q} s c h1 h2 e q => by
  cases u <;> try (cases e; done)
  cases e
  exact ⟨s.isNon h2, by rw [s.isN h1]; exact q _ H (s.bl _) c⟩⟩
theorem ro_isnot : RO2 K (gIs true) (fun x y H Q => y = .non ∧ Q (.bl (!decide (x = .non))) H) := ⟨fun {H C P L v w t u z Q} s c h1 h2 e q => by
  cases u <;> try (cases e; done)
  cases e
  exact ⟨s.isNon h2, by rw [s.isN h1]; exact q _ H (s.bl _) c⟩⟩
/-! in, not in -/
def gInL (n : Bool) : T → T → Option T
  | t, .lst _ xs => if (t.dp 7 && dpL 7 xs) = true then some (.bl (if n then !memT t xs else memT t xs)) else none
  | _, _ => none
theorem mem_data {t : T} (h : t.dp 7 = true) : ∀ {xs : List T}, dpL 7 xs = true → ((toDs xs).any fun z => PyData.eqv z (toD t)) = memT t xs
  | [], _ => rfl
  | x :: xs, g => by
    rw [dpL, Bool.and_eq_true] at g
    rw [toDs, List.any_cons, eq_data 7 x t g.1 h, mem_data h g.2]
    rfl
theorem Sat.dataL {H : Hp} {C : List Addr} {P : List Pin} {L : VT} {v : V} {o : Bool} {xs : List T} (s : Sat K H C P L) (h : (v, .lst o xs) ∈ L) {n : Nat} (e : dpL n xs = true) : Dp K H v (.list (toDs xs)) := by
  have q := s.data (K := K) h (n := n + 1) (by simpa only [T.dp] using e)
  rw [toD] at q
  exact q
theorem shapedL {n : Nat} {xs : List T} (h : dpL n xs = true) (hn : n < 64) : SeqAt.shaped (.list (toDs xs)) = true := by
  have q := shaped_of (n := n + 1) (t := .lst true xs) (by simpa only [T.dp] using h) hn
  rw [toD] at q
  exact q
theorem ro_inL : RO2 K (gInL false) (rInD K) := ⟨fun {H C P L v w t u z Q} s c h1 h2 e q => by
  cases u <;> try (cases e; done)
  rename_i o xs
  have e' : (if (t.dp 7 && dpL 7 xs) = true then some (T.bl (memT t xs)) else none) = some z := e
  split at e' <;> cases e'
  rename_i h
  rw [Bool.and_eq_true] at h
  exact ⟨_, _, s.data h1 h.1, s.dataL h2 h.2, shaped_of h.1 (by decide), shapedL h.2 (by decide), by rw [mem_data h.1 h.2]; exact q _ H (s.bl _) c⟩⟩
theorem ro_notinL : RO2 K (gInL true) (rNotInD K) := ⟨fun {H C P L v w t u z Q} s c h1 h2 e q => by
  cases u <;> try (cases e; done)
  rename_i o xs
  have e' : (if (t.dp 7 && dpL 7 xs) = true then some (T.bl (!memT t xs)) else none) = some z := e
  split at e' <;> cases e'
  rename_i h
  rw [Bool.and_eq_true] at h
  exact ⟨_, _, s.data h1 h.1, s.dataL h2 h.2, shaped_of h.1 (by decide), shapedL h.2 (by decide), by rw [mem_data h.1 h.2]; exact q _ H (s.bl _) c⟩⟩
def gInT (n : Bool) : T → T → Option T
  | t, .tup xs => if (leaf t && xs.all leaf) = true then some (.bl (if n then !memT t xs else memT t xs)) else none
  | _, _ => none
theorem leafV {H : Hp} {W : Addr → Prop} {v : V} {t : T} {A : List Addr} (r : Rep K H W v t A) (h : leaf t = true) : flatV v = true ∧ ∀ {w : V} {u : T} {B : List Addr}, Rep K H W w u B → leaf u = true → eqV v w = t.eq u := by
  cases r <;> try (cases h; done)
  all_goals (refine ⟨rfl, fun {w u B} r' h' => ?_⟩; cases r' <;> first | (cases h'; done) | rfl | (simp only [eqV, T.eq]; rw [Bool.eq_iff_iff]; simp))
theorem inV_leaf {H : Hp} {W : Addr → Prop} {v : V} {t : T} {A : List Addr} (r : Rep K H W v t A) (h : leaf t = true) : ∀ {vs : List V} {xs : List T} {B : List Addr}, Reps K H W vs xs B → xs.all leaf = true → vs.all flatV = true ∧ inV v vs = memT t xs
  | _, _, _, .nil, _ => ⟨rfl, rfl⟩
  | _, _, _, .cons a b, g => by
    rw [List.all_cons, Bool.and_eq_true] at g
    have q := inV_leaf r h b g.2
    have z := leafV a g.1
    refine ⟨by rw [List.all_cons, z.1, q.1]; rfl, ?_⟩
    unfold inV memT at q ⊢
    rw [List.any_cons, List.any_cons, z.2 r h, q.2]
theorem ro_inT (n : Bool) : RO2 K (gInT n) (rIn K n) := ⟨fun {H C P L v w t u z Q} s c h1 h2 e q => by
  cases u <;> try (cases e; done)
  rename_i xs
  have e' : (if (leaf t && xs.all leaf) = true then some (T.bl (if n then !memT t xs else memT t xs)) else none) = some z := e
  split at e' <;> cases e'
  rename_i h
  rw [Bool.and_eq_true] at h
  obtain ⟨A, B, r0, nd, hP, r2⟩ := s.at h2
  obtain ⟨i, hi, ei⟩ := List.mem_iff_getElem.mp h1
  obtain ⟨w', B', g1, g2, g3⟩ := r0.at (i := i) (t := t) (by rw [List.getElem?_map, List.getElem?_eq_getElem hi, ei]; rfl)
  rw [List.getElem?_map, List.getElem?_eq_getElem hi, ei] at g1
  cases g1
  cases r2 with
  | tup hh rr =>
    rename_i a vs
    obtain ⟨f1, f2⟩ := inV_leaf g2 h.1 rr h.2
    exact ⟨a, vs, rfl, .inr (SqT.of hh), (leafV g2 h.1).1, f1, by rw [f2]; exact q _ H (s.bl _) c⟩⟩
end
end Tq
end

section
set_option Elab.async false
set_option maxRecDepth 100000
set_option maxHeartbeats 4000000
/-! TLs8: dicts. -/
namespace Tq
open PySem PySem.Spec PyProof.Rows L2

section
variable {X : Cx} {pins : List (Addr × Obj)} {σ : L2.St} {H : Hp} {s : Shared}
/-- an empty dict is one of either kind -/
theorem retag {a : Addr} (I : Inv X pins σ H s) (h : H a = some (.dK [])) : Inv X pins σ (upd H a (.dT [])) s := by
  obtain ⟨z, hb, vs, r, o, es, ep, ho, hx, hd, hk, hp, hn⟩ := I.hok a _ h
  cases r
  have hes : es.toList = [] := by
    generalize es.toList = l at hp
    cases hp; rfl
  exact I.write (x := a) (e := a) (t' := s.toks) (h' := s.heap) (by rw [h]; exact trivial) (.inl rfl) (fun b v _ q => q) ⟨o, ho⟩
    ⟨Nat.zero_le _, hb, [], .nil, o, es, ep, ho, hx, hd, by rw [hes]; rfl, List.nodup_nil⟩
theorem untag {a : Addr} (I : Inv X pins σ H s) (h : H a = some (.dT [])) : Inv X pins σ (upd H a (.dK [])) s := by
  obtain ⟨z, hb, xs, r, o, es, ep, ho, hx, hd, hk, hn⟩ := I.hok a _ h
  cases r
  have hes : es.toList = [] := by simpa using hk
  have hes' : es = #[] := by cases es; simp at hes; rw [hes]
  subst hes'
  exact I.write (x := a) (e := a) (t' := s.toks) (h' := s.heap) (by rw [h]; exact trivial) (.inl rfl) (fun b v _ q => q) ⟨o, ho⟩
    ⟨Nat.zero_le _, hb, [], .nil, o, #[], ep, ho, hx, hd, fun _ he => by simp at he, Pairs.nil, List.nodup_nil⟩
theorem upd_self {a : Addr} {u o : HO} (h : H a = some u) : upd (upd H a o) a u = H := by
  funext b
  by_cases e : b = a
  · subst e; rw [upd_same, h]
  · rw [upd_ne e, upd_ne e]
end

/-- what a dict at a tells of the key y -/
def Dg (H : Hp) (a : Addr) (y : V) (r : Option V) : Prop := DGet H a y r ∨ (∃ (ks : List Key) (b : Addr), H a = some (.dK []) ∧ y = .ref b ∧ H b = some (.tup (ks.map kV)) ∧ r = none)
section
variable {X : Cx} {pins : List (Addr × Obj)} {σ : L2.St} {H : Hp} {s : Shared} {a : Addr} {y v : V} {u r : Value} {o : Option V} {A : Around} {E : Value → Shared → Prop}
theorem dg_retag {ks : List Key} {b : Addr} (h : H a = some (.dK [])) (eb : H b = some (.tup (ks.map kV))) : DGet (upd H a (.dT [])) a (.ref b) none := by
  have ne : b ≠ a := ne_of eb h (by intro z; cases z)
  exact .inr ⟨[], ks, b, .inl upd_same, rfl, by rw [upd_ne ne]; exact eb, rfl⟩
theorem dg_back (I : ∀ s', Inv X pins σ H s' → True) : True := trivial
theorem g_getItem {Q : Value → Shared → Prop} (hu : A.units + 1 < cLine) (I : Inv X pins σ H s) (g : DGet H a y (some v)) (ry : RelV y u) (h : ∀ w' s', Inv X pins σ H s' → RelV v w' → Q w' s') :
    wpAny (model X.prog X.w) A (getItem (.ref a) u) Q E s := d_getItem hu I g ry h
theorem g_in {Q : Value → Shared → Prop} (hu : A.units + 1 < cLine) (I : Inv X pins σ H s) (g : Dg H a y o) (ry : RelV y u) (h : ∀ s', Inv X pins σ H s' → Q (.bool o.isSome) s') :
    wpAny (model X.prog X.w) A (compareOp .In u (.ref a)) Q E s := by
  rcases g with g | ⟨ks, b, e, rfl, eb, rfl⟩
  · exact d_in hu I g ry h
  · exact d_in hu (retag I e) (dg_retag e eb) ry fun s' I' => h s' (by have q := untag I' upd_same; rw [upd_self e] at q; exact q)
theorem g_notIn {Q : Value → Shared → Prop} (hu : A.units + 1 < cLine) (I : Inv X pins σ H s) (g : Dg H a y o) (ry : RelV y u) (h : ∀ s', Inv X pins σ H s' → Q (.bool (!o.isSome)) s') :
    wpAny (model X.prog X.w) A (compareOp .NotIn u (.ref a)) Q E s := by
  rcases g with g | ⟨ks, b, e, rfl, eb, rfl⟩
  · exact d_notIn hu I g ry h
  · exact d_notIn hu (retag I e) (dg_retag e eb) ry fun s' I' => h s' (by have q := untag I' upd_same; rw [upd_self e] at q; exact q)
theorem g_get1 {Q : Value → Shared → Prop} (hu : A.units + 1 < cLine) (I : Inv X pins σ H s) (g : Dg H a y o) (ry : RelV y u) (h : ∀ w' s', Inv X pins σ H s' → RelV (o.getD .non) w' → Q w' s') :
    wpAny (model X.prog X.w) A (call (.builtin "dict.get") [.ref a, u]) Q E s := by
  rcases g with g | ⟨ks, b, e, rfl, eb, rfl⟩
  · exact d_get1 hu I g ry h
  · exact d_get1 hu (retag I e) (dg_retag e eb) ry fun w' s' I' => h w' s' (by have q := untag I' upd_same; rw [upd_self e] at q; exact q)
theorem g_get2 {d : V} {Q : Value → Shared → Prop} (hu : A.units + 1 < cLine) (I : Inv X pins σ H s) (g : Dg H a y o) (ry : RelV y u) (rd : RelV d r) (h : ∀ w' s', Inv X pins σ H s' → RelV (o.getD d) w' → Q w' s') :
    wpAny (model X.prog X.w) A (call (.builtin "dict.get") [.ref a, u, r]) Q E s := by
  rcases g with g | ⟨ks, b, e, rfl, eb, rfl⟩
  · exact d_get2 hu I g ry rd h
  · exact d_get2 hu (retag I e) (dg_retag e eb) ry rd fun w' s' I' => h w' s' (by have q := untag I' upd_same; rw [upd_self e] at q; exact q)
/-- the heap behind a[y] = v -/
def Dp' (H : Hp) (a : Addr) (y v : V) (H' : Hp) : Prop := DPut H a y v H' ∨ (∃ (ks : List Key) (b : Addr), H a = some (.dK []) ∧ y = .ref b ∧ H b = some (.tup (ks.map kV)) ∧ H' = upd H a (.dT [(ks, v)]))
theorem g_setItem {H' : Hp} {Q : Unit → Shared → Prop} (hu : A.units + 1 < cLine) (I : Inv X pins σ H s) (g : Dp' H a y v H') (ry : RelV y u) (rv : RelV v r) (h : ∀ s', Inv X pins σ H' s' → Q () s') :
    wpAny (model X.prog X.w) A (setItem (.ref a) u r) Q E s := by
  rcases g with g | ⟨ks, b, e, rfl, eb, rfl⟩
  · exact d_setItem hu I g ry rv h
  · have ne : b ≠ a := ne_of eb e (by intro z; cases z)
    have g' : DPut (upd H a (.dT [])) a (.ref b) v (upd (upd H a (.dT [])) a (.dT (putK [] ks v))) := .inr ⟨[], ks, b, upd_same, rfl, by rw [upd_ne ne]; exact eb, by rw [sizeLine_eq]; decide, rfl⟩
    rw [upd_upd] at g'
    exact d_setItem hu (retag I e) g' ry rv h
end

/-! ### trees -/
theorem eq_keyT (a b : Key) : (keyT a).eq (keyT b) = decide (a = b) := by
  cases a with
  | inl i => cases b with
    | inl j => simp only [keyT, T.eq]; rw [Bool.eq_iff_iff]; simp
    | inr y => simp [keyT, T.eq]
  | inr x => cases b with
    | inl j => simp [keyT, T.eq]
    | inr y => simp only [keyT, T.eq]; rw [Bool.eq_iff_iff]; simp
theorem eqL_keyT : ∀ a b : List Key, eqL (a.map keyT) (b.map keyT) = decide (a = b)
  | [], [] => rfl
  | [], _ :: _ => rfl
  | _ :: _, [] => rfl
  | x :: xs, y :: ys => by
    rw [List.map_cons, List.map_cons, eqL, eq_keyT, eqL_keyT xs ys, Bool.eq_iff_iff]
    simp
theorem eq_keysT (a b : List Key) : (keysT a).eq (keysT b) = decide (a = b) := by
  unfold keysT
  rw [T.eq, eqL_keyT]
theorem k1_key {t : T} (h : k1 t = true) : ∃ k, t = keyT k := by
  cases t <;> first
    | exact ⟨.inl _, rfl⟩
    | exact ⟨.inr _, rfl⟩
    | cases h
theorem k2_keys {t : T} (h : k2 t = true) : ∃ ks, t = keysT ks := by
  cases t <;> try (cases h; done)
  rename_i xs
  have h' : xs.all k1 = true := h
  have : ∃ ks : List Key, xs = ks.map keyT := by
    clear h
    induction xs with
    | nil => exact ⟨[], rfl⟩
    | cons x xs ih =>
      rw [List.all_cons, Bool.and_eq_true] at h'
      obtain ⟨k, rfl⟩ := k1_key h'.1
      obtain ⟨ks, rfl⟩ := ih h'.2
      exact ⟨k :: ks, rfl⟩
  obtain ⟨ks, rfl⟩ := this
  exact ⟨ks, rfl⟩
theorem k1_keyT (k : Key) : k1 (keyT k) = true := by cases k <;> rfl
theorem k2_keysT (k : List Key) : k2 (keysT k) = true := by
  unfold keysT
  show (k.map keyT).all k1 = true
  rw [List.all_map, List.all_eq_true]
  exact fun x _ => k1_keyT x
theorem k1_keysT (k : List Key) : k1 (keysT k) = false := rfl
theorem k2_keyT (k : Key) : k2 (keyT k) = false := by cases k <;> rfl

section
variable {K : PySem.W.Frag} {H : Hp} {W : Addr → Prop}
/-- looked up: both or none -/
theorem dget_rep {κ : Type} [DecidableEq κ] {f : κ → T} (hf : ∀ a b, (f a).eq (f b) = decide (a = b)) (k : κ) : ∀ {kv : List (κ × V)} {ts : List T} {A : List Addr}, Reps K H W (kv.map (·.2)) ts A →
    (dget ((kv.map fun p => f p.1).zip ts) (f k) = none ∧ valV kv k = none) ∨ ∃ r v B, dget ((kv.map fun p => f p.1).zip ts) (f k) = some r ∧ valV kv k = some v ∧ Rep K H W v r B
  | [], ts, A, r => by cases r; exact .inl ⟨rfl, rfl⟩
  | (j, v) :: kv, ts, A, r => by
    cases r with
    | cons a b =>
      rename_i t A' ts' B'
      rw [List.map_cons, List.zip_cons_cons]
      unfold dget
      rw [hf]
      by_cases e : j = k
      · rw [if_pos (decide_eq_true e)]
        exact .inr ⟨_, _, _, rfl, valV_pos e, a⟩
      · rw [if_neg (by simp [e])]
        rcases dget_rep hf k b with ⟨h1, h2⟩ | ⟨r, w, B, h1, h2, h3⟩
        · exact .inl ⟨h1, by rw [valV_neg e]; exact h2⟩
        · exact .inr ⟨r, w, B, h1, by rw [valV_neg e]; exact h2, h3⟩
theorem putK_ne {κ : Type} [DecidableEq κ] {kv : List (κ × V)} {j k : κ} {u v : V} (h : j ≠ k) : putK ((j, u) :: kv) k v = (j, u) :: putK kv k v := by
  unfold putK
  have e : decide (j = k) = false := decide_eq_false h
  rw [List.any_cons, e, Bool.false_or]
  split
  · rw [List.map_cons, if_neg h]
  · rfl
theorem putK_hit {κ : Type} [DecidableEq κ] {kv : List (κ × V)} {k : κ} {u v : V} (h : k ∉ kv.map (·.1)) : putK ((k, u) :: kv) k v = (k, v) :: kv := by
  unfold putK
  rw [List.any_cons, decide_eq_true rfl, Bool.true_or, if_pos rfl, List.map_cons, if_pos rfl]
  congr 1
  have : ∀ p ∈ kv, (if p.1 = k then (p.1, v) else p) = p := fun p hp => if_neg fun (e : p.1 = k) => h (by rw [← e]; exact List.mem_map_of_mem hp)
  exact (List.map_congr_left this).trans (List.map_id' kv)
theorem putK_nodup {κ : Type} [DecidableEq κ] {k : κ} {v : V} : ∀ {kv : List (κ × V)}, (kv.map (·.1)).Nodup → ((putK kv k v).map (·.1)).Nodup ∧ ∀ j, j ∈ (putK kv k v).map (·.1) → j ∈ kv.map (·.1) ∨ j = k
  | [], _ => by
    refine ⟨?_, fun j hj => ?_⟩
    · show [k].Nodup; simp
    · have : j ∈ [k] := hj
      exact .inr (by simpa using this)
  | (j, u) :: kv, h => by
    rw [List.map_cons, List.nodup_cons] at h
    by_cases e : j = k
    · subst e
      rw [putK_hit h.1, List.map_cons, List.nodup_cons]
      exact ⟨h, fun i hi => .inl (by rw [List.map_cons]; exact hi)⟩
    · obtain ⟨h1, h2⟩ := putK_nodup (k := k) (v := v) h.2
      rw [putK_ne e, List.map_cons, List.nodup_cons]
      refine ⟨⟨fun z => ?_, h1⟩, fun i hi => ?_⟩
      · rcases h2 j z with z | z
        · exact h.1 z
        · exact e z
      · rcases List.mem_cons.mp hi with z | z
        · exact .inl (by rw [List.map_cons]; exact z ▸ List.mem_cons_self)
        · rcases h2 i z with z | z
          · exact .inl (by rw [List.map_cons]; exact List.mem_cons_of_mem _ z)
          · exact .inr z
/-- put: the same pairs -/
theorem dput_rep {κ : Type} [DecidableEq κ] {f : κ → T} (hf : ∀ a b, (f a).eq (f b) = decide (a = b)) (k : κ) (v : V) (t : T) : ∀ {kv : List (κ × V)} {L1 : VT}, L1.map (·.1) = kv.map (·.2) → (kv.map (·.1)).Nodup →
    ∃ L2 : VT, L2.map (·.1) = (putK kv k v).map (·.2) ∧ dput ((kv.map fun p => f p.1).zip (L1.map (·.2))) (f k) t = ((putK kv k v).map fun p => f p.1).zip (L2.map (·.2)) ∧ ∃ L3 : VT, ((v, t) :: L1).Perm (L3 ++ L2)
  | [], L1, h, _ => by
    have : L1 = [] := List.map_eq_nil_iff.mp h
    subst this
    exact ⟨[(v, t)], rfl, rfl, [], .refl _⟩
  | (j, u) :: kv, L1, h, nd => by
    cases L1 with
    | nil => simp at h
    | cons p L1 =>
      obtain ⟨u', tu⟩ := p
      simp only [List.map_cons, List.cons.injEq] at h
      obtain ⟨rfl, h⟩ := h
      rw [List.map_cons, List.nodup_cons] at nd
      simp only [List.map_cons, List.zip_cons_cons]
      unfold dput
      rw [hf]
      by_cases e : j = k
      · subst e
        rw [if_pos (decide_eq_true rfl), putK_hit nd.1]
        exact ⟨(v, t) :: L1, by simp [h], by simp, [(u', tu)], .swap _ _ _⟩
      · rw [if_neg (by simp [e]), putK_ne e]
        obtain ⟨L2, h1, h2, L3, h3⟩ := dput_rep hf k v t h nd.2
        refine ⟨(u', tu) :: L2, by simp [h1], by simp [h2], L3, ?_⟩
        exact (List.Perm.swap _ _ _).trans ((h3.cons _).trans List.perm_middle.symm)
end
end Tq
end

section
set_option Elab.async false
set_option maxRecDepth 100000
set_option maxHeartbeats 4000000
/-! TLs9: subscripts, slices, methods. -/
namespace Tq
open PySem PySem.Spec PyProof.Rows L2

section
variable {K : PySem.W.Frag} {σ : L2.St} {ε ε' : Env} {F : Fr} {H H' : Hp} {C : List Addr} {P : List Pin} {L : VT} {v w : V} {t u : T}
/-- what a live dict tells of a live key -/
theorem Sat.dget (s : Sat K H C P L) {o : Bool} {kvs : List (T × T)} (h1 : (v, .dic o kvs) ∈ L) (h2 : (w, t) ∈ L) (hk : kOk o kvs t = true) : ∃ a, v = .ref a ∧ IsD H a ∧
    ((dget kvs t = none ∧ Dg H a w none) ∨ ∃ r y, dget kvs t = some r ∧ DGet H a w (some y) ∧ (r.sh = true → Sat K H C P ((y, r) :: L))) := by
  obtain ⟨A, B, r0, nd, hP, q⟩ := s.at h1
  obtain ⟨A', W', q'⟩ := s.look h2
  have fin : ∀ {y : V} {r : T} {B : List Addr}, Rep K H (fun b => b ∈ C ++ A) y r B → r.sh = true → Sat K H C P ((y, r) :: L) := fun {y r B} q e => by
    rw [q.sh e] at q
    exact ⟨A, .cons (A := []) q r0, nd, hP⟩
  have key1 : ∀ {k : Key}, t = keyT k → w = kV k := fun {k} e => by
    subst e
    cases k <;> (cases q'; rfl)
  have vk : ∀ {vs : List V} {ks : List Key} {D : List Addr}, Reps K H W' vs (ks.map keyT) D → vs = ks.map kV := by
    intro vs ks
    induction ks generalizing vs with
    | nil => intro D r; cases r; rfl
    | cons k ks ih =>
      intro D r
      cases r with
      | cons a b =>
        rw [ih b]
        cases k <;> (cases a; rfl)
  have key2 : ∀ {ks : List Key}, t = keysT ks → ∃ b, w = .ref b ∧ H b = some (.tup (ks.map kV)) := fun {ks} e => by
    subst e
    generalize hg : keysT ks = tt at q'
    unfold keysT at hg
    cases q' <;> try (cases hg; done)
    rename_i b vs _ hb rr
    cases hg
    exact ⟨b, rfl, by rw [hb, vk rr]⟩
  have doK : ∀ {kv : List (Key × V)} {ts : List T} {D : List Addr} {a : Addr}, Rd H a (.dK kv) → (kv = [] → o = true → H a = some (.dK [])) → Reps K H (fun b => b ∈ C ++ A) (kv.map (·.2)) ts D → kvs = (kv.map fun p => keyT p.1).zip ts →
      (Tq.dget kvs t = none ∧ Dg H a w none) ∨ ∃ r y, Tq.dget kvs t = some r ∧ DGet H a w (some y) ∧ (r.sh = true → Sat K H C P ((y, r) :: L)) := by
    intro kv ts D a hr he rr e
    subst e
    have one : ∀ {k : Key}, t = keyT k → (Tq.dget ((kv.map fun p => keyT p.1).zip ts) t = none ∧ Dg H a w none) ∨ ∃ r y, Tq.dget ((kv.map fun p => keyT p.1).zip ts) t = some r ∧ DGet H a w (some y) ∧ (r.sh = true → Sat K H C P ((y, r) :: L)) := fun {k} ek => by
      have ew := key1 ek
      subst ek ew
      rcases dget_rep eq_keyT k rr with ⟨e1, e2⟩ | ⟨r, y, B, e1, e2, e3⟩
      · exact .inl ⟨e1, .inl (.inl ⟨kv, k, hr, rfl, e2.symm⟩)⟩
      · exact .inr ⟨r, y, e1, .inl ⟨kv, k, hr, rfl, e2.symm⟩, fin e3⟩
    cases kv with
    | nil =>
      have hk' : (k1 t || (o && k2 t)) = true := hk
      rw [Bool.or_eq_true, Bool.and_eq_true] at hk'
      rcases hk' with e | ⟨eo, e⟩
      · obtain ⟨k, ek⟩ := k1_key e; exact one ek
      · obtain ⟨ks, ek⟩ := k2_keys e
        obtain ⟨b, e1, e2⟩ := key2 ek
        cases rr
        exact .inl ⟨rfl, .inr ⟨ks, b, he rfl eo, e1, e2, rfl⟩⟩
    | cons p kv =>
      cases rr with
      | cons a b =>
        have hk' : ((k1 (keyT p.1) && k1 t) || (k2 (keyT p.1) && k2 t)) = true := hk
        rw [k2_keyT, Bool.false_and, Bool.or_false, Bool.and_eq_true] at hk'
        obtain ⟨k, ek⟩ := k1_key hk'.2
        exact one ek
  have doT : ∀ {kv : List (List Key × V)} {ts : List T} {D : List Addr} {a : Addr}, Rd H a (.dT kv) → kv ≠ [] → Reps K H (fun b => b ∈ C ++ A) (kv.map (·.2)) ts D → kvs = (kv.map fun p => keysT p.1).zip ts →
      (Tq.dget kvs t = none ∧ Dg H a w none) ∨ ∃ r y, Tq.dget kvs t = some r ∧ DGet H a w (some y) ∧ (r.sh = true → Sat K H C P ((y, r) :: L)) := by
    intro kv ts D a hr hne rr e
    subst e
    cases kv with
    | nil => exact absurd rfl hne
    | cons p kv =>
      have rr' := rr
      cases rr with
      | cons x b =>
        have hk' : ((k1 (keysT p.1) && k1 t) || (k2 (keysT p.1) && k2 t)) = true := hk
        rw [k1_keysT, Bool.false_and, Bool.false_or, Bool.and_eq_true] at hk'
        obtain ⟨ks, ek⟩ := k2_keys hk'.2
        obtain ⟨b, e1, e2⟩ := key2 ek
        subst ek e1
        rcases dget_rep eq_keysT ks rr' with ⟨g1, g2⟩ | ⟨r, y, B, g1, g2, g3⟩
        · exact .inl ⟨g1, .inl (.inr ⟨_, ks, b, hr, rfl, e2, g2.symm⟩)⟩
        · exact .inr ⟨r, y, g1, .inr ⟨_, ks, b, hr, rfl, e2, g2.symm⟩, fin g3⟩
  generalize hkk : T.dic o kvs = tt at q
  cases q <;> try (cases hkk; done)
  · rename_i a kv ts D hh hn rr
    cases hkk
    exact ⟨a, rfl, .inl ⟨_, .inl hh⟩, doK (.inl hh) (fun e _ => by rw [hh, e]) rr rfl⟩
  · rename_i a kv ts D hh hn rr
    cases hkk
    exact ⟨a, rfl, .inr ⟨_, .inl hh⟩, doT (.inl hh) hn.2 rr rfl⟩
  · rename_i a kv ts hh hw hn rr
    cases hkk
    exact ⟨a, rfl, .inl ⟨_, hh⟩, doK hh (fun _ e => nomatch e) rr rfl⟩
  · rename_i a kv ts hh hw hn rr
    cases hkk
    exact ⟨a, rfl, .inr ⟨_, hh⟩, doT hh hn.2 rr rfl⟩
theorem Sat.isD (s : Sat K H C P L) {o : Bool} {kvs : List (T × T)} (h1 : (v, .dic o kvs) ∈ L) : ∃ a, v = .ref a ∧ IsD H a := by
  obtain ⟨A, W, q⟩ := s.look h1
  generalize hkk : T.dic o kvs = tt at q
  cases q <;> try (cases hkk; done)
  · rename_i a kv ts D hh hn rr; exact ⟨a, rfl, .inl ⟨_, .inl hh⟩⟩
  · rename_i a kv ts D hh hn rr; exact ⟨a, rfl, .inr ⟨_, .inl hh⟩⟩
  · rename_i a kv ts hh hw hn rr; exact ⟨a, rfl, .inl ⟨_, hh⟩⟩
  · rename_i a kv ts hh hw hn rr; exact ⟨a, rfl, .inr ⟨_, hh⟩⟩
/-! in a dict -/
def gInD (n : Bool) : T → T → Option T
  | t, .dic o kvs => if kOk o kvs t = true then some (.bl (if n then !(dget kvs t).isSome else (dget kvs t).isSome)) else none
  | _, _ => none
def rDin (n : Bool) : V → V → Hp → VK → Prop := fun x y H Q => ∃ a o, y = .ref a ∧ Dg H a x o ∧ Q (.bl (if n then !o.isSome else o.isSome)) H
theorem ro_inD (n : Bool) : RO2 K (gInD n) (rDin n) := ⟨fun {H C P L v w t u z Q} s c h1 h2 e q => by
  cases u <;> try (cases e; done)
  rename_i o kvs
  have e' : (if kOk o kvs t = true then some (T.bl (if n then !(dget kvs t).isSome else (dget kvs t).isSome)) else none) = some z := e
  split at e' <;> cases e'
  rename_i hk
  obtain ⟨a, ea, _, hh⟩ := s.dget h2 h1 hk
  rcases hh with ⟨e1, e2⟩ | ⟨r, y, e1, e2, _⟩
  · exact ⟨a, none, ea, e2, by rw [e1] at q; exact q _ H (s.bl _) c⟩
  · exact ⟨a, some y, ea, .inl e2, by rw [e1] at q; exact q _ H (s.bl _) c⟩⟩
theorem opr_din {X : Cx} (hu : X.A.units + 1 < cLine) : OpR X (compareOp .In) (rDin false) := by
  intro pins s σ H x y v u Q I rx ry h
  obtain ⟨a, o, rfl, g, q⟩ := h
  cases ry
  exact g_in hu I g rx fun s' I' => ⟨.bl _, H, I', rfl, q⟩
theorem opr_dnotin {X : Cx} (hu : X.A.units + 1 < cLine) : OpR X (compareOp .NotIn) (rDin true) := by
  intro pins s σ H x y v u Q I rx ry h
  obtain ⟨a, o, rfl, g, q⟩ := h
  cases ry
  exact g_notIn hu I g rx fun s' I' => ⟨.bl _, H, I', rfl, q⟩
def cmOf : Cm → CmpOp
  | .eq => .Eq | .ne => .NotEq | .lt => .Lt | .le => .LtE | .gt => .Gt | .ge => .GtE | .is => .Is | .isnot => .IsNot | .isin => .In | .notin => .NotIn
theorem RO2.mono {g g' : T → T → Option T} {r : V → V → Hp → VK → Prop} (h : RO2 K g r) (k : ∀ t u z, g' t u = some z → g t u = some z) : RO2 K g' r := ⟨fun s c h1 h2 e q => h.run s c h1 h2 (k _ _ _ e) q⟩
/-! is True, is False -/
def isB (c : Bool) : T → Bool
  | .bl d => d == c
  | _ => false
def gIsB (n : Bool) : T → T → Option T
  | t, .bl c => some (.bl (if n then !isB c t else isB c t))
  | _, _ => none
def rIsB (n : Bool) : V → V → Hp → VK → Prop := fun x y H Q => ∃ c, y = .bl c ∧ Q (.bl (if n then !decide (x = .bl c) else decide (x = .bl c))) H
theorem isB_val {x : V} {v : Value} (rx : RelV x v) (c : Bool) : plainIs v (.bool c) = true ∧ (v == Value.bool c) = decide (x = .bl c) := by
  cases x with
  | bl b => cases rx; cases b <;> cases c <;> exact ⟨rfl, rfl⟩
  | _ => first | (cases rx; exact ⟨rfl, rfl⟩) | (obtain ⟨t, rfl⟩ := rx; exact ⟨rfl, rfl⟩)
theorem op_isB {X : Cx} : OpR X (compareOp .Is) (rIsB false) := by
  intro pins s σ H x y v u Q I rx ry ⟨c, e, q⟩
  subst e
  cases ry
  obtain ⟨h1, h2⟩ := isB_val rx c
  exact wpAny_is_plain h1 ⟨_, H, I, (by rw [h2]; rfl), q⟩
theorem op_notB {X : Cx} : OpR X (compareOp .IsNot) (rIsB true) := by
  intro pins s σ H x y v u Q I rx ry ⟨c, e, q⟩
  subst e
  cases ry
  obtain ⟨h1, h2⟩ := isB_val rx c
  exact wpAny_isNot_plain h1 ⟨_, H, I, (by rw [h2]; rfl), q⟩
theorem Sat.isB {K : PySem.W.Frag} {H : Hp} {C : List Addr} {P : List Pin} {L : VT} {v : V} {t : T} (s : Sat K H C P L) (h : (v, t) ∈ L) (c : Bool) : decide (v = .bl c) = Tq.isB c t := by
  obtain ⟨A, W, r⟩ := s.look h
  cases r <;> first | (simp [Tq.isB]; done) | (cases c <;> simp [Tq.isB])
theorem ro_isB {K : PySem.W.Frag} (n : Bool) : RO2 K (gIsB n) (rIsB n) := ⟨fun {H C P L v w t u z Q} s c h1 h2 e q => by
  cases u <;> try (cases e; done)
  cases e
  exact ⟨_, s.isBl h2, by rw [s.isB h1]; exact q _ H (s.bl _) c⟩⟩
theorem opc (X : Cx) (hu : X.A.units + 65 < cLine) (o : Cm) : ∃ r, OpR X (compareOp (cmOf o)) r ∧ RO2 X.K (fun t u => (cm o t u).map .bl) r := by
  have intc : ∀ (f : Int → Int → Bool) (o : Cm), (∀ t u z, (cm o t u).map T.bl = some z → gInt f t u = some z) → RO2 X.K (fun t u => (cm o t u).map .bl) (rI0 fun i j => .bl (f i j)) := fun f o h => (ro_int f).mono h
  cases o with
  | eq =>
    refine ⟨_, opr_or op_eq (op_eqD (by omega)), (ro_eqS).or ro_eqD fun t u z e => ?_⟩
    obtain ⟨b, e0, rfl⟩ := Option.map_eq_some_iff.mp e
    have e' : (if (sc2 t u || (t.dp 8 && u.dp 8)) = true then some (t.eq u) else none) = some b := e0
    by_cases h : (sc2 t u || (t.dp 8 && u.dp 8)) = true
    · rw [if_pos h] at e'
      cases e'
      rw [Bool.or_eq_true] at h
      rcases h with h | h
      · exact .inl (by unfold gEqS; rw [if_pos h]; rfl)
      · exact .inr (by unfold gEqD; rw [if_pos h]; rfl)
    · rw [if_neg h] at e'; cases e'
  | ne =>
    refine ⟨_, opr_or op_ne (op_neD (by omega)), (ro_neS).or ro_neD fun t u z e => ?_⟩
    obtain ⟨b, e0, rfl⟩ := Option.map_eq_some_iff.mp e
    have e' : (if (sc2 t u || (t.dp 8 && u.dp 8)) = true then some (!t.eq u) else none) = some b := e0
    by_cases h : (sc2 t u || (t.dp 8 && u.dp 8)) = true
    · rw [if_pos h] at e'
      cases e'
      rw [Bool.or_eq_true] at h
      rcases h with h | h
      · exact .inl (by unfold gEqS; rw [if_pos h]; rfl)
      · exact .inr (by unfold gEqD; rw [if_pos h]; rfl)
    · rw [if_neg h] at e'; cases e'
  | lt => exact ⟨_, L2.opB0 fun _ _ _ _ _ _ _ q => lt_int q, intc (fun i j => decide (i < j)) .lt fun t u z e => by cases t <;> cases u <;> first | exact e | cases e⟩
  | le => exact ⟨_, L2.opB0 fun _ _ _ _ _ _ _ q => le_int q, intc (fun i j => decide (i ≤ j)) .le fun t u z e => by cases t <;> cases u <;> first | exact e | cases e⟩
  | gt => exact ⟨_, L2.opB0 fun _ _ _ _ _ _ _ q => gt_int q, intc (fun i j => decide (j < i)) .gt fun t u z e => by cases t <;> cases u <;> first | exact e | cases e⟩
  | ge => exact ⟨_, L2.opB0 fun _ _ _ _ _ _ _ q => ge_int q, intc (fun i j => decide (j ≤ i)) .ge fun t u z e => by cases t <;> cases u <;> first | exact e | cases e⟩
  | is => exact ⟨_, opr_or op_isN op_isB, ro_is.or (ro_isB false) fun t u z e => by
    cases u with
    | non => left; cases t <;> exact e
    | bl c => right; cases t <;> exact e
    | _ => cases e⟩
  | isnot => exact ⟨_, opr_or op_notN op_notB, ro_isnot.or (ro_isB true) fun t u z e => by
    cases u with
    | non => left; cases t <;> exact e
    | bl c => right; cases t <;> exact e
    | _ => cases e⟩
  | isin =>
    refine ⟨_, opr_or (op_inD (by omega)) (opr_or op_in_seq (opr_din (by omega))), (ro_inL).or ((ro_inT false).or (ro_inD false) (g := fun t u => (gInT false t u).or (gInD false t u)) fun t u z e => ?_) fun t u z e => ?_⟩
    · cases h : gInT false t u with
      | none => rw [h] at e; exact .inr e
      | some y => rw [h] at e; exact .inl e
    · obtain ⟨b, e0, rfl⟩ := Option.map_eq_some_iff.mp e
      cases u <;> try (cases e0; done)
      · rename_i xs
        have e' : (if (leaf t && xs.all leaf) = true then some (memT t xs) else none) = some b := e0
        split at e' <;> cases e'
        rename_i h
        refine .inr ?_
        first | (simp only [gInT, gInD, h, if_true]; done) | (simp only [gInT, gInD, h, if_true]; rfl)
      · rename_i o xs
        have e' : (if (t.dp 7 && dpL 7 xs) = true then some (memT t xs) else none) = some b := e0
        split at e' <;> cases e'
        rename_i h
        refine .inl ?_
        first | (simp only [gInL, h, if_true]; done) | (simp only [gInL, h, if_true]; rfl)
      · rename_i o kvs
        have e' : (if kOk o kvs t = true then some (dget kvs t).isSome else none) = some b := e0
        split at e' <;> cases e'
        rename_i h
        refine .inr ?_
        first | (simp only [gInT, gInD, h, if_true]; done) | (simp only [gInT, gInD, h, if_true]; rfl)
  | notin =>
    refine ⟨_, opr_or (op_notInD (by omega)) (opr_or op_notIn_seq (opr_dnotin (by omega))), (ro_notinL).or ((ro_inT true).or (ro_inD true) (g := fun t u => (gInT true t u).or (gInD true t u)) fun t u z e => ?_) fun t u z e => ?_⟩
    · cases h : gInT true t u with
      | none => rw [h] at e; exact .inr e
      | some y => rw [h] at e; exact .inl e
    · obtain ⟨b, e0, rfl⟩ := Option.map_eq_some_iff.mp e
      cases u <;> try (cases e0; done)
      · rename_i xs
        have e' : (if (leaf t && xs.all leaf) = true then some (!memT t xs) else none) = some b := e0
        split at e' <;> cases e'
        rename_i h
        refine .inr ?_
        first | (simp only [gInT, gInD, h, if_true]; done) | (simp only [gInT, gInD, h, if_true]; rfl)
      · rename_i o xs
        have e' : (if (t.dp 7 && dpL 7 xs) = true then some (!memT t xs) else none) = some b := e0
        split at e' <;> cases e'
        rename_i h
        refine .inl ?_
        first | (simp only [gInL, h, if_true]; done) | (simp only [gInL, h, if_true]; rfl)
      · rename_i o kvs
        have e' : (if kOk o kvs t = true then some (!(dget kvs t).isSome) else none) = some b := e0
        split at e' <;> cases e'
        rename_i h
        refine .inr ?_
        first | (simp only [gInT, gInD, h, if_true]; done) | (simp only [gInT, gInD, h, if_true]; rfl)
end
end Tq
end

section
set_option Elab.async false
set_option maxRecDepth 100000
set_option maxHeartbeats 4000000
/-! TLs10: subscripts, slices, methods, at the level of expressions. -/
namespace Tq
open PySem PySem.Spec PyProof.Rows L2

/-! the judgement of statements -/
/-- slots outside S stay -/
structure SI (S : Nat → Prop) (σ σ' : L2.St) : Prop where
  len : σ'.length = σ.length
  rest : ∀ j, ¬ S j → σ'[j]? = σ[j]?
theorem SI.rfl {S : Nat → Prop} {σ : L2.St} : SI S σ σ := ⟨Eq.refl _, fun _ _ => Eq.refl _⟩
theorem SI.trans {S : Nat → Prop} {σ σ' σ'' : L2.St} (h : SI S σ σ') (g : SI S σ' σ'') : SI S σ σ'' := ⟨g.len.trans h.len, fun j n => (g.rest j n).trans (h.rest j n)⟩
theorem SI.set {S : Nat → Prop} {σ : L2.St} {i : Nat} {v : Option V} (h : S i) : SI S σ (σ.set i v) := ⟨List.length_set, fun j hj => List.getElem?_set_ne (fun e => hj (by rw [← e]; exact h))⟩
def SO (K : PySem.W.Frag) (S : Nat → Prop) (σ : L2.St) (F : Fr) (D : Ends) : O → Prop
  | .nx ε' => ∀ σ' H', SI S σ σ' → SR K σ' ε' F H' → D.nx σ' H'
  | .ret t ε' => ∀ v σ' H', SI S σ σ' → SR K σ' ε' (F.push (v, t)) H' → D.rt v H'
  | .brk ε' => ∀ σ' H', SI S σ σ' → SR K σ' ε' F H' → D.bk σ' H'
  | .ct ε' => ∀ σ' H', SI S σ σ' → SR K σ' ε' F H' → D.ct σ' H'
  | _ => False
theorem SO.from {K : PySem.W.Frag} {S : Nat → Prop} {σ σ' : L2.St} {F : Fr} {D : Ends} {o : O} (i : SI S σ σ') (h : SO K S σ F D o) : SO K S σ' F D o := by
  cases o with
  | nx ε => exact fun σ2 H2 j s => h σ2 H2 (i.trans j) s
  | ret t ε => exact fun v σ2 H2 j s => h v σ2 H2 (i.trans j) s
  | brk ε => exact fun σ2 H2 j s => h σ2 H2 (i.trans j) s
  | ct ε => exact fun σ2 H2 j s => h σ2 H2 (i.trans j) s
  | ex x ε => exact h.elim
  | no => exact h.elim
def tS (K : PySem.W.Frag) (S : Nat → Prop) (f : Env → O) : TS := fun D σ H => ∃ ε F, SR K σ ε F H ∧ SO K S σ F D (f ε)
/-- values from the left -/
def tV (K : PySem.W.Frag) (f : Env → R (List T)) : TA := fun σ H Q => ∃ ε F ts ε', SR K σ ε F H ∧ f ε = .ok ts ε' ∧ ∀ vs H', vs.length = ts.length → SR K σ ε' (F.pushs (vs.zip ts)) H' → Q vs H'

section
variable {X : Cx} {e : Expr} {st : Stmt}
theorem pe_two {t t1 t2 : TE} (h1 : PE X e t1) (h2 : PE X e t2) (k : ∀ σ H Q, t σ H Q → t1 σ H Q ∨ t2 σ H Q) : PE X e t := pe_imp (pe_or2 h1 h2) k
end
section
variable {K : PySem.W.Frag} {σ : L2.St} {ε ε' : Env} {F : Fr} {H H' : Hp} {C : List Addr} {P : List Pin} {L : VT} {v w : V} {t u : T}
theorem ixOf_ixN (n : Nat) (i : Int) : ixOf n i = ixN n i := rfl
theorem clip_sIx (n d : Nat) (o : Option Int) : clip n d o = HT.sIx n d o := by
  cases o with
  | none => rfl
  | some v =>
    show (if v < 0 then (max (v + (n : Int)) 0).toNat else min v.toNat n) = (if v < 0 then (v + (n : Int)).toNat else min v.toNat n)
    split <;> omega
theorem map_cut {α β : Type} (f : α → β) (xs : List α) (lo hi : Option Int) : (cut xs lo hi).map f = cut (xs.map f) lo hi := by
  unfold cut
  rw [List.map_take, List.map_drop, List.length_map]
theorem cut_cutV (xs : List V) (lo hi : Option Int) : cut xs lo hi = cutV xs lo hi := by
  unfold cut cutV
  rw [clip_sIx, clip_sIx]
theorem cut_whole {α : Type} {xs : List α} {lo hi : Option Int} {n : Nat} (hn : n = xs.length) (h : HT.sIx n 0 lo = 0 ∧ HT.sIx n n hi = n) : cut xs lo hi = xs := by
  subst hn
  unfold cut
  rw [clip_sIx, clip_sIx, h.1, h.2, List.drop_zero, Nat.sub_zero, List.take_length]
theorem cut_perm {α : Type} (L1 : List α) (lo hi : Option Int) : ∃ L3 : List α, L1.Perm (L3 ++ cut L1 lo hi) := by
  unfold cut
  refine ⟨L1.take (clip L1.length 0 lo) ++ (L1.drop (clip L1.length 0 lo)).drop (clip L1.length L1.length hi - clip L1.length 0 lo), ?_⟩
  conv => lhs; rw [← List.take_append_drop (clip L1.length 0 lo) L1, ← List.take_append_drop (clip L1.length L1.length hi - clip L1.length 0 lo) (L1.drop (clip L1.length 0 lo))]
  rw [List.append_assoc]
  exact (List.perm_append_comm).append_left _
/-- an item: copied where it is shared, else taken out of a value on top -/
theorem SR.item {p : Op} (s : SR K σ ε (F.op v p) H) (ok : OpOk σ v p) (hx : pk ε p = some t) {xs : List T} (e : seqOf t = some xs) {j : Nat} {r : T} (hj : xs[j]? = some r) (hs : p.isS = true → r.sh = true) :
    ∃ (a : Addr) (vs : List V) (w : V), v = .ref a ∧ Sq H t a vs ∧ vs.length = xs.length ∧ vs[j]? = some w ∧ SR K σ ε (F.push (w, r)) H := by
  by_cases hr : r.sh = true
  · obtain ⟨a, L1, h1, h2, h3, h4⟩ := s.sat.seq (s.live hx ok fun t' q => F.op_mem q) e
    subst h2
    rw [List.getElem?_map] at hj
    obtain ⟨q, hq, rfl⟩ := Option.map_eq_some_iff.mp hj
    refine ⟨a, _, q.1, h1, h3, by simp, by rw [List.getElem?_map, hq]; rfl, ?_⟩
    have s2 := h4 q (List.mem_of_getElem? hq) hr
    have s3 : SR K σ ε ((F.op v p).push q) H := SR.make s.al s2 s.ch
    exact s3.under
  · cases p with
    | s i => exact absurd (hs rfl) hr
    | t t' =>
      obtain ⟨a, L1, h1, h2, h3, h4⟩ := s.items ok hx e fun z => nomatch z
      subst h2
      rw [List.getElem?_map] at hj
      obtain ⟨q, hq, rfl⟩ := Option.map_eq_some_iff.mp hj
      refine ⟨a, _, q.1, h1, h3, by simp, by rw [List.getElem?_map, hq]; rfl, h4.al, h4.ch, ?_⟩
      obtain ⟨l1, l2, e1, e2⟩ := List.append_of_mem (List.mem_of_getElem? hq)
      have s4 : Sat K H F.C F.P ((l1 ++ q :: l2 ++ F.R) ++ slots σ ε) := h4.sat
      have pm : (l1 ++ q :: l2 ++ F.R ++ slots σ ε).Perm (l1 ++ (l2 ++ (q :: (F.R ++ slots σ ε)))) := by
        rw [List.append_assoc, List.append_assoc]
        refine List.Perm.append_left l1 ?_
        show (q :: (l2 ++ (F.R ++ slots σ ε))).Perm _
        exact List.perm_middle.symm
      exact ((s4.perm pm).dropL).dropL
end

def gIdx (sx _sy : Bool) (t u : T) : Option T := (getI t u).bind fun r => if (sx || isDi (some t)) && !r.sh then none else some r
section
variable {X : Cx} {a b : Expr} {pos : Pos} {ir jr : E} {f f' : Env → R T}
theorem pe_idx' (hu : X.A.units + 1 < cLine) (ha : PE X a (tO X.K (asO ir f))) (hb : PE X b (tO X.K (asO jr f'))) (hs : PlainIx b) : PE X (.Subscript a b pos) (tE X.K (two ir jr f f' gIdx)) := by
  refine pe_two (pe_ix (ix_list.or ix_tup) ha hb hs) (pe_dget hu ha hb hs) fun σ H Q ⟨ε, F, t, ε', s, e, k⟩ => ?_
  obtain ⟨x, ε1, y, t1, t2, h1, h3, hx, hy, h4⟩ := two_look e
  obtain ⟨r, g1, g2⟩ := Option.bind_eq_some_iff.mp h4
  have hr : (x.isS || isDi (some t1)) = true → r.sh = true := fun z => by
    rw [z] at g2
    cases hh : r.sh with
    | true => rfl
    | false => rw [hh] at g2; cases g2
  have er : r = t := by
    split at g2
    · cases g2
    · cases g2; rfl
  subst er
  have go : ∀ {xs : List T} {i : Int}, seqOf t1 = some xs → t2 = .int i → (ixOf xs.length i).bind (fun j => xs[j]?) = some r → tOp (fun x y H Q => rIxL X.K x y H Q ∨ rIxT X.K x y H Q) (tO X.K (asO ir f)) (tO X.K (asO jr f')) σ H Q := by
    intro xs i e1 e2 e3
    subst e2
    refine ⟨ε, F, x, ε1, s, h1, fun v H1 s1 ok1 => ⟨ε1, F.op v x, y, ε', s1, h3, fun w H2 s2 ok2 => ?_⟩⟩
    obtain rfl := s2.int2 ok2 hy
    obtain ⟨j, j1, j2⟩ := Option.bind_eq_some_iff.mp e3
    obtain ⟨p, vs, q, rfl, q1, q2, q3, q4⟩ := s2.over.item ok1 hx e1 j2 fun z => hr (by rw [z]; rfl)
    have at1 : atI vs i = some q := by
      unfold atI
      rw [q2, ← ixOf_ixN, j1]
      exact q3
    cases t1 with
    | tup ys => exact .inr ⟨p, vs, i, q, rfl, rfl, SqT.of (show H2 p = _ from q1), at1, k _ _ q4⟩
    | lst o ys => exact .inl ⟨p, vs, i, q, rfl, rfl, SqL.of (show H2 p = _ from q1), at1, k _ _ q4⟩
    | _ => cases e1
  cases t1 with
  | tup xs =>
    cases t2 with
    | int i => exact .inl (go rfl rfl g1)
    | _ => cases g1
  | lst o xs =>
    cases t2 with
    | int i => exact .inl (go rfl rfl g1)
    | _ => cases g1
  | dic o kvs =>
    have g1' : (if kOk o kvs t2 = true then Tq.dget kvs t2 else none) = some r := g1
    split at g1'
    · rename_i hk
      refine .inr ⟨ε, F, x, ε1, s, h1, fun v H1 s1 ok1 => ⟨ε1, F.op v x, y, ε', s1, h3, fun w H2 s2 ok2 => ?_⟩⟩
      obtain ⟨p, rfl, _, hh⟩ := s2.sat.dget (s2.live hx ok1 fun t' q => Fr.op_sub _ (F.op_mem q)) (s2.live hy ok2 fun t' q => Fr.op_mem _ q) hk
      rcases hh with ⟨e1, _⟩ | ⟨r', q, e1, e2, e3⟩
      · rw [g1'] at e1; cases e1
      · rw [g1'] at e1; cases e1
        refine ⟨p, q, rfl, e2, k _ _ ?_⟩
        have hsh : r.sh = true := hr (by simp [isDi])
        have q' : SR X.K σ ε' (((F.op (.ref p) x).op w y).push (q, r)) H2 := SR.make s2.al (e3 hsh) s2.ch
        exact q'.under.under
    · cases g1'
  | _ => cases g1

/-! ### parts of a slice -/
theorem oInt_some {e : E} {t : T} {l : Option Int} (hn : e ≠ .non) (h : oInt e t = some l) : ∃ i, t = .int i ∧ l = some i := by
  cases e <;> first
    | exact absurd rfl hn
    | (cases t <;> first | (cases h; exact ⟨_, rfl, rfl⟩) | cases h)
def tP (K : PySem.W.Frag) (e : E) (f : Env → R T) : TO := fun σ H Q => ∃ ε F t ε' l, SR K σ ε F H ∧ f ε = .ok t ε' ∧ oInt e t = some l ∧ ∀ H', SR K σ ε' F H' → Q l H'
theorem po_non' {f : Env → R T} (hf : ∀ ε, f ε = .ok .non ε) : PO X none (tP X.K .non f) := by
  refine ⟨fun pins s σ H Q I ⟨ε, F, t, ε', l, sr, e, el, k⟩ => ?_⟩
  rw [hf] at e
  cases e
  cases el
  exact po_none.run pins s σ H Q I (k H sr)
theorem po_some' {e : Expr} {er : E} (h : PE X e (tE X.K f)) (hn : er ≠ .non) : PO X (some e) (tP X.K er f) := by
  refine ⟨fun pins s σ H Q I ⟨ε, F, t, ε', l, sr, e, el, k⟩ => ?_⟩
  refine (po_some h).run pins s σ H Q I ⟨ε, F, t, ε', sr, e, fun v H' s' => ?_⟩
  obtain ⟨i, rfl, rfl⟩ := oInt_some hn el
  exact ⟨_, s'.sat.isInt List.mem_cons_self, k H' s'.pop⟩
def rSlS : V → Option Int → Option Int → Hp → VK → Prop := fun x lo hi H Q => (∃ a o xs, x = .ref a ∧ H a = some (.frz o (.lst xs)) ∧ ∀ p, H p = none → Q (.ref p) (upd H p (.lst (cutV xs lo hi))))
theorem pe_slice' {lo hi : Option Expr} {p2 : Pos} {fl fh : Env → R T} {el eh : E} (ha : PE X a (tO X.K (asO ir f))) (hl : PO X lo (tP X.K el fl)) (hh : PO X hi (tP X.K eh fh)) :
    PE X (.Subscript a (.Slice lo hi none p2) pos) (tE X.K fun ε => bnd (asO ir f ε) fun x ε1 => bnd (fl ε1) fun l ε2 => bnd (fh ε2) fun h ε3 => match pk ε3 x, oInt el l, oInt eh h with
      | some t, some l, some h => ofO (cutT x.isS t l h) ε3
      | _, _, _ => .no) := by
  refine pe_imp (pe_slice (sl_list.or sl_tupA) ha hl hh) fun σ H Q ⟨ε, F, t, ε', s, e, k⟩ => ?_
  obtain ⟨x, ε1, h1, e⟩ := bnd_inv e
  obtain ⟨l, ε2, h2, e⟩ := bnd_inv e
  obtain ⟨h, ε3, h3, e⟩ := bnd_inv e
  cases hx : pk ε3 x with
  | none => rw [hx] at e; cases e
  | some t0 =>
    cases hl' : oInt el l with
    | none => rw [hx, hl'] at e; cases e
    | some lv =>
      cases hh' : oInt eh h with
      | none => rw [hx, hl', hh'] at e; cases e
      | some hv =>
        rw [hx, hl', hh'] at e
        obtain ⟨e9, rfl⟩ := ofO_inv e
        refine ⟨ε, F, x, ε1, s, h1, fun v H1 s1 ok1 => ⟨ε1, F.op v x, l, ε2, lv, s1, h2, hl', fun H2 s2 => ⟨ε2, F.op v x, h, _, hv, s2, h3, hh', fun H3 s3 => ?_⟩⟩⟩
        cases t0 with
        | tup xs =>
          have e' : (if (x.isS && !shL xs) = true then none else some (T.tup (cut xs lv hv))) = some t := e9
          by_cases hc : (x.isS && !shL xs) = true
          · rw [if_pos hc] at e'; cases e'
          rw [if_neg hc] at e'
          cases e'
          have hsh : x.isS = true → shL xs = true := fun z => by
            rw [z] at hc
            simpa using hc
          obtain ⟨p, L1, rfl, rfl, q1, s4⟩ := s3.items ok1 hx rfl hsh
          refine .inr ⟨p, _, rfl, SqT.of (show H3 p = _ from q1), fun hw => k _ _ ?_, fun hw q hq => k _ _ ?_⟩
          · have s5 := s3.val ok1 hx fun z => by rw [T.sh]; exact hsh z
            have ec : cut (L1.map (·.2)) lv hv = L1.map (·.2) := cut_whole (n := (L1.map (·.1)).length) (by simp) hw
            rw [ec]
            exact s5
          · have s4' : Sat X.K H3 F.C F.P (L1 ++ (F.R ++ slots σ ε')) := by have := s4.sat; rw [← List.append_assoc]; exact this
            obtain ⟨L3, pm⟩ := cut_perm L1 lv hv
            have s5 : Sat X.K H3 F.C F.P (cut L1 lv hv ++ (F.R ++ slots σ ε')) := by
              have := s4'.perm (pm.append_right _)
              rw [List.append_assoc] at this
              exact this.dropL
            have s6 := s5.newTup hq
            rw [map_cut, map_cut, cut_cutV] at s6
            exact ⟨s4.al, s4.ch.upd, s6⟩
        | lst o xs =>
          have e' : (if shL xs = true then some (T.lst true (cut xs lv hv)) else none) = some t := e9
          by_cases hc : shL xs = true
          · rw [if_pos hc] at e'
            cases e'
            obtain ⟨p, L1, rfl, rfl, q1, s4⟩ := s3.items ok1 hx rfl fun _ => hc
            refine .inl ⟨p, _, rfl, SqL.of (show H3 p = _ from q1), fun q hq => k _ _ ?_⟩
            have s4' : Sat X.K H3 F.C F.P (L1 ++ (F.R ++ slots σ ε')) := by have := s4.sat; rw [← List.append_assoc]; exact this
            obtain ⟨L3, pm⟩ := cut_perm L1 lv hv
            have s5 : Sat X.K H3 F.C F.P (cut L1 lv hv ++ (F.R ++ slots σ ε')) := by
              have := s4'.perm (pm.append_right _)
              rw [List.append_assoc] at this
              exact this.dropL
            have s6 := s5.newLst s4.ch hq
            rw [map_cut, map_cut, cut_cutV] at s6
            exact ⟨s4.al, s4.ch.upd, s6⟩
          · rw [if_neg hc] at e'; cases e'
        | scr xs =>
          cases e9
          obtain ⟨A, B, r0, nd, hP, q⟩ := s3.sat.at (s3.live hx ok1 fun t' q => F.op_mem q)
          have hx2 : ∃ (ap : Addr) (vs0 : List V), v = .ref ap ∧ SqL X.K H3 ap vs0 ∧ Reps X.K H3 (fun b => b ∈ (F.op v x).C ++ A) vs0 xs [] := by
            cases q with
            | scr hr hw rr => exact ⟨_, _, rfl, .inl hr, rr⟩
            | scrK hr rr => exact ⟨_, _, rfl, .inr hr, rr⟩
          obtain ⟨ap, vs0, rfl, hsq, rr⟩ := hx2
          obtain ⟨L1, e1, e2⟩ := reps_pair rr
          refine .inl ⟨_, _, rfl, hsq, fun q hq => k _ _ ?_⟩
          have s4 : Sat X.K H3 (F.op (.ref ap) x).C (F.op (.ref ap) x).P (L1 ++ ((F.op (.ref ap) x).R ++ slots σ ε')) := ⟨A, by have q9 := rr.append r0; rw [← e1, ← e2, ← List.map_append, ← List.map_append] at q9; exact q9, nd, hP⟩
          obtain ⟨L3, pm⟩ := cut_perm L1 lv hv
          have s5 : Sat X.K H3 (F.op (.ref ap) x).C (F.op (.ref ap) x).P (cut L1 lv hv ++ ((F.op (.ref ap) x).R ++ slots σ ε')) := by
            have := s4.perm (pm.append_right _)
            rw [List.append_assoc] at this
            exact this.dropL
          have s6 := s5.newLst s3.ch hq
          rw [map_cut, map_cut, cut_cutV, e1, e2] at s6
          have s7 : SR X.K σ ε' ((F.op (.ref ap) x).push (_, .lst true (cut xs lv hv))) (upd H3 q _) := ⟨s3.al, s3.ch.upd, s6⟩
          exact s7.under
        | _ => cases e9
end
end Tq
end

section
set_option Elab.async false
set_option maxRecDepth 100000
set_option maxHeartbeats 4000000
/-! TLs11: names, methods, stores. -/
namespace Tq
open PySem PySem.Spec PyProof.Rows L2

def isStar : Expr → Bool
  | .Starred _ _ => true
  | _ => false
def isCall : Expr → Bool
  | .Call _ _ _ _ => true
  | _ => false
theorem star1 {e : Expr} {es : List Expr} {env : PySem.Env} (h : isStar e = false) : starEach (e :: es) env = (false, eval e env) :: starEach es env := by
  cases e <;> first | rfl | cases h
theorem abase {o : Expr} {m : Str} {env : PySem.Env} (h : isCall o = false) : attributeBase o m env (eval o env) = eval o env := by
  cases o <;> first | rfl | cases h
theorem few1 {e : Expr} {env : PySem.Env} {cpos : Pos} (h : isStar e = false) : ((backTo cpos (starEach [e] env)).all (fun x => !x.1) && (backToKw cpos (keywordEach [] env)).all (fun x => x.1.isSome)
      && decide (([e] : List Expr).length + ([] : List Keyword).length + (if ([] : List Keyword).isEmpty then 0 else 1) < 30)) = true := by
  rw [star1 h]; rfl
theorem m1_of {X : Cx} {o e : Expr} {m : Str} {apos cpos : Pos} (ho : isCall o = false) (he : isStar e = false) (hl : (apos.endLine == cpos.line) = true) : M1 X o m apos e cpos :=
  ⟨abase ho, few1 he, hl, by rw [star1 he]; rfl⟩
theorem m2_of {X : Cx} {o e f : Expr} {m : Str} {apos cpos : Pos} (ho : isCall o = false) (he : isStar e = false) (hf : isStar f = false) (hl : (apos.endLine == cpos.line) = true) : M2 X o m apos e f cpos :=
  ⟨abase ho, by rw [star1 he, star1 hf]; rfl, hl, by rw [star1 he, star1 hf]; rfl⟩

section
variable {K : PySem.W.Frag} {σ : L2.St} {ε ε' : Env} {F : Fr} {H H' : Hp} {C : List Addr} {P : List Pin} {L : VT} {v w : V} {t u : T} {i : Nat}
theorem st_idem {x : Option T} : st (st ε i none) i x = st ε i x := st_st
theorem SR.frzS (s : SR K σ ε F H) (e : gt ε i = some t) : ∃ v, σ[i]? = some (some v) ∧ SR K σ (if t.sh then ε else st ε i (some t.frz)) (F.push (v, t.frz)) H := by
  by_cases h : t.sh = true
  · rw [if_pos h, frz_sh t h]; exact s.copy e h
  · rw [if_neg h]
    obtain ⟨v, h1, s1⟩ := s.take e
    have s2 : SR K σ (st ε i none) (F.push (v, t.frz)) H := ⟨s1.al, s1.ch, Sat.frz (L := F.R ++ slots σ (st ε i none)) s1.sat⟩
    have s3 : SR K σ (st ε i none) ((F.push (v, t.frz)).push (v, t.frz)) H := ⟨s2.al, s2.ch, Sat.copy (L := (v, t.frz) :: F.R ++ slots σ (st ε i none)) s2.sat List.mem_cons_self (sh_frz t)⟩
    have s4 := SR.fill (F := F.push (v, t.frz)) s3 h1
    rw [st_idem] at s4
    exact ⟨v, h1, s4⟩
/-- an owned list in a slot is opened: its object, its items, the rest -/
theorem SR.openS {xs : List T} (s : SR K σ ε F H) (e : gt ε i = some (.lst true xs)) : ∃ (a : Addr) (L1 : VT), σ[i]? = some (some (.ref a)) ∧ L1.map (·.2) = xs ∧ H a = some (.lst (L1.map (·.1))) ∧
    SR K σ (st ε i none) ⟨a :: F.C, F.P, L1 ++ F.R⟩ H ∧ (∀ p ∈ F.P, p.1 ≠ a) := by
  obtain ⟨v, h1, s1⟩ := s.take e
  obtain ⟨a, L1, rfl, h2, h3, h4, h5, h6⟩ := Sat.openL (L := F.R ++ slots σ (st ε i none)) s1.sat
  refine ⟨a, L1, h1, h2, h3, ⟨s1.al, fun b hb => ?_, by have := h4; rw [← List.append_assoc] at this; exact this⟩, h5⟩
  rcases List.mem_cons.mp hb with rfl | hb
  · rw [h3]; exact fun z => nomatch z
  · exact s1.ch b hb
/-- .. and closed over other items -/
theorem SR.closeS {a : Addr} {L1 L2 : VT} (s : SR K σ (st ε i none) ⟨a :: F.C, F.P, L2 ++ F.R⟩ H) (hi : σ[i]? = some (some (.ref a))) (e : H a = some (.lst (L1.map (·.1)))) (hP : ∀ p ∈ F.P, p.1 ≠ a) :
    SR K σ (st ε i none) ⟨a :: F.C, F.P, L2 ++ F.R⟩ (upd H a (.lst (L2.map (·.1)))) ∧ SR K σ (st ε i (some (.lst true (L2.map (·.2))))) F (upd H a (.lst (L2.map (·.1)))) := by
  have w := Sat.write (C := F.C) (P := F.P) (o := .lst (L2.map (·.1))) (s := s.sat) e (fun _ z => nomatch z) hP
  refine ⟨⟨s.al, s.ch.upd, w⟩, ?_⟩
  have c := Sat.closeL (L1 := L2) (L := F.R ++ slots σ (st ε i none)) (by have := w; rw [List.append_assoc] at this; exact this) upd_same hP
  have s2 : SR K σ (st ε i none) (F.push (.ref a, .lst true (L2.map (·.2)))) (upd H a (.lst (L2.map (·.1)))) := ⟨s.al, fun b hb => (s.ch.upd) b (List.mem_cons_of_mem _ hb), c⟩
  have s3 := s2.fill hi
  rw [st_idem] at s3
  exact s3
/-- the items of an opened list in another order, some dropped -/
theorem SR.items_perm {a : Addr} {L1 L2 L3 : VT} (s : SR K σ ε ⟨a :: F.C, F.P, L1 ++ F.R⟩ H) (h : L1.Perm (L3 ++ L2)) : SR K σ ε ⟨a :: F.C, F.P, L2 ++ F.R⟩ H := by
  refine ⟨s.al, s.ch, ?_⟩
  have q : Sat K H (a :: F.C) F.P (L1 ++ F.R ++ slots σ ε) := s.sat
  have q2 := q.perm ((h.append_right F.R).append_right (slots σ ε))
  rw [List.append_assoc, List.append_assoc] at q2
  have q3 := q2.dropL
  rw [← List.append_assoc] at q3
  exact q3
end

section
variable {X : Cx} {x : Str} {p pos apos cpos : Pos} {e k d : Expr} {i : Nat} {f f' f2 : Env → R T}
theorem isL_inv {α : Type} {o : Option T} {r : R α} {b : α} {ε' : Env} (e : (if (!isL o) = true then R.no else r) = .ok b ε') : ∃ xs, o = some (.lst true xs) := by
  split at e
  · cases e
  · rename_i h
    cases o with
    | none => exact absurd rfl h
    | some u =>
      cases u with
      | lst o xs => cases o with
        | true => exact ⟨_, rfl⟩
        | false => exact absurd rfl h
      | _ => exact absurd rfl h
theorem pe_var' (h : PE X (.Name x p) (tVar i)) : PE X (.Name x p) (tE X.K fun ε => match gt ε i with
    | some t => .ok t (if t.sh then ε else st ε i none)
    | none => .no) := pe_imp h fun σ H Q ⟨ε, F, t, ε', s, e, k⟩ => by
  dsimp only at e
  cases g : gt ε i with
  | none => rw [g] at e; cases e
  | some u =>
    rw [g] at e; cases e
    obtain ⟨v, h1, s1⟩ := s.var g
    exact ⟨v, h1, k v H s1⟩
theorem pe_frz' (h : PE X (.Name x p) (tVar i)) : PE X (.Name x p) (tE X.K fun ε => match gt ε i with
    | some t => .ok t.frz (if t.sh then ε else st ε i (some t.frz))
    | none => .no) := pe_imp h fun σ H Q ⟨ε, F, t, ε', s, e, k⟩ => by
  dsimp only at e
  cases g : gt ε i with
  | none => rw [g] at e; cases e
  | some u =>
    rw [g] at e; cases e
    obtain ⟨v, h1, s1⟩ := s.frzS g
    exact ⟨v, h1, k v H s1⟩
/-- x.pop() -/
theorem pe_pop' (h : PE X (.Name x p) (tVar i)) (hl : (apos.endLine == cpos.line) = true) : PE X (.Call (.Attribute (.Name x p) "pop" apos) [] [] cpos) (tE X.K fun ε => match gt ε i with
    | some (.lst true xs) => match xs.getLast? with
      | some x => .ok x (st ε i (some (.lst true xs.dropLast)))
      | none => .no
    | _ => .no) := pe_imp (pe_bm0 PySem.F.plainAttrs_list PySem.F.slot_list_pop PySem.F.type_list_pop mt_pop h rfl hl) fun σ H Q ⟨ε, F, t, ε', s, e, k⟩ => by
  dsimp only at e
  cases g : gt ε i with
  | none => rw [g] at e; cases e
  | some u =>
    rw [g] at e
    cases u with
    | lst o xs =>
      cases o with
      | false => cases e
      | true =>
        cases gl : xs.getLast? with
        | none => simp only [gl] at e; cases e
        | some y =>
          simp only [gl] at e
          cases e
          obtain ⟨a, L1, h1, rfl, h3, s1, hP⟩ := s.openS g
          rw [List.getLast?_map] at gl
          obtain ⟨q, hq, rfl⟩ := Option.map_eq_some_iff.mp gl
          have eL : L1 = L1.dropLast ++ [q] := by
            obtain ⟨ys, rfl⟩ := List.getLast?_eq_some_iff.mp hq
            rw [List.dropLast_concat]
          have hlen : L1.length ≠ 0 := by rw [eL]; simp
          refine ⟨.ref a, h1, .inl ⟨rfl, _, SqL.of h3⟩, a, _, q.1, rfl, rfl, h3, ?_, k _ _ ?_⟩
          · rw [List.length_map, List.getElem?_map, ← List.getLast?_eq_getElem?, hq]; rfl
          · have pm : L1.Perm (L1.dropLast ++ [q]) := by conv => lhs; rw [eL]
            have s2 : SR X.K σ (st ε i none) ⟨a :: (F.push q).C, (F.push q).P, L1.dropLast ++ (F.push q).R⟩ H := by
              refine ⟨s1.al, s1.ch, ?_⟩
              have z : Sat X.K H (a :: F.C) F.P (L1 ++ F.R ++ slots σ (st ε i none)) := s1.sat
              have z2 := z.perm ((pm.append_right F.R).append_right (slots σ (st ε i none)))
              rw [List.append_assoc L1.dropLast [q] F.R] at z2
              exact z2
            have s3 := (s2.closeS (L1 := L1) h1 h3 hP).2
            rw [List.map_dropLast, List.map_dropLast] at s3
            exact s3
    | _ => cases e

def rPopAt' : V → List V → Hp → VK → Prop := fun x vs H Q => ∃ l xs i k y, x = .ref l ∧ vs = [.int i] ∧ H l = some (.lst xs) ∧ ixOf xs.length i = some k ∧ xs[k]? = some y ∧ Q y (upd H l (.lst (xs.eraseIdx k)))
theorem mt_popAt' : MtM X "list.pop" rPopAt' := by
  intro pins s σ H x vs v us Q I rx rv ⟨l, xs, i, k, y, h1, h2, h3, h4, h5, h6⟩
  obtain ⟨z, _⟩ := I.lstM h3
  have hn := line63
  rw [ixOf_ixN] at h4
  obtain ⟨z1, z2, z3, z4⟩ := ixN_seq h4
  exact mt_popAt pins s σ H x vs v us Q I rx rv ⟨l, xs, i, k, y, h1, h2, h3, by omega, by omega, z1, h5, h6⟩
theorem erase_perm {α : Type} : ∀ {l : List α} {j : Nat} {x : α}, l[j]? = some x → l.Perm (x :: l.eraseIdx j)
  | [], j, x, h => by simp at h
  | y :: l, 0, x, h => by simp at h; subst h; exact .refl _
  | y :: l, j + 1, x, h => by
    have := erase_perm (l := l) (j := j) (by simpa using h)
    exact (this.cons y).trans (.swap _ _ _)
theorem erase_map {α β : Type} (f : α → β) : ∀ (l : List α) (j : Nat), (l.map f).eraseIdx j = (l.eraseIdx j).map f
  | [], _ => rfl
  | _ :: _, 0 => rfl
  | y :: l, j + 1 => by simp [erase_map f l j]
/-- x.pop(e) -/
theorem pe_popi' (h : PE X (.Name x p) (tVar i)) (he : PE X e (tE X.K f)) (hl : (apos.endLine == cpos.line) = true) (hs : isStar e = false) : PE X (.Call (.Attribute (.Name x p) "pop" apos) [e] [] cpos) (tE X.K fun ε => if !isL (gt ε i) then .no else bnd (f ε) fun k ε1 => match gt ε1 i, k with
    | some (.lst true xs), .int k => match ixOf xs.length k with
      | some j => match xs[j]? with
        | some x => .ok x (st ε1 i (some (.lst true (xs.eraseIdx j))))
        | none => .no
      | none => .no
    | _, _ => .no) := pe_imp (pe_bm PySem.F.plainAttrs_list PySem.F.slot_list_pop PySem.F.type_list_pop mt_popAt' h (pa_cons he pa_nil (star1 hs)) rfl (few1 hs) hl (star1 hs) rfl) fun σ H Q ⟨ε, F, t, ε', s, e, k⟩ => by
  dsimp only at e
  obtain ⟨xs0, g⟩ := isL_inv e
  have e' : bnd (f ε) (fun k ε1 => match gt ε1 i, k with
    | some (.lst true xs), .int k => match ixOf xs.length k with
      | some j => match xs[j]? with
        | some x => .ok x (st ε1 i (some (.lst true (xs.eraseIdx j))))
        | none => .no
      | none => .no
    | _, _ => .no) = .ok t ε' := by rw [g] at e; exact e
  obtain ⟨j, ε1, h1, e⟩ := bnd_inv e'
  obtain ⟨a, L0, g1, g2, g3, _, _⟩ := s.openS g
  refine ⟨.ref a, g1, .inl ⟨rfl, _, SqL.of g3⟩, ε, F, j, ε1, s, h1, fun w H1 s1 => ?_⟩
  cases gg : gt ε1 i with
  | none => simp [gg] at e
  | some u1 =>
    cases u1 with
    | lst o xs =>
      cases o with
      | false => simp [gg] at e
      | true =>
        cases j with
        | int n =>
          simp only [gg] at e
          cases gj : ixOf xs.length n with
          | none => simp [gj] at e
          | some j =>
            simp only [gj] at e
            cases gx : xs[j]? with
            | none => simp [gx] at e
            | some y =>
              simp only [gx] at e
              cases e
              obtain rfl := s1.sat.isInt List.mem_cons_self
              obtain ⟨a', L1, h1', rfl, h3, s2, hP⟩ := s1.pop.openS gg
              rw [g1] at h1'; cases h1'
              rw [List.getElem?_map] at gx
              obtain ⟨q, hq, rfl⟩ := Option.map_eq_some_iff.mp gx
              rw [List.length_map] at gj
              refine ⟨a, _, n, j, q.1, rfl, rfl, h3, by rw [List.length_map]; exact gj, by rw [List.getElem?_map, hq]; rfl, k _ _ ?_⟩
              have s3 : SR X.K σ (st ε1 i none) ⟨a :: (F.push q).C, (F.push q).P, L1.eraseIdx j ++ (F.push q).R⟩ H1 := by
                refine ⟨s2.al, s2.ch, ?_⟩
                have z : Sat X.K H1 (a :: F.C) F.P (L1 ++ F.R ++ slots σ (st ε1 i none)) := s2.sat
                have z2 := z.perm (((erase_perm hq).append_right F.R).append_right (slots σ (st ε1 i none)))
                exact z2.perm (by
                  show ((q :: (L1.eraseIdx j ++ F.R)) ++ slots σ (st ε1 i none)).Perm ((L1.eraseIdx j ++ (q :: F.R)) ++ slots σ (st ε1 i none))
                  exact (List.perm_middle.symm).append_right _)
              have s4 := (s3.closeS (L1 := L1) g1 h3 hP).2
              rw [erase_map, erase_map]
              exact s4
        | _ => simp [gg] at e
    | _ => simp [gg] at e
end
end Tq
end

section
set_option Elab.async false
set_option maxRecDepth 100000
set_option maxHeartbeats 4000000
/-! TLs12: constants, tests, bools. -/
namespace Tq
open PySem PySem.Spec PyProof.Rows L2

section
variable {X : Cx} {x : Str} {p pos apos cpos : Pos} {a b c e : Expr} {i : Nat} {ir jr : E} {f f' f2 : Env → R T}
theorem pe_cI {z : Int} {j} : PE X (.Constant (.int z) j pos) (tE X.K fun ε => .ok (.int z) ε) := pe_imp pe_int fun σ H Q ⟨ε, F, t, ε', s, e, k⟩ => by
  cases e; exact k _ H (s.int _)
theorem pe_cB {z : Bool} {j} : PE X (.Constant (.bool z) j pos) (tE X.K fun ε => .ok (.bl z) ε) := pe_imp pe_bl fun σ H Q ⟨ε, F, t, ε', s, e, k⟩ => by
  cases e; exact k _ H (s.bl _)
theorem pe_cN {j} : PE X (.Constant .none j pos) (tE X.K fun ε => .ok .non ε) := pe_imp pe_non fun σ H Q ⟨ε, F, t, ε', s, e, k⟩ => by
  cases e; exact k _ H s.non
theorem pe_cS {z : Str} {j} : PE X (.Constant (.str z) j pos) (tE X.K fun ε => .ok (.str z) ε) := pe_imp pe_str fun σ H Q ⟨ε, F, t, ε', s, e, k⟩ => by
  cases e; exact k _ H (s.str _)
theorem ru_neg : RU X.K negT (rU fun i => .int (-i)) := ⟨fun {H C P L v t u Q} s c h e k => by
  cases t <;> try (cases e; done)
  cases e
  exact ⟨_, s.isInt h, k _ H (s.int _) c⟩⟩
/-- truth -/
theorem Sat.tru {K : PySem.W.Frag} {H : Hp} {C : List Addr} {P : List Pin} {L : VT} {v : V} {t : T} (s : Sat K H C P L) (h : (v, t) ∈ L) {b : Bool} (e : tru t = some b) : TruV K v H b := by
  obtain ⟨A, W, r⟩ := s.look h
  cases r with
  | non => cases e; exact rfl
  | bl _ => cases e; exact rfl
  | int i => cases e; show decide (i ≠ 0) = (i != 0); rw [decide_not]; rfl
  | str z =>
    have e' : (if z.length ≤ LL then some (decide (z.length ≠ 0)) else none) = some b := e
    split at e'
    · rename_i hz
      cases e'
      refine ⟨by rw [sizeLine_eq]; exact hz, ?_⟩
      rw [decide_not]
      have : decide (z.length = 0) = (((z.length : Nat) : Int) == 0) := by
        rw [Bool.eq_iff_iff]; simp
      rw [this]; rfl
    · cases e'
  | tup h1 r =>
    cases e
    refine .inr (.inl ⟨_, SqT.of h1, ?_⟩)
    have := r.length
    rename_i vs xs
    cases vs <;> cases xs <;> simp_all
  | own h1 r =>
    cases e
    refine .inl ⟨_, SqL.of h1, ?_⟩
    have := r.length
    rename_i vs xs A
    cases vs <;> cases xs <;> simp_all
  | lst h1 n r =>
    cases e
    refine .inl ⟨_, SqL.of h1, ?_⟩
    have := r.length
    rename_i vs xs
    cases vs <;> cases xs <;> simp_all
  | _ => cases e
/-- not of a value -/
def rNot (K : PySem.W.Frag) : V → Hp → VK → Prop := fun x H Q => ∃ k, TruV K x H k ∧ Q (.bl (!k)) H
theorem un_not : UnR X (unaryOp .Not) (rNot X.K) := by
  intro pins s σ H x v Q I rx ⟨k, h, q⟩
  refine not_of (thn (tru_ok pins s σ H x v (fun b H' => Q (.bl (!b)) H') I rx ⟨k, h, q⟩) fun b s' ⟨H', I', q'⟩ => ?_)
  exact ⟨.bl (!b), H', I', rfl, q'⟩
theorem ru_not : RU X.K (fun t => (tru t).map fun b => .bl !b) (rNot X.K) := ⟨fun {H C P L v t u Q} s c h e k => by
  obtain ⟨b, e1, rfl⟩ := Option.map_eq_some_iff.mp e
  exact ⟨b, s.tru h e1, k _ H (s.bl _) c⟩⟩
/-- a test that is its value's truth -/
theorem pt_of (ha : PE X a (tO X.K (asO ir f))) (he : ∀ whole, isTrue a X.env whole = (do let v ← whole; standAt a.pos; holding [v] (truthy v))) : PT X a (tT X.K (cnd ir f)) :=
  pt_imp (pt_truth ha he) fun σ H Q ⟨ε, F, b, ε', s, e, k⟩ => by
    obtain ⟨x, ε1, h1, h2⟩ := bnd_inv e
    cases hx : pk ε1 x with
    | none => rw [hx] at h2; cases h2
    | some t0 =>
      rw [hx] at h2
      obtain ⟨h3, rfl⟩ := ofO_inv h2
      refine ⟨ε, F, x, _, s, h1, fun v H' s' ok => ⟨b, s'.sat.tru (s'.live hx ok fun t' q => F.op_mem q) h3, k H' s'.over⟩⟩
theorem asO_val (hp : ∀ i, ir ≠ .pl i) (ε : Env) : asO ir f ε = bnd (f ε) fun t ε' => .ok (.t t) ε' := by
  unfold asO
  split
  · exact absurd rfl (hp _)
  · rfl
theorem bnd_ok_eq {α β : Type} {r : R α} {g : α → Env → R β} {a : α} {ε1 : Env} (h : r = .ok a ε1) : bnd r g = g a ε1 := by rw [h]; rfl
/-- a value's truth, the operand being no place -/
theorem cnd_val (hp : ∀ i, ir ≠ .pl i) {t : T} {ε ε1 : Env} (h : f ε = .ok t ε1) : cnd ir f ε = ofO (tru t) ε1 := by
  unfold cnd
  rw [asO_val hp, h]; rfl
theorem cnd_inv (hp : ∀ i, ir ≠ .pl i) {b : Bool} {ε ε1 : Env} (h : cnd ir f ε = .ok b ε1) : ∃ t, f ε = .ok t ε1 ∧ tru t = some b := by
  unfold cnd at h
  rw [asO_val hp] at h
  obtain ⟨x, ε2, h1, h2⟩ := bnd_inv h
  obtain ⟨t, ε3, h3, h4⟩ := bnd_inv h1
  cases h4
  obtain ⟨h5, rfl⟩ := ofO_inv (show ofO (tru t) _ = _ from h2)
  exact ⟨t, h3, h5⟩
/-! and, or as values -/
def fAnd (f g : Env → R T) (ε : Env) : R T := bnd (f ε) fun t ε1 => match t with
    | .bl true => g ε1
    | .bl false => .ok (.bl false) ε1
    | _ => .no
def fOr (f g : Env → R T) (ε : Env) : R T := bnd (f ε) fun t ε1 => match t with
    | .bl false => g ε1
    | .bl true => .ok (.bl true) ε1
    | _ => .no
theorem fAnd_inv {ε ε' : Env} {t : T} (h : fAnd f f' ε = .ok t ε') : ∃ b ε1, f ε = .ok (.bl b) ε1 ∧ if b = true then f' ε1 = .ok t ε' else t = .bl false ∧ ε' = ε1 := by
  obtain ⟨t1, ε1, h1, h2⟩ := bnd_inv h
  cases t1 with
  | bl b =>
    cases b with
    | true => exact ⟨true, ε1, h1, h2⟩
    | false => cases h2; exact ⟨false, _, h1, rfl, rfl⟩
  | _ => cases h2
theorem fOr_inv {ε ε' : Env} {t : T} (h : fOr f f' ε = .ok t ε') : ∃ b ε1, f ε = .ok (.bl b) ε1 ∧ if b = true then t = .bl true ∧ ε' = ε1 else f' ε1 = .ok t ε' := by
  obtain ⟨t1, ε1, h1, h2⟩ := bnd_inv h
  cases t1 with
  | bl b =>
    cases b with
    | true => cases h2; exact ⟨true, _, h1, rfl, rfl⟩
    | false => exact ⟨false, ε1, h1, h2⟩
  | _ => cases h2
variable {rest : List Expr}
theorem pe_and' (ha : PE X a (tE X.K f)) (hb : PE X (.BoolOp .And (b :: rest) pos) (tE X.K f')) : PE X (.BoolOp .And (a :: b :: rest) pos) (tE X.K (fAnd f f')) :=
  pe_imp (pe_and ha hb) fun σ H Q ⟨ε, F, t, ε', s, e, k⟩ => by
    obtain ⟨b, ε1, h1, h2⟩ := fAnd_inv e
    refine ⟨ε, F, .bl b, ε1, s, h1, fun v H' s' => ⟨b, s'.sat.isBl List.mem_cons_self, ?_⟩⟩
    cases b with
    | true => exact ⟨ε1, F, t, ε', s'.pop, h2, k⟩
    | false => obtain ⟨rfl, rfl⟩ := h2; exact k _ H' (s'.pop.bl _)
theorem pe_or' (ha : PE X a (tE X.K f)) (hb : PE X (.BoolOp .Or (b :: rest) pos) (tE X.K f')) : PE X (.BoolOp .Or (a :: b :: rest) pos) (tE X.K (fOr f f')) :=
  pe_imp (pe_or ha hb) fun σ H Q ⟨ε, F, t, ε', s, e, k⟩ => by
    obtain ⟨b, ε1, h1, h2⟩ := fOr_inv e
    refine ⟨ε, F, .bl b, ε1, s, h1, fun v H' s' => ⟨b, s'.sat.isBl List.mem_cons_self, ?_⟩⟩
    cases b with
    | true => obtain ⟨rfl, rfl⟩ := h2; exact k _ H' (s'.pop.bl _)
    | false => exact ⟨ε1, F, t, ε', s'.pop, h2, k⟩
/-! .. as tests -/
theorem pw_and' (hp : ∀ i, ir ≠ .pl i) (ha : PT X a (tT X.K (cnd ir f))) {h : Env → R Bool} (hb : PW X (.BoolOp .And (b :: rest) pos) (tT X.K h)) (hh : ∀ ε t ε', f' ε = .ok t ε' → ∀ b, tru t = some b → h ε = .ok b ε')
    {kr : E} (hk : ∀ i, kr ≠ .pl i) : PW X (.BoolOp .And (a :: b :: rest) pos) (tT X.K (cnd kr (fAnd f f'))) :=
  pw_imp (pw_and ha hb) fun σ H Q ⟨ε, F, b, ε', s, e, k⟩ => by
    obtain ⟨t, h1, h2⟩ := cnd_inv hk e
    obtain ⟨c, ε1, h3, h4⟩ := fAnd_inv h1
    refine ⟨ε, F, c, ε1, s, (cnd_val hp h3).trans rfl, fun H' s' => ?_⟩
    cases c with
    | true => exact ⟨ε1, F, b, ε', s', hh _ _ _ h4 _ h2, k⟩
    | false => obtain ⟨rfl, rfl⟩ := h4; cases h2; exact k H' s'
theorem pw_or' (hp : ∀ i, ir ≠ .pl i) (ha : PT X a (tT X.K (cnd ir f))) {h : Env → R Bool} (hb : PW X (.BoolOp .Or (b :: rest) pos) (tT X.K h)) (hh : ∀ ε t ε', f' ε = .ok t ε' → ∀ b, tru t = some b → h ε = .ok b ε')
    {kr : E} (hk : ∀ i, kr ≠ .pl i) : PW X (.BoolOp .Or (a :: b :: rest) pos) (tT X.K (cnd kr (fOr f f'))) :=
  pw_imp (pw_or ha hb) fun σ H Q ⟨ε, F, b, ε', s, e, k⟩ => by
    obtain ⟨t, h1, h2⟩ := cnd_inv hk e
    obtain ⟨c, ε1, h3, h4⟩ := fOr_inv h1
    refine ⟨ε, F, c, ε1, s, (cnd_val hp h3).trans rfl, fun H' s' => ?_⟩
    cases c with
    | true => obtain ⟨rfl, rfl⟩ := h4; cases h2; exact k H' s'
    | false => exact ⟨ε1, F, b, ε', s', hh _ _ _ h4 _ h2, k⟩
theorem pt_not' (ha : PT X a (tT X.K (cnd ir f))) {kr : E} (hk : ∀ i, kr ≠ .pl i) : PT X (.UnaryOp .Not a pos) (tT X.K (cnd kr (un ir f fun t => (tru t).map fun b => .bl !b))) :=
  pt_imp (pt_not ha) fun σ H Q ⟨ε, F, b, ε', s, e, k⟩ => by
    obtain ⟨t, h1, h2⟩ := cnd_inv hk e
    obtain ⟨x, ε1, h3, h4⟩ := bnd_inv h1
    cases hx : pk ε1 x with
    | none => rw [hx] at h4; cases h4
    | some t0 =>
      rw [hx] at h4
      obtain ⟨h5, rfl⟩ := ofO_inv h4
      obtain ⟨c, h6, rfl⟩ := Option.map_eq_some_iff.mp h5
      cases h2
      refine ⟨ε, F, c, _, s, ?_, k⟩
      unfold cnd
      rw [h3]
      show (match pk ε' x with | some t => ofO (tru t) ε' | none => .no) = _
      rw [hx]
      show ofO (Tq.tru t0) ε' = _
      rw [h6]; rfl
/-- a if c else b -/
def fIte (h : Env → R Bool) (f g : Env → R T) (ε : Env) : R T := bnd (h ε) fun d ε1 => if d then f ε1 else g ε1
theorem pe_ite' {h : Env → R Bool} (hc : PT X c (tT X.K h)) (ha : PE X a (tE X.K f)) (hb : PE X b (tE X.K f')) : PE X (.IfExp c a b pos) (tE X.K (fIte h f f')) :=
  pe_imp (pe_ifExp hc ha hb) fun σ H Q ⟨ε, F, t, ε', s, e, k⟩ => by
    obtain ⟨d, ε1, h1, h2⟩ := bnd_inv e
    refine ⟨ε, F, d, ε1, s, h1, fun H' s' => ?_⟩
    cases d with
    | true => exact ⟨ε1, F, t, ε', s', h2, k⟩
    | false => exact ⟨ε1, F, t, ε', s', h2, k⟩
end
end Tq
end

section
set_option Elab.async false
set_option maxRecDepth 100000
set_option maxHeartbeats 4000000
/-! TLs13: built-ins by values. -/
namespace Tq
open PySem PySem.Spec PyProof.Rows L2

/-- a call by values, the arguments being looked at -/
structure RB (K : PySem.W.Frag) (g : List T → Option T) (r : List V → Hp → VK → Prop) : Prop where
  run : ∀ {H : Hp} {C : List Addr} {P : List Pin} {L : VT} {vs : List V} {ts : List T} {u : T} {Q : VK}, Sat K H C P L → CH H C → vs.length = ts.length → (∀ p ∈ vs.zip ts, p ∈ L) → g ts = some u →
    (∀ z H', Sat K H' C P ((z, u) :: L) → CH H' C → Q z H') → r vs H Q
section
variable {X : Cx} {K : PySem.W.Frag} {H : Hp} {C : List Addr} {P : List Pin} {L : VT} {v w : V} {t u : T} {vs : List V} {ts : List T} {Q : VK}
theorem RB.mono {g g' : List T → Option T} {r r' : List V → Hp → VK → Prop} (h : RB K g r) (k : ∀ ts u, g' ts = some u → g ts = some u) (q : ∀ vs H Q, r vs H Q → r' vs H Q) : RB K g' r' :=
  ⟨fun s c hl hm e k' => q _ _ _ (h.run s c hl hm (k _ _ e) k')⟩
theorem RB.or {g g1 g2 : List T → Option T} {r r' : List V → Hp → VK → Prop} (h : RB K g1 r) (h' : RB K g2 r') (k : ∀ ts u, g ts = some u → g1 ts = some u ∨ g2 ts = some u) : RB K g (fun vs H Q => r vs H Q ∨ r' vs H Q) := by
  refine ⟨fun s c hl hm e q => ?_⟩
  rcases k _ _ e with e | e
  · exact .inl (h.run s c hl hm e q)
  · exact .inr (h'.run s c hl hm e q)
theorem len1 {vs : List V} {t : T} (h : vs.length = [t].length) : ∃ v, vs = [v] := by
  match vs, h with
  | [v], _ => exact ⟨v, rfl⟩
theorem len2 {vs : List V} {t u : T} (h : vs.length = [t, u].length) : ∃ v w, vs = [v, w] := by
  match vs, h with
  | [v, w], _ => exact ⟨v, w, rfl⟩
theorem one1 {ts : List T} {g : T → Option T} (e : (match ts with | [t] => g t | _ => none) = some u) : ∃ t, ts = [t] ∧ g t = some u := by
  match ts, e with
  | [t], e => exact ⟨t, rfl, e⟩
def on1 (g : T → Option T) : List T → Option T
  | [t] => g t
  | _ => none
theorem on1_inv {g : T → Option T} {ts : List T} (e : on1 g ts = some u) : ∃ t, ts = [t] ∧ g t = some u := by
  match ts, e with
  | [t], e => exact ⟨t, rfl, e⟩
/-- of one argument -/
theorem RB.of1 {g : T → Option T} {r : V → Hp → VK → Prop} (h : RU K g r) : RB K (on1 g) (fun vs H Q => ∃ v, vs = [v] ∧ r v H Q) := by
  refine ⟨fun {H C P L vs ts u Q} s c hl hm e k => ?_⟩
  obtain ⟨t, rfl, e⟩ := on1_inv e
  obtain ⟨v, rfl⟩ := len1 hl
  exact ⟨v, rfl, h.run s c (hm _ (by simp)) e k⟩
theorem RU.or {g g1 g2 : T → Option T} {r r' : V → Hp → VK → Prop} (h : RU K g1 r) (h' : RU K g2 r') (k : ∀ t u, g t = some u → g1 t = some u ∨ g2 t = some u) : RU K g (fun v H Q => r v H Q ∨ r' v H Q) := by
  refine ⟨fun s c hm e q => ?_⟩
  rcases k _ _ e with e | e
  · exact .inl (h.run s c hm e q)
  · exact .inr (h'.run s c hm e q)

/-! len -/
def r1 (r : V → Hp → VK → Prop) : List V → Hp → VK → Prop := fun vs H Q => ∃ v, vs = [v] ∧ r v H Q
def rLen (K : PySem.W.Frag) : V → Hp → VK → Prop := fun x H Q => (∃ n : Nat, LenV K x H n ∧ Q (.int n) H) ∨ ∃ p, x = .ref p ∧ ((∃ kvs, H p = some (.dK kvs) ∧ Q (.int (kvs.length : Nat)) H) ∨ ∃ kvs, H p = some (.dT kvs) ∧ Q (.int (kvs.length : Nat)) H)
theorem ru_len : RU K (fun t => (lenT t).map fun n => T.int ((n : Nat) : Int)) (rLen K) := ⟨fun {H C P L v t u Q} s c h e k => by
  obtain ⟨n, e1, rfl⟩ := Option.map_eq_some_iff.mp e
  have q := k (.int n) H (s.int _) c
  obtain ⟨A, W, r⟩ := s.look h
  cases r with
  | str z =>
    have e' : (if z.length ≤ LL then some z.length else none) = some n := e1
    split at e'
    · rename_i hz
      cases e'
      exact .inl ⟨_, ⟨by rw [sizeLine_eq]; exact hz, rfl⟩, q⟩
    · cases e'
  | tup h1 r => cases e1; exact .inl ⟨_, .inr ⟨_, SqT.of h1, r.length.symm⟩, q⟩
  | own h1 r => cases e1; exact .inl ⟨_, .inl ⟨_, SqL.of h1, r.length.symm⟩, q⟩
  | lst h1 _ r => cases e1; exact .inl ⟨_, .inl ⟨_, SqL.of h1, r.length.symm⟩, q⟩
  | ownK h1 nd r =>
    cases e1
    refine .inr ⟨_, rfl, .inl ⟨_, h1, ?_⟩⟩
    have := r.length
    simp only [List.length_zip, List.length_map] at this q
    rw [this, Nat.min_self] at q
    rw [this]; exact q
  | ownT h1 nd r =>
    cases e1
    refine .inr ⟨_, rfl, .inr ⟨_, h1, ?_⟩⟩
    have := r.length
    simp only [List.length_zip, List.length_map] at this q
    rw [this, Nat.min_self] at q
    rw [this]; exact q
  | _ => cases e1⟩
theorem call_len_dK : CallR X (.builtin "len") (fun xs H Q => ∃ (p : Addr) (kvs : List (Key × V)), xs = [.ref p] ∧ H p = some (.dK kvs) ∧ Q (.int ((kvs.length : Nat) : Int)) H) := by
  intro pins s σ H xs us Q I r h
  obtain ⟨p, kvs, rfl, hp, q⟩ := h
  obtain ⟨u, rfl, rx⟩ := vals1 r
  obtain rfl : u = .ref p := rx
  obtain ⟨z, hd, ys, rel, dd⟩ : kvs.length ≤ sizeLine ∧ (p == sysModules) = false ∧ ∃ vs, KV kvs vs ∧ s.heap.DictOf (mixKind X.prog X.w) p vs := I.hok p _ hp
  have hl : kvs.length = ys.length := Paired.length rel
  refine PySem.call_len_dict hd dd (by rw [← hl]; rw [sizeLine_eq] at z; omega) ?_
  rw [← hl]
  exact ⟨.int ((kvs.length : Nat) : Int), H, I.tok _, ⟨_, rfl⟩, q⟩
theorem cl_len : CallR X (.builtin "len") (r1 (rLen X.K)) := by
  intro pins s σ H xs us Q I r ⟨x, e, h⟩
  subst e
  rcases h with ⟨n, h1, h2⟩ | ⟨p, rfl, ⟨kvs, h1, h2⟩ | ⟨kvs, h1, h2⟩⟩
  · exact call_len pins s σ H _ us Q I r ⟨x, n, rfl, h1, h2⟩
  · exact call_len_dK pins s σ H _ us Q I r ⟨p, kvs, rfl, h1, h2⟩
  · exact call_len_dT pins s σ H _ us Q I r ⟨p, kvs, rfl, h1, h2⟩

/-! abs -/
def gAbs : T → Option T
  | .int i => some (.int i.natAbs)
  | _ => none
theorem ru_abs : RU K gAbs (fun x H Q => ∃ i, x = .int i ∧ Q (.int (i.natAbs : Nat)) H) := ⟨fun {H C P L v t u Q} s c h e k => by
  cases t <;> try (cases e; done)
  cases e
  exact ⟨_, s.isInt h, k _ H (s.int _) c⟩⟩
theorem cl_abs : CallR X (.builtin "abs") (r1 fun x H Q => ∃ i, x = .int i ∧ Q (.int (i.natAbs : Nat)) H) := by
  intro pins s σ H xs us Q I r ⟨x, e, i, h1, h2⟩
  subst e h1
  refine call_abs pins s σ H _ us Q I r ⟨i, rfl, ?_⟩
  have : (if i < 0 then -i else i) = ((i.natAbs : Nat) : Int) := by split <;> omega
  rw [this]; exact h2

/-! sum, min, max, sorted of intsL -/
def ofSeq (K : PySem.W.Frag) (x : V) (H : Hp) (ys : List V) : Prop := ∃ p, x = .ref p ∧ (SqL K H p ys ∨ SqT K H p ys)
theorem Sat.seqV (s : Sat K H C P L) (h : (v, t) ∈ L) {xs : List T} (e : seqOf t = some xs) : ∃ ys A W, ofSeq K v H ys ∧ Reps K H W ys xs A := by
  obtain ⟨A, W, r⟩ := s.look h
  cases r with
  | tup h1 r => cases e; exact ⟨_, _, W, ⟨_, rfl, .inr (SqT.of h1)⟩, r⟩
  | own h1 r => cases e; exact ⟨_, _, W, ⟨_, rfl, .inl (SqL.of h1)⟩, r⟩
  | lst h1 _ r => cases e; exact ⟨_, _, W, ⟨_, rfl, .inl (SqL.of h1)⟩, r⟩
  | _ => cases e
theorem reps_ints {W : Addr → Prop} : ∀ {ys : List V} {xs : List T} {A : List Addr} {ns : List Int}, Reps K H W ys xs A → intsL xs = some ns → ys = ns.map V.int
  | _, _, _, _, .nil, e => by cases e; rfl
  | _, _, _, _, .cons a b, e => by
    cases a with
    | int i =>
      obtain ⟨ms, e1, rfl⟩ := Option.map_eq_some_iff.mp (show (intsL _).map (i :: ·) = some _ from e)
      rw [reps_ints b e1]; rfl
    | _ => cases e
theorem reps_bls {W : Addr → Prop} : ∀ {ys : List V} {xs : List T} {A : List Addr} {ns : List Bool}, Reps K H W ys xs A → bls xs = some ns → ys = ns.map V.bl
  | _, _, _, _, .nil, e => by cases e; rfl
  | _, _, _, _, .cons a b, e => by
    cases a with
    | bl i =>
      obtain ⟨ms, e1, rfl⟩ := Option.map_eq_some_iff.mp (show (bls _).map (i :: ·) = some _ from e)
      rw [reps_bls b e1]; rfl
    | _ => cases e
/-- a sequence of intsL -/
def ofInt (K : PySem.W.Frag) (x : V) (H : Hp) (ns : List Int) : Prop := ofSeq K x H (ns.map V.int)
theorem Sat.intsV (s : Sat K H C P L) (h : (v, t) ∈ L) {ns : List Int} (e : (seqOf t).bind intsL = some ns) : ofInt K v H ns := by
  obtain ⟨xs, e1, e2⟩ := Option.bind_eq_some_iff.mp e
  obtain ⟨ys, A, W, h1, h2⟩ := s.seqV h e1
  rw [reps_ints h2 e2] at h1
  exact h1
theorem ru_ints {g : List Int → Option T} {r : List Int → Option V} (hg : ∀ ns u, g ns = some u → ∃ i, u = .int i ∧ r ns = some (.int i)) :
    RU K (fun t => ((seqOf t).bind intsL).bind g) (fun x H Q => ∃ ns v, ofInt K x H ns ∧ r ns = some v ∧ Q v H) := ⟨fun {H C P L v t u Q} s c h e k => by
  obtain ⟨ns, e1, e2⟩ := Option.bind_eq_some_iff.mp e
  obtain ⟨i, rfl, e3⟩ := hg ns u e2
  exact ⟨ns, _, s.intsV h e1, e3, k _ H (s.int _) c⟩⟩
theorem ru_sum : RU K (fun t => ((seqOf t).bind intsL).map fun ns => .int ns.sum) (fun x H Q => ∃ ns : List Int, ofInt K x H ns ∧ Q (.int ns.sum) H) := ⟨fun {H C P L v t u Q} s c h e k => by
  obtain ⟨ns, e1, rfl⟩ := Option.map_eq_some_iff.mp e
  exact ⟨ns, s.intsV h e1, k _ H (s.int _) c⟩⟩
theorem cl_sum (hc : X.calm = true) : CallR X (.builtin "sum") (r1 fun x H Q => ∃ ns : List Int, ofInt X.K x H ns ∧ Q (.int ns.sum) H) := by
  intro pins s σ H xs us Q I r ⟨x, e, ns, ⟨p, e2, h⟩, q⟩
  subst e e2
  rcases h with h | h
  · exact cr_sum hc pins s σ H _ us Q I r ⟨p, ns, rfl, h, q⟩
  · obtain ⟨its, rv, hl, _⟩ := I.tuple h
    rw [Vals.ref1 r]
    obtain ⟨ys, e3⟩ := rv.ints.allInts.items
    have hn : numsOf (intItems ys).toList = ns := by rw [← e3]; exact rv.ints.numsOf
    rw [nums_intItems] at hn
    rw [e3] at hl
    refine PySem.W.ktm_sumG (I.ok.hd hc) hl fun h' tk t' hk => ?_
    rw [preSum_eq, List.take_of_length_le (by simp), hn]
    exact ⟨.int _, H, I.kept hk, ⟨_, rfl⟩, q⟩
theorem minL_spec : ∀ (m : Int) (xs : List Int), minL m xs ∈ m :: xs ∧ ∀ y ∈ m :: xs, minL m xs ≤ y
  | m, [] => ⟨by simp [minL], fun y hy => by simp at hy; subst hy; exact Int.le_refl _⟩
  | m, x :: xs => by
    obtain ⟨h1, h2⟩ := minL_spec (if x < m then x else m) xs
    refine ⟨?_, fun y hy => ?_⟩
    · show minL (if x < m then x else m) xs ∈ _
      rcases List.mem_cons.mp h1 with e | e
      · rw [e]; split <;> simp
      · simp [e]
    · show minL (if x < m then x else m) xs ≤ y
      have h3 := h2 _ List.mem_cons_self
      rcases List.mem_cons.mp hy with e | e
      · subst e; split at h3 <;> split <;> omega
      · rcases List.mem_cons.mp e with e | e
        · subst e; split at h3 <;> split <;> omega
        · exact h2 y (List.mem_cons_of_mem _ e)
theorem maxL_spec : ∀ (m : Int) (xs : List Int), maxL m xs ∈ m :: xs ∧ ∀ y ∈ m :: xs, y ≤ maxL m xs
  | m, [] => ⟨by simp [maxL], fun y hy => by simp at hy; subst hy; exact Int.le_refl _⟩
  | m, x :: xs => by
    obtain ⟨h1, h2⟩ := maxL_spec (if m < x then x else m) xs
    refine ⟨?_, fun y hy => ?_⟩
    · show maxL (if m < x then x else m) xs ∈ _
      rcases List.mem_cons.mp h1 with e | e
      · rw [e]; split <;> simp
      · simp [e]
    · show y ≤ maxL (if m < x then x else m) xs
      have h3 := h2 _ List.mem_cons_self
      rcases List.mem_cons.mp hy with e | e
      · subst e; split at h3 <;> split <;> omega
      · rcases List.mem_cons.mp e with e | e
        · subst e; split at h3 <;> split <;> omega
        · exact h2 y (List.mem_cons_of_mem _ e)
theorem minOf_minL (x : Int) : ∀ xs : List Int, PySem.W.minOf x xs = minL x xs := fun xs => by
  unfold PySem.W.minOf
  induction xs generalizing x with
  | nil => rfl
  | cons y ys ih =>
    rw [List.foldl_cons, ih]
    show minL _ ys = minL _ ys
    congr 1
    show (if decide (y < x) = true then y else x) = _
    by_cases hh : y < x <;> simp [hh]
theorem maxOf_maxL (x : Int) : ∀ xs : List Int, PySem.W.maxOf x xs = maxL x xs := fun xs => by
  unfold PySem.W.maxOf
  induction xs generalizing x with
  | nil => rfl
  | cons y ys ih =>
    rw [List.foldl_cons, ih]
    show maxL _ ys = maxL _ ys
    congr 1
    show (if decide (x < y) = true then y else x) = _
    by_cases hh : x < y <;> simp [hh]
def gMin : List Int → Option T
  | [] => none
  | x :: xs => some (.int (minL x xs))
def gMax : List Int → Option T
  | [] => none
  | x :: xs => some (.int (maxL x xs))
theorem ru_min : RU K (fun t => ((seqOf t).bind intsL).bind gMin) (fun x H Q => ∃ (n : Int) (ns : List Int), ofInt K x H (n :: ns) ∧ Q (.int (minL n ns)) H) := ⟨fun {H C P L v t u Q} s c h e k => by
  obtain ⟨ns, e1, e2⟩ := Option.bind_eq_some_iff.mp e
  cases ns with
  | nil => cases e2
  | cons n ns => cases e2; exact ⟨n, ns, s.intsV h e1, k _ H (s.int _) c⟩⟩
theorem ru_max : RU K (fun t => ((seqOf t).bind intsL).bind gMax) (fun x H Q => ∃ (n : Int) (ns : List Int), ofInt K x H (n :: ns) ∧ Q (.int (maxL n ns)) H) := ⟨fun {H C P L v t u Q} s c h e k => by
  obtain ⟨ns, e1, e2⟩ := Option.bind_eq_some_iff.mp e
  cases ns with
  | nil => cases e2
  | cons n ns => cases e2; exact ⟨n, ns, s.intsV h e1, k _ H (s.int _) c⟩⟩
theorem holds_ints {h : Heap} : ∀ {us : List Value} {ns : List Int}, Vals (ns.map V.int) us → PySem.W.HoldAll h us ns
  | _, [], .nil => PySem.W.HoldAll.nil
  | _, n :: ns, .cons ⟨t, e⟩ r => by subst e; exact PySem.W.HoldAll.cons (PySem.W.holds_int n t) (holds_ints r)
theorem vals_int_at {us : List Value} {ns : List Int} (r : Vals (ns.map V.int) us) {i : Nat} {v : Value} (e : us[i]? = some v) : ∃ n t, v = .int n t ∧ n ∈ ns := by
  have hm := List.mem_of_getElem? e
  induction ns generalizing us i with
  | nil => cases r; simp at e
  | cons n ns ih =>
    cases r with
    | cons r0 r =>
      obtain ⟨t, rfl⟩ := r0
      rcases List.mem_cons.mp hm with rfl | hm
      · exact ⟨n, t, rfl, List.mem_cons_self⟩
      · obtain ⟨j, hj⟩ := List.mem_iff_getElem?.mp hm
        obtain ⟨m, t', h1, h2⟩ := ih r hj hm
        exact ⟨m, t', h1, List.mem_cons_of_mem _ h2⟩
theorem holds_int_inv {h : Heap} {n : Int} {t : Tok} {m : Int} (x : PySem.W.Holds h (.int n t) m) : n = m := by
  obtain ⟨as, r⟩ := x
  have : ∀ {v : Value} {d : PyData} {as : List Addr}, Reads h v d as → v = .int n t → d = .int m → n = m := by
    intro v d as r e1 e2
    cases r <;> cases e1 <;> cases e2 <;> rfl
  exact this r rfl rfl
theorem cl_min (hc : X.calm = true) (hu : X.A.units + 65 < cLine) : CallR X (.builtin "min") (r1 fun x H Q => ∃ (n : Int) (ns : List Int), ofInt X.K x H (n :: ns) ∧ Q (.int (minL n ns)) H) := by
  intro pins s σ H xs us Q I r ⟨x, e, n, ns, ⟨p, e2, h⟩, q⟩
  subst e e2
  rcases h with h | h
  · refine cr_min hc pins s σ H _ us Q I r ⟨p, n :: ns, rfl, h, Nat.succ_pos _, fun m h1 h2 => ?_⟩
    obtain ⟨g1, g2⟩ := minL_spec n ns
    have e3 : m = minL n ns := Int.le_antisymm (h2 _ g1) (g2 _ h1)
    rw [e3]; exact q
  · obtain ⟨its, rv, hl, _⟩ := I.tuple h
    rw [Vals.ref1 r]
    refine PySem.W.min_tuple_datum (α := Int) (x := n) (xs := ns) (I.ok.hd hc) hl (by rw [show its.toArray.toList = its from rfl]; exact holds_ints (ns := n :: ns) rv) (by show X.A.units + 1 + 0 < cLine; omega) fun i v h' tk hi hh hk => ?_
    obtain ⟨m, t, rfl, _⟩ := vals_int_at (ns := n :: ns) rv (by simpa using hi)
    rw [minOf_minL] at hh
    have e3 := holds_int_inv hh
    subst e3
    exact ⟨.int _, H, I.kept hk, ⟨_, rfl⟩, q⟩
theorem cl_max (hc : X.calm = true) (hu : X.A.units + 65 < cLine) : CallR X (.builtin "max") (r1 fun x H Q => ∃ (n : Int) (ns : List Int), ofInt X.K x H (n :: ns) ∧ Q (.int (maxL n ns)) H) := by
  intro pins s σ H xs us Q I r ⟨x, e, n, ns, ⟨p, e2, h⟩, q⟩
  subst e e2
  rcases h with h | h
  · refine cr_max hc pins s σ H _ us Q I r ⟨p, n :: ns, rfl, h, Nat.succ_pos _, fun m h1 h2 => ?_⟩
    obtain ⟨g1, g2⟩ := maxL_spec n ns
    have e3 : m = maxL n ns := Int.le_antisymm (g2 _ h1) (h2 _ g1)
    rw [e3]; exact q
  · obtain ⟨its, rv, hl, _⟩ := I.tuple h
    rw [Vals.ref1 r]
    refine PySem.W.max_tuple_datum (α := Int) (x := n) (xs := ns) (I.ok.hd hc) hl (by rw [show its.toArray.toList = its from rfl]; exact holds_ints (ns := n :: ns) rv) (by show X.A.units + 1 + 0 < cLine; omega) fun i v h' tk hi hh hk => ?_
    obtain ⟨m, t, rfl, _⟩ := vals_int_at (ns := n :: ns) rv (by simpa using hi)
    rw [maxOf_maxL] at hh
    have e3 := holds_int_inv hh
    subst e3
    exact ⟨.int _, H, I.kept hk, ⟨_, rfl⟩, q⟩
/-! of two -/
def on2 (g : Int → Int → T) : List T → Option T
  | [.int i, .int j] => some (g i j)
  | _ => none
theorem rb_two {g : Int → Int → Int} : RB K (on2 fun i j => .int (g i j)) (fun vs H Q => ∃ i j, vs = [.int i, .int j] ∧ Q (.int (g i j)) H) := ⟨fun {H C P L vs ts u Q} s c hl hm e k => by
  have ⟨i, j, h1, h2⟩ : ∃ i j, ts = [.int i, .int j] ∧ u = .int (g i j) := by
    unfold on2 at e
    split at e
    · cases e; exact ⟨_, _, rfl, rfl⟩
    · cases e
  subst h1 h2
  obtain ⟨v, w, rfl⟩ := len2 hl
  obtain rfl := s.isInt (hm (v, .int i) (by simp))
  obtain rfl := s.isInt (hm (w, .int j) (by simp))
  exact ⟨i, j, rfl, k _ H (s.int _) c⟩⟩
theorem cl_min2 (hc : X.calm = true) : CallR X (.builtin "min") (fun vs H Q => ∃ i j : Int, vs = [.int i, .int j] ∧ Q (.int (if j < i then j else i)) H) := call_min2 hc
theorem cl_max2 (hc : X.calm = true) : CallR X (.builtin "max") (fun vs H Q => ∃ i j : Int, vs = [.int i, .int j] ∧ Q (.int (if i < j then j else i)) H) := call_max2 hc
theorem cl_gcd : CallR X (.builtin "math.gcd") (fun vs H Q => ∃ i j : Int, vs = [.int i, .int j] ∧ Q (.int (Int.gcd i j : Nat)) H) := cr_gcd
def gFac : T → Option T
  | .int i => if 0 ≤ i ∧ i ≤ 1000 then some (.int (fact i.toNat)) else none
  | _ => none
theorem fact_eq : ∀ n : Nat, Builtin.Math.factorialNat n = fact n
  | 0 => rfl
  | n + 1 => by rw [PySem.W.mc_fac_succ, fact_eq n, fact, Nat.mul_comm]
theorem ru_fac : RU K gFac (fun x H Q => ∃ i : Int, x = .int i ∧ 0 ≤ i ∧ i ≤ 1000 ∧ Q (.int (fact i.toNat : Nat)) H) := ⟨fun {H C P L v t u Q} s c h e k => by
  cases t <;> try (cases e; done)
  rename_i i
  have e' : (if 0 ≤ i ∧ i ≤ 1000 then some (T.int (fact i.toNat)) else none) = some u := e
  split at e'
  · rename_i hh
    cases e'
    exact ⟨i, s.isInt h, hh.1, hh.2, k _ H (s.int _) c⟩
  · cases e'⟩
theorem cl_fac : CallR X (.builtin "math.factorial") (r1 fun x H Q => ∃ i : Int, x = .int i ∧ 0 ≤ i ∧ i ≤ 1000 ∧ Q (.int (fact i.toNat : Nat)) H) := by
  intro pins s σ H xs us Q I r ⟨x, e, i, e2, h0, h1, q⟩
  subst e e2
  obtain ⟨u, rfl, t, rfl⟩ := vals1 r
  refine PySem.W.mc_factorial h0 (by omega) fun _ => ?_
  rw [fact_eq]
  exact ⟨.int _, H, I.tok _, ⟨_, rfl⟩, q⟩
/-! int -/
def gToInt : T → Option T
  | .int i => some (.int i)
  | .bl b => some (.int (if b then 1 else 0))
  | _ => none
theorem ru_int : RU K gToInt (fun x H Q => (∃ i, x = .int i ∧ Q (.int i) H) ∨ ∃ b, x = .bl b ∧ Q (.int (if b then 1 else 0)) H) := ⟨fun {H C P L v t u Q} s c h e k => by
  cases t <;> try (cases e; done)
  · cases e; exact .inr ⟨_, s.isBl h, k _ H (s.int _) c⟩
  · cases e; exact .inl ⟨_, s.isInt h, k _ H (s.int _) c⟩⟩
theorem cl_int : CallR X (.type "int") (r1 fun x H Q => (∃ i, x = .int i ∧ Q (.int i) H) ∨ ∃ b, x = .bl b ∧ Q (.int (if b then 1 else 0)) H) := by
  intro pins s σ H xs us Q I r ⟨x, e, h⟩
  subst e
  refine call_int1 pins s σ H _ us Q I r ?_
  rcases h with ⟨i, rfl, q⟩ | ⟨b, rfl, q⟩
  · exact .inl ⟨i, rfl, q⟩
  · exact .inr ⟨b, rfl, q⟩
/-! any, all -/
theorem ru_any : RU K (fun t => ((seqOf t).bind bls).map fun bs => .bl (bs.any id)) (fun x H Q => ∃ bs : List Bool, ofSeq K x H (bs.map V.bl) ∧ Q (.bl (bs.any id)) H) := ⟨fun {H C P L v t u Q} s c h e k => by
  obtain ⟨bs, e1, rfl⟩ := Option.map_eq_some_iff.mp e
  obtain ⟨xs, e2, e3⟩ := Option.bind_eq_some_iff.mp e1
  obtain ⟨ys, A, W, h1, h2⟩ := s.seqV h e2
  rw [reps_bls h2 e3] at h1
  exact ⟨bs, h1, k _ H (s.bl _) c⟩⟩
theorem ru_all : RU K (fun t => ((seqOf t).bind bls).map fun bs => .bl (bs.all id)) (fun x H Q => ∃ bs : List Bool, ofSeq K x H (bs.map V.bl) ∧ Q (.bl (bs.all id)) H) := ⟨fun {H C P L v t u Q} s c h e k => by
  obtain ⟨bs, e1, rfl⟩ := Option.map_eq_some_iff.mp e
  obtain ⟨xs, e2, e3⟩ := Option.bind_eq_some_iff.mp e1
  obtain ⟨ys, A, W, h1, h2⟩ := s.seqV h e2
  rw [reps_bls h2 e3] at h1
  exact ⟨bs, h1, k _ H (s.bl _) c⟩⟩
end
end Tq
end

section
set_option Elab.async false
set_option maxRecDepth 100000
set_option maxHeartbeats 4000000
/-! TLs14: built-ins by values, more. -/
namespace Tq
open PySem PySem.Spec PyProof.Rows L2
section
variable {X : Cx} {K : PySem.W.Frag} {H : Hp} {C : List Addr} {P : List Pin} {L : VT} {v w : V} {t u : T} {vs : List V} {ts : List T} {Q : VK}
/-! sorted -/
theorem insI_perm (x : Int) : ∀ ys : List Int, (insI x ys).Perm (x :: ys)
  | [] => .refl _
  | y :: ys => by
    unfold insI
    split
    · exact .refl _
    · exact ((insI_perm x ys).cons y).trans (.swap _ _ _)
theorem sortI_perm : ∀ xs : List Int, (sortI xs).Perm xs
  | [] => .refl _
  | x :: xs => (insI_perm x _).trans ((sortI_perm xs).cons x)
theorem insI_sorted (x : Int) : ∀ {ys : List Int}, ys.Pairwise (· ≤ ·) → (insI x ys).Pairwise (· ≤ ·)
  | [], _ => by simp [insI]
  | y :: ys, h => by
    have h' := List.pairwise_cons.mp h
    unfold insI
    split
    · rename_i hxy
      refine List.pairwise_cons.mpr ⟨fun z hz => ?_, h⟩
      rcases List.mem_cons.mp hz with rfl | hz
      · exact hxy
      · exact Int.le_trans hxy (h'.1 z hz)
    · rename_i hxy
      refine List.pairwise_cons.mpr ⟨fun z hz => ?_, insI_sorted x h'.2⟩
      rcases List.mem_cons.mp ((insI_perm x ys).mem_iff.mp hz) with rfl | hz
      · omega
      · exact h'.1 z hz
theorem sortI_sorted : ∀ xs : List Int, (sortI xs).Pairwise (· ≤ ·)
  | [] => .nil
  | x :: xs => insI_sorted x (sortI_sorted xs)
theorem sorted_uniq : ∀ {xs ys : List Int}, xs.Perm ys → xs.Pairwise (· ≤ ·) → ys.Pairwise (· ≤ ·) → xs = ys
  | [], ys, p, _, _ => by have := p.length_eq; cases ys with | nil => rfl | cons _ _ => simp at this
  | x :: xs, [], p, _, _ => by have := p.length_eq; simp at this
  | x :: xs, y :: ys, p, h, g => by
    have h' := List.pairwise_cons.mp h
    have g' := List.pairwise_cons.mp g
    have e : x = y := by
      have m1 : x ∈ y :: ys := p.mem_iff.mp List.mem_cons_self
      have m2 : y ∈ x :: xs := p.mem_iff.mpr List.mem_cons_self
      rcases List.mem_cons.mp m1 with e | m1
      · exact e
      · rcases List.mem_cons.mp m2 with e | m2
        · exact e.symm
        · exact Int.le_antisymm (h'.1 y m2) (g'.1 x m1)
    subst e
    rw [sorted_uniq (List.Perm.cons_inv p) h'.2 g'.2]
def gSort : T → Option T
  | .lst _ xs => (intsL xs).map fun ns => .lst true (ofInts (sortI ns))
  | _ => none
theorem sat_ints (s : Sat K H C P L) : ∀ ns : List Int, Sat K H C P ((ns.map V.int).zip (ns.map T.int) ++ L)
  | [] => s
  | n :: ns => (sat_ints s ns).int n
theorem zip_ints : ∀ ns : List Int, ((ns.map V.int).zip (ns.map T.int)).map (·.1) = ns.map V.int ∧ ((ns.map V.int).zip (ns.map T.int)).map (·.2) = ns.map T.int
  | [] => ⟨rfl, rfl⟩
  | n :: ns => by simp [zip_ints ns]
/-- a list of ints, newly laid -/
theorem Sat.newInts (s : Sat K H C P L) (hc : CH H C) (ns : List Int) {p : Addr} (hp : H p = none) : Sat K (upd H p (.lst (ns.map V.int))) C P ((.ref p, .lst true (ofInts ns)) :: L) := by
  have := (sat_ints s ns).newLst hc hp
  rw [(zip_ints ns).1, (zip_ints ns).2] at this
  exact this
theorem ru_sort : RU K gSort (fun x H Q => ∃ (a : Addr) (ns : List Int), x = .ref a ∧ SqL K H a (ns.map V.int) ∧ ∀ p, H p = none → Q (.ref p) (upd H p (.lst ((sortI ns).map V.int)))) := ⟨fun {H C P L v t u Q} s c h e k => by
  cases t <;> try (cases e; done)
  rename_i o xs
  obtain ⟨ns, e1, rfl⟩ := Option.map_eq_some_iff.mp (show (intsL xs).map (fun ns => T.lst true (ofInts (sortI ns))) = some u from e)
  obtain ⟨a, L1, rfl, e2, h1, _⟩ := s.seq h (xs := xs) rfl
  obtain ⟨A, W, r⟩ := s.look h
  have e3 : L1.map (·.1) = ns.map V.int := by
    have : ∃ vs B, H a = some (.lst vs) ∧ Reps K H W vs xs B := by
      cases r with
      | own h9 r => exact ⟨_, _, h9, r⟩
      | lst h9 _ r => exact ⟨_, _, h9, r⟩
    obtain ⟨vs, B, g1, g2⟩ := this
    have g3 : H a = some (.lst (L1.map (·.1))) := h1
    rw [g1] at g3; cases g3
    exact reps_ints g2 e1
  have h1' : H a = some (.lst (L1.map (·.1))) := h1
  rw [e3] at h1'
  exact ⟨a, ns, rfl, SqL.of h1', fun p hp => k _ _ (s.newInts c (sortI ns) hp) c.upd⟩⟩
theorem cl_sort : CallR X (.builtin "sorted") (r1 fun x H Q => ∃ (a : Addr) (ns : List Int), x = .ref a ∧ SqL X.K H a (ns.map V.int) ∧ ∀ p, H p = none → Q (.ref p) (upd H p (.lst ((sortI ns).map V.int)))) := by
  intro pins s σ H xs us Q I r ⟨x, e, a, ns, e2, h, q⟩
  subst e e2
  refine cr_sortedI pins s σ H _ us Q I r ⟨a, ns, rfl, h, fun ns' p h1 h2 hp => ?_⟩
  have e3 : ns' = sortI ns := sorted_uniq (h1.trans (sortI_perm ns).symm) h2 (sortI_sorted ns)
  rw [e3]; exact q p hp
/-! tuple, list, dict -/
def gTup (t : T) : Option T := (seqOf t).bind fun xs => if shL xs then some (.tup xs) else none
theorem ru_tup : RU K gTup (fun x H Q => ∃ p ys, x = .ref p ∧ ((SqL K H p ys ∧ ∀ l, H l = none → Q (.ref l) (upd H l (.tup ys))) ∨ (SqT K H p ys ∧ Q (.ref p) H))) := ⟨fun {H C P L v t u Q} s c h e k => by
  obtain ⟨xs, e1, e2⟩ := Option.bind_eq_some_iff.mp e
  by_cases hs : shL xs = true
  · rw [if_pos hs] at e2
    cases e2
    obtain ⟨a, L1, rfl, e3, h1, s1⟩ := s.seqs h e1 hs
    subst e3
    refine ⟨a, L1.map (·.1), rfl, ?_⟩
    cases t with
    | tup ys => cases e1; exact .inr ⟨SqT.of h1, k _ _ (s.copy h (by rw [T.sh]; exact hs)) c⟩
    | lst o ys => cases e1; exact .inl ⟨SqL.of h1, fun l hl => k _ _ (s1.newTup hl) c.upd⟩
    | _ => cases e1
  · rw [if_neg hs] at e2; cases e2⟩
theorem cl_tup : CallR X (.type "tuple") (r1 fun x H Q => ∃ p ys, x = .ref p ∧ ((SqL X.K H p ys ∧ ∀ l, H l = none → Q (.ref l) (upd H l (.tup ys))) ∨ (SqT X.K H p ys ∧ Q (.ref p) H))) := by
  intro pins s σ H xs us Q I r ⟨x, e, p, ys, e2, h⟩
  subst e e2
  exact call_tuple_of pins s σ H _ us Q I r ⟨p, ys, rfl, h⟩
def gLst : T → Option T
  | .dic _ kvs => some (.lst true (kvs.map (·.1)))
  | t => (seqOf t).bind fun xs => if shL xs then some (.lst true xs) else none
theorem zip_fst {α β : Type} : ∀ {xs : List α} {ys : List β}, xs.length = ys.length → (xs.zip ys).map (·.1) = xs
  | [], [], _ => rfl
  | x :: xs, y :: ys, h => by simp [zip_fst (show xs.length = ys.length by simpa using h)]
theorem zip_snd {α β : Type} : ∀ {xs : List α} {ys : List β}, xs.length = ys.length → (xs.zip ys).map (·.2) = ys
  | [], [], _ => rfl
  | x :: xs, y :: ys, h => by simp [zip_snd (show xs.length = ys.length by simpa using h)]
theorem rep_key {W : Addr → Prop} (k : Key) : Rep K H W (kV k) (keyT k) [] := by cases k <;> constructor
theorem reps_keys {W : Addr → Prop} : ∀ ks : List Key, Reps K H W (ks.map kV) (ks.map keyT) []
  | [] => .nil
  | k :: ks => .cons (A := []) (B := []) (rep_key k) (reps_keys ks)
theorem reps_tkeys {W : Addr → Prop} : ∀ {kv : List (List Key × V)} {bs : List Addr}, IsKeys H kv bs → Reps K H W (bs.map V.ref) (kv.map fun p => keysT p.1) []
  | _, _, .nil => .nil
  | _, _, .cons h r => .cons (A := []) (B := []) (.tup h (reps_keys _)) (reps_tkeys r)
/-- new live values that own nothing -/
theorem Sat.addL (s : Sat K H C P L) {vs : List V} {ts : List T} (h : ∀ W : Addr → Prop, Reps K H W vs ts []) : Sat K H C P (vs.zip ts ++ L) := by
  obtain ⟨A, r, nd, hP⟩ := s.ex
  have hl := (h fun _ => True).length
  refine ⟨A, ?_, nd, hP⟩
  rw [List.map_append, List.map_append, zip_fst hl, zip_snd hl]
  exact (h _).append (B := A) r
theorem ru_lst : RU K gLst (fun x H Q => ∃ p, x = .ref p ∧ ((∃ ys, (SqL K H p ys ∨ SqT K H p ys) ∧ ∀ l, H l = none → Q (.ref l) (upd H l (.lst ys))) ∨ (∃ kvs, Rd H p (.dK kvs) ∧ ∀ l, H l = none → Q (.ref l) (upd H l (.lst (kvs.map fun kv => kV kv.1)))) ∨
    (∃ kvs, Rd H p (.dT kvs) ∧ ∀ l bs, H l = none → IsKeys H kvs bs → Q (.ref l) (upd H l (.lst (bs.map V.ref)))))) := ⟨fun {H C P L v t u Q} s c h e k => by
  have seq : ∀ {xs : List T}, seqOf t = some xs → (if shL xs then some (T.lst true xs) else none) = some u → ∃ p, v = .ref p ∧ ∃ ys, (SqL K H p ys ∨ SqT K H p ys) ∧ ∀ l, H l = none → Q (.ref l) (upd H l (.lst ys)) := fun {xs} e1 e2 => by
    by_cases hs : shL xs = true
    · rw [if_pos hs] at e2
      cases e2
      obtain ⟨a, L1, rfl, e3, h1, s1⟩ := s.seqs h e1 hs
      subst e3
      refine ⟨a, rfl, _, ?_, fun l hl => k _ _ (s1.newLst c hl) c.upd⟩
      cases t with
      | tup ys => cases e1; exact .inr (SqT.of h1)
      | lst o ys => cases e1; exact .inl (SqL.of h1)
      | _ => cases e1
    · rw [if_neg hs] at e2; cases e2
  have doK : ∀ {a : Addr} {kv : List (Key × V)} {ts : List T}, Rd H a (.dK kv) → kv.length = ts.length → u = .lst true (((kv.map fun p => keyT p.1).zip ts).map (·.1)) → ∀ l, H l = none → Q (.ref l) (upd H l (.lst (kv.map fun kv => kV kv.1))) := fun {a kv ts} hd hl e l hl' => by
    subst e
    rw [zip_fst (by rw [List.length_map]; exact hl)] at k
    have rr : ∀ W : Addr → Prop, Reps K H W (kv.map fun p => kV p.1) (kv.map fun p => keyT p.1) [] := fun W => by
      have := reps_keys (K := K) (H := H) (W := W) (kv.map (·.1))
      rw [List.map_map, List.map_map] at this
      exact this
    have s1 := (s.addL rr).newLst c hl'
    rw [zip_fst (by simp), zip_snd (by simp)] at s1
    exact k _ _ s1 c.upd
  have doT : ∀ {a : Addr} {kv : List (List Key × V)} {ts : List T}, Rd H a (.dT kv) → kv.length = ts.length → u = .lst true (((kv.map fun p => keysT p.1).zip ts).map (·.1)) → ∀ l bs, H l = none → IsKeys H kv bs → Q (.ref l) (upd H l (.lst (bs.map V.ref))) := fun {a kv ts} hd hl e l bs hl' hk => by
    subst e
    rw [zip_fst (by rw [List.length_map]; exact hl)] at k
    have hb : bs.length = kv.length := (Paired.length hk).symm
    have s1 := (s.addL fun W => reps_tkeys (K := K) (H := H) (W := W) hk).newLst c hl'
    rw [zip_fst (by simp [hb]), zip_snd (by simp [hb])] at s1
    exact k _ _ s1 c.upd
  obtain ⟨A, W, r⟩ := s.look h
  cases r with
  | tup h1 r =>
    obtain ⟨p, e1, e2⟩ := seq rfl e
    exact ⟨p, e1, .inl e2⟩
  | own h1 r =>
    obtain ⟨p, e1, e2⟩ := seq rfl e
    exact ⟨p, e1, .inl e2⟩
  | lst h1 _ r =>
    obtain ⟨p, e1, e2⟩ := seq rfl e
    exact ⟨p, e1, .inl e2⟩
  | ownK h1 nd r => cases e; exact ⟨_, rfl, .inr (.inl ⟨_, .inl h1, doK (.inl h1) (by have := r.length; simpa using this) rfl⟩)⟩
  | ownT h1 nd r => cases e; exact ⟨_, rfl, .inr (.inr ⟨_, .inl h1, doT (.inl h1) (by have := r.length; simpa using this) rfl⟩)⟩
  | dicK h1 _ nd r => cases e; exact ⟨_, rfl, .inr (.inl ⟨_, h1, doK h1 (by have := r.length; simpa using this) rfl⟩)⟩
  | dicT h1 _ nd r => cases e; exact ⟨_, rfl, .inr (.inr ⟨_, h1, doT h1 (by have := r.length; simpa using this) rfl⟩)⟩
  | _ => cases e⟩
theorem cl_lst (hc : X.calm = true) : CallR X (.type "list") (r1 fun x H Q => ∃ p, x = .ref p ∧ ((∃ ys, (SqL X.K H p ys ∨ SqT X.K H p ys) ∧ ∀ l, H l = none → Q (.ref l) (upd H l (.lst ys))) ∨ (∃ kvs, Rd H p (.dK kvs) ∧ ∀ l, H l = none → Q (.ref l) (upd H l (.lst (kvs.map fun kv => kV kv.1)))) ∨
    (∃ kvs, Rd H p (.dT kvs) ∧ ∀ l bs, H l = none → IsKeys H kvs bs → Q (.ref l) (upd H l (.lst (bs.map V.ref)))))) := by
  intro pins s σ H xs us Q I r ⟨x, e, p, e2, h⟩
  subst e e2
  rcases h with ⟨ys, h, q⟩ | ⟨kvs, h, q⟩ | ⟨kvs, h, q⟩
  · exact call_list_of pins s σ H _ us Q I r ⟨p, ys, rfl, h, q⟩
  · exact call_listD hc pins s σ H _ us Q I r ⟨p, kvs, rfl, h, q⟩
  · exact call_list_dT hc pins s σ H _ us Q I r ⟨p, kvs, rfl, h, fun l bs h1 h2 => q l bs h1 h2⟩
def gDic : T → Option T
  | .dic _ kvs => if shK kvs && kvs.all fun p => k1 p.1 then some (.dic true kvs) else none
  | _ => none
theorem ru_dic : RU K gDic (fun x H Q => ∃ p kvs, x = .ref p ∧ Rd H p (.dK kvs) ∧ ∀ l, H l = none → Q (.ref l) (upd H l (.dK kvs))) := ⟨fun {H C P L v t u Q} s c h e k => by
  obtain ⟨A, B, r0, nd, hP, r⟩ := s.at h
  have doK : ∀ {a : Addr} {kv : List (Key × V)} {ts : List T} {D : List Addr}, Rd H a (.dK kv) → (kv.map (·.1)).Nodup → Reps K H (fun b => b ∈ C ++ A) (kv.map (·.2)) ts D → shL ts = true → u = .dic true ((kv.map fun p => keyT p.1).zip ts) → ∀ l, H l = none → Q (.ref l) (upd H l (.dK kv)) := fun {a kv ts D} hd hn rr hs e l hl' => by
    subst e
    rw [rr.sh hs] at rr
    obtain ⟨L1, e1, e2⟩ := reps_pair rr
    have s1 : Sat K H C P (L1 ++ L) := ⟨A, by rw [List.map_append, List.map_append, e1, e2]; exact rr.append r0, nd, hP⟩
    have s2 := s1.newO (o := .dK kv) (t := .dic true ((kv.map fun p => keyT p.1).zip ts)) hl' (fun W A r => by rw [e1, e2] at r; exact .ownK upd_same hn r) (c.not hl')
    exact k _ _ s2 c.upd
  have ek : ∀ {o : Bool} {kvs : List (T × T)}, gDic (.dic o kvs) = some u → shK kvs = true ∧ (kvs.all fun p => k1 p.1) = true ∧ u = .dic true kvs := fun {o kvs} e => by
    have e' : (if (shK kvs && kvs.all fun p => k1 p.1) = true then some (T.dic true kvs) else none) = some u := e
    split at e'
    · rename_i hh; rw [Bool.and_eq_true] at hh; cases e'; exact ⟨hh.1, hh.2, rfl⟩
    · cases e'
  have noT : ∀ {kv : List (List Key × V)} {ts : List T}, kv ≠ [] → kv.length = ts.length → (((kv.map fun p => keysT p.1).zip ts).all fun p => k1 p.1) = true → False := fun {kv ts} hne hl h => by
    cases kv with
    | nil => exact hne rfl
    | cons p kv =>
      cases ts with
      | nil => simp at hl
      | cons t ts =>
        rw [List.map_cons, List.zip_cons_cons, List.all_cons, k1_keysT] at h
        cases h
  cases r with
  | ownK h1 hn r =>
    obtain ⟨g1, g2, g3⟩ := ek e
    exact ⟨_, _, rfl, .inl h1, doK (.inl h1) hn r (shK_zip (by have := r.length; simpa using this) g1) g3⟩
  | dicK h1 _ hn r =>
    obtain ⟨g1, g2, g3⟩ := ek e
    exact ⟨_, _, rfl, h1, doK h1 hn r (shK_zip (by have := r.length; simpa using this) g1) g3⟩
  | ownT h1 hn r =>
    obtain ⟨g1, g2, g3⟩ := ek e
    exact (noT hn.2 (by have := r.length; simpa using this) g2).elim
  | dicT h1 _ hn r =>
    obtain ⟨g1, g2, g3⟩ := ek e
    exact (noT hn.2 (by have := r.length; simpa using this) g2).elim
  | _ => cases e⟩
theorem cl_dic : CallR X (.type "dict") (r1 fun x H Q => ∃ p kvs, x = .ref p ∧ Rd H p (.dK kvs) ∧ ∀ l, H l = none → Q (.ref l) (upd H l (.dK kvs))) := by
  intro pins s σ H xs us Q I r ⟨x, e, p, kvs, e2, h⟩
  subst e e2
  exact call_dictD pins s σ H _ us Q I r ⟨p, kvs, rfl, h⟩
/-! repr -/
theorem textFrom_le : ∀ (ts : List Str) (k : Nat) (acc : Str), (textFrom k acc ts).length ≤ acc.length + piled ts
  | [], k, acc => Nat.le_add_right _ _
  | t :: ts, k, acc => by
    have ih := textFrom_le ts (k + 1) (acc ++ (if k > 0 then ", " else "" : String) ++ t)
    show (textFrom (k + 1) _ ts).length ≤ _
    rw [strLen_append, strLen_append] at ih
    have e1 : ((((if k > 0 then ", " else "" : String) : Str)).length) ≤ 2 := by split <;> decide
    rw [piled_cons]
    omega
theorem listText_le (ts : List Str) : (listText ts).length ≤ 2 + piled ts := by
  unfold listText
  rw [strLen_append]
  have := textFrom_le ts 0 "["
  have e1 : (((("[" : String) : Str)).length) = 1 := rfl
  have e2 : (((("]" : String) : Str)).length) = 1 := rfl
  omega
theorem tupleText_le (ts : List Str) : (tupleText ts).length ≤ 3 + piled ts := by
  unfold tupleText
  rw [strLen_append, strLen_append]
  have e1 : (((("(" : String) : Str)).length) = 1 := rfl
  have e3 : (((if ts.length == 1 then ",)" else ")" : String) : Str)).length ≤ 2 := by split <;> decide
  cases ts with
  | nil =>
    have : (Str.join ", " ([] : List Str)).length = 0 := rfl
    omega
  | cons t ts =>
    have := join_length_add (t :: ts) (by simp)
    omega
mutual
theorem wt_shown : ∀ (n : Nat) (t : T), t.wt n < LL → (toD t).shown.length ≤ t.wt n ∧ (toD t).showable = true ∧ (toD t).hasDict = false
  | n, .non, _ => ⟨by show (4 : Nat) ≤ T.wt n .non; cases n <;> exact Nat.le_refl _, rfl, rfl⟩
  | n, .bl b, _ => ⟨by have : T.wt n (.bl b) = 5 := by cases n <;> rfl
                       rw [this]; cases b <;> decide, rfl, rfl⟩
  | n, .int i, h => by
    have e : T.wt n (.int i) = if i.natAbs < 10 ^ 300 then 400 else LL := by cases n <;> rfl
    rw [e] at h ⊢
    split at h
    · rename_i hi
      rw [if_pos hi]
      refine ⟨?_, ?_, rfl⟩
      · show (Str.ofString (toString i)).length ≤ 400
        have h1 := int_text_length_le10 (a := i) (k := 300) (by decide) hi
        have h2 : (Str.ofString (toString i)).length = (toString i).length := PySem.ofString_length _
        omega
      · show decide (i.natAbs.log2 < 1920) = true
        rw [decide_eq_true_eq]
        by_cases h0 : i.natAbs = 0
        · rw [h0]; decide
        · have h3 : 2 ^ i.natAbs.log2 ≤ i.natAbs := Nat.log2_self_le h0
          have h4 : (2 : Nat) ^ i.natAbs.log2 < 2 ^ 1920 := Nat.lt_of_le_of_lt h3 (Nat.lt_trans hi (by decide +kernel))
          exact (Nat.pow_lt_pow_iff_right (by decide)).mp h4
    · exact absurd h (Nat.lt_irrefl _)
  | n, .str s, h => by
    have e : T.wt n (.str s) = LL := by cases n <;> rfl
    rw [e] at h; exact absurd h (Nat.lt_irrefl _)
  | 0, .tup xs, h => absurd h (Nat.lt_irrefl _)
  | 0, .lst o xs, h => absurd h (Nat.lt_irrefl _)
  | n + 1, .tup xs, h => by
    have h' : 4 + (xs.map fun x => x.wt n + 2).sum < LL := h
    obtain ⟨h1, h2, h3⟩ := wt_showns n xs (by omega)
    refine ⟨?_, by show PyData.showable (.tuple (toDs xs)) = true; unfold PyData.showable; exact h2, by show PyData.hasDict (.tuple (toDs xs)) = false; unfold PyData.hasDict; exact h3⟩
    show (PyData.shown (.tuple (toDs xs))).length ≤ 4 + (xs.map fun x => x.wt n + 2).sum
    unfold PyData.shown
    have := tupleText_le (PyData.shownAll (toDs xs))
    omega
  | n + 1, .lst o xs, h => by
    have h' : 4 + (xs.map fun x => x.wt n + 2).sum < LL := h
    obtain ⟨h1, h2, h3⟩ := wt_showns n xs (by omega)
    refine ⟨?_, by show PyData.showable (.list (toDs xs)) = true; unfold PyData.showable; exact h2, by show PyData.hasDict (.list (toDs xs)) = false; unfold PyData.hasDict; exact h3⟩
    show (PyData.shown (.list (toDs xs))).length ≤ 4 + (xs.map fun x => x.wt n + 2).sum
    unfold PyData.shown
    have := listText_le (PyData.shownAll (toDs xs))
    omega
  | n, .dic o kvs, h => by
    have e : T.wt n (.dic o kvs) = LL := by cases n <;> rfl
    rw [e] at h; exact absurd h (Nat.lt_irrefl _)
  | n, .scr xs, h => by
    have e : T.wt n (.scr xs) = LL := by cases n <;> rfl
    rw [e] at h; exact absurd h (Nat.lt_irrefl _)
theorem wt_showns : ∀ (n : Nat) (ts : List T), (ts.map fun x => x.wt n + 2).sum < LL → piled (PyData.shownAll (toDs ts)) ≤ (ts.map fun x => x.wt n + 2).sum ∧ PyData.showableAll (toDs ts) = true ∧ PyData.hasDictAll (toDs ts) = false
  | n, [], _ => ⟨Nat.zero_le _, rfl, rfl⟩
  | n, t :: ts, h => by
    rw [List.map_cons, List.sum_cons] at h
    obtain ⟨h1, h2, h3⟩ := wt_shown n t (by omega)
    obtain ⟨g1, g2, g3⟩ := wt_showns n ts (by omega)
    refine ⟨?_, ?_, ?_⟩
    · rw [toDs, PyData.shownAll, piled_cons, List.map_cons, List.sum_cons]; omega
    · rw [toDs, PyData.showableAll, h2, g2]; rfl
    · rw [toDs, PyData.hasDictAll, h3, g3]; rfl
end
def rpr (t : T) : Str := (toD t).shown
def gRepr (t : T) : Option T := if isSq t && wtOk t then some (.str (rpr t)) else none
theorem ru_repr : RU K gRepr (fun x H Q => ∃ t, Dp K H x (toD t) ∧ isSq t = true ∧ wtOk t = true ∧ Q (.str (rpr t)) H) := ⟨fun {H C P L v t u Q} s c h e k => by
  unfold gRepr at e
  split at e
  · rename_i hh
    rw [Bool.and_eq_true] at hh
    cases e
    refine ⟨t, s.data h (n := 7) ?_, hh.1, hh.2, k _ H (s.str _) c⟩
    have := hh.2
    unfold wtOk at this
    rw [Bool.and_eq_true] at this
    exact this.2
  · cases e⟩
theorem cl_repr (hg : X.A.guards = some []) (hu : X.A.units + 65 < cLine) : CallR X (.builtin "repr") (r1 fun x H Q => ∃ t, Dp X.K H x (toD t) ∧ isSq t = true ∧ wtOk t = true ∧ Q (.str (rpr t)) H) := by
  intro pins s σ H xs us Q I r ⟨x, e, t, hd, hs, hw, q⟩
  subst e
  obtain ⟨u, rfl, rx⟩ := vals1 r
  obtain ⟨as, rr⟩ := Dp.reads I _ x u hd rx
  unfold wtOk at hw
  rw [Bool.and_eq_true, decide_eq_true_eq] at hw
  obtain ⟨h1, h2, h3⟩ := wt_shown 7 t (by have := hw.1; unfold LL; omega)
  obtain ⟨h4, h5⟩ := lay_data 7 t hw.2
  have ha : ∃ a, u = .ref a := by
    cases t with
    | tup xs =>
      rw [toD] at hd
      cases hd
      exact ⟨_, rx⟩
    | lst o xs =>
      rw [toD] at hd
      cases hd
      exact ⟨_, rx⟩
    | _ => cases hs
  obtain ⟨a, rfl⟩ := ha
  exact repr_of_reads' rr h2 (PyData.noDict_hsm h3) hg (by omega) (fun _ _ e => e) (fun h' u tk hk => ⟨.str (rpr t), H, I.kept hk, ⟨_, rfl⟩, q⟩) (by rw [sizeLine_eq]; have := hw.1; omega)
/-! isinstance -/
def tyN : Ty → String
  | .int => "int"
  | .bool => "bool"
  | .tuple => "tuple"
  | .list => "list"
  | .str => "str"
  | .dict => "dict"
def tnOf : T → String
  | .non => "NoneType"
  | .bl _ => "bool"
  | .int _ => "int"
  | .str _ => "str"
  | .tup _ => "tuple"
  | .lst _ _ => "list"
  | .dic _ _ => "dict"
  | .scr _ => "list"
theorem Rep.ty {W : Addr → Prop} {A : List Addr} (r : Rep K H W v t A) (h : isK t = true) : TyX K H v (.type (tnOf t)) := by
  cases r with
  | non => exact .base .non
  | bl b => exact .base (.bl b)
  | int i => exact .base (.int i)
  | str i => exact .base (.str i)
  | tup h9 r => exact .base (.tup h9)
  | own h9 r => exact .base (.lst h9)
  | lst h9 _ r => exact .base (.lst h9)
  | ownK h9 _ r => exact .base (.dK h9)
  | ownT h9 _ r => exact .base (.dT h9)
  | _ => cases h
theorem isTy_kit {t : T} (h : isK t = true) (y : Ty) : kitB (tnOf t) (tyN y) = some (isTy t y) := by
  cases t with
  | non => cases y <;> decide +kernel
  | bl b => cases y <;> first | (show kitB "bool" "int" = some (isTy (.bl true) .int); decide +kernel) | (show kitB "bool" "bool" = some (isTy (.bl true) .bool); decide +kernel) | (show kitB "bool" "tuple" = some (isTy (.bl true) .tuple); decide +kernel) | (show kitB "bool" "list" = some (isTy (.bl true) .list); decide +kernel) | (show kitB "bool" "str" = some (isTy (.bl true) .str); decide +kernel) | (show kitB "bool" "dict" = some (isTy (.bl true) .dict); decide +kernel)
  | int b => cases y <;> first | (show kitB "int" "int" = some (isTy (.int 0) .int); decide +kernel) | (show kitB "int" "bool" = some (isTy (.int 0) .bool); decide +kernel) | (show kitB "int" "tuple" = some (isTy (.int 0) .tuple); decide +kernel) | (show kitB "int" "list" = some (isTy (.int 0) .list); decide +kernel) | (show kitB "int" "str" = some (isTy (.int 0) .str); decide +kernel) | (show kitB "int" "dict" = some (isTy (.int 0) .dict); decide +kernel)
  | str b => cases y <;> first | (show kitB "str" "int" = some (isTy (.str ⟨#[]⟩) .int); decide +kernel) | (show kitB "str" "bool" = some (isTy (.str ⟨#[]⟩) .bool); decide +kernel) | (show kitB "str" "tuple" = some (isTy (.str ⟨#[]⟩) .tuple); decide +kernel) | (show kitB "str" "list" = some (isTy (.str ⟨#[]⟩) .list); decide +kernel) | (show kitB "str" "str" = some (isTy (.str ⟨#[]⟩) .str); decide +kernel) | (show kitB "str" "dict" = some (isTy (.str ⟨#[]⟩) .dict); decide +kernel)
  | tup b => cases y <;> first | (show kitB "tuple" "int" = some (isTy (.tup []) .int); decide +kernel) | (show kitB "tuple" "bool" = some (isTy (.tup []) .bool); decide +kernel) | (show kitB "tuple" "tuple" = some (isTy (.tup []) .tuple); decide +kernel) | (show kitB "tuple" "list" = some (isTy (.tup []) .list); decide +kernel) | (show kitB "tuple" "str" = some (isTy (.tup []) .str); decide +kernel) | (show kitB "tuple" "dict" = some (isTy (.tup []) .dict); decide +kernel)
  | lst o b => cases y <;> first | (show kitB "list" "int" = some (isTy (.lst true []) .int); decide +kernel) | (show kitB "list" "bool" = some (isTy (.lst true []) .bool); decide +kernel) | (show kitB "list" "tuple" = some (isTy (.lst true []) .tuple); decide +kernel) | (show kitB "list" "list" = some (isTy (.lst true []) .list); decide +kernel) | (show kitB "list" "str" = some (isTy (.lst true []) .str); decide +kernel) | (show kitB "list" "dict" = some (isTy (.lst true []) .dict); decide +kernel)
  | dic o b => cases y <;> first | (show kitB "dict" "int" = some (isTy (.dic true []) .int); decide +kernel) | (show kitB "dict" "bool" = some (isTy (.dic true []) .bool); decide +kernel) | (show kitB "dict" "tuple" = some (isTy (.dic true []) .tuple); decide +kernel) | (show kitB "dict" "list" = some (isTy (.dic true []) .list); decide +kernel) | (show kitB "dict" "str" = some (isTy (.dic true []) .str); decide +kernel) | (show kitB "dict" "dict" = some (isTy (.dic true []) .dict); decide +kernel)
  | scr _ => cases h
theorem kitAny_any {t : T} (h : isK t = true) : ∀ ys : List Ty, PySem.W.kitAny K (.type (tnOf t)) (ys.map fun y => Value.type (tyN y)) = some (ys.any (isTy t))
  | [] => rfl
  | y :: ys => by
    rw [List.map_cons, List.any_cons]
    refine kitAny_cons (b := isTy t y) (kit_ty (isTy_kit h y)) (fun e => ?_) (fun e => ?_)
    · rw [e, Bool.false_or]; exact kitAny_any h ys
    · rw [e, Bool.true_or]
end
end Tq
end

section
set_option Elab.async false
set_option maxRecDepth 100000
set_option maxHeartbeats 4000000
/-! TLs15: argument lists, calls of built-ins, displays. -/
namespace Tq
open PySem PySem.Spec PyProof.Rows L2

def Fr.ops (F : Fr) : List V → List Op → Fr
  | v :: vs, x :: xs => (F.op v x).ops vs xs
  | _, _ => F
def OpsOk (σ : L2.St) : List V → List Op → Prop
  | v :: vs, x :: xs => OpOk σ v x ∧ OpsOk σ vs xs
  | _, _ => True
def tOs (K : PySem.W.Frag) (f : Env → R (List Op)) : TA := fun σ H Q => ∃ ε F os ε', SR K σ ε F H ∧ f ε = .ok os ε' ∧ ∀ vs H', vs.length = os.length → SR K σ ε' (F.ops vs os) H' → OpsOk σ vs os → Q vs H'
section
variable {K : PySem.W.Frag} {σ : L2.St} {ε ε' : Env} {F : Fr} {H H' : Hp} {v w : V} {t u : T} {i : Nat}
theorem ops_sub : ∀ {vs : List V} {os : List Op} {F : Fr} {p : V × T}, p ∈ F.R → p ∈ (F.ops vs os).R
  | [], _, _, _, h => h
  | _ :: _, [], _, _, h => h
  | v :: vs, x :: xs, F, p, h => ops_sub (vs := vs) (os := xs) (F := F.op v x) (Fr.op_sub F h)
theorem ops_C : ∀ (vs : List V) (os : List Op) (F : Fr), (F.ops vs os).C = F.C
  | [], _, _ => rfl
  | _ :: _, [], _ => rfl
  | v :: vs, x :: xs, F => (ops_C vs xs (F.op v x)).trans (Fr.op_C F)
theorem ops_P : ∀ (vs : List V) (os : List Op) (F : Fr), (F.ops vs os).P = F.P
  | [], _, _ => rfl
  | _ :: _, [], _ => rfl
  | v :: vs, x :: xs, F => (ops_P vs xs (F.op v x)).trans (Fr.op_P F)
theorem ops_under : ∀ {vs : List V} {os : List Op} {F : Fr} {p : V × T}, SR K σ ε ((F.ops vs os).push p) H → SR K σ ε (F.push p) H
  | [], _, _, _, s => s
  | _ :: _, [], _, _, s => s
  | v :: vs, x :: xs, F, p, s => SR.under (v := v) (x := x) (ops_under (vs := vs) (os := xs) (F := F.op v x) s)
theorem ops_over : ∀ {vs : List V} {os : List Op} {F : Fr}, SR K σ ε (F.ops vs os) H → SR K σ ε F H
  | [], _, _, s => s
  | _ :: _, [], _, s => s
  | v :: vs, x :: xs, F, s => SR.over (v := v) (x := x) (ops_over (vs := vs) (os := xs) (F := F.op v x) s)
/-- live operands -/
theorem ops_live : ∀ {vs : List V} {os : List Op} {F : Fr} {ts : List T}, SR K σ ε (F.ops vs os) H → OpsOk σ vs os → vs.length = os.length → pks ε os = some ts → ∀ G : VT, (∀ p ∈ (F.ops vs os).R, p ∈ G) → (∀ p ∈ slots σ ε, p ∈ G) → vs.length = ts.length ∧ ∀ p ∈ vs.zip ts, p ∈ G
  | [], [], F, ts, _, _, _, e, G, _, _ => by cases e; exact ⟨rfl, fun p hp => by simp at hp⟩
  | v :: vs, x :: xs, F, ts, s, ok, hl, e, G, h1, h2 => by
    have e' : (match pk ε x, pks ε xs with | some t, some ts => some (t :: ts) | _, _ => none) = some ts := e
    cases hx : pk ε x with
    | none => rw [hx] at e'; cases e'
    | some t =>
      cases hxs : pks ε xs with
      | none => rw [hx, hxs] at e'; cases e'
      | some us =>
        rw [hx, hxs] at e'
        cases e'
        obtain ⟨g1, g2⟩ := ops_live (vs := vs) (os := xs) (F := F.op v x) s ok.2 (by simpa using hl) hxs G h1 h2
        refine ⟨by simp [g1], fun p hp => ?_⟩
        rw [List.zip_cons_cons] at hp
        rcases List.mem_cons.mp hp with rfl | hp
        · cases x with
          | t t' => cases hx; exact h1 _ (ops_sub (F := F.op v (.t t)) (F.op_mem rfl))
          | s i =>
            obtain ⟨w, q1, q2⟩ := SR.mem s (i := i) (t := t) hx
            have : σ[i]? = some (some v) := ok.1
            rw [this] at q1; cases q1
            rcases List.mem_append.mp q2 with q | q
            · exact h1 _ q
            · exact h2 _ q
        · exact g2 p hp
end
section
variable {X : Cx} {x : Str} {p pos apos cpos : Pos} {a b c e : Expr} {es : List Expr} {i : Nat} {ir jr kr : E} {f f' f2 : Env → R T} {g : Env → R (List Op)}
theorem pa_nil' : PA X [] (tOs X.K fun ε => .ok [] ε) := pa_imp pa_nil fun σ H Q ⟨ε, F, os, ε', s, e, k⟩ => by
  cases e; exact k [] H rfl s trivial
theorem pa_cons' (he : PE X e (tO X.K (asO ir f))) (hr : PA X es (tOs X.K g)) (hs : isStar e = false) : PA X (e :: es) (tOs X.K fun ε => bnd (asO ir f ε) fun x ε1 => bnd (g ε1) fun xs ε2 => .ok (x :: xs) ε2) :=
  pa_imp (pa_cons he hr (star1 hs)) fun σ H Q ⟨ε, F, os, ε', s, e, k⟩ => by
    obtain ⟨x, ε1, h1, e⟩ := bnd_inv e
    obtain ⟨xs, ε2, h2, e⟩ := bnd_inv e
    cases e
    exact ⟨ε, F, x, ε1, s, h1, fun v H1 s1 ok1 => ⟨ε1, F.op v x, xs, _, s1, h2, fun vs H2 hl s2 ok2 => k (v :: vs) H2 (by simp [hl]) s2 ⟨ok1, ok2⟩⟩⟩
theorem pk_nil' : PK X [] (tOs X.K fun ε => .ok [] ε) := pk_imp pk_nil fun σ H Q ⟨ε, F, os, ε', s, e, k⟩ => by
  cases e; exact k [] H rfl s trivial
theorem pk_cons' {kws : List Keyword} {nm : Option Str} {kpos : Pos} (he : PE X e (tO X.K (asO ir f))) (hr : PK X kws (tOs X.K g)) : PK X (⟨nm, e, kpos⟩ :: kws) (tOs X.K fun ε => bnd (asO ir f ε) fun x ε1 => bnd (g ε1) fun xs ε2 => .ok (x :: xs) ε2) :=
  pk_imp (pk_cons he hr) fun σ H Q ⟨ε, F, os, ε', s, e, k⟩ => by
    obtain ⟨x, ε1, h1, e⟩ := bnd_inv e
    obtain ⟨xs, ε2, h2, e⟩ := bnd_inv e
    cases e
    exact ⟨ε, F, x, ε1, s, h1, fun v H1 s1 ok1 => ⟨ε1, F.op v x, xs, _, s1, h2, fun vs H2 hl s2 ok2 => k (v :: vs) H2 (by simp [hl]) s2 ⟨ok1, ok2⟩⟩⟩
def noStar : List Expr → Bool
  | [] => true
  | e :: es => !isStar e && noStar es
theorem noStar_any : ∀ {es : List Expr} {env : PySem.Env} {pos : Pos}, noStar es = true → (backTo pos (starEach es env)).any (·.1) = false
  | [], _, _, _ => rfl
  | e :: es, env, pos, h => by
    have h' : (!isStar e && noStar es) = true := h
    rw [Bool.and_eq_true] at h'
    rw [star1 (by simpa using h'.1)]
    show (false || (backTo pos (starEach es env)).any (·.1)) = false
    rw [noStar_any h'.2]; rfl
theorem noStar_head {es : List Expr} (h : noStar (e :: es) = true) : isStar e = false ∧ noStar es = true := by
  have h' : (!isStar e && noStar es) = true := h
  rw [Bool.and_eq_true] at h'
  exact ⟨by simpa using h'.1, h'.2⟩
/-- operands, then a rule by values -/
def fBi (g : Env → R (List Op)) (h : List T → Option T) (ε : Env) : R T := bnd (g ε) fun os ε1 => match pks ε1 os with
  | some ts => ofO (h ts) ε1
  | none => .no
theorem read_bi {r : List V → Hp → VK → Prop} {h : List T → Option T} (hb : RB X.K h r) {σ : L2.St} {H : Hp} {Q : VK} (w : tE X.K (fBi g h) σ H Q) : tCB r (tOs X.K g) σ H Q := by
  obtain ⟨ε, F, t, ε', s, e, k⟩ := w
  obtain ⟨os, ε1, h1, e⟩ := bnd_inv e
  cases hp : pks ε1 os with
  | none => rw [hp] at e; cases e
  | some ts =>
    rw [hp] at e
    obtain ⟨e2, rfl⟩ := ofO_inv e
    refine ⟨ε, F, os, _, s, h1, fun vs H1 hl s1 ok => ?_⟩
    obtain ⟨g1, g2⟩ := ops_live s1 ok hl hp ((F.ops vs os).R ++ slots σ ε') (fun p hp => List.mem_append_left _ hp) (fun p hp => List.mem_append_right _ hp)
    exact hb.run s1.sat s1.ch g1 g2 e2 fun z H' s' c' => k z H' (ops_under (vs := vs) (os := os) (SR.make s1.al s' c'))
theorem pe_bi {id : String} {r : List V → Hp → VK → Prop} {h : List T → Option T} (hr : CallR X (.builtin id) r) (hb : RB X.K h r) (hg : Gl X x) (hm : X.mg x = none) (hv : bootBuiltins x = some (.builtin id)) (hn : x ≠ "__name__") (hdb : (x == ("__debug__" : Str)) = false)
    (ha : PA X (e :: es) (tOs X.K g)) (hs : noStar (e :: es) = true) : PE X (.Call (.Name x p) (e :: es) [] pos) (tE X.K (fBi g h)) :=
  pe_imp (pe_callB hr hg hm hv ha hn hdb (star1 (noStar_head hs).1) (noStar_any (noStar_head hs).2)) fun _ _ _ w => read_bi hb w
theorem pe_ty {T' : String} {r : List V → Hp → VK → Prop} {h : List T → Option T} (hr : CallR X (.type T') r) (hb : RB X.K h r) (hg : Gl X x) (hm : X.mg x = none) (hv : bootBuiltins x = some (.type T')) (hn : x ≠ "__name__") (hdb : (x == ("__debug__" : Str)) = false)
    (ha : PA X (e :: es) (tOs X.K g)) (hs : noStar (e :: es) = true) : PE X (.Call (.Name x p) (e :: es) [] pos) (tE X.K (fBi g h)) :=
  pe_imp (pe_callTy hr hg hm hv ha hn hdb (star1 (noStar_head hs).1) (noStar_any (noStar_head hs).2)) fun _ _ _ w => read_bi hb w
theorem pe_bfun {id : String} {r : List V → Hp → VK → Prop} {h : List T → Option T} (hr : CallR X (.builtin id) r) (hb : RB X.K h r) (hg : Gl X x) (hm : X.mg x = some (.builtin id)) (hdb : (x == ("__debug__" : Str)) = false)
    (ha : PA X (e :: es) (tOs X.K g)) (hs : noStar (e :: es) = true) : PE X (.Call (.Name x p) (e :: es) [] pos) (tE X.K (fBi g h)) :=
  pe_imp (pe_callBfun hr hg hm ha hdb (star1 (noStar_head hs).1) (noStar_any (noStar_head hs).2)) fun _ _ _ w => read_bi hb w
/-! values in a row -/
theorem pv_nil : PA X [] (tV X.K fun ε => .ok [] ε) := pa_imp pa_nil fun σ H Q ⟨ε, F, ts, ε', s, e, k⟩ => by
  cases e; exact k [] H rfl s
theorem pushs_push (F : Fr) (q : V × T) (ps : VT) : ((F.push q).pushs ps).R = ps ++ (q :: F.R) := rfl
theorem SR.swapL {K : PySem.W.Frag} {σ : L2.St} {ε : Env} {F : Fr} {H : Hp} {q : V × T} {ps : VT} (s : SR K σ ε ((F.push q).pushs ps) H) : SR K σ ε (F.pushs (q :: ps)) H :=
  ⟨s.al, s.ch, s.sat.perm (by
    show ((ps ++ (q :: F.R)) ++ slots σ ε).Perm (((q :: ps) ++ F.R) ++ slots σ ε)
    exact List.perm_middle.append_right _)⟩
theorem pv_cons {gv : Env → R (List T)} (he : PE X e (tE X.K f)) (hr : PA X es (tV X.K gv)) (hs : isStar e = false) : PA X (e :: es) (tV X.K fun ε => bnd (f ε) fun x ε1 => bnd (gv ε1) fun xs ε2 => .ok (x :: xs) ε2) :=
  pa_imp (pa_cons he hr (star1 hs)) fun σ H Q ⟨ε, F, ts, ε', s, e, k⟩ => by
    obtain ⟨x, ε1, h1, e⟩ := bnd_inv e
    obtain ⟨xs, ε2, h2, e⟩ := bnd_inv e
    cases e
    refine ⟨ε, F, x, ε1, s, h1, fun v H1 s1 => ⟨ε1, F.push (v, x), xs, _, s1, h2, fun vs H2 hl s2 => k (v :: vs) H2 (by simp [hl]) ?_⟩⟩
    rw [List.zip_cons_cons]
    exact s2.swapL
theorem SR.flat {K : PySem.W.Frag} {σ : L2.St} {ε : Env} {F : Fr} {H : Hp} {ps : VT} (s : SR K σ ε (F.pushs ps) H) : Sat K H F.C F.P (ps ++ (F.R ++ slots σ ε)) := by
  have := s.sat; rw [← List.append_assoc]; exact this
theorem pe_tup' {n : Nat} {gv : Env → R (List T)} (h : PA X es (tV X.K gv)) (hz : ∀ ε ts ε', gv ε = .ok ts ε' → ts.length ≤ sizeLine) : PE X (.Tuple es n pos) (tE X.K fun ε => bnd (gv ε) fun ts ε1 => .ok (.tup ts) ε1) :=
  pe_imp (pe_tup h) fun σ H Q ⟨ε, F, t, ε', s, e, k⟩ => by
    obtain ⟨ts, ε1, h1, e⟩ := bnd_inv e
    cases e
    refine ⟨ε, F, ts, _, s, h1, fun vs H1 hl s1 => ⟨by rw [hl]; exact hz _ _ _ h1, fun p hp => k _ _ ?_⟩⟩
    have s2 := s1.flat.newTup hp
    rw [zip_fst hl, zip_snd hl] at s2
    exact ⟨s1.al, s1.ch.upd, s2⟩
theorem pe_lst' {gv : Env → R (List T)} (h : PA X es (tV X.K gv)) (hz : ∀ ε ts ε', gv ε = .ok ts ε' → ts.length ≤ sizeLine) : PE X (.List es pos) (tE X.K fun ε => bnd (gv ε) fun ts ε1 => .ok (.lst true ts) ε1) :=
  pe_imp (pe_lst h) fun σ H Q ⟨ε, F, t, ε', s, e, k⟩ => by
    obtain ⟨ts, ε1, h1, e⟩ := bnd_inv e
    cases e
    refine ⟨ε, F, ts, _, s, h1, fun vs H1 hl s1 => ⟨by rw [hl]; exact hz _ _ _ h1, fun p hp => k _ _ ?_⟩⟩
    have s2 := s1.flat.newLst s1.ch hp
    rw [zip_fst hl, zip_snd hl] at s2
    exact ⟨s1.al, s1.ch.upd, s2⟩
theorem pe_dic0 : PE X (.Dict [] [] pos) (tE X.K fun ε => .ok (.dic true []) ε) := pe_imp pe_dnewK fun σ H Q ⟨ε, F, t, ε', s, e, k⟩ => by
  cases e
  intro p hp
  exact k _ _ ⟨s.al, s.ch.upd, Sat.newDicK (L := F.R ++ slots σ ε) s.sat s.ch hp⟩

theorem Sat.openK {K : PySem.W.Frag} {H : Hp} {C : List Addr} {P : List Pin} {L : VT} {v : V} (s : Sat K H C P ((v, .dic true []) :: L)) : ∃ a, v = .ref a ∧ H a = some (.dK []) ∧ Sat K H (a :: C) P L ∧ (∀ p ∈ P, p.1 ≠ a) := by
  have z : ∀ (W : Addr → Prop) (A : List Addr), Rep K H W v (.dic true []) A → ∃ a, v = .ref a ∧ H a = some (.dK []) ∧ A = [a] := fun W A r => by
    generalize hg : T.dic true [] = tt at r
    cases r <;> try (cases hg; done)
    · rename_i kv ts A hh hn rr
      have hl := rr.length
      cases kv with
      | nil => cases rr; exact ⟨_, rfl, hh, rfl⟩
      | cons x y =>
        cases rr
        exact nomatch hg
    · rename_i kv ts A hh hn rr
      cases kv with
      | nil => exact absurd rfl hn.2
      | cons x y =>
        cases rr
        exact nomatch hg
  obtain ⟨A, W, r⟩ := s.look List.mem_cons_self
  obtain ⟨a, rfl, h1, _⟩ := z W A r
  have o := Sat.openO (L1 := []) s (a := a) fun W A r => by
    obtain ⟨b, e1, _, e2⟩ := z W A r
    cases e1
    exact ⟨[], e2, .nil⟩
  exact ⟨a, rfl, h1, o.1, o.2.1⟩
/-- {k: v} -/
theorem pe_dic1 (ha : PE X a (tE X.K f)) (hb : PE X b (tE X.K f')) : PE X (.Dict [some a] [b] pos) (tE X.K fun ε => bnd (f ε) fun t ε1 => bnd (f' ε1) fun u ε2 => if k1 t then .ok (.dic true [(t, u)]) ε2 else .no) :=
  pe_imp (pe_disp (pps_cons ha hb pps_nil) rfl rfl (by simp) (by simp)) fun σ H Q ⟨ε, F, t, ε', s, e, k⟩ => by
    obtain ⟨t1, ε1, h1, e⟩ := bnd_inv e
    obtain ⟨u1, ε2, h2, e⟩ := bnd_inv e
    by_cases hk : k1 t1 = true
    · rw [if_pos hk] at e
      cases e
      intro p hp
      have s0 : SR X.K σ ε (F.push (.ref p, .dic true [])) (upd H p (.dK [])) := ⟨s.al, s.ch.upd, Sat.newDicK (L := F.R ++ slots σ ε) s.sat s.ch hp⟩
      refine ⟨ε, _, t1, ε1, s0, h1, fun v H1 s1 => ⟨ε1, _, u1, _, s1, h2, fun w H2 s2 => ?_⟩⟩
      obtain ⟨kk, rfl⟩ := k1_key hk
      have hv : v = kV kk := by
        cases kk with
        | inl i => exact s2.sat.isInt (i := i) (List.mem_cons_of_mem _ List.mem_cons_self)
        | inr i => exact s2.sat.isStr (i := i) (List.mem_cons_of_mem _ List.mem_cons_self)
      subst hv
      have q : Sat X.K H2 F.C F.P ((w, u1) :: (kV kk, keyT kk) :: (.ref p, .dic true []) :: (F.R ++ slots σ ε')) := s2.sat
      have q2 : Sat X.K H2 F.C F.P ((.ref p, .dic true []) :: (w, u1) :: (F.R ++ slots σ ε')) := ((q.perm (.swap _ _ _)).drop).perm (.swap _ _ _)
      obtain ⟨a, e1, hH, q3, hP⟩ := q2.openK
      cases e1
      have q4 := q3.write (o := .dK [(kk, w)]) hH (fun _ z => nomatch z) hP
      have q5 := Sat.closeO (L1 := [(w, u1)]) (t := .dic true [(keyT kk, u1)]) q4 hP fun W A r => .ownK (kv := [(kk, w)]) (ts := [u1]) upd_same (by simp) r
      exact ⟨hH, [(kk, w)], rfl, by simp, k _ _ ⟨s2.al, CH.upd (s2.ch), q5⟩⟩
    · rw [if_neg hk] at e; cases e
end
end Tq
end

section
set_option Elab.async false
set_option maxRecDepth 100000
set_option maxHeartbeats 4000000
/-! TLs16: dict.get, isinstance, items of a slot's list. -/
namespace Tq
open PySem PySem.Spec PyProof.Rows L2

section
variable {X : Cx} {x : Str} {p pos apos cpos : Pos} {a b c e o : Expr} {es : List Expr} {i : Nat} {ir jr kr : E} {f f' f2 : Env → R T} {td ty tx : TE}
/-! dict.get -/
def tG1 (td ty : TE) : TE := fun σ H Q => td σ H fun x H1 => ∃ a, x = .ref a ∧ IsD H1 a ∧ ty σ H1 fun y H2 => ∃ o, Dg H2 a y o ∧ Q (o.getD .non) H2
def tG2 (td ty tx : TE) : TE := fun σ H Q => td σ H fun x H1 => ∃ a, x = .ref a ∧ IsD H1 a ∧ ty σ H1 fun y H2 => tx σ H2 fun z H3 => ∃ o, Dg H3 a y o ∧ Q (o.getD z) H3
theorem pe_g1 (hu : X.A.units + 1 < cLine) (ho : PE X o td) (he : PE X e ty) (m : M1 X o "get" apos e cpos) : PE X (.Call (.Attribute o "get" apos) [e] [] cpos) (tG1 td ty) := by
  refine ⟨fun pins s σ H Q I h => ?_⟩
  refine wpAny_Call_method m.base m.few m.line PySem.F.plainAttrs_dict PySem.F.slot_dict_get PySem.F.type_dict_get (thn (ho.run pins s σ H _ I h) fun u s1 ⟨x, H1, I1, rx, a, ex, d, q1⟩ => ?_)
  subst ex
  obtain rfl : u = Value.ref a := rx
  obtain ⟨t1, t2, _⟩ := isD_at I1 d
  refine ⟨t1, t2, ?_⟩
  rw [m.trees]
  refine Calls.callWith_builtin rfl (Calls.evalArgs_plain (Calls.spliced_cons (thn (he.run pins s1 σ H1 _ I1 q1) fun iv s2 ⟨y, H2, I2, ry, ov, g, q2⟩ => Calls.spliced_nil ?_)))
  exact g_get1 hu I2 g ry fun w' s3 I3 rw' => ⟨_, H2, I3, rw', q2⟩
theorem pe_g2 (hu : X.A.units + 1 < cLine) (ho : PE X o td) (he : PE X e ty) (hf : PE X b tx) (m : M2 X o "get" apos e b cpos) : PE X (.Call (.Attribute o "get" apos) [e, b] [] cpos) (tG2 td ty tx) := by
  refine ⟨fun pins s σ H Q I h => ?_⟩
  refine wpAny_Call_method m.base m.few m.line PySem.F.plainAttrs_dict PySem.F.slot_dict_get PySem.F.type_dict_get (thn (ho.run pins s σ H _ I h) fun u s1 ⟨x, H1, I1, rx, a, ex, d, q1⟩ => ?_)
  subst ex
  obtain rfl : u = Value.ref a := rx
  obtain ⟨t1, t2, _⟩ := isD_at I1 d
  refine ⟨t1, t2, ?_⟩
  rw [m.trees]
  refine Calls.callWith_builtin rfl (Calls.evalArgs_plain (Calls.spliced_cons (thn (he.run pins s1 σ H1 _ I1 q1) fun iv s2 ⟨y, H2, I2, ry, q2⟩ =>
    Calls.spliced_cons (thn (hf.run pins s2 σ H2 _ I2 q2) fun fv s3 ⟨z, H3, I3, rz, ov, g, q3⟩ => Calls.spliced_nil ?_))))
  exact g_get2 hu I3 g ry rz fun w' s4 I4 rw' => ⟨_, H3, I4, rw', q3⟩
theorem isDi_inv {o : Option T} {α : Type} {r : R α} {b : α} {ε' : Env} (e : (if (!isDi o) = true then R.no else r) = .ok b ε') : (∃ q kvs, o = some (.dic q kvs)) ∧ r = .ok b ε' := by
  split at e
  · cases e
  · rename_i h
    refine ⟨?_, e⟩
    cases o with
    | none => exact absurd rfl h
    | some u =>
      cases u with
      | dic q kvs => exact ⟨q, kvs, rfl⟩
      | _ => exact absurd rfl h
def fG1 (ir : E) (f f' : Env → R T) (ε : Env) : R T := bnd (asO ir f ε) fun x ε1 => if !isDi (pk ε1 x) then .no else bnd (f' ε1) fun u ε2 => match pk ε2 x with
    | some (.dic o kvs) => if kOk o kvs u then (match dget kvs u with | some r => if !r.sh then .no else .ok r ε2 | none => .ok .non ε2) else .no
    | _ => .no
def fG2 (ir : E) (f f' f2 : Env → R T) (ε : Env) : R T := bnd (asO ir f ε) fun x ε1 => if !isDi (pk ε1 x) then .no else bnd (f' ε1) fun u ε2 => bnd (f2 ε2) fun w ε3 => match pk ε3 x with
    | some (.dic o kvs) => if kOk o kvs u then (match dget kvs u with | some r => if !r.sh then .no else .ok r ε3 | none => .ok w ε3) else .no
    | _ => .no
theorem pe_get1' (hu : X.A.units + 1 < cLine) (ho : PE X o (tO X.K (asO ir f))) (he : PE X e (tE X.K f')) (m : M1 X o "get" apos e cpos) : PE X (.Call (.Attribute o "get" apos) [e] [] cpos) (tE X.K (fG1 ir f f')) :=
  pe_imp (pe_g1 hu ho he m) fun σ H Q ⟨ε, F, t, ε', s, e, k⟩ => by
    obtain ⟨x, ε1, h1, e⟩ := bnd_inv e
    obtain ⟨⟨q, kvs0, h2⟩, e⟩ := isDi_inv e
    obtain ⟨u, ε2, h3, e⟩ := bnd_inv e
    refine ⟨ε, F, x, ε1, s, h1, fun v H1 s1 ok1 => ?_⟩
    obtain ⟨a, rfl, ha⟩ := s1.sat.isD (s1.live h2 ok1 fun t' q => F.op_mem q)
    refine ⟨a, rfl, ha, ε1, F.op (.ref a) x, u, ε2, s1, h3, fun w H2 s2 => ?_⟩
    cases hx : pk ε2 x with
    | none => simp [hx] at e
    | some t0 =>
      cases t0 with
      | dic o kvs =>
        simp only [hx] at e
        by_cases hk : kOk o kvs u = true
        · rw [if_pos hk] at e
          obtain ⟨a', ea, _, hh⟩ := s2.sat.dget (s2.live (v := .ref a) (x := x) hx ok1 fun t' q => List.mem_cons_of_mem _ (F.op_mem q)) (w := w) (t := u) List.mem_cons_self hk
          cases ea
          have s3 : SR X.K σ ε2 ((F.op (.ref a) x)) H2 := s2.pop
          rcases hh with ⟨e1, e2⟩ | ⟨r', y, e1, e2, e3⟩
          · rw [e1] at e
            cases e
            exact ⟨none, e2, k _ _ s3.over.non⟩
          · rw [e1] at e
            by_cases hr : r'.sh = true
            · simp only [hr, Bool.not_true, Bool.false_eq_true, if_false] at e
              cases e
              refine ⟨some y, .inl e2, k _ _ ?_⟩
              have q' : SR X.K σ ε' (((F.op (.ref a) x).push (w, u)).push (y, t)) H2 := SR.make s2.al (e3 hr) s2.ch
              have q2 : SR X.K σ ε' ((F.op (.ref a) x).push (y, t)) H2 := ⟨q'.al, q'.ch, (q'.sat.perm (.swap _ _ _)).drop⟩
              exact q2.under
            · simp [hr] at e
        · rw [if_neg hk] at e; cases e
      | _ => simp [hx] at e
theorem pe_get2' (hu : X.A.units + 1 < cLine) (ho : PE X o (tO X.K (asO ir f))) (he : PE X e (tE X.K f')) (hf : PE X b (tE X.K f2)) (m : M2 X o "get" apos e b cpos) : PE X (.Call (.Attribute o "get" apos) [e, b] [] cpos) (tE X.K (fG2 ir f f' f2)) :=
  pe_imp (pe_g2 hu ho he hf m) fun σ H Q ⟨ε, F, t, ε', s, e, k⟩ => by
    obtain ⟨x, ε1, h1, e⟩ := bnd_inv e
    obtain ⟨⟨q, kvs0, h2⟩, e⟩ := isDi_inv e
    obtain ⟨u, ε2, h3, e⟩ := bnd_inv e
    obtain ⟨d, ε3, h4, e⟩ := bnd_inv e
    refine ⟨ε, F, x, ε1, s, h1, fun v H1 s1 ok1 => ?_⟩
    obtain ⟨a, rfl, ha⟩ := s1.sat.isD (s1.live h2 ok1 fun t' q => F.op_mem q)
    refine ⟨a, rfl, ha, ε1, F.op (.ref a) x, u, ε2, s1, h3, fun w H2 s2 => ⟨ε2, _, d, ε3, s2, h4, fun z H3 s3 => ?_⟩⟩
    cases hx : pk ε3 x with
    | none => simp [hx] at e
    | some t0 =>
      cases t0 with
      | dic o kvs =>
        simp only [hx] at e
        by_cases hk : kOk o kvs u = true
        · rw [if_pos hk] at e
          obtain ⟨a', ea, _, hh⟩ := s3.sat.dget (s3.live (v := .ref a) (x := x) hx ok1 fun t' q => List.mem_cons_of_mem _ (List.mem_cons_of_mem _ (F.op_mem q))) (w := w) (t := u) (List.mem_cons_of_mem _ List.mem_cons_self) hk
          cases ea
          have sd : SR X.K σ ε3 ((F.op (.ref a) x).push (z, d)) H3 := ⟨s3.al, s3.ch, ((show Sat X.K H3 _ _ ((z, d) :: (w, u) :: _) from s3.sat).perm (.swap _ _ _)).drop⟩
          rcases hh with ⟨e1, e2⟩ | ⟨r', y, e1, e2, e3⟩
          · rw [e1] at e
            cases e
            exact ⟨none, e2, k _ _ sd.under⟩
          · rw [e1] at e
            by_cases hr : r'.sh = true
            · simp only [hr, Bool.not_true, Bool.false_eq_true, if_false] at e
              cases e
              refine ⟨some y, .inl e2, k _ _ ?_⟩
              have q1 := ((e3 hr).perm (.swap _ _ _)).drop
              have q2 := (q1.perm (.swap _ _ _)).drop
              have q3 : SR X.K σ ε' ((F.op (.ref a) x).push (y, t)) H3 := ⟨s3.al, s3.ch, q2⟩
              exact q3.under
            · simp [hr] at e
        · rw [if_neg hk] at e; cases e
      | _ => simp [hx] at e
/-! isinstance -/
def tTys (ys : List Ty) : TA := fun _ H Q => Q (ys.map fun y => .ty (tyN y)) H
theorem boot_ty (y : Ty) : bootBuiltins (Str.ofString (tyN y)) = some (.type (tyN y)) := by cases y <;> decide +kernel
theorem pe_tyN {y : Ty} (hg : Gl X (Str.ofString (tyN y))) (hm : X.mg (Str.ofString (tyN y)) = none) : PE X (.Name (Str.ofString (tyN y)) p) (tC (.ty (tyN y))) :=
  pe_bltn hg hm (boot_ty y) rfl (by cases y <;> decide) (by cases y <;> decide)
theorem pa_tys0 : PA X [] (tTys []) := pa_imp pa_nil fun _ _ _ h => h
theorem pa_tysC {y : Ty} {ys : List Ty} (hg : Gl X (Str.ofString (tyN y))) (hm : X.mg (Str.ofString (tyN y)) = none) (h : PA X es (tTys ys)) : PA X (.Name (Str.ofString (tyN y)) p :: es) (tTys (y :: ys)) :=
  pa_imp (pa_cons (pe_tyN hg hm) h rfl) fun _ _ _ h => h
def gIsi (ys : List Ty) (t : T) : Option T := if isK t then some (.bl (ys.any (isTy t))) else none
theorem clsv_all : ∀ ys : List Ty, Paired ClsV (ys.map fun y => V.ty (tyN y)) (ys.map fun y => Value.type (tyN y))
  | [] => .nil
  | y :: ys => .cons (.ty _) (clsv_all ys)
theorem gIsi_inv {ys : List Ty} {t u : T} (h : gIsi ys t = some u) : isK t = true ∧ u = .bl (ys.any (isTy t)) := by
  unfold gIsi at h
  split at h
  · rename_i hh; cases h; exact ⟨hh, rfl⟩
  · cases h
theorem pe_isi1 {y : Ty} (hg : Gl X "isinstance") (hm : X.mg "isinstance" = none) (ha : PE X a (tO X.K (asO ir f))) (hs : isStar a = false) (hg2 : Gl X (Str.ofString (tyN y))) (hm2 : X.mg (Str.ofString (tyN y)) = none) :
    PE X (.Call (.Name "isinstance" p) [a, .Name (Str.ofString (tyN y)) apos] [] pos) (tE X.K (un ir f (gIsi [y]))) :=
  pe_imp (pe_callB call_isi hg hm (by decide +kernel) (pa_cons ha (pa_tysC hg2 hm2 pa_tys0) (star1 hs)) (by decide) (by decide) (star1 hs) rfl) fun σ H Q ⟨ε, F, t, ε', s, e, k⟩ => by
    obtain ⟨x, ε1, h1, e⟩ := bnd_inv e
    cases hx : pk ε1 x with
    | none => simp [hx] at e
    | some t0 =>
      simp only [hx] at e
      obtain ⟨e2, rfl⟩ := ofO_inv e
      obtain ⟨hk, rfl⟩ := gIsi_inv e2
      refine ⟨ε, F, x, _, s, h1, fun v H1 s1 ok1 => ?_⟩
      obtain ⟨A, W, r⟩ := s1.sat.look (s1.live hx ok1 fun t' q => F.op_mem q)
      refine ⟨v, .ty (tyN y), _, .type (tyN y), isTy t0 y, rfl, .ty _, r.ty hk, kit_ty (isTy_kit hk y), ?_⟩
      have q := k (.bl ([y].any (isTy t0))) H1 (s1.over.bl _)
      rw [show [y].any (isTy t0) = isTy t0 y by simp] at q
      exact q
theorem pe_isiN {ys : List Ty} {n : Nat} (hg : Gl X "isinstance") (hm : X.mg "isinstance" = none) (ha : PE X a (tO X.K (asO ir f))) (hs : isStar a = false) (ht : PA X es (tTys ys)) (hl : ys.length ≤ sizeLine) :
    PE X (.Call (.Name "isinstance" p) [a, .Tuple es n apos] [] pos) (tE X.K (un ir f (gIsi ys))) :=
  pe_imp (pe_callB call_isiT hg hm (by decide +kernel) (pa_cons ha (pa_cons (pe_tup ht) pa_nil rfl) (star1 hs)) (by decide) (by decide) (star1 hs) rfl) fun σ H Q ⟨ε, F, t, ε', s, e, k⟩ => by
    obtain ⟨x, ε1, h1, e⟩ := bnd_inv e
    cases hx : pk ε1 x with
    | none => simp [hx] at e
    | some t0 =>
      simp only [hx] at e
      obtain ⟨e2, rfl⟩ := ofO_inv e
      obtain ⟨hk, rfl⟩ := gIsi_inv e2
      refine ⟨ε, F, x, _, s, h1, fun v H1 s1 ok1 => ⟨by simpa using hl, fun p hp => ?_⟩⟩
      have s2 := s1.sat.grow (o := .tup (ys.map fun y => V.ty (tyN y))) hp
      obtain ⟨A, W, r⟩ := s2.look (s1.live hx ok1 fun t' q => F.op_mem q)
      refine ⟨v, p, _, _, _, _, rfl, upd_same, clsv_all ys, r.ty hk, kitAny_any hk ys, k _ _ ?_⟩
      have s3 : SR X.K σ ε' (F.op v x) (upd H1 p (.tup (ys.map fun y => V.ty (tyN y)))) := ⟨s1.al, s1.ch.upd, s2⟩
      exact s3.over.bl _
end
end Tq
end

section
set_option Elab.async false
set_option maxRecDepth 100000
set_option maxHeartbeats 4000000
/-! TLs17: items of a slot's list, chains. -/
namespace Tq
open PySem PySem.Spec PyProof.Rows L2

theorem itm_inv {o : Option T} {j : T} {xs : List T} {n : Nat} {u : T} (h : itm o j = some (xs, n, u)) : ∃ z, o = some (.lst true xs) ∧ j = .int z ∧ ixOf xs.length z = some n ∧ xs[n]? = some u := by
  unfold itm at h
  split at h
  · rename_i xs' z
    obtain ⟨m, h1, h2⟩ := Option.bind_eq_some_iff.mp h
    obtain ⟨w, h3, h4⟩ := Option.map_eq_some_iff.mp h2
    cases h4
    exact ⟨z, rfl, rfl, h1, h3⟩
  · cases h
section
variable {K : PySem.W.Frag} {σ : L2.St} {ε ε' : Env} {F : Fr} {H H' : Hp} {v w : V} {t u : T} {i : Nat}
/-- an owned list in a slot held open, its object pinned -/
theorem SR.openP {xs : List T} (s : SR K σ ε F H) (e : gt ε i = some (.lst true xs)) : ∃ (a : Addr) (L1 : VT), σ[i]? = some (some (.ref a)) ∧ L1.map (·.2) = xs ∧ H a = some (.lst (L1.map (·.1))) ∧ (∀ p ∈ F.P, p.1 ≠ a) ∧
    Sat K H (a :: F.C) (⟨a, .lst (L1.map (·.1)), rfl⟩ :: F.P) (L1 ++ (F.R ++ slots σ (st ε i none))) ∧ CH H (a :: F.C) := by
  obtain ⟨a, L1, h1, h2, h3, s1, hP⟩ := s.openS e
  refine ⟨a, L1, h1, h2, h3, hP, ?_, s1.ch⟩
  obtain ⟨A, r, nd, hq⟩ := s1.sat
  refine ⟨A, by rw [← List.append_assoc]; exact r, nd, fun q hq' => ?_⟩
  rcases List.mem_cons.mp hq' with rfl | hq'
  · exact ⟨h3, fun z => (List.nodup_cons.mp nd).1 (List.mem_append_right _ z)⟩
  · exact hq q hq'
/-- .. and closed again -/
theorem SR.closeP {a : Addr} {L1 : VT} {q : V × T} (al : Al σ ε) (e : gt ε i = some (.lst true (L1.map (·.2)))) (hi : σ[i]? = some (some (.ref a))) (hP : ∀ p ∈ F.P, p.1 ≠ a)
    (s : Sat K H (a :: F.C) (⟨a, .lst (L1.map (·.1)), rfl⟩ :: F.P) (q :: (L1 ++ (F.R ++ slots σ (st ε i none))))) (c : CH H (a :: F.C)) : SR K σ ε (F.push q) H := by
  have h3 : H a = some (.lst (L1.map (·.1))) := by
    obtain ⟨A, r, nd, hq⟩ := s.ex
    exact (hq _ List.mem_cons_self).1
  have s1 : Sat K H (a :: F.C) F.P (L1 ++ (q :: (F.R ++ slots σ (st ε i none)))) := by
    have := s.perm (List.perm_middle (a := q) (l₁ := L1) (l₂ := F.R ++ slots σ (st ε i none))).symm
    obtain ⟨A, r, nd, hq⟩ := this.ex
    exact ⟨A, r, nd, fun p hp => hq p (List.mem_cons_of_mem _ hp)⟩
  have s2 := s1.closeL h3 hP
  have s3 : SR K σ (st ε i none) ((F.push q).push (.ref a, .lst true (L1.map (·.2)))) H := ⟨al.none i, fun b hb => c b (List.mem_cons_of_mem _ hb), s2⟩
  have s4 := s3.fill hi
  rw [st_idem, ← e] at s4
  have e5 : st ε i (gt ε i) = ε := st_self (gt_lt e)
  rw [e5] at s4
  exact s4
end
section
variable {X : Cx} {x : Str} {p pos apos cpos : Pos} {a b c e o k : Expr} {es : List Expr} {i : Nat} {ir jr kr : E} {f f' f2 : Env → R T} {td ty tx : TE}
/-- an item of a slot's list, as an operand -/
def tI (K : PySem.W.Frag) (i : Nat) (f : Env → R T) : TE := fun σ H Q => ∃ ε F j ε1 xs n u, SR K σ ε F H ∧ isL (gt ε i) = true ∧ f ε = .ok j ε1 ∧ itm (gt ε1 i) j = some (xs, n, u) ∧
  ∀ v a vs H', SR K σ ε1 F H' → σ[i]? = some (some (.ref a)) → H' a = some (.lst vs) → vs[n]? = some v → Q v H'
theorem pe_item (h : PE X (.Name x p) (tVar i)) (hk : PE X k (tE X.K f)) (hs : PlainIx k) : PE X (.Subscript (.Name x p) k pos) (tI X.K i f) :=
  pe_imp (pe_ix ix_list h hk hs) fun σ H Q ⟨ε, F, j, ε1, xs, n, u, s, hl, h1, h2, q⟩ => by
    obtain ⟨z, g1, rfl, g2, g3⟩ := itm_inv h2
    have hl' : ∃ xs0, gt ε i = some (.lst true xs0) := by
      cases hg : gt ε i with
      | none => rw [hg] at hl; cases hl
      | some t0 =>
        rw [hg] at hl
        cases t0 with
        | lst o ys => cases o with
          | true => exact ⟨ys, rfl⟩
          | false => cases hl
        | _ => cases hl
    obtain ⟨xs0, hg⟩ := hl'
    obtain ⟨v0, e0, _⟩ := s.mem hg
    refine ⟨v0, e0, ε, F, .int z, ε1, s, h1, fun w H1 s1 => ?_⟩
    obtain rfl := s1.sat.isInt List.mem_cons_self
    obtain ⟨a, L1, e1, e2, e3, _⟩ := s1.pop.openS g1
    rw [e1] at e0; cases e0
    have hn : ∃ q, L1[n]? = some q ∧ q.2 = u := by
      rw [← e2, List.getElem?_map] at g3
      exact Option.map_eq_some_iff.mp g3
    obtain ⟨q0, e4, _⟩ := hn
    refine ⟨a, _, z, q0.1, rfl, rfl, SqL.of e3, ?_, q q0.1 a _ H1 s1.pop e1 e3 (by rw [List.getElem?_map, e4]; rfl)⟩
    unfold atI
    rw [← ixOf_ixN]
    have : ixOf (L1.map (·.1)).length z = some n := by rw [List.length_map, ← List.length_map (f := (·.2)), e2]; exact g2
    rw [this]
    show (L1.map (·.1))[n]? = some q0.1
    rw [List.getElem?_map, e4]; rfl
theorem isL_ok {o : Option T} {α : Type} {r : R α} {b : α} {ε' : Env} (e : (if (!isL o) = true then R.no else r) = .ok b ε') : isL o = true ∧ r = .ok b ε' := by
  split at e
  · cases e
  · rename_i h; exact ⟨by simpa using h, e⟩
/-- a rule by values on such an item -/
theorem read_item {r : V → Hp → VK → Prop} {g : T → Option T} (hb : RU X.K g r) {σ : L2.St} {H : Hp} {Q : VK} (w : tE X.K (fItm i f g) σ H Q) : tI X.K i f σ H fun v H1 => r v H1 Q := by
  obtain ⟨ε, F, t, ε', s, e, k⟩ := w
  obtain ⟨hl, e⟩ := isL_ok e
  obtain ⟨j, ε1, h1, e⟩ := bnd_inv e
  cases hi : itm (gt ε1 i) j with
  | none => simp [hi] at e
  | some q =>
    obtain ⟨xs, n, u⟩ := q
    simp only [hi] at e
    obtain ⟨e2, rfl⟩ := ofO_inv e
    refine ⟨ε, F, j, _, xs, n, u, s, hl, h1, hi, fun v a vs H1 s1 e1 e3 e4 => ?_⟩
    obtain ⟨z, g1, rfl, g2, g3⟩ := itm_inv hi
    obtain ⟨a', L1, h1', h2', h3', hP, sp, c⟩ := s1.openP g1
    rw [e1] at h1'; cases h1'
    rw [e3] at h3'; cases h3'
    subst h2'
    rw [List.getElem?_map] at e4 g3
    obtain ⟨q0, q1, q2⟩ := Option.map_eq_some_iff.mp e4
    rw [q1] at g3
    cases g3
    subst q2
    exact hb.run sp c (List.mem_append_left _ (List.mem_of_getElem? q1)) e2 fun y H2 s2 c2 => k y H2 (SR.closeP s1.al g1 e1 hP s2 c2)
theorem pe_bi1 {id : String} {r : V → Hp → VK → Prop} {g : T → Option T} {fx : Str} {fp : Pos} (hr : CallR X (.builtin id) (r1 r)) (hb : RU X.K g r) (hg : Gl X fx) (hm : X.mg fx = none) (hv : bootBuiltins fx = some (.builtin id)) (hn : fx ≠ "__name__") (hdb : (fx == ("__debug__" : Str)) = false)
    (h : PE X (.Name x p) (tVar i)) (hk : PE X k (tE X.K f)) (hs : PlainIx k) : PE X (.Call (.Name fx fp) [.Subscript (.Name x p) k apos] [] pos) (tE X.K (fItm i f g)) :=
  pe_imp (pe_callB hr hg hm hv (pa_cons (pe_item (pos := apos) h hk hs) pa_nil rfl) hn hdb rfl rfl) fun σ H Q w => by
    obtain ⟨ε, F, j, ε1, xs, n, u, a1, a2, a3, a4, a5⟩ := read_item hb w
    exact ⟨ε, F, j, ε1, xs, n, u, a1, a2, a3, a4, fun v a vs H' b1 b2 b3 b4 => ⟨v, rfl, a5 v a vs H' b1 b2 b3 b4⟩⟩
/-! x[k] == [] -/
def rNilL (K : PySem.W.Frag) (ne : Bool) : V → Hp → VK → Prop := fun x H Q => ∃ ds, Dp K H x (.list ds) ∧ SeqAt.shaped (.list ds) = true ∧ Q (.bl (ds.isEmpty != ne)) H
end
end Tq
end

section
set_option Elab.async false
set_option maxRecDepth 100000
set_option maxHeartbeats 4000000
/-! TLs18: items of a slot's list, more; chains. -/
namespace Tq
open PySem PySem.Spec PyProof.Rows L2

theorem set_perm {α : Type} : ∀ {l : List α} {n : Nat} {x : α} (y : α), l[n]? = some x → (y :: l.eraseIdx n).Perm (l.set n y)
  | [], n, x, y, h => by simp at h
  | z :: l, 0, x, y, h => .refl _
  | z :: l, n + 1, x, y, h => by
    have := set_perm (l := l) (n := n) y (by simpa using h)
    exact (List.Perm.swap _ _ _).trans (this.cons z)
section
variable {K : PySem.W.Frag} {σ : L2.St} {ε ε' : Env} {F : Fr} {H H' : Hp} {v w : V} {t u : T} {i : Nat} {C : List Addr} {P : List Pin} {L : VT}
theorem ru_nil (ne : Bool) : RU K (gNil ne) (fun x H Q => tLst tNil [] H fun y H2 => if ne then rNeD K x y H2 Q else rEqD K x y H2 Q) := ⟨fun {H C P L v t u Q} s c h e k => by
  cases t <;> try (cases e; done)
  rename_i o xs
  have e' : (if dpL 7 xs = true then some (T.bl (xs.isEmpty != ne)) else none) = some u := e
  split at e'
  · rename_i hd
    cases e'
    refine ⟨Nat.zero_le _, fun p hp => ?_⟩
    have s1 := Sat.newLst (L1 := []) (L := L) s c hp
    have eq : T.eq (.lst o xs) (.lst true []) = xs.isEmpty := by cases xs <;> rfl
    have hd1 : T.dp 8 (.lst o xs) = true := hd
    have hd2 : T.dp 8 (.lst true []) = true := rfl
    have fin : ∀ z H', Sat K H' C P ((z, T.bl (xs.isEmpty != ne)) :: (.ref p, .lst true []) :: L) → CH H' C → Q z H' := fun z H' s' c' => k z H' ((s'.perm (.swap _ _ _)).drop) c'
    cases ne with
    | false =>
      have hg : gEqD false (.lst o xs) (.lst true []) = some (.bl (xs.isEmpty != false)) := by
        unfold gEqD; rw [hd1, hd2, eq]; simp
      exact ro_eqD.run s1 c.upd (List.mem_cons_of_mem _ h) List.mem_cons_self hg fin
    | true =>
      have hg : gEqD true (.lst o xs) (.lst true []) = some (.bl (xs.isEmpty != true)) := by
        unfold gEqD; rw [hd1, hd2, eq]; simp
      exact ro_neD.run s1 c.upd (List.mem_cons_of_mem _ h) List.mem_cons_self hg fin
  · cases e'⟩
/-- the opened list's n-th item aside -/
theorem Sat.aside {L1 : VT} {n : Nat} {q : V × T} (s : Sat K H C P (L1 ++ L)) (e : L1[n]? = some q) : Sat K H C P (q :: (L1.eraseIdx n ++ L)) := s.perm ((erase_perm e).append_right L)
theorem Sat.backIn {L1 : VT} {n : Nat} {q q' : V × T} (s : Sat K H C P (q' :: (L1.eraseIdx n ++ L))) (e : L1[n]? = some q) : Sat K H C P (L1.set n q' ++ L) := s.perm ((set_perm q' e).append_right L)
theorem map_set {α β : Type} (f : α → β) : ∀ (l : List α) (n : Nat) (x : α), (l.set n x).map f = (l.map f).set n (f x)
  | [], _, _ => rfl
  | _ :: _, 0, _ => rfl
  | y :: l, n + 1, x => by simp [map_set f l n x]
theorem set_same {α : Type} : ∀ {l : List α} {n : Nat} {x : α}, l[n]? = some x → l.set n x = l
  | [], _, _, _ => rfl
  | _ :: _, 0, _, h => by simp at h; subst h; rfl
  | y :: l, n + 1, x, h => by simp [set_same (l := l) (n := n) (x := x) (by simpa using h)]
/-- an open list is closed, the slot filled -/
theorem SR.shut {a : Addr} {L2 : VT} (al : Al σ ε) (hi : σ[i]? = some (some (.ref a))) (s : Sat K H (a :: F.C) F.P (L2 ++ (F.R ++ slots σ (st ε i none)))) (e : H a = some (.lst (L2.map (·.1)))) (hP : ∀ p ∈ F.P, p.1 ≠ a) (c : CH H F.C) :
    SR K σ (st ε i (some (.lst true (L2.map (·.2))))) F H := by
  have q := s.closeL e hP
  have s3 : SR K σ (st ε i none) (F.push (.ref a, .lst true (L2.map (·.2)))) H := ⟨al.none i, c, q⟩
  have s4 := s3.fill hi
  rw [st_idem] at s4
  exact s4
end
section
variable {X : Cx} {x : Str} {p pos apos cpos : Pos} {a b c e o k : Expr} {es : List Expr} {i : Nat} {ir jr kr : E} {f f' f2 : Env → R T} {td ty tx : TE}
theorem pe_nil' (hu : X.A.units + 65 < cLine) (ne : Bool) {lp : Pos} (h : PE X (.Name x p) (tVar i)) (hk : PE X k (tE X.K f)) (hs : PlainIx k) : PE X (.Compare (.Subscript (.Name x p) k apos) [if ne then .NotEq else .Eq] [.List [] lp] pos) (tE X.K (fItm i f (gNil ne))) := by
  cases ne with
  | false => exact pe_imp (pe_cmpR (op_eqD (by omega)) (pe_item (pos := apos) h hk hs) (pe_lst pa_nil) (nomark _)) fun σ H Q w => read_item (ru_nil false) w
  | true => exact pe_imp (pe_cmpR (op_neD (by omega)) (pe_item (pos := apos) h hk hs) (pe_lst pa_nil) (nomark _)) fun σ H Q w => read_item (ru_nil true) w
theorem isL_of {o : Option T} {xs : List T} (h : o = some (.lst true xs)) : isL o = true := by subst h; rfl
/-- x[k], shared from here on -/
theorem pe_frz1' (h : PE X (.Name x p) (tVar i)) (hk : PE X k (tE X.K f)) (hs : PlainIx k) : PE X (.Subscript (.Name x p) k pos) (tE X.K (fFrz1 i f)) :=
  pe_imp (pe_item h hk hs) fun σ H Q ⟨ε, F, t, ε', s, e, kk⟩ => by
    obtain ⟨hl, e⟩ := isL_ok e
    obtain ⟨j, ε1, h1, e⟩ := bnd_inv e
    cases hi : itm (gt ε1 i) j with
    | none => simp [hi] at e
    | some q =>
      obtain ⟨xs, n, u⟩ := q
      simp only [hi] at e
      cases e
      refine ⟨ε, F, j, ε1, xs, n, u, s, hl, h1, hi, fun v a vs H1 s1 e1 e3 e4 => kk _ _ ?_⟩
      obtain ⟨z, g1, rfl, g2, g3⟩ := itm_inv hi
      obtain ⟨a', L1, h1', rfl, h3', sp, hP⟩ := s1.openS g1
      rw [e1] at h1'; cases h1'
      rw [e3] at h3'; cases h3'
      rw [List.getElem?_map] at e4 g3
      obtain ⟨q0, q1, rfl⟩ := Option.map_eq_some_iff.mp e4
      rw [q1] at g3
      cases g3
      have z0 : Sat X.K H1 (a :: F.C) F.P (L1 ++ (F.R ++ slots σ (st ε1 i none))) := by have := sp.sat; rw [← List.append_assoc]; exact this
      have z1 := (z0.aside q1).frz
      have z2 := z1.copy (v := q0.1) (t := q0.2.frz) List.mem_cons_self (sh_frz _)
      have z3 : Sat X.K H1 (a :: F.C) F.P ((q0.1, q0.2.frz) :: (L1.eraseIdx n ++ ((q0.1, q0.2.frz) :: (F.R ++ slots σ (st ε1 i none))))) := z2.perm (List.Perm.cons _ List.perm_middle.symm)
      have z4 := z3.backIn q1
      have e5 : (L1.set n (q0.1, q0.2.frz)).map (·.1) = L1.map (·.1) := by
        rw [map_set]
        exact set_same (by rw [List.getElem?_map, q1]; rfl)
      have z5 := SR.shut (F := F.push (q0.1, q0.2.frz)) (L2 := L1.set n (q0.1, q0.2.frz)) s1.al e1 z4 (by rw [e5]; exact e3) hP (fun b hb => sp.ch b (List.mem_cons_of_mem _ hb))
      rw [map_set] at z5
      exact z5
/-- x[k].pop() -/
theorem pe_pop1' (h : PE X (.Name x p) (tVar i)) (hk : PE X k (tE X.K f)) (hs : PlainIx k) (hl : (apos.endLine == cpos.line) = true) : PE X (.Call (.Attribute (.Subscript (.Name x p) k pos) "pop" apos) [] [] cpos) (tE X.K (fPop1 i f)) :=
  pe_imp (pe_bm0 PySem.F.plainAttrs_list PySem.F.slot_list_pop PySem.F.type_list_pop mt_pop (pe_item (pos := pos) h hk hs) rfl hl) fun σ H Q ⟨ε, F, t, ε', s, e, kk⟩ => by
    obtain ⟨hl, e⟩ := isL_ok e
    obtain ⟨j, ε1, h1, e⟩ := bnd_inv e
    cases hi : itm (gt ε1 i) j with
    | none => simp [hi] at e
    | some q =>
      obtain ⟨xs, n, u⟩ := q
      cases u with
      | lst oo ys =>
        cases oo with
        | false => simp [hi] at e
        | true =>
          simp only [hi] at e
          cases gl : ys.getLast? with
          | none => simp [gl] at e
          | some y =>
            simp only [gl] at e
            cases e
            refine ⟨ε, F, j, ε1, xs, n, _, s, hl, h1, hi, fun v a vs H1 s1 e1 e3 e4 => ?_⟩
            obtain ⟨z, g1, rfl, g2, g3⟩ := itm_inv hi
            obtain ⟨a', L1, h1', rfl, h3', sp, hP⟩ := s1.openS g1
            rw [e1] at h1'; cases h1'
            rw [e3] at h3'; cases h3'
            rw [List.getElem?_map] at e4 g3
            obtain ⟨q0, q1, rfl⟩ := Option.map_eq_some_iff.mp e4
            rw [q1] at g3
            have g4 : q0.2 = .lst true ys := Option.some.inj g3
            have z0 : Sat X.K H1 (a :: F.C) F.P (L1 ++ (F.R ++ slots σ (st ε1 i none))) := by have := sp.sat; rw [← List.append_assoc]; exact this
            have z1 : Sat X.K H1 (a :: F.C) F.P ((q0.1, .lst true ys) :: (L1.eraseIdx n ++ (F.R ++ slots σ (st ε1 i none)))) := by have := z0.aside q1; rw [← g4]; exact this
            obtain ⟨b, L2, eb, rfl, hb, z2, hP2, hbC⟩ := z1.openL
            rw [List.getLast?_map] at gl
            obtain ⟨ql, hql, rfl⟩ := Option.map_eq_some_iff.mp gl
            obtain ⟨L3, rfl⟩ := List.getLast?_eq_some_iff.mp hql
            have hba : b ≠ a := fun e => hbC (e ▸ List.mem_cons_self)
            rw [eb]
            refine ⟨.inl ⟨rfl, _, SqL.of hb⟩, b, _, ql.1, rfl, rfl, hb, ?_, kk _ _ ?_⟩
            · rw [List.length_map, List.getElem?_map]; simp
            · have z3 := z2.write (o := .lst (L3.map (·.1))) hb (fun _ z => nomatch z) hP2
              have z4 : Sat X.K (upd H1 b (.lst (L3.map (·.1)))) (b :: a :: F.C) F.P (L3 ++ (ql :: (L1.eraseIdx n ++ (F.R ++ slots σ (st ε1 i none))))) := by
                rw [List.append_assoc] at z3; exact z3
              have z5 := z4.closeL upd_same hP2
              have z6 : Sat X.K (upd H1 b (.lst (L3.map (·.1)))) (a :: F.C) F.P ((.ref b, .lst true (L3.map (·.2))) :: (L1.eraseIdx n ++ (ql :: (F.R ++ slots σ (st ε1 i none))))) := z5.perm (List.Perm.cons _ List.perm_middle.symm)
              have z7 := z6.backIn q1
              have e5 : (L1.set n (V.ref b, T.lst true (L3.map (·.2)))).map (·.1) = L1.map (·.1) := by
                rw [map_set]
                exact set_same (by rw [List.getElem?_map, q1, ← eb]; rfl)
              have z8 := SR.shut (F := F.push ql) (L2 := L1.set n (V.ref b, T.lst true (L3.map (·.2)))) s1.al e1 z7 (by rw [e5, upd_ne (Ne.symm hba)]; exact e3) hP (CH.upd fun b hb => sp.ch b (List.mem_cons_of_mem _ hb))
              rw [map_set] at z8
              have e6 : ((L3 ++ [ql]).map (·.1)).dropLast = L3.map (·.1) := by simp
              have e7 : ((L3 ++ [ql]).map (·.2)).dropLast = L3.map (·.2) := by simp
              rw [e6, e7]
              exact z8
      | _ => simp [hi] at e
end
end Tq
end

section
set_option Elab.async false
set_option maxRecDepth 100000
set_option maxHeartbeats 4000000
/-! TLs19: chains; stores; simple statements. -/
namespace Tq
open PySem PySem.Spec PyProof.Rows L2

section
variable {X : Cx} {x : Str} {p pos apos cpos : Pos} {a b c e o k : Expr} {es : List Expr} {i : Nat} {ir jr kr : E} {f f' f2 : Env → R T} {td ty tx : TE}
/-- a o1 b o2 c, the three as values -/
def fChain (o1 o2 : Cm) (f f' f2 : Env → R T) (ε : Env) : R T := bnd (f ε) fun t ε1 => bnd (f' ε1) fun u ε2 => match cm o1 t u with
    | some true => bnd (f2 ε2) fun v ε3 => ofO ((cm o2 u v).map .bl) ε3
    | some false => .ok (.bl false) ε2
    | none => .no
theorem pe_chain' (hu : X.A.units + 65 < cLine) (o1 o2 : Cm) (ha : PE X a (tE X.K f)) (hb : PE X b (tE X.K f')) (hc : PE X c (tE X.K f2)) (hm : lastMarks [cmOf o1, cmOf o2] [b, c] = false) :
    PE X (.Compare a [cmOf o1, cmOf o2] [b, c] pos) (tE X.K (fChain o1 o2 f f' f2)) := by
  obtain ⟨r1, h1, g1⟩ := opc X hu o1
  obtain ⟨r2, h2, g2⟩ := opc X hu o2
  refine pe_imp (pe_chain h1 h2 ha hb hc hm) fun σ H Q ⟨ε, F, t, ε', s, e, kk⟩ => ?_
  obtain ⟨t1, ε1, e1, e⟩ := bnd_inv e
  obtain ⟨t2, ε2, e2, e⟩ := bnd_inv e
  refine ⟨ε, F, t1, ε1, s, e1, fun v H1 s1 => ⟨ε1, _, t2, ε2, s1, e2, fun w H2 s2 => ?_⟩⟩
  cases hcm : cm o1 t1 t2 with
  | none => simp [hcm] at e
  | some d =>
    refine g1.run (t := t1) (u := t2) (z := .bl d) s2.sat s2.ch (List.mem_cons_of_mem _ List.mem_cons_self) List.mem_cons_self (by rw [hcm]; rfl) fun z H3 s3 c3 => ?_
    have ez : z = .bl d := s3.isBl List.mem_cons_self
    subst ez
    have s4 : SR X.K σ ε2 ((F.push (v, t1)).push (w, t2)) H3 := ⟨s2.al, c3, s3.drop⟩
    refine ⟨d, rfl, ?_⟩
    cases d with
    | false =>
      simp only [hcm] at e
      cases e
      exact kk _ _ (s4.pop.pop.bl _)
    | true =>
      simp only [hcm] at e
      obtain ⟨t3, ε3, e3, e⟩ := bnd_inv e
      obtain ⟨e4, rfl⟩ := ofO_inv e
      refine ⟨ε2, _, t3, _, s4, e3, fun y H4 s5 => ?_⟩
      refine g2.run (t := t2) (u := t3) (z := t) s5.sat s5.ch (List.mem_cons_of_mem _ List.mem_cons_self) List.mem_cons_self e4 fun z H5 s6 c6 => kk z H5 ?_
      have q : Sat X.K H5 F.C F.P ((z, t) :: (y, t3) :: (w, t2) :: (v, t1) :: (F.R ++ slots σ ε')) := s6
      have q1 := (q.perm (.swap _ _ _)).drop
      have q2 := (q1.perm (.swap _ _ _)).drop
      exact ⟨s5.al, c6, (q2.perm (.swap _ _ _)).drop⟩
end

/-! ### targets -/
def tG (K : PySem.W.Frag) (S : Nat → Prop) (tg : Tg) : TG := fun v σ H Q => ∃ ε F t ε', SR K σ ε (F.push (v, t)) H ∧ asg tg t ε = some ε' ∧ ∀ σ', SR K σ' ε' F H → SI S σ σ' → Q σ' H
def tGs (K : PySem.W.Frag) (S : Nat → Prop) (ts : List Tg) : TGs := fun vs σ H Q => ∃ ε F us ε', vs.length = us.length ∧ SR K σ ε (F.pushs (vs.zip us)) H ∧ asgs ts us ε = some ε' ∧ ∀ σ', SR K σ' ε' F H → SI S σ σ' → Q σ' H
section
variable {X : Cx} {x : Str} {p pos apos cpos : Pos} {a b c e o k : Expr} {es : List Expr} {i : Nat} {S : Nat → Prop}
theorem pg_name' (hN : X.N.Nodup) (hi : X.N[i]? = some x) (hx : Loc X.env.scope x) (hf : X.fn x = true ∨ X.env.scope.names.lookup x = some .local) (hS : S i) : PG X (.Name x pos) (tG X.K S (.s i)) :=
  pg_imp (pg_name hN hi hx hf) fun v σ H Q ⟨ε, F, t, ε', s, e, k⟩ => by
    have e' : (if i < ε.length then some (st ε i (some t)) else none) = some ε' := e
    split at e'
    · rename_i hlt
      cases e'
      exact k _ (s.put hlt) (SI.set hS)
    · cases e'
theorem pgs_nil' : PGs X [] (tGs X.K S []) := ⟨fun pins s σ H vs us Q I r ⟨ε, F, ws, ε', hl, sr, e, k⟩ => pgs_nil.run pins s σ H vs us Q I r (by
  cases ws with
  | nil =>
    cases e
    cases vs with
    | nil => exact ⟨rfl, k σ sr .rfl⟩
    | cons v vs => simp at hl
  | cons w ws => cases e)⟩
theorem assign1 {e : Expr} {es : List Expr} {env : PySem.Env} (h : isStar e = false) : assignEach (e :: es) env = (false, assign e env) :: assignEach es env := by
  cases e <;> first | rfl | cases h
theorem SR.swapR {K : PySem.W.Frag} {σ : L2.St} {ε : Env} {F : Fr} {H : Hp} {q : V × T} {ps : VT} (s : SR K σ ε (F.pushs (q :: ps)) H) : SR K σ ε ((F.pushs ps).push q) H := s
theorem pgs_cons' {g : Tg} {gs : List Tg} (h1 : PG X e (tG X.K S g)) (h2 : PGs X es (tGs X.K S gs)) (hs : isStar e = false) : PGs X (e :: es) (tGs X.K S (g :: gs)) :=
  ⟨fun pins s σ H vs us Q I r ⟨ε, F, ws, ε', hl, sr, e, k⟩ => (pgs_cons h1 h2 (by rw [assign1 hs]; rfl)).run pins s σ H vs us Q I r (by
    cases ws with
    | nil => cases e
    | cons w ws =>
      cases vs with
      | nil => simp at hl
      | cons v vs =>
        have e' : (match asg g w ε with | some ε' => asgs gs ws ε' | none => none) = some ε' := e
        cases h : asg g w ε with
        | none => rw [h] at e'; cases e'
        | some ε1 =>
          rw [h] at e'
          exact ⟨v, vs, rfl, ε, F.pushs (vs.zip ws), w, ε1, sr, h, fun σ' s' i' => ⟨ε1, F, ws, ε', by simpa using hl, s', e', fun σ2 s2 i2 => k σ2 s2 (i'.trans i2)⟩⟩)⟩
theorem noStar_assign : ∀ {es : List Expr} {env : PySem.Env}, noStar es = true → (assignEach es env).length = es.length ∧ (assignEach es env).findIdx? (·.1) = none
  | [], _, _ => ⟨rfl, rfl⟩
  | e :: es, env, h => by
    obtain ⟨h1, h2⟩ := noStar_head h
    obtain ⟨g1, g2⟩ := noStar_assign (env := env) h2
    rw [assign1 h1]
    refine ⟨by simp [g1], ?_⟩
    rw [List.findIdx?_cons, g2]; rfl
theorem asgs_len : ∀ {gs : List Tg} {us : List T} {ε ε' : Env}, asgs gs us ε = some ε' → us.length = gs.length
  | [], [], _, _, _ => rfl
  | [], _ :: _, _, _, e => by simp [asgs] at e
  | _ :: _, [], _, _, e => by simp [asgs] at e
  | g :: gs, u :: us, ε, ε', e => by
    simp only [asgs] at e
    cases h : asg g u ε with
    | none => simp [h] at e
    | some ε1 =>
      simp only [h] at e
      simp [asgs_len e]
theorem pg_tup' {gs : List Tg} {n : Nat} (hc : X.calm = true) (h : PGs X es (tGs X.K S gs)) (hs : noStar es = true) (hn : es.length = gs.length) : PG X (.Tuple es n pos) (tG X.K S (.t gs)) :=
  pg_imp (pg_tup (n := gs.length) hc h (by rw [(noStar_assign hs).1, hn]) (noStar_assign hs).2) fun v σ H Q ⟨ε, F, t, ε', s, e, k⟩ => by
    cases t with
    | tup us =>
      have e' : asgs gs us ε = some ε' := by simpa only [asg] using e
      obtain ⟨a, L1, rfl, rfl, h1, s1⟩ := Sat.unTup (L := F.R ++ slots σ ε) s.sat
      refine ⟨a, L1.map (·.1), rfl, SqT.of h1, ?_, ε, F, L1.map (·.2), ε', by simp, ⟨s.al, s.ch, ?_⟩, e', k⟩
      · have := asgs_len e'
        rw [List.length_map] at this ⊢
        exact this
      · have ez : (L1.map (·.1)).zip (L1.map (·.2)) = L1 := by
          clear e' h1 s1 s e
          induction L1 with
          | nil => rfl
          | cons q L ih => simp [ih]
        rw [ez]
        show Sat X.K H F.C F.P ((L1 ++ F.R) ++ slots σ ε)
        rw [List.append_assoc]
        exact s1
    | _ => simp [asg] at e
/-! ### statements -/
variable {f f' : Env → R T} {gs : Env → O}
def isComp : Expr → Bool
  | .ListComp _ _ _ _ => true
  | .SetComp _ _ _ _ => true
  | .DictComp _ _ _ _ _ => true
  | _ => false
theorem swaps_no {e : Expr} {t : Option Expr} {l : Nat} {env : PySem.Env} (h : isComp e = false) : swapsWith e t l env = pure false := by
  cases e <;> first | rfl | cases h
theorem ps_pass' : PS X (.Pass pos) (tS X.K S fun ε => .nx ε) := ps_imp ps_pass fun D σ H ⟨ε, F, s, q⟩ => q σ H .rfl s
theorem ps_brk' : PS X (.Break pos) (tS X.K S fun ε => .brk ε) := ps_imp ps_break fun D σ H ⟨ε, F, s, q⟩ => q σ H .rfl s
theorem ps_ct' : PS X (.Continue pos) (tS X.K S fun ε => .ct ε) := ps_imp ps_continue fun D σ H ⟨ε, F, s, q⟩ => q σ H .rfl s
theorem ps_retN' : PS X (.Return none pos) (tS X.K S fun ε => .ret .non ε) := ps_imp ps_retN fun D σ H ⟨ε, F, s, q⟩ => q .non σ H .rfl s.non
theorem obnd_inv {α : Type} {K : PySem.W.Frag} {σ : L2.St} {F : Fr} {D : Ends} {r : R α} {g : α → Env → O} (h : SO K S σ F D (obnd r g)) : ∃ a ε1, r = .ok a ε1 ∧ SO K S σ F D (g a ε1) := by
  cases r with
  | ok a ε1 => exact ⟨a, ε1, rfl, h⟩
  | ex x ε1 => exact h.elim
  | no => exact h.elim
theorem ps_ret' (he : PE X e (tE X.K f)) : PS X (.Return (some e) pos) (tS X.K S fun ε => obnd (f ε) fun t ε1 => .ret t ε1) := ps_imp (ps_ret he) fun D σ H ⟨ε, F, s, q⟩ => by
  obtain ⟨t, ε1, h1, h2⟩ := obnd_inv q
  exact ⟨ε, F, t, ε1, s, h1, fun v H' s' => h2 v σ H' .rfl s'⟩
theorem ps_drop' (he : PE X e (tE X.K f)) (hs : isComp e = false) : PS X (.Expr e pos) (tS X.K S fun ε => obnd (f ε) fun _ ε1 => .nx ε1) := ps_imp (ps_expr he (swaps_no hs)) fun D σ H ⟨ε, F, s, q⟩ => by
  obtain ⟨t, ε1, h1, h2⟩ := obnd_inv q
  exact ⟨ε, F, t, ε1, s, h1, fun v H' s' => h2 σ H' .rfl s'.pop⟩
theorem ps_doc' {z : Str} {j} : PS X (.Expr (.Constant (.str z) j pos) p) (tS X.K S fun ε => .nx ε) := ps_imp ps_doc fun D σ H ⟨ε, F, s, q⟩ => q σ H .rfl s
theorem ps_if' {h : Env → R Bool} {g1 g2 : Env → O} {sa sb : List Stmt} (hc : PT X c (tT X.K h)) (ha : PSs X sa (tS X.K S g1)) (hb : PSs X sb (tS X.K S g2)) : PS X (.If c sa sb pos) (tS X.K S fun ε => obnd (h ε) fun d ε1 => if d then g1 ε1 else g2 ε1) :=
  ps_imp (ps_if hc ha hb) fun D σ H ⟨ε, F, s, q⟩ => by
    obtain ⟨d, ε1, h1, h2⟩ := obnd_inv q
    refine ⟨ε, F, d, ε1, s, h1, fun H' s' => ?_⟩
    cases d with
    | true => exact ⟨ε1, F, s', h2⟩
    | false => exact ⟨ε1, F, s', h2⟩
theorem pss_nil' : PSs X [] (tS X.K S fun ε => .nx ε) := pss_imp pss_nil fun D σ H ⟨ε, F, s, q⟩ => q σ H .rfl s
theorem SO_seq {K : PySem.W.Frag} {σ : L2.St} {F : Fr} {D : Ends} {o : O} {g : Env → O} (h : SO K S σ F D (osq o g)) : SO K S σ F { D with nx := fun σ' H' => ∃ ε', SR K σ' ε' F H' ∧ SO K S σ' F D (g ε') } o := by
  cases o with
  | nx ε => exact fun σ' H' i s => ⟨ε, s, SO.from i h⟩
  | _ => exact h
theorem pss_cons' {st1 : Stmt} {rest : List Stmt} {g1 g2 : Env → O} (h1 : PS X st1 (tS X.K S g1)) (h2 : PSs X rest (tS X.K S g2)) : PSs X (st1 :: rest) (tS X.K S fun ε => osq (g1 ε) g2) :=
  pss_imp (pss_cons h1 h2) fun D σ H ⟨ε, F, s, q⟩ => by
    refine ⟨ε, F, s, ?_⟩
    have q' := SO_seq q
    cases h : g1 ε with
    | nx ε1 =>
      rw [h] at q'
      exact fun σ' H' i s' => by
        obtain ⟨ε', s2, q2⟩ := q' σ' H' i s'
        exact ⟨ε', F, s2, q2⟩
    | _ => rw [h] at q'; exact q'
/-- name = e; (a, b) = e -/
theorem ps_asgN (hN : X.N.Nodup) (hi : X.N[i]? = some x) (hx : Loc X.env.scope x) (hf : X.fn x = true ∨ X.env.scope.names.lookup x = some .local) (hS : S i) (he : PE X e (tE X.K f)) (hs : swapsWith e (some (.Name x p)) pos.line X.env = pure false) :
    PS X (.Assign [.Name x p] e pos) (tS X.K S fun ε => obnd (f ε) fun t ε1 => match asg (.s i) t ε1 with | some ε2 => .nx ε2 | none => .no) :=
  ps_imp (ps_set hN hi hx he hs hf) fun D σ H ⟨ε, F, s, q⟩ => by
    obtain ⟨t, ε1, h1, h2⟩ := obnd_inv q
    refine ⟨ε, F, t, ε1, s, h1, fun v H' s' => ?_⟩
    have e' : asg (.s i) t ε1 = if i < ε1.length then some (st ε1 i (some t)) else none := by simp only [asg]
    by_cases hlt : i < ε1.length
    · simp only [e', if_pos hlt] at h2
      exact h2 _ _ (SI.set hS) (s'.put hlt)
    · simp only [e', if_neg hlt] at h2
      exact h2.elim
theorem ps_asgT {tg : Expr} {g : Tg} (he : PE X e (tE X.K f)) (hg : PG X tg (tG X.K S g)) (hs : swapsWithSole [tg] e pos.line X.env = pure false) (hw : swappedStores [tg] e X.env = pure none) (hst : isStar tg = false) :
    PS X (.Assign [tg] e pos) (tS X.K S fun ε => obnd (f ε) fun t ε1 => match asg g t ε1 with | some ε2 => .nx ε2 | none => .no) :=
  ps_imp (ps_asg he hg hs hw (by rw [assign1 hst]; rfl)) fun D σ H ⟨ε, F, s, q⟩ => by
    obtain ⟨t, ε1, h1, h2⟩ := obnd_inv q
    refine ⟨ε, F, t, ε1, s, h1, fun v H' s' => ?_⟩
    cases h : asg g t ε1 with
    | none => simp only [h] at h2; exact h2.elim
    | some ε2 => simp only [h] at h2; exact ⟨ε1, F, t, ε2, s', h, fun σ' s2 i2 => h2 σ' H' i2 s2⟩
end
end Tq
end

section
set_option Elab.async false
set_option maxRecDepth 100000
set_option maxHeartbeats 4000000
/-! TLs20: parallel stores, stores to items, append, extend, while. -/
namespace Tq
open PySem PySem.Spec PyProof.Rows L2
section
variable {S : Nat → Prop} {X : Cx} {x y z : Str} {p pos apos cpos px py pz pt pt2 : Pos} {a b c e o k : Expr} {es : List Expr} {i j l : Nat} {f f' : Env → R T} {gv : Env → R (List T)}
def fPar (is : List Nat) (gv : Env → R (List T)) (ε : Env) : O := obnd (gv ε) fun ts ε1 => match setAll is ts ε1 with
    | some ε2 => .nx ε2
    | none => .no
theorem SR.putN {K : PySem.W.Frag} {F : Fr} {H : Hp} : ∀ {is : List Nat} {vs : List V} {us : List T} {ε' : Env} {σ : L2.St} {ε : Env}, vs.length = us.length → SR K σ ε (F.pushs (vs.zip us)) H → setAll is us ε = some ε' →
    is.length = vs.length ∧ SR K ((is.zip vs).foldl (fun σ p => σ.set p.1 (some p.2)) σ) ε' F H ∧ ∀ S : Nat → Prop, (∀ i ∈ is, S i) → SI S σ ((is.zip vs).foldl (fun σ p => σ.set p.1 (some p.2)) σ)
  | [], [], [], ε', σ, ε, _, s, e => by cases e; exact ⟨rfl, s, fun _ _ => .rfl⟩
  | [], _, u :: us, _, _, _, _, _, e => by cases e
  | [], v :: vs, [], _, _, _, hl, _, _ => by simp at hl
  | i :: is, [], [], _, _, _, _, _, e => by cases e
  | i :: is, v :: vs, [], _, _, _, hl, _, _ => by simp at hl
  | i :: is, [], u :: us, _, _, _, hl, _, _ => by simp at hl
  | i :: is, v :: vs, u :: us, ε', σ, ε, hl, s, e => by
    have e' : (if i < ε.length then setAll is us (st ε i (some u)) else none) = some ε' := e
    split at e'
    · rename_i hlt
      have s1 : SR K σ ε ((F.pushs (vs.zip us)).push (v, u)) H := s
      have s2 := s1.put hlt
      obtain ⟨h1, h2, h3⟩ := SR.putN (is := is) (vs := vs) (us := us) (by simpa using hl) s2 e'
      exact ⟨by simp [h1], h2, fun S hS => (SI.set (hS i List.mem_cons_self)).trans (h3 S fun j hj => hS j (List.mem_cons_of_mem _ hj))⟩
    · cases e'
theorem ps_par2' {kt k2} (hS : ∀ k ∈ [i, j], S k) (hc : X.calm = true) (hN : X.N.Nodup) (hi : X.N[i]? = some x) (hj : X.N[j]? = some y) (hij : i ≠ j) (hx : X.env.scope.names.lookup x = some .local) (hy : X.env.scope.names.lookup y = some .local)
    (ha : PA X [a, b] (tV X.K gv)) (hw : swappedStores [.Tuple [.Name x px, .Name y py] kt pt] (.Tuple [a, b] k2 pt2) X.env = pure (some [x, y])) :
    PS X (.Assign [.Tuple [.Name x px, .Name y py] kt pt] (.Tuple [a, b] k2 pt2) pos) (tS X.K S (fPar [i, j] gv)) :=
  ps_imp (ps_par hc hN hi hj hij hx hy ha hw) fun D σ H ⟨ε, F, s, q⟩ => by
    obtain ⟨ts, ε1, h1, h2⟩ := obnd_inv q
    refine ⟨ε, F, ts, ε1, s, h1, fun vs H' hl s' => ?_⟩
    cases h : setAll [i, j] ts ε1 with
    | none => simp only [h] at h2; exact h2.elim
    | some ε2 =>
      simp only [h] at h2
      obtain ⟨g1, g2, g3⟩ := SR.putN (F := F) (H := H') hl s' h
      match vs, g1, g2, g3 with
      | [v, w], _, g2, g3 => exact ⟨v, w, rfl, h2 _ _ (g3 S hS) g2⟩
theorem ps_par3' {kt k2} (hS : ∀ k ∈ [i, j, l], S k) (hc : X.calm = true) (hN : X.N.Nodup) (hi : X.N[i]? = some x) (hj : X.N[j]? = some y) (hl : X.N[l]? = some z) (hij : i ≠ j) (hil : i ≠ l) (hjl : j ≠ l) (hx : X.env.scope.names.lookup x = some .local) (hy : X.env.scope.names.lookup y = some .local) (hz : X.env.scope.names.lookup z = some .local)
    (ha : PA X [a, b, c] (tV X.K gv)) (hw : swappedStores [.Tuple [.Name x px, .Name y py, .Name z pz] kt pt] (.Tuple [a, b, c] k2 pt2) X.env = pure (some [x, y, z])) :
    PS X (.Assign [.Tuple [.Name x px, .Name y py, .Name z pz] kt pt] (.Tuple [a, b, c] k2 pt2) pos) (tS X.K S (fPar [i, j, l] gv)) :=
  ps_imp (ps_par3 hc hN hi hj hl hij hil hjl hx hy hz ha hw) fun D σ H ⟨ε, F, s, q⟩ => by
    obtain ⟨ts, ε1, h1, h2⟩ := obnd_inv q
    refine ⟨ε, F, ts, ε1, s, h1, fun vs H' hl s' => ?_⟩
    cases h : setAll [i, j, l] ts ε1 with
    | none => simp only [h] at h2; exact h2.elim
    | some ε2 =>
      simp only [h] at h2
      obtain ⟨g1, g2, g3⟩ := SR.putN (F := F) (H := H') hl s' h
      match vs, g1, g2, g3 with
      | [u, v, w], _, g2, g3 => exact ⟨u, v, w, rfl, h2 _ _ (g3 S hS) g2⟩
/-! x[k] = e -/
def rSetD : V → V → V → Hp → (Hp → Prop) → Prop := fun o i v H Q => ∃ a H', o = .ref a ∧ Dp' H a i v H' ∧ Q H'
theorem set_dict (hu : X.A.units + 1 < cLine) : PSet X rSetD := by
  intro pins s σ H o i v ov iv u Q I ro ri rv ⟨a, H', e, g, q⟩
  subst e
  cases ro
  exact g_setItem hu I g ri rv fun s' I' => ⟨H', I', q⟩
theorem set_any (hu : X.A.units + 1 < cLine) : PSet X (fun o i v H Q => rSetL o i v H Q ∨ rSetD o i v H Q) := by
  intro pins s σ H o i v ov iv u Q I ro ri rv h
  rcases h with h | h
  · exact set_list pins s σ H o i v ov iv u Q I ro ri rv h
  · exact set_dict hu pins s σ H o i v ov iv u Q I ro ri rv h
def isSlice : Expr → Bool
  | .Slice _ _ _ _ => true
  | _ => false
theorem plainIx {k : Expr} (h : isSlice k = false) : PlainIx k := by
  intro o i
  cases k <;> first | rfl | cases h
/-- an open object in a slot with other contents: the write's end -/
theorem SR.wrote {K : PySem.W.Frag} {σ : L2.St} {ε : Env} {F : Fr} {H : Hp} {a : Addr} {L2 : VT} {o : HO} {t' : T} (al : Al σ ε) (hi : σ[i]? = some (some (.ref a))) (s : Sat K H (a :: F.C) F.P (L2 ++ (F.R ++ slots σ (st ε i none)))) (hP : ∀ p ∈ F.P, p.1 ≠ a) (c : CH H F.C)
    (ho : ∃ u, H a = some u ∧ ∀ vs, u ≠ .tup vs) (hr : ∀ (W : Addr → Prop) (A : List Addr), Reps K (upd H a o) W (L2.map (·.1)) (L2.map (·.2)) A → Rep K (upd H a o) W (.ref a) t' (a :: A)) : SR K σ (st ε i (some t')) F (upd H a o) := by
  obtain ⟨u, hu, hn⟩ := ho
  have s1 := s.write (o := o) hu hn hP
  have s2 := Sat.closeO (t := t') s1 hP hr
  have s3 : SR K σ (st ε i none) (F.push (.ref a, t')) (upd H a o) := ⟨al.none i, c.upd, s2⟩
  have s4 := s3.fill hi
  rw [st_idem] at s4
  exact s4
/-- an owned dict in a slot is opened -/
theorem SR.openD {K : PySem.W.Frag} {σ : L2.St} {ε : Env} {F : Fr} {H : Hp} {kvs : List (T × T)} (s : SR K σ ε F H) (e : gt ε i = some (.dic true kvs)) : ∃ (a : Addr) (L1 : VT), σ[i]? = some (some (.ref a)) ∧ (∀ p ∈ F.P, p.1 ≠ a) ∧
    Sat K H (a :: F.C) F.P (L1 ++ (F.R ++ slots σ (st ε i none))) ∧
    ((∃ kv : List (Key × V), H a = some (.dK kv) ∧ (kv.map (·.1)).Nodup ∧ L1.map (·.1) = kv.map (·.2) ∧ kvs = (kv.map fun p => keyT p.1).zip (L1.map (·.2))) ∨
     (∃ kv : List (List Key × V), H a = some (.dT kv) ∧ ((kv.map (·.1)).Nodup ∧ kv ≠ []) ∧ L1.map (·.1) = kv.map (·.2) ∧ kvs = (kv.map fun p => keysT p.1).zip (L1.map (·.2)))) := by
  obtain ⟨v, h1, s1⟩ := s.take e
  have inv : ∀ (W : Addr → Prop) (A : List Addr), Rep K H W v (.dic true kvs) A → ∃ (a : Addr) (ts : List T) (B : List Addr), v = .ref a ∧ A = a :: B ∧
      ((∃ kv : List (Key × V), H a = some (.dK kv) ∧ (kv.map (·.1)).Nodup ∧ Reps K H W (kv.map (·.2)) ts B ∧ kvs = (kv.map fun p => keyT p.1).zip ts) ∨
       (∃ kv : List (List Key × V), H a = some (.dT kv) ∧ ((kv.map (·.1)).Nodup ∧ kv ≠ []) ∧ Reps K H W (kv.map (·.2)) ts B ∧ kvs = (kv.map fun p => keysT p.1).zip ts)) := fun W A r => by
    generalize hg : T.dic true kvs = tt at r
    cases r <;> try (cases hg; done)
    · rename_i kv ts A hh hn rr
      cases hg
      exact ⟨_, ts, A, rfl, rfl, .inl ⟨kv, hh, hn, rr, rfl⟩⟩
    · rename_i kv ts A hh hn rr
      cases hg
      exact ⟨_, ts, A, rfl, rfl, .inr ⟨kv, hh, hn, rr, rfl⟩⟩
  obtain ⟨A, W, r⟩ := Sat.look (L := (v, .dic true kvs) :: (F.R ++ slots σ (st ε i none))) s1.sat List.mem_cons_self
  obtain ⟨a, ts, B, rfl, rfl, h⟩ := inv W A r
  rcases h with ⟨kv, hh, hn, rr, hk⟩ | ⟨kv, hh, hn, rr, hk⟩
  · have hl := rr.length
    have hm : ((kv.map (·.2)).zip ts).map (·.1) = kv.map (·.2) ∧ ((kv.map (·.2)).zip ts).map (·.2) = ts := ⟨zip_fst hl, zip_snd hl⟩
    have o := Sat.openO (L1 := (kv.map (·.2)).zip ts) (L := F.R ++ slots σ (st ε i none)) s1.sat (a := a) fun W A r => by
      obtain ⟨a', ts', B', e1, e2, h⟩ := inv W A r
      cases e1
      refine ⟨B', e2, ?_⟩
      rw [hm.1, hm.2]
      rcases h with ⟨kv', hh', _, rr', hk'⟩ | ⟨kv', hh', hn', rr', hk'⟩
      · rw [hh] at hh'; cases hh'
        have : ts' = ts := by
          have e3 := hk.symm.trans hk'
          have h2 := rr'.length
          have e4 := congrArg (List.map (·.2)) e3
          rw [zip_snd (by simpa using hl), zip_snd (by simpa using h2)] at e4
          exact e4.symm
        rw [← this]; exact rr'
      · rw [hh] at hh'; cases hh'
    exact ⟨a, _, h1, o.2.1, o.1, .inl ⟨kv, hh, hn, hm.1, by rw [hm.2]; exact hk⟩⟩
  · have hl := rr.length
    have hm : ((kv.map (·.2)).zip ts).map (·.1) = kv.map (·.2) ∧ ((kv.map (·.2)).zip ts).map (·.2) = ts := ⟨zip_fst hl, zip_snd hl⟩
    have o := Sat.openO (L1 := (kv.map (·.2)).zip ts) (L := F.R ++ slots σ (st ε i none)) s1.sat (a := a) fun W A r => by
      obtain ⟨a', ts', B', e1, e2, h⟩ := inv W A r
      cases e1
      refine ⟨B', e2, ?_⟩
      rw [hm.1, hm.2]
      rcases h with ⟨kv', hh', hn', rr', hk'⟩ | ⟨kv', hh', _, rr', hk'⟩
      · rw [hh] at hh'; cases hh'
      · rw [hh] at hh'; cases hh'
        have : ts' = ts := by
          have e3 := hk.symm.trans hk'
          have h2 := rr'.length
          have e4 := congrArg (List.map (·.2)) e3
          rw [zip_snd (by simpa using hl), zip_snd (by simpa using h2)] at e4
          exact e4.symm
        rw [← this]; exact rr'
    exact ⟨a, _, h1, o.2.1, o.1, .inr ⟨kv, hh, hn, hm.1, by rw [hm.2]; exact hk⟩⟩

theorem Sat.keyV {K : PySem.W.Frag} {H : Hp} {C : List Addr} {P : List Pin} {L : VT} {w : V} {k : Key} (s : Sat K H C P L) (h : (w, keyT k) ∈ L) : w = kV k := by
  cases k with
  | inl i => exact s.isInt (i := i) h
  | inr i => exact s.isStr (i := i) h
theorem Sat.keyVs {K : PySem.W.Frag} {H : Hp} {C : List Addr} {P : List Pin} {L : VT} {w : V} {ks : List Key} (s : Sat K H C P L) (h : (w, keysT ks) ∈ L) : ∃ b, w = .ref b ∧ H b = some (.tup (ks.map kV)) := by
  obtain ⟨A, W, r⟩ := s.look h
  have vk : ∀ {vs : List V} {ks : List Key} {D : List Addr}, Reps K H W vs (ks.map keyT) D → vs = ks.map kV := by
    intro vs ks
    induction ks generalizing vs with
    | nil => intro D r; cases r; rfl
    | cons k ks ih =>
      intro D r
      cases r with
      | cons a b =>
        rw [ih b]
        cases k <;> (cases a; rfl)
  generalize hg : keysT ks = tt at r
  unfold keysT at hg
  cases r <;> try (cases hg; done)
  rename_i b vs _ hb rr
  cases hg
  exact ⟨b, rfl, by rw [hb, vk rr]⟩
def fSeti (i : Nat) (fk f : Env → R T) (ε : Env) : O := obnd (f ε) fun t ε1 => if (gt ε1 i).isNone then .no else obnd (fk ε1) fun j ε2 => match gt ε2 i with
    | some c => match setI c j t with
      | some c' => .nx (st ε2 i (some c'))
      | none => .no
    | none => .no
theorem ps_seti' (hu : X.A.units + 1 < cLine) (h : PE X (.Name x p) (tVar i)) (hk : PE X k (tE X.K f')) (he : PE X e (tE X.K f)) (hs : isSlice k = false) : PS X (.Assign [.Subscript (.Name x p) k apos] e pos) (tS X.K S (fSeti i f' f)) :=
  ps_imp (ps_asg he (pg_sub (pos := apos) h hk (set_any hu) (by intro _; cases k <;> first | rfl | cases hs)) (by cases e <;> rfl) (by cases e <;> rfl) rfl) fun D σ H ⟨ε, F, s, q⟩ => by
    obtain ⟨t, ε1, h1, q⟩ := obnd_inv q
    refine ⟨ε, F, t, ε1, s, h1, fun v H1 s1 => ?_⟩
    cases hg : gt ε1 i with
    | none => simp only [hg, Option.isNone_none, if_true] at q; exact q.elim
    | some c0 =>
      simp only [hg, Option.isNone_some, Bool.false_eq_true, if_false] at q
      obtain ⟨j, ε2, h2, q⟩ := obnd_inv q
      obtain ⟨w0, e0, _⟩ := s1.mem hg
      refine ⟨w0, e0, ε1, F.push (v, t), j, ε2, s1, h2, fun w H2 s2 => ?_⟩
      cases hg2 : gt ε2 i with
      | none => simp only [hg2] at q; exact q.elim
      | some c =>
        cases hst : setI c j t with
        | none => simp only [hg2, hst] at q; exact q.elim
        | some c' =>
          simp only [hg2, hst] at q
          have fin : ∀ H3, SR X.K σ (st ε2 i (some c')) F H3 → D.nx σ H3 := fun H3 s3 => q σ H3 .rfl s3
          cases c with
          | lst oo xs =>
            cases oo with
            | false => simp [setI] at hst
            | true =>
              cases j with
              | int n =>
                have hst' : ((ixOf xs.length n).map fun j => T.lst true (xs.set j t)) = some c' := hst
                obtain ⟨m, g1, rfl⟩ := Option.map_eq_some_iff.mp hst'
                obtain rfl := s2.sat.isInt (i := n) List.mem_cons_self
                obtain ⟨a, L1, b1, rfl, b3, sp, hP⟩ := s2.pop.openS hg2
                rw [e0] at b1; cases b1
                rw [List.length_map] at g1
                obtain ⟨z1, z2, z3, z4⟩ := ixN_seq (show ixN L1.length n = some m from by rw [← ixOf_ixN]; exact g1)
                have hm : ∃ q0, L1[m]? = some q0 := by
                  refine ⟨_, List.getElem?_eq_getElem (show m < L1.length by omega)⟩
                obtain ⟨q0, hq0⟩ := hm
                refine .inl ⟨a, _, n, m, rfl, rfl, b3, by rw [List.length_map, ← ixOf_ixN]; exact g1, fin _ ?_⟩
                have y0 : Sat X.K H2 (a :: F.C) F.P (L1 ++ ((v, t) :: (F.R ++ slots σ (st ε2 i none)))) := by have := sp.sat; rw [← List.cons_append, ← List.append_assoc]; exact this
                have y1 := (y0.aside hq0).drop
                have y2 : Sat X.K H2 (a :: F.C) F.P ((v, t) :: (L1.eraseIdx m ++ (F.R ++ slots σ (st ε2 i none)))) := y1.perm List.perm_middle
                have y3 := y2.backIn hq0
                have y4 := SR.wrote (F := F) (o := .lst ((L1.set m (v, t)).map (·.1))) (t' := .lst true ((L1.set m (v, t)).map (·.2))) s2.al e0 y3 hP (fun b hb => sp.ch b (List.mem_cons_of_mem _ hb)) ⟨_, b3, fun _ z => nomatch z⟩ fun W A r => .own upd_same r
                rw [map_set, map_set] at y4
                exact y4
              | _ => simp [setI] at hst
          | dic oo kvs =>
            cases oo with
            | false => simp [setI] at hst
            | true =>
              have hst' : (if (kOk true kvs j && decide (kvs.length < LL)) = true then some (T.dic true (dput kvs j t)) else none) = some c' := hst
              by_cases hc : (kOk true kvs j && decide (kvs.length < LL)) = true
              · rw [if_pos hc] at hst'
                cases hst'
                rw [Bool.and_eq_true, decide_eq_true_eq] at hc
                obtain ⟨hk1, hlen⟩ := hc
                obtain ⟨a, L1, b1, hP, sp, hd⟩ := s2.pop.openD hg2
                rw [e0] at b1; cases b1
                have hCH : CH H2 F.C := s2.ch
                have y0 : Sat X.K H2 (a :: F.C) F.P (((v, t) :: L1) ++ (F.R ++ slots σ (st ε2 i none))) := sp.perm (by
                  show (L1 ++ ((v, t) :: (F.R ++ slots σ (st ε2 i none)))).Perm ((v, t) :: (L1 ++ (F.R ++ slots σ (st ε2 i none))))
                  exact List.perm_middle)
                refine .inr ⟨a, ?_⟩
                have put : ∀ {L2 L3 : VT} {o : HO} {t' : T}, ((v, t) :: L1).Perm (L3 ++ L2) → (∃ u, H2 a = some u ∧ ∀ vs, u ≠ .tup vs) → (∀ (W : Addr → Prop) (A : List Addr), Reps X.K (upd H2 a o) W (L2.map (·.1)) (L2.map (·.2)) A → Rep X.K (upd H2 a o) W (.ref a) t' (a :: A)) →
                    SR X.K σ (st ε2 i (some t')) F (upd H2 a o) := fun {L2 L3 o t'} pm ho hr => by
                  have y1 := y0.perm (pm.append_right _)
                  rw [List.append_assoc] at y1
                  exact SR.wrote s2.al e0 y1.dropL hP hCH ho hr
                have oneK : ∀ {kv : List (Key × V)}, H2 a = some (.dK kv) → (kv.map (·.1)).Nodup → L1.map (·.1) = kv.map (·.2) → kvs = (kv.map fun p => keyT p.1).zip (L1.map (·.2)) → k1 j = true → ∃ H', V.ref a = .ref a ∧ Dp' H2 a w v H' ∧ D.nx σ H' := fun {kv} hh hn hl hkv e1 => by
                  obtain ⟨kk, rfl⟩ := k1_key e1
                  obtain rfl := s2.sat.keyV (k := kk) List.mem_cons_self
                  obtain ⟨L2, d1, d2, L3, d3⟩ := dput_rep eq_keyT kk v t hl hn
                  refine ⟨_, rfl, .inl (DPut.k hh ?_), fin _ ?_⟩
                  · have e4 : kvs.length = kv.length := by
                      have := congrArg List.length hl
                      rw [hkv, List.length_zip]; simp only [List.length_map] at this ⊢; omega
                    rw [sizeLine_eq, ← e4]; exact hlen
                  · rw [hkv, d2]
                    exact put d3 ⟨_, hh, fun _ z => nomatch z⟩ fun W A r => .ownK upd_same (putK_nodup hn).1 (by rw [← d1]; exact r)
                rcases hd with ⟨kv, hh, hn, hl, hkv⟩ | ⟨kv, hh, hn, hl, hkv⟩
                · cases kv with
                  | nil =>
                    have hL : L1 = [] := List.map_eq_nil_iff.mp hl
                    subst hL
                    have hk' : (k1 j || (true && k2 j)) = true := by rw [hkv] at hk1; exact hk1
                    rw [Bool.true_and, Bool.or_eq_true] at hk'
                    rcases hk' with e1 | e1
                    · exact oneK hh hn hl hkv e1
                    · obtain ⟨ks, rfl⟩ := k2_keys e1
                      obtain ⟨b, rfl, hb⟩ := s2.sat.keyVs (ks := ks) List.mem_cons_self
                      refine ⟨_, rfl, .inr ⟨ks, b, hh, rfl, hb, rfl⟩, fin _ ?_⟩
                      rw [hkv]
                      have := put (L2 := [(v, t)]) (L3 := []) (o := .dT [(ks, v)]) (t' := .dic true [(keysT ks, t)]) (.refl _) ⟨_, hh, fun _ z => nomatch z⟩ fun W A r => .ownT (kv := [(ks, v)]) (ts := [t]) upd_same ⟨by simp, by simp⟩ r
                      exact this
                  | cons p kv =>
                    have e1 : k1 j = true := by
                      cases L1 with
                      | nil => simp at hl
                      | cons q L1 =>
                        rw [hkv] at hk1
                        have hk' : ((k1 (keyT p.1) && k1 j) || (k2 (keyT p.1) && k2 j)) = true := hk1
                        rw [k2_keyT, Bool.false_and, Bool.or_false, Bool.and_eq_true] at hk'
                        exact hk'.2
                    exact oneK hh hn hl hkv e1
                · cases kv with
                  | nil => exact absurd rfl hn.2
                  | cons p kv =>
                    have e1 : k2 j = true := by
                      cases L1 with
                      | nil => simp at hl
                      | cons q L1 =>
                        rw [hkv] at hk1
                        have hk' : ((k1 (keysT p.1) && k1 j) || (k2 (keysT p.1) && k2 j)) = true := hk1
                        rw [k1_keysT, Bool.false_and, Bool.false_or, Bool.and_eq_true] at hk'
                        exact hk'.2
                    obtain ⟨ks, rfl⟩ := k2_keys e1
                    obtain ⟨b, rfl, hb⟩ := s2.sat.keyVs (ks := ks) List.mem_cons_self
                    obtain ⟨L2, d1, d2, L3, d3⟩ := dput_rep eq_keysT ks v t hl hn.1
                    refine ⟨_, rfl, .inl (DPut.t hh hb ?_), fin _ ?_⟩
                    · have e4 : kvs.length = (p :: kv).length := by
                        have := congrArg List.length hl
                        rw [hkv, List.length_zip]; simp only [List.length_map] at this ⊢; omega
                      rw [sizeLine_eq, ← e4]; exact hlen
                    · rw [hkv, d2]
                      refine put d3 ⟨_, hh, fun _ z => nomatch z⟩ fun W A r => .ownT upd_same ⟨(putK_nodup hn.1).1, fun z => ?_⟩ (by rw [← d1]; exact r)
                      have := congrArg List.length z
                      unfold putK at this
                      split at this <;> simp at this
              · rw [if_neg hc] at hst'; cases hst'
          | _ => simp [setI] at hst
end
end Tq
end

section
set_option Elab.async false
set_option maxRecDepth 100000
set_option maxHeartbeats 4000000
/-! TLs21: append, extend, while. -/
namespace Tq
open PySem PySem.Spec PyProof.Rows L2
section
variable {S : Nat → Prop} {X : Cx} {x y z : Str} {p pos apos cpos px py pz pt pt2 : Pos} {a b c e o k : Expr} {es : List Expr} {i j l : Nat} {f f' : Env → R T} {gv : Env → R (List T)}
def fApp (i : Nat) (f : Env → R T) (ε : Env) : O := if !isL (gt ε i) then .no else obnd (f ε) fun t ε1 => match gt ε1 i with
    | some (.lst true xs) => if xs.length < LL then .nx (st ε1 i (some (.lst true (xs ++ [t])))) else .no
    | _ => .no
def fExt (i : Nat) (f : Env → R T) (ε : Env) : O := if !isL (gt ε i) then .no else obnd (f ε) fun t ε1 => match gt ε1 i, t with
    | some (.lst true xs), .lst _ ys => if xs.length + ys.length ≤ LL then .nx (st ε1 i (some (.lst true (xs ++ ys)))) else .no
    | _, _ => .no
theorem isL_so {K : PySem.W.Frag} {σ : L2.St} {F : Fr} {D : Ends} {o : Option T} {r : O} (h : SO K S σ F D (if (!isL o) = true then .no else r)) : (∃ xs, o = some (.lst true xs)) ∧ SO K S σ F D r := by
  split at h
  · exact h.elim
  · rename_i hh
    refine ⟨?_, h⟩
    cases o with
    | none => exact absurd rfl hh
    | some u =>
      cases u with
      | lst o xs => cases o with
        | true => exact ⟨_, rfl⟩
        | false => exact absurd rfl hh
      | _ => exact absurd rfl hh
theorem ps_app' (h : PE X (.Name x p) (tVar i)) (he : PE X e (tE X.K f)) (hl : (apos.endLine == cpos.line) = true) (hs : isStar e = false) : PS X (.Expr (.Call (.Attribute (.Name x p) "append" apos) [e] [] cpos) pos) (tS X.K S (fApp i f)) :=
  ps_imp (ps_expr (pe_bm PySem.F.plainAttrs_list PySem.F.slot_list_append PySem.F.type_list_append mt_append h (pa_cons he pa_nil (star1 hs)) rfl (few1 hs) hl (star1 hs) rfl) rfl) fun D σ H ⟨ε, F, s, q⟩ => by
    obtain ⟨⟨xs0, g⟩, q⟩ := isL_so q
    obtain ⟨t, ε1, h1, q⟩ := obnd_inv q
    obtain ⟨a, L0, g1, g2, g3, _, _⟩ := s.openS g
    refine ⟨.ref a, g1, .inl ⟨rfl, _, SqL.of g3⟩, ε, F, t, ε1, s, h1, fun v H1 s1 => ?_⟩
    cases gg : gt ε1 i with
    | none => simp only [gg] at q; exact q.elim
    | some u1 =>
      cases u1 with
      | lst o xs =>
        cases o with
        | false => simp only [gg] at q; exact q.elim
        | true =>
          simp only [gg] at q
          by_cases hz : xs.length < LL
          · rw [if_pos hz] at q
            obtain ⟨a', L1, h1', rfl, h3, s2, hP⟩ := s1.openS gg
            rw [g1] at h1'; cases h1'
            refine ⟨a, _, v, rfl, rfl, h3, by rw [sizeLine_eq]; rw [List.length_map] at hz ⊢; exact hz, q _ _ .rfl ?_⟩
            have s3 : SR X.K σ (st ε1 i none) ⟨a :: F.C, F.P, (L1 ++ [(v, t)]) ++ F.R⟩ H1 := by
              refine ⟨s2.al, s2.ch, ?_⟩
              have z : Sat X.K H1 (a :: F.C) F.P (L1 ++ ((v, t) :: F.R) ++ slots σ (st ε1 i none)) := s2.sat
              show Sat X.K H1 (a :: F.C) F.P (((L1 ++ [(v, t)]) ++ F.R) ++ slots σ (st ε1 i none))
              rw [List.append_assoc L1 [(v, t)] F.R]
              exact z
            have s4 := (s3.closeS (L1 := L1) g1 h3 hP).2
            rw [List.map_append, List.map_append] at s4
            exact s4
          · rw [if_neg hz] at q; exact q.elim
      | _ => simp only [gg] at q; exact q.elim
theorem ps_ext' (h : PE X (.Name x p) (tVar i)) (he : PE X e (tE X.K f)) (hl : (apos.endLine == cpos.line) = true) (hs : isStar e = false) : PS X (.Expr (.Call (.Attribute (.Name x p) "extend" apos) [e] [] cpos) pos) (tS X.K S (fExt i f)) :=
  ps_imp (ps_expr (pe_bm PySem.F.plainAttrs_list PySem.F.slot_list_extend PySem.F.type_list_extend mt_extend h (pa_cons he pa_nil (star1 hs)) rfl (few1 hs) hl (star1 hs) rfl) rfl) fun D σ H ⟨ε, F, s, q⟩ => by
    obtain ⟨⟨xs0, g⟩, q⟩ := isL_so q
    obtain ⟨t, ε1, h1, q⟩ := obnd_inv q
    obtain ⟨a, L0, g1, g2, g3, _, _⟩ := s.openS g
    refine ⟨.ref a, g1, .inl ⟨rfl, _, SqL.of g3⟩, ε, F, t, ε1, s, h1, fun v H1 s1 => ?_⟩
    cases gg : gt ε1 i with
    | none => simp only [gg] at q; exact q.elim
    | some u1 =>
      cases u1 with
      | lst o xs =>
        cases o with
        | false => simp only [gg] at q; exact q.elim
        | true =>
          cases t with
          | lst o2 ys =>
            simp only [gg] at q
            by_cases hz : xs.length + ys.length ≤ LL
            · rw [if_pos hz] at q
              -- the items of the second list, on top
              obtain ⟨b, L2, eb, rfl, q2, s2⟩ := SR.items (p := .t (.lst o2 ys)) (xs := ys) s1 trivial rfl rfl (fun z => nomatch z)
              obtain ⟨a', L1, h1', rfl, h3, s3, hP⟩ := s2.openS gg
              rw [g1] at h1'; cases h1'
              refine ⟨a, b, _, L2.map (·.1), rfl, by rw [eb], h3, (show H1 b = some (.lst (L2.map (·.1))) from q2), by rw [sizeLine_eq]; rw [List.length_map, List.length_map] at hz ⊢; exact hz, q _ _ .rfl ?_⟩
              have s4 : SR X.K σ (st ε1 i none) ⟨a :: F.C, F.P, (L1 ++ L2) ++ F.R⟩ H1 := by
                refine ⟨s3.al, s3.ch, ?_⟩
                have z : Sat X.K H1 (a :: F.C) F.P (L1 ++ (L2 ++ F.R) ++ slots σ (st ε1 i none)) := s3.sat
                show Sat X.K H1 (a :: F.C) F.P (((L1 ++ L2) ++ F.R) ++ slots σ (st ε1 i none))
                rw [List.append_assoc L1 L2 F.R]
                exact z
              have s5 := (s4.closeS (L1 := L1) g1 h3 hP).2
              rw [List.map_append, List.map_append] at s5
              exact s5
            · rw [if_neg hz] at q; exact q.elim
          | _ => simp only [gg] at q; exact q.elim
      | _ => simp only [gg] at q; exact q.elim
/-! while -/
theorem whL_so {K : PySem.W.Frag} {σ : L2.St} {F : Fr} {D : Ends} {h : Env → R Bool} {g : Env → O} {n : Nat} {ε : Env} (q : SO K S σ F D (whL h g (n + 1) ε)) : ∃ d ε1, h ε = .ok d ε1 ∧
    if d = true then SO K S σ F { D with nx := fun σ' H' => ∃ ε', SR K σ' ε' F H' ∧ SO K S σ' F D (whL h g n ε'), ct := fun σ' H' => ∃ ε', SR K σ' ε' F H' ∧ SO K S σ' F D (whL h g n ε'), bk := D.nx } (g ε1) else SO K S σ F D (.nx ε1) := by
  obtain ⟨d, ε1, h1, h2⟩ := obnd_inv q
  refine ⟨d, ε1, h1, ?_⟩
  cases d with
  | false => exact h2
  | true =>
    simp only [if_true] at h2 ⊢
    cases hg : g ε1 with
    | nx ε2 => rw [hg] at h2; exact fun σ' H' i s => ⟨ε2, s, SO.from i h2⟩
    | ct ε2 => rw [hg] at h2; exact fun σ' H' i s => ⟨ε2, s, SO.from i h2⟩
    | brk ε2 => rw [hg] at h2; exact h2
    | ret t ε2 => rw [hg] at h2; exact h2
    | ex x ε2 => rw [hg] at h2; exact h2
    | no => rw [hg] at h2; exact h2
theorem ps_whl' {h : Env → R Bool} {g : Env → O} {n : Nat} {body : List Stmt} (hp : PassesOwn (model X.prog X.w) X.A X.env X.xe) (hc : PT X c (tT X.K h)) (hb : PSs X body (tS X.K S g)) : PS X (.While c body [] pos) (tS X.K S fun ε => whL h g n ε) :=
  ps_imp (ps_while hp hc hb) fun D σ H ⟨ε, F, s, q⟩ => by
    refine ⟨fun m σ H => ∃ ε, SR X.K σ ε F H ∧ SO X.K S σ F D (whL h g m ε), ⟨n, ε, s, q⟩, fun m σ H ⟨ε, s, q⟩ => ?_⟩
    cases m with
    | zero => exact q.elim
    | succ m =>
      obtain ⟨d, ε1, h1, h2⟩ := whL_so q
      refine ⟨ε, F, d, ε1, s, h1, fun H' s' => ?_⟩
      cases d with
      | false => exact h2 σ H' .rfl s'
      | true =>
        rw [if_pos rfl] at h2 ⊢
        exact ⟨fun σ' H' => ∃ ε', SR X.K σ' ε' F H' ∧ SO X.K S σ' F D (whL h g m ε'), fun σ' H' q => ⟨m, Nat.lt_succ_self m, q⟩, ε1, F, s', h2⟩
/-! ### what is walked -/
/-- facts of the heap -/
def Facts (H : Hp) (P : List Pin) : Prop := ∀ p ∈ P, H p.1 = some p.2
/-- an iterator that hands out the trees ts, the facts P' standing and the values ws being live -/
structure Wk (K : PySem.W.Frag) (J : L2.It) (P' : List Pin) (ws : VT) (ts : List T) : Prop where
  go : ∀ i H, Facts H P' → i < ts.length → J.go i H
  yld : ∀ i H x H', Facts H P' → i < ts.length → J.yld i H x H' → ∃ t, ts[i]? = some t ∧ ∀ C P L, Sat K H C P L → CH H C → (∀ p ∈ ws, p ∈ L) → Sat K H' C P ((x, t) :: L) ∧ CH H' C
  stop : ∀ i H, Facts H P' → i = ts.length → J.stop i H
def tIt (K : PySem.W.Frag) (f : Env → R (List T)) : TI := fun σ H R => ∃ ε F ts ε', SR K σ ε F H ∧ f ε = .ok ts ε' ∧ ∀ (J : L2.It) H' P' ws, SR K σ ε' ⟨F.C, P' ++ F.P, ws ++ F.R⟩ H' → Wk K J P' ws ts → R J H'
theorem Sat.facts {K : PySem.W.Frag} {H : Hp} {C : List Addr} {P P' : List Pin} {L : VT} (s : Sat K H C (P' ++ P) L) : Facts H P' := by
  obtain ⟨A, r, nd, hP⟩ := s.ex
  exact fun p hp => (hP p (List.mem_append_left _ hp)).1
end
end Tq
end

section
set_option Elab.async false
set_option maxRecDepth 100000
set_option maxHeartbeats 4000000
/-! TLs22: for. -/
namespace Tq
open PySem PySem.Spec PyProof.Rows L2
section
variable {K : PySem.W.Frag} {σ : L2.St} {ε ε' : Env} {F F' : Fr} {H H' : Hp} {D : Ends} {v w : V} {t u : T}
/-- a frame with more around -/
structure Wid (K : PySem.W.Frag) (F' F : Fr) : Prop where
  sr : ∀ {σ : L2.St} {ε : Env} {H : Hp}, SR K σ ε F' H → SR K σ ε F H
  srp : ∀ {σ : L2.St} {ε : Env} {H : Hp} {p : V × T}, SR K σ ε (F'.push p) H → SR K σ ε (F.push p) H
theorem SO_wid {S : Nat → Prop} (h : Wid K F' F) {o : O} (q : SO K S σ F D o) : SO K S σ F' D o := by
  cases o with
  | nx ε => exact fun σ' H' i s => q σ' H' i (h.sr s)
  | ret t ε => exact fun v σ' H' i s => q v σ' H' i (h.srp s)
  | brk ε => exact fun σ' H' i s => q σ' H' i (h.sr s)
  | ct ε => exact fun σ' H' i s => q σ' H' i (h.sr s)
  | ex x ε => exact q.elim
  | no => exact q.elim
theorem Sat.fewP {C : List Addr} {P P' : List Pin} {L : VT} (s : Sat K H C (P' ++ P) L) : Sat K H C P L := by
  obtain ⟨A, r, nd, hP⟩ := s.ex
  exact ⟨A, r, nd, fun p hp => hP p (List.mem_append_right _ hp)⟩
theorem wid_of (P' : List Pin) (ws : VT) : Wid K ⟨F.C, P' ++ F.P, ws ++ F.R⟩ F := by
  refine ⟨fun {σ ε H} s => ⟨s.al, s.ch, ?_⟩, fun {σ ε H p} s => ⟨s.al, s.ch, ?_⟩⟩
  · have q : Sat K H F.C (P' ++ F.P) ((ws ++ F.R) ++ slots σ ε) := s.sat
    rw [List.append_assoc] at q
    exact q.fewP.dropL
  · have q : Sat K H F.C (P' ++ F.P) (p :: ((ws ++ F.R) ++ slots σ ε)) := s.sat
    rw [List.append_assoc] at q
    have q2 := q.fewP.perm (List.perm_middle (a := p) (l₁ := ws) (l₂ := F.R ++ slots σ ε)).symm
    exact q2.dropL
def fFor (g : Tg) (fi : Env → R (List T)) (gb : Env → O) (ε : Env) : O := obnd (fi ε) fun ts ε1 => forL g gb ts ε1
theorem forL_so {S : Nat → Prop} {g : Tg} {gb : Env → O} {t : T} {ts : List T} {ε : Env} (wd : Wid K F' F) (q : SO K S σ F D (forL g gb (t :: ts) ε)) : ∃ ε1, asg g t ε = some ε1 ∧
    SO K S σ F' { D with nx := fun σ' H' => ∃ ε', SR K σ' ε' F' H' ∧ SO K S σ' F D (forL g gb ts ε'), ct := fun σ' H' => ∃ ε', SR K σ' ε' F' H' ∧ SO K S σ' F D (forL g gb ts ε'), bk := D.nx } (gb ε1) := by
  unfold forL at q
  cases h : asg g t ε with
  | none => simp only [h] at q; exact q.elim
  | some ε1 =>
    simp only [h] at q
    refine ⟨ε1, rfl, ?_⟩
    cases hg : gb ε1 with
    | nx ε2 => simp only [hg] at q; exact fun σ' H' i s => ⟨ε2, s, SO.from i q⟩
    | ct ε2 => simp only [hg] at q; exact fun σ' H' i s => ⟨ε2, s, SO.from i q⟩
    | brk ε2 => simp only [hg] at q; exact fun σ' H' i s => q σ' H' i (wd.sr s)
    | ret t ε2 => simp only [hg] at q; exact fun v σ' H' i s => q v σ' H' i (wd.srp s)
    | ex x ε2 => simp only [hg] at q; exact q.elim
    | no => simp only [hg] at q; exact q.elim
end
section
variable {X : Cx}
theorem ps_for' {tg iter : Expr} {body : List Stmt} {fi : Env → R (List T)} {g : Tg} {gb : Env → O} {pos : Pos} (hp : PassesOwn (model X.prog X.w) X.A X.env X.xe) (hc : X.calm = true) (hi : PI X tg iter (tIt X.K fi)) {S : Nat → Prop} (hg : PG X tg (tG X.K S g)) (hb : PSs X body (tS X.K S gb))
    (hs : ∀ x, foldedSetIterable iter X.env x = pure x) : PS X (.For tg iter body [] pos) (tS X.K S (fFor g fi gb)) :=
  ps_imp (ps_for hp hc hi hg hb hs) fun D σ H ⟨ε, F, s, q⟩ => by
    obtain ⟨ts, ε1, h1, q⟩ := obnd_inv q
    refine ⟨ε, F, ts, ε1, s, h1, fun J H1 P' ws s1 wk => ?_⟩
    have wd : Wid X.K ⟨F.C, P' ++ F.P, ws ++ F.R⟩ F := wid_of P' ws
    refine ⟨fun i m σ H => ∃ ε, SR X.K σ ε ⟨F.C, P' ++ F.P, ws ++ F.R⟩ H ∧ i + m = ts.length ∧ SO X.K S σ F D (forL g gb (ts.drop i) ε), ⟨ts.length, ε1, s1, by simp, q⟩, ?_⟩
    intro i m σ H ⟨ε, s, hm, q⟩
    have hf : Facts H P' := Sat.facts (P := F.P) s.sat
    by_cases hlt : i < ts.length
    · refine .inr ⟨wk.go i H hf hlt, ?_⟩
      have ed : ts.drop i = ts[i] :: ts.drop (i + 1) := List.drop_eq_getElem_cons hlt
      rw [ed] at q
      obtain ⟨ε2, a1, q2⟩ := forL_so wd q
      refine ⟨fun σ' H' => ∃ ε', SR X.K σ' ε' ⟨F.C, P' ++ F.P, ws ++ F.R⟩ H' ∧ SO X.K S σ' F D (forL g gb (ts.drop (i + 1)) ε'), fun σ' H' ⟨ε', s', q'⟩ => ⟨m - 1, by omega, ε', s', by omega, q'⟩, fun x H' y => ?_⟩
      obtain ⟨t, e1, hh⟩ := wk.yld i H x H' hf hlt y
      rw [List.getElem?_eq_getElem hlt] at e1
      cases e1
      obtain ⟨s3, c3⟩ := hh F.C (P' ++ F.P) ((ws ++ F.R) ++ slots σ ε) s.sat s.ch (fun p hp => List.mem_append_left _ (List.mem_append_left _ hp))
      exact ⟨ε, ⟨F.C, P' ++ F.P, ws ++ F.R⟩, _, ε2, ⟨s.al, c3, s3⟩, a1, fun σ2 s4 i4 => ⟨ε2, ⟨F.C, P' ++ F.P, ws ++ F.R⟩, s4, SO.from i4 q2⟩⟩
    · refine .inl ⟨wk.stop i H hf (by omega), ?_⟩
      have : ts.drop i = [] := List.drop_eq_nil_iff.mpr (by omega)
      rw [this] at q
      exact q σ H .rfl (wd.sr s)
end
end Tq
end

section
set_option Elab.async false
set_option maxRecDepth 100000
set_option maxHeartbeats 4000000
/-! TLs23: list comprehensions. -/
namespace Tq
open PySem PySem.Spec PyProof.Rows L2
section
variable {K : PySem.W.Frag} {σ σ' : L2.St} {ε ε' : Env} {F F' : Fr} {H H' : Hp} {D : Ends} {v w : V} {t u : T}
theorem slots_congr : ∀ {σ σ' : L2.St} {ε : Env}, σ'.length = σ.length → (∀ i t, gt ε i = some t → σ'[i]? = σ[i]?) → slots σ' ε = slots σ ε
  | [], [], _, _, _ => rfl
  | [], _ :: _, _, h, _ => by simp at h
  | _ :: _, [], _, h, _ => by simp at h
  | x :: σ, y :: σ', [], _, _ => by cases x <;> cases y <;> rfl
  | x :: σ, y :: σ', none :: ε, h, k => by
    have ih := slots_congr (σ := σ) (σ' := σ') (ε := ε) (by simpa using h) fun i t e => by simpa using k (i + 1) t e
    cases x <;> cases y <;> exact ih
  | x :: σ, y :: σ', some t :: ε, h, k => by
    have ih := slots_congr (σ := σ) (σ' := σ') (ε := ε) (by simpa using h) fun i t e => by simpa using k (i + 1) t e
    have e : y = x := by simpa using k 0 t rfl
    subst e
    cases y with
    | none => exact ih
    | some v => show (v, t) :: slots σ' ε = (v, t) :: slots σ ε; rw [ih]
/-- another store that agrees where something lives -/
theorem SR.agree (s : SR K σ ε F H) (hl : σ'.length = σ.length) (h : ∀ i t, gt ε i = some t → σ'[i]? = σ[i]?) : SR K σ' ε F H :=
  ⟨⟨by rw [s.al.len, hl], fun i t e => by rw [h i t e]; exact s.al.has i t e⟩, s.ch, by rw [slots_congr hl h]; exact s.sat⟩
theorem gt_wipe : ∀ {own : List Nat} {ε : Env} {i : Nat} {t : T}, gt (Tq.wipe ε own) i = some t → gt ε i = some t ∧ i ∉ own
  | [], _, _, _, h => ⟨h, by simp⟩
  | j :: own, ε, i, t, h => by
    have h' : gt (st (Tq.wipe ε own) j none) i = some t := h
    by_cases e : i = j
    · subst e
      have hl := gt_lt h'
      rw [st_length] at hl
      rw [gt_st_same hl] at h'
      cases h'
    · rw [gt_st_ne e] at h'
      obtain ⟨g1, g2⟩ := gt_wipe h'
      exact ⟨g1, fun m => (List.mem_cons.mp m).elim e g2⟩
theorem SR.drop1 {i : Nat} (s : SR K σ ε F H) : SR K σ (st ε i none) F H := by
  cases e : gt ε i with
  | none => rw [st_none e]; exact s
  | some t =>
    obtain ⟨v, _, s1⟩ := s.take e
    exact s1.pop
theorem SR.wipe (s : SR K σ ε F H) : ∀ own : List Nat, SR K σ (Tq.wipe ε own) F H
  | [] => s
  | i :: own => (SR.wipe s own).drop1
/-- forgotten slots forgotten in the store, too -/
theorem SR.forget (s : SR K σ ε F H) {own : List Nat} (h : ∀ i ∈ own, gt ε i = none) : SR K (L2.wipe σ own) ε F H :=
  s.agree (L2.wipe_length σ own) fun i t e => wipe_out fun m => by rw [h i m] at e; cases e
theorem SR.recall {own : List Nat} (s : SR K (L2.wipe σ own) ε F H) (h : ∀ i ∈ own, gt ε i = none) : SR K σ ε F H :=
  s.agree (L2.wipe_length σ own).symm fun i t e => (wipe_out fun m => by rw [h i m] at e; cases e).symm
/-- own slots set aside -/
theorem SR.asideS : ∀ {own : List Nat} {ε : Env} {F : Fr}, SR K σ ε F H → ∃ S : VT, SR K σ (wipeS own ε) ⟨F.C, F.P, S ++ F.R⟩ H ∧
    ∀ {ε2 : Env} {G : Fr} {H' : Hp}, SR K σ ε2 ⟨G.C, G.P, S ++ G.R⟩ H' → SR K σ (backS own ε ε2) G H'
  | [], ε, F, s => ⟨[], s, fun s' => s'⟩
  | i :: own, ε, F, s => by
    cases e : gt ε i with
    | none =>
      have s1 : SR K σ (st ε i none) F H := s.drop1
      obtain ⟨S, h1, h2⟩ := SR.asideS (own := own) s1
      refine ⟨S, h1, fun {ε2 G H'} s' => ?_⟩
      show SR K σ (st (backS own (st ε i none) ε2) i (gt ε i)) G H'
      rw [e]
      exact (h2 s').drop1
    | some t =>
      obtain ⟨v, e1, s1⟩ := s.take e
      obtain ⟨S, h1, h2⟩ := SR.asideS (own := own) s1
      refine ⟨S ++ [(v, t)], ?_, fun {ε2 G H'} s' => ?_⟩
      · show SR K σ (wipeS own (st ε i none)) ⟨F.C, F.P, (S ++ [(v, t)]) ++ F.R⟩ H
        rw [List.append_assoc]
        exact h1
      · show SR K σ (st (backS own (st ε i none) ε2) i (gt ε i)) G H'
        rw [e]
        have s2 : SR K σ ε2 ⟨(G.push (v, t)).C, (G.push (v, t)).P, S ++ (G.push (v, t)).R⟩ H' := by
          have : SR K σ ε2 ⟨G.C, G.P, (S ++ [(v, t)]) ++ G.R⟩ H' := s'
          rw [List.append_assoc] at this
          exact this
        exact (h2 s2).fill e1
theorem gt_wipeS : ∀ {own : List Nat} {ε : Env}, ∀ i ∈ own, gt (wipeS own ε) i = none
  | [], _, i, h => by simp at h
  | j :: own, ε, i, h => by
    show gt (wipeS own (st ε j none)) i = none
    by_cases m : i ∈ own
    · exact gt_wipeS i m
    · have e : i = j := by
        rcases List.mem_cons.mp h with e | e
        · exact e
        · exact absurd e m
      subst e
      have keep : ∀ {own : List Nat} {ε : Env}, gt ε i = none → gt (wipeS own ε) i = none := by
        intro own
        induction own with
        | nil => intro ε h; exact h
        | cons k own ih =>
          intro ε h
          refine ih ?_
          by_cases e : i = k
          · subst e
            cases hg : gt (st ε i none) i with
            | none => rfl
            | some t =>
              have hl := gt_lt hg
              rw [st_length] at hl
              rw [gt_st_same hl] at hg; cases hg
          · rw [gt_st_ne e]; exact h
      refine keep ?_
      cases hg : gt (st ε i none) i with
      | none => rfl
      | some t =>
        have hl := gt_lt hg
        rw [st_length] at hl
        rw [gt_st_same hl] at hg; cases hg
theorem gt_wipe_own {own : List Nat} {ε : Env} : ∀ i ∈ own, gt (Tq.wipe ε own) i = none := fun i m => by
  cases e : gt (Tq.wipe ε own) i with
  | none => rfl
  | some t => exact absurd m (gt_wipe e).2
/-- pins of the frame -/
def Fr.pin (F : Fr) (p : Pin) : Fr := ⟨F.C, p :: F.P, F.R⟩
theorem SR.unpin {p : Pin} (s : SR K σ ε (F.pin p) H) : SR K σ ε F H := ⟨s.al, s.ch, Sat.fewP (P' := [p]) s.sat⟩
theorem SR.pinned {p : Pin} (s : SR K σ ε F H) (e : H p.1 = some p.2) (h : p.1 ∈ F.C) : SR K σ ε (F.pin p) H := by
  refine ⟨s.al, s.ch, ?_⟩
  obtain ⟨A, r, nd, hP⟩ := s.sat
  refine ⟨A, r, nd, fun q hq => ?_⟩
  rcases List.mem_cons.mp hq with rfl | hq
  · exact ⟨e, fun m => (List.nodup_append.mp nd).2.2 _ h _ m rfl⟩
  · exact hP q hq
theorem SR.fact {p : Pin} (s : SR K σ ε (F.pin p) H) : H p.1 = some p.2 := by
  obtain ⟨A, r, nd, hP⟩ := s.sat
  exact (hP p List.mem_cons_self).1
end
def pinL (D : Addr) (acc : VT) : Pin := ⟨D, .lst (acc.map (·.1)), rfl⟩
def fLc (own : List Nat) (tg : Tg) (fi : Env → R (List T)) (fc : Env → R Bool) (fe : Env → R T) (ε : Env) : R T := bnd (fi ε) fun xs ε1 => if xs.length ≤ LL then
      bnd (lcL tg own fc fe xs [] (wipeS own ε1)) fun ts ε2 => .ok (.lst true ts) (backS own ε1 ε2) else .no
theorem lcL_inv {tg : Tg} {own : List Nat} {fc : Env → R Bool} {fe : Env → R T} {x : T} {xs acc ts : List T} {ε ε' : Env} (h : lcL tg own fc fe (x :: xs) acc ε = .ok ts ε') :
    ∃ ε1 b ε2, asg tg x ε = some ε1 ∧ fc ε1 = .ok b ε2 ∧ if b = true then ∃ t ε3, fe ε2 = .ok t ε3 ∧ lcL tg own fc fe xs (acc ++ [t]) (Tq.wipe ε3 own) = .ok ts ε' else lcL tg own fc fe xs acc (Tq.wipe ε2 own) = .ok ts ε' := by
  unfold lcL at h
  cases h1 : asg tg x ε with
  | none => simp [h1] at h
  | some ε1 =>
    simp only [h1] at h
    obtain ⟨b, ε2, h2, h⟩ := bnd_inv h
    refine ⟨ε1, b, ε2, rfl, h2, ?_⟩
    cases b with
    | true =>
      obtain ⟨t, ε3, h3, h⟩ := bnd_inv h
      exact ⟨t, ε3, h3, h⟩
    | false => exact h
section
variable {K : PySem.W.Frag}
/-- the reading of a comprehension -/
theorem read_lc {own : List Nat} {tg : Tg} {fi : Env → R (List T)} {fc : Env → R Bool} {fe : Env → R T} {σ : L2.St} {H : Hp} {Q : VK} {S : Nat → Prop} (hS : ∀ i, S i → i ∈ own) (w : tE K (fLc own tg fi fc fe) σ H Q) :
    tLc (tIt K fi) (tG K S tg) (tT K fc) (tE K fe) own σ H Q := by
  obtain ⟨ε, F, t, ε', s, e, k⟩ := w
  obtain ⟨ts, ε1, h1, e⟩ := bnd_inv e
  by_cases hLL : ¬ ts.length ≤ LL
  · rw [if_neg hLL] at e; cases e
  have hLL : ts.length ≤ LL := Decidable.not_not.mp hLL
  rw [if_pos hLL] at e
  obtain ⟨us, ε2, h2, e⟩ := bnd_inv e
  cases e
  refine ⟨ε, F, ts, ε1, s, h1, fun J H1 P' ws s1 wk D hD => ?_⟩
  obtain ⟨Sv, s2, hback⟩ := s1.asideS (own := own)
  -- the frame of a turn: the new list held open
  let G : VT → Fr := fun acc => ⟨D :: F.C, P' ++ F.P, acc ++ (Sv ++ (ws ++ F.R))⟩
  have hPD : ∀ p ∈ P' ++ F.P, p.1 ≠ D := fun p hp e => by
    obtain ⟨A, r, nd, hP⟩ := s1.sat
    have := (hP p hp).1
    rw [e, hD] at this; cases this
  let Wn : Nat → Nat → Hp → Prop := fun i m H => ∃ ε acc, SR K (L2.wipe σ own) ε (G acc) H ∧ H D = some (.lst (acc.map (·.1))) ∧ i + m = ts.length ∧ acc.length ≤ i ∧ (∀ j ∈ own, gt ε j = none) ∧ lcL tg own fc fe (ts.drop i) (acc.map (·.2)) ε = .ok us ε2
  refine ⟨Wn, ⟨ts.length, wipeS own ε1, [], ?_, upd_same, by simp, Nat.zero_le _, gt_wipeS, h2⟩, ?_⟩
  · -- the new list, opened at once
    have q := Sat.newLst (L1 := []) (L := (Sv ++ (ws ++ F.R)) ++ slots σ (wipeS own ε1)) s2.sat s2.ch hD
    obtain ⟨a, L1, ea, el, hl, q2, _, _⟩ := q.openL
    have eD : D = a := V.ref.inj ea
    subst eD
    have : L1 = [] := List.map_eq_nil_iff.mp el
    subst this
    refine SR.forget ⟨s2.al, fun b hb => ?_, q2⟩ gt_wipeS
    rcases List.mem_cons.mp hb with rfl | hb
    · rw [upd_same]; exact fun z => nomatch z
    · exact s2.ch.upd b hb
  intro i m H ⟨ε, acc, s3, hH, hm, hacc, hown, hl⟩
  have hf : Facts H P' := Sat.facts (P := F.P) s3.sat
  by_cases hlt : i < ts.length
  · refine .inr ⟨wk.go i H hf hlt, ?_⟩
    have ed : ts.drop i = ts[i] :: ts.drop (i + 1) := List.drop_eq_getElem_cons hlt
    rw [ed] at hl
    obtain ⟨ε3, b, ε4, a1, a2, a3⟩ := lcL_inv hl
    refine ⟨fun H' => ∃ m', m' < m ∧ Wn (i + 1) m' H', fun H' h => h, fun x H' y => ?_⟩
    obtain ⟨t, e1, hh⟩ := wk.yld i H x H' hf hlt y
    rw [List.getElem?_eq_getElem hlt] at e1
    cases e1
    have s4 := s3.pinned (p := pinL D acc) hH List.mem_cons_self
    obtain ⟨s5, c5⟩ := hh _ _ _ s4.sat s4.ch (fun p hp => List.mem_append_left _ (List.mem_append_right _ (List.mem_append_right _ (List.mem_append_left _ hp))))
    refine ⟨ε, (G acc).pin (pinL D acc), _, ε3, ⟨s4.al, c5, s5⟩, a1, fun σ2 s6 si => ?_⟩
    have ew : L2.wipe σ2 own = L2.wipe σ own := by
      have hlen : (L2.wipe σ2 own).length = (L2.wipe σ own).length := by rw [wipe_length, si.len]
      have dup : ∀ (τ : L2.St) (j : Nat), j ∈ own → ∀ x, (L2.wipe τ own)[j]? ≠ some (some x) := fun τ j m x e => (wipe_some e).2 m
      refine List.ext_getElem? fun j => ?_
      by_cases m : j ∈ own
      · by_cases hj : j < (L2.wipe σ own).length
        · have g : ∀ (τ : L2.St), j < (L2.wipe τ own).length → (L2.wipe τ own)[j]? = some none := fun τ hj => by
            have := dup τ j m
            rw [List.getElem?_eq_getElem hj] at this ⊢
            cases hx : (L2.wipe τ own)[j] with
            | none => rfl
            | some x => exact absurd (by rw [hx]) (this x)
          rw [g σ2 (by rw [hlen]; exact hj), g σ hj]
        · rw [List.getElem?_eq_none (by rw [hlen]; omega), List.getElem?_eq_none (by omega)]
      · rw [wipe_out m, si.rest j (fun z => m (hS j z))]
    refine ⟨ew, ?_⟩
    have back : ∀ {ε : Env} {F : Fr} {H : Hp}, SR K σ2 ε F H → SR K (L2.wipe σ own) (Tq.wipe ε own) F H := fun {ε F H} s => by
      have := (s.wipe own).forget gt_wipe_own
      rw [ew] at this
      exact this
    refine ⟨ε3, _, b, ε4, s6, a2, fun H3 s7 => ?_⟩
    cases b with
    | false =>
      rw [if_neg Bool.false_ne_true] at a3 ⊢
      exact ⟨m - 1, by omega, _, acc, back s7.unpin, s7.fact, by omega, by omega, gt_wipe_own, a3⟩
    | true =>
      rw [if_pos rfl] at a3 ⊢
      obtain ⟨t, ε5, a4, a5⟩ := a3
      refine ⟨ε4, _, t, ε5, s7, a4, fun v H4 s8 => ⟨acc.map (·.1), (show H4 D = some (.lst (acc.map (·.1))) from SR.fact (F := (G acc).push (v, t)) (p := pinL D acc) s8), ?_, m - 1, by omega, Tq.wipe ε5 own, acc ++ [(v, t)], ?_, ?_, by omega, ?_, gt_wipe_own, ?_⟩⟩
      · rw [List.length_map, sizeLine_eq]
        have : LL = 16777216 := rfl
        omega
      · have s9 : SR K σ2 ε5 ((G acc).push (v, t)) H4 := SR.unpin (F := (G acc).push (v, t)) (p := pinL D acc) s8
        have s10 := back s9
        have hw := Sat.write (C := F.C) (P := P' ++ F.P) (o := .lst (acc.map (·.1) ++ [v])) (s := s10.sat) (show H4 D = some (.lst (acc.map (·.1))) from SR.fact (F := (G acc).push (v, t)) (p := pinL D acc) s8) (fun _ z => nomatch z) hPD
        refine ⟨s10.al, s10.ch.upd, hw.perm ?_⟩
        show (((v, t) :: (acc ++ (Sv ++ (ws ++ F.R)))) ++ slots (L2.wipe σ own) (Tq.wipe ε5 own)).Perm (((acc ++ [(v, t)]) ++ (Sv ++ (ws ++ F.R))) ++ slots (L2.wipe σ own) (Tq.wipe ε5 own))
        refine List.Perm.append_right _ ?_
        rw [List.append_assoc]
        exact List.perm_middle.symm
      · rw [upd_same, List.map_append]; rfl
      · rw [List.length_append]; simp; omega
      · rw [List.map_append]; exact a5
  · refine .inl ⟨wk.stop i H hf (by omega), ?_⟩
    have : ts.drop i = [] := List.drop_eq_nil_iff.mpr (by omega)
    rw [this] at hl
    have hl' : R.ok (acc.map (·.2)) ε = .ok us ε2 := hl
    cases hl'
    refine k _ _ ?_
    have s4 := s3.recall hown
    -- the list closed
    have q : Sat K H (D :: F.C) (P' ++ F.P) (acc ++ ((Sv ++ (ws ++ F.R)) ++ slots σ ε2)) := by
      have z : Sat K H (D :: F.C) (P' ++ F.P) ((acc ++ (Sv ++ (ws ++ F.R))) ++ slots σ ε2) := s4.sat
      rw [List.append_assoc] at z; exact z
    have q2 := q.closeL hH hPD
    have s5 : SR K σ ε2 ⟨F.C, P' ++ F.P, Sv ++ ((V.ref D, T.lst true (acc.map (·.2))) :: (ws ++ F.R))⟩ H := ⟨s4.al, fun b hb => s4.ch b (List.mem_cons_of_mem _ hb), q2.perm (by
      show ((V.ref D, T.lst true (acc.map (·.2))) :: ((Sv ++ (ws ++ F.R)) ++ slots σ ε2)).Perm ((Sv ++ ((V.ref D, T.lst true (acc.map (·.2))) :: (ws ++ F.R))) ++ slots σ ε2)
      rw [← List.cons_append]
      exact (List.perm_middle.symm).append_right _)⟩
    have s6 := hback (G := ⟨F.C, P' ++ F.P, (V.ref D, T.lst true (acc.map (·.2))) :: (ws ++ F.R)⟩) s5
    exact (wid_of (K := K) (F := F) P' ws).srp s6
end
end Tq
end

section
set_option Elab.async false
set_option maxRecDepth 100000
set_option maxHeartbeats 4000000
/-! TLs24: enumerate of a tuple. -/
namespace Tq
open PySem PySem.Spec PyProof.Rows L2
/-- the tuple at a as it stands at each turn, each item in a new pair -/
def IteT (K : PySem.W.Frag) (a : Addr) : L2.It :=
  ⟨fun i H => ∃ (xs : List V) (x : V), SqT K H a xs ∧ xs[i]? = some x,
   fun i H v H' => ∃ T x, v = .ref T ∧ H T = none ∧ H' = upd H T (.tup [.int (i : Nat), x]) ∧ ∀ xs, SqT K H a xs → xs[i]? = some x,
   fun i H => ∃ xs : List V, SqT K H a xs ∧ i = xs.length⟩
theorem enumT_turn {P : Program} {w : World} {K : PySem.W.Frag} {elts : List Expr} {kk : Nat} {tpos : Pos} (a e it : Addr) (hai : a ≠ it) :
    Turn P w K (.Tuple elts kk tpos) (IteT K a) [e, it] e (fun i h => (∃ old, IsEnum h e it ((i : Nat) : Int) old) ∧ h.IsTupleIter it a i ∧ e ≠ it ∧ a ≠ e) where
  mem := by simp
  obj := fun i h st b hb => by
    obtain ⟨⟨old, he⟩, ⟨o, ho, _, hd⟩, _⟩ := st
    rcases (show b = e ∨ b = it by simpa using hb) with z | z
    · subst z; exact ⟨_, he, fun v q => nomatch q⟩
    · subst z; exact ⟨o, ho, fun v q => by rw [hd] at q; cases q⟩
  keep := fun i h h' st k => by
    obtain ⟨⟨old, he⟩, hi, hne⟩ := st
    exact ⟨⟨old, k e (by simp) _ he⟩, hi.at fun o q => k it (by simp) o q, hne⟩
  item := by
    intro X hP hw hK hc i pins s σ H E I hf st hg
    subst hP hw hK
    obtain ⟨⟨old, he⟩, hit, hne, hae⟩ := st
    obtain ⟨xs, x, hq, hx⟩ := hg
    obtain ⟨its, rv, p, hz⟩ := I.tuple hq
    obtain ⟨u, hu, ru⟩ := rv.get hx
    have hel : e < s.heap.objs.size := Heap.lt_size he
    have hil : it < s.heap.objs.size := by obtain ⟨_, q, _⟩ := hit; exact Heap.lt_size q
    have hi' : i < its.length := (List.getElem?_eq_some_iff.mp hu).1
    have DD := Draws.tuple (prog := X.prog) (w := X.w) (A := X.A.in1) (I.ok.hd hc) it a hai its.toArray
    refine wpAny_pyNext_enum_itemD DD he ⟨hit, p⟩ (by simpa using hi') hne (by simp [hne, Ne.symm hae]) fun y h' tk hy ho hst' hT hsz hk => ?_
    have ey : y = u := by
      have h1 : its[i]? = some y := by simpa using hy
      rw [hu] at h1; exact (Option.some.inj h1).symm
    subst ey
    obtain ⟨hit', _⟩ := hst'
    refine ⟨_, rfl, wpAny_letOwnedTupleGo_enum (s := { s with heap := h', toks := tk + 1 }) ho fun h'' he' sb => ?_⟩
    have hT2 : h''.get? s.heap.objs.size = some { cls := .type "tuple", data := .seq #[.int i tk, y] } := (sb.2 _ (Nat.ne_of_gt hel)).trans hT
    have new : ObjOk X.prog X.w (upd H s.heap.objs.size (.tup [.int (i : Nat), x])) h'' s.heap.objs.size (.tup [.int (i : Nat), x]) := by
      refine ⟨?_, [.int i tk, y], .cons ⟨_, rfl⟩ (.cons ru .nil), _, hT2, rfl, _, rfl⟩
      show 2 ≤ sizeLine
      decide
    have I1 : Inv X pins σ (upd H s.heap.objs.size (.tup [.int (i : Nat), x])) { s with heap := h'', toks := tk + 1 } :=
      I.turnedNew (ch := [e, it]) (fun b ob hb q => (sb.2 b fun z => hb (by simp [z])).trans (hk b ob (fun z => hb (by simp [z])) (fun z => hb (by simp [z])) q)) hf (Nat.le_refl _) new
    refine ⟨.ref s.heap.objs.size, _, I1, rfl, ⟨_, x, rfl, I.hok.fresh (Nat.le_refl _), rfl, fun ys hy => by rw [I.tuple_inj hy hq]; exact hx⟩, ⟨⟨y, ?_⟩, hit'.at fun o q => (sb.2 it (Ne.symm hne)).trans q, hne, hae⟩, fun b hb => ?_⟩
    · have e1 : ((i + 1 : Nat) : Int) = (i : Int) + 1 := by omega
      rw [e1]; exact he'
    · have hb' : b < s.heap.objs.size := by
        rcases (show b = e ∨ b = it by simpa using hb) with z | z
        · rw [z]; exact hel
        · rw [z]; exact hil
      rw [upd_ne (Nat.ne_of_lt hb')]
      exact (hf b hb).1
  done := by
    intro X hP hw hK hc i pins s σ H E I hf st hg
    subst hP hw hK
    obtain ⟨⟨old, he⟩, hit, hne, hae⟩ := st
    obtain ⟨xs, hq, hx⟩ := hg
    obtain ⟨its, rv, p, hz⟩ := I.tuple hq
    obtain ⟨f0, f1, f2, f3, f4, f5⟩ := hf it (by simp)
    subst hx
    have DD := Draws.tuple (prog := X.prog) (w := X.w) (A := X.A.in1) (I.ok.hd hc) it a hai its.toArray
    have es : its.toArray.size = xs.length := by rw [List.size_toArray, rv.length]
    rw [es] at DD
    exact wpAny_pyNext_enum_endD DD he ⟨hit, p⟩ fun h' eb => ⟨rfl, I.turned (t' := s.toks) (fun b o hb q => eb b o hb q) f0 f1 f3 f4 f5⟩
  self := fun A i s Q E st h => by
    obtain ⟨⟨_, he⟩, _⟩ := st
    exact wpAny_pyIter_enum he h

theorem enumT_made {v : Value} {o : Obj} {Hq : Heap → Prop} (B : Begins v o Hq) :
    Meets (Builtin.«enumerate.__new__» ⟨[.type "enumerate", v], []⟩) (fun _ R s => Hq s.heap ∧ R (.ok (.ret (.ref (s.heap.push o).objs.size)))
      { s with heap := (s.heap.push o).push { cls := .type "enumerate", data := .fields #[.none, .bool false, .ref s.heap.objs.size, rawInt 0, .none, .none] } }) := .of_wp fun prog w A R s h => by
  obtain ⟨hp, g, d, tk, os⟩ := s
  obtain ⟨hq, h⟩ := h
  have sub := sub_enumerate
  have step : ∀ {A' : Around} {E : Value → Shared → Prop} {Q : Value → Shared → Prop}, Q (.ref hp.objs.size) ⟨hp.push o, g, d, tk, os⟩ → wpAny (model prog w) A' (pyIter v) Q E ⟨hp, g, d, tk, os⟩ := fun q => B.iter prog w _ _ ⟨hp, g, d, tk, os⟩ _ hq q
  wp_walk using step
  refine wpAny_stack_any fun st => wpAny_pure ?_
  split
  · rename_i c _ _ _ _ _
    cases (c == Value.type "enumerate") <;> (wp_walk using step; exact ⟨_, rfl, h⟩)
  · wp_walk using step
    exact ⟨_, rfl, h⟩
theorem enumT_call {prog : Program} {w : World} {A : Around} {E : Value → Shared → Prop} {s : Shared} {t : Addr} {items : Array Value} {Q : Value → Shared → Prop} (ht : s.heap.IsTuple t items)
    (h : ∀ h', IsEnum h' (s.heap.objs.size + 1) s.heap.objs.size 0 .none → h'.IsTupleIter s.heap.objs.size t 0 → (∀ b o, s.heap.get? b = some o → h'.get? b = some o) → Q (.ref (s.heap.objs.size + 1)) { s with heap := h' }) :
    wpAny (model prog w) A (call (.type "enumerate") [.ref t]) Q E s := by
  refine callType_new F.called_enumerate (by decide) (F.typeCall_enumerate_1 _) (F.newCall_enumerate_1 _) (fun obj => F.args_object_init_2 obj _) F.entry_enumerate_new (enumT_made (begins_tuple t items)) ⟨ht, ?_⟩
  have hz : (s.heap.push { cls := .type "tuple_iterator", data := .fields #[.ref t, .int 0 0] }).objs.size = s.heap.objs.size + 1 := Heap.size_push ..
  show _ ∧ _
  rw [hz]
  have he : IsEnum ((s.heap.push { cls := .type "tuple_iterator", data := .fields #[.ref t, .int 0 0] }).push { cls := .type "enumerate", data := .fields #[.none, .bool false, .ref s.heap.objs.size, rawInt 0, .none, .none] }) (s.heap.objs.size + 1) s.heap.objs.size 0 .none := by
    have q := Heap.get?_push_size (s.heap.push { cls := .type "tuple_iterator", data := .fields #[.ref t, .int 0 0] }) (o := { cls := .type "enumerate", data := .fields #[.none, .bool false, .ref s.heap.objs.size, rawInt 0, .none, .none] }) rfl
    rw [hz] at q
    exact q
  exact ⟨⟨_, he, rfl⟩, h _ he ⟨_, Heap.get?_push_of_some _ (Heap.get?_push_size _ rfl), rfl, rfl⟩ fun b o x => Heap.get?_push_of_some _ (Heap.get?_push_of_some _ x)⟩
/-- enumerate(t), t a tuple -/
def iEnumT (K : PySem.W.Frag) (ta : TA) : TI := fun σ H R => ta σ H fun vs H1 => ∃ a xs, vs = [.ref a] ∧ SqT K H1 a xs ∧ R (IteT K a) H1
theorem pi_enumT {X : Cx} {e : Expr} {ta : TA} {p pos tpos : Pos} {elts : List Expr} {kk : Nat} (hg : Gl X "enumerate") (hm : X.mg "enumerate" = none) (ha : PA X [e] ta) (hs : starEach [e] X.env = [(false, eval e X.env)]) :
    PI X (.Tuple elts kk tpos) (.Call (.Name "enumerate" p) [e] [] pos) (iEnumT X.K ta) := by
  refine ⟨fun pins s σ H R I h => ?_⟩
  refine Call_ (ld_blt I hg hm boot_enumerate (PyProof.Rows.callWith_type1 (thn (ha.run pos pins s σ H _ I h) fun us s1 ⟨vs, H1, I1, r1, a, xs, ex, hq, q⟩ => ?_) hs rfl))
  subst ex
  obtain ⟨u, rfl, ru⟩ := vals1 r1
  cases ru
  obtain ⟨its, rv, p', hz⟩ := I1.tuple hq
  have ha' : a < s1.heap.objs.size := by obtain ⟨_, x, _⟩ := p'; exact Heap.lt_size x
  refine enumT_call p' fun h' he hit hk => wpAny_pyIter_enum he ?_
  have I2 : Inv X pins σ H1 { s1 with heap := h' } := I1.kept (t' := s1.toks) hk
  refine ⟨s1.heap.objs.size + 1, [s1.heap.objs.size + 1, s1.heap.objs.size], _, _, H1, rfl, I2, enumT_turn a (s1.heap.objs.size + 1) s1.heap.objs.size (Nat.ne_of_lt ha'), ⟨⟨.none, he⟩, hit, Nat.succ_ne_self _, Nat.ne_of_lt (Nat.lt_succ_of_lt ha')⟩, fun b hb => ?_, q⟩
  have hle : s1.heap.objs.size ≤ b := by
    rcases (show b = s1.heap.objs.size + 1 ∨ b = s1.heap.objs.size by simpa using hb) with z | z
    · rw [z]; exact Nat.le_succ _
    · rw [z]; exact Nat.le_refl _
  exact I1.fpOk hle (I1.hok.fresh hle)
end Tq
end

section
set_option Elab.async false
set_option maxRecDepth 100000
set_option maxHeartbeats 4000000
/-! TLs25: list(reversed(..)). -/
namespace Tq
open PySem PySem.Spec PyProof.Rows L2
theorem rv_len : typeLookup (.type "list_reverseiterator") "__len__" = pure none := by rw [typeLookup_type, builtinLookup_eq_fast]; kernel_rfl
theorem rv_hint : typeLookup (.type "list_reverseiterator") "__length_hint__" = pure (some (.builtin "list_reverseiterator.__length_hint__")) := by rw [typeLookup_type, builtinLookup_eq_fast]; kernel_rfl
section
variable {prog : Program} {w : World} {A : Around} {E : Value → Shared → Prop} {s : Shared} {I : Addr}
theorem rv_noRoom {Q : Bool → Shared → Prop} (hT : s.TypeIs (.ref I) "list_reverseiterator") (h : Q false s) : wpAny (model prog w) A (Builtin.List.listLengthHint (.ref I)) Q E s := by
  unfold Builtin.List.listLengthHint
  refine wpAny_bind (wpAny_specialOf hT rv_len ?_)
  show wpAny _ A (specialOf (Value.ref I) (Str.ofString "__length_hint__") >>= _) _ _ _
  refine wpAny_bind (wpAny_specialOf hT rv_hint ?_)
  generalize hid : ("list_reverseiterator.__length_hint__" : String) = id0
  wp_delta
  rw [show splitId id0 = some ("list_reverseiterator", "__length_hint__") from by subst hid; decide +kernel]
  subst hid
  refine wpAny_bind (wpAny_isInstance (T := "list_reverseiterator") (b := true) hT (by rw [isSubtype_type]; kernel_rfl) ?_)
  refine wpAny_ite_split (fun hab => absurd hab (by decide)) (fun _ => ?_)
  refine wpAny_ite_split (fun _ => ?_) (fun hab => absurd (by decide +kernel) hab)
  refine wpAny_ite_split (fun hab => absurd hab (by decide +kernel)) (fun _ => ?_)
  exact wpAny_pure h

abbrev rvP (items : Array Value) : Nat → Value → Prop := fun i v => items[items.size - 1 - i]? = some v
theorem rv_extend {R : Result → Shared → Prop} {l S : Addr} {items : Array Value} {res : Value} {c₀ : Nat} (hh : A.handled = none) (hit : s.heap.IsRevIter I l ((items.size : Int) - 1)) (hl : s.heap.IsList l items) (hne : l ≠ I) (hSI : S ≠ I) (hSl : S ≠ l) (hn : items.size ≤ sizeLine)
    (hS : s.heap.get? S = some { cls := .type "list", data := .seq #[] c₀ })
    (hR : ∀ h' tk acc c, (∀ b o, b ≠ S → b ≠ I → s.heap.get? b = some o → h'.get? b = some o) → h'.get? S = some { cls := .type "list", dict := none, data := .seq acc c, slots := #[] } → ItemsOf (rvP items) acc items.size → R (.ok (.ret res)) { s with heap := h', toks := tk }) :
    wpAny (model prog w) A.in1 (Builtin.List.listExtendWith (.ref S) (.ref I) res)
      (fun fin s' => match fin with | .done f => R (.ok f) s' | .again c' => c'.quiet = true ∧ codeAny (model prog w) A c' R s') (fun e s' => R (.error e) s') s := by
  have hT : s.TypeIs (.ref I) "list_reverseiterator" := hit.typeIs
  have W := (Walks.listRev (prog := prog) (w := w) (A := A.in1) hh I l hne items).toS
  have st0 : 0 ≤ items.size ∧ s.heap.IsRevIter I l ((items.size : Int) - 1 - ((0 : Nat) : Int)) ∧ s.heap.IsList l items := ⟨Nat.zero_le _, by simpa using hit, hl⟩
  unfold Builtin.List.listExtendWith
  refine wpAny_bind (wpAny_typeOf hT ?_)
  rw [show Builtin.List.listSameRef (.ref S) (.ref I) = false by simp [Builtin.List.listSameRef, hSI], show (Value.type "list_reverseiterator" == Value.type "list") = false by decide, show (Value.type "list_reverseiterator" == Value.type "tuple") = false by decide]
  simp only [Bool.or_false, Bool.false_eq_true, if_false]
  refine wpAny_bind (wpAny_pyIter_revIter hit ?_)
  refine wpAny_bind (wpAny_holding (rv_noRoom hT ?_))
  refine wpAny_ite_split (fun hab => absurd hab (by decide +kernel)) (fun _ => ?_)
  refine wpAny_pure ⟨plainId_quiet F.plain_extend_loop _, codeAny_extend_loopS W hn S (by simp [hSI, hSl]) res items.size 0 _ #[] c₀ rfl (Nat.zero_le _) st0 hS (ItemsOf.nil _) fun s' acc c hm hS' hacc => ?_⟩
  rw [Moved.eq_with hm]
  exact hR s'.heap s'.toks acc c (fun b o h1 h2 e => hm.heap b o (by simp [h1, h2]) e) hS' hacc
theorem rv_call {l : Addr} {items : Array Value} {Q : Value → Shared → Prop} (hh : A.handled = none) (hit : s.heap.IsRevIter I l ((items.size : Int) - 1)) (hl : s.heap.IsList l items) (hne : l ≠ I) (hn : items.size ≤ sizeLine)
    (hQ : ∀ h' tk acc c, (∀ b o, b ≠ I → s.heap.get? b = some o → h'.get? b = some o) → h'.get? s.heap.objs.size = some { cls := .type "list", dict := none, data := .seq acc c, slots := #[] } → ItemsOf (rvP items) acc items.size → Q (.ref s.heap.objs.size) { s with heap := h', toks := tk }) :
    wpAny (model prog w) A (call (.type "list") [.ref I]) Q E s := by
  refine callType_codes (Q₁ := fun obj s₁ => obj = .ref s.heap.objs.size ∧ s₁ = { s with heap := s.heap.push { cls := .type "list", data := .seq #[] } }) F.called_list (F.typeCall_list_1 _) F.entry_list_init (code_list_new _ ⟨rfl, rfl⟩) fun obj s₁ ⟨e1, e2⟩ => ?_
  subst e1 e2
  have hIl : I < s.heap.objs.size := by obtain ⟨_, e, _⟩ := hit; exact Heap.lt_size e
  have hll : l < s.heap.objs.size := by obtain ⟨_, e, _⟩ := hl; exact Heap.lt_size e
  have hS : (s.heap.push { cls := .type "list", data := .seq #[] }).get? s.heap.objs.size = some { cls := .type "list", data := .seq #[] } := Heap.get?_push_size _ rfl
  refine ⟨⟨_, hS, rfl⟩, F.args_list_init_2 _ _, ?_⟩
  show wpAny _ A.in1.in1 (do let old ← Builtin.List.listItems (.ref s.heap.objs.size); Builtin.List.listUpdate (.ref s.heap.objs.size) (fun _ => #[]); letGo old.toList.reverse; Builtin.List.listExtendWith (.ref s.heap.objs.size) (.ref I) .none) _ _ _
  refine wpAny_bind ?_
  unfold Builtin.List.listItems
  refine wpAny_bind (wpAny_seqItems hS rfl (wpAny_pure ?_))
  show wpAny _ A.in1.in1 (updateSeq s.heap.objs.size (fun _ => #[]) >>= fun _ => letGo (#[] : Array Value).toList.reverse >>= fun _ => Builtin.List.listExtendWith (.ref s.heap.objs.size) (.ref I) .none) _ _ _
  refine wpAny_bind (wpAny_updateSeq hS rfl ?_)
  have hS2 := Heap.get?_update_self (Obj.mapSeq (fun _ => (#[] : Array Value))) hS rfl
  have oth : ∀ b o, b ≠ s.heap.objs.size → s.heap.get? b = some o → ((s.heap.push { cls := .type "list", data := .seq #[] }).update s.heap.objs.size (Obj.mapSeq (fun _ => (#[] : Array Value)))).get? b = some o := fun b o hb e =>
    (Heap.get?_update_other _ _ (Ne.symm hb)).trans (Heap.get?_push_of_some _ e)
  refine wpAny_bind (wpAny_letGo ?_)
  refine rv_extend (A := A.in1) hh (hit.at fun o e => oth I o (Nat.ne_of_lt hIl) e) (hl.at fun o e => oth l o (Nat.ne_of_lt hll) e) hne (Nat.ne_of_gt hIl) (Nat.ne_of_gt hll) hn hS2 fun h' tk acc c hk hS' hacc => ?_
  exact ⟨rfl, hQ h' tk acc c (fun b o hb e => hk b o (Nat.ne_of_lt (Heap.lt_size e)) hb (oth b o (Nat.ne_of_lt (Heap.lt_size e)) e)) hS' hacc⟩
end
/-- list(reversed(l)) -/
def tLstRev (K : PySem.W.Frag) (te : TE) : TE := fun σ H Q => te σ H fun v H1 => ∃ a xs, v = .ref a ∧ SqL K H1 a xs ∧ ∀ p, H1 p = none → Q (.ref p) (upd H1 p (.lst xs.reverse))
theorem pe_lstRev {X : Cx} {e : Expr} {te : TE} {p p2 pos pos2 : Pos} (hc : X.calm = true) (hg : Gl X "list") (hm : X.mg "list" = none) (hg2 : Gl X "reversed") (hm2 : X.mg "reversed" = none) (he : PE X e te) (hs : isStar e = false) :
    PE X (.Call (.Name "list" p) [.Call (.Name "reversed" p2) [e] [] pos2] [] pos) (tLstRev X.K te) := by
  refine ⟨fun pins s σ H Q I h => ?_⟩
  refine wpAny_Call_Name_kw (ld_blt I hg hm boot_list ?_ (by decide) (by decide))
  refine PyProof.Rows.callWith_type1 (args_cons (Call_ (ld_blt I hg2 hm2 PyProof.Rows.boot_reversed (PyProof.Rows.callWith_type1 (args_cons (thn (he.run pins s σ H _ I h) fun u s1 ⟨v, H1, I1, r1, a, xs, ev, hq, q⟩ => args_nil ?_) (star1 hs)) (star1 hs) rfl))) rfl) rfl rfl
  subst ev
  obtain rfl : u = Value.ref a := r1
  obtain ⟨its, rv, pl, hz⟩ := I1.list hq
  have hl := rv.length
  refine call_reversed_list pl.isList (args_nil ?_)
  have I2 : Inv X pins σ H1 { s1 with heap := s1.heap.push (revObj a ((its.toArray.size : Int) - 1)) } := I1.kept (t' := s1.toks) fun b o e => Heap.get?_push_of_some _ e
  obtain ⟨f0, f1, f2, f3, f4, f5⟩ := I1.fpOk (H' := H1) (b := s1.heap.objs.size) (Nat.le_refl _) (I1.hok.fresh (Nat.le_refl _))
  obtain ⟨ol, hol, _⟩ := id pl.isList
  have hne : a ≠ s1.heap.objs.size := Nat.ne_of_lt (Heap.lt_size hol)
  have hsz : (s1.heap.push (revObj a ((its.toArray.size : Int) - 1))).objs.size = s1.heap.objs.size + 1 := Heap.size_push ..
  refine rv_call (s := { s1 with heap := s1.heap.push (revObj a ((its.toArray.size : Int) - 1)) }) (I1.ok.hd hc) ⟨_, Heap.get?_push_size _ rfl, rfl, rfl⟩ (pl.isList.push _) hne (by rw [List.size_toArray, ← hl]; exact hz) fun h' tk acc c hk hS hi => ?_
  have F1 := I1.fpOk (H' := H1) (b := s1.heap.objs.size) (Nat.le_refl _) (I1.hok.fresh (Nat.le_refl _))
  have new : ObjOk X.prog X.w (upd H1 (s1.heap.push (revObj a ((its.toArray.size : Int) - 1))).objs.size (.lst xs.reverse)) h' (s1.heap.push (revObj a ((its.toArray.size : Int) - 1))).objs.size (.lst xs.reverse) :=
    ⟨by rw [List.length_reverse]; exact hz, acc.toList, c, RT.vals_rev rv hi, by rw [Array.toArray_toList]; exact hS⟩
  have I3 := I2.turnedNew (t' := tk) (h' := h') (ch := [s1.heap.objs.size]) (fun b o hb e => hk b o (fun z => hb (by simp [z])) e) (fun b hb => by
    have z : b = s1.heap.objs.size := by simpa using hb
    rw [z]; exact F1) (Nat.le_refl _) new
  exact ⟨.ref _, _, I3, rfl, q _ (I2.hok.fresh (Nat.le_refl _))⟩
end Tq
end

section
set_option Elab.async false
set_option maxRecDepth 100000
set_option maxHeartbeats 4000000
/-! TLs26: what is walked. -/
namespace Tq
open PySem PySem.Spec PyProof.Rows L2
section
variable {K : PySem.W.Frag} {σ : L2.St} {ε : Env} {F : Fr} {H : Hp} {C : List Addr} {P : List Pin} {L : VT} {v : V} {t : T} {xs : List T}
theorem owned_not {W : Addr → Prop} {vs : List V} {ts : List T} {B : List Addr} (q : Reps K H W vs ts B) : ∀ b ∈ B, ∀ us, H b ≠ some (.tup us) := by
  refine Reps.rec (H := H) (W := W) (motive_1 := fun _ _ B _ => ∀ b ∈ B, ∀ us, H b ≠ some (.tup us)) (motive_2 := fun _ _ B _ => ∀ b ∈ B, ∀ us, H b ≠ some (.tup us)) ?_ ?_ ?_ ?_ ?_ ?_ ?_ ?_ ?_ ?_ ?_ ?_ ?_ ?_ ?_ q
  · intro b hb; cases hb
  · intro _ b hb; cases hb
  · intro _ b hb; cases hb
  · intro _ b hb; cases hb
  · intro _ _ _ _ _ _ ih; exact ih
  · intro a _ _ _ e _ ih b hb us
    rcases List.mem_cons.mp hb with rfl | hb
    · rw [e]; exact fun z => nomatch z
    · exact ih b hb us
  · intro _ _ _ _ _ _ _ b hb; cases hb
  · intro _ _ _ _ _ _ _ b hb; cases hb
  · intro _ _ _ _ _ _ b hb; cases hb
  · intro a _ _ _ e _ _ ih b hb us
    rcases List.mem_cons.mp hb with rfl | hb
    · rw [e]; exact fun z => nomatch z
    · exact ih b hb us
  · intro a _ _ _ e _ _ ih b hb us
    rcases List.mem_cons.mp hb with rfl | hb
    · rw [e]; exact fun z => nomatch z
    · exact ih b hb us
  · intro _ _ _ _ _ _ _ _ b hb; cases hb
  · intro _ _ _ _ _ _ _ _ b hb; cases hb
  · intro b hb; cases hb
  · intro _ _ _ _ _ _ _ _ i1 i2 b hb us
    rcases List.mem_append.mp hb with hb | hb
    · exact i1 b hb us
    · exact i2 b hb us
/-- a shared list, a tuple pinned, its items shared -/
theorem Sat.pinSeq (s : Sat K H C P ((v, t) :: L)) (e : seqF t = some xs) : ∃ (a : Addr) (L1 : VT) (o : Pin), v = .ref a ∧ L1.map (·.2) = xs ∧ Sat K H C (o :: P) (L1 ++ ((v, t.frz) :: L)) ∧
    ((o = ⟨a, .lst (L1.map (·.1)), rfl⟩ ∧ ∃ q ys, t = .lst q ys) ∨ (o = ⟨a, .tup (L1.map (·.1)), rfl⟩ ∧ ∃ ys, t = .tup ys)) := by
  have s1 := s.frz
  have hs : seqOf t.frz = some xs ∧ shL xs = true := by
    cases t with
    | tup ys => cases e; exact ⟨by rw [T.frz]; rfl, shL_frz ys⟩
    | lst o ys => cases e; exact ⟨by rw [T.frz]; rfl, shL_frz ys⟩
    | _ => cases e
  obtain ⟨a, L1, ev, e2, h1, s2⟩ := s1.seqs List.mem_cons_self hs.1 hs.2
  subst ev
  cases t with
  | tup ys =>
    have h1' : H a = some (.tup (L1.map (·.1))) := h1
    refine ⟨a, L1, _, rfl, e2, ?_, .inr ⟨rfl, ys, rfl⟩⟩
    obtain ⟨A, r, nd, hP⟩ := s2.ex
    refine ⟨A, r, nd, fun p hp => ?_⟩
    rcases List.mem_cons.mp hp with rfl | hp
    · exact ⟨h1', fun m => owned_not r _ m _ h1'⟩
    · exact hP p hp
  | lst o ys =>
    have h1' : H a = some (.lst (L1.map (·.1))) := h1
    refine ⟨a, L1, _, rfl, e2, ?_, .inl ⟨rfl, o, ys, rfl⟩⟩
    obtain ⟨A, B, r, nd, hP, q⟩ := s2.at (v := V.ref a) (t := T.frz (.lst o ys)) (List.mem_append_right _ List.mem_cons_self)
    refine ⟨A, r, nd, fun p hp => ?_⟩
    rcases List.mem_cons.mp hp with rfl | hp
    · refine ⟨h1', fun m => ?_⟩
      rw [T.frz] at q
      cases q with
      | lst _ n _ => exact n (List.mem_append_right _ m)
    · exact hP p hp
  | _ => cases e
theorem frz_items (e : seqF t = some xs) : shL xs = true := by
  cases t with
  | tup ys => cases e; exact shL_frz ys
  | lst o ys => cases e; exact shL_frz ys
  | _ => cases e
theorem shL_at {i : Nat} {t : T} : ∀ {xs : List T} {i : Nat}, shL xs = true → xs[i]? = some t → t.sh = true
  | [], i, _, e => by simp at e
  | x :: xs, 0, h, e => by simp at e; subst e; exact (shL_cons.mp h).1
  | x :: xs, i + 1, h, e => shL_at (i := i) (shL_cons.mp h).2 (by simpa using e)
/-- an iterator that hands out what stands, turn by turn -/
theorem wk_still {J : L2.It} {P' : List Pin} {ws : VT} {L1 : VT} (hs : shL (L1.map (·.2)) = true) (hm : ∀ p ∈ L1, p ∈ ws) (go : ∀ i H, Facts H P' → i < L1.length → J.go i H) (yld : ∀ i H x H', Facts H P' → i < L1.length → J.yld i H x H' → H' = H ∧ (L1.map (·.1))[i]? = some x)
    (stop : ∀ H, Facts H P' → J.stop L1.length H) : Wk K J P' ws (L1.map (·.2)) := by
  refine ⟨fun i H f hi => go i H f (by simpa using hi), fun i H x H' f hi y => ?_, fun i H f e => by rw [e, List.length_map]; exact stop H f⟩
  have hi' : i < L1.length := by simpa using hi
  obtain ⟨e1, e2⟩ := yld i H x H' f hi' y
  subst e1
  rw [List.getElem?_map, List.getElem?_eq_getElem hi'] at e2
  cases e2
  refine ⟨L1[i].2, by rw [List.getElem?_map, List.getElem?_eq_getElem hi']; rfl, fun C P L s c hw => ⟨?_, c⟩⟩
  refine s.copy (hw _ (hm _ (List.getElem_mem hi'))) (shL_at (i := i) hs (by rw [List.getElem?_map, List.getElem?_eq_getElem hi']; rfl))
end
section
variable {X : Cx} {tg : Expr} {e e2 : Expr} {p pos tpos : Pos} {f f' : Env → R T} {ir jr : E}
theorem pi_or {it : Expr} {w w' : TI} (h : PI X tg it w) (h' : PI X tg it w') : PI X tg it (fun σ H R => w σ H R ∨ w' σ H R) :=
  ⟨fun pins s σ H R I q => q.elim (h.run pins s σ H R I) (h'.run pins s σ H R I)⟩

/-- the state with a sequence on top held for a walk -/
theorem SR.walk {K : PySem.W.Frag} {σ : L2.St} {ε : Env} {F : Fr} {H : Hp} {v : V} {t : T} {xs : List T} (s : SR K σ ε (F.push (v, t)) H) (e : seqF t = some xs) : ∃ (a : Addr) (L1 : VT) (o : Pin), v = .ref a ∧ L1.map (·.2) = xs ∧ SR K σ ε ⟨F.C, [o] ++ F.P, L1 ++ F.R⟩ H ∧
    ((o = ⟨a, .lst (L1.map (·.1)), rfl⟩ ∧ ∃ q ys, t = .lst q ys) ∨ (o = ⟨a, .tup (L1.map (·.1)), rfl⟩ ∧ ∃ ys, t = .tup ys)) := by
  obtain ⟨a, L1, o, ev, e1, s1, h⟩ := Sat.pinSeq (L := F.R ++ slots σ ε) s.sat e
  refine ⟨a, L1, o, ev, e1, ⟨s.al, s.ch, ?_⟩, h⟩
  have q : Sat K H F.C (o :: F.P) (L1 ++ ((v, t.frz) :: (F.R ++ slots σ ε))) := s1
  have q2 := (q.perm List.perm_middle).drop
  show Sat K H F.C (o :: F.P) ((L1 ++ F.R) ++ slots σ ε)
  rw [List.append_assoc]
  exact q2
def fSeqL (f : Env → R T) (ε : Env) : R (List T) := bnd (f ε) fun t ε1 => ofO (itemsOf t) ε1
/-- a list, a tuple -/
theorem read_list {K : PySem.W.Frag} {σ : L2.St} {H : Hp} {RR : L2.It → Hp → Prop} {g : Env → R T} {h : T → Option (List T)} (hh : ∀ t xs, h t = some xs → seqF t = some xs)
    (w : tIt K (fun ε => bnd (g ε) fun t ε1 => ofO (h t) ε1) σ H RR) : (iList K (tE K g) σ H RR ∨ iTup K (tE K g) σ H RR) := by
  obtain ⟨ε, F, ts, ε', s, e, k⟩ := w
  obtain ⟨t, ε1, h1, e⟩ := bnd_inv e
  obtain ⟨e2, rfl⟩ := ofO_inv e
  have e3 := hh t ts e2
  have hs := frz_items e3
  have cl : ∀ {v : V} {H1 : Hp}, SR K σ ε' (F.push (v, t)) H1 → ∃ (a : Addr) (L1 : VT) (o : Pin), v = .ref a ∧ L1.map (·.2) = ts ∧ SR K σ ε' ⟨F.C, [o] ++ F.P, L1 ++ F.R⟩ H1 ∧ ((o = ⟨a, .lst (L1.map (·.1)), rfl⟩ ∧ ∃ q ys, t = .lst q ys) ∨ (o = ⟨a, .tup (L1.map (·.1)), rfl⟩ ∧ ∃ ys, t = .tup ys)) := fun s1 => s1.walk e3
  cases t with
  | lst o ys =>
    refine .inl ⟨ε, F, _, ε', s, h1, fun v H1 s1 => ?_⟩
    obtain ⟨a, L1, o, rfl, rfl, s2, ⟨rfl, _⟩ | ⟨_, ys, e4⟩⟩ := cl s1
    · have fct : ∀ {H : Hp}, Facts H [⟨a, HO.lst (L1.map (·.1)), rfl⟩] → H a = some (.lst (L1.map (·.1))) := fun f => f _ (List.mem_singleton.mpr rfl)
      refine ⟨a, rfl, ⟨_, SqL.of (fct (Sat.facts (P := F.P) s2.sat))⟩, k _ _ _ _ s2 (wk_still hs (fun p hp => hp) (fun i H f hi => ?_) (fun i H x H' f hi y => ?_) fun H f => ?_)⟩
      · exact ⟨_, _, SqL.of (fct f), List.getElem?_eq_getElem (by simpa using hi)⟩
      · exact ⟨y.1, y.2 _ (SqL.of (fct f))⟩
      · exact ⟨_, SqL.of (fct f), by simp⟩
    · cases e4
  | tup ys =>
    refine .inr ⟨ε, F, _, ε', s, h1, fun v H1 s1 => ?_⟩
    obtain ⟨a, L1, o, rfl, rfl, s2, ⟨_, q, ys, e4⟩ | ⟨rfl, _⟩⟩ := cl s1
    · cases e4
    · have fct : ∀ {H : Hp}, Facts H [⟨a, HO.tup (L1.map (·.1)), rfl⟩] → H a = some (.tup (L1.map (·.1))) := fun f => f _ (List.mem_singleton.mpr rfl)
      refine ⟨a, rfl, ⟨_, SqT.of (fct (Sat.facts (P := F.P) s2.sat))⟩, k _ _ _ _ s2 (wk_still hs (fun p hp => hp) (fun i H f hi => ?_) (fun i H x H' f hi y => ?_) fun H f => ?_)⟩
      · exact ⟨_, _, SqT.of (fct f), List.getElem?_eq_getElem (by simpa using hi)⟩
      · exact ⟨y.1, y.2 _ (SqT.of (fct f))⟩
      · exact ⟨_, SqT.of (fct f), by simp⟩
  | _ => cases e3
/-! ranges -/
theorem rngL_len (lo : Int) (n : Nat) (c : Int) : (rngL lo n c).length = n := by unfold rngL; simp
theorem rngL_at {lo c : Int} {n i : Nat} (h : i < n) : (rngL lo n c)[i]? = some (.int (lo + (i : Int) * c)) := by unfold rngL; simp [h]
theorem wk_ints {K : PySem.W.Frag} {J : L2.It} {lo c : Int} {n : Nat} (go : ∀ i H, i < n → J.go i H) (yld : ∀ i H x H', i < n → J.yld i H x H' → H' = H ∧ x = .int (lo + (i : Int) * c)) (stop : ∀ H, J.stop n H) : Wk K J [] [] (rngL lo n c) := by
  refine ⟨fun i H f hi => go i H (by rw [rngL_len] at hi; exact hi), fun i H x H' f hi y => ?_, fun i H f e => by rw [e, rngL_len]; exact stop H⟩
  rw [rngL_len] at hi
  obtain ⟨e1, e2⟩ := yld i H x H' hi y
  subst e1 e2
  exact ⟨_, rngL_at hi, fun C P L s c hw => ⟨s.int _, c⟩⟩
theorem rng_inv {lo hi : Int} {ts : List T} (h : rng lo hi = some ts) : ts = rngL lo (hi - lo).toNat 1 ∧ -(2 ^ 62) < lo ∧ lo < 2 ^ 62 ∧ -(2 ^ 62) < hi ∧ hi < 2 ^ 62 ∧ hi - lo ≤ LL := by
  unfold rng at h
  split at h
  · rename_i hh
    cases h
    unfold rngOk at hh
    simp only [Bool.and_eq_true, decide_eq_true_eq] at hh
    exact ⟨rfl, hh.1.1.1.1, hh.1.1.1.2, hh.1.1.2, hh.1.2, hh.2⟩
  · cases h
theorem rngD_inv {lo hi : Int} {ts : List T} (h : rngD lo hi = some ts) : ts = rngL lo (lo - hi).toNat (-1) ∧ -(2 ^ 62) < hi ∧ hi < 2 ^ 62 ∧ -(2 ^ 62) < lo ∧ lo < 2 ^ 62 := by
  unfold rngD at h
  split at h
  · rename_i hh
    cases h
    unfold rngOk at hh
    simp only [Bool.and_eq_true, decide_eq_true_eq] at hh
    exact ⟨rfl, hh.1.1.1.1, hh.1.1.1.2, hh.1.1.2, hh.1.2⟩
  · cases h
variable {a b c : Expr}
def fRng1 (f : Env → R T) (ε : Env) : R (List T) := bnd (f ε) fun t ε1 => match t with
    | .int n => ofO (rng 0 n) ε1
    | _ => .no
def fRng2 (f f' : Env → R T) (ε : Env) : R (List T) := bnd (f ε) fun t ε1 => bnd (f' ε1) fun u ε2 => match t, u with
    | .int m, .int n => ofO (rng m n) ε2
    | _, _ => .no
def fRng3 (f f' f2 : Env → R T) (ε : Env) : R (List T) := bnd (f ε) fun t ε1 => bnd (f' ε1) fun u ε2 => bnd (f2 ε2) fun v ε3 => match t, u, v with
    | .int m, .int n, .int (-1) => ofO (rngD m n) ε3
    | _, _, _ => .no
theorem pi_rng1 (hg : Gl X "range") (hm : X.mg "range" = none) (ha : PE X a (tE X.K f)) (hs : isStar a = false) : PI X tg (.Call (.Name "range" p) [a] [] pos) (tIt X.K (fRng1 f)) :=
  pi_imp (pi_range1 hg hm (pa_cons ha pa_nil (star1 hs)) (star1 hs)) fun σ H R ⟨ε, F, ts, ε', s, e, k⟩ => by
    obtain ⟨t, ε1, h1, e⟩ := bnd_inv e
    cases t with
    | int n =>
      obtain ⟨e2, rfl⟩ := ofO_inv e
      obtain ⟨rfl, a1, a2, a3, a4, _⟩ := rng_inv e2
      refine ⟨ε, F, _, _, s, h1, fun v H1 s1 => ?_⟩
      obtain rfl := s1.sat.isInt List.mem_cons_self
      refine ⟨n, rfl, by omega, by omega, k _ _ [] [] s1.pop ?_⟩
      have ez : (n - 0).toNat = n.toNat := by rw [Int.sub_zero]
      rw [ez]
      exact wk_ints (fun i H hi => hi) (fun i H x H' hi y => ⟨y.1, by rw [y.2, Int.mul_one]⟩) fun H => Nat.le_refl _
    | _ => cases e
theorem pi_rng2 (hg : Gl X "range") (hm : X.mg "range" = none) (ha : PE X a (tE X.K f)) (hb : PE X b (tE X.K f')) (hs : isStar a = false) (hs2 : isStar b = false) : PI X tg (.Call (.Name "range" p) [a, b] [] pos) (tIt X.K (fRng2 f f')) :=
  pi_imp (pi_range2 hg hm (pa_cons ha (pa_cons hb pa_nil (star1 hs2)) (star1 hs)) (by rw [star1 hs, star1 hs2]; rfl) (star1 hs2)) fun σ H R ⟨ε, F, ts, ε', s, e, k⟩ => by
    obtain ⟨t, ε1, h1, e⟩ := bnd_inv e
    obtain ⟨u, ε2, h2, e⟩ := bnd_inv e
    cases t with
    | int m =>
      cases u with
      | int n =>
        obtain ⟨e2, rfl⟩ := ofO_inv e
        obtain ⟨rfl, a1, a2, a3, a4, _⟩ := rng_inv e2
        refine ⟨ε, F, _, ε1, s, h1, fun v H1 s1 => ⟨ε1, _, _, _, s1, h2, fun w H2 s2 => ?_⟩⟩
        obtain rfl := s2.sat.isInt (i := n) List.mem_cons_self
        obtain rfl := s2.sat.isInt (i := m) (List.mem_cons_of_mem _ List.mem_cons_self)
        exact ⟨m, n, rfl, ⟨by omega, by omega, by omega, by omega⟩, k _ _ [] [] s2.pop.pop (wk_ints (fun i H hi => hi) (fun i H x H' hi y => ⟨y.1, by rw [y.2, Int.mul_one]⟩) fun H => Nat.le_refl _)⟩
      | _ => cases e
    | _ => cases e
theorem pi_rng3 (hg : Gl X "range") (hm : X.mg "range" = none) (ha : PE X a (tE X.K f)) (hb : PE X b (tE X.K f')) {f2 : Env → R T} (hc : PE X c (tE X.K f2)) (hs : isStar a = false) (hs2 : isStar b = false) (hs3 : isStar c = false) :
    PI X tg (.Call (.Name "range" p) [a, b, c] [] pos) (tIt X.K (fRng3 f f' f2)) :=
  pi_imp (pi_range3 hg hm (pa_cons ha (pa_cons hb (pa_cons hc pa_nil (star1 hs3)) (star1 hs2)) (star1 hs)) (star1 hs) (noStar_any (by simp [noStar, hs2, hs3]))) fun σ H R ⟨ε, F, ts, ε', s, e, k⟩ => by
    obtain ⟨t, ε1, h1, e⟩ := bnd_inv e
    obtain ⟨u, ε2, h2, e⟩ := bnd_inv e
    obtain ⟨v, ε3, h3, e⟩ := bnd_inv e
    have hx : ∃ m n, t = .int m ∧ u = .int n ∧ v = .int (-1) ∧ ofO (rngD m n) ε3 = .ok ts ε' := by
      split at e
      · exact ⟨_, _, rfl, rfl, rfl, e⟩
      · cases e
    obtain ⟨m, n, rfl, rfl, rfl, e⟩ := hx
    obtain ⟨e2, rfl⟩ := ofO_inv e
    obtain ⟨rfl, a1, a2, a3, a4⟩ := rngD_inv e2
    refine ⟨ε, F, _, ε1, s, h1, fun v1 H1 s1 => ⟨ε1, _, _, ε2, s1, h2, fun v2 H2 s2 => ⟨ε2, _, _, _, s2, h3, fun v3 H3 s3 => ?_⟩⟩⟩
    obtain rfl := s3.sat.isInt (i := -1) List.mem_cons_self
    obtain rfl := s3.sat.isInt (i := n) (List.mem_cons_of_mem _ List.mem_cons_self)
    obtain rfl := s3.sat.isInt (i := m) (List.mem_cons_of_mem _ (List.mem_cons_of_mem _ List.mem_cons_self))
    exact ⟨m, n, -1, (m - n).toNat, rfl, RgC.neg (by omega) (by omega) (by omega) (by omega), k _ _ [] [] s3.pop.pop.pop (wk_ints (fun i H hi => hi) (fun i H x H' hi y => ⟨y.1, y.2⟩) fun H => Nat.le_refl _)⟩
end
end Tq
end

section
set_option Elab.async false
set_option maxRecDepth 100000
set_option maxHeartbeats 4000000
/-! TLs27: what is walked: enumerate, zip, reversed. -/
namespace Tq
open PySem PySem.Spec PyProof.Rows L2
section
variable {K : PySem.W.Frag} {X : Cx} {tg : Expr} {e e2 : Expr} {p pos tpos : Pos} {f f' : Env → R T} {ir jr : E} {elts : List Expr} {kk : Nat}
theorem tup_pin {H : Hp} {a : Addr} {vs : List V} {P : List Pin} (f : Facts H P) (h : ⟨a, .tup vs, rfl⟩ ∈ P) : H a = some (.tup vs) := f _ h
theorem lst_pin {H : Hp} {a : Addr} {vs : List V} {P : List Pin} (f : Facts H P) (h : ⟨a, .lst vs, rfl⟩ ∈ P) : H a = some (.lst vs) := f _ h
def fEnum (f : Env → R T) (ε : Env) : R (List T) := bnd (f ε) fun t ε1 => match seqF t with
    | some xs => .ok (enumL xs 0) ε1
    | none => .no
theorem enumL_len (xs : List T) : (enumL xs 0).length = xs.length := by unfold enumL; simp
theorem enumL_at {xs : List T} {i : Nat} {t : T} (h : xs[i]? = some t) : (enumL xs 0)[i]? = some (.tup [.int (i : Nat), t]) := by
  unfold enumL
  rw [List.getElem?_map, List.getElem?_zipIdx, h]
  simp
/-- pairs with their places, each newly made -/
theorem wk_pairs {J : L2.It} {P' : List Pin} {L1 : VT} (hs : shL (L1.map (·.2)) = true) (go : ∀ i H, Facts H P' → i < L1.length → J.go i H)
    (yld : ∀ i H x H', Facts H P' → i < L1.length → J.yld i H x H' → ∃ T v, x = .ref T ∧ H T = none ∧ H' = upd H T (.tup [.int (i : Nat), v]) ∧ (L1.map (·.1))[i]? = some v) (stop : ∀ H, Facts H P' → J.stop L1.length H) : Wk K J P' L1 (enumL (L1.map (·.2)) 0) := by
  refine ⟨fun i H f hi => go i H f (by rw [enumL_len, List.length_map] at hi; exact hi), fun i H x H' f hi y => ?_, fun i H f e => by rw [e, enumL_len, List.length_map]; exact stop H f⟩
  rw [enumL_len, List.length_map] at hi
  obtain ⟨T, v, rfl, hT, rfl, hv⟩ := yld i H x H' f hi y
  rw [List.getElem?_map, List.getElem?_eq_getElem hi] at hv
  cases hv
  refine ⟨_, enumL_at (by rw [List.getElem?_map, List.getElem?_eq_getElem hi]; rfl), fun C P L s c hw => ⟨?_, c.upd⟩⟩
  have s1 := s.copy (hw _ (List.getElem_mem hi)) (shL_at (i := i) hs (by rw [List.getElem?_map, List.getElem?_eq_getElem hi]; rfl))
  exact Sat.newTup (L1 := [(.int (i : Nat), .int (i : Nat)), L1[i]]) (s1.int _) hT
theorem pi_enum' (hg : Gl X "enumerate") (hm : X.mg "enumerate" = none) (he : PE X e (tE X.K f)) (hs : isStar e = false) : PI X (.Tuple elts kk tpos) (.Call (.Name "enumerate" p) [e] [] pos) (tIt X.K (fEnum f)) :=
  pi_imp (pi_or (pi_enum hg hm (pa_cons he pa_nil (star1 hs)) (star1 hs)) (pi_enumT hg hm (pa_cons he pa_nil (star1 hs)) (star1 hs))) fun σ H RR ⟨ε, F, ts, ε', s, e, k⟩ => by
    obtain ⟨t, ε1, h1, e⟩ := bnd_inv e
    cases h2 : seqF t with
    | none => simp [h2] at e
    | some xs =>
      simp only [h2] at e
      cases e
      have hs := frz_items h2
      cases t with
      | lst o ys =>
        refine .inl ⟨ε, F, _, _, s, h1, fun v H1 s1 => ?_⟩
        obtain ⟨a, L1, o, rfl, rfl, s2, ⟨rfl, _⟩ | ⟨_, ys, e4⟩⟩ := s1.walk h2
        · have fct : ∀ {H : Hp}, Facts H [⟨a, HO.lst (L1.map (·.1)), rfl⟩] → H a = some (.lst (L1.map (·.1))) := fun f => f _ (List.mem_singleton.mpr rfl)
          refine ⟨a, _, rfl, SqL.of (fct (Sat.facts (P := F.P) s2.sat)), k _ _ _ _ s2 (wk_pairs hs (fun i H f hi => ?_) (fun i H x H' f hi y => ?_) fun H f => ?_)⟩
          · exact ⟨_, _, SqL.of (fct f), List.getElem?_eq_getElem (by simpa using hi)⟩
          · obtain ⟨T, x, e1, e2, e3, e4⟩ := y
            exact ⟨T, x, e1, e2, e3, e4 _ (SqL.of (fct f))⟩
          · exact ⟨_, SqL.of (fct f), by simp⟩
        · cases e4
      | tup ys =>
        refine .inr ⟨ε, F, _, _, s, h1, fun v H1 s1 => ?_⟩
        obtain ⟨a, L1, o, rfl, rfl, s2, ⟨_, q, ys, e4⟩ | ⟨rfl, _⟩⟩ := s1.walk h2
        · cases e4
        · have fct : ∀ {H : Hp}, Facts H [⟨a, HO.tup (L1.map (·.1)), rfl⟩] → H a = some (.tup (L1.map (·.1))) := fun f => f _ (List.mem_singleton.mpr rfl)
          refine ⟨a, _, rfl, SqT.of (fct (Sat.facts (P := F.P) s2.sat)), k _ _ _ _ s2 (wk_pairs hs (fun i H f hi => ?_) (fun i H x H' f hi y => ?_) fun H f => ?_)⟩
          · exact ⟨_, _, SqT.of (fct f), List.getElem?_eq_getElem (by simpa using hi)⟩
          · obtain ⟨T, x, e1, e2, e3, e4⟩ := y
            exact ⟨T, x, e1, e2, e3, e4 _ (SqT.of (fct f))⟩
          · exact ⟨_, SqT.of (fct f), by simp⟩
      | _ => cases h2
/-! zip -/
def fZip (f f' : Env → R T) (ε : Env) : R (List T) := bnd (f ε) fun t ε1 => bnd (f' ε1) fun u ε2 => ofO (zipT t u) ε2
theorem zipL_len (xs ys : List T) : (zipL xs ys).length = min xs.length ys.length := by unfold zipL; simp
theorem zipL_at {xs ys : List T} {i : Nat} {t u : T} (h : xs[i]? = some t) (g : ys[i]? = some u) : (zipL xs ys)[i]? = some (.tup [t, u]) := by
  unfold zipL
  have hz : (xs.zip ys)[i]? = some (t, u) := by rw [List.getElem?_zip_eq_some]; exact ⟨h, g⟩
  rw [List.getElem?_map, hz]
  rfl
theorem wk_zip {J : L2.It} {P' : List Pin} {L1 L2 : VT} (hs : shL (L1.map (·.2)) = true) (hs2 : shL (L2.map (·.2)) = true) (go : ∀ i H, Facts H P' → i < L1.length → i < L2.length → J.go i H)
    (yld : ∀ i H x H', Facts H P' → i < L1.length → i < L2.length → J.yld i H x H' → ∃ T v w, x = .ref T ∧ H T = none ∧ H' = upd H T (.tup [v, w]) ∧ (L1.map (·.1))[i]? = some v ∧ (L2.map (·.1))[i]? = some w) (stop : ∀ H, Facts H P' → J.stop (min L1.length L2.length) H) :
    Wk K J P' (L1 ++ L2) (zipL (L1.map (·.2)) (L2.map (·.2))) := by
  have hl : (zipL (L1.map (·.2)) (L2.map (·.2))).length = min L1.length L2.length := by rw [zipL_len, List.length_map, List.length_map]
  refine ⟨fun i H f hi => go i H f (by omega) (by omega), fun i H x H' f hi y => ?_, fun i H f e => by rw [e, hl]; exact stop H f⟩
  have i1 : i < L1.length := by omega
  have i2 : i < L2.length := by omega
  obtain ⟨T, v, w, rfl, hT, rfl, hv, hw'⟩ := yld i H x H' f i1 i2 y
  rw [List.getElem?_map, List.getElem?_eq_getElem i1] at hv
  rw [List.getElem?_map, List.getElem?_eq_getElem i2] at hw'
  cases hv
  cases hw'
  refine ⟨_, zipL_at (by rw [List.getElem?_map, List.getElem?_eq_getElem i1]; rfl) (by rw [List.getElem?_map, List.getElem?_eq_getElem i2]; rfl), fun C P L s c hw => ⟨?_, c.upd⟩⟩
  have s1 := s.copy (hw _ (List.mem_append_right _ (List.getElem_mem i2))) (shL_at (i := i) hs2 (by rw [List.getElem?_map, List.getElem?_eq_getElem i2]; rfl))
  have s2 := s1.copy (List.mem_cons_of_mem _ (hw _ (List.mem_append_left _ (List.getElem_mem i1)))) (shL_at (i := i) hs (by rw [List.getElem?_map, List.getElem?_eq_getElem i1]; rfl))
  exact Sat.newTup (L1 := [L1[i], L2[i]]) s2 hT
theorem SR.walk2 {σ : L2.St} {ε : Env} {F : Fr} {H : Hp} {v w : V} {t u : T} {xs ys : List T} (s : SR K σ ε ((F.push (v, t)).push (w, u)) H) (e1 : seqF t = some xs) (e2 : seqF u = some ys) : ∃ (a b : Addr) (L1 L2 : VT) (o1 o2 : Pin), v = .ref a ∧ w = .ref b ∧ L1.map (·.2) = xs ∧ L2.map (·.2) = ys ∧
    SR K σ ε ⟨F.C, [o1, o2] ++ F.P, (L1 ++ L2) ++ F.R⟩ H ∧ ((o1 = ⟨a, .lst (L1.map (·.1)), rfl⟩ ∧ ∃ q ys, t = .lst q ys) ∨ (o1 = ⟨a, .tup (L1.map (·.1)), rfl⟩ ∧ ∃ ys, t = .tup ys)) ∧
    ((o2 = ⟨b, .lst (L2.map (·.1)), rfl⟩ ∧ ∃ q ys, u = .lst q ys) ∨ (o2 = ⟨b, .tup (L2.map (·.1)), rfl⟩ ∧ ∃ ys, u = .tup ys)) := by
  obtain ⟨b, L2, o2, rfl, rfl, s1, h2⟩ := s.walk e2
  have s2 : SR K σ ε (Fr.push ⟨F.C, [o2] ++ F.P, L2 ++ F.R⟩ (v, t)) H := ⟨s1.al, s1.ch, s1.sat.perm (by
    show ((L2 ++ ((v, t) :: F.R)) ++ slots σ ε).Perm (((v, t) :: (L2 ++ F.R)) ++ slots σ ε)
    exact List.perm_middle.append_right _)⟩
  obtain ⟨a, L1, o1, rfl, rfl, s3, h1⟩ := s2.walk e1
  refine ⟨a, b, L1, L2, o1, o2, rfl, rfl, rfl, rfl, ?_, h1, h2⟩
  have q : SR K σ ε ⟨F.C, [o1] ++ ([o2] ++ F.P), L1 ++ (L2 ++ F.R)⟩ H := s3
  rw [← List.append_assoc L1 L2 F.R] at q
  exact q
theorem pi_zip' (hg : Gl X "zip") (hm : X.mg "zip" = none) (he : PE X e (tE X.K f)) (he2 : PE X e2 (tE X.K f')) (hs : isStar e = false) (hs2 : isStar e2 = false) : PI X (.Tuple elts kk tpos) (.Call (.Name "zip" p) [e, e2] [] pos) (tIt X.K (fZip f f')) :=
  pi_imp (RZ.pi_zipA hg hm (pa_cons he (pa_cons he2 pa_nil (star1 hs2)) (star1 hs)) (star1 hs) (noStar_any (by simp [noStar, hs2]))) fun σ H RR ⟨ε, F, ts, ε', s, e, k⟩ => by
    obtain ⟨t, ε1, h1, e⟩ := bnd_inv e
    obtain ⟨u, ε2, h2, e⟩ := bnd_inv e
    obtain ⟨e3, rfl⟩ := ofO_inv e
    refine ⟨ε, F, t, ε1, s, h1, fun v H1 s1 => ⟨ε1, _, u, _, s1, h2, fun w H2 s2 => ?_⟩⟩
    have hx : (∃ q xs q' ys, t = .lst q xs ∧ u = .lst q' ys ∧ ts = zipL (frzL xs) (frzL ys)) ∨ (∃ xs ys, t = .tup xs ∧ u = .tup ys ∧ ts = zipL (frzL xs) (frzL ys)) := by
      cases t <;> cases u <;> first
        | (cases e3; exact .inl ⟨_, _, _, _, rfl, rfl, rfl⟩)
        | (cases e3; exact .inr ⟨_, _, rfl, rfl, rfl⟩)
        | (cases e3; done)
    rcases hx with ⟨q, xs, q', ys, rfl, rfl, rfl⟩ | ⟨xs, ys, rfl, rfl, rfl⟩
    · obtain ⟨a, b, L1, L2, o1, o2, rfl, rfl, m1, m2, s3, ⟨rfl, _⟩ | ⟨_, _, z⟩, ⟨rfl, _⟩ | ⟨_, _, z'⟩⟩ := s2.walk2 (t := .lst q xs) (u := .lst q' ys) rfl rfl
      · have f1 : ∀ {H : Hp}, Facts H [⟨a, HO.lst (L1.map (·.1)), rfl⟩, ⟨b, HO.lst (L2.map (·.1)), rfl⟩] → SqL X.K H a (L1.map (·.1)) := fun f => SqL.of (f _ List.mem_cons_self)
        have f2 : ∀ {H : Hp}, Facts H [⟨a, HO.lst (L1.map (·.1)), rfl⟩, ⟨b, HO.lst (L2.map (·.1)), rfl⟩] → SqL X.K H b (L2.map (·.1)) := fun f => SqL.of (f _ (List.mem_cons_of_mem _ List.mem_cons_self))
        have fc := Sat.facts (P := F.P) s3.sat
        have wk : ∀ J, J = Itz X.K a b → RR J H2 := fun J eJ => by
          refine k J H2 _ _ s3 ?_
          rw [← m1, ← m2]
          subst eJ
          refine wk_zip (by rw [m1]; exact shL_frz xs) (by rw [m2]; exact shL_frz ys) (fun i H f h1 h2 => ?_) (fun i H x H' f h1 h2 y => ?_) fun H f => ?_
          · exact ⟨_, _, _, _, f1 f, f2 f, List.getElem?_eq_getElem (by simpa using h1), List.getElem?_eq_getElem (by simpa using h2)⟩
          · obtain ⟨T, x, y', e1, e2, e3, e4, e5⟩ := y
            exact ⟨T, x, y', e1, e2, e3, e4 _ (f1 f), e5 _ (f2 f)⟩
          · exact ⟨_, _, f1 f, f2 f, by simp only [List.length_map]; omega⟩
        exact ⟨a, b, _, _, rfl, .inl ⟨f1 fc, f2 fc, wk _ rfl⟩⟩
      · cases z'
      · cases z
      · cases z
    · obtain ⟨a, b, L1, L2, o1, o2, rfl, rfl, m1, m2, s3, ⟨_, _, _, z⟩ | ⟨rfl, _⟩, ⟨_, _, _, z'⟩ | ⟨rfl, _⟩⟩ := s2.walk2 (t := .tup xs) (u := .tup ys) rfl rfl
      · cases z
      · cases z
      · cases z'
      · have f1 : ∀ {H : Hp}, Facts H [⟨a, HO.tup (L1.map (·.1)), rfl⟩, ⟨b, HO.tup (L2.map (·.1)), rfl⟩] → SqT X.K H a (L1.map (·.1)) := fun f => SqT.of (f _ List.mem_cons_self)
        have f2 : ∀ {H : Hp}, Facts H [⟨a, HO.tup (L1.map (·.1)), rfl⟩, ⟨b, HO.tup (L2.map (·.1)), rfl⟩] → SqT X.K H b (L2.map (·.1)) := fun f => SqT.of (f _ (List.mem_cons_of_mem _ List.mem_cons_self))
        have fc := Sat.facts (P := F.P) s3.sat
        have wk : ∀ J, J = RZ.ItzT X.K a b → RR J H2 := fun J eJ => by
          refine k J H2 _ _ s3 ?_
          rw [← m1, ← m2]
          subst eJ
          refine wk_zip (by rw [m1]; exact shL_frz xs) (by rw [m2]; exact shL_frz ys) (fun i H f h1 h2 => ?_) (fun i H x H' f h1 h2 y => ?_) fun H f => ?_
          · exact ⟨_, _, _, _, f1 f, f2 f, List.getElem?_eq_getElem (by simpa using h1), List.getElem?_eq_getElem (by simpa using h2)⟩
          · obtain ⟨T, x, y', e1, e2, e3, e4, e5⟩ := y
            exact ⟨T, x, y', e1, e2, e3, e4 _ (f1 f), e5 _ (f2 f)⟩
          · exact ⟨_, _, f1 f, f2 f, by simp only [List.length_map]; omega⟩
        exact ⟨a, b, _, _, rfl, .inr ⟨f1 fc, f2 fc, wk _ rfl⟩⟩
end
end Tq
end

section
set_option Elab.async false
set_option maxRecDepth 100000
set_option maxHeartbeats 4000000
/-! TLs28: what is walked: reversed, dicts; lists of ranges. -/
namespace Tq
open PySem PySem.Spec PyProof.Rows L2
section
variable {K : PySem.W.Frag} {X : Cx} {tg : Expr} {e e2 : Expr} {p pos pos2 p2 tpos apos cpos : Pos} {f f' : Env → R T} {ir jr : E} {elts : List Expr} {kk : Nat} {a b : Expr}
def fRev (f : Env → R T) (ε : Env) : R (List T) := bnd (f ε) fun t ε1 => match seqF t with
    | some xs => .ok xs.reverse ε1
    | none => .no
theorem rev_at {α : Type} {xs : List α} {i : Nat} (h : i < xs.length) : xs.reverse[i]? = xs[xs.length - 1 - i]? := by
  rw [List.getElem?_reverse h]
theorem pi_rev' (hg : Gl X "reversed") (hm : X.mg "reversed" = none) (he : PE X e (tE X.K f)) (hs : isStar e = false) : PI X tg (.Call (.Name "reversed" p) [e] [] pos) (tIt X.K (fRev f)) :=
  pi_imp (RT.pi_revA hg hm he (star1 hs)) fun σ H RR ⟨ε, F, ts, ε', s, e, k⟩ => by
    obtain ⟨t, ε1, h1, e⟩ := bnd_inv e
    cases h2 : seqF t with
    | none => simp [h2] at e
    | some xs =>
      simp only [h2] at e
      cases e
      have hsh := frz_items h2
      refine ⟨ε, F, t, _, s, h1, fun v H1 s1 => ?_⟩
      obtain ⟨a, L1, o, rfl, rfl, s2, hh⟩ := s1.walk h2
      have em : (L1.map (·.2)).reverse = L1.reverse.map (·.2) := List.map_reverse.symm
      have hsh' : shL (L1.reverse.map (·.2)) = true := by
        rw [← em, shL_all, List.all_reverse, ← shL_all]; exact hsh
      rw [em] at k
      rcases hh with ⟨rfl, _⟩ | ⟨rfl, _⟩
      · have fct : ∀ {H : Hp}, Facts H [⟨a, HO.lst (L1.map (·.1)), rfl⟩] → SqL X.K H a (L1.map (·.1)) := fun f => SqL.of (f _ (List.mem_singleton.mpr rfl))
        refine ⟨a, L1.map (·.1), rfl, .inl ⟨fct (Sat.facts (P := F.P) s2.sat), k _ _ _ _ s2 (wk_still hsh' (fun p hp => List.mem_reverse.mp hp) (fun i H f hi => ?_) (fun i H x H' f hi y => ?_) fun H f => ?_)⟩⟩
        · rw [List.length_reverse] at hi
          refine ⟨by simpa using hi, _, _, fct f, List.getElem?_eq_getElem (by simp; omega)⟩
        · rw [List.length_reverse] at hi
          refine ⟨y.1, ?_⟩
          rw [List.map_reverse, rev_at (by simpa using hi), List.length_map]
          have := y.2 _ (fct f)
          rw [List.length_map] at this
          exact this
        · show (L1.map (·.1)).length ≤ L1.reverse.length
          simp
      · have fct : ∀ {H : Hp}, Facts H [⟨a, HO.tup (L1.map (·.1)), rfl⟩] → SqT X.K H a (L1.map (·.1)) := fun f => SqT.of (f _ (List.mem_singleton.mpr rfl))
        refine ⟨a, L1.map (·.1), rfl, .inr ⟨fct (Sat.facts (P := F.P) s2.sat), k _ _ _ _ s2 (wk_still hsh' (fun p hp => List.mem_reverse.mp hp) (fun i H f hi => ?_) (fun i H x H' f hi y => ?_) fun H f => ?_)⟩⟩
        · rw [List.length_reverse] at hi
          refine ⟨by simpa using hi, _, _, fct f, List.getElem?_eq_getElem (by simp; omega)⟩
        · rw [List.length_reverse] at hi
          refine ⟨y.1, ?_⟩
          rw [List.map_reverse, rev_at (by simpa using hi), List.length_map]
          have := y.2 _ (fct f)
          rw [List.length_map] at this
          exact this
        · show (L1.map (·.1)).length ≤ L1.reverse.length
          simp
/-! dicts: locked from here on -/
theorem pe_locked {td : TE} (h : PE X e td) : PE X e (fun σ H Q => td σ H fun x H1 => ∃ d, x = .ref d ∧ ((∃ o u, H1 d = some (.frz o u) ∧ Q x H1) ∨ (∃ u, H1 d = some u ∧ Mut (some u) ∧ ∀ od, Q x (upd H1 d (.frz od u))))) := by
  refine ⟨fun pins s σ H Q I w => thn (h.run pins s σ H _ I w) fun v s1 ⟨x, H1, I1, r1, d, ex, q⟩ => ?_⟩
  rcases q with ⟨o, u, _, q⟩ | ⟨u, hd, mu, q⟩
  · exact ⟨x, H1, I1, r1, q⟩
  · obtain ⟨od, I2⟩ := I1.lock hd mu
    exact ⟨x, _, I2, r1, q od⟩

theorem kp_lock {H : Hp} {W : Addr → Prop} {A : List Addr} {a : Addr} {od : Obj} {u : HO} (h : H a = some u) (hu : noDic u = false) (hA : a ∉ A) : Kp H (upd H a (.frz od u)) W W A where
  rd := fun b v r n => by
    by_cases e : b = a
    · subst e
      rcases r with r | ⟨o, r⟩
      · rw [h] at r; cases r; exact .inr ⟨od, upd_same⟩
      · rw [h] at r; cases r; cases hu
    · rcases r with r | ⟨o, r⟩
      · exact .inl (by rw [upd_ne e]; exact r)
      · exact .inr ⟨o, by rw [upd_ne e]; exact r⟩
  ls := fun b vs r n => by
    have e : b ≠ a := fun e => by subst e; rw [h] at r; cases r; cases hu
    rw [upd_ne e]; exact r
  tup := fun b vs r => by
    have e : b ≠ a := fun e => by subst e; rw [h] at r; cases r; cases hu
    rw [upd_ne e]; exact r
  own := fun b v hb r => by
    have e : b ≠ a := fun e => hA (e ▸ hb)
    rw [upd_ne e]; exact r
  w := fun b v r n => n
/-- what a walk over a shared dict needs -/
structure DicW (K : PySem.W.Frag) (H : Hp) (C : List Addr) (P : List Pin) (L L1 : VT) (a : Addr) (u : HO) : Prop where
  rd : Rd H a u
  no : noDic u = false
  mu : Mut (some u)
  sh : shL (L1.map (·.2)) = true
  all : Sat K H C P (L1 ++ L)
  lock : ∀ od, H a = some u → Sat K (upd H a (.frz od u)) C (⟨a, .frz od u, rfl⟩ :: P) (L1 ++ L)
  pin : ∀ od, H a = some (.frz od u) → Sat K H C (⟨a, .frz od u, rfl⟩ :: P) (L1 ++ L)
theorem Sat.shared {H : Hp} {C : List Addr} {P : List Pin} {L : VT} {v : V} {kvs : List (T × T)} (s : Sat K H C P ((v, .dic false kvs) :: L)) : ∃ (a : Addr) (L1 : VT) (u : HO), v = .ref a ∧ DicW K H C P L L1 a u ∧
    ((∃ kv : List (Key × V), u = .dK kv ∧ L1.map (·.1) = kv.map (·.2) ∧ kvs = (kv.map fun p => keyT p.1).zip (L1.map (·.2))) ∨
     (∃ kv : List (List Key × V), u = .dT kv ∧ kv ≠ [] ∧ L1.map (·.1) = kv.map (·.2) ∧ kvs = (kv.map fun p => keysT p.1).zip (L1.map (·.2)))) := by
  obtain ⟨A, r, nd, hP⟩ := s.ex
  have go : ∀ {a : Addr} {u : HO} {vs : List V} {ts : List T} {A : List Addr}, Rd H a u → noDic u = false → Mut (some u) → ¬ (a ∈ C ++ A) → Reps K H (fun b => b ∈ C ++ A) vs ts [] → Reps K H (fun b => b ∈ C ++ A) (L.map (·.1)) (L.map (·.2)) A → (C ++ A).Nodup → (∀ p ∈ P, H p.1 = some p.2 ∧ p.1 ∉ A) →
      ∃ L1 : VT, L1.map (·.1) = vs ∧ L1.map (·.2) = ts ∧ DicW K H C P L L1 a u := by
    intro a u vs ts A hr hno mu hn rr y nd hP
    obtain ⟨L1, e1, e2⟩ := reps_pair rr
    have r2 : Reps K H (fun b => b ∈ C ++ A) ((L1 ++ L).map (·.1)) ((L1 ++ L).map (·.2)) A := by
      rw [List.map_append, List.map_append, e1, e2]; exact rr.append y
    have hA : a ∉ A := fun m => hn (List.mem_append_right _ m)
    refine ⟨L1, e1, e2, hr, hno, mu, by rw [e2]; exact rr.nil_sh rfl, ⟨A, r2, nd, hP⟩, fun od h => ?_, fun od h => ⟨A, r2, nd, fun p hp => ?_⟩⟩
    · refine ⟨A, r2.keep (kp_lock h hno hA), nd, fun p hp => ?_⟩
      rcases List.mem_cons.mp hp with rfl | hp
      · exact ⟨upd_same, hA⟩
      · have e : p.1 ≠ a := fun e => by
          have q := (hP p hp).1
          rw [e, h] at q
          have q2 := Option.some.inj q
          have q3 := p.ok
          rw [← q2, hno] at q3; cases q3
        exact ⟨by rw [upd_ne e]; exact (hP p hp).1, (hP p hp).2⟩
    · rcases List.mem_cons.mp hp with rfl | hp
      · exact ⟨h, hA⟩
      · exact hP p hp
  generalize hM : ((v, T.dic false kvs) :: L).map (·.1) = M1 at r
  generalize hN : ((v, T.dic false kvs) :: L).map (·.2) = M2 at r
  cases r with
  | nil => cases hM
  | cons x y =>
    rw [List.map_cons] at hM hN
    injection hM with e1 e2
    injection hN with e3 e4
    subst e1 e2 e4
    rename_i A1 A2
    have e3' : T.dic false kvs = _ := e3
    cases x <;> try (cases e3'; done)
    · rename_i a kv ts hr hn hw rr
      cases e3'
      obtain ⟨L1, g1, g2, g3⟩ := go hr rfl trivial hw rr y nd hP
      exact ⟨a, L1, _, rfl, g3, .inl ⟨kv, rfl, g1, by rw [g2]⟩⟩
    · rename_i a kv ts hr hn hw rr
      cases e3'
      obtain ⟨L1, g1, g2, g3⟩ := go hr rfl trivial hw rr y nd hP
      exact ⟨a, L1, _, rfl, g3, .inr ⟨kv, rfl, hn.2, g1, by rw [g2]⟩⟩
end
end Tq
end

section
set_option Elab.async false
set_option maxRecDepth 100000
set_option maxHeartbeats 4000000
/-! TLs29: what is walked: dicts; lists of ranges. -/
namespace Tq
open PySem PySem.Spec PyProof.Rows L2
section
variable {K : PySem.W.Frag} {X : Cx} {tg : Expr} {e e2 : Expr} {p pos pos2 p2 tpos apos cpos : Pos} {f f' : Env → R T} {ir jr : E} {elts : List Expr} {kk : Nat} {a b : Expr}
/-- the state behind a lock -/
theorem SR.lockD {σ : L2.St} {ε : Env} {F : Fr} {H : Hp} {v : V} {q : Bool} {kvs : List (T × T)} {Q : V → Hp → Prop} (s : SR K σ ε (F.push (v, .dic q kvs)) H)
    (h : ∀ (a : Addr) (L1 : VT) (u : HO) (H' : Hp) (od : Obj) (ok : noDic (.frz od u) = true), v = .ref a → H' a = some (.frz od u) → SR K σ ε ⟨F.C, [⟨a, .frz od u, ok⟩] ++ F.P, L1 ++ F.R⟩ H' → shL (L1.map (·.2)) = true →
      ((∃ kv : List (Key × V), u = .dK kv ∧ L1.map (·.1) = kv.map (·.2) ∧ frzK kvs = (kv.map fun p => keyT p.1).zip (L1.map (·.2))) ∨
       (∃ kv : List (List Key × V), u = .dT kv ∧ kv ≠ [] ∧ L1.map (·.1) = kv.map (·.2) ∧ frzK kvs = (kv.map fun p => keysT p.1).zip (L1.map (·.2)))) → Q v H') :
    ∃ d, v = .ref d ∧ ((∃ o u, H d = some (.frz o u) ∧ Q v H) ∨ (∃ u, H d = some u ∧ Mut (some u) ∧ ∀ od, Q v (upd H d (.frz od u)))) := by
  have s1 : Sat K H F.C F.P ((v, T.dic false (frzK kvs)) :: (F.R ++ slots σ ε)) := Sat.frz (L := F.R ++ slots σ ε) s.sat
  obtain ⟨a, L1, u, rfl, dw, hh⟩ := s1.shared
  have mk : ∀ {H' : Hp} {od : Obj}, Sat K H' F.C (⟨a, .frz od u, rfl⟩ :: F.P) (L1 ++ (F.R ++ slots σ ε)) → CH H' F.C → SR K σ ε ⟨F.C, [⟨a, .frz od u, rfl⟩] ++ F.P, L1 ++ F.R⟩ H' := fun z c => ⟨s.al, c, by
    rw [← List.append_assoc] at z; exact z⟩
  refine ⟨a, rfl, ?_⟩
  rcases dw.rd with hd | ⟨o, hd⟩
  · exact .inr ⟨u, hd, dw.mu, fun od => h a L1 u _ od rfl rfl upd_same (mk (dw.lock od hd) s.ch.upd) dw.sh hh⟩
  · exact .inl ⟨o, u, hd, h a L1 u _ o rfl rfl hd (mk (dw.pin o hd) s.ch) dw.sh hh⟩
def gDicKeys : T → Option (List T)
  | .dic _ kvs => some ((frzK kvs).map (·.1))
  | _ => none
theorem zip_at {α β : Type} {xs : List α} {ys : List β} {i : Nat} {x : α} (hl : xs.length = ys.length) (h : xs[i]? = some x) : ((xs.zip ys).map (·.1))[i]? = some x := by
  rw [zip_fst hl]; exact h
theorem pi_keys' (he : PE X e (tE X.K f)) : PI X tg e (tIt X.K fun ε => bnd (f ε) fun t ε1 => ofO (gDicKeys t) ε1) :=
  pi_imp (pi_keys (pe_locked he)) fun σ H RR ⟨ε, F, ts, ε', s, e, k⟩ => by
    obtain ⟨t, ε1, h1, e⟩ := bnd_inv e
    obtain ⟨e2, rfl⟩ := ofO_inv e
    cases t with
    | dic q kvs =>
      cases e2
      refine ⟨ε, F, _, _, s, h1, fun v H1 s1 => SR.lockD (Q := fun x H1 => ∃ d o, x = .ref d ∧ ((∃ kvs, H1 d = some (.frz o (.dK kvs)) ∧ RR (Itk d o kvs) H1) ∨ ∃ kvs, H1 d = some (.frz o (.dT kvs)) ∧ RR (Itkt d o kvs) H1)) s1 fun a L1 u H' od ok ev hd s2 hsh hh => ⟨a, od, ev, ?_⟩⟩
      have fct : ∀ {H : Hp}, Facts H [⟨a, .frz od u, ok⟩] → H a = some (.frz od u) := fun f => f _ (List.mem_singleton.mpr rfl)
      rcases hh with ⟨kv, rfl, hv, hk⟩ | ⟨kv, rfl, hne, hv, hk⟩
      · have hl : kv.length = L1.length := by have := congrArg List.length hv; simpa using this.symm
        refine .inl ⟨kv, hd, k _ _ _ _ s2 ⟨fun i H f hi => ⟨fct f, ?_⟩, fun i H x H' f hi y => ?_, fun i H f ei => ⟨fct f, ?_⟩⟩⟩
        · rw [hk, List.length_map, List.length_zip, List.length_map, List.length_map] at hi; omega
        · obtain ⟨e1, kx, vx, e2, e3⟩ := y
          subst e1 e3
          refine ⟨keyT kx, ?_, fun C P L s c hw => ⟨s.add fun W _ => rep_key kx, c⟩⟩
          rw [hk]
          exact zip_at (by simp [hl]) (by rw [List.getElem?_map, e2]; rfl)
        · rw [hk, List.length_map, List.length_zip, List.length_map, List.length_map] at ei; omega
      · have hl : kv.length = L1.length := by have := congrArg List.length hv; simpa using this.symm
        refine .inr ⟨kv, hd, k _ _ _ _ s2 ⟨fun i H f hi => ⟨fct f, ?_⟩, fun i H x H' f hi y => ?_, fun i H f ei => ⟨fct f, ?_⟩⟩⟩
        · rw [hk, List.length_map, List.length_zip, List.length_map, List.length_map] at hi; omega
        · obtain ⟨e1, kx, vx, qx, e2, e3, e4⟩ := y
          subst e1 e3
          refine ⟨keysT kx, ?_, fun C P L s c hw => ⟨s.add fun W _ => .tup e4 (reps_keys kx), c⟩⟩
          rw [hk]
          exact zip_at (by simp [hl]) (by rw [List.getElem?_map, e2]; rfl)
        · rw [hk, List.length_map, List.length_zip, List.length_map, List.length_map] at ei; omega
    | _ => cases e2
/-- a list, a tuple, a dict's keys -/
theorem pi_seq' (he : PE X e (tE X.K f)) : PI X tg e (tIt X.K (fSeqL f)) :=
  pi_imp (pi_or (pi_or (pi_list he) (pi_tup he)) (pi_keys' he)) fun σ H RR ⟨ε, F, ts, ε', s, e, k⟩ => by
    obtain ⟨t, ε1, h1, e⟩ := bnd_inv e
    obtain ⟨e2, rfl⟩ := ofO_inv e
    cases t with
    | tup ys => exact .inl (read_list (g := f) (h := seqF) (fun _ _ h => h) ⟨ε, F, ts, _, s, by dsimp only; rw [h1]; show ofO (seqF (.tup ys)) _ = _; cases e2; rfl, k⟩)
    | lst o ys => exact .inl (read_list (g := f) (h := seqF) (fun _ _ h => h) ⟨ε, F, ts, _, s, by dsimp only; rw [h1]; show ofO (seqF (.lst o ys)) _ = _; cases e2; rfl, k⟩)
    | dic o kvs => exact .inr ⟨ε, F, ts, _, s, by dsimp only; rw [h1]; show ofO (gDicKeys (.dic o kvs)) _ = _; cases e2; rfl, k⟩
    | _ => cases e2
theorem all_k1T {kv : List (List Key × V)} {ts : List T} (hne : kv ≠ []) (hl : kv.length = ts.length) (h : (((kv.map fun p => keysT p.1).zip ts).all fun p => k1 p.1) = true) : False := by
  cases kv with
  | nil => exact hne rfl
  | cons p kv =>
    cases ts with
    | nil => simp at hl
    | cons t ts =>
      rw [List.map_cons, List.zip_cons_cons, List.all_cons, k1_keysT] at h
      cases h
def fItems (f : Env → R T) (ε : Env) : R (List T) := bnd (f ε) fun t ε1 => ofO (itemsD t) ε1
def fVals (f : Env → R T) (ε : Env) : R (List T) := bnd (f ε) fun t ε1 => ofO (valsD t) ε1
theorem pi_items' (he : PE X e (tE X.K f)) (hb : isCall e = false) (hl : (apos.endLine == cpos.line) = true) : PI X (.Tuple elts kk tpos) (.Call (.Attribute e "items" apos) [] [] cpos) (tIt X.K (fItems f)) :=
  pi_imp (pi_items (pe_locked he) (abase hb) hl) fun σ H RR ⟨ε, F, ts, ε', s, e, k⟩ => by
    obtain ⟨t, ε1, h1, e⟩ := bnd_inv e
    obtain ⟨e2, rfl⟩ := ofO_inv e
    cases t with
    | dic q kvs =>
      have e3 : (if ((frzK kvs).all fun p => k1 p.1) = true then some ((frzK kvs).map fun p => T.tup [p.1, p.2]) else none) = some ts := e2
      split at e3
      · rename_i hk1
        cases e3
        refine ⟨ε, F, _, _, s, h1, fun v H1 s1 => SR.lockD (Q := fun x H1 => ∃ d o kvs, x = .ref d ∧ H1 d = some (.frz o (.dK kvs)) ∧ RR (Iti d o kvs) H1) s1 fun a L1 u H' od ok ev hd s2 hsh hh => ?_⟩
        have fct : ∀ {H : Hp}, Facts H [⟨a, .frz od u, ok⟩] → H a = some (.frz od u) := fun f => f _ (List.mem_singleton.mpr rfl)
        rcases hh with ⟨kv, rfl, hv, hk⟩ | ⟨kv, rfl, hne, hv, hk⟩
        · have hl : kv.length = L1.length := by have := congrArg List.length hv; simpa using this.symm
          refine ⟨a, od, kv, ev, hd, k _ _ _ _ s2 ⟨fun i H f hi => ⟨fct f, ?_⟩, fun i H x H' f hi y => ?_, fun i H f ei => ⟨fct f, ?_⟩⟩⟩
          · rw [hk, List.length_map, List.length_zip, List.length_map, List.length_map] at hi; omega
          · obtain ⟨Tn, kx, vx, e2, rfl, hT, rfl⟩ := y
            have hi' : i < L1.length := by rw [hk, List.length_map, List.length_zip, List.length_map, List.length_map] at hi; omega
            have ev : L1[i].1 = vx := by
              have z := congrArg (fun l => l[i]?) hv
              simp only [List.getElem?_map, e2, List.getElem?_eq_getElem hi'] at z
              exact Option.some.inj z
            refine ⟨.tup [keyT kx, L1[i].2], ?_, fun C P L s c hw => ⟨?_, c.upd⟩⟩
            · rw [hk, List.getElem?_map]
              have hz : ((kv.map fun p => keyT p.1).zip (L1.map (·.2)))[i]? = some (keyT kx, L1[i].2) := by
                rw [List.getElem?_zip_eq_some]
                exact ⟨by rw [List.getElem?_map, e2]; rfl, by rw [List.getElem?_map, List.getElem?_eq_getElem hi']; rfl⟩
              rw [hz]; rfl
            · have q1 := s.copy (v := L1[i].1) (t := L1[i].2) (hw _ (List.getElem_mem hi')) (shL_at (i := i) hsh (by rw [List.getElem?_map, List.getElem?_eq_getElem hi']; rfl))
              have q2 := q1.add (v := kV kx) (t := keyT kx) fun W _ => rep_key kx
              have q3 := Sat.newTup (L1 := [(kV kx, keyT kx), (L1[i].1, L1[i].2)]) (L := L) q2 hT
              rw [← ev]
              exact q3
          · rw [hk, List.length_map, List.length_zip, List.length_map, List.length_map] at ei; omega
        · rw [hk] at hk1
          exact (all_k1T hne (by have := congrArg List.length hv; simpa using this.symm) hk1).elim
      · cases e3
    | _ => cases e2
theorem pi_vals' (he : PE X e (tE X.K f)) (hb : isCall e = false) (hl : (apos.endLine == cpos.line) = true) : PI X tg (.Call (.Attribute e "values" apos) [] [] cpos) (tIt X.K (fVals f)) :=
  pi_imp (pi_values (pe_locked he) (abase hb) hl) fun σ H RR ⟨ε, F, ts, ε', s, e, k⟩ => by
    obtain ⟨t, ε1, h1, e⟩ := bnd_inv e
    obtain ⟨e2, rfl⟩ := ofO_inv e
    cases t with
    | dic q kvs =>
      have e3 : (if ((frzK kvs).all fun p => k1 p.1) = true then some ((frzK kvs).map fun p => p.2) else none) = some ts := e2
      split at e3
      · rename_i hk1
        cases e3
        refine ⟨ε, F, _, _, s, h1, fun v H1 s1 => SR.lockD (Q := fun x H1 => ∃ d o kvs, x = .ref d ∧ H1 d = some (.frz o (.dK kvs)) ∧ RR (Itd d o kvs) H1) s1 fun a L1 u H' od ok ev hd s2 hsh hh => ?_⟩
        have fct : ∀ {H : Hp}, Facts H [⟨a, .frz od u, ok⟩] → H a = some (.frz od u) := fun f => f _ (List.mem_singleton.mpr rfl)
        rcases hh with ⟨kv, rfl, hv, hk⟩ | ⟨kv, rfl, hne, hv, hk⟩
        · have hl : kv.length = L1.length := by have := congrArg List.length hv; simpa using this.symm
          have ets : ((frzK kvs).map fun p => p.2) = L1.map (·.2) := by rw [hk]; exact zip_snd (by simp [hl])
          rw [ets] at k
          refine ⟨a, od, kv, ev, hd, k _ _ _ _ s2 (wk_still hsh (fun p hp => hp) (fun i H f hi => ⟨fct f, by omega⟩) (fun i H x H' f hi y => ?_) fun H f => ⟨fct f, by omega⟩)⟩
          obtain ⟨e1, kx, e2⟩ := y
          refine ⟨e1, ?_⟩
          rw [hv, List.getElem?_map, e2]; rfl
        · rw [hk] at hk1
          exact (all_k1T hne (by have := congrArg List.length hv; simpa using this.symm) hk1).elim
      · cases e3
    | _ => cases e2
end
end Tq
end

section
set_option Elab.async false
set_option maxRecDepth 100000
set_option maxHeartbeats 4000000
/-! TLs30: list(range(..)), list(reversed(..)). -/
namespace Tq
open PySem PySem.Spec PyProof.Rows L2
section
variable {K : PySem.W.Frag} {X : Cx} {e a b : Expr} {p pos pos2 p2 : Pos} {f f' : Env → R T}
theorem rgV_rngL (lo hi : Int) : rgV lo hi = ((List.range (hi - lo).toNat).map fun (k : Nat) => lo + (k : Int)).map V.int ∧ rngL lo (hi - lo).toNat 1 = ((List.range (hi - lo).toNat).map fun (k : Nat) => lo + (k : Int)).map T.int := by
  unfold rgV rngL
  rw [List.map_map, List.map_map]
  refine ⟨rfl, List.map_congr_left fun k _ => ?_⟩
  show T.int (lo + (k : Int) * 1) = T.int (lo + (k : Int))
  rw [Int.mul_one]
theorem Sat.newIntsT {H : Hp} {C : List Addr} {P : List Pin} {L : VT} (s : Sat K H C P L) (ns : List Int) {p : Addr} (hp : H p = none) : Sat K (upd H p (.tup (ns.map V.int))) C P ((.ref p, .tup (ns.map T.int)) :: L) := by
  have := (sat_ints s ns).newTup hp
  rw [(zip_ints ns).1, (zip_ints ns).2] at this
  exact this
def fLrng (tp : Bool) (f : Env → R T) (ε : Env) : R T := bnd (f ε) fun t ε1 => match t with
    | .int n => ofO ((rng 0 n).map (asSeq tp)) ε1
    | _ => .no
def fLrng2 (tp : Bool) (f f' : Env → R T) (ε : Env) : R T := bnd (f ε) fun t ε1 => bnd (f' ε1) fun u ε2 => match t, u with
    | .int m, .int n => ofO ((rng m n).map (asSeq tp)) ε2
    | _, _ => .no
def fLrev (tp : Bool) (f : Env → R T) (ε : Env) : R T := bnd (f ε) fun t ε1 => match t with
    | .lst _ xs => .ok (asSeq tp (frzL xs).reverse) ε1
    | _ => .no
theorem SR.rngNew {σ : L2.St} {ε : Env} {F : Fr} {H : Hp} (s : SR K σ ε F H) (lo hi : Int) {q : Addr} (hq : H q = none) : SR K σ ε (F.push (.ref q, .lst true (rngL lo (hi - lo).toNat 1))) (upd H q (.lst (rgV lo hi))) ∧ SR K σ ε (F.push (.ref q, .tup (rngL lo (hi - lo).toNat 1))) (upd H q (.tup (rgV lo hi))) := by
  obtain ⟨e1, e2⟩ := rgV_rngL lo hi
  rw [e1, e2]
  exact ⟨⟨s.al, s.ch.upd, Sat.newInts (L := F.R ++ slots σ ε) s.sat s.ch _ hq⟩, ⟨s.al, s.ch.upd, Sat.newIntsT (L := F.R ++ slots σ ε) s.sat _ hq⟩⟩
theorem read_rg1 {tp : Bool} {σ : L2.St} {H : Hp} {Q : VK} (w : tE K (fLrng tp f) σ H Q) : (if tp then tTupRg (tRg1 (tE K f)) σ H Q else tLstRg (tRg1 (tE K f)) σ H Q) := by
  obtain ⟨ε, F, t, ε', s, e, k⟩ := w
  obtain ⟨t1, ε1, h1, e⟩ := bnd_inv e
  cases t1 with
  | int n =>
    obtain ⟨e2, rfl⟩ := ofO_inv e
    obtain ⟨ts, e3, rfl⟩ := Option.map_eq_some_iff.mp e2
    obtain ⟨rfl, a1, a2, a3, a4, a5⟩ := rng_inv e3
    have hLL : LL = 16777216 := rfl
    have ok : RgOk 0 n := ⟨by omega, by omega, by omega, by omega, by omega⟩
    cases tp with
    | true =>
      refine ⟨ε, F, _, _, s, h1, fun v H1 s1 => ?_⟩
      obtain rfl := s1.sat.isInt List.mem_cons_self
      exact ⟨n, rfl, ok, fun q hq => k _ _ (s1.pop.rngNew 0 n hq).2⟩
    | false =>
      refine ⟨ε, F, _, _, s, h1, fun v H1 s1 => ?_⟩
      obtain rfl := s1.sat.isInt List.mem_cons_self
      exact ⟨n, rfl, ok, fun q hq => k _ _ (s1.pop.rngNew 0 n hq).1⟩
  | _ => cases e
theorem read_rg2 {tp : Bool} {σ : L2.St} {H : Hp} {Q : VK} (w : tE K (fLrng2 tp f f') σ H Q) : (if tp then tTupRg (tRg2 (tE K f) (tE K f')) σ H Q else tLstRg (tRg2 (tE K f) (tE K f')) σ H Q) := by
  obtain ⟨ε, F, t, ε', s, e, k⟩ := w
  obtain ⟨t1, ε1, h1, e⟩ := bnd_inv e
  obtain ⟨t2, ε2, h2, e⟩ := bnd_inv e
  cases t1 with
  | int m =>
    cases t2 with
    | int n =>
      obtain ⟨e2, rfl⟩ := ofO_inv e
      obtain ⟨ts, e3, rfl⟩ := Option.map_eq_some_iff.mp e2
      obtain ⟨rfl, a1, a2, a3, a4, a5⟩ := rng_inv e3
      have hLL : LL = 16777216 := rfl
      have ok : RgOk m n := ⟨by omega, by omega, by omega, by omega, by omega⟩
      cases tp with
      | true =>
        refine ⟨ε, F, _, _, s, h1, fun v H1 s1 => ⟨ε1, _, _, _, s1, h2, fun w H2 s2 => ?_⟩⟩
        obtain rfl := s2.sat.isInt (i := n) List.mem_cons_self
        obtain rfl := s2.sat.isInt (i := m) (List.mem_cons_of_mem _ List.mem_cons_self)
        exact ⟨m, n, rfl, rfl, ok, fun q hq => k _ _ (s2.pop.pop.rngNew m n hq).2⟩
      | false =>
        refine ⟨ε, F, _, _, s, h1, fun v H1 s1 => ⟨ε1, _, _, _, s1, h2, fun w H2 s2 => ?_⟩⟩
        obtain rfl := s2.sat.isInt (i := n) List.mem_cons_self
        obtain rfl := s2.sat.isInt (i := m) (List.mem_cons_of_mem _ List.mem_cons_self)
        exact ⟨m, n, rfl, rfl, ok, fun q hq => k _ _ (s2.pop.pop.rngNew m n hq).1⟩
    | _ => cases e
  | _ => cases e
def seqNm (tp : Bool) : Str := if tp then "tuple" else "list"
theorem pe_lrng1 {tp : Bool} (hc : X.calm = true) (hg : Gl X (seqNm tp)) (hm : X.mg (seqNm tp) = none) (hg2 : Gl X "range") (hm2 : X.mg "range" = none) (ha : PE X a (tE X.K f)) (hs : isStar a = false) :
    PE X (.Call (.Name (seqNm tp) p) [.Call (.Name "range" p2) [a] [] pos2] [] pos) (tE X.K (fLrng tp f)) := by
  cases tp with
  | true => exact pe_imp (pe_tupRg hc hg hm (prg_1 hg2 hm2 ha (star1 hs)) rfl) fun σ H Q w => read_rg1 (tp := true) w
  | false => exact pe_imp (pe_listRg hc hg hm (prg_1 hg2 hm2 ha (star1 hs)) rfl) fun σ H Q w => read_rg1 (tp := false) w
theorem pe_lrng2 {tp : Bool} (hc : X.calm = true) (hg : Gl X (seqNm tp)) (hm : X.mg (seqNm tp) = none) (hg2 : Gl X "range") (hm2 : X.mg "range" = none) (ha : PE X a (tE X.K f)) (hb : PE X b (tE X.K f')) (hs : isStar a = false) (hs2 : isStar b = false) :
    PE X (.Call (.Name (seqNm tp) p) [.Call (.Name "range" p2) [a, b] [] pos2] [] pos) (tE X.K (fLrng2 tp f f')) := by
  cases tp with
  | true => exact pe_imp (pe_tupRg hc hg hm (prg_2 hg2 hm2 ha hb (star1 hs) (star1 hs2) (noStar_any (by simp [noStar, hs2]))) rfl) fun σ H Q w => read_rg2 (tp := true) w
  | false => exact pe_imp (pe_listRg hc hg hm (prg_2 hg2 hm2 ha hb (star1 hs) (star1 hs2) (noStar_any (by simp [noStar, hs2]))) rfl) fun σ H Q w => read_rg2 (tp := false) w
theorem pe_lrev' {tp : Bool} (hc : X.calm = true) (hg : Gl X (seqNm tp)) (hm : X.mg (seqNm tp) = none) (hg2 : Gl X "reversed") (hm2 : X.mg "reversed" = none) (he : PE X e (tE X.K f)) (hs : isStar e = false) :
    PE X (.Call (.Name (seqNm tp) p) [.Call (.Name "reversed" p2) [e] [] pos2] [] pos) (tE X.K (fLrev tp f)) := by
  have key : ∀ {σ : L2.St} {H : Hp} {Q : VK}, tE X.K (fLrev tp f) σ H Q → tE X.K f σ H fun v H1 => ∃ (a : Addr) (xs : List V), v = .ref a ∧ SqL X.K H1 a xs ∧ ∀ q, H1 q = none → Q (.ref q) (upd H1 q (if tp then .tup xs.reverse else .lst xs.reverse)) := fun {σ H Q} ⟨ε, F, t, ε', s, e, k⟩ => by
    obtain ⟨t1, ε1, h1, e⟩ := bnd_inv e
    cases t1 with
    | lst o xs =>
      cases e
      refine ⟨ε, F, _, _, s, h1, fun v H1 s1 => ?_⟩
      obtain ⟨a, L1, o1, rfl, e1, s2, ⟨rfl, _⟩ | ⟨_, _, z⟩⟩ := s1.walk (xs := frzL xs) rfl
      · have hH : H1 a = some (.lst (L1.map (·.1))) := (Sat.facts (P := F.P) s2.sat) _ (List.mem_singleton.mpr rfl)
        refine ⟨a, _, rfl, SqL.of hH, fun q hq => k _ _ ?_⟩
        have s3 : Sat X.K H1 F.C F.P (L1.reverse ++ (F.R ++ slots σ ε')) := by
          have z : Sat X.K H1 F.C ([⟨a, HO.lst (L1.map (·.1)), rfl⟩] ++ F.P) ((L1 ++ F.R) ++ slots σ ε') := s2.sat
          rw [List.append_assoc] at z
          exact (Sat.fewP z).perm ((List.reverse_perm L1).symm.append_right _)
        have em1 : L1.reverse.map (·.1) = (L1.map (·.1)).reverse := List.map_reverse
        have em2 : L1.reverse.map (·.2) = (frzL xs).reverse := by rw [List.map_reverse, e1]
        cases tp with
        | true =>
          have s4 := s3.newTup hq
          rw [em1, em2] at s4
          exact ⟨s1.al, s1.ch.upd, s4⟩
        | false =>
          have s4 := s3.newLst s1.ch hq
          rw [em1, em2] at s4
          exact ⟨s1.al, s1.ch.upd, s4⟩
      · cases z
    | _ => cases e
  cases tp with
  | true => exact pe_imp (RT.pe_tupRev hc hg hm hg2 hm2 he (star1 hs) rfl) fun σ H Q w => key w
  | false => exact pe_imp (pe_lstRev hc hg hm hg2 hm2 he hs) fun σ H Q w => key w
end
end Tq
end

section
set_option Elab.async false
set_option maxRecDepth 100000
set_option maxHeartbeats 4000000
/-! TLs31: defs and their calls (nothing is shown while they run: guards). -/
namespace Tq
open PySem PySem.Spec PyProof.Rows L2
theorem guards_deeper {A : Around} {env : PySem.Env} (h : A.guards = some []) : (A.deeper env).guards = some [] := by
  first | exact h | (simp [Around.deeper, h])
structure FnG (P : Program) (w : World) (K : PySem.W.Frag) (mg : Str → Option Value) (base : Heap) (k : Nat) (f : Addr) (fd : FuncData) (ps : List Str) (sp : Sp) : Prop where
  len : ∀ vs H Q E, sp vs H Q E → vs.length = ps.length
  run : ∀ (A : Around) (outer : List PySem.Env) (s : Shared) (H : Hp) (args : Args) (us : List Value) (vs : List V) (Q : VK) (E : XK), Room k A → A.guards = some [] → Env0 P w K mg base A outer s H → BindsTo s fd args (ps.zip us) → Vals vs us → sp vs H Q E →
    codeAny (model P w) A (.call (.ref f) args) (CR CX0 outer P w H s Q E) s
section
variable {X : Cx} {k : Nat} {f : Addr} {fd : FuncData} {ps ks : List Str} {sp : Sp} {x : Str} {p pos : Pos} {e : Expr} {es : List Expr} {kws : List Keyword} {t tk : TA}
theorem FnG.mono {P : Program} {w : World} {K : PySem.W.Frag} {mg : Str → Option Value} {base : Heap} {j : Nat} (F : FnG P w K mg base j f fd ps sp) (h : j ≤ k) : FnG P w K mg base k f fd ps sp :=
  ⟨F.len, fun A outer s H args us vs Q E hr => F.run A outer s H args us vs Q E (hr.mono h)⟩
theorem runG {pins : List (Addr × Obj)} {σ : L2.St} {H : Hp} {s : Shared} {Q : VK} {args : Args} {us : List Value} {vs : List V} (F : FnG X.prog X.w X.K X.mg X.base k f fd ps sp) (hr : Room k X.A) (hg : X.A.guards = some []) (hb : BindsTo s fd args (ps.zip us))
    (I : Inv X pins σ H s) (r : Vals vs us) (h : sp vs H Q E0) : wpAny (model X.prog X.w) X.A (call (.ref f) args.pos args.kw) (EP X pins σ Q) X.xe s := by
  refine wpAny_call (codeAny_mono (F.run X.A X.stack s H args us vs Q E0 hr hg I.env0 hb r h) fun r s' hq => ?_)
  cases r with
  | error e => exact False.elim hq
  | ok fl =>
    cases fl with
    | ret u => exact I.after hq
    | next => exact False.elim hq
    | brk => exact False.elim hq
    | cont => exact False.elim hq
/-- f(e, ..) -/
theorem pe_callG (F : FnG X.prog X.w X.K X.mg X.base k f fd ps sp) (hr : Room k X.A) (hgd : X.A.guards = some []) (hg : Gl X x) (hm : X.mg x = some (.ref f)) (hk : PySem.W.keepIn X.K (.ref f) = true)
    (hb : ∀ (s : Shared) (us : List Value), us.length = ps.length → BindsTo s fd ⟨us, []⟩ (ps.zip us)) (ha : PA X (e :: es) t) (hdb : (x == ("__debug__" : Str)) = false) (hs : noStar (e :: es) = true) :
    PE X (.Call (.Name x p) (e :: es) [] pos) (fun σ H Q => t σ H fun vs H1 => sp vs H1 Q E0) := by
  refine ⟨fun pins s σ H Q I h => ?_⟩
  refine wpAny_Call_Name_kw (ld_glob I hg hm ?_ hdb)
  refine PySem.W.callWith_K (h₀ := X.base) I.ok.mod.kin hk (thn (ha.run pos pins s σ H _ I h) fun us s1 ⟨vs, H1, I1, r, q⟩ => ⟨I1.kIn, ?_⟩) (star1 (noStar_head hs).1) (noStar_any (noStar_head hs).2)
  exact runG (args := ⟨us, []⟩) F hr hgd (hb s1 us (by rw [← r.length]; exact F.len _ _ _ _ q)) I1 r q
/-- f() -/
theorem pe_callG0 (F : FnG X.prog X.w X.K X.mg X.base k f fd ps sp) (hr : Room k X.A) (hgd : X.A.guards = some []) (hg : Gl X x) (hm : X.mg x = some (.ref f)) (hk : PySem.W.keepIn X.K (.ref f) = true)
    (hb : ∀ (s : Shared) (us : List Value), us.length = ps.length → BindsTo s fd ⟨us, []⟩ (ps.zip us)) (hdb : (x == ("__debug__" : Str)) = false) :
    PE X (.Call (.Name x p) [] [] pos) (fun σ H Q => sp [] H Q E0) := by
  refine ⟨fun pins s σ H Q I h => ?_⟩
  refine wpAny_Call_Name_kw (ld_glob I hg hm ?_ hdb)
  exact PySem.W.callWith_K0 I.kIn hk (runG (args := ⟨[], []⟩) F hr hgd (hb s [] (by have := F.len _ _ _ _ h; simpa using this)) I .nil h)
/-- f(k = v, ..), all in the parameters' order -/
theorem pe_callGK0 (F : FnG X.prog X.w X.K X.mg X.base k f fd ps sp) (hr : Room k X.A) (hgd : X.A.guards = some []) (hg : Gl X x) (hm : X.mg x = some (.ref f)) (hk : PySem.W.keepIn X.K (.ref f) = true)
    (hb : ∀ (s : Shared) (us : List Value), us.length = ps.length → BindsTo s fd ⟨[], ps.zip us⟩ (ps.zip us)) (hkw : PK X kws t) (hall : ∀ pos, (backToKw pos (keywordEach kws X.env)).all (·.1.isSome) = true) (hks : ∀ pos, (backToKw pos (keywordEach kws X.env)).filterMap (·.1) = ps) (hdb : (x == ("__debug__" : Str)) = false) :
    PE X (.Call (.Name x p) [] kws pos) (fun σ H Q => t σ H fun vs H1 => sp vs H1 Q E0) := by
  have hno : (backToKw pos (keywordEach kws X.env)).any (·.1.isNone) = false := by
    rw [List.any_eq_false]
    intro q hq
    have := (List.all_eq_true.mp (hall pos)) q hq
    cases h : q.1 with
    | none => rw [h] at this; cases this
    | some _ => simp
  refine ⟨fun pins s σ H Q I h => ?_⟩
  refine wpAny_Call_Name_kw (ld_glob I hg hm ?_ hdb)
  refine PySem.W.callWith_KW0 (h₀ := X.base) I.ok.mod.kin hk (hall pos) (thn (hkw.run pos pins s σ H _ I h) fun us s1 ⟨vs, H1, I1, r, q⟩ => ⟨I1.kIn, ?_⟩) (by rw [hno]; rfl)
  rw [hks pos]
  exact runG (args := ⟨[], ps.zip us⟩) F hr hgd (hb s1 us (by rw [← r.length]; exact F.len _ _ _ _ q)) I1 r q
theorem perm_vals : ∀ {ord : List Nat} {vs : List V} {us : List Value} {xs : List V}, Vals vs us → perm vs ord = some xs → ∃ zs, perm us ord = some zs ∧ Vals xs zs
  | [], _, _, _, _, e => by
    simp only [perm] at e ⊢
    cases e
    exact ⟨[], rfl, .nil⟩
  | i :: ord, vs, us, xs, r, e => by
    simp only [perm] at e ⊢
    cases h1 : vs[i]? with
    | none => rw [h1] at e; cases e
    | some x =>
      cases h2 : perm vs ord with
      | none => rw [h1, h2] at e; cases e
      | some ys =>
        rw [h1, h2] at e
        cases e
        obtain ⟨u, g1, g2⟩ := r.get h1
        obtain ⟨zs, g3, g4⟩ := perm_vals r h2
        exact ⟨u :: zs, by rw [g1, g3], .cons g2 g4⟩
/-- how all keywords in one order bind -/
def BindsK (fd : FuncData) (ps ks : List Str) (ord : List Nat) : Prop := ∀ (s : Shared) (ws us : List Value), ws.length = ks.length → perm ws ord = some us → BindsTo s fd ⟨[], ks.zip ws⟩ (ps.zip us)
theorem pe_callGKp {ord : List Nat} (F : FnG X.prog X.w X.K X.mg X.base k f fd ps sp) (hr : Room k X.A) (hgd : X.A.guards = some []) (hg : Gl X x) (hm : X.mg x = some (.ref f)) (hk : PySem.W.keepIn X.K (.ref f) = true)
    (hb : BindsK fd ps ks ord) (hkw : PK X kws t) (hall : ∀ pos, (backToKw pos (keywordEach kws X.env)).all (·.1.isSome) = true) (hks : ∀ pos, (backToKw pos (keywordEach kws X.env)).filterMap (·.1) = ks) (hdb : (x == ("__debug__" : Str)) = false) :
    PE X (.Call (.Name x p) [] kws pos) (fun σ H Q => t σ H fun vs H1 => vs.length = ks.length ∧ ∃ xs, perm vs ord = some xs ∧ sp xs H1 Q E0) := by
  have hno : (backToKw pos (keywordEach kws X.env)).any (·.1.isNone) = false := by
    rw [List.any_eq_false]
    intro q hq
    have := (List.all_eq_true.mp (hall pos)) q hq
    cases h : q.1 with
    | none => rw [h] at this; cases this
    | some _ => simp
  refine ⟨fun pins s σ H Q I h => ?_⟩
  refine wpAny_Call_Name_kw (ld_glob I hg hm ?_ hdb)
  refine PySem.W.callWith_KW0 (h₀ := X.base) I.ok.mod.kin hk (hall pos) (thn (hkw.run pos pins s σ H _ I h) fun us s1 ⟨vs, H1, I1, r, hl, xs, hp, q⟩ => ⟨I1.kIn, ?_⟩) (by rw [hno]; rfl)
  rw [hks pos]
  obtain ⟨zs, z1, z2⟩ := perm_vals r hp
  exact runG (args := ⟨[], ks.zip us⟩) F hr hgd (hb s1 us zs (by rw [← r.length]; exact hl) z1) I1 z2 q
end
end Tq
end

section
set_option Elab.async false
set_option maxRecDepth 100000
set_option maxHeartbeats 4000000
/-! TLs32: a def's promise in trees; calls. -/
namespace Tq
open PySem PySem.Spec PyProof.Rows L2
/-- what comes back of the arguments -/
def back : List V → List (Option T) → VT
  | v :: vs, some t :: os => (v, t) :: back vs os
  | _ :: vs, none :: os => back vs os
  | _, _ => []
def spT (K : PySem.W.Frag) (call : Fns) (f n : Nat) : Sp := fun vs H Q _ => ∃ (F : Fr) (ts : List T) (t : T) (outs : List (Option T)), vs.length = ts.length ∧ ts.length = n ∧ CH H F.C ∧ Sat K H F.C F.P (vs.zip ts ++ F.R) ∧ call f ts = .ok t outs ∧
  ∀ v H', CH H' F.C → Sat K H' F.C F.P ((v, t) :: (back vs outs ++ F.R)) → Q v H'
section
variable {K : PySem.W.Frag} {σ : L2.St} {ε ε' : Env} {F : Fr} {H H' : Hp} {v w : V} {t u : T} {i : Nat}
theorem ops_push : ∀ {vs : List V} {os : List Op} {F : Fr} {p : V × T}, ((F.push p).ops vs os).R.Perm (p :: (F.ops vs os).R) ∧ ((F.push p).ops vs os).C = F.C ∧ ((F.push p).ops vs os).P = F.P ∧ (F.ops vs os).C = F.C ∧ (F.ops vs os).P = F.P
  | [], _, F, p => ⟨.refl _, rfl, rfl, rfl, rfl⟩
  | _ :: _, [], F, p => ⟨.refl _, rfl, rfl, rfl, rfl⟩
  | v :: vs, .s i :: os, F, p => ops_push (vs := vs) (os := os) (F := F) (p := p)
  | v :: vs, .t t :: os, F, p => by
    have h1 := ops_push (vs := vs) (os := os) (F := F.push p) (p := (v, t))
    have h2 := ops_push (vs := vs) (os := os) (F := F) (p := (v, t))
    have h3 := ops_push (vs := vs) (os := os) (F := F) (p := p)
    refine ⟨?_, h1.2.1, h1.2.2.1, h2.2.1, h2.2.2.1⟩
    show (((F.push p).push (v, t)).ops vs os).R.Perm (p :: ((F.push (v, t)).ops vs os).R)
    exact h1.1.trans (((h3.1.cons (v, t))).trans ((List.Perm.swap p (v, t) _).trans (h2.1.symm.cons p)))
theorem Sat.re {C C' : List Addr} {P P' : List Pin} {L L' : VT} (s : Sat K H C P L) (hc : C = C') (hp : P = P') (h : L.Perm L') : Sat K H C' P' L' := by subst hc; subst hp; exact s.perm h
theorem takes_ok : ∀ {os : List Op} {vs : List V} {F : Fr} {ε ε' : Env} {ts : List T}, SR K σ ε (F.ops vs os) H → OpsOk σ vs os → vs.length = os.length → takes ε os = some (ts, ε') →
    vs.length = ts.length ∧ Al σ ε' ∧ Sat K H F.C F.P (vs.zip ts ++ (F.R ++ slots σ ε'))
  | [], [], F, ε, ε', ts, s, ok, hl, e => by
    simp only [takes] at e
    cases e
    exact ⟨rfl, s.al, s.sat⟩
  | .t t :: os, v :: vs, F, ε, ε', ts, s, ok, hl, e => by
    simp only [takes] at e
    cases h : takes ε os with
    | none => rw [h] at e; cases e
    | some p =>
      obtain ⟨ts1, ε1⟩ := p
      rw [h] at e
      cases e
      obtain ⟨h1, h2, h3⟩ := takes_ok (F := F.push (v, t)) s ok.2 (by simpa using hl) h
      refine ⟨by simp [h1], h2, h3.re rfl rfl ?_⟩
      exact List.perm_middle
  | .s i :: os, v :: vs, F, ε, ε', ts, s, ok, hl, e => by
    simp only [takes] at e
    cases g : gt ε i with
    | none => rw [g] at e; cases e
    | some t =>
      rw [g] at e
      have e : (match takes (if t.sh then ε else st ε i none) os with
        | some (ts, ε') => some (t :: ts, ε')
        | none => none) = some (ts, ε') := e
      cases h : takes (if t.sh then ε else st ε i none) os with
      | none => rw [h] at e; cases e
      | some p =>
        obtain ⟨ts1, ε1⟩ := p
        rw [h] at e
        cases e
        have s0 : SR K σ ε (F.ops vs os) H := s
        obtain ⟨w, hw, s1⟩ := s0.var g
        have ew : w = v := by
          have h1 : σ[i]? = some (some v) := ok.1
          rw [hw] at h1
          cases h1
          rfl
        subst ew
        obtain ⟨q1, q2, q3, q4, q5⟩ := ops_push (vs := vs) (os := os) (F := F) (p := (w, t))
        have s2 : SR K σ (if t.sh then ε else st ε i none) ((F.push (w, t)).ops vs os) H := ⟨s1.al, by rw [q2, ← q4]; exact s1.ch, s1.sat.re (q4.trans q2.symm) (q5.trans q3.symm) (q1.symm.append_right _)⟩
        obtain ⟨h1, h2, h3⟩ := takes_ok (F := F.push (w, t)) s2 ok.2 (by simpa using hl) h
        refine ⟨by simp [h1], h2, h3.re rfl rfl ?_⟩
        exact List.perm_middle
theorem gives_ok : ∀ {os : List Op} {vs : List V} {F : Fr} {ε : Env} {ts : List T} {outs : List (Option T)}, Al σ ε → CH H F.C → Sat K H F.C F.P (back vs outs ++ (F.R ++ slots σ ε)) → OpsOk σ vs os → vs.length = os.length → SR K σ (gives ε os ts outs) F H
  | [], vs, F, ε, ts, outs, a, c, s, ok, hl => by
    rw [show gives ε [] ts outs = ε by cases ts <;> cases outs <;> rfl]
    exact ⟨a, c, s.dropL⟩
  | o :: os, v :: vs, F, ε, [], outs, a, c, s, ok, hl => by
    rw [show gives ε (o :: os) [] outs = ε by cases o <;> cases outs <;> rfl]
    exact ⟨a, c, s.dropL⟩
  | o :: os, v :: vs, F, ε, t :: ts, [], a, c, s, ok, hl => by
    rw [show gives ε (o :: os) (t :: ts) [] = ε by cases o <;> rfl]
    exact ⟨a, c, s.dropL⟩
  | .t u :: os, v :: vs, F, ε, t :: ts, o :: outs, a, c, s, ok, hl => by
    show SR K σ (gives ε os ts outs) F H
    refine gives_ok a c ?_ ok.2 (by simpa using hl)
    cases o with
    | none => exact s
    | some x => exact s.drop
  | .s i :: os, v :: vs, F, ε, t :: ts, o :: outs, a, c, s, ok, hl => by
    show SR K σ (gives (if t.sh then ε else st ε i o) os ts outs) F H
    have hv : σ[i]? = some (some v) := ok.1
    have s1 : Sat K H F.C F.P (back vs outs ++ (F.R ++ slots σ ε)) := by
      cases o with
      | none => exact s
      | some x => exact s.drop
    by_cases ht : t.sh = true
    · rw [if_pos ht]
      exact gives_ok a c s1 ok.2 (by simpa using hl)
    · rw [if_neg ht]
      have none_ : ∀ {L : VT}, Sat K H F.C F.P (L ++ (F.R ++ slots σ ε)) → Sat K H F.C F.P (L ++ (F.R ++ slots σ (st ε i none))) := fun {L} q => by
        cases g : gt ε i with
        | none => rw [st_none g]; exact q
        | some y =>
          obtain ⟨w, _, p⟩ := slots_take a g
          have q2 := q.perm ((p.append_left F.R).append_left L)
          have pm : (L ++ (F.R ++ (w, y) :: slots σ (st ε i none))).Perm ((w, y) :: (L ++ (F.R ++ slots σ (st ε i none)))) := (List.Perm.append_left L List.perm_middle).trans List.perm_middle
          exact (q2.perm pm).drop
      cases o with
      | none => exact gives_ok (a.none i) c (none_ s1) ok.2 (by simpa using hl)
      | some x =>
        obtain ⟨f1, f2⟩ := slots_fill (t := x) a hv
        have s2 : Sat K H F.C F.P (((v, x) :: back vs outs) ++ (F.R ++ slots σ ε)) := s
        refine gives_ok f1 c ?_ ok.2 (by simpa using hl)
        have s3 := none_ s2
        have pm : (((v, x) :: back vs outs) ++ (F.R ++ slots σ (st ε i none))).Perm (back vs outs ++ (F.R ++ slots σ (st ε i (some x)))) := by
          refine List.Perm.trans ?_ ((f2.symm.append_left F.R).append_left _)
          refine List.Perm.trans ?_ (List.Perm.append_left _ List.perm_middle.symm)
          exact List.perm_middle.symm
        exact s3.perm pm
theorem call_ready {X : Cx} {call : Fns} {f n : Nat} {C : Cn} (hC : C.call = call) (hn : ∀ ts t outs, call f ts = .ok t outs → ts.length = n) {σ : L2.St} {H1 : Hp} {Q : VK} {F : Fr} {vs : List V} {os : List Op} {ε1 ε' : Env} {t : T}
    (s1 : SR X.K σ ε1 (F.ops vs os) H1) (ok : OpsOk σ vs os) (hl : vs.length = os.length) (e2 : calls C f os ε1 = .ok t ε') (k : ∀ v H', SR X.K σ ε' (F.push (v, t)) H' → Q v H') : spT X.K call f n vs H1 Q E0 := by
  unfold calls at e2
  cases h : takes ε1 os with
  | none => rw [h] at e2; cases e2
  | some p =>
    obtain ⟨ts, ε2⟩ := p
    rw [h] at e2
    have e2 : (match C.call f ts with
      | .ok t outs => R.ok t (gives ε2 os ts outs)
      | .ex x => .ex x ε2
      | .no => .no) = .ok t ε' := e2
    rw [hC] at e2
    cases h2 : call f ts with
    | no => rw [h2] at e2; cases e2
    | ex x => rw [h2] at e2; cases e2
    | ok t' outs =>
      rw [h2] at e2
      cases e2
      obtain ⟨g1, g2, g3⟩ := takes_ok s1 ok hl h
      obtain ⟨-, -, -, q4, q5⟩ := ops_push (vs := vs) (os := os) (F := F) (p := (.non, .non))
      refine ⟨⟨F.C, F.P, F.R ++ slots σ ε2⟩, ts, t, outs, g1, hn _ _ _ h2, by rw [← q4]; exact s1.ch, g3, h2, fun v H' c' s' => k v H' ?_⟩
      have s2 : Sat X.K H' F.C F.P ((v, t) :: (back vs outs ++ (F.R ++ slots σ ε2))) := s'
      refine gives_ok (F := F.push (v, t)) g2 c' (s2.re rfl rfl ?_) ok hl
      exact List.perm_middle.symm
/-- the reading of a call -/
theorem read_call {X : Cx} {call : Fns} {f n : Nat} {C : Cn} {g : Env → R (List Op)} (hC : C.call = call) (hn : ∀ ts t outs, call f ts = .ok t outs → ts.length = n) {σ : L2.St} {H : Hp} {Q : VK} (w : tE X.K (fun ε => bnd (g ε) fun os ε1 => calls C f os ε1) σ H Q) :
    tOs X.K g σ H fun vs H1 => spT X.K call f n vs H1 Q E0 := by
  obtain ⟨ε, F, t, ε', s, e, k⟩ := w
  obtain ⟨os, ε1, e1, e2⟩ := bnd_inv e
  exact ⟨ε, F, os, ε1, s, e1, fun vs H1 hl s1 ok => call_ready hC hn s1 ok hl e2 k⟩
theorem perm_fm {α : Type} {xs : List α} : ∀ {ord : List Nat} {ys : List α}, perm xs ord = some ys → ord.filterMap (fun i => xs[i]?) = ys
  | [], ys, e => by simp only [perm] at e; cases e; rfl
  | i :: ord, ys, e => by
    simp only [perm] at e
    cases h1 : xs[i]? with
    | none => rw [h1] at e; cases e
    | some x =>
      cases h2 : perm xs ord with
      | none => rw [h1, h2] at e; cases e
      | some zs =>
        rw [h1, h2] at e
        cases e
        rw [List.filterMap_cons, h1, perm_fm h2]
theorem fm_range {α : Type} : ∀ (xs : List α), (List.range xs.length).filterMap (fun i => xs[i]?) = xs := by
  intro xs
  induction xs with
  | nil => rfl
  | cons x xs ih =>
    rw [List.length_cons, List.range_succ_eq_map, List.filterMap_cons]
    simp only [List.getElem?_cons_zero, List.filterMap_map]
    congr 1
theorem perm_perm {α : Type} {xs ys : List α} {ord : List Nat} (e : perm xs ord = some ys) (h : ord.isPerm (List.range xs.length) = true) : ys.Perm xs := by
  have p := List.isPerm_iff.mp h
  rw [← perm_fm e]
  conv => rhs; rw [← fm_range xs]
  exact p.filterMap _
theorem perm_zip {α β : Type} {xs : List α} {ys : List β} (hl : xs.length = ys.length) : ∀ {ord : List Nat} {xs' : List α} {ys' : List β}, perm xs ord = some xs' → perm ys ord = some ys' → perm (xs.zip ys) ord = some (xs'.zip ys') ∧ xs'.length = ys'.length
  | [], xs', ys', e, e2 => by
    simp only [perm] at e e2 ⊢
    cases e; cases e2
    exact ⟨rfl, rfl⟩
  | i :: ord, xs', ys', e, e2 => by
    simp only [perm] at e e2 ⊢
    cases h1 : xs[i]? with
    | none => rw [h1] at e; cases e
    | some x =>
      cases h2 : perm xs ord with
      | none => rw [h1, h2] at e; cases e
      | some zs =>
        cases g1 : ys[i]? with
        | none => rw [g1] at e2; cases e2
        | some y =>
          cases g2 : perm ys ord with
          | none => rw [g1, g2] at e2; cases e2
          | some us =>
            rw [h1, h2] at e
            rw [g1, g2] at e2
            cases e; cases e2
            obtain ⟨k1, k2⟩ := perm_zip hl h2 g2
            rw [k1, show (xs.zip ys)[i]? = some (x, y) from List.getElem?_zip_eq_some.mpr ⟨h1, g1⟩]
            exact ⟨rfl, by simp [k2]⟩

def tv (l : List (V × Op)) : VT := l.filterMap fun p => match p.2 with
  | .t t => some (p.1, t)
  | .s _ => none
theorem ops_tv : ∀ {vs : List V} {os : List Op} {F : Fr}, vs.length = os.length → (F.ops vs os).R.Perm (tv (vs.zip os) ++ F.R) ∧ (F.ops vs os).C = F.C ∧ (F.ops vs os).P = F.P
  | [], [], F, _ => ⟨.refl _, rfl, rfl⟩
  | v :: vs, .s i :: os, F, h => ops_tv (vs := vs) (os := os) (F := F) (by simpa using h)
  | v :: vs, .t t :: os, F, h => by
    obtain ⟨h1, h2, h3⟩ := ops_tv (vs := vs) (os := os) (F := F.push (v, t)) (by simpa using h)
    exact ⟨h1.trans List.perm_middle, h2, h3⟩
theorem opsOk_iff {σ : L2.St} : ∀ {vs : List V} {os : List Op}, vs.length = os.length → (OpsOk σ vs os ↔ ∀ p ∈ vs.zip os, OpOk σ p.1 p.2)
  | [], [], _ => ⟨fun _ p hp => (nomatch hp), fun _ => trivial⟩
  | v :: vs, o :: os, h => by
    rw [List.zip_cons_cons, List.forall_mem_cons, ← opsOk_iff (vs := vs) (os := os) (by simpa using h)]
    rfl
theorem perm_some {α β : Type} {xs : List α} {ys : List β} (hl : ys.length = xs.length) : ∀ {ord : List Nat} {xs' : List α}, perm xs ord = some xs' → ∃ ys', perm ys ord = some ys'
  | [], _, _ => ⟨[], by simp only [perm]⟩
  | i :: ord, xs', e => by
    simp only [perm] at e ⊢
    cases h1 : xs[i]? with
    | none => rw [h1] at e; cases e
    | some x =>
      cases h2 : perm xs ord with
      | none => rw [h1, h2] at e; cases e
      | some zs =>
        obtain ⟨us, h3⟩ := perm_some hl h2
        have hi : i < ys.length := by rw [hl]; exact (List.getElem?_eq_some_iff.mp h1).1
        exact ⟨ys[i] :: us, by rw [h3, List.getElem?_eq_getElem hi]⟩
theorem read_callk {X : Cx} {call : Fns} {f n : Nat} {C : Cn} {g : Env → R (List Op)} {ord : List Nat} {m : Nat} (hC : C.call = call) (hn : ∀ ts t outs, call f ts = .ok t outs → ts.length = n) (ho : ord.isPerm (List.range m) = true) (hm : ∀ ε os ε', g ε = .ok os ε' → os.length = m) {σ : L2.St} {H : Hp} {Q : VK}
    (w : tE X.K (fun ε => bnd (g ε) fun os ε1 => match perm os ord with | some ws => calls C f ws ε1 | none => .no) σ H Q) :
    tOs X.K g σ H fun vs H1 => ∃ xs, perm vs ord = some xs ∧ spT X.K call f n xs H1 Q E0 := by
  obtain ⟨ε, F, t, ε', s, e, k⟩ := w
  obtain ⟨os, ε1, e1, e2⟩ := bnd_inv e
  refine ⟨ε, F, os, ε1, s, e1, fun vs H1 hl s1 ok => ?_⟩
  cases hp : perm os ord with
  | none => simp only [hp] at e2; cases e2
  | some ws =>
    simp only [hp] at e2
    obtain ⟨xs, hx⟩ := perm_some (ys := vs) hl hp
    obtain ⟨hz, hlx⟩ := perm_zip hl hx hp
    have hmz : (vs.zip os).length = m := by rw [List.length_zip, hl, Nat.min_self]; exact hm _ _ _ e1
    have pz : (xs.zip ws).Perm (vs.zip os) := perm_perm hz (by rw [hmz]; exact ho)
    refine ⟨xs, hx, ?_⟩
    obtain ⟨o1, o2, o3⟩ := ops_tv (vs := vs) (os := os) (F := F) hl
    obtain ⟨u1, u2, u3⟩ := ops_tv (vs := xs) (os := ws) (F := F) hlx
    have s2 : SR X.K σ ε1 (F.ops xs ws) H1 := ⟨s1.al, by rw [u2, ← o2]; exact s1.ch, s1.sat.re (o2.trans u2.symm) (o3.trans u3.symm) ((o1.trans (((pz.symm.filterMap _).append_right _).trans u1.symm)).append_right _)⟩
    have ok2 : OpsOk σ xs ws := (opsOk_iff hlx).mpr fun p h => (opsOk_iff hl).mp ok p (pz.mem_iff.mp h)
    exact call_ready hC hn s2 ok2 hlx e2 k
/-! ### a def from its body -/
theorem slots_start : ∀ {vs : List V} {ts : List T} {m n : Nat}, vs.length = ts.length → slots (vs.map some ++ List.replicate m none) (ts.map some ++ List.replicate n none) = vs.zip ts
  | [], [], m, n, _ => by
    show slots (List.replicate m none) (List.replicate n none) = []
    induction m generalizing n with
    | zero => rfl
    | succ m ih => cases n with
      | zero => rfl
      | succ n => exact ih n
  | v :: vs, t :: ts, m, n, h => by
    show (v, t) :: slots (vs.map some ++ List.replicate m none) (ts.map some ++ List.replicate n none) = (v, t) :: vs.zip ts
    rw [slots_start (by simpa using h)]
theorem gt_start {ts : List T} {n i : Nat} {t : T} (h : gt (ts.map some ++ List.replicate n none) i = some t) : i < ts.length := by
  rw [gt_get] at h
  by_cases hi : i < ts.length
  · exact hi
  · rw [List.getElem?_append_right (by simpa using hi), List.getElem?_replicate] at h
    split at h <;> cases h
theorem outs_succ : ∀ {ks : List Bool} {i : Nat} {y : Option T} {ε : Env}, outsOf (i + 1) ks (y :: ε) = outsOf i ks ε
  | [], _, _, _ => rfl
  | k :: ks, i, y, ε => by
    show (if k then gt (y :: ε) (i + 1) else none) :: outsOf (i + 1 + 1) ks (y :: ε) = (if k then gt ε i else none) :: outsOf (i + 1) ks ε
    rw [outs_succ]
    rfl
theorem back_nil : ∀ {ks : List Bool} {vs : List V} {i : Nat}, back vs (outsOf i ks []) = []
  | [], vs, i => by cases vs <;> rfl
  | k :: ks, [], i => rfl
  | k :: ks, v :: vs, i => by
    show back (v :: vs) ((if k then none else none) :: outsOf (i + 1) ks []) = []
    rw [ite_self]
    exact back_nil
theorem back_sub : ∀ {ks : List Bool} {vs : List V} {σ : L2.St} {ε : Env}, (∀ (i : Nat) (v : V), ks[i]? = some true → vs[i]? = some v → σ[i]? = some (some v)) → Al σ ε → (back vs (outsOf 0 ks ε)).Sublist (slots σ ε)
  | [], vs, σ, ε, _, _ => by
    rw [show back vs (outsOf 0 [] ε) = [] by cases vs <;> rfl]
    exact List.nil_sublist _
  | k :: ks, [], σ, ε, _, _ => List.nil_sublist _
  | k :: ks, v :: vs, [], ε, h, a => by
    have : ε = [] := List.eq_nil_of_length_eq_zero a.len
    subst this
    rw [back_nil]
    exact List.nil_sublist _
  | k :: ks, v :: vs, x :: σ, [], h, a => by have := a.len; cases this
  | k :: ks, v :: vs, x :: σ, y :: ε, h, a => by
    have ih := back_sub (ks := ks) (vs := vs) (σ := σ) (ε := ε) (fun i v h1 h2 => by have := h (i + 1) v (by simpa using h1) (by simpa using h2); simpa using this) a.tail
    show (back (v :: vs) ((if k then y else none) :: outsOf 1 ks (y :: ε))).Sublist _
    rw [show outsOf 1 ks (y :: ε) = outsOf 0 ks ε from outs_succ]
    cases k with
    | false =>
      show (back vs (outsOf 0 ks ε)).Sublist _
      cases x with
      | none => exact ih
      | some w => cases y with
        | none => exact ih
        | some t => exact ih.cons _
    | true =>
      have hx := h 0 v rfl rfl
      simp only [List.getElem?_cons_zero, Option.some.injEq] at hx
      subst hx
      cases y with
      | none => exact ih
      | some t => exact ih.cons₂ _
theorem Sat.sub {C : List Addr} {P : List Pin} {L L' : VT} (s : Sat K H C P L) (h : L'.Sublist L) : Sat K H C P L' := by
  obtain ⟨l, p⟩ := h.exists_perm_append
  exact (s.perm (p.trans List.perm_append_comm)).dropL
/-- from the body's run to the promise -/
theorem body_ok {K : PySem.W.Frag} {S : Nat → Prop} {call : Fns} {f : Nat} {d : Fn} {C : Cn} {N ps : List Str} {vs : List V} {H : Hp} {Q : VK} {E : XK} (hcall : ∀ ts t outs, call f ts = .ok t outs → ts.length = d.np ∧ fin d.keep (evSs C d.body (start d ts)) = .ok t outs)
    (hS : ∀ i, d.keep[i]? = some true → ¬ S i) (hN : N.length = d.ns) (hp : d.np ≤ d.ns) (h : spT K call f d.np vs H Q E) : tS K S (evSs C d.body) { nx := fun _ H' => Q .non H', rt := Q } (L2.start N vs) H := by
  obtain ⟨F, ts, t, outs, h1, h2, h3, h4, h5, h6⟩ := h
  obtain ⟨-, hf⟩ := hcall ts t outs h5
  have e0 : L2.start N vs = vs.map some ++ List.replicate (N.length - vs.length) none := rfl
  have al : Al (L2.start N vs) (start d ts) := ⟨by
      rw [e0]
      unfold start
      simp only [List.length_append, List.length_map, List.length_replicate]
      omega, fun i u g => by
      have hi := gt_start (ts := ts) g
      rw [e0, List.getElem?_append_left (by rw [List.length_map]; omega), List.getElem?_map]
      exact ⟨vs[i]'(by omega), by rw [List.getElem?_eq_getElem (by omega)]; rfl⟩⟩
  have s0 : SR K (L2.start N vs) (start d ts) F H := ⟨al, h3, by
    have := slots_start (vs := vs) (ts := ts) (m := N.length - vs.length) (n := d.ns - d.np) h1
    rw [e0]
    show Sat K H F.C F.P (F.R ++ slots (vs.map some ++ List.replicate (N.length - vs.length) none) (ts.map some ++ List.replicate (d.ns - d.np) none))
    rw [this]
    exact h4.perm List.perm_append_comm⟩
  have fin_ : ∀ {σ' : L2.St} {ε' : Env} {v : V} {u : T} {H' : Hp}, SI S (L2.start N vs) σ' → SR K σ' ε' (F.push (v, u)) H' → u = t → outsOf 0 d.keep ε' = outs → Q v H' := by
    intro σ' ε' v u H' si s hu ho
    subst hu
    subst ho
    refine h6 v H' s.ch ?_
    have hb : (back vs (outsOf 0 d.keep ε')).Sublist (slots σ' ε') := back_sub (fun i w k1 k2 => by
      rw [si.rest i (hS i k1), e0, List.getElem?_append_left (by rw [List.length_map]; exact (List.getElem?_eq_some_iff.mp k2).1), List.getElem?_map, k2]
      rfl) s.al
    have q := s.sat.sub (L' := ((v, u) :: F.R) ++ back vs (outsOf 0 d.keep ε')) (List.Sublist.append_left hb _)
    exact q.perm ((List.perm_append_comm (l₁ := F.R)).cons _)
  refine ⟨start d ts, F, s0, ?_⟩
  cases ho : evSs C d.body (start d ts) with
  | nx ε' =>
    rw [ho] at hf
    cases hf
    exact fun σ' H' si s => fin_ si s.non rfl rfl
  | ret u ε' =>
    rw [ho] at hf
    cases hf
    exact fun v σ' H' si s => fin_ si s rfl rfl
  | brk ε' => rw [ho] at hf; cases hf
  | ct ε' => rw [ho] at hf; cases hf
  | ex x ε' => rw [ho] at hf; cases hf
  | no => rw [ho] at hf; cases hf
end
end Tq
end

section
set_option Elab.async false
set_option maxRecDepth 100000
set_option maxHeartbeats 4000000
/-! TLs33: a def from its body. -/
namespace Tq
open PySem PySem.Spec PyProof.Rows L2
theorem fnG_of {P : Program} {w : World} {K : PySem.W.Frag} {mg : Str → Option Value} {base : Heap} {k : Nat} {f : Addr} {name qual : Str} {params : Arguments} {body : List Stmt} {scope : Scope} {dV kV doc pm cdv ct oc : Value} {an od : Option Addr}
    {osl : Array (Option Value)} {N ps : List Str} {sp : Sp} (lk : K.lookup f = some ⟨oc, od, .func (PySem.W.fnOf name qual params body scope dV kV doc pm an cdv ct), osl⟩) (hcd : PySem.W.codeIn K cdv qual = true) (S : FnScope N ps scope)
    (len : ∀ vs H Q E, sp vs H Q E → vs.length = ps.length)
    (hbody : ∀ (A : Around) (outer : List PySem.Env) (s : Shared) (H : Hp) (vs : List V) (Q : VK) (E : XK), Room k (A.deeper (envOfC qual scope s.heap.objs.size f cdv)) → (A.deeper (envOfC qual scope s.heap.objs.size f cdv)).guards = some [] → sp vs H Q E →
      ∃ t, PSs (cxOf CX0 P w K mg base N qual scope f cdv A outer s H E).nox body t ∧ t { nx := fun _ H' => Q .non H', rt := Q } (L2.start N vs) H) :
    FnG P w K mg base (k + 1) f (PySem.W.fnOf name qual params body scope dV kV doc pm an cdv ct) ps sp := by
  refine ⟨len, fun A outer s H args us vs Q E hr hgu e0 hb r hsp => ?_⟩
  have hl := len _ _ _ _ hsp
  have KX : K.In s.heap := e0.mod.kin.keeps fun b o e => (e0.bs b o e).1
  have lim : s.heap.NoLimit := e0.mod.nolimit.keeps fun b o e => (e0.bs b o e).1
  have hkind : ∀ y ∈ ps.zip us, scope.names.lookup y.1 = some .local ∨ (scope.names.lookup y.1 = some .cell ∧ ((cellsFrom (s.heap.objs.size + 1) scope.names []).lookup y.1).isSome = true) := fun ⟨n, v⟩ hy => by
    rcases S.par n (List.of_mem_zip hy).1 with q | q
    · exact .inl q
    · exact .inr ⟨q, PySem.W.cellsFrom_some _ _ _ (.inl q)⟩
  refine codeAny_call_function hr.depth (KX _ _ lk) rfl S.co S.gen rfl (PySem.W.codeRec_of KX hcd) (hb _ _ _ _ ?_)
  refine wpAny_newFunctionEnv_cells S.kind hkind fun env he s1 x => ?_
  subst he
  refine ⟨lim.keeps x.toInCall.keep, codeAny_func ?_⟩
  obtain ⟨t, ht0, hq⟩ := hbody A outer s H vs Q E (hr.deeper _) (guards_deeper hgu) hsp
  have ht := ht0.nox
  have I : Inv (cxOf CX0 P w K mg base N qual scope f cdv A outer s H E) [] (L2.start N vs) H s1 := inv_start S hr.hd e0 hl r x
  refine wpAny_mono (ht.run [] s1 (L2.start N vs) H _ I hq) (fun fl s' hs => ?_) fun e s' hs => hs
  have fin : ∀ {σ' : L2.St} {H' : Hp} {v : V} {u : Value}, Inv (cxOf CX0 P w K mg base N qual scope f cdv A outer s H E) [] σ' H' s' → RelV v u → Q v H' → CE outer P w H s Q u s' :=
    fun {σ' H' v u} J rv q => ⟨v, H', J.os, J.bare, J.base, J.hok, rv, q⟩
  cases fl with
  | ret u =>
    obtain ⟨v, σ', H', J, rv, q⟩ := hs
    exact fin J rv q
  | next =>
    obtain ⟨σ', H', J, q⟩ := hs
    exact fin (v := V.non) (u := Value.none) J rfl q
  | brk =>
    obtain ⟨_, _, _, q⟩ := hs
    exact False.elim q
  | cont =>
    obtain ⟨_, _, _, q⟩ := hs
    exact False.elim q
end Tq
end

section
set_option Elab.async false
set_option maxRecDepth 100000
set_option maxHeartbeats 4000000
/-! TLs34: for the checker: vacuous readings, tests, the builtins' table. -/
namespace Tq
open PySem PySem.Spec PyProof.Rows L2
section
variable {X : Cx} {x : Str} {p pos apos cpos : Pos} {a b c e o k : Expr} {es : List Expr} {i : Nat} {ir jr kr : E} {f f' f2 : Env → R T}
theorem pe_no : PE X e (tE X.K fun _ => .no) := ⟨fun pins s σ H Q I ⟨ε, F, t, ε', s', e, k⟩ => nomatch e⟩
theorem tE_of_cnd {K : PySem.W.Frag} (hp : ∀ i, ir ≠ .pl i) (hb : ∀ ε t ε', f ε = .ok t ε' → ∃ b, t = .bl b) {σ : L2.St} {H : Hp} {Q : Bool → Hp → Prop} (h : tT K (cnd ir f) σ H Q) : tE K f σ H (fun x H' => ∃ k, x = .bl k ∧ Q k H') := by
  obtain ⟨ε, F, b, ε', s, e, k⟩ := h
  obtain ⟨t, h1, h2⟩ := cnd_inv hp e
  obtain ⟨c, rfl⟩ := hb _ _ _ h1
  cases h2
  exact ⟨ε, F, .bl b, ε', s, h1, fun v H' s' => ⟨b, s'.sat.isBl List.mem_cons_self, k H' s'.pop⟩⟩
theorem pt_cmp' {op : CmpOp} {r : V → V → Hp → VK → Prop} {g2 : T → T → Option T} (hp : ∀ i, kr ≠ .pl i) (hg2 : ∀ t u z, g2 t u = some z → ∃ b, z = .bl b) (ha : PE X a (tO X.K (asO ir f))) (hb : PE X b (tO X.K (asO jr f'))) (hr : OpR X (compareOp op) r) (hg : RO2 X.K g2 r) (hm : behindInMarks op b = false) :
    PT X (.Compare a [op] [b] pos) (tT X.K (cnd kr (two ir jr f f' fun _ _ => g2))) := pt_imp (pt_cmpR hr ha hb hm) fun _ _ _ h => read2 hg (tE_of_cnd hp (fun ε t ε' e => by
      obtain ⟨x, ε1, y, t1, t2, h1, h3, hx, hy, h4⟩ := two_look e
      exact hg2 _ _ _ h4) h)
theorem read_chain {o1 o2 : Cm} {r1 r2 : V → V → Hp → VK → Prop} (g1 : RO2 X.K (fun t u => (cm o1 t u).map .bl) r1) (g2 : RO2 X.K (fun t u => (cm o2 t u).map .bl) r2) {σ : L2.St} {H : Hp} {Q : VK} (w : tE X.K (fChain o1 o2 f f' f2) σ H Q) :
    tChain r1 r2 (tE X.K f) (tE X.K f') (tE X.K f2) σ H Q := by
  obtain ⟨ε, F, t, ε', s, e, kk⟩ := w
  obtain ⟨t1, ε1, e1, e⟩ := bnd_inv e
  obtain ⟨t2, ε2, e2, e⟩ := bnd_inv e
  refine ⟨ε, F, t1, ε1, s, e1, fun v H1 s1 => ⟨ε1, _, t2, ε2, s1, e2, fun w H2 s2 => ?_⟩⟩
  cases hcm : cm o1 t1 t2 with
  | none => simp [hcm] at e
  | some d =>
    refine g1.run (t := t1) (u := t2) (z := .bl d) s2.sat s2.ch (List.mem_cons_of_mem _ List.mem_cons_self) List.mem_cons_self (by rw [hcm]; rfl) fun z H3 s3 c3 => ?_
    have ez : z = .bl d := s3.isBl List.mem_cons_self
    subst ez
    have s4 : SR X.K σ ε2 ((F.push (v, t1)).push (w, t2)) H3 := ⟨s2.al, c3, s3.drop⟩
    refine ⟨d, rfl, ?_⟩
    cases d with
    | false =>
      simp only [hcm] at e
      cases e
      exact kk _ _ (s4.pop.pop.bl _)
    | true =>
      simp only [hcm] at e
      obtain ⟨t3, ε3, e3, e⟩ := bnd_inv e
      obtain ⟨e4, rfl⟩ := ofO_inv e
      refine ⟨ε2, _, t3, _, s4, e3, fun y H4 s5 => ?_⟩
      refine g2.run (t := t2) (u := t3) (z := t) s5.sat s5.ch (List.mem_cons_of_mem _ List.mem_cons_self) List.mem_cons_self e4 fun z H5 s6 c6 => kk z H5 ?_
      have q : Sat X.K H5 F.C F.P ((z, t) :: (y, t3) :: (w, t2) :: (v, t1) :: (F.R ++ slots σ ε')) := s6
      have q1 := (q.perm (.swap _ _ _)).drop
      have q2 := (q1.perm (.swap _ _ _)).drop
      exact ⟨s5.al, c6, (q2.perm (.swap _ _ _)).drop⟩
theorem pt_chain' (hp : ∀ i, kr ≠ .pl i) (hu : X.A.units + 65 < cLine) (o1 o2 : Cm) (ha : PE X a (tE X.K f)) (hb : PE X b (tE X.K f')) (hc : PE X c (tE X.K f2)) (hm : lastMarks [cmOf o1, cmOf o2] [b, c] = false) :
    PT X (.Compare a [cmOf o1, cmOf o2] [b, c] pos) (tT X.K (cnd kr (fChain o1 o2 f f' f2))) := by
  obtain ⟨r1, h1, g1⟩ := opc X hu o1
  obtain ⟨r2, h2, g2⟩ := opc X hu o2
  refine pt_imp (pt_chain h1 h2 ha hb hc hm) fun σ H Q h => read_chain g1 g2 (tE_of_cnd hp (fun ε t ε' e => ?_) h)
  obtain ⟨t1, ε1, e1, e⟩ := bnd_inv e
  obtain ⟨t2, ε2, e2, e⟩ := bnd_inv e
  cases hcm : cm o1 t1 t2 with
  | none => simp [hcm] at e
  | some d =>
    cases d with
    | false => simp only [hcm] at e; cases e; exact ⟨_, rfl⟩
    | true =>
      simp only [hcm] at e
      obtain ⟨t3, ε3, e3, e⟩ := bnd_inv e
      obtain ⟨e4, rfl⟩ := ofO_inv e
      obtain ⟨z, -, rfl⟩ := Option.map_eq_some_iff.mp e4
      exact ⟨_, rfl⟩
theorem pe_bool1 {op : BoolOp} (h : PE X a (tE X.K f)) : PE X (.BoolOp op [a] pos) (tE X.K f) := ⟨fun pins s σ H Q I w => by
  have := h.run pins s σ H Q I w
  rw [show eval (.BoolOp op [a] pos) X.env = eval a X.env by rfl]
  exact this⟩
end
/-! ### the builtins' table -/
/-- what stands behind a builtin's name; none: not covered -/
def biV : Bi → Option Value
  | .len => some (.builtin "len") | .abs => some (.builtin "abs") | .sum => some (.builtin "sum") | .min1 => some (.builtin "min") | .max1 => some (.builtin "max")
  | .any => some (.builtin "any") | .all => some (.builtin "all")
  | .min2 => some (.builtin "min") | .max2 => some (.builtin "max") | .sorted => some (.builtin "sorted") | .repr => some (.builtin "repr")
  | .tuple => some (.type "tuple") | .list => some (.type "list") | .int => some (.type "int") | .dict => some (.type "dict")
  | .gcd => some (.builtin "math.gcd") | .factorial => some (.builtin "math.factorial")
  | _ => none
section
variable {X : Cx} {C : Cn} {K : PySem.W.Frag}
theorem Sat.blsV {H : Hp} {C : List Addr} {P : List Pin} {L : VT} {v : V} {o : Bool} {xs : List T} {bs : List Bool} (s : Sat K H C P L) (h : (v, .lst o xs) ∈ L) (e : bls xs = some bs) : ∃ a, v = .ref a ∧ SqL K H a (bs.map V.bl) := by
  obtain ⟨a, L1, rfl, e2, h1, _⟩ := s.seq h (xs := xs) rfl
  obtain ⟨A, W, r⟩ := s.look h
  obtain ⟨vs, B, g1, g2⟩ : ∃ vs B, H a = some (.lst vs) ∧ Reps K H W vs xs B := by
    cases r with
    | own h9 r => exact ⟨_, _, h9, r⟩
    | lst h9 _ r => exact ⟨_, _, h9, r⟩
  rw [reps_bls g2 e] at g1
  exact ⟨a, rfl, SqL.of g1⟩
theorem rb_any : RB K (biF C .any) (rAny K) := ⟨fun {H C P L vs ts u Q} s c hl hm e k => by
  match ts, e with
  | [], e => cases e
  | [t], e =>
    cases t <;> try (cases e; done)
    rename_i o xs
    obtain ⟨bs, e1, rfl⟩ := Option.map_eq_some_iff.mp (show (bls xs).map (fun bs => T.bl (bs.any id)) = some u from e)
    match vs, hl with
    | [v], _ =>
      obtain ⟨a, rfl, h⟩ := s.blsV (hm (v, _) List.mem_cons_self) e1
      exact ⟨a, bs, rfl, h, k _ H (s.bl _) c⟩
  | a :: b :: l, e => cases a <;> cases e⟩
theorem rb_all : RB K (biF C .all) (rAll K) := ⟨fun {H C P L vs ts u Q} s c hl hm e k => by
  match ts, e with
  | [], e => cases e
  | [t], e =>
    cases t <;> try (cases e; done)
    rename_i o xs
    obtain ⟨bs, e1, rfl⟩ := Option.map_eq_some_iff.mp (show (bls xs).map (fun bs => T.bl (bs.all id)) = some u from e)
    match vs, hl with
    | [v], _ =>
      obtain ⟨a, rfl, h⟩ := s.blsV (hm (v, _) List.mem_cons_self) e1
      exact ⟨a, bs, rfl, h, k _ H (s.bl _) c⟩
  | a :: b :: l, e => cases a <;> cases e⟩
theorem bi_call (hc : X.calm = true) (hu : X.A.units + 65 < cLine) (hgd : X.A.guards = some []) (hrp : C.rp = rpr) (f : Bi) {v : Value} (h : biV f = some v) : ∃ r, CallR X v r ∧ RB X.K (biF C f) r := by
  have mono1 : ∀ {g : T → Option T} {r : V → Hp → VK → Prop}, RU X.K g r → (∀ t u, biF C f [t] = some u → g t = some u) → (biF C f [] = none) → (∀ a b l, biF C f (a :: b :: l) = none) → RB X.K (biF C f) (r1 r) := fun hg k k0 k2 => (RB.of1 hg).mono (fun ts u e => by
    match ts, e with
    | [], e => rw [k0] at e; cases e
    | [t], e => exact k t u e
    | a :: b :: l, e => rw [k2] at e; cases e) fun _ _ _ z => z
  cases f <;> (try (cases h; done)) <;> cases h
  · exact ⟨_, cl_len, mono1 ru_len (fun t u e => e) rfl fun _ _ _ => rfl⟩
  · exact ⟨_, cl_abs, mono1 ru_abs (fun t u e => by cases t <;> first | exact e | cases e) rfl fun a _ _ => by cases a <;> rfl⟩
  · exact ⟨_, cl_sum hc, mono1 ru_sum (fun t u e => e) rfl fun _ _ _ => rfl⟩
  · exact ⟨_, cl_min hc hu, mono1 ru_min (fun t u e => e) rfl fun _ _ _ => rfl⟩
  · exact ⟨_, cl_max hc hu, mono1 ru_max (fun t u e => e) rfl fun _ _ _ => rfl⟩
  · refine ⟨_, cl_min2 hc, (rb_two (g := fun i j => if j < i then j else i)).mono (fun ts u e => ?_) fun _ _ _ z => z⟩
    match ts, e with
    | [], e => cases e
    | [t], e => cases t <;> cases e
    | t :: t2 :: t3 :: l, e => cases t <;> try (cases e; done)
                               cases t2 <;> cases e
    | [t, t2], e => cases t <;> try (cases e; done)
                    cases t2 <;> first | exact e | cases e
  · refine ⟨_, cl_max2 hc, (rb_two (g := fun i j => if i < j then j else i)).mono (fun ts u e => ?_) fun _ _ _ z => z⟩
    match ts, e with
    | [], e => cases e
    | [t], e => cases t <;> cases e
    | t :: t2 :: t3 :: l, e => cases t <;> try (cases e; done)
                               cases t2 <;> cases e
    | [t, t2], e => cases t <;> try (cases e; done)
                    cases t2 <;> first | exact e | cases e
  · exact ⟨_, cl_sort, mono1 ru_sort (fun t u e => by cases t <;> first | exact e | cases e) rfl fun a _ _ => by cases a <;> rfl⟩
  · exact ⟨_, cl_tup, mono1 ru_tup (fun t u e => e) rfl fun _ _ _ => rfl⟩
  · exact ⟨_, cl_lst hc, mono1 ru_lst (fun t u e => by cases t <;> exact e) rfl fun a _ _ => by cases a <;> rfl⟩
  · exact ⟨_, cl_int, mono1 ru_int (fun t u e => by cases t <;> first | exact e | cases e) rfl fun a _ _ => by cases a <;> rfl⟩
  · exact ⟨_, (cr_any hc), rb_any⟩
  · exact ⟨_, (cr_all hc), rb_all⟩
  · exact ⟨_, cl_repr hgd hu, mono1 ru_repr (fun t u e => by unfold gRepr; rw [← hrp]; exact e) rfl fun _ _ _ => rfl⟩
  · refine ⟨_, cl_gcd, (rb_two (g := fun i j => ((Int.gcd i j : Nat) : Int))).mono (fun ts u e => ?_) fun _ _ _ z => z⟩
    match ts, e with
    | [], e => cases e
    | [t], e => cases t <;> cases e
    | t :: t2 :: t3 :: l, e => cases t <;> try (cases e; done)
                               cases t2 <;> cases e
    | [t, t2], e => cases t <;> try (cases e; done)
                    cases t2 <;> first | exact e | cases e
  · exact ⟨_, cl_fac, mono1 ru_fac (fun t u e => by cases t <;> first | exact e | cases e) rfl fun a _ _ => by cases a <;> rfl⟩
  · exact ⟨_, cl_dic, mono1 ru_dic (fun t u e => by cases t <;> first | exact e | cases e) rfl fun a _ _ => by cases a <;> rfl⟩
end
end Tq
end

section
set_option Elab.async false
set_option maxRecDepth 100000
set_option maxHeartbeats 4000000
/-! TLs35: the checker: the text against the small language. -/
namespace Tq
open PySem PySem.Spec PyProof.Rows L2
/-- a def's name as it is called, its parameters, the orders of keywords it is called with -/
structure Sig where
  x : Str
  ps : List Str
  kos : List (List Str × List Nat)
/-- what is known of a def (or of a block within) -/
structure Ct where
  N : List Str
  sc : Scope
  fnc : Option Scope
  fns : List Sig
  blt : List Str
  bis : List (Bi × Str)
def Ct.fn (G : Ct) (x : Str) : Bool := match G.fnc with
  | none => true
  | some sc => sc.names.lookup x == some .cell
def visB (G : Ct) (x : Str) : Bool := match G.sc.names.lookup x with
  | some .local => true
  | some .cell => true
  | some .free => true
  | _ => false
def nmB (G : Ct) (i : Nat) (x : Str) : Bool := decide (G.N[i]? = some x) && visB G x && !(x == ("__debug__" : Str)) && !(x == ("__classdict__" : Str))
def glB (G : Ct) (x : Str) : Bool := decide (G.sc.names.lookup x = some .globalImplicit) && !(x == ("__debug__" : Str))
def bltB (G : Ct) (x : Str) : Bool := glB G x && decide (x ∈ G.blt)
def locB (G : Ct) (x : Str) : Bool := match G.sc.names.lookup x with
  | some .local => true
  | some .cell => G.fn x
  | _ => false
def isSet : Expr → Bool
  | .Set _ _ _ => true
  | _ => false
def isIfE : Expr → Bool
  | .IfExp _ _ _ _ => true
  | _ => false
def isPl : E → Bool
  | .pl _ => true
  | _ => false
def isBo : Expr → Bool
  | .BoolOp _ _ _ => true
  | _ => false
def isNonE : E → Bool
  | .non => true
  | _ => false
def tysB (G : Ct) : List Ty → List Expr → Bool
  | [], [] => true
  | y :: ys, .Name x _ :: es => decide (x = Str.ofString (tyN y)) && bltB G x && tysB G ys es
  | _, _ => false
mutual
def tgB (G : Ct) (S : Nat → Bool) : Tg → Expr → Bool
  | .s i, e => match e with
    | .Name x _ => decide (G.N[i]? = some x) && locB G x && S i
    | _ => false
  | .t ts, e => match e with
    | .Tuple es _ _ => tgsB G S ts es
    | _ => false
def tgsB (G : Ct) (S : Nat → Bool) : List Tg → List Expr → Bool
  | [], [] => true
  | g :: gs, e :: es => tgB G S g e && !isStar e && tgsB G S gs es
  | _, _ => false
end
def ownL (G : Ct) (own : List Nat) : List (Str × Nat) := own.map fun i => ((G.N[i]?).getD "", i)
def Ct.blk (G : Ct) (scope : Scope) : Ct := { G with sc := relS scope G.sc, fnc := some scope }
def lineB (a c : Pos) : Bool := a.endLine == c.line
mutual
def chkE (G : Ct) : E → Expr → Bool
  | .non, e => match e with
    | .Constant .none _ _ => true
    | _ => false
  | .bl b, e => match e with
    | .Constant (.bool z) _ _ => z == b
    | _ => false
  | .int i, e => match e with
    | .Constant (.int z) _ _ => decide (z = i)
    | _ => false
  | .str s, e => match e with
    | .Constant (.str z) _ _ => decide (z = s)
    | _ => false
  | .var i, e => match e with
    | .Name x _ => nmB G i x
    | _ => false
  | .frz i, e => match e with
    | .Name x _ => nmB G i x
    | _ => false
  | .pl i, e => match e with
    | .Name x _ => nmB G i x
    | _ => false
  | .gl _, _ => false
  | .op o a b, e => match e with
    | .BinOp l op r _ => decide (op = opOf o) && chkE G a l && chkE G b r
    | _ => false
  | .neg a, e => match e with
    | .UnaryOp .USub l _ => chkE G a l
    | _ => false
  | .not a, e => match e with
    | .UnaryOp .Not l _ => chkE G a l && !isIfE l
    | _ => false
  | .and a b, e => match e with
    | .BoolOp .And [l, r] _ => chkE G a l && chkE G b r && !isIfE l && !isIfE r && !isPl a && !isPl b
    | .BoolOp .And (l :: r :: r2 :: rest) p => chkE G a l && chkE G b (.BoolOp .And (r :: r2 :: rest) p) && !isIfE l && !isPl a && !isPl b
    | _ => false
  | .or a b, e => match e with
    | .BoolOp .Or [l, r] _ => chkE G a l && chkE G b r && !isIfE l && !isIfE r && !isPl a && !isPl b
    | .BoolOp .Or (l :: r :: r2 :: rest) p => chkE G a l && chkE G b (.BoolOp .Or (r :: r2 :: rest) p) && !isIfE l && !isPl a && !isPl b
    | _ => false
  | .cmp o a b, e => match e with
    | .Compare l [op] [r] _ => decide (op = cmOf o) && chkE G a l && chkE G b r && !isSet r
    | _ => false
  | .cmp2 o p a b c, e => match e with
    | .Compare l [op, op2] [r, r2] _ => decide (op = cmOf o) && decide (op2 = cmOf p) && chkE G a l && chkE G b r && chkE G c r2 && !isSet r2
    | _ => false
  | .nil ne i k, e => match e with
    | .Compare (.Subscript (.Name x _) l _) [op] [.List [] _] _ => decide (op = if ne then .NotEq else .Eq) && nmB G i x && chkE G k l && !isSlice l
    | _ => false
  | .ite c a b, e => match e with
    | .IfExp l m r _ => chkE G c l && chkE G a m && chkE G b r && !isIfE l
    | _ => false
  | .call f as, e => match e with
    | .Call (.Name x _) es [] _ => (match G.fns[f]? with | some p => decide (p.x = x) | none => false) && glB G x && chkEs G as es
    | .Call (.Name x _) [] kws _ => (match G.fns[f]? with | some p => decide (p.x = x) && decide (kws.map (·.arg) = p.ps.map some) | none => false) && glB G x && chkKs G as kws
    | _ => false
  | .callk f as ks ord, e => match as with
    | .nil => (match e with
      | .Call (.Name x _) [] kws _ => (match G.fns[f]? with
        | some p => decide (p.x = x) && p.kos.any fun q => decide (kws.map (·.arg) = q.1.map some) && decide (q.2 = ord) && ord.isPerm (List.range kws.length)
        | none => false) && glB G x && chkKs G ks kws
      | _ => false)
    | _ => false
  | .bi f as, e => match e with
    | .Call (.Name x _) (l :: es) [] _ => glB G x && decide ((f, x) ∈ G.bis) && chkEs G as (l :: es)
    | _ => false
  | .bi1 f i k, e => match e with
    | .Call (.Name fx _) [.Subscript (.Name x _) l _] [] _ => decide (f = .len) && decide (fx = "len") && bltB G fx && nmB G i x && chkE G k l && !isSlice l
    | _ => false
  | .isi a ts, e => match e with
    | .Call (.Name x _) [l, .Name y _] [] _ => decide (x = "isinstance") && bltB G x && chkE G a l && !isStar l && tysB G ts [.Name y ⟨0, 0, 0, 0⟩]
    | .Call (.Name x _) [l, .Tuple es _ _] [] _ => decide (x = "isinstance") && bltB G x && chkE G a l && !isStar l && tysB G ts es && decide (ts.length ≤ 64)
    | _ => false
  | .idx a b, e => match e with
    | .Subscript l r _ => chkE G a l && chkE G b r && !isSlice r
    | _ => false
  | .frz1 i a, e => match e with
    | .Subscript (.Name x _) l _ => nmB G i x && chkE G a l && !isSlice l
    | _ => false
  | .sl a lo hi, e => match e with
    | .Subscript l (.Slice none none none _) _ => chkE G a l && isNonE lo && isNonE hi
    | .Subscript l (.Slice (some u) none none _) _ => chkE G a l && chkE G lo u && !isNonE lo && isNonE hi
    | .Subscript l (.Slice none (some v) none _) _ => chkE G a l && isNonE lo && chkE G hi v && !isNonE hi
    | .Subscript l (.Slice (some u) (some v) none _) _ => chkE G a l && chkE G lo u && !isNonE lo && chkE G hi v && !isNonE hi
    | _ => false
  | .tup as, e => match e with
    | .Tuple es _ _ => chkEs G as es && decide (es.length ≤ 64)
    | _ => false
  | .lst as, e => match e with
    | .List es _ => chkEs G as es && decide (es.length ≤ 64)
    | _ => false
  | .dic ks vs, e => match ks, vs with
    | .nil, .nil => (match e with
      | .Dict [] [] _ => true
      | _ => false)
    | .cons k .nil, .cons v .nil => (match e with
      | .Dict [some l] [r] _ => chkE G k l && chkE G v r
      | _ => false)
    | _, _ => false
  | .lc own tg it cs e1, e => match e with
    | .ListComp elt [⟨tx, ix, ifs, 0⟩] scope _ => blkC G.N G.sc scope (ownL G own) && chkI G it tx ix && !isSet ix && tgB (G.blk scope) (fun i => decide (i ∈ own)) tg tx && chkE (G.blk scope) e1 elt &&
      (match cs with
       | .nil => ifs.isEmpty
       | .cons c .nil => (match ifs with
         | [l] => chkE (G.blk scope) c l && !isIfE l
         | _ => false)
       | _ => false)
    | _ => false
  | .pop i, e => match e with
    | .Call (.Attribute (.Name x _) m ap) [] [] cp => decide (m = "pop") && lineB ap cp && nmB G i x
    | _ => false
  | .popi i k, e => match e with
    | .Call (.Attribute (.Name x _) m ap) [l] [] cp => decide (m = "pop") && lineB ap cp && nmB G i x && chkE G k l && !isStar l
    | _ => false
  | .pop1 i k, e => match e with
    | .Call (.Attribute (.Subscript (.Name x _) l _) m ap) [] [] cp => decide (m = "pop") && lineB ap cp && nmB G i x && chkE G k l && !isSlice l
    | _ => false
  | .get1 a k, e => match e with
    | .Call (.Attribute o m ap) [l] [] cp => decide (m = "get") && lineB ap cp && chkE G a o && chkE G k l && !isCall o && !isStar l
    | _ => false
  | .get2 a k d, e => match e with
    | .Call (.Attribute o m ap) [l, r] [] cp => decide (m = "get") && lineB ap cp && chkE G a o && chkE G k l && chkE G d r && !isCall o && !isStar l && !isStar r
    | _ => false
  | .count _ _, _ => false
  | .index _ _, _ => false
  | .lrng tp a, e => match e with
    | .Call (.Name x _) [.Call (.Name y _) [l] [] _] [] _ => decide (x = seqNm tp) && bltB G x && decide (y = "range") && bltB G y && chkE G a l && !isStar l
    | _ => false
  | .lrng2 tp a b, e => match e with
    | .Call (.Name x _) [.Call (.Name y _) [l, r] [] _] [] _ => decide (x = seqNm tp) && bltB G x && decide (y = "range") && bltB G y && chkE G a l && chkE G b r && !isStar l && !isStar r
    | _ => false
  | .lrev tp a, e => match e with
    | .Call (.Name x _) [.Call (.Name y _) [l] [] _] [] _ => decide (x = seqNm tp) && bltB G x && decide (y = "reversed") && bltB G y && chkE G a l && !isStar l
    | _ => false
def chkEs (G : Ct) : Es → List Expr → Bool
  | .nil, es => es.isEmpty
  | .cons a as, es => match es with
    | [] => false
    | e :: es => chkE G a e && !isStar e && chkEs G as es
def chkKs (G : Ct) : Es → List Keyword → Bool
  | .nil, es => es.isEmpty
  | .cons a as, es => match es with
    | [] => false
    | ⟨_, e, _⟩ :: es => chkE G a e && chkKs G as es
def chkI (G : Ct) : It → Expr → Expr → Bool
  | .seq a, _, e => chkE G a e
  | .rng1 a, _, e => match e with
    | .Call (.Name x _) [l] [] _ => decide (x = "range") && bltB G x && chkE G a l && !isStar l
    | _ => false
  | .rng2 a b, _, e => match e with
    | .Call (.Name x _) [l, r] [] _ => decide (x = "range") && bltB G x && chkE G a l && chkE G b r && !isStar l && !isStar r
    | _ => false
  | .rng3 a b c, _, e => match e with
    | .Call (.Name x _) [l, r, r2] [] _ => decide (x = "range") && bltB G x && chkE G a l && chkE G b r && chkE G c r2 && !isStar l && !isStar r && !isStar r2
    | _ => false
  | .enum a, t, e => match t with
    | .Tuple _ _ _ => (match e with
      | .Call (.Name x _) [l] [] _ => decide (x = "enumerate") && bltB G x && chkE G a l && !isStar l
      | _ => false)
    | _ => false
  | .zip a b, t, e => match t with
    | .Tuple _ _ _ => (match e with
      | .Call (.Name x _) [l, r] [] _ => decide (x = "zip") && bltB G x && chkE G a l && chkE G b r && !isStar l && !isStar r
      | _ => false)
    | _ => false
  | .rev a, _, e => match e with
    | .Call (.Name x _) [l] [] _ => decide (x = "reversed") && bltB G x && chkE G a l && !isStar l
    | _ => false
  | .items a, t, e => match t with
    | .Tuple _ _ _ => (match e with
      | .Call (.Attribute o m ap) [] [] cp => decide (m = "items") && lineB ap cp && chkE G a o && !isCall o
      | _ => false)
    | _ => false
  | .vals a, _, e => match e with
    | .Call (.Attribute o m ap) [] [] cp => decide (m = "values") && lineB ap cp && chkE G a o && !isCall o
    | _ => false
end
end Tq
end

section
set_option Elab.async false
set_option maxRecDepth 100000
set_option maxHeartbeats 8000000
/-! TLs36: the checker is right: expressions. -/
namespace Tq
open PySem PySem.Spec PyProof.Rows L2
structure CalG (X : Cx) (C : Cn) (k j : Nat) (sg : Sig) : Prop where
  ex : ∃ f fd, FnG X.prog X.w X.K X.mg X.base k f fd sg.ps (spT X.K C.call j sg.ps.length) ∧ X.mg sg.x = some (.ref f) ∧ PySem.W.keepIn X.K (.ref f) = true ∧ (∀ (s : Shared) (us : List Value), us.length = sg.ps.length → BindsTo s fd ⟨us, []⟩ (sg.ps.zip us)) ∧
    (∀ (s : Shared) (us : List Value), us.length = sg.ps.length → BindsTo s fd ⟨[], sg.ps.zip us⟩ (sg.ps.zip us)) ∧ ∀ q ∈ sg.kos, BindsK fd sg.ps q.1 q.2
structure Good (C : Cn) (G : Ct) (X : Cx) : Prop where
  hN : X.N = G.N
  nd : G.N.Nodup
  hsc : X.env.scope = G.sc
  hfn : ∀ x, X.fn x = G.fn x
  hc : X.calm = true
  hp : PassesOwn (model X.prog X.w) X.A X.env X.xe
  hgd : X.A.guards = some []
  rp : C.rp = rpr
  kk : ∃ k, Room k X.A ∧ ∀ (j : Nat) sg, G.fns[j]? = some sg → CalG X C k j sg
  hn : ∀ (j : Nat) sg ts t outs, G.fns[j]? = some sg → C.call j ts = .ok t outs → ts.length = sg.ps.length
  blt : ∀ x ∈ G.blt, X.mg x = none
  bis : ∀ p ∈ G.bis, ∃ v, biV p.1 = some v ∧ ((X.mg p.2 = none ∧ bootBuiltins p.2 = some v ∧ p.2 ≠ "__name__") ∨ (X.mg p.2 = some v ∧ ∃ id, v = .builtin id))
section
variable {C : Cn} {G : Ct} {X : Cx} {x : Str} {i : Nat} {p pos : Pos} {e : Expr} {ir : E} {f : Env → R T}
theorem Good.units (g : Good C G X) : X.A.units + 65 < cLine := by
  obtain ⟨k, r, -⟩ := g.kk
  have := r.un
  omega
theorem Good.units1 (g : Good C G X) : X.A.units + 1 < cLine := by
  have := g.units
  omega
theorem Good.name (g : Good C G X) (h : nmB G i x = true) : PE X (.Name x p) (tVar i) := by
  unfold nmB at h
  simp only [Bool.and_eq_true, decide_eq_true_eq, Bool.not_eq_true'] at h
  obtain ⟨⟨⟨h1, h2⟩, h3⟩, h4⟩ := h
  refine pv i (by rw [g.hN]; exact h1) ?_ h3 h4
  unfold visB at h2
  unfold Vis
  rw [g.hsc]
  split at h2
  · exact .inl (by assumption)
  · exact .inr (.inl (by assumption))
  · exact .inr (.inr (by assumption))
  · cases h2
theorem Good.gl (g : Good C G X) (h : glB G x = true) : Gl X x ∧ (x == ("__debug__" : Str)) = false := by
  unfold glB at h
  simp only [Bool.and_eq_true, decide_eq_true_eq, Bool.not_eq_true'] at h
  refine ⟨?_, h.2⟩
  show X.env.scope.names.lookup x = _
  rw [g.hsc]
  exact h.1
theorem Good.bl (g : Good C G X) (h : bltB G x = true) : Gl X x ∧ X.mg x = none := by
  unfold bltB at h
  simp only [Bool.and_eq_true, decide_eq_true_eq] at h
  exact ⟨(g.gl h.1).1, g.blt _ h.2⟩
theorem plainIx_of {b : Expr} (h : isSlice b = false) : PlainIx b := by
  cases b <;> first | (cases h; done) | (intro o i; rfl)
theorem noMarks {b : Expr} {op : CmpOp} (h : isSet b = false) : behindInMarks op b = false := by
  cases b <;> first | (cases h; done) | rfl
theorem noLast {b c : Expr} {op op2 : CmpOp} (h : isSet c = false) : lastMarks [op, op2] [b, c] = false := by
  show behindInMarks op2 c = false
  exact noMarks h
theorem noFold {b : Expr} {env : PySem.Env} (h : isSet b = false) : ∀ x, foldedSetIterable b env x = pure x := by
  cases b <;> first | (cases h; done) | (intro x; rfl)
structure SE (X : Cx) (C : Cn) (ir : E) (e : Expr) : Prop where
  pe : PE X e (tE X.K (ev C ir))
  po : PE X e (tO X.K (asO ir (ev C ir)))
  pt : isIfE e = false → PT X e (tT X.K (cnd ir (ev C ir)))
  pw : isBo e = true → PW X e (tT X.K (cnd ir (ev C ir)))
theorem SE.of (hp : isPl ir = false) (he : ev C ir = f) (h : PE X e (tE X.K f)) (hi : isIfE e = false → PT X e (tT X.K (cnd ir f))) (hw : isBo e = false) : SE X C ir e := by
  subst he
  exact ⟨h, tO_val h (fun i z => by subst z; cases hp), hi, fun z => by rw [hw] at z; cases z⟩
theorem SE.ofW (hp : isPl ir = false) (he : ev C ir = f) (h : PE X e (tE X.K f)) (hw : PW X e (tT X.K (cnd ir f))) : SE X C ir e := by
  subst he
  exact ⟨h, tO_val h (fun i z => by subst z; cases hp), fun _ => hw.pt, fun _ => hw⟩
theorem SE.val (hp : isPl ir = false) (he : ev C ir = f) (h : PE X e (tE X.K f)) (hi : ∀ whole, isTrue e X.env whole = (do let v ← whole; standAt e.pos; holding [v] (truthy v))) (hw : isBo e = false) : SE X C ir e :=
  .of hp he h (fun _ => pt_of (tO_val h (fun i z => by subst z; cases hp)) hi) hw
theorem notPl (h : isPl ir = false) : ∀ i, ir ≠ .pl i := fun i z => by subst z; cases h
theorem pt_nil' {k : Expr} {apos lp : Pos} {kr : E} (hkr : ∀ i, kr ≠ .pl i) (hu : X.A.units + 65 < cLine) (ne : Bool) (h : PE X (.Name x p) (tVar i)) (hk : PE X k (tE X.K f)) (hs : PlainIx k) : PT X (.Compare (.Subscript (.Name x p) k apos) [if ne then .NotEq else .Eq] [.List [] lp] pos) (tT X.K (cnd kr (fItm i f (gNil ne)))) := by
  have hb : ∀ ε t ε', fItm i f (gNil ne) ε = .ok t ε' → ∃ b, t = .bl b := fun ε t ε' e => by
    unfold fItm at e
    split at e
    · cases e
    · obtain ⟨j, ε1, -, e2⟩ := bnd_inv e
      split at e2
      · obtain ⟨e3, -⟩ := ofO_inv e2
        unfold gNil at e3
        split at e3
        · split at e3
          · cases e3; exact ⟨_, rfl⟩
          · cases e3
        · cases e3
      · cases e2
  cases ne with
  | false => exact pt_imp (pt_cmpR (op_eqD (by omega)) (pe_item (pos := apos) h hk hs) (pe_lst pa_nil) (nomark _)) fun σ H Q w => read_item (ru_nil false) (tE_of_cnd hkr hb w)
  | true => exact pt_imp (pt_cmpR (op_neD (by omega)) (pe_item (pos := apos) h hk hs) (pe_lst pa_nil) (nomark _)) fun σ H Q w => read_item (ru_nil true) (tE_of_cnd hkr hb w)
theorem pe_opx {a b : Expr} {jr : E} {f' : Env → R T} {op : Operator} {g : Bool → Bool → T → T → Option T} {r : V → V → Hp → VK → Prop} (ha : PE X a (tO X.K (asO ir f))) (hb : PE X b (tO X.K (asO jr f'))) (hr : OpR X (binaryOp op) r) (hg : ROx X.K g r) : PE X (.BinOp a op b pos) (tE X.K (two ir jr f f' g)) :=
  pe_imp (pe_op hr ha hb) fun σ H Q ⟨ε, F, t, ε', s, e, k⟩ => by
    obtain ⟨x, ε1, y, t1, t2, h1, h3, hx, hy, h4⟩ := two_look e
    exact ⟨ε, F, x, ε1, s, h1, fun v H1 s1 ok1 => ⟨ε1, F.op v x, y, ε', s1, h3, fun w H2 s2 ok2 => hg.run s2 ok1 ok2 hx hy h4 fun z H3 s3 => k z H3 s3⟩⟩
theorem tys_ok (g : Good C G X) : ∀ {ys : List Ty} {es : List Expr}, tysB G ys es = true → PA X es (tTys ys)
  | [], [], _ => pa_tys0
  | [], _ :: _, h => by simp [tysB] at h
  | y :: ys, [], h => by simp [tysB] at h
  | y :: ys, e :: es, h => by
    cases e <;> try (simp [tysB] at h; done)
    simp only [tysB, Bool.and_eq_true, decide_eq_true_eq] at h
    obtain ⟨⟨rfl, h2⟩, h3⟩ := h
    exact pa_tysC (g.bl h2).1 (g.bl h2).2 (tys_ok g h3)
mutual
theorem tg_ok (g : Good C G X) {S : Nat → Bool} : ∀ {tg : Tg} {e : Expr}, tgB G S tg e = true → PG X e (tG X.K (fun i => S i = true) tg)
  | .s i, e, h => by
    unfold tgB at h
    split at h
    · rename_i x p
      simp only [Bool.and_eq_true, decide_eq_true_eq] at h
      obtain ⟨⟨h1, h2⟩, h3⟩ := h
      unfold locB at h2
      refine pg_name' (by rw [g.hN]; exact g.nd) (by rw [g.hN]; exact h1) ?_ ?_ h3
      · unfold L2.Loc
        rw [g.hsc]
        split at h2
        · exact .inl (by assumption)
        · exact .inr (by assumption)
        · cases h2
      · rw [g.hsc, g.hfn]
        split at h2
        · exact .inr (by assumption)
        · exact .inl h2
        · cases h2
    · cases h
  | .t ts, e, h => by
    unfold tgB at h
    split at h
    · rename_i es n p
      obtain ⟨h1, h2, h3⟩ := tgs_ok g h
      exact pg_tup' g.hc h1 h2 h3
    · cases h
theorem tgs_ok (g : Good C G X) {S : Nat → Bool} : ∀ {gs : List Tg} {es : List Expr}, tgsB G S gs es = true → PGs X es (tGs X.K (fun i => S i = true) gs) ∧ noStar es = true ∧ es.length = gs.length
  | [], [], _ => ⟨pgs_nil', rfl, rfl⟩
  | [], _ :: _, h => by simp [tgsB] at h
  | _ :: _, [], h => by simp [tgsB] at h
  | tg :: gs, e :: es, h => by
    simp only [tgsB, Bool.and_eq_true, Bool.not_eq_true'] at h
    obtain ⟨⟨h1, h2⟩, h3⟩ := h
    obtain ⟨k1, k2, k3⟩ := tgs_ok g h3
    refine ⟨pgs_cons' (tg_ok g h1) k1 h2, ?_, by simp [k3]⟩
    show (!isStar e && noStar es) = true
    rw [h2, k2]; rfl
end
theorem Good.blk (g : Good C G X) {s : Shared} {H : Hp} {scope : Scope} {cl : List (Str × Addr)} {a : Addr} {fp : List Addr} : Good C (G.blk scope) (X.blk s H scope (compEnvC scope cl a X.env) fp) where
  hN := g.hN
  nd := g.nd
  hsc := by show relS scope X.env.scope = relS scope G.sc; rw [g.hsc]
  hfn := fun x => rfl
  hc := g.hc
  hp := PassesOwn.never
  hgd := g.hgd
  rp := g.rp
  kk := by
    obtain ⟨k, h1, h2⟩ := g.kk
    exact ⟨k, h1, fun j sg h => ⟨(h2 j sg h).ex⟩⟩
  hn := g.hn
  blt := g.blt
  bis := g.bis
theorem ownL_fst (own : List Nat) : (ownL G own).map (·.2) = own := by
  unfold ownL
  rw [List.map_map]
  exact List.map_id _
theorem pe_biV {a : Expr} {es : List Expr} {fb : Bi} {gv : Env → R (List Op)} (g : Good C G X) (h1 : glB G x = true) (h2 : (fb, x) ∈ G.bis) (ha : PA X (a :: es) (tOs X.K gv)) (hs : noStar (a :: es) = true) : PE X (.Call (.Name x p) (a :: es) [] pos) (tE X.K (fBi gv (biF C fb))) := by
  obtain ⟨v, hv, hk⟩ := g.bis _ h2
  obtain ⟨r, hr, hb⟩ := bi_call (C := C) g.hc g.units g.hgd g.rp fb hv
  obtain ⟨hg, hd⟩ := g.gl h1
  have hv' : (∃ id, v = .builtin id) ∨ ∃ id, v = .type id := by
    cases fb <;> first | (cases hv; exact .inl ⟨_, rfl⟩) | (cases hv; exact .inr ⟨_, rfl⟩) | (cases hv; done)
  rcases hv' with ⟨id, rfl⟩ | ⟨id, rfl⟩
  · rcases hk with ⟨k1, k2, k3⟩ | ⟨k1, -⟩
    · exact pe_bi hr hb hg k1 k2 k3 hd ha hs
    · exact pe_bfun hr hb hg k1 hd ha hs
  · rcases hk with ⟨k1, k2, k3⟩ | ⟨-, id2, k1⟩
    · exact pe_ty hr hb hg k1 k2 k3 hd ha hs
    · cases k1
end
end Tq
end

section
set_option Elab.async false
set_option maxRecDepth 100000
set_option maxHeartbeats 8000000
/-! TLs37: the checker is right: expressions, by induction. -/
namespace Tq
open PySem PySem.Spec PyProof.Rows L2
theorem len_evv {C : Cn} : ∀ {as : Es} {es : List Expr} {G : Ct}, chkEs G as es = true → ∀ ε ts ε', evv C as ε = .ok ts ε' → ts.length = es.length
  | .nil, es, G, h, ε, ts, ε', e => by
    rw [chkEs] at h
    rw [evv] at e
    cases e
    cases es with
    | nil => rfl
    | cons _ _ => cases h
  | .cons a as, [], G, h, ε, ts, ε', e => by simp [chkEs] at h
  | .cons a as, x :: es, G, h, ε, ts, ε', e => by
    simp only [chkEs, Bool.and_eq_true] at h
    rw [evv] at e
    obtain ⟨t, ε1, h1, h2⟩ := bnd_inv e
    obtain ⟨us, ε2, h3, h4⟩ := bnd_inv h2
    cases h4
    simp [len_evv h.2 _ _ _ h3]
theorem len_evs {C : Cn} : ∀ {as : Es} {kws : List Keyword} {G : Ct}, chkKs G as kws = true → ∀ ε ts ε', evs C as ε = .ok ts ε' → ts.length = kws.length
  | .nil, es, G, h, ε, ts, ε', e => by
    rw [chkKs] at h
    rw [evs] at e
    cases e
    cases es with
    | nil => rfl
    | cons _ _ => cases h
  | .cons a as, [], G, h, ε, ts, ε', e => by simp [chkKs] at h
  | .cons a as, ⟨nm, x, kp⟩ :: es, G, h, ε, ts, ε', e => by
    simp only [chkKs, Bool.and_eq_true] at h
    rw [evs] at e
    obtain ⟨t, ε1, h1, h2⟩ := bnd_inv e
    obtain ⟨us, ε2, h3, h4⟩ := bnd_inv h2
    cases h4
    simp [len_evs h.2 _ _ _ h3]
theorem kw_names : ∀ {kws : List Keyword} {ps : List Str} {env : PySem.Env} {pos : Pos}, kws.map (·.arg) = ps.map some → (backToKw pos (keywordEach kws env)).all (·.1.isSome) = true ∧ (backToKw pos (keywordEach kws env)).filterMap (·.1) = ps
  | [], [], _, _, _ => ⟨rfl, rfl⟩
  | [], _ :: _, _, _, h => by cases h
  | _ :: _, [], _, _, h => by cases h
  | ⟨nm, v, kp⟩ :: kws, y :: ps, env, pos, h => by
    simp only [List.map_cons, List.cons.injEq] at h
    obtain ⟨rfl, h2⟩ := h
    obtain ⟨k1, k2⟩ := kw_names (env := env) (pos := pos) h2
    refine ⟨?_, ?_⟩
    · show (true && (backToKw pos (keywordEach kws env)).all (·.1.isSome)) = true
      rw [k1]; rfl
    · show y :: (backToKw pos (keywordEach kws env)).filterMap (·.1) = _
      rw [k2]
variable {C : Cn}
mutual
theorem sndE : ∀ (ir : E) {G : Ct} {X : Cx} (g : Good C G X) {e : Expr}, chkE G ir e = true → SE X C ir e
  | .non, G, X, g, e, h => by
    unfold chkE at h; split at h
    · exact .val rfl (by funext ε; rw [ev]) pe_cN (fun _ => rfl) rfl
    · cases h
  | .bl b, G, X, g, e, h => by
    unfold chkE at h; split at h
    · cases (eq_of_beq h); exact .val rfl (by funext ε; rw [ev]) pe_cB (fun _ => rfl) rfl
    · cases h
  | .int i, G, X, g, e, h => by
    unfold chkE at h; split at h
    · cases (of_decide_eq_true h); exact .val rfl (by funext ε; rw [ev]) pe_cI (fun _ => rfl) rfl
    · cases h
  | .str s, G, X, g, e, h => by
    unfold chkE at h; split at h
    · cases (of_decide_eq_true h); exact .val rfl (by funext ε; rw [ev]) pe_cS (fun _ => rfl) rfl
    · cases h
  | .var i, G, X, g, e, h => by
    unfold chkE at h; split at h
    · exact .val rfl (by funext ε; rw [ev] <;> rfl) (pe_var' (g.name h)) (fun _ => rfl) rfl
    · cases h
  | .frz i, G, X, g, e, h => by
    unfold chkE at h; split at h
    · exact .val rfl (by funext ε; rw [ev] <;> rfl) (pe_frz' (g.name h)) (fun _ => rfl) rfl
    · cases h
  | .pl i, G, X, g, e, h => by
    unfold chkE at h; split at h
    · exact ⟨by rw [show ev C (.pl i) = fun _ => R.no by funext ε; rw [ev]]; exact pe_no, tO_pl (g.name h), fun _ => pt_of (tO_pl (g.name h)) fun _ => rfl, fun z => by cases z⟩
    · cases h
  | .gl _, G, X, g, e, h => by unfold chkE at h; cases h
  | .op o a b, G, X, g, e, h => by
    unfold chkE at h; split at h
    · rename_i l op r p
      simp only [Bool.and_eq_true, decide_eq_true_eq] at h
      obtain ⟨⟨rfl, h1⟩, h2⟩ := h
      obtain ⟨r, hr, hx⟩ := opr X o
      exact .val rfl (by funext ε; rw [ev]) (pe_opx (sndE a g h1).po (sndE b g h2).po hr hx) (fun _ => rfl) rfl
    · cases h
  | .neg a, G, X, g, e, h => by
    unfold chkE at h; split at h
    · exact .val rfl (by funext ε; rw [ev]) (pe_un' (sndE a g h).po un_neg ru_neg) (fun _ => rfl) rfl
    · cases h
  | .not a, G, X, g, e, h => by
    unfold chkE at h; split at h
    · simp only [Bool.and_eq_true, Bool.not_eq_true'] at h
      exact .of rfl (by funext ε; rw [ev]) (pe_un' (sndE a g h.1).po un_not ru_not) (fun _ => pt_not' ((sndE a g h.1).pt h.2) (fun i z => by cases z)) rfl
    · cases h
  | .cmp o a b, G, X, g, e, h => by
    unfold chkE at h; split at h
    · simp only [Bool.and_eq_true, decide_eq_true_eq, Bool.not_eq_true'] at h
      obtain ⟨⟨⟨rfl, h1⟩, h2⟩, h3⟩ := h
      obtain ⟨r, hr, hx⟩ := opc X g.units o
      exact .of rfl (by funext ε; rw [ev]) (pe_cmp' (sndE a g h1).po (sndE b g h2).po hr hx (noMarks h3)) (fun _ => pt_cmp' (fun i z => by cases z) (fun t u z hz => by
        obtain ⟨b, -, rfl⟩ := Option.map_eq_some_iff.mp hz
        exact ⟨b, rfl⟩) (sndE a g h1).po (sndE b g h2).po hr hx (noMarks h3)) rfl
    · cases h
  | .cmp2 o p a b c, G, X, g, e, h => by
    unfold chkE at h; split at h
    · simp only [Bool.and_eq_true, decide_eq_true_eq, Bool.not_eq_true'] at h
      obtain ⟨⟨⟨⟨⟨rfl, rfl⟩, h1⟩, h2⟩, h3⟩, h4⟩ := h
      exact .of rfl (by funext ε; rw [ev] <;> rfl) (pe_chain' g.units o p (sndE a g h1).pe (sndE b g h2).pe (sndE c g h3).pe (noLast h4)) (fun _ => pt_chain' (fun i z => by cases z) g.units o p (sndE a g h1).pe (sndE b g h2).pe (sndE c g h3).pe (noLast h4)) rfl
    · cases h
  | .and a b, G, X, g, e, h => by
    unfold chkE at h; split at h
    · simp only [Bool.and_eq_true, Bool.not_eq_true'] at h
      obtain ⟨⟨⟨⟨⟨h1, h2⟩, h3⟩, h4⟩, h5⟩, h6⟩ := h
      exact .ofW rfl (by funext ε; rw [ev] <;> rfl) (pe_and' (sndE a g h1).pe (pe_bool1 (sndE b g h2).pe)) (pw_and' (notPl h5) ((sndE a g h1).pt h3) (pw_and1 ((sndE b g h2).pt h4)) (fun ε t ε' e1 b' e2 => by rw [cnd_val (notPl h6) e1, e2]; rfl) (notPl rfl))
    · simp only [Bool.and_eq_true, Bool.not_eq_true'] at h
      obtain ⟨⟨⟨⟨h1, h2⟩, h3⟩, h5⟩, h6⟩ := h
      exact .ofW rfl (by funext ε; rw [ev] <;> rfl) (pe_and' (sndE a g h1).pe (sndE b g h2).pe) (pw_and' (notPl h5) ((sndE a g h1).pt h3) ((sndE b g h2).pw rfl) (fun ε t ε' e1 b' e2 => by rw [cnd_val (notPl h6) e1, e2]; rfl) (notPl rfl))
    · cases h
  | .or a b, G, X, g, e, h => by
    unfold chkE at h; split at h
    · simp only [Bool.and_eq_true, Bool.not_eq_true'] at h
      obtain ⟨⟨⟨⟨⟨h1, h2⟩, h3⟩, h4⟩, h5⟩, h6⟩ := h
      exact .ofW rfl (by funext ε; rw [ev] <;> rfl) (pe_or' (sndE a g h1).pe (pe_bool1 (sndE b g h2).pe)) (pw_or' (notPl h5) ((sndE a g h1).pt h3) (pw_or1 ((sndE b g h2).pt h4)) (fun ε t ε' e1 b' e2 => by rw [cnd_val (notPl h6) e1, e2]; rfl) (notPl rfl))
    · simp only [Bool.and_eq_true, Bool.not_eq_true'] at h
      obtain ⟨⟨⟨⟨h1, h2⟩, h3⟩, h5⟩, h6⟩ := h
      exact .ofW rfl (by funext ε; rw [ev] <;> rfl) (pe_or' (sndE a g h1).pe (sndE b g h2).pe) (pw_or' (notPl h5) ((sndE a g h1).pt h3) ((sndE b g h2).pw rfl) (fun ε t ε' e1 b' e2 => by rw [cnd_val (notPl h6) e1, e2]; rfl) (notPl rfl))
    · cases h
  | .nil ne i k, G, X, g, e, h => by
    unfold chkE at h; split at h
    · simp only [Bool.and_eq_true, decide_eq_true_eq, Bool.not_eq_true'] at h
      obtain ⟨⟨⟨rfl, h1⟩, h2⟩, h3⟩ := h
      exact .of rfl (by funext ε; rw [ev]) (pe_nil' g.units ne (g.name h1) (sndE k g h2).pe (plainIx_of h3)) (fun _ => pt_nil' (notPl rfl) g.units ne (g.name h1) (sndE k g h2).pe (plainIx_of h3)) rfl
    · cases h
  | .ite c a b, G, X, g, e, h => by
    unfold chkE at h; split at h
    · simp only [Bool.and_eq_true, Bool.not_eq_true'] at h
      obtain ⟨⟨⟨h1, h2⟩, h3⟩, h4⟩ := h
      exact .of rfl (by funext ε; rw [ev] <;> rfl) (pe_ite' ((sndE c g h1).pt h4) (sndE a g h2).pe (sndE b g h3).pe) (fun z => by cases z) rfl
    · cases h
  | .bi f as, G, X, g, e, h => by
    unfold chkE at h; split at h
    · simp only [Bool.and_eq_true, decide_eq_true_eq] at h
      obtain ⟨⟨h1, h2⟩, h3⟩ := h
      obtain ⟨k1, k2, -⟩ := sndEs as g h3
      exact .val rfl (by funext ε; rw [ev] <;> rfl) (pe_biV g h1 h2 k1 k2) (fun _ => rfl) rfl
    · cases h
  | .bi1 f i k, G, X, g, e, h => by
    unfold chkE at h; split at h
    · simp only [Bool.and_eq_true, decide_eq_true_eq, Bool.not_eq_true'] at h
      obtain ⟨⟨⟨⟨⟨rfl, rfl⟩, h1⟩, h2⟩, h3⟩, h4⟩ := h
      exact .val rfl (by funext ε; rw [ev] <;> rfl) (pe_bi1 cl_len ru_len (g.bl h1).1 (g.bl h1).2 (by decide +kernel) (by decide) (by decide) (g.name h2) (sndE k g h3).pe (plainIx_of h4)) (fun _ => rfl) rfl
    · cases h
  | .isi a ts, G, X, g, e, h => by
    unfold chkE at h; split at h
    · simp only [Bool.and_eq_true, decide_eq_true_eq, Bool.not_eq_true'] at h
      obtain ⟨⟨⟨⟨rfl, h1⟩, h2⟩, h3⟩, h4⟩ := h
      cases ts with
      | nil => simp [tysB] at h4
      | cons y ys =>
        simp only [tysB, Bool.and_eq_true, decide_eq_true_eq] at h4
        obtain ⟨⟨rfl, h5⟩, h6⟩ := h4
        cases ys with
        | cons _ _ => simp [tysB] at h6
        | nil => exact .val rfl (by funext ε; rw [ev] <;> rfl) (pe_isi1 (g.bl h1).1 (g.bl h1).2 (sndE a g h2).po h3 (g.bl h5).1 (g.bl h5).2) (fun _ => rfl) rfl
    · simp only [Bool.and_eq_true, decide_eq_true_eq, Bool.not_eq_true'] at h
      obtain ⟨⟨⟨⟨⟨rfl, h1⟩, h2⟩, h3⟩, h4⟩, h5⟩ := h
      exact .val rfl (by funext ε; rw [ev] <;> rfl) (pe_isiN (g.bl h1).1 (g.bl h1).2 (sndE a g h2).po h3 (tys_ok g h4) (Nat.le_trans h5 (by decide))) (fun _ => rfl) rfl
    · cases h
  | .idx a b, G, X, g, e, h => by
    unfold chkE at h; split at h
    · simp only [Bool.and_eq_true, Bool.not_eq_true'] at h
      obtain ⟨⟨h1, h2⟩, h3⟩ := h
      exact .val rfl (by funext ε; rw [ev] <;> rfl) (pe_idx' g.units1 (sndE a g h1).po (sndE b g h2).po (plainIx_of h3)) (fun _ => rfl) rfl
    · cases h
  | .frz1 i a, G, X, g, e, h => by
    unfold chkE at h; split at h
    · simp only [Bool.and_eq_true, Bool.not_eq_true'] at h
      obtain ⟨⟨h1, h2⟩, h3⟩ := h
      exact .val rfl (by funext ε; rw [ev]) (pe_frz1' (g.name h1) (sndE a g h2).pe (plainIx_of h3)) (fun _ => rfl) rfl
    · cases h
  | .sl a lo hi, G, X, g, e, h => by
    have hn : ∀ {ir : E}, isNonE ir = true → ir = .non := fun {ir} z => by cases ir <;> first | rfl | cases z
    have hne : ∀ {ir : E}, isNonE ir = false → ir ≠ .non := fun {ir} z y => by subst y; cases z
    unfold chkE at h; split at h
    · simp only [Bool.and_eq_true, Bool.not_eq_true'] at h
      obtain ⟨⟨h1, h2⟩, h3⟩ := h
      cases hn h2; cases hn h3
      exact .val rfl (by funext ε; rw [ev] <;> rfl) (pe_slice' (sndE a g h1).po (po_non' fun ε => by rw [ev]) (po_non' fun ε => by rw [ev])) (fun _ => rfl) rfl
    · simp only [Bool.and_eq_true, Bool.not_eq_true'] at h
      obtain ⟨⟨⟨h1, h2⟩, h3⟩, h4⟩ := h
      cases hn h4
      exact .val rfl (by funext ε; rw [ev] <;> rfl) (pe_slice' (sndE a g h1).po (po_some' (sndE lo g h2).pe (hne h3)) (po_non' fun ε => by rw [ev])) (fun _ => rfl) rfl
    · simp only [Bool.and_eq_true, Bool.not_eq_true'] at h
      obtain ⟨⟨⟨h1, h2⟩, h3⟩, h4⟩ := h
      cases hn h2
      exact .val rfl (by funext ε; rw [ev] <;> rfl) (pe_slice' (sndE a g h1).po (po_non' fun ε => by rw [ev]) (po_some' (sndE hi g h3).pe (hne h4))) (fun _ => rfl) rfl
    · simp only [Bool.and_eq_true, Bool.not_eq_true'] at h
      obtain ⟨⟨⟨⟨h1, h2⟩, h3⟩, h4⟩, h5⟩ := h
      exact .val rfl (by funext ε; rw [ev] <;> rfl) (pe_slice' (sndE a g h1).po (po_some' (sndE lo g h2).pe (hne h3)) (po_some' (sndE hi g h4).pe (hne h5))) (fun _ => rfl) rfl
    · cases h
  | .tup as, G, X, g, e, h => by
    unfold chkE at h; split at h
    · simp only [Bool.and_eq_true, decide_eq_true_eq] at h
      obtain ⟨h1, h2⟩ := h
      exact .val rfl (by funext ε; rw [ev]) (pe_tup' (sndEs as g h1).2.2 fun ε ts ε' e => by rw [len_evv h1 _ _ _ e]; exact Nat.le_trans h2 (by decide)) (fun _ => rfl) rfl
    · cases h
  | .lst as, G, X, g, e, h => by
    unfold chkE at h; split at h
    · simp only [Bool.and_eq_true, decide_eq_true_eq] at h
      obtain ⟨h1, h2⟩ := h
      exact .val rfl (by funext ε; rw [ev]) (pe_lst' (sndEs as g h1).2.2 fun ε ts ε' e => by rw [len_evv h1 _ _ _ e]; exact Nat.le_trans h2 (by decide)) (fun _ => rfl) rfl
    · cases h
  | .dic ks vs, G, X, g, e, h => by
    unfold chkE at h; split at h
    · split at h
      · exact .val rfl (by funext ε; rw [ev]) pe_dic0 (fun _ => rfl) rfl
      · cases h
    · rename_i k v
      split at h
      · simp only [Bool.and_eq_true] at h
        exact .val rfl (by funext ε; rw [ev]) (pe_dic1 (sndE k g h.1).pe (sndE v g h.2).pe) (fun _ => rfl) rfl
      · cases h
    · cases h
  | .pop i, G, X, g, e, h => by
    unfold chkE at h; split at h
    · simp only [Bool.and_eq_true, decide_eq_true_eq] at h
      obtain ⟨⟨rfl, h1⟩, h2⟩ := h
      exact .val rfl (by funext ε; rw [ev] <;> rfl) (pe_pop' (g.name h2) h1) (fun _ => rfl) rfl
    · cases h
  | .popi i k, G, X, g, e, h => by
    unfold chkE at h; split at h
    · simp only [Bool.and_eq_true, decide_eq_true_eq, Bool.not_eq_true'] at h
      obtain ⟨⟨⟨⟨rfl, h1⟩, h2⟩, h3⟩, h4⟩ := h
      exact .val rfl (by funext ε; rw [ev] <;> rfl) (pe_popi' (g.name h2) (sndE k g h3).pe h1 h4) (fun _ => rfl) rfl
    · cases h
  | .pop1 i k, G, X, g, e, h => by
    unfold chkE at h; split at h
    · simp only [Bool.and_eq_true, decide_eq_true_eq, Bool.not_eq_true'] at h
      obtain ⟨⟨⟨⟨rfl, h1⟩, h2⟩, h3⟩, h4⟩ := h
      exact .val rfl (by funext ε; rw [ev]) (pe_pop1' (g.name h2) (sndE k g h3).pe (plainIx_of h4) h1) (fun _ => rfl) rfl
    · cases h
  | .get1 a k, G, X, g, e, h => by
    unfold chkE at h; split at h
    · simp only [Bool.and_eq_true, decide_eq_true_eq, Bool.not_eq_true'] at h
      obtain ⟨⟨⟨⟨⟨rfl, h1⟩, h2⟩, h3⟩, h4⟩, h5⟩ := h
      exact .val rfl (by funext ε; rw [ev] <;> rfl) (pe_get1' g.units1 (sndE a g h2).po (sndE k g h3).pe (m1_of h4 h5 h1)) (fun _ => rfl) rfl
    · cases h
  | .get2 a k d, G, X, g, e, h => by
    unfold chkE at h; split at h
    · simp only [Bool.and_eq_true, decide_eq_true_eq, Bool.not_eq_true'] at h
      obtain ⟨⟨⟨⟨⟨⟨⟨rfl, h1⟩, h2⟩, h3⟩, h4⟩, h5⟩, h6⟩, h7⟩ := h
      exact .val rfl (by funext ε; rw [ev] <;> rfl) (pe_get2' g.units1 (sndE a g h2).po (sndE k g h3).pe (sndE d g h4).pe (m2_of h5 h6 h7 h1)) (fun _ => rfl) rfl
    · cases h
  | .lrng tp a, G, X, g, e, h => by
    unfold chkE at h; split at h
    · simp only [Bool.and_eq_true, decide_eq_true_eq, Bool.not_eq_true'] at h
      obtain ⟨⟨⟨⟨⟨rfl, h1⟩, rfl⟩, h2⟩, h3⟩, h4⟩ := h
      exact .val rfl (by funext ε; rw [ev] <;> rfl) (pe_lrng1 g.hc (g.bl h1).1 (g.bl h1).2 (g.bl h2).1 (g.bl h2).2 (sndE a g h3).pe h4) (fun _ => rfl) rfl
    · cases h
  | .lrng2 tp a b, G, X, g, e, h => by
    unfold chkE at h; split at h
    · simp only [Bool.and_eq_true, decide_eq_true_eq, Bool.not_eq_true'] at h
      obtain ⟨⟨⟨⟨⟨⟨⟨rfl, h1⟩, rfl⟩, h2⟩, h3⟩, h4⟩, h5⟩, h6⟩ := h
      exact .val rfl (by funext ε; rw [ev] <;> rfl) (pe_lrng2 g.hc (g.bl h1).1 (g.bl h1).2 (g.bl h2).1 (g.bl h2).2 (sndE a g h3).pe (sndE b g h4).pe h5 h6) (fun _ => rfl) rfl
    · cases h
  | .lrev tp a, G, X, g, e, h => by
    unfold chkE at h; split at h
    · simp only [Bool.and_eq_true, decide_eq_true_eq, Bool.not_eq_true'] at h
      obtain ⟨⟨⟨⟨⟨rfl, h1⟩, rfl⟩, h2⟩, h3⟩, h4⟩ := h
      exact .val rfl (by funext ε; rw [ev] <;> rfl) (pe_lrev' g.hc (g.bl h1).1 (g.bl h1).2 (g.bl h2).1 (g.bl h2).2 (sndE a g h3).pe h4) (fun _ => rfl) rfl
    · cases h
  | .callk f as ks ord, G, X, g, e, h => by
    unfold chkE at h; split at h
    · split at h
      · rename_i x p kws pos
        simp only [Bool.and_eq_true] at h
        obtain ⟨⟨h1, h2⟩, h3⟩ := h
        split at h1
        · rename_i q hq
          obtain ⟨y, ps, kos⟩ := q
          simp only [Bool.and_eq_true, decide_eq_true_eq, List.any_eq_true] at h1
          obtain ⟨rfl, ⟨ns, ord'⟩, hmem, ⟨h4, rfl⟩, h5⟩ := h1
          obtain ⟨k, hr, hk⟩ := g.kk
          obtain ⟨fa, fd, F, hm, hkeep, -, -, hb⟩ := (hk _ _ hq).ex
          obtain ⟨hg, hd⟩ := g.gl h2
          have hl : ns.length = kws.length := by have := congrArg List.length h4; simpa using this.symm
          refine .val rfl (f := fun ε => bnd (evs C ks ε) fun us ε2 => match perm us ord' with | some ws => calls C f ws ε2 | none => .no) (by funext ε; rw [ev, evs]; rfl) (pe_imp (pe_callGKp F hr g.hgd hg hm hkeep (hb _ hmem) (sndKs ks g h3) (fun pos => (kw_names h4).1) (fun pos => (kw_names h4).2) hd) fun σ H Q w => ?_) (fun _ => rfl) rfl
          obtain ⟨ε, F', os, ε', s, e1, kk⟩ := read_callk (m := kws.length) rfl (fun ts t outs => g.hn _ _ ts t outs hq) h5 (fun ε os ε' e => len_evs h3 _ _ _ e) w
          exact ⟨ε, F', os, ε', s, e1, fun vs H' hv s' ok => ⟨by rw [hv, hl]; exact len_evs h3 _ _ _ e1, kk vs H' hv s' ok⟩⟩
        · cases h1
      · cases h
    · cases h
  | .count _ _, G, X, g, e, h => by unfold chkE at h; cases h
  | .index _ _, G, X, g, e, h => by unfold chkE at h; cases h
  | .call f as, G, X, g, e, h => by
    unfold chkE at h; split at h
    · rename_i x p es pos
      simp only [Bool.and_eq_true] at h
      obtain ⟨⟨h1, h2⟩, h3⟩ := h
      split at h1
      · rename_i q hq
        obtain ⟨y, ps, kos⟩ := q
        cases (of_decide_eq_true h1 : y = x)
        obtain ⟨k, hr, hk⟩ := g.kk
        obtain ⟨fa, fd, F, hm, hkeep, hb, -⟩ := (hk _ _ hq).ex
        obtain ⟨hg, hd⟩ := g.gl h2
        obtain ⟨k1, k2, -⟩ := sndEs as g h3
        refine .val rfl (by funext ε; rw [ev]) ?_ (fun _ => rfl) rfl
        cases es with
        | cons e0 es => exact pe_imp (pe_callG F hr g.hgd hg hm hkeep hb k1 hd k2) fun σ H Q w => read_call rfl (fun ts t outs => g.hn _ _ ts t outs hq) w
        | nil =>
          refine pe_imp (pe_callG0 F hr g.hgd hg hm hkeep hb hd) fun σ H Q w => ?_
          obtain ⟨ε, F, os, ε', s, e1, q⟩ := read_call rfl (fun ts t outs => g.hn _ _ ts t outs hq) w
          cases as with
          | cons _ _ => simp [chkEs] at h3
          | nil =>
            rw [evs] at e1
            cases e1
            exact q [] H rfl s trivial
      · cases h1
    · rename_i x p kws pos hkw
      simp only [Bool.and_eq_true] at h
      obtain ⟨⟨h1, h2⟩, h3⟩ := h
      split at h1
      · rename_i q hq
        obtain ⟨y, ps, kos⟩ := q
        simp only [Bool.and_eq_true, decide_eq_true_eq] at h1
        obtain ⟨rfl, h4⟩ := h1
        obtain ⟨k, hr, hk⟩ := g.kk
        obtain ⟨fa, fd, F, hm, hkeep, -, hb, -⟩ := (hk _ _ hq).ex
        obtain ⟨hg, hd⟩ := g.gl h2
        exact .val rfl (by funext ε; rw [ev]) (pe_imp (pe_callGK0 F hr g.hgd hg hm hkeep hb (sndKs as g h3) (fun pos => (kw_names h4).1) (fun pos => (kw_names h4).2) hd) fun σ H Q w => read_call rfl (fun ts t outs => g.hn _ _ ts t outs hq) w) (fun _ => rfl) rfl
      · cases h1
    · cases h
  | .lc own tg it cs e1, G, X, g, e, h => by
    unfold chkE at h; split at h
    · rename_i elt tx ix ifs scope pos
      simp only [Bool.and_eq_true, Bool.not_eq_true'] at h
      obtain ⟨⟨⟨⟨⟨h1, h2⟩, h3⟩, h4⟩, h5⟩, h6⟩ := h
      refine .val rfl (by funext ε; rw [ev]) (pe_imp (pe_lc (own := ownL G own) (te := tE X.K (ev C e1)) (tt := tT X.K (evc C cs)) (g := tG X.K (fun i => decide (i ∈ own) = true) tg) g.hc (by rw [g.hN]; exact g.nd) (sndI it g h2) (blkOk_by (by rw [g.hN, g.hsc]; exact h1))
        (fun s H D cl fp => tg_ok g.blk h4) (fun s H D cl fp => ?_) (fun s H D cl fp => (sndE e1 g.blk h5).pe) (noFold h3)) fun σ H Q w => by
          rw [ownL_fst]
          exact read_lc (fun i hi => of_decide_eq_true hi) w) (fun _ => rfl) rfl
      cases cs with
      | nil =>
        cases ifs with
        | cons _ _ => simp at h6
        | nil =>
          refine ⟨fun pins s σ H Q I hw => pts_nil.run pins s σ H Q I ?_⟩
          obtain ⟨ε, F, b, ε', s', e1, k⟩ := hw
          rw [evc] at e1
          cases e1
          exact k H s'
      | cons c cs =>
        cases cs with
        | cons _ _ => simp at h6
        | nil =>
          cases ifs with
          | nil => simp at h6
          | cons l ifs =>
            cases ifs with
            | cons _ _ => simp at h6
            | nil =>
              simp only [Bool.and_eq_true, Bool.not_eq_true'] at h6
              rw [show evc C (.cons c .nil) = cnd c (ev C c) by funext ε; rw [evc]]
              exact pts_one ((sndE c g.blk h6.1).pt h6.2)
    · cases h
theorem sndEs : ∀ (as : Es) {G : Ct} {X : Cx} (g : Good C G X) {es : List Expr}, chkEs G as es = true → PA X es (tOs X.K (evs C as)) ∧ noStar es = true ∧ PA X es (tV X.K (evv C as))
  | .nil, G, X, g, es, h => by
    rw [chkEs] at h
    cases es with
    | cons _ _ => cases h
    | nil => exact ⟨by rw [show evs C .nil = fun ε => R.ok [] ε by funext ε; rw [evs]]; exact pa_nil', rfl, by rw [show evv C .nil = fun ε => R.ok [] ε by funext ε; rw [evv]]; exact pv_nil⟩
  | .cons a as, G, X, g, [], h => by simp [chkEs] at h
  | .cons a as, G, X, g, x :: es, h => by
    simp only [chkEs, Bool.and_eq_true, Bool.not_eq_true'] at h
    obtain ⟨⟨h1, h2⟩, h3⟩ := h
    obtain ⟨k1, k2, k3⟩ := sndEs as g h3
    have k := sndE a g h1
    refine ⟨?_, ?_, ?_⟩
    · rw [show evs C (.cons a as) = fun ε => bnd (asO a (ev C a) ε) fun x ε1 => bnd (evs C as ε1) fun xs ε2 => .ok (x :: xs) ε2 by funext ε; rw [evs]]
      exact pa_cons' k.po k1 h2
    · show (!isStar x && noStar es) = true
      rw [h2, k2]; rfl
    · rw [show evv C (.cons a as) = fun ε => bnd (ev C a ε) fun x ε1 => bnd (evv C as ε1) fun xs ε2 => .ok (x :: xs) ε2 by funext ε; rw [evv]]
      exact pv_cons k.pe k3 h2
theorem sndKs : ∀ (as : Es) {G : Ct} {X : Cx} (g : Good C G X) {kws : List Keyword}, chkKs G as kws = true → PK X kws (tOs X.K (evs C as))
  | .nil, G, X, g, kws, h => by
    rw [chkKs] at h
    cases kws with
    | cons _ _ => cases h
    | nil => rw [show evs C .nil = fun ε => R.ok [] ε by funext ε; rw [evs]]; exact pk_nil'
  | .cons a as, G, X, g, [], h => by simp [chkKs] at h
  | .cons a as, G, X, g, ⟨nm, x, kp⟩ :: kws, h => by
    simp only [chkKs, Bool.and_eq_true] at h
    rw [show evs C (.cons a as) = fun ε => bnd (asO a (ev C a) ε) fun x ε1 => bnd (evs C as ε1) fun xs ε2 => .ok (x :: xs) ε2 by funext ε; rw [evs]]
    exact pk_cons' (sndE a g h.1).po (sndKs as g h.2)
theorem sndI : ∀ (it : It) {G : Ct} {X : Cx} (g : Good C G X) {tx e : Expr}, chkI G it tx e = true → PI X tx e (tIt X.K (evi C it))
  | .seq a, G, X, g, tx, e, h => by
    unfold chkI at h
    rw [show evi C (.seq a) = fSeqL (ev C a) by funext ε; rw [evi]; rfl]
    exact pi_seq' (sndE a g h).pe
  | .rng1 a, G, X, g, tx, e, h => by
    rw [show evi C (.rng1 a) = fRng1 (ev C a) by funext ε; rw [evi]; rfl]
    unfold chkI at h; split at h
    · simp only [Bool.and_eq_true, decide_eq_true_eq, Bool.not_eq_true'] at h
      obtain ⟨⟨⟨rfl, h1⟩, h2⟩, h3⟩ := h
      exact pi_rng1 (g.bl h1).1 (g.bl h1).2 (sndE a g h2).pe h3
    · cases h
  | .rng2 a b, G, X, g, tx, e, h => by
    rw [show evi C (.rng2 a b) = fRng2 (ev C a) (ev C b) by funext ε; rw [evi]; rfl]
    unfold chkI at h; split at h
    · simp only [Bool.and_eq_true, decide_eq_true_eq, Bool.not_eq_true'] at h
      obtain ⟨⟨⟨⟨⟨rfl, h1⟩, h2⟩, h3⟩, h4⟩, h5⟩ := h
      exact pi_rng2 (g.bl h1).1 (g.bl h1).2 (sndE a g h2).pe (sndE b g h3).pe h4 h5
    · cases h
  | .rng3 a b c, G, X, g, tx, e, h => by
    rw [show evi C (.rng3 a b c) = fRng3 (ev C a) (ev C b) (ev C c) by funext ε; rw [evi]; rfl]
    unfold chkI at h; split at h
    · simp only [Bool.and_eq_true, decide_eq_true_eq, Bool.not_eq_true'] at h
      obtain ⟨⟨⟨⟨⟨⟨⟨rfl, h1⟩, h2⟩, h3⟩, h4⟩, h5⟩, h6⟩, h7⟩ := h
      exact pi_rng3 (g.bl h1).1 (g.bl h1).2 (sndE a g h2).pe (sndE b g h3).pe (sndE c g h4).pe h5 h6 h7
    · cases h
  | .enum a, G, X, g, tx, e, h => by
    rw [show evi C (.enum a) = fEnum (ev C a) by funext ε; rw [evi]; rfl]
    unfold chkI at h; split at h
    · split at h
      · simp only [Bool.and_eq_true, decide_eq_true_eq, Bool.not_eq_true'] at h
        obtain ⟨⟨⟨rfl, h1⟩, h2⟩, h3⟩ := h
        exact pi_enum' (g.bl h1).1 (g.bl h1).2 (sndE a g h2).pe h3
      · cases h
    · cases h
  | .zip a b, G, X, g, tx, e, h => by
    rw [show evi C (.zip a b) = fZip (ev C a) (ev C b) by funext ε; rw [evi]; rfl]
    unfold chkI at h; split at h
    · split at h
      · simp only [Bool.and_eq_true, decide_eq_true_eq, Bool.not_eq_true'] at h
        obtain ⟨⟨⟨⟨⟨rfl, h1⟩, h2⟩, h3⟩, h4⟩, h5⟩ := h
        exact pi_zip' (g.bl h1).1 (g.bl h1).2 (sndE a g h2).pe (sndE b g h3).pe h4 h5
      · cases h
    · cases h
  | .rev a, G, X, g, tx, e, h => by
    rw [show evi C (.rev a) = fRev (ev C a) by funext ε; rw [evi]; rfl]
    unfold chkI at h; split at h
    · simp only [Bool.and_eq_true, decide_eq_true_eq, Bool.not_eq_true'] at h
      obtain ⟨⟨⟨rfl, h1⟩, h2⟩, h3⟩ := h
      exact pi_rev' (g.bl h1).1 (g.bl h1).2 (sndE a g h2).pe h3
    · cases h
  | .items a, G, X, g, tx, e, h => by
    rw [show evi C (.items a) = fItems (ev C a) by funext ε; rw [evi]; rfl]
    unfold chkI at h; split at h
    · split at h
      · simp only [Bool.and_eq_true, decide_eq_true_eq, Bool.not_eq_true'] at h
        obtain ⟨⟨⟨rfl, h1⟩, h2⟩, h3⟩ := h
        exact pi_items' (sndE a g h2).pe h3 h1
      · cases h
    · cases h
  | .vals a, G, X, g, tx, e, h => by
    rw [show evi C (.vals a) = fVals (ev C a) by funext ε; rw [evi]; rfl]
    unfold chkI at h; split at h
    · simp only [Bool.and_eq_true, decide_eq_true_eq, Bool.not_eq_true'] at h
      obtain ⟨⟨⟨rfl, h1⟩, h2⟩, h3⟩ := h
      exact pi_vals' (sndE a g h2).pe h3 h1
    · cases h
end
end Tq
end

section
set_option Elab.async false
set_option maxRecDepth 100000
set_option maxHeartbeats 8000000
/-! TLs38: the checker of statements. -/
namespace Tq
open PySem PySem.Spec PyProof.Rows L2
/-- does a comprehension's store swap with its name -/
def swB (G : Ct) (x : Str) (px : Pos) : Expr → Bool
  | .ListComp _ _ scope cp => (some .local == G.sc.names.lookup x) && px.line == cp.line && !(scope.names.any fun (n, k) => n == x && (k == .local || k == .cell))
  | _ => false
def isName : Expr → Bool
  | .Name _ _ => true
  | _ => false
def isLcE : E → Bool
  | .lc _ _ _ _ _ => true
  | _ => false
def isOtherComp : Expr → Bool
  | .SetComp _ _ _ _ => true
  | .DictComp _ _ _ _ _ => true
  | _ => false
def tupNone : Expr → Expr → Bool
  | .Tuple ts _ _, .Tuple vs _ _ => !(ts.length == 2 || ts.length == 3) || vs.all (foldedForSure 8)
  | .List _ _, .Tuple _ _ _ => false
  | _, _ => true
theorem starEq : ∀ (e : Expr), isStar e = false → (match e with | .Starred _ _ => true | _ => false) = false := fun e h => by cases e <;> first | rfl | cases h
theorem dups2 {x y : Str} (h : x ≠ y) : [x, y].eraseDups = [x, y] := by
  have : (x == y) = false := by simpa using h
  have h' : (y == x) = false := by simpa using fun z => h z.symm
  simp [List.eraseDups, List.eraseDupsBy, List.eraseDupsBy.loop, this, h']
theorem dups3 {x y z : Str} (h : x ≠ y) (h2 : x ≠ z) (h3 : y ≠ z) : [x, y, z].eraseDups = [x, y, z] := by
  have : (x == y) = false := by simpa using h
  have h' : (y == x) = false := by simpa using fun z => h z.symm
  have g : (x == z) = false := by simpa using h2
  have g' : (z == x) = false := by simpa using fun z => h2 z.symm
  have k : (y == z) = false := by simpa using h3
  have k' : (z == y) = false := by simpa using fun z => h3 z.symm
  simp [List.eraseDups, List.eraseDupsBy, List.eraseDupsBy.loop, this, h', g, g', k, k']
theorem swap2 {env : PySem.Env} {x y : Str} {a b : Expr} {px py : Pos} {kt k2 : Nat} {pt pt2 : Pos} (hbk : env.blockKind = .function) (kx : env.kindOf x = some .local) (ky : env.kindOf y = some .local) (hl : (py.line == px.line) = true) (hxy : x ≠ y) (ha : isStar a = false) (hb : isStar b = false)
    (h1 : [a, b].all (foldedForSure 8) = false) (h2 : [a, b].all (constantsAlone 8) = false) : swappedStores [.Tuple [.Name x px, .Name y py] kt pt] (.Tuple [a, b] k2 pt2) env = pure (some [x, y]) := by
  unfold swappedStores
  dsimp only [List.filterMap_cons, List.filterMap_nil, List.head?_cons, Option.map_some, Option.getD_some, Expr.pos]
  simp only [kx, ky, hl, hbk, h1, h2, List.any_cons, List.any_nil, beq_self_eq_true, Bool.and_self, Bool.and_true, if_true, dups2 hxy]
  refine (if_neg (by simp)).trans ((if_neg fun h => ?_).trans ?_)
  · rcases (Bool.or_eq_true _ _).mp h with h | h
    · exact Bool.noConfusion ((starEq a ha).symm.trans h)
    · rcases (Bool.or_eq_true _ _).mp h with h | h
      · exact Bool.noConfusion ((starEq b hb).symm.trans h)
      · cases h
  · simp
theorem swap3 {env : PySem.Env} {x y z : Str} {a b c : Expr} {px py pz : Pos} {kt k2 : Nat} {pt pt2 : Pos} (hbk : env.blockKind = .function) (kx : env.kindOf x = some .local) (ky : env.kindOf y = some .local) (kz : env.kindOf z = some .local) (hl : (py.line == px.line) = true) (hl2 : (pz.line == px.line) = true) (hxy : x ≠ y) (hxz : x ≠ z) (hyz : y ≠ z) (ha : isStar a = false) (hb : isStar b = false) (hc : isStar c = false)
    (h1 : [a, b, c].all (foldedForSure 8) = false) (h2 : [a, b, c].all (constantsAlone 8) = false) : swappedStores [.Tuple [.Name x px, .Name y py, .Name z pz] kt pt] (.Tuple [a, b, c] k2 pt2) env = pure (some [x, y, z]) := by
  unfold swappedStores
  dsimp only [List.filterMap_cons, List.filterMap_nil, List.head?_cons, Option.map_some, Option.getD_some, Expr.pos]
  simp only [kx, ky, kz, hl, hl2, hbk, h1, h2, List.any_cons, List.any_nil, beq_self_eq_true, Bool.and_self, Bool.and_true, if_true, dups3 hxy hxz hyz]
  refine (if_neg (by simp)).trans ((if_neg fun h => ?_).trans ?_)
  · rcases (Bool.or_eq_true _ _).mp h with h | h
    · exact Bool.noConfusion ((starEq a ha).symm.trans h)
    · rcases (Bool.or_eq_true _ _).mp h with h | h
      · exact Bool.noConfusion ((starEq b hb).symm.trans h)
      · rcases (Bool.or_eq_true _ _).mp h with h | h
        · exact Bool.noConfusion ((starEq c hc).symm.trans h)
        · cases h
  · simp

theorem swapN {env : PySem.Env} {ts vs : List Expr} {k1 k2 p1 p2} (h : (!(ts.length == 2 || ts.length == 3)) = true ∨ vs.all (foldedForSure 8) = true) : swappedStores [.Tuple ts k1 p1] (.Tuple vs k2 p2) env = pure none := by
  unfold swappedStores
  dsimp only
  split
  · rfl
  · rename_i h1
    split
    · rfl
    · split
      · rfl
      · split
        · rfl
        · rename_i h2
          rcases h with h | h
          · exact absurd (by rw [h]; rfl) h1
          · exact absurd h h2
def nonLoc (k : Str → Option NameKind) : Expr → Bool
  | .Tuple ts _ _ => ts.any fun e => match e with
    | .Name x _ => !(k x == some .local)
    | _ => true
  | _ => false
theorem swapC {env : PySem.Env} {ts vs : List Expr} {k1 k2 p1 p2} (h : nonLoc env.kindOf (.Tuple ts k1 p1) = true) : swappedStores [.Tuple ts k1 p1] (.Tuple vs k2 p2) env = pure none := by
  unfold swappedStores
  dsimp only
  split
  · rfl
  · split
    · rfl
    · split
      · rfl
      · rename_i h3
        refine absurd ?_ h3
        rw [Bool.or_eq_true]
        left
        rw [bne_iff_ne]
        intro hc
        rw [List.length_filterMap_eq_countP, List.countP_eq_length] at hc
        unfold nonLoc at h
        obtain ⟨e, he, h⟩ := List.any_eq_true.mp h
        have := hc e he
        cases e <;> first | (cases this; done) | skip
        simp only [Bool.not_eq_true'] at h
        dsimp only at this
        rw [h] at this
        cases this
section
variable {C : Cn} {G : Ct} {X : Cx} {x y z : Str} {i j l : Nat} {p pos px py pz pt pt2 : Pos} {e a b c : Expr} {env : PySem.Env}
theorem sw_of (hk : env.scope.kind = .function) (hsc : env.scope = G.sc) {n : Nat} (h : isOtherComp e = false) : swapsWith e (some (.Name x px)) n env = pure (swB G x px e) := by
  have hb : env.blockKind = .function := by unfold Env.blockKind; rw [hk]; rfl
  have hkd : env.kindOf x = G.sc.names.lookup x := by unfold Env.kindOf; rw [hsc]
  cases e <;> first | (cases h; done) | rfl | skip
  rename_i elt gens scope cp
  unfold swapsWith swB
  simp only [hb, hkd, Expr.pos]
  cases h1 : G.sc.names.lookup x with
  | none => rfl
  | some k => cases k <;> rfl
theorem swN_of (h : isOtherComp e = false) {t : Expr} {n : Nat} (ht : isName t = false) : swapsWith e (some t) n env = pure false := by
  cases e <;> first | (cases h; done) | rfl | skip
  cases t <;> first | (cases ht; done) | rfl
theorem swapNone {t v : Expr} (h : tupNone t v = true) : swappedStores [t] v env = pure none := by
  cases t <;> try rfl
  · cases v <;> first | rfl | (cases h; done)
  · cases v <;> try rfl
    simp only [tupNone, Bool.or_eq_true] at h
    exact swapN h
theorem swapNoneG {t v : Expr} (h : (tupNone t v || nonLoc (fun x => G.sc.names.lookup x) t) = true) (hsc : env.scope = G.sc) : swappedStores [t] v env = pure none := by
  rcases (Bool.or_eq_true _ _).mp h with h2 | h2
  · exact swapNone h2
  · have hk : (fun x => G.sc.names.lookup x) = env.kindOf := by funext x; unfold Env.kindOf; rw [hsc]
    rw [hk] at h2
    clear h
    cases t <;> first | (cases h2; done) | skip
    cases v <;> first | rfl | exact swapC h2
end
def nmsB (G : Ct) (M : Nat → Bool) (ln : Nat) : List Nat → List Expr → Bool
  | [], [] => true
  | i :: is, .Name x p :: es => decide (G.N[i]? = some x) && decide (G.sc.names.lookup x = some .local) && M i && p.line == ln && nmsB G M ln is es
  | _, _ => false
mutual
def chkS (G : Ct) (M : Nat → Bool) : S → Stmt → Bool
  | .pass, st => match st with
    | .Pass _ => true
    | .Expr (.Constant (.str _) _ _) _ => true
    | _ => false
  | .brk, st => match st with
    | .Break _ => true
    | _ => false
  | .ct, st => match st with
    | .Continue _ => true
    | _ => false
  | .retN, st => match st with
    | .Return none _ => true
    | _ => false
  | .ret e, st => match st with
    | .Return (some l) _ => chkE G e l
    | _ => false
  | .asg tg e, st => match tg with
    | .s i => (match st with
      | .Assign [.Name x px] v _ => decide (G.N[i]? = some x) && locB G x && M i && chkE G e v && !isOtherComp v && (!swB G x px v || isLcE e)
      | _ => false)
    | .t gs => (match st with
      | .Assign [t] v _ => tgB G M (.t gs) t && chkE G e v && !isOtherComp v && (tupNone t v || nonLoc (fun x => G.sc.names.lookup x) t)
      | _ => false)
  | .par is es, st => match st with
    | .Assign [.Tuple [.Name x px, .Name y py] _ _] (.Tuple [a, b] _ _) _ => chkEs G es [a, b] && nmsB G M px.line is [.Name x px, .Name y py] && decide (is.Nodup) && !([a, b].all (foldedForSure 8)) && !([a, b].all (constantsAlone 8))
    | .Assign [.Tuple [.Name x px, .Name y py, .Name z pz] _ _] (.Tuple [a, b, c] _ _) _ => chkEs G es [a, b, c] && nmsB G M px.line is [.Name x px, .Name y py, .Name z pz] && decide (is.Nodup) && !([a, b, c].all (foldedForSure 8)) && !([a, b, c].all (constantsAlone 8))
    | _ => false
  | .seti i k e, st => match st with
    | .Assign [.Subscript (.Name x _) l _] v _ => nmB G i x && chkE G k l && chkE G e v && !isSlice l
    | _ => false
  | .app i e, st => match st with
    | .Expr (.Call (.Attribute (.Name x _) m ap) [l] [] cp) _ => decide (m = "append") && lineB ap cp && nmB G i x && chkE G e l && !isStar l
    | _ => false
  | .ext i e, st => match st with
    | .Expr (.Call (.Attribute (.Name x _) m ap) [l] [] cp) _ => decide (m = "extend") && lineB ap cp && nmB G i x && chkE G e l && !isStar l
    | _ => false
  | .drop e, st => match st with
    | .Expr l _ => chkE G e l && !isComp l
    | _ => false
  | .iff c a b, st => match st with
    | .If l sa sb _ => chkE G c l && !isIfE l && chkSs G M a sa && chkSs G M b sb
    | _ => false
  | .for tg it b, st => match st with
    | .For t ix body [] _ => chkI G it t ix && !isSet ix && tgB G M tg t && chkSs G M b body
    | _ => false
  | .whl c b, st => match st with
    | .While l body [] _ => chkE G c l && !isIfE l && chkSs G M b body
    | _ => false
  | .raise _ _, _ => true
def chkSs (G : Ct) (M : Nat → Bool) : Ss → List Stmt → Bool
  | .nil, sts => sts.isEmpty
  | .cons s ss, sts => match sts with
    | [] => false
    | st :: sts => chkS G M s st && chkSs G M ss sts
end
/-! ### it is right -/
variable {C : Cn}
theorem lc_args {own : List Nat} {tg : Tg} {it : It} {cs : Es} {e1 : E} {G : Ct} {X : Cx} (g : Good C G X) {elt : Expr} {gens : List Comprehension} {scope : Scope} {pos : Pos} (h : chkE G (.lc own tg it cs e1) (.ListComp elt gens scope pos) = true) :
    ∃ tx ix ifs, gens = [⟨tx, ix, ifs, 0⟩] ∧ PI X tx ix (tIt X.K (evi C it)) ∧ BlkOk X.N X.env.scope scope (ownL G own) ∧
      (∀ (s : Shared) (H : Hp) (D : Addr) (cl : List (Str × Addr)) (fp : List Addr), PG (X.blk s H scope (compEnvC scope cl D X.env) fp) tx (tG X.K (fun i => decide (i ∈ own) = true) tg)) ∧
      (∀ (s : Shared) (H : Hp) (D : Addr) (cl : List (Str × Addr)) (fp : List Addr), PTs (X.blk s H scope (compEnvC scope cl D X.env) fp) ifs (tT X.K (evc C cs))) ∧
      (∀ (s : Shared) (H : Hp) (D : Addr) (cl : List (Str × Addr)) (fp : List Addr), PE (X.blk s H scope (compEnvC scope cl D X.env) fp) elt (tE X.K (ev C e1))) ∧ isSet ix = false := by
  unfold chkE at h
  split at h
  · rename_i elt' tx ix ifs scope' pos' he
    cases he
    simp only [Bool.and_eq_true, Bool.not_eq_true'] at h
    obtain ⟨⟨⟨⟨⟨h1, h2⟩, h3⟩, h4⟩, h5⟩, h6⟩ := h
    refine ⟨tx, ix, ifs, rfl, sndI it g h2, blkOk_by (by rw [g.hN, g.hsc]; exact h1), fun s H D cl fp => tg_ok g.blk h4, fun s H D cl fp => ?_, fun s H D cl fp => (sndE e1 g.blk h5).pe, h3⟩
    cases cs with
    | nil =>
      cases ifs with
      | cons _ _ => simp at h6
      | nil =>
        refine ⟨fun pins s σ H Q I hw => pts_nil.run pins s σ H Q I ?_⟩
        obtain ⟨ε, F, b, ε', s', e1, k⟩ := hw
        rw [evc] at e1
        cases e1
        exact k H s'
    | cons c cs =>
      cases cs with
      | cons _ _ => simp at h6
      | nil =>
        cases ifs with
        | nil => simp at h6
        | cons l ifs =>
          cases ifs with
          | cons _ _ => simp at h6
          | nil =>
            simp only [Bool.and_eq_true, Bool.not_eq_true'] at h6
            rw [show evc C (.cons c .nil) = cnd c (ev C c) by funext ε; rw [evc]]
            exact pts_one ((sndE c g.blk h6.1).pt h6.2)
  · cases h
end Tq
end

section
set_option Elab.async false
set_option maxRecDepth 100000
set_option maxHeartbeats 8000000
/-! TLs39: the checker is right: statements. -/
namespace Tq
open PySem PySem.Spec PyProof.Rows L2
variable {C : Cn} {G : Ct} {X : Cx} {M : Nat → Bool}
theorem loc_of (g : Good C G X) {x : Str} (h : locB G x = true) : L2.Loc X.env.scope x ∧ (X.fn x = true ∨ X.env.scope.names.lookup x = some .local) := by
  unfold locB at h
  unfold L2.Loc
  rw [g.hsc, g.hfn]
  split at h
  · exact ⟨.inl (by assumption), .inr (by assumption)⟩
  · exact ⟨.inr (by assumption), .inl h⟩
  · cases h
theorem setLc_ok (g : Good C G X) {own : List Nat} {tg : Tg} {it : It} {cs : Es} {e1 : E} {i : Nat} {y : Str} {py spos : Pos} {e : Expr} (hk : G.sc.kind = .function) (hi : G.N[i]? = some y) (hS : M i = true) (h : chkE G (.lc own tg it cs e1) e = true) (hsw : swB G y py e = true) (ho : isOtherComp e = false) :
    PS X (.Assign [.Name y py] e spos) (tS X.K (fun i => M i = true) fun ε => obnd (ev C (.lc own tg it cs e1) ε) fun t ε1 => match asg (.s i) t ε1 with | some ε2 => .nx ε2 | none => .no) := by
  have hs := sw_of (x := y) (px := py) (n := spos.line) (e := e) (env := X.env) (G := G) (by rw [g.hsc]; exact hk) g.hsc ho
  rw [hsw] at hs
  cases e <;> try (cases hsw; done)
  rename_i elt gens scope pos
  obtain ⟨tx, ix, ifs, rfl, k1, k2, k3, k4, k5, k6⟩ := lc_args g h
  have hl : X.env.scope.names.lookup y = some .local := by
    unfold swB at hsw
    simp only [Bool.and_eq_true] at hsw
    rw [g.hsc]
    exact (eq_of_beq hsw.1.1).symm
  refine ps_imp (ps_setLc (own := ownL G own) g.hc (by rw [g.hN]; exact g.nd) (by rw [g.hN]; exact hi) hl hs k1 k2 k3 k4 k5 (noFold k6)) fun D σ H ⟨ε, F, s, q⟩ => ?_
  obtain ⟨t, ε1, h1, h2⟩ := obnd_inv q
  have e' : asg (.s i) t ε1 = if i < ε1.length then some (st ε1 i (some t)) else none := by simp only [asg]
  show tLc (tIt X.K (evi C it)) _ _ _ ((ownL G own).map (·.2)) σ H fun x H1 => gName i x σ H1 D.nx
  rw [ownL_fst]
  refine read_lc (fun i hi => of_decide_eq_true hi) ⟨ε, F, t, ε1, s, by rw [← h1, ev]; rfl, fun v H' s' => ?_⟩
  by_cases hlt : i < ε1.length
  · simp only [e', if_pos hlt] at h2
    exact h2 _ _ (SI.set hS) (s'.put hlt)
  · simp only [e', if_neg hlt] at h2
    exact h2.elim
mutual
theorem sndS (g : Good C G X) (hk : G.sc.kind = .function) : ∀ (s : S) {st : Stmt}, chkS G M s st = true → PS X st (tS X.K (fun i => M i = true) (evS C s))
  | .pass, st, h => by
    rw [show evS C .pass = fun ε => O.nx ε by funext ε; rw [evS]]
    unfold chkS at h; split at h
    · exact ps_pass'
    · exact ps_doc'
    · cases h
  | .brk, st, h => by
    rw [show evS C .brk = fun ε => O.brk ε by funext ε; rw [evS]]
    unfold chkS at h; split at h
    · exact ps_brk'
    · cases h
  | .ct, st, h => by
    rw [show evS C .ct = fun ε => O.ct ε by funext ε; rw [evS]]
    unfold chkS at h; split at h
    · exact ps_ct'
    · cases h
  | .retN, st, h => by
    rw [show evS C .retN = fun ε => O.ret .non ε by funext ε; rw [evS]]
    unfold chkS at h; split at h
    · exact ps_retN'
    · cases h
  | .ret e, st, h => by
    rw [show evS C (.ret e) = fun ε => obnd (ev C e ε) fun t ε1 => .ret t ε1 by funext ε; rw [evS]]
    unfold chkS at h; split at h
    · exact ps_ret' (sndE e g h).pe
    · cases h
  | .asg tg e, st, h => by
    rw [show evS C (.asg tg e) = fun ε => obnd (ev C e ε) fun t ε1 => match asg tg t ε1 with | some ε2 => .nx ε2 | none => .no by funext ε; rw [evS] <;> rfl]
    unfold chkS at h; split at h
    · split at h
      · rename_i i x px v pos
        simp only [Bool.and_eq_true, decide_eq_true_eq, Bool.not_eq_true', Bool.or_eq_true] at h
        obtain ⟨⟨⟨⟨⟨h1, h2⟩, h3⟩, h4⟩, h5⟩, h6⟩ := h
        by_cases hsw : swB G x px v = true
        · cases e <;> try (rw [hsw] at h6; rcases h6 with h6 | h6 <;> cases h6; done)
          exact setLc_ok g hk h1 h3 h4 hsw h5
        · have hsw' : swB G x px v = false := by simpa using hsw
          exact ps_asgN (by rw [g.hN]; exact g.nd) (by rw [g.hN]; exact h1) (loc_of g h2).1 (loc_of g h2).2 h3 (sndE e g h4).pe (by rw [sw_of (G := G) (by rw [g.hsc]; exact hk) g.hsc h5, hsw'])
      · cases h
    · split at h
      · rename_i gs t v pos
        simp only [Bool.and_eq_true, Bool.not_eq_true'] at h
        obtain ⟨⟨⟨h1, h2⟩, h3⟩, h4⟩ := h
        have ht : isName t = false ∧ isStar t = false := by
          unfold tgB at h1
          split at h1
          · exact ⟨rfl, rfl⟩
          · cases h1
        exact ps_asgT (sndE e g h2).pe (tg_ok g h1) (swN_of h3 ht.1) (swapNoneG h4 g.hsc) ht.2
      · cases h
  | .par is es, st, h => by
    rw [show evS C (.par is es) = fPar is (evv C es) by funext ε; rw [evS] <;> rfl]
    unfold chkS at h; split at h
    · rename_i x px y py kt pt a b k2 pt2 pos
      simp only [Bool.and_eq_true, decide_eq_true_eq, Bool.not_eq_true'] at h
      obtain ⟨⟨⟨⟨h1, h2⟩, h3⟩, h4⟩, h5⟩ := h
      obtain ⟨-, k2, k3⟩ := sndEs es g h1
      match is, h2, h3 with
      | [], h2, _ => simp [nmsB] at h2
      | [_], h2, _ => simp [nmsB] at h2
      | _ :: _ :: _ :: _, h2, _ => simp [nmsB] at h2
      | [i, j], h2, h3 =>
        simp only [nmsB, Bool.and_eq_true, decide_eq_true_eq] at h2
        obtain ⟨⟨⟨⟨i1, i2⟩, i3⟩, i4⟩, ⟨⟨⟨⟨j1, j2⟩, j3⟩, j4⟩, -⟩⟩ := h2
        have hij : i ≠ j := by simpa using h3
        have hxy : x ≠ y := fun z => hij ((List.getElem?_inj (List.getElem?_eq_some_iff.mp i1).1 g.nd).mp (by rw [i1, j1, z]))
        have hsta : isStar a = false ∧ isStar b = false := ⟨(noStar_head k2).1, (noStar_head (noStar_head k2).2).1⟩
        exact ps_par2' (by intro k hk; simp only [List.mem_cons, List.not_mem_nil, or_false] at hk; rcases hk with rfl | rfl <;> assumption) g.hc (by rw [g.hN]; exact g.nd) (by rw [g.hN]; exact i1) (by rw [g.hN]; exact j1) hij (by rw [g.hsc]; exact i2) (by rw [g.hsc]; exact j2) k3
          (swap2 (by unfold Env.blockKind; rw [g.hsc, hk]; rfl) (by unfold Env.kindOf; rw [g.hsc]; exact i2) (by unfold Env.kindOf; rw [g.hsc]; exact j2) j4 hxy hsta.1 hsta.2 h4 h5)
    · rename_i x px y py z pz kt pt a b c k2 pt2 pos
      simp only [Bool.and_eq_true, decide_eq_true_eq, Bool.not_eq_true'] at h
      obtain ⟨⟨⟨⟨h1, h2⟩, h3⟩, h4⟩, h5⟩ := h
      obtain ⟨-, k2, k3⟩ := sndEs es g h1
      match is, h2, h3 with
      | [], h2, _ => simp [nmsB] at h2
      | [_], h2, _ => simp [nmsB] at h2
      | [_, _], h2, _ => simp [nmsB] at h2
      | _ :: _ :: _ :: _ :: _, h2, _ => simp [nmsB] at h2
      | [i, j, l], h2, h3 =>
        simp only [nmsB, Bool.and_eq_true, decide_eq_true_eq] at h2
        obtain ⟨⟨⟨⟨i1, i2⟩, i3⟩, i4⟩, ⟨⟨⟨⟨j1, j2⟩, j3⟩, j4⟩, ⟨⟨⟨⟨l1, l2⟩, l3⟩, l4⟩, -⟩⟩⟩ := h2
        have hd : (i ≠ j ∧ i ≠ l) ∧ j ≠ l := by simpa using h3
        have inj : ∀ {i j : Nat} {x y : Str}, G.N[i]? = some x → G.N[j]? = some y → i ≠ j → x ≠ y := fun {i j x y} i1 j1 hij z => hij ((List.getElem?_inj (List.getElem?_eq_some_iff.mp i1).1 g.nd).mp (by rw [i1, j1, z]))
        have s1 := noStar_head k2
        have s2 := noStar_head s1.2
        have s3 := noStar_head s2.2
        exact ps_par3' (by intro k hk; simp only [List.mem_cons, List.not_mem_nil, or_false] at hk; rcases hk with rfl | rfl | rfl <;> assumption) g.hc (by rw [g.hN]; exact g.nd) (by rw [g.hN]; exact i1) (by rw [g.hN]; exact j1) (by rw [g.hN]; exact l1) hd.1.1 hd.1.2 hd.2 (by rw [g.hsc]; exact i2) (by rw [g.hsc]; exact j2) (by rw [g.hsc]; exact l2) k3
          (swap3 (by unfold Env.blockKind; rw [g.hsc, hk]; rfl) (by unfold Env.kindOf; rw [g.hsc]; exact i2) (by unfold Env.kindOf; rw [g.hsc]; exact j2) (by unfold Env.kindOf; rw [g.hsc]; exact l2) j4 l4 (inj i1 j1 hd.1.1) (inj i1 l1 hd.1.2) (inj j1 l1 hd.2) s1.1 s2.1 s3.1 h4 h5)
    · cases h
  | .seti i k e, st, h => by
    rw [show evS C (.seti i k e) = fSeti i (ev C k) (ev C e) by funext ε; rw [evS] <;> rfl]
    unfold chkS at h; split at h
    · simp only [Bool.and_eq_true, Bool.not_eq_true'] at h
      obtain ⟨⟨⟨h1, h2⟩, h3⟩, h4⟩ := h
      exact ps_seti' g.units1 (g.name h1) (sndE k g h2).pe (sndE e g h3).pe h4
    · cases h
  | .app i e, st, h => by
    rw [show evS C (.app i e) = fApp i (ev C e) by funext ε; rw [evS] <;> rfl]
    unfold chkS at h; split at h
    · simp only [Bool.and_eq_true, decide_eq_true_eq, Bool.not_eq_true'] at h
      obtain ⟨⟨⟨⟨rfl, h1⟩, h2⟩, h3⟩, h4⟩ := h
      exact ps_app' (g.name h2) (sndE e g h3).pe h1 h4
    · cases h
  | .ext i e, st, h => by
    rw [show evS C (.ext i e) = fExt i (ev C e) by funext ε; rw [evS] <;> rfl]
    unfold chkS at h; split at h
    · simp only [Bool.and_eq_true, decide_eq_true_eq, Bool.not_eq_true'] at h
      obtain ⟨⟨⟨⟨rfl, h1⟩, h2⟩, h3⟩, h4⟩ := h
      exact ps_ext' (g.name h2) (sndE e g h3).pe h1 h4
    · cases h
  | .drop e, st, h => by
    rw [show evS C (.drop e) = fun ε => obnd (ev C e ε) fun _ ε1 => .nx ε1 by funext ε; rw [evS]]
    unfold chkS at h; split at h
    · simp only [Bool.and_eq_true, Bool.not_eq_true'] at h
      exact ps_drop' (sndE e g h.1).pe h.2
    · cases h
  | .iff c a b, st, h => by
    rw [show evS C (.iff c a b) = fun ε => obnd (cnd c (ev C c) ε) fun d ε1 => if d then evSs C a ε1 else evSs C b ε1 by funext ε; rw [evS]]
    unfold chkS at h; split at h
    · simp only [Bool.and_eq_true, Bool.not_eq_true'] at h
      obtain ⟨⟨⟨h1, h2⟩, h3⟩, h4⟩ := h
      exact ps_if' ((sndE c g h1).pt h2) (sndSs g hk a h3) (sndSs g hk b h4)
    · cases h
  | .for tg it b, st, h => by
    rw [show evS C (.for tg it b) = fFor tg (evi C it) (evSs C b) by funext ε; rw [evS] <;> rfl]
    unfold chkS at h; split at h
    · simp only [Bool.and_eq_true, Bool.not_eq_true'] at h
      obtain ⟨⟨⟨h1, h2⟩, h3⟩, h4⟩ := h
      exact ps_for' g.hp g.hc (sndI it g h1) (tg_ok g h3) (sndSs g hk b h4) (noFold h2)
    · cases h
  | .whl c b, st, h => by
    rw [show evS C (.whl c b) = fun ε => whL (cnd c (ev C c)) (evSs C b) C.fuel ε by funext ε; rw [evS]]
    unfold chkS at h; split at h
    · simp only [Bool.and_eq_true, Bool.not_eq_true'] at h
      obtain ⟨⟨h1, h2⟩, h3⟩ := h
      exact ps_whl' g.hp ((sndE c g h1).pt h2) (sndSs g hk b h3)
    · cases h
  | .raise c e, st, h => by
    rw [show evS C (.raise c e) = fun ε => obnd (ev C e ε) fun t ε1 => .ex ⟨c, some t⟩ ε1 by funext ε; rw [evS] <;> rfl]
    exact ⟨fun pins s σ H D I ⟨ε, F, sr, q⟩ => (obnd_inv q).elim fun a z => z.elim fun ε1 z => z.2.elim⟩
theorem sndSs (g : Good C G X) (hk : G.sc.kind = .function) : ∀ (ss : Ss) {sts : List Stmt}, chkSs G M ss sts = true → PSs X sts (tS X.K (fun i => M i = true) (evSs C ss))
  | .nil, sts, h => by
    rw [show evSs C .nil = fun ε => O.nx ε by funext ε; rw [evSs]]
    cases sts with
    | nil => exact pss_nil'
    | cons _ _ => simp [chkSs] at h
  | .cons s ss, [], h => by simp [chkSs] at h
  | .cons s ss, st :: sts, h => by
    rw [show evSs C (.cons s ss) = fun ε => osq (evS C s ε) (evSs C ss) by funext ε; rw [evSs]]
    simp only [chkSs, Bool.and_eq_true] at h
    exact pss_cons' (sndS g hk s h.1) (sndSs g hk ss h.2)
end
end Tq
end

section
set_option Elab.async false
set_option maxRecDepth 100000
set_option maxHeartbeats 8000000
/-! TLs40: the defs of a text, as deep as one likes. -/
namespace Tq
open PySem PySem.Spec PyProof.Rows L2
structure Df where
  /-- the name it is called by, the name in its text -/
  cn : Str
  x : Str
  st : Stmt
  N : List Str
  ps : List Str
  d : Fn
  kos : List (List Str × List Nat)
def sigs (dfs : List Df) : List Sig := dfs.map fun df => ⟨df.cn, df.ps, df.kos⟩
def ctOf (dfs : List Df) (blt : List Str) (bis : List (Bi × Str)) (df : Df) : Ct := ⟨df.N, defScope df.st, none, sigs dfs, blt, bis⟩
def scopeB (N ps : List Str) (sc : Scope) : Bool := decide (sc.kind = .function) && !sc.isCoroutine && !sc.isGenerator && decide N.Nodup && decide (N.take ps.length = ps) &&
  (ps.all fun x => decide (sc.names.lookup x = some .local) || decide (sc.names.lookup x = some .cell)) && (sc.names.all fun y => !decide (y.2 = .free))
theorem scope_of {N ps : List Str} {sc : Scope} (h : scopeB N ps sc = true) : FnScope N ps sc := by
  unfold scopeB at h
  simp only [Bool.and_eq_true, decide_eq_true_eq, Bool.not_eq_true', List.all_eq_true, Bool.or_eq_true, decide_eq_false_iff_not] at h
  obtain ⟨⟨⟨⟨⟨⟨h1, h2⟩, h3⟩, h4⟩, h5⟩, h6⟩, h7⟩ := h
  exact ⟨h1, h2, h3, h4, h5, h6, h7⟩
def dfB (G : Ct) (df : Df) : Bool := scopeB df.N df.ps (defScope df.st) && decide (df.d.np = df.ps.length) && decide (df.N.length = df.d.ns) && decide (df.d.np ≤ df.d.ns) && chkSs G (fun i => !(df.d.keep.getD i false)) df.d.body (defBody df.st)
structure DfOk (K : PySem.W.Frag) (mg : Str → Option Value) (df : Df) (f : Addr) (fd : FuncData) : Prop where
  F : L2.Fun K df.x df.x df.st f fd
  m : mg df.cn = some (.ref f)
  b1 : ∀ (s : Shared) (us : List Value), us.length = df.ps.length → BindsTo s fd ⟨us, []⟩ (df.ps.zip us)
  b2 : ∀ (s : Shared) (us : List Value), us.length = df.ps.length → BindsTo s fd ⟨[], df.ps.zip us⟩ (df.ps.zip us)
  b3 : ∀ q ∈ df.kos, BindsK fd df.ps q.1 q.2
theorem run_len {P : Pg} {n j : Nat} {ts : List T} {t : T} {outs : List (Option T)} {d : Fn} (hd : P.fns[j]? = some d) (h : run P n j ts = .ok t outs) : ts.length = d.np := by
  cases n with
  | zero => cases h
  | succ n =>
    have h' : (match P.fns[j]? with
      | some d => if ts.length = d.np then fin d.keep (evSs ⟨run P n, P.glb, P.fuel, P.rp⟩ d.body (start d ts)) else .no
      | none => .no) = FR.ok t outs := h
    rw [hd] at h'
    by_cases hl : ts.length = d.np
    · exact hl
    · have h2 : (if ts.length = d.np then fin d.keep (evSs ⟨run P n, P.glb, P.fuel, P.rp⟩ d.body (start d ts)) else .no) = FR.ok t outs := h'
      rw [if_neg hl] at h2
      cases h2
theorem run_body {P : Pg} {n j : Nat} {ts : List T} {t : T} {outs : List (Option T)} {d : Fn} (hd : P.fns[j]? = some d) (h : run P (n + 1) j ts = .ok t outs) : ts.length = d.np ∧ fin d.keep (evSs ⟨run P n, P.glb, P.fuel, P.rp⟩ d.body (start d ts)) = .ok t outs := by
  have hl := run_len hd h
  have h' : (match P.fns[j]? with
      | some d => if ts.length = d.np then fin d.keep (evSs ⟨run P n, P.glb, P.fuel, P.rp⟩ d.body (start d ts)) else .no
      | none => .no) = FR.ok t outs := h
  rw [hd] at h'
  have h2 : (if ts.length = d.np then fin d.keep (evSs ⟨run P n, P.glb, P.fuel, P.rp⟩ d.body (start d ts)) else .no) = FR.ok t outs := h'
  rw [if_pos hl] at h2
  exact ⟨hl, h2⟩
theorem defs_ok {P : Pg} {dfs : List Df} {blt : List Str} {bis : List (Bi × Str)} {Pr : Program} {w : World} {K : PySem.W.Frag} {mg : Str → Option Value} {base : Heap} {fa : Nat → Addr} {fdd : Nat → FuncData}
    (hP : P.fns = dfs.map (·.d)) (hrp : P.rp = rpr) (hd : ∀ (j : Nat) df, dfs[j]? = some df → DfOk K mg df (fa j) (fdd j)) (hchk : dfs.all (fun df => dfB (ctOf dfs blt bis df) df) = true)
    (hblt : ∀ x ∈ blt, mg x = none) (hbis : ∀ p ∈ bis, ∃ v, biV p.1 = some v ∧ ((mg p.2 = none ∧ bootBuiltins p.2 = some v ∧ p.2 ≠ "__name__") ∨ (mg p.2 = some v ∧ ∃ id, v = .builtin id))) :
    ∀ (n j : Nat) (df : Df), dfs[j]? = some df → FnG Pr w K mg base n (fa j) (fdd j) df.ps (spT K (run P n) j df.ps.length)
  | 0, j, df, hj => ⟨fun vs H Q E ⟨F, ts, t, outs, h1, h2, h3, h4, h5, h6⟩ => (nomatch h5), fun A outer s H args us vs Q E hr hg e hb r ⟨F, ts, t, outs, h1, h2, h3, h4, h5, h6⟩ => (nomatch h5)⟩
  | n + 1, j, df, hj => by
    have ih := defs_ok (Pr := Pr) (w := w) (base := base) hP hrp hd hchk hblt hbis n
    have hdj := hd j df hj
    have hc : dfB (ctOf dfs blt bis df) df = true := (List.all_eq_true.mp hchk) df (List.mem_of_getElem? hj)
    unfold dfB at hc
    simp only [Bool.and_eq_true, decide_eq_true_eq] at hc
    obtain ⟨⟨⟨⟨c1, c2⟩, c3⟩, c4⟩, c5⟩ := hc
    have S := scope_of c1
    have hfn : P.fns[j]? = some df.d := by rw [hP, List.getElem?_map, hj]; rfl
    obtain ⟨oc, od, kV, doc, pm, an, cdv, ct, osl, e1, lk, hcd⟩ := hdj.F.ex
    rw [e1]
    rw [e1] at lk
    refine fnG_of lk hcd S (fun vs H Q E ⟨F, ts, t, outs, h1, h2, h3, h4, h5, h6⟩ => h1.trans h2) fun A outer s H vs Q E hr hgu hsp => ?_
    refine ⟨_, sndSs (C := ⟨run P n, P.glb, P.fuel, P.rp⟩) (G := ctOf dfs blt bis df) ?_ S.kind df.d.body c5, ?_⟩
    · refine ⟨rfl, S.nd, rfl, fun x => rfl, rfl, PassesOwn.never, hgu, hrp, ⟨n, hr, fun j' sg h => ?_⟩, fun j' sg ts t outs h hr => ?_, hblt, hbis⟩
      · have h : (sigs dfs)[j']? = some sg := h
        unfold sigs at h
        rw [List.getElem?_map] at h
        obtain ⟨df', h1, h2⟩ := Option.map_eq_some_iff.mp h
        cases h2
        have q := hd j' df' h1
        exact ⟨fa j', fdd j', ih j' df' h1, q.m, q.F.kp, q.b1, q.b2, q.b3⟩
      · have h : (sigs dfs)[j']? = some sg := h
        unfold sigs at h
        rw [List.getElem?_map] at h
        obtain ⟨df', h1, h2⟩ := Option.map_eq_some_iff.mp h
        cases h2
        have hl := run_len (P := P) (d := df'.d) (by rw [hP, List.getElem?_map, h1]; rfl) hr
        have hc' : dfB (ctOf dfs blt bis df') df' = true := (List.all_eq_true.mp hchk) df' (List.mem_of_getElem? h1)
        unfold dfB at hc'
        simp only [Bool.and_eq_true, decide_eq_true_eq] at hc'
        rw [hl, hc'.1.1.1.2]
    · refine body_ok (ps := df.ps) (K := K) (call := run P (n + 1)) (f := j) (d := df.d) (fun ts t outs h => run_body hfn h) (fun i hi => ?_) c3 c4 (by rw [c2]; exact hsp)
      rw [List.getD_eq_getElem?_getD, hi]
      simp
end Tq
end

section
set_option Elab.async false
set_option maxRecDepth 100000
set_option maxHeartbeats 8000000
/-! TLs41: the law's own call. -/
namespace Tq
open PySem PySem.Spec PyProof.Rows L2
section
variable {P : Program} {w : World} {K : PySem.W.Frag} {mg mb : Str → Option Value} {k : Nat} {fa a : Addr} {fd : FuncData} {x : Str} {sp : Sp} {s₁ : Shared} {vs : List Value} {ns : List Int} {H : Hp}
/-- what is tracked at the law's entry: the script at most -/
structure Entry (K : PySem.W.Frag) (h : Heap) (a : Addr) (vs : List Value) (H : Hp) : Prop where
  only : Only H
  at_ : ∀ b, H b ≠ none → b = a
  own : H a ≠ none → K.lookup a = none
  obj : h.get? a = some { cls := .type "list", data := .seq vs.toArray }
theorem Entry.dict (E : Entry K s₁.heap a vs H) {b : Addr} {o : Obj} {es : Array DictEntry} {ep : Nat} (e : s₁.heap.get? b = some o) (d : o.data = .dict es ep) : H b = none := by
  refine Classical.byContradiction fun z => ?_
  obtain rfl := E.at_ b z
  rw [E.obj] at e
  cases e
  cases (show Data.seq vs.toArray _ = Data.dict es ep from d)
theorem Entry.nsAt (E : Entry K s₁.heap a vs H) {b : Addr} {m : Str → Option Value} : s₁.heap.Ns b m → (hidT s₁.heap H).Ns b m
  | ⟨o, es, ep, e, d, r⟩ => ⟨o, es, ep, hidT_get e (E.dict e d), d, r⟩
theorem Entry.kin (E : Entry K s₁.heap a vs H) (X : K.In s₁.heap) : K.In (hidT s₁.heap H) := fun b o e => by
  refine hidT_get (X b o e) (Classical.byContradiction fun z => ?_)
  obtain rfl := E.at_ b z
  have := E.own z
  rw [e] at this
  cases this
theorem law_entry (E : Entry K s₁.heap a vs H) (hok : HOk P w H s₁.heap) (X : K.In s₁.heap) (hns : s₁.heap.Ns mainGlobals mg) (hb : s₁.heap.Ns builtinsNs mb) (hbb : ∀ x : Str, x ≠ "__name__" → mb x = bootBuiltins x) (hlim : s₁.heap.NoLimit) (hg : s₁.gens = #[])
    (hr : Room k callerA) (F : ∀ base : Heap, K.In base → base.Ns mainGlobals mg → FnG P w K mg base k fa fd [x] sp) (hbind : ∀ (s : Shared) (u : Value), BindsTo s fd ⟨[u], []⟩ [(x, u)])
    (hsp : sp [.ref a] H (fun v _ => v = .bl true) E0) :
    codeAny (model P w) callerA (.call (.ref fa) ⟨[.ref a], []⟩) (fun r s' => r = .ok (.ret (.bool true)) ∧ OldK s₁.heap s'.heap ∧ s'.os = s₁.os ∧ AllBare s'.gens) s₁ := by
  obtain ⟨mc, l1, l2⟩ := hlim
  have e0 : Env0 P w K mg (hidT s₁.heap H) callerA [] s₁ H :=
    ⟨rfl, ⟨E.kin X, E.nsAt hns, ⟨mb, E.nsAt hb, hbb⟩, ⟨mc, E.nsAt l1, l2⟩⟩, fun b o e => of_hidT e, Nat.le_of_eq (hidT_size _ _), trivial, (fun b z => nomatch z), hok, .of_eq hg⟩
  refine codeAny_mono ((F _ (E.kin X) (E.nsAt hns)).run callerA [] s₁ H ⟨[.ref a], []⟩ [.ref a] [.ref a] _ _ hr rfl e0 (hbind s₁ (.ref a)) (.cons rfl .nil) hsp) fun r s' h => ?_
  match r, h with
  | .error e, h => exact False.elim h
  | .ok .next, h => exact False.elim h
  | .ok .brk, h => exact False.elim h
  | .ok .cont, h => exact False.elim h
  | .ok (.ret u), ⟨v, H', os, bare, un, hok', r', q⟩ =>
    cases (show v = .bl true from q)
    cases (show u = Value.bool true from r')
    refine ⟨rfl, OldK.of_keep fun b o e => ?_, os, bare⟩
    rcases E.only b with z | ⟨ob, xs, z⟩
    · exact un.keep b o e z (fun y => nomatch y) (fun y => nomatch y)
    · obtain ⟨e1, -⟩ := hok b _ z
      obtain ⟨e2, -⟩ := hok' b _ (un.frzs b ob _ z)
      rw [e] at e1
      cases e1
      exact e2
/-- the script's tree -/
def scrT (ns : List Int) : T := .scr (ns.map T.int)
theorem reps_intsV {W : Addr → Prop} : ∀ ns : List Int, Reps K H W (ns.map V.int) (ns.map T.int) []
  | [] => .nil
  | n :: ns => .cons (A := []) (.int n) (reps_intsV ns)
theorem law_callG (KX : K.In s₁.heap) (hns : s₁.heap.Ns mainGlobals mg) (hb : s₁.heap.Ns builtinsNs mb) (hbb : ∀ x : Str, x ≠ "__name__" → mb x = bootBuiltins x) (hlim : s₁.heap.NoLimit) (hg : s₁.gens = #[])
    (ha : s₁.heap.get? a = some { cls := .type "list", data := .seq vs.toArray }) (hi : IntsAre vs ns) (hl : ns.length ≤ sizeLine) (hr : Room k callerA) {call : Fns} {j : Nat}
    (F : ∀ base : Heap, K.In base → base.Ns mainGlobals mg → FnG P w K mg base k fa fd [x] (spT K call j 1)) (hbind : ∀ (s : Shared) (u : Value), BindsTo s fd ⟨[u], []⟩ [(x, u)])
    (hrun : ∃ outs, call j [scrT ns] = .ok (.bl true) outs) :
    codeAny (model P w) callerA (.call (.ref fa) ⟨[.ref a], []⟩) (fun r s' => r = .ok (.ret (.bool true)) ∧ OldK s₁.heap s'.heap ∧ s'.os = s₁.os ∧ AllBare s'.gens) s₁ := by
  have rv : Vals (ns.map V.int) vs := vals_ints hi
  have lenV := hi.length
  obtain ⟨outs, hrun⟩ := hrun
  have hsp : ∀ {H : Hp}, (∀ W : Addr → Prop, (∀ b, ¬ W b) → Rep K H W (.ref a) (scrT ns) []) → spT K call j 1 [.ref a] H (fun v _ => v = .bl true) E0 := fun {H} hrep =>
    ⟨⟨[], [], []⟩, [scrT ns], .bl true, outs, rfl, rfl, (fun b hb => nomatch hb), ⟨[], .cons (A := []) (hrep _ fun b z => nomatch z) .nil, .nil, fun p hp => nomatch hp⟩, hrun, fun v H' c s => s.isBl List.mem_cons_self⟩
  cases hk : K.lookup a with
  | some o =>
    have e := KX a o hk
    rw [ha] at e
    cases e
    refine law_entry (H := fun _ => none) ⟨fun _ => .inl rfl, fun b z => absurd rfl z, fun z => absurd rfl z, ha⟩ (fun b u z => nomatch z) KX hns hb hbb hlim hg hr F hbind (hsp fun W _ => ?_)
    exact .scrK ⟨_, vs.toArray, _, hk, rfl, rfl, rfl, by rw [List.size_toArray, lenV]; exact hl, by simpa using rv⟩ (reps_intsV ns)
  | none =>
    have h1 : ∀ {b : Addr} {u : HO}, (if b = a then some (HO.frz { cls := .type "list", data := .seq vs.toArray } (.lst (ns.map V.int))) else none) = some u → b = a ∧ u = HO.frz { cls := .type "list", data := .seq vs.toArray } (.lst (ns.map V.int)) := fun {b u} z => by
      split at z
      · exact ⟨by assumption, by cases z; rfl⟩
      · cases z
    refine law_entry (H := fun b => if b = a then some (HO.frz { cls := .type "list", data := .seq vs.toArray } (.lst (ns.map V.int))) else none) ⟨fun b => ?_, fun b z => ?_, fun _ => hk, ha⟩ (fun b u z => ?_) KX hns hb hbb hlim hg hr F hbind (hsp fun W hW => ?_)
    · split
      · exact .inr ⟨_, _, rfl⟩
      · exact .inl rfl
    · refine Classical.byContradiction fun y => z ?_
      exact if_neg y
    · obtain ⟨rfl, rfl⟩ := h1 z
      exact ⟨ha, by rw [List.length_map]; exact hl, vs, _, rv, ha⟩
    · exact .scr (.inr ⟨_, if_pos rfl⟩) (hW a) (reps_intsV ns)
end
end Tq
end

section
set_option Elab.async false
set_option maxRecDepth 100000
set_option maxHeartbeats 8000000
/-! TLs42: the walk. -/
namespace Tq
open PySem PySem.Spec PyProof.Rows L2
theorem walkG {l : PySem.W.OpenLaw} {n k : Nat} {q : Program} {loose : List Str} {XP : (Str → Option Value) → Heap → Prop} {YP : World → Heap → Prop} {d : DefRec} {K : Params → PySem.W.Frag} {x : Str} {call : Fns} {j : Nat}
    (hn : l.most = some n) (hn2 : n ≤ sizeLine) (hdf : d.params.defaults = []) (hr : Room k callerA) (hY : ∀ (w : World) (h : Heap), YP w h → (K w.params).In h)
    (F : ∀ (w : World) (mg : Str → Option Value) (fa : Addr) (h : Heap), (K w.params).In h → h.Ns mainGlobals mg → mg d.name = some (.ref fa) →
      ∃ fd : FuncData, (∀ (s : Shared) (u : Value), BindsTo s fd ⟨[u], []⟩ [(x, u)]) ∧ ∀ base : Heap, (K w.params).In base → base.Ns mainGlobals mg → FnG l.prog w (K w.params) mg base k fa fd [x] (spT (K w.params) call j 1))
    (hrun : ∀ ns : List Int, ns.length ≤ n → ∃ outs, call j [scrT ns] = .ok (.bl true) outs) :
    PySem.W.WalkO q loose XP YP l.row.toRowW d [] (fun f vs => PySem.call f vs) := by
  refine Att.attach_call hn hdf fun w s₀ s₁ mg mb fa o pm cd doc a vs ns G Y ho hd hcd hmg hobj hints hlen hg => ?_
  obtain ⟨fd, hb, hF⟩ := F w mg fa _ (hY w _ Y) G.T.g hmg
  exact law_callG (hY w _ Y) G.T.g G.T.b G.T.builtins G.T.nolimit hg hobj hints (Nat.le_trans hlen hn2) hr hF hb (hrun ns hlen)
end Tq
end

section
set_option Elab.async false
set_option maxRecDepth 100000
/-! TLs43: the defs of a law, in a row. -/
namespace Tq
open PySem PySem.Spec PyProof.Rows L2
def OkL (K : PySem.W.Frag) (mg : Str → Option Value) : List Df → List (Addr × FuncData) → Prop
  | [], _ => True
  | df :: r, p :: ps => DfOk K mg df p.1 p.2 ∧ OkL K mg r ps
  | _ :: _, [] => False
def fAt (ps : List (Addr × FuncData)) (fd0 : FuncData) (j : Nat) : Addr × FuncData := (ps[j]?).getD (0, fd0)
theorem OkL.get {K : PySem.W.Frag} {mg : Str → Option Value} {fd0 : FuncData} : ∀ {dfs : List Df} {ps : List (Addr × FuncData)} {j : Nat} {df : Df}, OkL K mg dfs ps → dfs[j]? = some df → DfOk K mg df (fAt ps fd0 j).1 (fAt ps fd0 j).2
  | [], _, _, _, _, h => by simp at h
  | _ :: _, [], _, _, ok, _ => ok.elim
  | d :: r, p :: ps, 0, df, ok, h => by
    simp only [List.getElem?_cons_zero, Option.some.injEq] at h
    subst h
    exact ok.1
  | d :: r, p :: ps, j + 1, df, ok, h => by
    have := OkL.get (fd0 := fd0) (dfs := r) (ps := ps) (j := j) ok.2 (by simpa using h)
    exact this
theorem laws_defs {P : Pg} {dfs : List Df} {blt : List Str} {bis : List (Bi × Str)} {Pr : Program} {w : World} {K : PySem.W.Frag} {mg : Str → Option Value} {base : Heap} {ps : List (Addr × FuncData)} {j : Nat} {df : Df} {fa : Addr} {fd : FuncData}
    (hP : P.fns = dfs.map (·.d)) (hrp : P.rp = rpr) (ok : OkL K mg dfs ps) (hchk : dfs.all (fun df => dfB (ctOf dfs blt bis df) df) = true) (hblt : ∀ x ∈ blt, mg x = none)
    (hbis : ∀ p ∈ bis, ∃ v, biV p.1 = some v ∧ ((mg p.2 = none ∧ bootBuiltins p.2 = some v ∧ p.2 ≠ "__name__") ∨ (mg p.2 = some v ∧ ∃ id, v = .builtin id))) (n : Nat) (hj : dfs[j]? = some df) (hp : ps[j]? = some (fa, fd)) :
    FnG Pr w K mg base n fa fd df.ps (spT K (run P n) j df.ps.length) := by
  have h := defs_ok (Pr := Pr) (w := w) (base := base) (fa := fun j => (fAt ps fd j).1) (fdd := fun j => (fAt ps fd j).2) hP hrp (fun j df h => ok.get h) hchk hblt hbis n j df hj
  have e : fAt ps fd j = (fa, fd) := by unfold fAt; rw [hp]; rfl
  simp only [e] at h
  exact h
end Tq
end

section
set_option maxRecDepth 10000
/-! TW1: what holds behind a piece of the small language, rule by rule. -/
namespace Tq
open PySem

/-- keeps what comes behind from being looked into -/
inductive Dp {α : Sort _} (q : α) : Type where | mk
def WR {α : Type} (r : R α) (Q : α → Env → Prop) (_ : Dp Q := .mk) : Prop := match r with
  | .ok a ε => Q a ε
  | _ => False
def WF (r : FR) (Q : T → List (Option T) → Prop) (_ : Dp Q := .mk) : Prop := match r with
  | .ok t o => Q t o
  | _ => False
structure Po where
  nx : Env → Prop
  ret : T → Env → Prop
  brk : Env → Prop
  ct : Env → Prop
def WO (o : O) (P : Po) (_ : Dp P := .mk) : Prop := match o with
  | .nx ε => P.nx ε
  | .ret t ε => P.ret t ε
  | .brk ε => P.brk ε
  | .ct ε => P.ct ε
  | _ => False
def WV {α : Type} (o : Option α) (Q : α → Prop) (_ : Dp Q := .mk) : Prop := match o with
  | some a => Q a
  | none => False
def WG (c : Bool) (A : Prop) (_ : Dp A := .mk) : Prop := c = true ∧ A
def WB (c : Bool) (A B : Prop) (_ : Dp A := .mk) (_ : Dp B := .mk) : Prop := match c with
  | true => A
  | false => B
/-- the slots, made plain first -/
@[irreducible] def WE (ε : Env) (Q : Env → Prop) (_ : Dp Q := .mk) : Prop := Q ε
theorem WE_eq (ε : Env) (Q : Env → Prop) : WE ε Q = Q ε := by unfold WE; rfl
theorem WE_cons (x : Option T) (r : Env) (Q : Env → Prop) : WE (x :: r) Q = Q (x :: r) := WE_eq _ _
theorem WE_nil (Q : Env → Prop) : WE [] Q = Q [] := WE_eq _ _
/-- not looked into before its time -/
@[irreducible] def Blk (p : Prop) : Prop := p
theorem Blk_eq (p : Prop) : Blk p = p := by unfold Blk; rfl
theorem WR_ext {α : Type} {r : R α} {Q Q' : α → Env → Prop} (h : ∀ a ε, Q a ε = Q' a ε) : WR r Q = WR r Q' := by
  cases funext fun a => funext fun ε => h a ε; rfl
theorem WV_ext {α : Type} {r : Option α} {Q Q' : α → Prop} (h : ∀ a, Q a = Q' a) : WV r Q = WV r Q' := by
  cases funext fun a => h a; rfl
theorem nr {α : Sort _} {a b : α} (h : a = b) : a = b := h
variable {α β : Type} {C : Cn} {ε : Env} {P : Po}

theorem WR_ok (a : α) (Q : α → Env → Prop) : WR (.ok a ε) Q = Q a ε := nr rfl
theorem WR_no (Q : α → Env → Prop) : WR (.no) Q = False := nr rfl
theorem WF_ok (t : T) (o : List (Option T)) (Q : T → List (Option T) → Prop) : WF (.ok t o) Q = Q t o := nr rfl
theorem WV_some (a : α) (Q : α → Prop) : WV (some a) Q = Q a := nr rfl
theorem WV_none (Q : α → Prop) : WV (none : Option α) Q = False := nr rfl
theorem WG_true (A : Prop) : WG true A = A := by simp [WG]
theorem WG_false (A : Prop) : WG false A = False := by simp [WG]
theorem WB_true (A B : Prop) : WB true A B = A := nr rfl
theorem WB_false (A B : Prop) : WB false A B = B := nr rfl
theorem WV_if {c : Prop} [Decidable c] (a : α) (Q : α → Prop) : WV (if c then some a else none) Q = WG (decide c) (Q a) := by
  by_cases h : c <;> simp [WV, WG, h]
theorem WV_map {f : α → β} (o : Option α) (Q : β → Prop) : WV (o.map f) Q = WV o fun a => Q (f a) := by cases o <;> rfl
theorem WV_bind {f : α → Option β} (o : Option α) (Q : β → Prop) : WV (o.bind f) Q = WV o fun a => WV (f a) Q := by cases o <;> rfl
theorem WR_bnd (r : R α) (f : α → Env → R β) (Q : β → Env → Prop) : WR (bnd r f) Q = WR r fun a ε => WR (f a ε) Q := by cases r <;> rfl
theorem WR_ofO (o : Option α) (Q : α → Env → Prop) : WR (ofO o ε) Q = WV o fun a => Q a ε := by cases o <;> rfl
theorem WO_obnd (r : R α) (f : α → Env → O) : WO (obnd r f) P = WR r fun a ε => WO (f a ε) P := by cases r <;> rfl
theorem WR_wv (o : Option α) (f : α → R β) (Q : β → Env → Prop) : WR (match o with | some a => f a | none => .no) Q = WV o fun a => WR (f a) Q := by cases o <;> rfl

/-! expressions -/
theorem w_non (Q : T → Env → Prop) : WR (ev C .non ε) Q = Q .non ε := nr rfl
theorem w_bl (b : Bool) (Q : T → Env → Prop) : WR (ev C (.bl b) ε) Q = Q (.bl b) ε := nr rfl
theorem w_int (i : Int) (Q : T → Env → Prop) : WR (ev C (.int i) ε) Q = Q (.int i) ε := nr rfl
theorem w_str (s : Str) (Q : T → Env → Prop) : WR (ev C (.str s) ε) Q = Q (.str s) ε := nr rfl
def mv (ε : Env) (i : Nat) (t : T) (c : Bool) : Env := match c with
  | true => ε
  | false => st ε i none
def fz (ε : Env) (i : Nat) (t : T) (c : Bool) : Env := match c with
  | true => ε
  | false => st ε i (some t)
theorem w_var (i : Nat) (Q : T → Env → Prop) : WR (ev C (.var i) ε) Q = WV (gt ε i) fun t => WE (mv ε i t t.sh) fun ε' => Q t ε' := by
  show WR (match gt ε i with | some t => R.ok t (if t.sh then ε else st ε i none) | none => .no) Q = _
  cases gt ε i with
  | none => rfl
  | some t => simp only [WR, WV, mv, WE]; cases t.sh <;> rfl
theorem w_frz (i : Nat) (Q : T → Env → Prop) : WR (ev C (.frz i) ε) Q = WV (gt ε i) fun t => WE (fz ε i t.frz t.sh) fun ε' => Q t.frz ε' := by
  show WR (match gt ε i with | some t => R.ok t.frz (if t.sh then ε else st ε i (some t.frz)) | none => .no) Q = _
  cases gt ε i with
  | none => rfl
  | some t => simp only [WR, WV, fz, WE]; cases t.sh <;> rfl
theorem w_two (a b : E) (fa fb : Env → R T) (g : Bool → Bool → T → T → Option T) (Q : T → Env → Prop) :
    WR (two a b fa fb g ε) Q = WR (asO a fa ε) fun x ε1 => WR (asO b fb ε1) fun y ε2 => WV (pk ε2 x) fun t => WV (pk ε2 y) fun u => WV (g x.isS y.isS t u) fun v => Q v ε2 := by
  unfold two
  rw [WR_bnd]; refine WR_ext fun x ε1 => ?_
  rw [WR_bnd]; refine WR_ext fun y ε2 => ?_
  cases pk ε2 x with
  | none => rfl
  | some t => cases pk ε2 y with
    | none => rfl
    | some u => simp only [WR_ofO]; rfl
theorem w_un (e : E) (f : Env → R T) (g : T → Option T) (Q : T → Env → Prop) : WR (un e f g ε) Q = WR (asO e f ε) fun x ε1 => WV (pk ε1 x) fun t => WV (g t) fun v => Q v ε1 := by
  unfold un
  rw [WR_bnd]; refine WR_ext fun x ε1 => ?_
  cases pk ε1 x with
  | none => rfl
  | some t => simp only [WR_ofO]; rfl
theorem w_cnd (e : E) (f : Env → R T) (Q : Bool → Env → Prop) : WR (cnd e f ε) Q = WR (asO e f ε) fun x ε1 => WV (pk ε1 x) fun t => WV (tru t) fun v => Q v ε1 := by
  unfold cnd
  rw [WR_bnd]; refine WR_ext fun x ε1 => ?_
  cases pk ε1 x with
  | none => rfl
  | some t => simp only [WR_ofO]; rfl
theorem w_op (o : Op2) (a b : E) (Q : T → Env → Prop) : WR (ev C (.op o a b) ε) Q = WR (two a b (ev C a) (ev C b) (op2 o) ε) Q := nr rfl
theorem w_neg (a : E) (Q : T → Env → Prop) : WR (ev C (.neg a) ε) Q = WR (un a (ev C a) negT ε) Q := nr rfl
theorem w_not (a : E) (Q : T → Env → Prop) : WR (ev C (.not a) ε) Q = WR (cnd a (ev C a) ε) fun b ε1 => Q (.bl !b) ε1 := by
  show WR (un a (ev C a) (fun t => (tru t).map fun b => .bl !b) ε) Q = _
  rw [w_un, w_cnd]; refine WR_ext fun x ε1 => ?_; refine WV_ext fun t => ?_; rw [WV_map]
def WT (t : T) (A B : Prop) (_ : Dp A := .mk) (_ : Dp B := .mk) : Prop := match t with
  | .bl true => A
  | .bl false => B
  | _ => False
theorem WT_bl (b : Bool) (A B : Prop) : WT (.bl b) A B = WB b A B := by cases b <;> rfl
theorem w_and (a b : E) (Q : T → Env → Prop) : WR (ev C (.and a b) ε) Q = WR (ev C a ε) fun t ε1 => WT t (WR (ev C b ε1) Q) (Q (.bl false) ε1) := by
  show WR (bnd (ev C a ε) fun t ε1 => match t with
    | .bl true => ev C b ε1
    | .bl false => .ok (.bl false) ε1
    | _ => .no) Q = _
  rw [WR_bnd]; refine WR_ext fun t ε1 => ?_
  split <;> first | rfl | skip
  rename_i h1 h2
  cases t <;> first | rfl | skip
  rename_i b; cases b
  · exact absurd rfl h2
  · exact absurd rfl h1
theorem w_or (a b : E) (Q : T → Env → Prop) : WR (ev C (.or a b) ε) Q = WR (ev C a ε) fun t ε1 => WT t (Q (.bl true) ε1) (WR (ev C b ε1) Q) := by
  show WR (bnd (ev C a ε) fun t ε1 => match t with
    | .bl false => ev C b ε1
    | .bl true => .ok (.bl true) ε1
    | _ => .no) Q = _
  rw [WR_bnd]; refine WR_ext fun t ε1 => ?_
  split <;> first | rfl | skip
  rename_i h1 h2
  cases t <;> first | rfl | skip
  rename_i b; cases b
  · exact absurd rfl h1
  · exact absurd rfl h2
theorem w_cmp (o : Cm) (a b : E) (Q : T → Env → Prop) : WR (ev C (.cmp o a b) ε) Q = WR (asO a (ev C a) ε) fun x ε1 => WR (asO b (ev C b) ε1) fun y ε2 => WV (pk ε2 x) fun t => WV (pk ε2 y) fun u => WV (cm o t u) fun v => Q (.bl v) ε2 := by
  show WR (two a b (ev C a) (ev C b) (fun _ _ t u => (cm o t u).map .bl) ε) Q = _
  rw [w_two]; refine WR_ext fun x ε1 => ?_; refine WR_ext fun y ε2 => ?_; refine WV_ext fun t => ?_; refine WV_ext fun u => ?_; rw [WV_map]
theorem w_cmp2 (o p : Cm) (a b c : E) (Q : T → Env → Prop) : WR (ev C (.cmp2 o p a b c) ε) Q = WR (ev C a ε) fun t ε1 => WR (ev C b ε1) fun u ε2 => WV (cm o t u) fun d => WB d (WR (ev C c ε2) fun v ε3 => WV (cm p u v) fun d => Q (.bl d) ε3) (Q (.bl false) ε2) := by
  show WR (bnd (ev C a ε) fun t ε1 => bnd (ev C b ε1) fun u ε2 => match cm o t u with
    | some true => bnd (ev C c ε2) fun v ε3 => ofO ((cm p u v).map .bl) ε3
    | some false => .ok (.bl false) ε2
    | none => .no) Q = _
  rw [WR_bnd]; refine WR_ext fun t ε1 => ?_; rw [WR_bnd]; refine WR_ext fun u ε2 => ?_
  cases cm o t u with
  | none => rfl
  | some d => cases d with
    | false => rfl
    | true =>
      simp only [WR_bnd]
      show _ = WR (ev C c ε2) _
      refine WR_ext fun v ε3 => ?_
      rw [WR_ofO, WV_map]
theorem w_ite (c a b : E) (Q : T → Env → Prop) : WR (ev C (.ite c a b) ε) Q = WR (cnd c (ev C c) ε) fun d ε1 => WB d (WR (ev C a ε1) Q) (WR (ev C b ε1) Q) := by
  show WR (bnd (cnd c (ev C c) ε) fun d ε1 => if d then ev C a ε1 else ev C b ε1) Q = _
  rw [WR_bnd]; refine WR_ext fun d ε1 => ?_; cases d <;> rfl
theorem w_call (f : Nat) (as : Es) (Q : T → Env → Prop) : WR (ev C (.call f as) ε) Q = WR (evs C as ε) fun os ε1 => WR (calls C f os ε1) Q := by
  show WR (bnd (evs C as ε) fun os ε1 => calls C f os ε1) Q = _
  rw [WR_bnd]
theorem w_callk (f : Nat) (as ks : Es) (ord : List Nat) (Q : T → Env → Prop) : WR (ev C (.callk f as ks ord) ε) Q = WR (evs C as ε) fun os ε1 => WR (evs C ks ε1) fun us ε2 => WV (perm (os ++ us) ord) fun ws => WR (calls C f ws ε2) Q := by
  show WR (bnd (evs C as ε) fun os ε1 => bnd (evs C ks ε1) fun us ε2 => match perm (os ++ us) ord with
    | some ws => calls C f ws ε2
    | none => .no) Q = _
  rw [WR_bnd]; refine WR_ext fun os ε1 => ?_; rw [WR_bnd]; refine WR_ext fun us ε2 => ?_; cases perm (os ++ us) ord <;> rfl
theorem w_calls (f : Nat) (os : List Op) (Q : T → Env → Prop) : WR (calls C f os ε) Q = WV (takes ε os) fun p => WF (C.call f p.1) fun t outs => WE (gives p.2 os p.1 outs) fun ε' => Q t ε' := by
  unfold calls
  cases takes ε os with
  | none => rfl
  | some p =>
    obtain ⟨ts, ε'⟩ := p
    simp only [WV_some]
    cases C.call f ts with
    | ok t o => exact (WE_eq _ _).symm
    | ex _ => rfl
    | no => rfl
theorem w_takes_nil (Q : List T × Env → Prop) : WV (takes ε []) Q = Q ([], ε) := nr rfl
theorem w_takes_t (t : T) (r : List Op) (Q : List T × Env → Prop) : WV (takes ε (.t t :: r)) Q = WV (takes ε r) fun p => Q (t :: p.1, p.2) := by
  rw [takes]; cases takes ε r <;> rfl
theorem w_takes_s (i : Nat) (r : List Op) (Q : List T × Env → Prop) : WV (takes ε (.s i :: r)) Q = WV (gt ε i) fun t => WV (takes (mv ε i t t.sh) r) fun p => Q (t :: p.1, p.2) := by
  rw [takes]
  cases gt ε i with
  | none => rfl
  | some t =>
    simp only [WV_some]
    have : mv ε i t t.sh = if t.sh then ε else st ε i none := by cases t.sh <;> rfl
    rw [this]
    cases takes (if t.sh then ε else st ε i none) r <;> rfl
/-- what a call gives back -/
def gv (ε : Env) (i : Nat) (o : Option T) (c : Bool) : Env := match c with
  | true => ε
  | false => st ε i o
theorem gives_s (i : Nat) (r : List Op) (t : T) (ts : List T) (o : Option T) (os : List (Option T)) : gives ε (.s i :: r) (t :: ts) (o :: os) = gives (gv ε i o t.sh) r ts os := by
  rw [gives]; cases t.sh <;> rfl
theorem gives_t (u : T) (r : List Op) (t : T) (ts : List T) (o : Option T) (os : List (Option T)) : gives ε (.t u :: r) (t :: ts) (o :: os) = gives ε r ts os := nr rfl
theorem gives_nil (ts : List T) (os : List (Option T)) : gives ε [] ts os = ε := by cases ts <;> cases os <;> rfl
theorem w_bi (f : Bi) (as : Es) (Q : T → Env → Prop) : WR (ev C (.bi f as) ε) Q = WR (evs C as ε) fun os ε1 => WV (pks ε1 os) fun ts => WV (biF C f ts) fun v => Q v ε1 := by
  show WR (bnd (evs C as ε) fun os ε1 => match pks ε1 os with
      | some ts => ofO (biF C f ts) ε1
      | none => .no) Q = _
  rw [WR_bnd]; refine WR_ext fun os ε1 => ?_
  cases pks ε1 os with
  | none => rfl
  | some ts => simp only [WR_ofO, WV_some]
theorem w_isi (a : E) (ts : List Ty) (Q : T → Env → Prop) : WR (ev C (.isi a ts) ε) Q = WR (asO a (ev C a) ε) fun x ε1 => WV (pk ε1 x) fun t => WG (isK t) (Q (.bl (ts.any (isTy t))) ε1) := by
  show WR (un a (ev C a) (fun t => if isK t then some (.bl (ts.any (isTy t))) else none) ε) Q = _
  rw [w_un]; refine WR_ext fun x ε1 => ?_; refine WV_ext fun t => ?_; rw [WV_if]; simp
def shR (c : Bool) (t : T) : Option T := if c && !t.sh then none else some t
theorem w_idx (a b : E) (Q : T → Env → Prop) : WR (ev C (.idx a b) ε) Q = WR (asO a (ev C a) ε) fun x ε1 => WR (asO b (ev C b) ε1) fun y ε2 => WV (pk ε2 x) fun t => WV (pk ε2 y) fun u => WV (getI t u) fun r => WG (!((x.isS || isDi (some t)) && !r.sh)) (Q r ε2) := by
  show WR (two a b (ev C a) (ev C b) (fun sx _ t u => (getI t u).bind fun r => if (sx || isDi (some t)) && !r.sh then none else some r) ε) Q = _
  rw [w_two]; refine WR_ext fun x ε1 => ?_; refine WR_ext fun y ε2 => ?_; refine WV_ext fun t => ?_; refine WV_ext fun u => ?_; rw [WV_bind]; refine WV_ext fun r => ?_
  cases ((x.isS || isDi (some t)) && !r.sh) <;> simp [WV, WG]
theorem w_sl (a lo hi : E) (Q : T → Env → Prop) : WR (ev C (.sl a lo hi) ε) Q = WR (asO a (ev C a) ε) fun x ε1 => WR (ev C lo ε1) fun l ε2 => WR (ev C hi ε2) fun h ε3 => WV (pk ε3 x) fun t => WV (oInt lo l) fun l => WV (oInt hi h) fun h => WV (cutT x.isS t l h) fun v => Q v ε3 := by
  show WR (bnd (asO a (ev C a) ε) fun x ε1 => bnd (ev C lo ε1) fun l ε2 => bnd (ev C hi ε2) fun h ε3 => match pk ε3 x, oInt lo l, oInt hi h with
    | some t, some l, some h => ofO (cutT x.isS t l h) ε3
    | _, _, _ => .no) Q = _
  rw [WR_bnd]; refine WR_ext fun x ε1 => ?_; rw [WR_bnd]; refine WR_ext fun l ε2 => ?_; rw [WR_bnd]; refine WR_ext fun h ε3 => ?_
  cases pk ε3 x with
  | none => rfl
  | some t => cases oInt lo l with
    | none => rfl
    | some l => cases oInt hi h with
      | none => rfl
      | some h => simp only [WR_ofO, WV_some]
theorem w_tup (es : Es) (Q : T → Env → Prop) : WR (ev C (.tup es) ε) Q = WR (evv C es ε) fun ts ε1 => Q (.tup ts) ε1 := by
  show WR (bnd (evv C es ε) fun ts ε1 => .ok (.tup ts) ε1) Q = _
  rw [WR_bnd]; rfl
theorem w_lst (es : Es) (Q : T → Env → Prop) : WR (ev C (.lst es) ε) Q = WR (evv C es ε) fun ts ε1 => Q (.lst true ts) ε1 := by
  show WR (bnd (evv C es ε) fun ts ε1 => .ok (.lst true ts) ε1) Q = _
  rw [WR_bnd]; rfl
theorem w_dic0 (Q : T → Env → Prop) : WR (ev C (.dic .nil .nil) ε) Q = Q (.dic true []) ε := nr rfl
theorem w_dic1 (k v : E) (Q : T → Env → Prop) : WR (ev C (.dic (.cons k .nil) (.cons v .nil)) ε) Q = WR (ev C k ε) fun t ε1 => WR (ev C v ε1) fun u ε2 => WG (k1 t) (Q (.dic true [(t, u)]) ε2) := by
  show WR (bnd (ev C k ε) fun t ε1 => bnd (ev C v ε1) fun u ε2 => if k1 t then .ok (.dic true [(t, u)]) ε2 else .no) Q = _
  rw [WR_bnd]; refine WR_ext fun t ε1 => ?_; rw [WR_bnd]; refine WR_ext fun u ε2 => ?_; cases k1 t <;> simp [WR, WG]
theorem w_lc (own : List Nat) (tg : Tg) (it : It) (cs : Es) (e : E) (Q : T → Env → Prop) : WR (ev C (.lc own tg it cs e) ε) Q = WR (evi C it ε) fun xs ε1 => WG (decide (xs.length ≤ LL)) (WE (wipeS own ε1) fun ε0 => WR (lcL tg own (evc C cs) (ev C e) xs [] ε0) fun ts ε2 => WE (backS own ε1 ε2) fun ε3 => Q (.lst true ts) ε3) := by
  show WR (bnd (evi C it ε) fun xs ε1 => if xs.length ≤ LL then
      bnd (lcL tg own (evc C cs) (ev C e) xs [] (wipeS own ε1)) fun ts ε2 => .ok (.lst true ts) (backS own ε1 ε2) else .no) Q = _
  rw [WR_bnd]; refine WR_ext fun xs ε1 => ?_
  by_cases h : xs.length ≤ LL
  · rw [if_pos h, WR_bnd]; simp only [WG, h, decide_true, true_and]; rw [WE_eq]; exact WR_ext fun ts ε2 => (WE_eq _ _).symm
  · rw [if_neg h]; simp [WR, WG, h]
theorem w_pop (i : Nat) (Q : T → Env → Prop) : WR (ev C (.pop i) ε) Q = ∃ xs x, gt ε i = some (.lst true xs) ∧ xs.getLast? = some x ∧ Q x (st ε i (some (.lst true xs.dropLast))) := by
  show WR (match gt ε i with
    | some (.lst true xs) => match xs.getLast? with
      | some x => .ok x (st ε i (some (.lst true xs.dropLast)))
      | none => .no
    | _ => .no) Q = _
  split
  · rename_i xs h
    split
    · rename_i x hx
      apply propext; constructor
      · intro hq; exact ⟨xs, x, h, hx, hq⟩
      · rintro ⟨xs', x', h', hx', hq⟩
        rw [h] at h'; cases h'; rw [hx] at hx'; cases hx'; exact hq
    · rename_i hx
      apply propext; constructor
      · intro hq; exact hq.elim
      · rintro ⟨xs', x', h', hx', hq⟩
        rw [h] at h'; cases h'; rw [hx] at hx'; cases hx'
  · rename_i h
    apply propext; constructor
    · intro hq; exact hq.elim
    · rintro ⟨xs', x', h', hx', hq⟩
      exact (h _ h').elim
theorem w_popi (i : Nat) (e : E) (Q : T → Env → Prop) : WR (ev C (.popi i e) ε) Q = WG (isL (gt ε i)) (WR (ev C e ε) fun k ε1 => ∃ xs n j x, gt ε1 i = some (.lst true xs) ∧ k = .int n ∧ ixOf xs.length n = some j ∧ xs[j]? = some x ∧ Q x (st ε1 i (some (.lst true (xs.eraseIdx j))))) := by
  show WR (if !isL (gt ε i) then .no else bnd (ev C e ε) fun k ε1 => match gt ε1 i, k with
    | some (.lst true xs), .int k => match ixOf xs.length k with
      | some j => match xs[j]? with
        | some x => .ok x (st ε1 i (some (.lst true (xs.eraseIdx j))))
        | none => .no
      | none => .no
    | _, _ => .no) Q = _
  cases isL (gt ε i) with
  | false => simp [WR, WG]
  | true =>
    simp only [Bool.not_true, Bool.false_eq_true, if_false, WG_true]
    rw [WR_bnd]; refine WR_ext fun k ε1 => ?_
    split
    · rename_i xs n h
      apply propext; constructor
      · intro hq
        split at hq
        · rename_i j hj
          split at hq
          · rename_i x hx; exact ⟨xs, n, j, x, h, rfl, hj, hx, hq⟩
          · exact hq.elim
        · exact hq.elim
      · rintro ⟨xs', n', j', x', h', hk, hj', hx', hq⟩
        rw [h] at h'; cases h'; cases hk
        rw [hj']; simp only [hx']; exact hq
    · rename_i h
      apply propext; constructor
      · intro hq; exact hq.elim
      · rintro ⟨xs', n', j', x', h', hk, hj', hx', hq⟩
        exact (h _ _ h' hk).elim
theorem w_pop1 (i : Nat) (k : E) (Q : T → Env → Prop) : WR (ev C (.pop1 i k) ε) Q = WG (isL (gt ε i)) (WR (ev C k ε) fun j ε1 => ∃ xs n ys x, itm (gt ε1 i) j = some (xs, n, .lst true ys) ∧ ys.getLast? = some x ∧ Q x (st ε1 i (some (.lst true (xs.set n (.lst true ys.dropLast)))))) := by
  show WR (fPop1 i (ev C k) ε) Q = _
  unfold fPop1
  cases isL (gt ε i) with
  | false => simp [WR, WG]
  | true =>
    simp only [Bool.not_true, Bool.false_eq_true, if_false, WG_true]
    rw [WR_bnd]; refine WR_ext fun j ε1 => ?_
    split
    · rename_i xs n ys h
      apply propext; constructor
      · intro hq
        split at hq
        · rename_i x hx; exact ⟨xs, n, ys, x, h, hx, hq⟩
        · exact hq.elim
      · rintro ⟨xs', n', ys', x', h', hx', hq⟩
        rw [h] at h'; cases h'; simp only [hx']; exact hq
    · rename_i h
      apply propext; constructor
      · intro hq; exact hq.elim
      · rintro ⟨xs', n', ys', x', h', hx', hq⟩
        exact (h _ _ _ h').elim
theorem w_nil (ne : Bool) (i : Nat) (k : E) (Q : T → Env → Prop) : WR (ev C (.nil ne i k) ε) Q = WG (isL (gt ε i)) (WR (ev C k ε) fun j ε1 => WV (itm (gt ε1 i) j) fun p => WV (gNil ne p.2.2) fun v => Q v ε1) := by
  show WR (fItm i (ev C k) (fun u => gNil ne u) ε) Q = _
  unfold fItm
  cases isL (gt ε i) with
  | false => simp [WR, WG]
  | true =>
    simp only [Bool.not_true, Bool.false_eq_true, if_false, WG_true]
    rw [WR_bnd]; refine WR_ext fun j ε1 => ?_
    cases itm (gt ε1 i) j with
    | none => rfl
    | some p => obtain ⟨a, b, c⟩ := p; simp only [WR_ofO, WV_some]
theorem w_bi1 (f : Bi) (i : Nat) (k : E) (Q : T → Env → Prop) : WR (ev C (.bi1 f i k) ε) Q = WG (isL (gt ε i)) (WR (ev C k ε) fun j ε1 => WV (itm (gt ε1 i) j) fun p => WV (biF C f [p.2.2]) fun v => Q v ε1) := by
  show WR (fItm i (ev C k) (fun u => biF C f [u]) ε) Q = _
  unfold fItm
  cases isL (gt ε i) with
  | false => simp [WR, WG]
  | true =>
    simp only [Bool.not_true, Bool.false_eq_true, if_false, WG_true]
    rw [WR_bnd]; refine WR_ext fun j ε1 => ?_
    cases itm (gt ε1 i) j with
    | none => rfl
    | some p => obtain ⟨a, b, c⟩ := p; simp only [WR_ofO, WV_some]
def getD (c : Option T) (k : T) (d : T) : Option T := match c with
  | some (.dic o kvs) => if kOk o kvs k then (match dget kvs k with | some r => if !r.sh then none else some r | none => some d) else none
  | _ => none
theorem w_get1 (a k : E) (Q : T → Env → Prop) : WR (ev C (.get1 a k) ε) Q = WR (asO a (ev C a) ε) fun x ε1 => WG (isDi (pk ε1 x)) (WR (ev C k ε1) fun u ε2 => WV (getD (pk ε2 x) u .non) fun v => Q v ε2) := by
  show WR (bnd (asO a (ev C a) ε) fun x ε1 => if !isDi (pk ε1 x) then .no else bnd (ev C k ε1) fun u ε2 => match pk ε2 x with
    | some (.dic o kvs) => if kOk o kvs u then (match dget kvs u with | some r => if !r.sh then .no else .ok r ε2 | none => .ok .non ε2) else .no
    | _ => .no) Q = _
  rw [WR_bnd]; refine WR_ext fun x ε1 => ?_
  cases isDi (pk ε1 x) with
  | false => simp [WR, WG]
  | true =>
    simp only [Bool.not_true, Bool.false_eq_true, if_false, WG_true]
    rw [WR_bnd]; refine WR_ext fun u ε2 => ?_
    unfold getD
    split
    · rename_i o kvs h
      by_cases hk : kOk o kvs u = true
      · rw [if_pos hk, if_pos hk]
        cases dget kvs u with
        | none => rfl
        | some r => by_cases hr : r.sh = true <;> simp [hr, WR, WV]
      · rw [if_neg hk, if_neg hk]; rfl
    · rfl
theorem w_get2 (a k d : E) (Q : T → Env → Prop) : WR (ev C (.get2 a k d) ε) Q = WR (asO a (ev C a) ε) fun x ε1 => WG (isDi (pk ε1 x)) (WR (ev C k ε1) fun u ε2 => WR (ev C d ε2) fun w ε3 => WV (getD (pk ε3 x) u w) fun v => Q v ε3) := by
  show WR (bnd (asO a (ev C a) ε) fun x ε1 => if !isDi (pk ε1 x) then .no else bnd (ev C k ε1) fun u ε2 => bnd (ev C d ε2) fun w ε3 => match pk ε3 x with
    | some (.dic o kvs) => if kOk o kvs u then (match dget kvs u with | some r => if !r.sh then .no else .ok r ε3 | none => .ok w ε3) else .no
    | _ => .no) Q = _
  rw [WR_bnd]; refine WR_ext fun x ε1 => ?_
  cases isDi (pk ε1 x) with
  | false => simp [WR, WG]
  | true =>
    simp only [Bool.not_true, Bool.false_eq_true, if_false, WG_true]
    rw [WR_bnd]; refine WR_ext fun u ε2 => ?_
    rw [WR_bnd]; refine WR_ext fun w ε3 => ?_
    unfold getD
    split
    · rename_i o kvs h
      by_cases hk : kOk o kvs u = true
      · rw [if_pos hk, if_pos hk]
        cases dget kvs u with
        | none => rfl
        | some r => by_cases hr : r.sh = true <;> simp [hr, WR, WV]
      · rw [if_neg hk, if_neg hk]; rfl
    · rfl
theorem w_count (a k : E) (Q : T → Env → Prop) : WR (ev C (.count a k) ε) Q = WR (asO a (ev C a) ε) fun x ε1 => WR (asO k (ev C k) ε1) fun y ε2 => WV (pk ε2 x) fun t => WV (pk ε2 y) fun u => WV (seqOf t) fun xs => WG (dpL 7 xs && u.dp 7) (Q (.int (xs.countP fun y => y.eq u)) ε2) := by
  show WR (two a k (ev C a) (ev C k) (fun _ _ t u => (seqOf t).bind fun xs => if dpL 7 xs && u.dp 7 then some (.int (xs.countP fun y => y.eq u)) else none) ε) Q = _
  rw [w_two]; refine WR_ext fun x ε1 => ?_; refine WR_ext fun y ε2 => ?_; refine WV_ext fun t => ?_; refine WV_ext fun u => ?_; rw [WV_bind]; refine WV_ext fun xs => ?_
  rw [WV_if]; simp
theorem w_index (a k : E) (Q : T → Env → Prop) : WR (ev C (.index a k) ε) Q = WR (asO a (ev C a) ε) fun x ε1 => WR (asO k (ev C k) ε1) fun y ε2 => WV (pk ε2 x) fun t => WV (pk ε2 y) fun u => WV (seqOf t) fun xs => WG (dpL 7 xs && u.dp 7 && memT u xs) (Q (.int (xs.findIdx fun y => y.eq u)) ε2) := by
  show WR (two a k (ev C a) (ev C k) (fun _ _ t u => (seqOf t).bind fun xs => if dpL 7 xs && u.dp 7 && memT u xs then some (.int (xs.findIdx fun y => y.eq u)) else none) ε) Q = _
  rw [w_two]; refine WR_ext fun x ε1 => ?_; refine WR_ext fun y ε2 => ?_; refine WV_ext fun t => ?_; refine WV_ext fun u => ?_; rw [WV_bind]; refine WV_ext fun xs => ?_
  rw [WV_if]; simp
/-- an int -/
def WI (t : T) (Q : Int → Prop) (_ : Dp Q := .mk) : Prop := match t with
  | .int i => Q i
  | _ => False
theorem WI_int (i : Int) (Q : Int → Prop) : WI (.int i) Q = Q i := nr rfl
theorem w_lrng (tp : Bool) (a : E) (Q : T → Env → Prop) : WR (ev C (.lrng tp a) ε) Q = WR (ev C a ε) fun t ε1 => WI t fun n => WV (rng 0 n) fun xs => Q (asSeq tp xs) ε1 := by
  show WR (bnd (ev C a ε) fun t ε1 => match t with
    | .int n => ofO ((rng 0 n).map (asSeq tp)) ε1
    | _ => .no) Q = _
  rw [WR_bnd]; refine WR_ext fun t ε1 => ?_
  cases t <;> first | rfl | skip
  simp only [WR_ofO, WV_map, WI_int]
theorem w_lrng2 (tp : Bool) (a b : E) (Q : T → Env → Prop) : WR (ev C (.lrng2 tp a b) ε) Q = WR (ev C a ε) fun t ε1 => WR (ev C b ε1) fun u ε2 => WI t fun m => WI u fun n => WV (rng m n) fun xs => Q (asSeq tp xs) ε2 := by
  show WR (bnd (ev C a ε) fun t ε1 => bnd (ev C b ε1) fun u ε2 => match t, u with
    | .int m, .int n => ofO ((rng m n).map (asSeq tp)) ε2
    | _, _ => .no) Q = _
  rw [WR_bnd]; refine WR_ext fun t ε1 => ?_; rw [WR_bnd]; refine WR_ext fun u ε2 => ?_
  cases t <;> first | rfl | skip
  cases u <;> first | rfl | skip
  simp only [WR_ofO, WV_map, WI_int]
def WL (t : T) (Q : List T → Prop) (_ : Dp Q := .mk) : Prop := match t with
  | .lst _ xs => Q xs
  | _ => False
theorem WL_lst (o : Bool) (i : List T) (Q : List T → Prop) : WL (.lst o i) Q = Q i := nr rfl
theorem w_lrev (tp : Bool) (e : E) (Q : T → Env → Prop) : WR (ev C (.lrev tp e) ε) Q = WR (ev C e ε) fun t ε1 => WL t fun xs => Q (asSeq tp (frzL xs).reverse) ε1 := by
  show WR (bnd (ev C e ε) fun t ε1 => match t with
    | .lst _ xs => .ok (asSeq tp (frzL xs).reverse) ε1
    | _ => .no) Q = _
  rw [WR_bnd]; refine WR_ext fun t ε1 => ?_
  cases t <;> rfl
/-! lists of operands, of values; tests; walks -/
theorem w_evs_nil (Q : List Op → Env → Prop) : WR (evs C .nil ε) Q = Q [] ε := nr rfl
theorem w_evs_cons (e : E) (es : Es) (Q : List Op → Env → Prop) : WR (evs C (.cons e es) ε) Q = WR (asO e (ev C e) ε) fun x ε1 => WR (evs C es ε1) fun xs ε2 => Q (x :: xs) ε2 := by
  show WR (bnd (asO e (ev C e) ε) fun x ε1 => bnd (evs C es ε1) fun xs ε2 => .ok (x :: xs) ε2) Q = _
  rw [WR_bnd]; refine WR_ext fun x ε1 => ?_; rw [WR_bnd]; rfl
theorem w_evv_nil (Q : List T → Env → Prop) : WR (evv C .nil ε) Q = Q [] ε := nr rfl
theorem w_evv_cons (e : E) (es : Es) (Q : List T → Env → Prop) : WR (evv C (.cons e es) ε) Q = WR (ev C e ε) fun x ε1 => WR (evv C es ε1) fun xs ε2 => Q (x :: xs) ε2 := by
  show WR (bnd (ev C e ε) fun x ε1 => bnd (evv C es ε1) fun xs ε2 => .ok (x :: xs) ε2) Q = _
  rw [WR_bnd]; refine WR_ext fun x ε1 => ?_; rw [WR_bnd]; rfl
theorem w_evc_nil (Q : Bool → Env → Prop) : WR (evc C .nil ε) Q = Q true ε := nr rfl
theorem w_evc_one (c : E) (Q : Bool → Env → Prop) : WR (evc C (.cons c .nil) ε) Q = WR (cnd c (ev C c) ε) Q := nr rfl
theorem w_seq (e : E) (Q : List T → Env → Prop) : WR (evi C (.seq e) ε) Q = WR (ev C e ε) fun t ε1 => WV (itemsOf t) fun xs => Q xs ε1 := by
  show WR (bnd (ev C e ε) fun t ε1 => ofO (itemsOf t) ε1) Q = _
  rw [WR_bnd]; refine WR_ext fun t ε1 => ?_; rw [WR_ofO]
theorem w_rng1 (a : E) (Q : List T → Env → Prop) : WR (evi C (.rng1 a) ε) Q = WR (ev C a ε) fun t ε1 => WI t fun n => WV (rng 0 n) fun xs => Q xs ε1 := by
  show WR (bnd (ev C a ε) fun t ε1 => match t with
    | .int n => ofO (rng 0 n) ε1
    | _ => .no) Q = _
  rw [WR_bnd]; refine WR_ext fun t ε1 => ?_
  cases t <;> first | rfl | skip
  simp only [WR_ofO, WI_int]
theorem w_rng2 (a b : E) (Q : List T → Env → Prop) : WR (evi C (.rng2 a b) ε) Q = WR (ev C a ε) fun t ε1 => WR (ev C b ε1) fun u ε2 => WI t fun m => WI u fun n => WV (rng m n) fun xs => Q xs ε2 := by
  show WR (bnd (ev C a ε) fun t ε1 => bnd (ev C b ε1) fun u ε2 => match t, u with
    | .int m, .int n => ofO (rng m n) ε2
    | _, _ => .no) Q = _
  rw [WR_bnd]; refine WR_ext fun t ε1 => ?_; rw [WR_bnd]; refine WR_ext fun u ε2 => ?_
  cases t <;> first | rfl | skip
  cases u <;> first | rfl | skip
  simp only [WR_ofO, WI_int]
theorem w_rng3 (a b : E) (Q : List T → Env → Prop) : WR (evi C (.rng3 a b (.neg (.int 1))) ε) Q = WR (ev C a ε) fun t ε1 => WR (ev C b ε1) fun u ε2 => WI t fun m => WI u fun n => WV (rngD m n) fun xs => Q xs ε2 := by
  show WR (bnd (ev C a ε) fun t ε1 => bnd (ev C b ε1) fun u ε2 => bnd (ev C (.neg (.int 1)) ε2) fun v ε3 => match t, u, v with
    | .int m, .int n, .int (-1) => ofO (rngD m n) ε3
    | _, _, _ => .no) Q = _
  rw [WR_bnd]; refine WR_ext fun t ε1 => ?_; rw [WR_bnd]; refine WR_ext fun u ε2 => ?_
  have : ev C (.neg (.int 1)) ε2 = .ok (.int (-1)) ε2 := rfl
  rw [this, bnd_ok]
  cases t <;> first | rfl | skip
  cases u <;> first | rfl | skip
  simp only [WR_ofO, WI_int]
theorem w_enum (e : E) (Q : List T → Env → Prop) : WR (evi C (.enum e) ε) Q = WR (ev C e ε) fun t ε1 => WV (seqF t) fun xs => Q (enumL xs 0) ε1 := by
  show WR (bnd (ev C e ε) fun t ε1 => match seqF t with
    | some xs => .ok (enumL xs 0) ε1
    | none => .no) Q = _
  rw [WR_bnd]; refine WR_ext fun t ε1 => ?_; cases seqF t <;> rfl
theorem w_zip (a b : E) (Q : List T → Env → Prop) : WR (evi C (.zip a b) ε) Q = WR (ev C a ε) fun t ε1 => WR (ev C b ε1) fun u ε2 => WV (zipT t u) fun xs => Q xs ε2 := by
  show WR (bnd (ev C a ε) fun t ε1 => bnd (ev C b ε1) fun u ε2 => ofO (zipT t u) ε2) Q = _
  rw [WR_bnd]; refine WR_ext fun t ε1 => ?_; rw [WR_bnd]; refine WR_ext fun u ε2 => ?_; rw [WR_ofO]
theorem w_rev (e : E) (Q : List T → Env → Prop) : WR (evi C (.rev e) ε) Q = WR (ev C e ε) fun t ε1 => WV (seqF t) fun xs => Q xs.reverse ε1 := by
  show WR (bnd (ev C e ε) fun t ε1 => match seqF t with
    | some xs => .ok xs.reverse ε1
    | none => .no) Q = _
  rw [WR_bnd]; refine WR_ext fun t ε1 => ?_; cases seqF t <;> rfl
theorem w_items (e : E) (Q : List T → Env → Prop) : WR (evi C (.items e) ε) Q = WR (ev C e ε) fun t ε1 => WV (itemsD t) fun xs => Q xs ε1 := by
  show WR (bnd (ev C e ε) fun t ε1 => ofO (itemsD t) ε1) Q = _
  rw [WR_bnd]; refine WR_ext fun t ε1 => ?_; rw [WR_ofO]
theorem w_vals (e : E) (Q : List T → Env → Prop) : WR (evi C (.vals e) ε) Q = WR (ev C e ε) fun t ε1 => WV (valsD t) fun xs => Q xs ε1 := by
  show WR (bnd (ev C e ε) fun t ε1 => ofO (valsD t) ε1) Q = _
  rw [WR_bnd]; refine WR_ext fun t ε1 => ?_; rw [WR_ofO]
/-! operands -/
theorem w_pl (i : Nat) (f : Env → R T) (Q : Op → Env → Prop) : WR (asO (.pl i) f ε) Q = WV (gt ε i) fun _ => Q (.s i) ε := by
  show WR (match gt ε i with | some _ => .ok (.s i) ε | none => .no) Q = _
  cases gt ε i <;> rfl
theorem w_asO {e : E} (h : ∀ i, e ≠ .pl i) (f : Env → R T) (Q : Op → Env → Prop) : WR (asO e f ε) Q = WR (f ε) fun t ε1 => Q (.t t) ε1 := by
  unfold asO
  split
  · exact absurd rfl (h _)
  · rw [WR_bnd]; rfl
theorem asO_non (f' : Env → R T) (Q : Op → Env → Prop) : WR (asO (.non ) f' ε) Q = WR (f' ε) fun t ε1 => Q (.t t) ε1 := nr <| w_asO (fun i h => by cases h) f' Q
theorem asO_bl (b : Bool) (f' : Env → R T) (Q : Op → Env → Prop) : WR (asO (.bl b) f' ε) Q = WR (f' ε) fun t ε1 => Q (.t t) ε1 := nr <| w_asO (fun i h => by cases h) f' Q
theorem asO_int (i : Int) (f' : Env → R T) (Q : Op → Env → Prop) : WR (asO (.int i) f' ε) Q = WR (f' ε) fun t ε1 => Q (.t t) ε1 := nr <| w_asO (fun i h => by cases h) f' Q
theorem asO_str (s : Str) (f' : Env → R T) (Q : Op → Env → Prop) : WR (asO (.str s) f' ε) Q = WR (f' ε) fun t ε1 => Q (.t t) ε1 := nr <| w_asO (fun i h => by cases h) f' Q
theorem asO_var (i : Nat) (f' : Env → R T) (Q : Op → Env → Prop) : WR (asO (.var i) f' ε) Q = WR (f' ε) fun t ε1 => Q (.t t) ε1 := nr <| w_asO (fun i h => by cases h) f' Q
theorem asO_frz (i : Nat) (f' : Env → R T) (Q : Op → Env → Prop) : WR (asO (.frz i) f' ε) Q = WR (f' ε) fun t ε1 => Q (.t t) ε1 := nr <| w_asO (fun i h => by cases h) f' Q
theorem asO_gl (k : Nat) (f' : Env → R T) (Q : Op → Env → Prop) : WR (asO (.gl k) f' ε) Q = WR (f' ε) fun t ε1 => Q (.t t) ε1 := nr <| w_asO (fun i h => by cases h) f' Q
theorem asO_op (o : Op2) (a : E) (b : E) (f' : Env → R T) (Q : Op → Env → Prop) : WR (asO (.op o a b) f' ε) Q = WR (f' ε) fun t ε1 => Q (.t t) ε1 := nr <| w_asO (fun i h => by cases h) f' Q
theorem asO_neg (a : E) (f' : Env → R T) (Q : Op → Env → Prop) : WR (asO (.neg a) f' ε) Q = WR (f' ε) fun t ε1 => Q (.t t) ε1 := nr <| w_asO (fun i h => by cases h) f' Q
theorem asO_not (a : E) (f' : Env → R T) (Q : Op → Env → Prop) : WR (asO (.not a) f' ε) Q = WR (f' ε) fun t ε1 => Q (.t t) ε1 := nr <| w_asO (fun i h => by cases h) f' Q
theorem asO_and (a : E) (b : E) (f' : Env → R T) (Q : Op → Env → Prop) : WR (asO (.and a b) f' ε) Q = WR (f' ε) fun t ε1 => Q (.t t) ε1 := nr <| w_asO (fun i h => by cases h) f' Q
theorem asO_or (a : E) (b : E) (f' : Env → R T) (Q : Op → Env → Prop) : WR (asO (.or a b) f' ε) Q = WR (f' ε) fun t ε1 => Q (.t t) ε1 := nr <| w_asO (fun i h => by cases h) f' Q
theorem asO_cmp (o : Cm) (a : E) (b : E) (f' : Env → R T) (Q : Op → Env → Prop) : WR (asO (.cmp o a b) f' ε) Q = WR (f' ε) fun t ε1 => Q (.t t) ε1 := nr <| w_asO (fun i h => by cases h) f' Q
theorem asO_cmp2 (o : Cm) (p : Cm) (a : E) (b : E) (c : E) (f' : Env → R T) (Q : Op → Env → Prop) : WR (asO (.cmp2 o p a b c) f' ε) Q = WR (f' ε) fun t ε1 => Q (.t t) ε1 := nr <| w_asO (fun i h => by cases h) f' Q
theorem asO_nil (ne : Bool) (i : Nat) (k : E) (f' : Env → R T) (Q : Op → Env → Prop) : WR (asO (.nil ne i k) f' ε) Q = WR (f' ε) fun t ε1 => Q (.t t) ε1 := nr <| w_asO (fun i h => by cases h) f' Q
theorem asO_ite (c : E) (a : E) (b : E) (f' : Env → R T) (Q : Op → Env → Prop) : WR (asO (.ite c a b) f' ε) Q = WR (f' ε) fun t ε1 => Q (.t t) ε1 := nr <| w_asO (fun i h => by cases h) f' Q
theorem asO_call (f : Nat) (as : Es) (f' : Env → R T) (Q : Op → Env → Prop) : WR (asO (.call f as) f' ε) Q = WR (f' ε) fun t ε1 => Q (.t t) ε1 := nr <| w_asO (fun i h => by cases h) f' Q
theorem asO_callk (f : Nat) (as : Es) (ks : Es) (ord : List Nat) (f' : Env → R T) (Q : Op → Env → Prop) : WR (asO (.callk f as ks ord) f' ε) Q = WR (f' ε) fun t ε1 => Q (.t t) ε1 := nr <| w_asO (fun i h => by cases h) f' Q
theorem asO_bi (f : Bi) (as : Es) (f' : Env → R T) (Q : Op → Env → Prop) : WR (asO (.bi f as) f' ε) Q = WR (f' ε) fun t ε1 => Q (.t t) ε1 := nr <| w_asO (fun i h => by cases h) f' Q
theorem asO_bi1 (f : Bi) (i : Nat) (k : E) (f' : Env → R T) (Q : Op → Env → Prop) : WR (asO (.bi1 f i k) f' ε) Q = WR (f' ε) fun t ε1 => Q (.t t) ε1 := nr <| w_asO (fun i h => by cases h) f' Q
theorem asO_isi (a : E) (ts : List Ty) (f' : Env → R T) (Q : Op → Env → Prop) : WR (asO (.isi a ts) f' ε) Q = WR (f' ε) fun t ε1 => Q (.t t) ε1 := nr <| w_asO (fun i h => by cases h) f' Q
theorem asO_idx (a : E) (b : E) (f' : Env → R T) (Q : Op → Env → Prop) : WR (asO (.idx a b) f' ε) Q = WR (f' ε) fun t ε1 => Q (.t t) ε1 := nr <| w_asO (fun i h => by cases h) f' Q
theorem asO_frz1 (i : Nat) (a : E) (f' : Env → R T) (Q : Op → Env → Prop) : WR (asO (.frz1 i a) f' ε) Q = WR (f' ε) fun t ε1 => Q (.t t) ε1 := nr <| w_asO (fun i h => by cases h) f' Q
theorem asO_sl (a : E) (lo : E) (hi : E) (f' : Env → R T) (Q : Op → Env → Prop) : WR (asO (.sl a lo hi) f' ε) Q = WR (f' ε) fun t ε1 => Q (.t t) ε1 := nr <| w_asO (fun i h => by cases h) f' Q
theorem asO_tup (es : Es) (f' : Env → R T) (Q : Op → Env → Prop) : WR (asO (.tup es) f' ε) Q = WR (f' ε) fun t ε1 => Q (.t t) ε1 := nr <| w_asO (fun i h => by cases h) f' Q
theorem asO_lst (es : Es) (f' : Env → R T) (Q : Op → Env → Prop) : WR (asO (.lst es) f' ε) Q = WR (f' ε) fun t ε1 => Q (.t t) ε1 := nr <| w_asO (fun i h => by cases h) f' Q
theorem asO_dic (ks : Es) (vs : Es) (f' : Env → R T) (Q : Op → Env → Prop) : WR (asO (.dic ks vs) f' ε) Q = WR (f' ε) fun t ε1 => Q (.t t) ε1 := nr <| w_asO (fun i h => by cases h) f' Q
theorem asO_lc (own : List Nat) (tg : Tg) (it : It) (cs : Es) (e : E) (f' : Env → R T) (Q : Op → Env → Prop) : WR (asO (.lc own tg it cs e) f' ε) Q = WR (f' ε) fun t ε1 => Q (.t t) ε1 := nr <| w_asO (fun i h => by cases h) f' Q
theorem asO_pop (i : Nat) (f' : Env → R T) (Q : Op → Env → Prop) : WR (asO (.pop i) f' ε) Q = WR (f' ε) fun t ε1 => Q (.t t) ε1 := nr <| w_asO (fun i h => by cases h) f' Q
theorem asO_popi (i : Nat) (e : E) (f' : Env → R T) (Q : Op → Env → Prop) : WR (asO (.popi i e) f' ε) Q = WR (f' ε) fun t ε1 => Q (.t t) ε1 := nr <| w_asO (fun i h => by cases h) f' Q
theorem asO_pop1 (i : Nat) (k : E) (f' : Env → R T) (Q : Op → Env → Prop) : WR (asO (.pop1 i k) f' ε) Q = WR (f' ε) fun t ε1 => Q (.t t) ε1 := nr <| w_asO (fun i h => by cases h) f' Q
theorem asO_get1 (a : E) (k : E) (f' : Env → R T) (Q : Op → Env → Prop) : WR (asO (.get1 a k) f' ε) Q = WR (f' ε) fun t ε1 => Q (.t t) ε1 := nr <| w_asO (fun i h => by cases h) f' Q
theorem asO_get2 (a : E) (k : E) (d : E) (f' : Env → R T) (Q : Op → Env → Prop) : WR (asO (.get2 a k d) f' ε) Q = WR (f' ε) fun t ε1 => Q (.t t) ε1 := nr <| w_asO (fun i h => by cases h) f' Q
theorem asO_count (a : E) (k : E) (f' : Env → R T) (Q : Op → Env → Prop) : WR (asO (.count a k) f' ε) Q = WR (f' ε) fun t ε1 => Q (.t t) ε1 := nr <| w_asO (fun i h => by cases h) f' Q
theorem asO_index (a : E) (k : E) (f' : Env → R T) (Q : Op → Env → Prop) : WR (asO (.index a k) f' ε) Q = WR (f' ε) fun t ε1 => Q (.t t) ε1 := nr <| w_asO (fun i h => by cases h) f' Q
theorem asO_lrng (tp : Bool) (a : E) (f' : Env → R T) (Q : Op → Env → Prop) : WR (asO (.lrng tp a) f' ε) Q = WR (f' ε) fun t ε1 => Q (.t t) ε1 := nr <| w_asO (fun i h => by cases h) f' Q
theorem asO_lrng2 (tp : Bool) (a : E) (b : E) (f' : Env → R T) (Q : Op → Env → Prop) : WR (asO (.lrng2 tp a b) f' ε) Q = WR (f' ε) fun t ε1 => Q (.t t) ε1 := nr <| w_asO (fun i h => by cases h) f' Q
theorem asO_lrev (tp : Bool) (e : E) (f' : Env → R T) (Q : Op → Env → Prop) : WR (asO (.lrev tp e) f' ε) Q = WR (f' ε) fun t ε1 => Q (.t t) ε1 := nr <| w_asO (fun i h => by cases h) f' Q
theorem pk_t (t : T) : pk ε (.t t) = some t := nr rfl
theorem pk_s (i : Nat) : pk ε (.s i) = gt ε i := nr rfl
theorem pks_nil : pks ε [] = some [] := nr rfl
theorem w_pks (o : Op) (r : List Op) (Q : List T → Prop) : WV (pks ε (o :: r)) Q = WV (pk ε o) fun t => WV (pks ε r) fun ts => Q (t :: ts) := by
  rw [pks]; cases pk ε o <;> first | rfl | skip
  cases pks ε r <;> rfl
/-! statements -/
theorem s_nil : WO (evSs C .nil ε) P = P.nx ε := nr rfl
theorem s_cons (s : S) (ss : Ss) : WO (evSs C (.cons s ss) ε) P = WO (evS C s ε) ⟨fun ε1 => WO (evSs C ss ε1) P, P.ret, P.brk, P.ct⟩ := by
  show WO (osq (evS C s ε) (evSs C ss)) P = _
  cases evS C s ε <;> rfl
theorem s_pass : WO (evS C .pass ε) P = P.nx ε := nr rfl
theorem s_brk : WO (evS C .brk ε) P = P.brk ε := nr rfl
theorem s_ct : WO (evS C .ct ε) P = P.ct ε := nr rfl
theorem s_retN : WO (evS C .retN ε) P = P.ret .non ε := nr rfl
theorem s_ret (e : E) : WO (evS C (.ret e) ε) P = WR (ev C e ε) P.ret := by
  show WO (obnd (ev C e ε) fun t ε1 => .ret t ε1) P = _
  rw [WO_obnd]; rfl
theorem s_asg (tg : Tg) (e : E) : WO (evS C (.asg tg e) ε) P = WR (ev C e ε) fun t ε1 => WV (asg tg t ε1) P.nx := by
  show WO (obnd (ev C e ε) fun t ε1 => match asg tg t ε1 with
    | some ε2 => .nx ε2
    | none => .no) P = _
  rw [WO_obnd]; refine WR_ext fun t ε1 => ?_; cases asg tg t ε1 <;> rfl
theorem s_par (is : List Nat) (es : Es) : WO (evS C (.par is es) ε) P = WR (evv C es ε) fun ts ε1 => WV (setAll is ts ε1) P.nx := by
  show WO (obnd (evv C es ε) fun ts ε1 => match setAll is ts ε1 with
    | some ε2 => .nx ε2
    | none => .no) P = _
  rw [WO_obnd]; refine WR_ext fun t ε1 => ?_; cases setAll is t ε1 <;> rfl
theorem s_seti (i : Nat) (k e : E) : WO (evS C (.seti i k e) ε) P = WR (ev C e ε) fun t ε1 => WG (gt ε1 i).isSome (WR (ev C k ε1) fun j ε2 => WV (gt ε2 i) fun c => WV (setI c j t) fun c' => WE (st ε2 i (some c')) P.nx) := by
  show WO (obnd (ev C e ε) fun t ε1 => if (gt ε1 i).isNone then .no else obnd (ev C k ε1) fun j ε2 => match gt ε2 i with
    | some c => match setI c j t with
      | some c' => .nx (st ε2 i (some c'))
      | none => .no
    | none => .no) P = _
  rw [WO_obnd]; refine WR_ext fun t ε1 => ?_
  cases gt ε1 i with
  | none => simp [WO, WG]
  | some c =>
    simp only [Option.isNone_some, Bool.false_eq_true, if_false, Option.isSome_some, WG_true]
    rw [WO_obnd]; refine WR_ext fun j ε2 => ?_
    cases gt ε2 i with
    | none => rfl
    | some c =>
      simp only [WV_some]
      cases setI c j t with
      | none => rfl
      | some c' => exact (WE_eq _ _).symm
theorem s_app (i : Nat) (e : E) : WO (evS C (.app i e) ε) P = WG (isL (gt ε i)) (WR (ev C e ε) fun t ε1 => ∃ xs, gt ε1 i = some (.lst true xs) ∧ xs.length < LL ∧ P.nx (st ε1 i (some (.lst true (xs ++ [t]))))) := by
  show WO (if !isL (gt ε i) then .no else obnd (ev C e ε) fun t ε1 => match gt ε1 i with
    | some (.lst true xs) => if xs.length < LL then .nx (st ε1 i (some (.lst true (xs ++ [t])))) else .no
    | _ => .no) P = _
  cases isL (gt ε i) with
  | false => simp [WO, WG]
  | true =>
    simp only [Bool.not_true, Bool.false_eq_true, if_false, WG_true]
    rw [WO_obnd]; refine WR_ext fun t ε1 => ?_
    split
    · rename_i xs h
      by_cases hl : xs.length < LL
      · rw [if_pos hl]
        apply propext; constructor
        · intro hq; exact ⟨xs, h, hl, hq⟩
        · rintro ⟨xs', h', hl', hq⟩
          rw [h] at h'; cases h'; exact hq
      · rw [if_neg hl]
        apply propext; constructor
        · intro hq; exact hq.elim
        · rintro ⟨xs', h', hl', hq⟩
          rw [h] at h'; cases h'; exact (hl hl').elim
    · rename_i h
      apply propext; constructor
      · intro hq; exact hq.elim
      · rintro ⟨xs', h', hl', hq⟩
        exact (h _ h').elim
theorem s_ext (i : Nat) (e : E) : WO (evS C (.ext i e) ε) P = WG (isL (gt ε i)) (WR (ev C e ε) fun t ε1 => ∃ xs ys, gt ε1 i = some (.lst true xs) ∧ (∃ o, t = .lst o ys) ∧ xs.length + ys.length ≤ LL ∧ P.nx (st ε1 i (some (.lst true (xs ++ ys))))) := by
  show WO (if !isL (gt ε i) then .no else obnd (ev C e ε) fun t ε1 => match gt ε1 i, t with
    | some (.lst true xs), .lst _ ys => if xs.length + ys.length ≤ LL then .nx (st ε1 i (some (.lst true (xs ++ ys)))) else .no
    | _, _ => .no) P = _
  cases isL (gt ε i) with
  | false => simp [WO, WG]
  | true =>
    simp only [Bool.not_true, Bool.false_eq_true, if_false, WG_true]
    rw [WO_obnd]; refine WR_ext fun t ε1 => ?_
    split
    · rename_i xs o ys h
      by_cases hl : xs.length + ys.length ≤ LL
      · rw [if_pos hl]
        apply propext; constructor
        · intro hq; exact ⟨xs, ys, h, ⟨o, rfl⟩, hl, hq⟩
        · rintro ⟨xs', ys', h', ⟨o', ho⟩, hl', hq⟩
          rw [h] at h'; cases h'; cases ho; exact hq
      · rw [if_neg hl]
        apply propext; constructor
        · intro hq; exact hq.elim
        · rintro ⟨xs', ys', h', ⟨o', ho⟩, hl', hq⟩
          rw [h] at h'; cases h'; cases ho; exact (hl hl').elim
    · rename_i h
      apply propext; constructor
      · intro hq; exact hq.elim
      · rintro ⟨xs', ys', h', ⟨o', ho⟩, hl', hq⟩
        exact (h _ _ _ h' ho).elim
def lsO : Option T → Option (List T)
  | some (.lst true xs) => some xs
  | _ => none
theorem lsO_some (xs : List T) : lsO (some (.lst true xs)) = some xs := id rfl
theorem lsO_iff {o : Option T} {xs : List T} : lsO o = some xs ↔ o = some (.lst true xs) := by
  constructor
  · intro h
    unfold lsO at h
    split at h
    · cases h; rfl
    · cases h
  · rintro rfl; rfl
theorem WV_iff {α : Type} (o : Option α) (Q : α → Prop) : WV o Q = ∃ a, o = some a ∧ Q a := by
  cases o with
  | none => simp [WV]
  | some a => simp [WV]
theorem s_app' (i : Nat) (e : E) : WO (evS C (.app i e) ε) P = WG (isL (gt ε i)) (WR (ev C e ε) fun t ε1 => WV (lsO (gt ε1 i)) fun xs => WG (decide (xs.length < LL)) (WE (st ε1 i (some (.lst true (xs ++ [t])))) P.nx)) := by
  rw [s_app]
  congr 1
  · refine WR_ext fun t ε1 => ?_
    rw [WV_iff]
    simp only [lsO_iff, WG, WE, decide_eq_true_eq]
  · congr 1
    refine WR_ext fun t ε1 => ?_
    rw [WV_iff]
    simp only [lsO_iff, WG, WE, decide_eq_true_eq]
theorem w_pop' (i : Nat) (Q : T → Env → Prop) : WR (ev C (.pop i) ε) Q = WV (lsO (gt ε i)) fun xs => WV xs.getLast? fun x => WE (st ε i (some (.lst true xs.dropLast))) fun ε' => Q x ε' := by
  rw [w_pop, WV_iff]
  simp only [lsO_iff, WV_iff, WE]
  apply propext; constructor
  · rintro ⟨xs, x, h1, h2, h3⟩; exact ⟨xs, h1, x, h2, h3⟩
  · rintro ⟨xs, h1, x, h2, h3⟩; exact ⟨xs, x, h1, h2, h3⟩
theorem s_ext' (i : Nat) (e : E) : WO (evS C (.ext i e) ε) P = WG (isL (gt ε i)) (WR (ev C e ε) fun t ε1 => WV (lsO (gt ε1 i)) fun xs => WL t fun ys => WG (decide (xs.length + ys.length ≤ LL)) (WE (st ε1 i (some (.lst true (xs ++ ys)))) P.nx)) := by
  rw [s_ext]
  have : ∀ (t : T) (ε1 : Env), (∃ xs ys, gt ε1 i = some (.lst true xs) ∧ (∃ o, t = .lst o ys) ∧ xs.length + ys.length ≤ LL ∧ P.nx (st ε1 i (some (.lst true (xs ++ ys))))) = WV (lsO (gt ε1 i)) fun xs => WL t fun ys => WG (decide (xs.length + ys.length ≤ LL)) (WE (st ε1 i (some (.lst true (xs ++ ys)))) P.nx) := fun t ε1 => by
    apply propext
    constructor
    · rintro ⟨xs, ys, h1, ⟨o, rfl⟩, h2, h3⟩
      rw [WV_iff]
      refine ⟨xs, lsO_iff.mpr h1, ?_⟩
      show WG _ _
      exact ⟨decide_eq_true h2, by rw [WE_eq]; exact h3⟩
    · intro h
      rw [WV_iff] at h
      obtain ⟨xs, h1, h⟩ := h
      cases t <;> first | exact h.elim | skip
      rename_i o ys
      have h : WG (decide (xs.length + ys.length ≤ LL)) (WE (st ε1 i (some (.lst true (xs ++ ys)))) P.nx) := h
      obtain ⟨h2, h3⟩ := h
      rw [WE_eq] at h3
      exact ⟨xs, ys, lsO_iff.mp h1, ⟨o, rfl⟩, of_decide_eq_true h2, h3⟩
  have e2 : (fun t ε1 => ∃ xs ys, gt ε1 i = some (.lst true xs) ∧ (∃ o, t = .lst o ys) ∧ xs.length + ys.length ≤ LL ∧ P.nx (st ε1 i (some (.lst true (xs ++ ys))))) = fun t ε1 => WV (lsO (gt ε1 i)) fun xs => WL t fun ys => WG (decide (xs.length + ys.length ≤ LL)) (WE (st ε1 i (some (.lst true (xs ++ ys)))) P.nx) := funext fun t => funext fun ε1 => this t ε1
  rw [e2]
theorem w_popi' (i : Nat) (e : E) (Q : T → Env → Prop) : WR (ev C (.popi i e) ε) Q = WG (isL (gt ε i)) (WR (ev C e ε) fun k ε1 => WI k fun n => WV (lsO (gt ε1 i)) fun xs => WV (ixOf xs.length n) fun j => WV xs[j]? fun x => WE (st ε1 i (some (.lst true (xs.eraseIdx j)))) fun ε' => Q x ε') := by
  rw [w_popi]
  have : ∀ (k : T) (ε1 : Env), (∃ xs n j x, gt ε1 i = some (.lst true xs) ∧ k = .int n ∧ ixOf xs.length n = some j ∧ xs[j]? = some x ∧ Q x (st ε1 i (some (.lst true (xs.eraseIdx j))))) = WI k fun n => WV (lsO (gt ε1 i)) fun xs => WV (ixOf xs.length n) fun j => WV xs[j]? fun x => WE (st ε1 i (some (.lst true (xs.eraseIdx j)))) fun ε' => Q x ε' := fun k ε1 => by
    apply propext
    constructor
    · rintro ⟨xs, n, j, x, h1, rfl, h2, h3, h4⟩
      show WV _ _
      rw [WV_iff]; refine ⟨xs, lsO_iff.mpr h1, ?_⟩
      rw [WV_iff]; refine ⟨j, h2, ?_⟩
      rw [WV_iff]; refine ⟨x, h3, ?_⟩
      rw [WE_eq]; exact h4
    · intro h
      cases k <;> first | exact h.elim | skip
      rename_i n
      have h : WV (lsO (gt ε1 i)) fun xs => WV (ixOf xs.length n) fun j => WV xs[j]? fun x => WE (st ε1 i (some (.lst true (xs.eraseIdx j)))) fun ε' => Q x ε' := h
      rw [WV_iff] at h; obtain ⟨xs, h1, h⟩ := h
      rw [WV_iff] at h; obtain ⟨j, h2, h⟩ := h
      rw [WV_iff] at h; obtain ⟨x, h3, h⟩ := h
      rw [WE_eq] at h
      exact ⟨xs, n, j, x, lsO_iff.mp h1, rfl, h2, h3, h⟩
  have e2 : (fun k ε1 => ∃ xs n j x, gt ε1 i = some (.lst true xs) ∧ k = .int n ∧ ixOf xs.length n = some j ∧ xs[j]? = some x ∧ Q x (st ε1 i (some (.lst true (xs.eraseIdx j))))) = fun k ε1 => WI k fun n => WV (lsO (gt ε1 i)) fun xs => WV (ixOf xs.length n) fun j => WV xs[j]? fun x => WE (st ε1 i (some (.lst true (xs.eraseIdx j)))) fun ε' => Q x ε' := funext fun k => funext fun ε1 => this k ε1
  rw [e2]
theorem o_add_tt (sx sy : Bool) (xs ys : List T) (Q : T → Prop) : WV (op2 .add sx sy (.tup xs) (.tup ys)) Q = WG ((!sx || shL xs) && (!sy || shL ys) && decide (xs.length + ys.length ≤ LL)) (Q (.tup (xs ++ ys))) := by
  show WV ((cat sx sy xs ys).map .tup) Q = _
  rw [WV_map, cat, WV_if]
  simp
theorem s_drop (e : E) : WO (evS C (.drop e) ε) P = WR (ev C e ε) fun _ ε1 => P.nx ε1 := by
  show WO (obnd (ev C e ε) fun _ ε1 => .nx ε1) P = _
  rw [WO_obnd]; rfl
theorem s_iff (c : E) (a b : Ss) : WO (evS C (.iff c a b) ε) P = WR (cnd c (ev C c) ε) fun d ε1 => WB d (WO (evSs C a ε1) P) (WO (evSs C b ε1) P) := by
  show WO (obnd (cnd c (ev C c) ε) fun d ε1 => if d then evSs C a ε1 else evSs C b ε1) P = _
  rw [WO_obnd]; refine WR_ext fun d ε1 => ?_; cases d <;> rfl
theorem s_for (tg : Tg) (it : It) (b : Ss) : WO (evS C (.for tg it b) ε) P = WR (evi C it ε) fun xs ε1 => WO (forL tg (evSs C b) xs ε1) P := by
  show WO (obnd (evi C it ε) fun xs ε1 => forL tg (evSs C b) xs ε1) P = _
  rw [WO_obnd]
theorem s_whl (c : E) (b : Ss) : WO (evS C (.whl c b) ε) P = WO (whL (cnd c (ev C c)) (evSs C b) C.fuel ε) P := nr rfl
/-! defs -/
@[irreducible] def rn : Pg → Nat → Fns := run
theorem rn_run : rn = run := by unfold rn; rfl
theorem WF_run {P : Pg} {k f : Nat} {ts : List T} {d : Fn} {Q : T → List (Option T) → Prop} (h : P.fns[f]? = some d) (hl : ts.length = d.np)
    (H : WO (evSs ⟨rn P k, P.glb, P.fuel, P.rp⟩ d.body (start d ts)) ⟨fun ε => Q .non (outsOf 0 d.keep ε), fun t ε => Q t (outsOf 0 d.keep ε), fun _ => False, fun _ => False⟩) : WF (rn P (k + 1) f ts) Q := by
  rw [rn_run] at H ⊢
  have e : run P (k + 1) f ts = fin d.keep (evSs ⟨run P k, P.glb, P.fuel, P.rp⟩ d.body (start d ts)) := by
    show (match P.fns[f]? with
      | some d => if ts.length = d.np then fin d.keep (evSs ⟨run P k, P.glb, P.fuel, P.rp⟩ d.body (start d ts)) else .no
      | none => .no) = _
    rw [h]; simp only [hl, if_true]
  rw [e]
  revert H
  cases evSs ⟨run P k, P.glb, P.fuel, P.rp⟩ d.body (start d ts) <;> exact id
theorem WF_mono {r : FR} {Q Q' : T → List (Option T) → Prop} (h : WF r Q) (m : ∀ t o, Q t o → Q' t o) : WF r Q' := by
  cases r with
  | ok t o => exact m _ _ h
  | ex _ => exact h
  | no => exact h
theorem WR_mono {r : R α} {Q Q' : α → Env → Prop} (h : WR r Q) (m : ∀ t o, Q t o → Q' t o) : WR r Q' := by
  cases r with
  | ok t o => exact m _ _ h
  | ex _ _ => exact h
  | no => exact h
theorem WO_mono {r : O} {P P' : Po} (h : WO r P) (m1 : ∀ ε, P.nx ε → P'.nx ε) (m2 : ∀ t ε, P.ret t ε → P'.ret t ε) (m3 : ∀ ε, P.brk ε → P'.brk ε) (m4 : ∀ ε, P.ct ε → P'.ct ε) : WO r P' := by
  cases r with
  | nx _ => exact m1 _ h
  | ret _ _ => exact m2 _ _ h
  | brk _ => exact m3 _ h
  | ct _ => exact m4 _ h
  | ex _ _ => exact h
  | no => exact h
theorem WF_ex {r : FR} {t : T} (h : WF r fun u _ => u = t) : ∃ outs, r = .ok t outs := by
  cases r with
  | ok u o => cases (show u = t from h); exact ⟨o, rfl⟩
  | ex _ => exact h.elim
  | no => exact h.elim
/-! loops -/
theorem for_inv {tg : Tg} {body : Env → O} {P : Po} (I : Nat → Env → Prop) (xs : List T)
    (hs : ∀ i x ε, xs[i]? = some x → I i ε → Blk (WV (asg tg x ε) fun ε1 => WO (body ε1) ⟨I (i + 1), P.ret, P.nx, I (i + 1)⟩))
    (hq : ∀ ε, I xs.length ε → P.nx ε) (h0 : I 0 ε) : WO (forL tg body xs ε) P := by
  suffices H : ∀ (ys zs : List T) (ε : Env), xs = zs ++ ys → I zs.length ε → WO (forL tg body ys ε) P from H xs [] ε rfl h0
  intro ys
  induction ys with
  | nil =>
    intro zs ε e hi
    rw [List.append_nil] at e; subst e
    exact hq ε hi
  | cons y ys ih =>
    intro zs ε e hi
    have h1 := hs zs.length y ε (by rw [e]; simp) hi
    rw [Blk_eq] at h1
    unfold forL
    cases ha : asg tg y ε with
    | none => rw [ha] at h1; exact h1.elim
    | some ε1 =>
      rw [ha, WV_some] at h1
      have h2 : ∀ ε2, I (zs.length + 1) ε2 → WO (forL tg body ys ε2) P := fun ε2 h => ih (zs ++ [y]) ε2 (by rw [e]; simp) (by rw [List.length_append]; exact h)
      revert h1
      simp only []
      cases body ε1 with
      | nx ε2 => exact h2 ε2
      | ct ε2 => exact h2 ε2
      | brk ε2 => exact id
      | ret t ε2 => exact id
      | ex _ _ => exact id
      | no => exact id
theorem for_brk {tg : Tg} {body : Env → O} {P : Po} (I : Nat → Env → Prop) (J : Env → Prop) (xs : List T)
    (hs : ∀ i x ε, xs[i]? = some x → I i ε → Blk (WV (asg tg x ε) fun ε1 => WO (body ε1) ⟨I (i + 1), P.ret, J, I (i + 1)⟩))
    (hj : ∀ ε, I xs.length ε → J ε) (hq : ∀ ε, J ε → P.nx ε) (h0 : I 0 ε) : WO (forL tg body xs ε) P :=
  WO_mono (P := ⟨J, P.ret, P.brk, P.ct⟩) (for_inv (P := ⟨J, P.ret, P.brk, P.ct⟩) I xs hs hj h0) hq (fun _ _ h => h) (fun _ h => h) (fun _ h => h)
theorem lc_inv {tg : Tg} {own : List Nat} {cs : Env → R Bool} {e : Env → R T} {Q : List T → Env → Prop} (I : Nat → List T → Env → Prop) (xs : List T)
    (hs : ∀ i x acc ε, xs[i]? = some x → I i acc ε → Blk (WV (asg tg x ε) fun ε1 => WR (cs ε1) fun b ε2 => WB b (WR (e ε2) fun t ε3 => I (i + 1) (acc ++ [t]) (wipe ε3 own)) (I (i + 1) acc (wipe ε2 own))))
    (hq : ∀ acc ε, I xs.length acc ε → Q acc ε) {acc : List T} (h0 : I 0 acc ε) : WR (lcL tg own cs e xs acc ε) Q := by
  suffices H : ∀ (ys zs acc : List T) (ε : Env), xs = zs ++ ys → I zs.length acc ε → WR (lcL tg own cs e ys acc ε) Q from H xs [] acc ε rfl h0
  intro ys
  induction ys with
  | nil =>
    intro zs acc ε e hi
    rw [List.append_nil] at e; subst e
    exact hq acc ε hi
  | cons y ys ih =>
    intro zs acc ε e' hi
    have h1 := hs zs.length y acc ε (by rw [e']; simp) hi
    rw [Blk_eq] at h1
    unfold lcL
    cases ha : asg tg y ε with
    | none => rw [ha] at h1; exact h1.elim
    | some ε1 =>
      rw [ha, WV_some] at h1
      simp only []
      rw [WR_bnd]
      refine WR_mono h1 fun b ε2 h => ?_
      have ih' := fun acc ε2 => ih (zs ++ [y]) acc ε2 (by rw [e']; simp)
      rw [List.length_append] at ih'
      cases b with
      | false => exact ih' _ _ h
      | true =>
        simp only [if_true]
        rw [WR_bnd]
        exact WR_mono h fun t ε3 h => ih' _ _ h
/-- a comprehension that leaves all as it was, one item for each -/
theorem lc_map {tg : Tg} {own : List Nat} {cs : Env → R Bool} {e : Env → R T} {Q : List T → Env → Prop} (g : T → T) (xs : List T)
    (hs : ∀ x ∈ xs, Blk (WV (asg tg x ε) fun ε1 => WR (cs ε1) fun b ε2 => b = true ∧ WR (e ε2) fun t ε3 => t = g x ∧ wipe ε3 own = ε))
    (hq : Q (xs.map g) ε) : WR (lcL tg own cs e xs [] ε) Q := by
  refine lc_inv (fun i acc ε' => acc = (xs.take i).map g ∧ ε' = ε) xs ?_ ?_ ⟨rfl, rfl⟩
  · rintro i x acc ε' hx ⟨rfl, rfl⟩
    have := hs x (List.mem_of_getElem? hx)
    rw [Blk_eq] at this ⊢
    cases ha : asg tg x ε' with
    | none => rw [ha] at this; exact this.elim
    | some ε1 =>
      rw [ha, WV_some] at this
      rw [WV_some]
      refine WR_mono this ?_
      rintro b ε2 ⟨rfl, h⟩
      rw [WB_true]
      refine WR_mono h ?_
      rintro t ε3 ⟨rfl, h2⟩
      refine ⟨?_, h2⟩
      rw [List.take_add_one, hx]
      simp
  · rintro acc ε' ⟨rfl, rfl⟩
    rw [List.take_length]; exact hq
/-- .. with a test -/
theorem lc_filter {tg : Tg} {own : List Nat} {cs : Env → R Bool} {e : Env → R T} {Q : List T → Env → Prop} (p : T → Bool) (g : T → T) (xs : List T)
    (hs : ∀ x ∈ xs, Blk (WV (asg tg x ε) fun ε1 => WR (cs ε1) fun b ε2 => b = p x ∧ (p x = true → WR (e ε2) fun t ε3 => t = g x ∧ wipe ε3 own = ε) ∧ (p x = false → wipe ε2 own = ε)))
    (hq : Q ((xs.filter p).map g) ε) : WR (lcL tg own cs e xs [] ε) Q := by
  refine lc_inv (fun i acc ε' => acc = ((xs.take i).filter p).map g ∧ ε' = ε) xs ?_ ?_ ⟨rfl, rfl⟩
  · rintro i x acc ε' hx ⟨rfl, rfl⟩
    have := hs x (List.mem_of_getElem? hx)
    rw [Blk_eq] at this ⊢
    cases ha : asg tg x ε' with
    | none => rw [ha] at this; exact this.elim
    | some ε1 =>
      rw [ha, WV_some] at this
      rw [WV_some]
      refine WR_mono this ?_
      rintro b ε2 ⟨rfl, h1, h2⟩
      cases hp : p x with
      | true =>
        rw [WB_true]
        refine WR_mono (h1 hp) ?_
        rintro t ε3 ⟨rfl, h3⟩
        refine ⟨?_, h3⟩
        rw [List.take_add_one, hx]
        simp [hp]
      | false =>
        rw [WB_false]
        refine ⟨?_, h2 hp⟩
        rw [List.take_add_one, hx]
        simp [hp]
  · rintro acc ε' ⟨rfl, rfl⟩
    rw [List.take_length]; exact hq
/-- a comprehension that leaves all as it was, one item for each, told by its place -/
theorem lc_idx {tg : Tg} {own : List Nat} {cs : Env → R Bool} {e : Env → R T} {Q : List T → Env → Prop} (g : Nat → T) (xs : List T)
    (hs : ∀ i x, xs[i]? = some x → Blk (WV (asg tg x ε) fun ε1 => WR (cs ε1) fun b ε2 => b = true ∧ WR (e ε2) fun t ε3 => t = g i ∧ wipe ε3 own = ε))
    (hq : Q ((List.range xs.length).map g) ε) : WR (lcL tg own cs e xs [] ε) Q := by
  refine lc_inv (fun i acc ε' => acc = (List.range i).map g ∧ ε' = ε) xs ?_ ?_ ⟨rfl, rfl⟩
  · rintro i x acc ε' hx ⟨rfl, rfl⟩
    have := hs i x hx
    rw [Blk_eq] at this ⊢
    cases ha : asg tg x ε' with
    | none => rw [ha] at this; exact this.elim
    | some ε1 =>
      rw [ha, WV_some] at this
      rw [WV_some]
      refine WR_mono this ?_
      rintro b ε2 ⟨rfl, h⟩
      rw [WB_true]
      refine WR_mono h ?_
      rintro t ε3 ⟨rfl, h2⟩
      refine ⟨?_, h2⟩
      rw [List.range_succ]
      simp
  · rintro acc ε' ⟨rfl, rfl⟩
    exact hq
/-! the parts of what is reckoned -/
theorem o_int (o : Op2) (sx sy : Bool) (i j : Int) : op2 o sx sy (.int i) (.int j) = opI o i j := by cases o <;> rfl
theorem o_add_ll (o p : Bool) (xs ys : List T) (Q : T → Prop) : WV (op2 .add false false (.lst o xs) (.lst p ys)) Q = WG (decide (xs.length + ys.length ≤ LL)) (Q (.lst true (xs ++ ys))) := by
  show WV ((cat false false xs ys).map (.lst true)) Q = _
  rw [WV_map, cat, WV_if]
  simp
theorem o_add_llg (sx sy o p : Bool) (xs ys : List T) (Q : T → Prop) : WV (op2 .add sx sy (.lst o xs) (.lst p ys)) Q = WG ((!sx || shL xs) && (!sy || shL ys) && decide (xs.length + ys.length ≤ LL)) (Q (.lst true (xs ++ ys))) := by
  show WV ((cat sx sy xs ys).map (.lst true)) Q = _
  rw [WV_map, cat, WV_if]
  simp
theorem o_mul_ln (sx sy o : Bool) (xs : List T) (n : Int) (Q : T → Prop) : WV (op2 .mul sx sy (.lst o xs) (.int n)) Q = WG (shL xs && decide (n < 2 ^ 62) && decide (-(2 ^ 62) < n) && decide (xs.length * n.toNat ≤ LL)) (Q (.lst true (List.replicate n.toNat xs).flatten)) := by
  show WV ((rep xs n).map (.lst true)) Q = _
  rw [WV_map, rep, WV_if]
  simp
theorem o_mul_tn (sx sy : Bool) (xs : List T) (n : Int) (Q : T → Prop) : WV (op2 .mul sx sy (.tup xs) (.int n)) Q = WG (shL xs && decide (n < 2 ^ 62) && decide (-(2 ^ 62) < n) && decide (xs.length * n.toNat ≤ LL)) (Q (.tup (List.replicate n.toNat xs).flatten)) := by
  show WV ((rep xs n).map .tup) Q = _
  rw [WV_map, rep, WV_if]
  simp
theorem oi_add (i j : Int) : opI .add i j = some (.int (i + j)) := nr rfl
theorem oi_sub (i j : Int) : opI .sub i j = some (.int (i - j)) := nr rfl
theorem oi_mul (i j : Int) (Q : T → Prop) : WV (opI .mul i j) Q = WG (mulOk i j) (Q (.int (i * j))) := by
  show WV (if mulOk i j then some (T.int (i * j)) else none) Q = _
  rw [WV_if]; simp
theorem oi_fdiv (i j : Int) (Q : T → Prop) : WV (opI .fdiv i j) Q = WG (divOk i j) (Q (.int (i.fdiv j))) := by
  show WV (if divOk i j then some (T.int (i.fdiv j)) else none) Q = _
  rw [WV_if]; simp
theorem oi_mod (i j : Int) (Q : T → Prop) : WV (opI .mod i j) Q = WG (!decide (j = 0)) (Q (.int (i.fmod j))) := by
  show WV (if j = 0 then none else some (T.int (i.fmod j))) Q = _
  by_cases h : j = 0 <;> simp [WV, WG, h]
theorem oi_pow (i j : Int) (Q : T → Prop) : WV (opI .pow i j) Q = WG (powOk i j) (Q (.int (i ^ j.toNat))) := by
  show WV (if powOk i j then some (T.int (i ^ j.toNat)) else none) Q = _
  rw [WV_if]; simp
theorem oi_shl (i j : Int) (Q : T → Prop) : WV (opI .shl i j) Q = WG (shlOk i j) (Q (.int (i * 2 ^ j.toNat))) := by
  show WV (if shlOk i j then some (T.int (i * 2 ^ j.toNat)) else none) Q = _
  rw [WV_if]; simp
theorem oi_shr (i j : Int) (Q : T → Prop) : WV (opI .shr i j) Q = WG (decide (0 ≤ j)) (Q (.int (i.fdiv (2 ^ j.toNat)))) := by
  show WV (if 0 ≤ j then some (T.int (i.fdiv (2 ^ j.toNat))) else none) Q = _
  rw [WV_if]
theorem oi_band (i j : Int) (Q : T → Prop) : WV (opI .band i j) Q = WG (decide (0 ≤ i ∧ 0 ≤ j)) (Q (.int (i.toNat &&& j.toNat : Nat))) := by
  show WV (if 0 ≤ i ∧ 0 ≤ j then some (T.int (i.toNat &&& j.toNat : Nat)) else none) Q = _
  rw [WV_if]
theorem oi_bor (i j : Int) (Q : T → Prop) : WV (opI .bor i j) Q = WG (decide (0 ≤ i ∧ 0 ≤ j)) (Q (.int (i.toNat ||| j.toNat : Nat))) := by
  show WV (if 0 ≤ i ∧ 0 ≤ j then some (T.int (i.toNat ||| j.toNat : Nat)) else none) Q = _
  rw [WV_if]
theorem oi_bxor (i j : Int) (Q : T → Prop) : WV (opI .bxor i j) Q = WG (decide (0 ≤ i ∧ 0 ≤ j)) (Q (.int (i.toNat ^^^ j.toNat : Nat))) := by
  show WV (if 0 ≤ i ∧ 0 ≤ j then some (T.int (i.toNat ^^^ j.toNat : Nat)) else none) Q = _
  rw [WV_if]
theorem c_lt (i j : Int) : cm .lt (.int i) (.int j) = some (decide (i < j)) := nr rfl
theorem c_le (i j : Int) : cm .le (.int i) (.int j) = some (decide (i ≤ j)) := nr rfl
theorem c_gt (i j : Int) : cm .gt (.int i) (.int j) = some (decide (j < i)) := nr rfl
theorem c_ge (i j : Int) : cm .ge (.int i) (.int j) = some (decide (j ≤ i)) := nr rfl
theorem c_eq (i j : Int) : cm .eq (.int i) (.int j) = some (decide (i = j)) := nr rfl
theorem c_ne (i j : Int) : cm .ne (.int i) (.int j) = some (!decide (i = j)) := nr rfl
theorem c_is_non (t : T) : cm .is t .non = some (match t with | .non => true | _ => false) := nr rfl
theorem c_isnot_non (t : T) : cm .isnot t .non = some (match t with | .non => false | _ => true) := nr rfl
theorem c_is_bl (t : T) (c : Bool) : cm .is t (.bl c) = some (match t with | .bl d => d == c | _ => false) := nr rfl
theorem tru_bl (b : Bool) : tru (.bl b) = some b := nr rfl
theorem tru_int (i : Int) : tru (.int i) = some (decide (i ≠ 0)) := nr rfl
theorem tru_tup (xs : List T) : tru (.tup xs) = some (!xs.isEmpty) := nr rfl
theorem tru_lst (o : Bool) (xs : List T) : tru (.lst o xs) = some (!xs.isEmpty) := nr rfl
theorem WV_rng (lo hi : Int) (Q : List T → Prop) : WV (rng lo hi) Q = WG (rngOk lo hi) (Q (rngL lo (hi - lo).toNat 1)) := by
  show WV (if rngOk lo hi then some (rngL lo (hi - lo).toNat 1) else none) Q = _
  rw [WV_if]; simp
theorem WV_rngD (lo hi : Int) (Q : List T → Prop) : WV (rngD lo hi) Q = WG (rngOk hi lo) (Q (rngL lo (lo - hi).toNat (-1))) := by
  show WV (if rngOk hi lo then some (rngL lo (lo - hi).toNat (-1)) else none) Q = _
  rw [WV_if]; simp
theorem WV_asg (i : Nat) (t : T) (Q : Env → Prop) : WV (asg (.s i) t ε) Q = WG (decide (i < ε.length)) (WE (st ε i (some t)) Q) := by
  rw [asg, WV_if, WE_eq]
theorem WV_asgt (ts : List Tg) (xs : List T) (Q : Env → Prop) : WV (asg (.t ts) (.tup xs) ε) Q = WV (asgs ts xs ε) Q := by rw [asg]
theorem WV_asgs0 (Q : Env → Prop) : WV (asgs [] [] ε) Q = Q ε := by rw [asgs]; rfl
theorem WV_asgs (g : Tg) (gs : List Tg) (x : T) (xs : List T) (Q : Env → Prop) : WV (asgs (g :: gs) (x :: xs) ε) Q = WV (asg g x ε) fun ε1 => WV (asgs gs xs ε1) Q := by
  rw [asgs]; cases asg g x ε <;> rfl
theorem WV_set0 (Q : Env → Prop) : WV (setAll [] [] ε) Q = Q ε := nr rfl
theorem WV_set (i : Nat) (is : List Nat) (t : T) (ts : List T) (Q : Env → Prop) : WV (setAll (i :: is) (t :: ts) ε) Q = WG (decide (i < ε.length)) (WE (st ε i (some t)) fun ε' => WV (setAll is ts ε') Q) := by
  rw [setAll]; by_cases h : i < ε.length <;> simp [WV, WG, WE, h]
theorem gt_zero (x : Option T) (r : Env) : gt (x :: r) 0 = x := nr rfl
theorem gt_succ (x : Option T) (r : Env) (n : Nat) : gt (x :: r) (n + 1) = gt r n := nr rfl
theorem st_zero (x : Option T) (r : Env) (v : Option T) : st (x :: r) 0 v = v :: r := nr rfl
theorem st_succ (x : Option T) (r : Env) (n : Nat) (v : Option T) : st (x :: r) (n + 1) v = x :: st r n v := nr rfl
theorem mv_t (i : Nat) (t : T) : mv ε i t true = ε := nr rfl
theorem mv_f (i : Nat) (t : T) : mv ε i t false = st ε i none := nr rfl
theorem fz_t (i : Nat) (t : T) : fz ε i t true = ε := nr rfl
theorem fz_f (i : Nat) (t : T) : fz ε i t false = st ε i (some t) := nr rfl
theorem gv_t (i : Nat) (t : Option T) : gv ε i t true = ε := nr rfl
theorem gv_f (i : Nat) (t : Option T) : gv ε i t false = st ε i t := nr rfl
end Tq
end

section
/-! TW2: values. -/
namespace Tq
open PySem
theorem shL_ofInts (xs : List Int) : shL (ofInts xs) = true := by
  induction xs with
  | nil => rfl
  | cons x xs ih => exact ih
theorem frzL_ofInts (xs : List Int) : frzL (ofInts xs) = ofInts xs := frzL_sh _ (shL_ofInts xs)
theorem ixOf_nat {n k : Nat} (h : k < n) : ixOf n (k : Int) = some k := by
  rw [ixOf, if_pos (by omega), if_pos (by omega)]; rfl
theorem getI_l (o : Bool) (xs : List T) (k : Nat) (h : k < xs.length) : getI (.lst o xs) (.int (k : Int)) = some xs[k] := by
  rw [getI]; simp only [ixOf_nat h]; simp
theorem getI_t (xs : List T) (k : Nat) (h : k < xs.length) : getI (.tup xs) (.int (k : Int)) = some xs[k] := by
  rw [getI]; simp only [ixOf_nat h]; simp
theorem setI_l (xs : List T) (k : Nat) (h : k < xs.length) (v : T) : setI (.lst true xs) (.int (k : Int)) v = some (.lst true (xs.set k v)) := by
  rw [setI]; simp only [ixOf_nat h]; simp
theorem getI_l0 (o : Bool) (x : T) (xs : List T) : getI (.lst o (x :: xs)) (.int 0) = some x := getI_l o _ 0 (by simp)
theorem getI_l1 (o : Bool) (x y : T) (xs : List T) : getI (.lst o (x :: y :: xs)) (.int 1) = some y := getI_l o _ 1 (by simp)
theorem getI_l2 (o : Bool) (x y z : T) (xs : List T) : getI (.lst o (x :: y :: z :: xs)) (.int 2) = some z := getI_l o _ 2 (by simp)
theorem getI_t0 (x : T) (xs : List T) : getI (.tup (x :: xs)) (.int 0) = some x := getI_t _ 0 (by simp)
theorem getI_t1 (x y : T) (xs : List T) : getI (.tup (x :: y :: xs)) (.int 1) = some y := getI_t _ 1 (by simp)
theorem getI_t2 (x y z : T) (xs : List T) : getI (.tup (x :: y :: z :: xs)) (.int 2) = some z := getI_t _ 2 (by simp)
theorem setI_l0 (x v : T) (xs : List T) : setI (.lst true (x :: xs)) (.int 0) v = some (.lst true (v :: xs)) := setI_l _ 0 (by simp) v
theorem setI_l1 (x y v : T) (xs : List T) : setI (.lst true (x :: y :: xs)) (.int 1) v = some (.lst true (x :: v :: xs)) := setI_l _ 1 (by simp) v
theorem setI_l2 (x y z v : T) (xs : List T) : setI (.lst true (x :: y :: z :: xs)) (.int 2) v = some (.lst true (x :: y :: v :: xs)) := setI_l _ 2 (by simp) v
theorem itm_l0 (x : T) (xs : List T) : itm (some (.lst true (x :: xs))) (.int 0) = some (x :: xs, 0, x) := by
  rw [itm]; simp only [show ixOf (x :: xs).length 0 = some 0 from ixOf_nat (k := 0) (by simp)]; rfl
theorem dpL_ofInts (n : Nat) (xs : List Int) : dpL n (ofInts xs) = true := by
  induction xs with
  | nil => rw [ofInts, List.map_nil, dpL]
  | cons x xs ih => rw [ofInts, List.map_cons, dpL, T.dp]; exact ih
theorem gNil_l (ne o : Bool) (xs : List Int) : gNil ne (.lst o (ofInts xs)) = some (.bl (xs.isEmpty != ne)) := by
  have : (ofInts xs).isEmpty = xs.isEmpty := by cases xs <;> rfl
  rw [gNil, dpL_ofInts, if_pos rfl, this]
theorem perm0 {α : Type} (xs : List α) : perm xs [] = some [] := nr rfl
theorem perm1 {α : Type} (xs : List α) (i : Nat) (r : List Nat) : perm xs (i :: r) = (xs[i]?).bind fun x => (perm xs r).map fun ys => x :: ys := by
  rw [perm]; cases xs[i]? <;> first | rfl | skip
  cases perm xs r <;> rfl
theorem b_len_t {C : Cn} (xs : List T) : biF C .len [.tup xs] = some (.int (xs.length : Int)) := nr rfl
theorem b_len_l {C : Cn} (o : Bool) (xs : List T) : biF C .len [.lst o xs] = some (.int (xs.length : Int)) := nr rfl
theorem b_abs {C : Cn} (i : Int) : biF C .abs [.int i] = some (.int i.natAbs) := nr rfl
theorem b_list_l {C : Cn} (o : Bool) (xs : List T) (Q : T → Prop) : WV (biF C .list [.lst o xs]) Q = WG (shL xs) (Q (.lst true xs)) := by
  show WV (if shL xs then some (T.lst true xs) else none) Q = _
  rw [WV_if]; simp
theorem b_tuple_l {C : Cn} (o : Bool) (xs : List T) (Q : T → Prop) : WV (biF C .tuple [.lst o xs]) Q = WG (shL xs) (Q (.tup xs)) := by
  show WV (if shL xs then some (T.tup xs) else none) Q = _
  rw [WV_if]; simp
theorem b_min2 {C : Cn} (i j : Int) : biF C .min2 [.int i, .int j] = some (.int (if j < i then j else i)) := nr rfl
theorem b_max2 {C : Cn} (i j : Int) : biF C .max2 [.int i, .int j] = some (.int (if i < j then j else i)) := nr rfl
theorem b_int {C : Cn} (i : Int) : biF C .int [.int i] = some (.int i) := nr rfl
theorem b_gcd {C : Cn} (i j : Int) : biF C .gcd [.int i, .int j] = some (.int (Int.gcd i j)) := nr rfl
theorem asSeq_t (xs : List T) : asSeq true xs = .tup xs := nr rfl
theorem asSeq_f (xs : List T) : asSeq false xs = .lst true xs := nr rfl
theorem itemsOf_t (xs : List T) : itemsOf (.tup xs) = some (frzL xs) := nr rfl
theorem itemsOf_l (o : Bool) (xs : List T) : itemsOf (.lst o xs) = some (frzL xs) := nr rfl
theorem seqF_t (xs : List T) : seqF (.tup xs) = some (frzL xs) := nr rfl
theorem seqF_l (o : Bool) (xs : List T) : seqF (.lst o xs) = some (frzL xs) := nr rfl
theorem zipT_t (xs ys : List T) : zipT (.tup xs) (.tup ys) = some (zipL (frzL xs) (frzL ys)) := nr rfl
theorem zipT_l (o p : Bool) (xs ys : List T) : zipT (.lst o xs) (.lst p ys) = some (zipL (frzL xs) (frzL ys)) := nr rfl
/-- isinstance by the kind -/
theorem isTy_s (t : T) (y : Ty) : isTy t y = match t, y with
  | .bl _, .int => true
  | .bl _, .bool => true
  | .int _, .int => true
  | .str _, .str => true
  | .tup _, .tuple => true
  | .lst _ _, .list => true
  | .dic _ _, .dict => true
  | _, _ => false := by
  cases t <;> cases y <;> rfl
theorem rngOk_n {n : Nat} (h : n ≤ 100000) : rngOk 0 (n : Int) = true := by
  unfold rngOk LL
  simp only [Bool.and_eq_true, decide_eq_true_eq]
  omega
theorem rngOk_ab {a b : Int} (h : -100000 ≤ a) (h2 : a ≤ 100000) (h3 : -100000 ≤ b) (h4 : b ≤ 100000) : rngOk a b = true := by
  unfold rngOk LL
  simp only [Bool.and_eq_true, decide_eq_true_eq]
  omega
theorem rgLen (lo : Int) (n : Nat) (c : Int) : (rngL lo n c).length = n := by simp [rngL]
theorem rgLt {lo : Int} {n : Nat} {c : Int} {i : Nat} {x : T} (h : (rngL lo n c)[i]? = some x) : i < n := by
  have := List.getElem?_eq_some_iff.mp h
  obtain ⟨h, -⟩ := this
  rwa [rgLen] at h
theorem rgAt {lo : Int} {n : Nat} {c : Int} {i : Nat} {x : T} (h : (rngL lo n c)[i]? = some x) : i < n ∧ x = .int (lo + (i : Int) * c) := by
  have hl := rgLt h
  refine ⟨hl, ?_⟩
  rw [rngL, List.getElem?_map, List.getElem?_range hl] at h
  cases h; rfl
theorem bne_false_ (b : Bool) : (b != false) = b := by cases b <;> rfl
theorem WG_i {c : Bool} {A : Prop} (h1 : c = true) (h2 : A) : WG c A := ⟨h1, h2⟩
theorem WB_i {c : Bool} {A B : Prop} (h1 : c = true → A) (h2 : c = false → B) : WB c A B := by
  cases c
  · exact h2 rfl
  · exact h1 rfl
theorem WB_d {p : Prop} [Decidable p] {A B : Prop} (h1 : p → A) (h2 : ¬ p → B) : WB (decide p) A B :=
  WB_i (fun h => h1 (of_decide_eq_true h)) fun h => h2 (of_decide_eq_false h)
theorem WB_nd {p : Prop} [Decidable p] {A B : Prop} (h1 : ¬ p → A) (h2 : p → B) : WB (!decide p) A B :=
  WB_i (fun h => h1 (by simpa using h)) fun h => h2 (by simpa using h)
theorem mulOk_l {i j : Int} (h : -18446744073709551616 < i) (h' : i < 18446744073709551616) : mulOk i j = true := by
  have : i.natAbs < B1 := by unfold B1; omega
  simp [mulOk, this]
theorem mulOk_r {i j : Int} (h : -18446744073709551616 < j) (h' : j < 18446744073709551616) : mulOk i j = true := by
  have : j.natAbs < B1 := by unfold B1; omega
  simp [mulOk, this]
theorem divOk_l {i j : Int} (h : 0 < j) (h' : j < 1073741824) : divOk i j = true := by
  have : j.natAbs < 1073741824 := by omega
  have : j ≠ 0 := by omega
  unfold divOk
  rw [decide_eq_true (show j ≠ 0 by omega), decide_eq_true (show j.natAbs < 1073741824 by omega)]; simp
theorem divOk_p {i j : Int} (h : 0 < j) (h' : j < 2 ^ 8000) : divOk i j = true := by
  have h1 : j.natAbs < 2 ^ 8000 := by
    have : (j.natAbs : Int) < ((2 ^ 8000 : Nat) : Int) := by rw [Int.natCast_pow]; simpa [Int.natAbs_of_nonneg (Int.le_of_lt h)] using h'
    exact Int.ofNat_lt.mp this
  unfold divOk
  rw [decide_eq_true (show j ≠ 0 by omega), decide_eq_true h1]; simp
theorem divOk_n {i j : Int} (h : j ≠ 0) (h' : i.natAbs < j.natAbs * 2 ^ 4000) : divOk i j = true := by
  unfold divOk
  rw [decide_eq_true (show j ≠ 0 by omega), decide_eq_true h']; simp
set_option exponentiation.threshold 20000
theorem powOk_10_9 : powOk 10 9 = true := by decide +kernel
theorem mulOk_b {i j : Int} (h : i.natAbs < B2) (h' : j.natAbs < B2) : mulOk i j = true := by
  simp [mulOk, h, h']
theorem fmod_lt {a b : Int} (h : 0 < b) : 0 ≤ a.fmod b ∧ a.fmod b < b := ⟨Int.fmod_nonneg_of_pos a h, Int.fmod_lt_of_pos a h⟩
theorem fdiv_nn {a b : Int} (h : 0 ≤ a) (hb : 0 ≤ b) : 0 ≤ a.fdiv b := by
  rw [Int.fdiv_eq_ediv_of_nonneg a hb]; exact Int.ediv_nonneg h hb
def rt (q : Rat) : T := .tup [.int q.num, .int (q.den : Int)]
theorem rt_sh (q : Rat) : (rt q).sh = true := by unfold rt; rfl
theorem getI_rt0 (q : Rat) : getI (rt q) (.int 0) = some (.int q.num) := getI_t0 _ _
theorem getI_rt1 (q : Rat) : getI (rt q) (.int 1) = some (.int (q.den : Int)) := getI_t1 _ _ _
theorem frz_rt (q : Rat) : (rt q).frz = rt q := frz_sh _ (rt_sh q)
theorem isDi_rt (q : Rat) : isDi (some (rt q)) = false := rfl
end Tq
end

section
set_option maxRecDepth 20000
/-! TW3: fractions as pairs. -/
namespace Tq
open PySem
def Sz (N : Nat) (q : Rat) : Prop := q.num.natAbs < 2 ^ N ∧ q.den < 2 ^ N
theorem Sz.le {N M : Nat} {q : Rat} (h : Sz N q) (hn : N ≤ M) : Sz M q :=
  ⟨Nat.lt_of_lt_of_le h.1 (Nat.pow_le_pow_right (by decide) hn), Nat.lt_of_lt_of_le h.2 (Nat.pow_le_pow_right (by decide) hn)⟩
theorem mk_num (a : Int) (b : Nat) (hb : b ≠ 0) : (mkRat a b).num = a / (Nat.gcd a.natAbs b : Nat) := by
  rw [← Rat.normalize_eq_mkRat hb, Rat.normalize_eq hb]
theorem mk_den (a : Int) (b : Nat) (hb : b ≠ 0) : (mkRat a b).den = b / (Nat.gcd a.natAbs b) := by
  rw [← Rat.normalize_eq_mkRat hb, Rat.normalize_eq hb]
theorem natAbs_ediv_le (a : Int) (g : Nat) : (a / (g : Int)).natAbs ≤ a.natAbs := by
  rcases Nat.eq_zero_or_pos g with h | h
  · subst h; simp
  · rcases Int.le_total 0 a with ha | ha
    · have h1 : 0 ≤ a / (g : Int) := Int.ediv_nonneg ha (by omega)
      have h2 : a / (g : Int) ≤ a := Int.ediv_le_self _ ha
      omega
    · have h1 : a / (g : Int) ≤ 0 := by
        rcases Int.lt_or_eq_of_le ha with h3 | h3
        · exact Int.le_of_lt (Int.ediv_neg_of_neg_of_pos h3 (by omega))
        · rw [h3]; simp
      have h2 : a ≤ a / (g : Int) := by
        have := Int.le_ediv_of_mul_le (c := (g : Int)) (a := a) (b := a) (by omega) (by
          have : a * (g : Int) ≤ a * 1 := Int.mul_le_mul_of_nonpos_left ha (by omega)
          omega)
        exact this
      omega
theorem Sz.mk {N : Nat} {a : Int} {b : Nat} (hb : b ≠ 0) (h1 : a.natAbs < 2 ^ N) (h2 : b < 2 ^ N) : Sz N (mkRat a b) := by
  refine ⟨?_, ?_⟩
  · rw [mk_num a b hb]; exact Nat.lt_of_le_of_lt (natAbs_ediv_le _ _) h1
  · rw [mk_den a b hb]; exact Nat.lt_of_le_of_lt (Nat.div_le_self _ _) h2
theorem lt_mul_pow {a b N M : Nat} (h1 : a < 2 ^ N) (h2 : b < 2 ^ M) : a * b < 2 ^ (N + M) := by
  rw [Nat.pow_add]; exact Nat.mul_lt_mul'' h1 h2
theorem Sz.mul {N M : Nat} {p q : Rat} (h1 : Sz N p) (h2 : Sz M q) : Sz (N + M) (p * q) := by
  rw [Rat.mul_def']
  refine Sz.mk (Nat.mul_ne_zero p.den_nz q.den_nz) ?_ (lt_mul_pow h1.2 h2.2)
  rw [Int.natAbs_mul]; exact lt_mul_pow h1.1 h2.1
theorem Sz.add {N M : Nat} {p q : Rat} (h1 : Sz N p) (h2 : Sz M q) : Sz (N + M + 1) (p + q) := by
  rw [Rat.add_def']
  have e : (2 : Nat) ^ (N + M + 1) = 2 ^ (N + M) + 2 ^ (N + M) := by rw [Nat.pow_succ]; omega
  refine Sz.mk (Nat.mul_ne_zero p.den_nz q.den_nz) ?_ (Nat.lt_of_lt_of_le (lt_mul_pow h1.2 h2.2) (Nat.pow_le_pow_right (by decide) (by omega)))
  have a := lt_mul_pow h1.1 h2.2
  have b := lt_mul_pow h1.2 h2.1
  have c := Int.natAbs_add_le (p.num * q.den) (q.num * p.den)
  rw [Int.natAbs_mul, Int.natAbs_mul, Int.natAbs_natCast, Int.natAbs_natCast, Nat.mul_comm q.num.natAbs] at c
  omega
theorem Sz.num_pow {N : Nat} {a : Int} (h : a.natAbs < 2 ^ N) (h1 : 0 < N) : Sz N (a : Rat) := by
  refine ⟨?_, ?_⟩
  · rw [Rat.num_intCast]; exact h
  · rw [Rat.den_intCast]; exact Nat.one_lt_two_pow (by omega)
theorem mulOk_s {a b : Int} (h1 : a.natAbs < 2 ^ 7900) (h2 : b.natAbs < 2 ^ 7900) : mulOk a b = true := by
  have : (2 : Nat) ^ 7900 ≤ B2 := Nat.pow_le_pow_right (by decide) (by decide)
  exact mulOk_b (Nat.lt_of_lt_of_le h1 this) (Nat.lt_of_lt_of_le h2 this)
theorem pow_le_7900 {N : Nat} {a : Nat} (h : a < 2 ^ N) (hn : N ≤ 7900) : a < 2 ^ 7900 := Nat.lt_of_lt_of_le h (Nat.pow_le_pow_right (by decide) hn)
theorem gcd_cast (a : Int) (b : Nat) : Int.gcd a (b : Int) = Nat.gcd a.natAbs b := by rw [Int.gcd, Int.natAbs_natCast]
theorem rt_mk (a : Int) (b : Nat) (hb : b ≠ 0) : rt (mkRat a b) = .tup [.int (a.fdiv (Int.gcd a (b : Int) : Nat)), .int ((b : Int).fdiv (Int.gcd a (b : Int) : Nat))] := by
  unfold rt
  rw [gcd_cast, Int.fdiv_eq_ediv_of_nonneg _ (by omega), Int.fdiv_eq_ediv_of_nonneg _ (by omega), mk_num a b hb, mk_den a b hb, Int.natCast_ediv]
theorem divOk_g {i : Int} {g N : Nat} (h : 0 < g) (h2 : g < 2 ^ N) (hn : N ≤ 8000) : divOk i (g : Int) = true := by
  unfold divOk
  have h1 : (g : Int).natAbs < 2 ^ 8000 := by rw [Int.natAbs_natCast]; exact Nat.lt_of_lt_of_le h2 (Nat.pow_le_pow_right (by decide) hn)
  rw [decide_eq_true (show (g : Int) ≠ 0 by omega), decide_eq_true h1]; simp
end Tq
end

section
set_option maxRecDepth 20000
set_option exponentiation.threshold 500000
/-! TW4: numbers. -/
namespace Tq
open PySem
def up (a b : Nat) : Nat := (a + b - 1) / b
theorem up_neg (a b : Nat) (hb : 0 < b) : -((-(a : Int)).fdiv (b : Int)) = (up a b : Int) := by
  rw [Int.fdiv_eq_ediv_of_nonneg _ (by omega)]
  unfold up
  have h1 : ((a + b - 1) / b : Nat) = (a + (b - 1)) / b := by congr 1; omega
  rw [h1]
  have h3 : ((((a + (b - 1)) / b : Nat)) : Int) = ((a : Int) + (b - 1)) / b := by rw [Int.natCast_ediv]; congr 1; omega
  rw [h3]
  have hb' : (0 : Int) < b := by omega
  generalize hq : ((a : Int) + (b - 1)) / b = q
  have e1 := Int.mul_ediv_add_emod ((a : Int) + (b - 1)) b
  have e2 := Int.emod_nonneg ((a : Int) + (b - 1)) (show (b : Int) ≠ 0 by omega)
  have e3 := Int.emod_lt_of_pos ((a : Int) + (b - 1)) hb'
  rw [hq] at e1
  have : -(a : Int) = b * (-q) + ((b : Int) - 1 - ((a : Int) + (b - 1)) % b) := by
    rw [Int.mul_neg]; omega
  have h4 : (-(a : Int)) / b = -q := by
    rw [this, Int.mul_add_ediv_left _ _ (by omega), Int.ediv_eq_zero_of_lt (by omega) (by omega)]; omega
  rw [h4]; omega
theorem up_pos (a b : Nat) (hb : 0 < b) : ((a : Int) + b - 1).fdiv (b : Int) = (up a b : Int) := by
  rw [Int.fdiv_eq_ediv_of_nonneg _ (by omega)]
  unfold up
  rw [Int.natCast_ediv]; congr 1; omega
theorem fact_le : ∀ n, fact n ≤ n ^ n
  | 0 => by decide
  | n + 1 => by
    rw [fact, Nat.pow_succ, Nat.mul_comm]
    exact Nat.mul_le_mul (Nat.le_trans (fact_le n) (Nat.pow_le_pow_left (by omega) n)) (Nat.le_refl _)
theorem fact_pos : ∀ n, 0 < fact n
  | 0 => by decide
  | n + 1 => Nat.mul_pos (by omega) (fact_pos n)
theorem pow_le2 {a p m N : Nat} (h : a ≤ 2 ^ p) (hn : p * m ≤ N) : a ^ m ≤ 2 ^ N := by
  have h1 : a ^ m ≤ (2 ^ p) ^ m := Nat.pow_le_pow_left h m
  rw [← Nat.pow_mul] at h1
  exact Nat.le_trans h1 (Nat.pow_le_pow_right (by decide) hn)
theorem mul_le2 {a b N M K : Nat} (h1 : a ≤ 2 ^ N) (h2 : b ≤ 2 ^ M) (h : N + M ≤ K) : a * b ≤ 2 ^ K := by
  have := Nat.mul_le_mul h1 h2
  rw [← Nat.pow_add] at this
  exact Nat.le_trans this (Nat.pow_le_pow_right (by decide) h)
theorem lt_of_le2 {a N M : Nat} (h : a ≤ 2 ^ N) (hn : N < M) : a < 2 ^ M := Nat.lt_of_le_of_lt h (Nat.pow_lt_pow_right (by decide) hn)
theorem mulOk_le {a b : Nat} (h : a ≤ 2 ^ 200000) (h' : b ≤ 2 ^ 200000) : mulOk (a : Int) (b : Int) = true := by
  refine mulOk_b ?_ ?_
  · rw [Int.natAbs_natCast]; exact lt_of_le2 h (by decide)
  · rw [Int.natAbs_natCast]; exact lt_of_le2 h' (by decide)
theorem fact_le2 {n : Nat} (h : n ≤ 128) : fact n ≤ 2 ^ 896 :=
  Nat.le_trans (fact_le n) (pow_le2 (p := 7) (by omega) (by omega))
/-- Euclid's steps -/
theorem mod_half {a b : Nat} (h : b ≤ a) (hb : 0 < b) : 2 * (a % b) ≤ a := by
  have h1 := Nat.mod_lt a hb
  have h2 := Nat.div_add_mod a b
  have h3 : 1 ≤ a / b := (Nat.le_div_iff_mul_le hb).mpr (by omega)
  have h4 : b * 1 ≤ b * (a / b) := Nat.mul_le_mul_left b h3
  omega
theorem emod_nat (a b : Nat) : ((a : Int).fmod (b : Int)) = ((a % b : Nat) : Int) := by
  rw [Int.fmod_eq_emod_of_nonneg _ (by omega)]; omega
theorem fdiv_nat (a b : Nat) : ((a : Int).fdiv (b : Int)) = ((a / b : Nat) : Int) := by
  rw [Int.fdiv_eq_ediv_of_nonneg _ (by omega)]; rfl
theorem shr_nat (a b : Nat) : ((a : Int).fdiv (2 ^ b)) = ((a >>> b : Nat) : Int) := by
  have : (2 : Int) ^ b = ((2 ^ b : Nat) : Int) := by rw [Int.natCast_pow]; rfl
  rw [this, fdiv_nat, Nat.shiftRight_eq_div_pow]
theorem and_one (a : Nat) : ((a &&& 1 : Nat)) = a % 2 := Nat.and_one_is_mod a
theorem mod_pow_succ' (a i : Nat) : a % 2 ^ (i + 1) = a % 2 ^ i + 2 ^ i * (a / 2 ^ i % 2) := by
  rw [Nat.pow_succ, Nat.mod_mul]
theorem rt_natdiv (a b : Nat) (hb : b ≠ 0) : rt (mkRat (a : Int) b) = .tup [.int ((a / Nat.gcd a b : Nat) : Int), .int ((b / Nat.gcd a b : Nat) : Int)] := by
  unfold rt
  rw [mk_num _ _ hb, mk_den _ _ hb, Int.natAbs_natCast]; simp only [Int.natCast_ediv]
theorem mkRat_pow (a : Int) (b n : Nat) : (mkRat a b) ^ n = mkRat (a ^ n) (b ^ n) := by
  induction n with
  | zero => rw [Rat.pow_zero, Int.pow_zero, Nat.pow_zero]; rfl
  | succ n ih => rw [Rat.pow_succ, ih, Rat.mkRat_mul_mkRat, Int.pow_succ, Nat.pow_succ]
theorem rt_coprime (a b : Nat) (hb : b ≠ 0) (h : Nat.gcd a b = 1) : rt (mkRat (a : Int) b) = .tup [.int (a : Int), .int (b : Int)] := by
  rw [rt_natdiv a b hb, h, Nat.div_one, Nat.div_one]
theorem gcd_pred {k : Nat} (h : 0 < k) : Nat.gcd (k - 1) k = 1 := by
  obtain ⟨m, rfl⟩ : ∃ m, k = m + 1 := ⟨k - 1, by omega⟩
  simp
theorem Sz.pow_mk {a b N : Nat} (hb : b ≠ 0) (i M : Nat) (h1 : a ≤ 2 ^ N) (h2 : b ≤ 2 ^ N) (h : N * i < M) : Sz M ((mkRat (a : Int) b) ^ i) := by
  rw [mkRat_pow, ← Int.natCast_pow]
  refine Sz.mk (Nat.pos_iff_ne_zero.mp (Nat.pow_pos (by omega))) ?_ ?_
  · rw [Int.natAbs_natCast]; exact lt_of_le2 (pow_le2 h1 (Nat.le_refl _)) h
  · exact lt_of_le2 (pow_le2 h2 (Nat.le_refl _)) h
theorem num_pos' {y : Rat} (h : 0 < y) : 0 < y.num := by
  have := Rat.lt_iff 0 y
  simp at this
  grind
/-- rows of fractions -/
def rowT (n : Nat) (f : Nat → Rat) : List T := (List.range n).map fun j => rt (f j)
theorem rowT_len (n : Nat) (f : Nat → Rat) : (rowT n f).length = n := by simp [rowT]
theorem rowT_sh (n : Nat) (f : Nat → Rat) : shL (rowT n f) = true := by
  rw [shL_all, List.all_eq_true]
  intro x hx
  obtain ⟨j, -, rfl⟩ := List.mem_map.mp hx
  exact rt_sh _
theorem rowT_frz (n : Nat) (f : Nat → Rat) : frzL (rowT n f) = rowT n f := frzL_sh _ (rowT_sh n f)
theorem rowT_at {n : Nat} {f : Nat → Rat} {i : Nat} {x : T} (h : (rowT n f)[i]? = some x) : i < n ∧ x = rt (f i) := by
  have hl : i < n := by
    obtain ⟨h, -⟩ := List.getElem?_eq_some_iff.mp h
    rwa [rowT_len] at h
  refine ⟨hl, ?_⟩
  rw [rowT, List.getElem?_map, List.getElem?_range hl] at h
  cases h; rfl
theorem rowT_get (o : Bool) {n : Nat} (f : Nat → Rat) {j : Nat} (h : j < n) : getI (.lst o (rowT n f)) (.int (j : Int)) = some (rt (f j)) := by
  rw [getI_l o (rowT n f) j (by rw [rowT_len]; exact h)]
  simp [rowT]
theorem rowT_getT {n : Nat} (f : Nat → Rat) {j : Nat} (h : j < n) : getI (.tup (rowT n f)) (.int (j : Int)) = some (rt (f j)) := by
  rw [getI_t (rowT n f) j (by rw [rowT_len]; exact h)]
  simp [rowT]
theorem rowT_congr {n : Nat} {f g : Nat → Rat} (h : ∀ j, j < n → f j = g j) : rowT n f = rowT n g := by
  unfold rowT
  refine List.map_congr_left fun j hj => ?_
  rw [h j (List.mem_range.mp hj)]
theorem rowT_set {n : Nat} (f : Nat → Rat) {j : Nat} (h : j < n) (v : Rat) : setI (.lst true (rowT n f)) (.int (j : Int)) (rt v) = some (.lst true (rowT n fun i => if i = j then v else f i)) := by
  rw [setI_l (rowT n f) j (by rw [rowT_len]; exact h)]
  congr 2
  refine List.ext_getElem (by simp [rowT]) fun i h1 h2 => ?_
  rw [List.getElem_set]
  simp only [rowT, List.getElem_map, List.getElem_range]
  by_cases e : j = i
  · subst e; simp
  · rw [if_neg e, if_neg (fun h => e h.symm)]
theorem enAt {xs : List T} {i : Nat} {x : T} (h : (enumL xs 0)[i]? = some x) : ∃ y, xs[i]? = some y ∧ x = .tup [.int (i : Int), y] := by
  unfold enumL at h
  rw [List.getElem?_map, List.getElem?_zipIdx] at h
  cases hy : xs[i]? with
  | none => rw [hy] at h; cases h
  | some y => rw [hy] at h; cases h; exact ⟨y, rfl, by simp⟩
theorem enLen (xs : List T) : (enumL xs 0).length = xs.length := by simp [enumL]
theorem rat_div {x y : Rat} (hy : 0 < y) : mkRat (x.num * (y.den : Int)) (x.den * y.num.natAbs) = x / y := by
  have h1 : 0 < y.num := num_pos' hy
  have hy0 : y ≠ 0 := fun h => by rw [h] at hy; exact absurd hy (by decide)
  have h2 : mkRat (x.num * (y.den : Int)) (x.den * y.num.natAbs) * y = x := by
    conv => lhs; rhs; rw [← Rat.mkRat_self y]
    conv => rhs; rw [← Rat.mkRat_self x]
    rw [Rat.mkRat_mul_mkRat, Rat.mkRat_eq_iff (Nat.mul_ne_zero (Nat.mul_ne_zero x.den_nz (by omega)) y.den_nz) x.den_nz]
    have : (y.num.natAbs : Int) = y.num := by omega
    push_cast [this]
    grind
  rw [← h2, Rat.div_def, Rat.mul_assoc, Rat.mul_inv_cancel _ hy0, Rat.mul_one, h2]
theorem rt_inv {y : Rat} (hy : 0 < y) : T.tup [.int (y.den : Int), .int y.num] = rt y⁻¹ := by
  have h1 : 0 < y.num := num_pos' hy
  have e := rt_coprime y.den y.num.natAbs (by omega) (by rw [Nat.gcd_comm]; exact y.reduced)
  have h3 : (y.num.natAbs : Int) = y.num := by omega
  rw [h3] at e
  rw [← e]
  congr 1
  have := rat_div (x := 1) hy
  rw [Rat.div_def, Rat.one_mul] at this
  rw [← this]
  simp
theorem oi_shr_n (a b : Nat) (Q : T → Prop) : WV (opI .shr (a : Int) (b : Int)) Q = Q (.int ((a >>> b : Nat) : Int)) := by
  rw [oi_shr, show decide (0 ≤ (b : Int)) = true by simp, WG_true, Int.toNat_natCast, shr_nat]
theorem oi_shr_n1 (a b : Nat) (Q : T → Prop) : WV (opI .shr (a : Int) ((b : Int) + 1)) Q = Q (.int ((a >>> (b + 1) : Nat) : Int)) := oi_shr_n a (b + 1) Q
theorem oi_band_n (a b : Nat) (Q : T → Prop) : WV (opI .band (a : Int) (b : Int)) Q = Q (.int ((a &&& b : Nat) : Int)) := by
  rw [oi_band, show decide (0 ≤ (a : Int) ∧ 0 ≤ (b : Int)) = true by simp, WG_true, Int.toNat_natCast, Int.toNat_natCast]
theorem oi_band_1 (a : Nat) (Q : T → Prop) : WV (opI .band (a : Int) 1) Q = Q (.int ((a % 2 : Nat) : Int)) := by
  rw [← and_one]; exact oi_band_n a 1 Q
theorem oi_bor_n (a b : Nat) (Q : T → Prop) : WV (opI .bor (a : Int) (b : Int)) Q = Q (.int ((a ||| b : Nat) : Int)) := by
  rw [oi_bor, show decide (0 ≤ (a : Int) ∧ 0 ≤ (b : Int)) = true by simp, WG_true, Int.toNat_natCast, Int.toNat_natCast]
theorem oi_shl_1 (b : Nat) (h : b ≤ 1000000) (Q : T → Prop) : WV (opI .shl 1 (b : Int)) Q = Q (.int ((2 ^ b : Nat) : Int)) := by
  have e : shlOk 1 (b : Int) = true := by
    unfold shlOk
    rw [decide_eq_true (show (0 : Int) ≤ b by omega), decide_eq_true (show (b : Int) ≤ 1000000 by omega)]; decide
  rw [oi_shl, e, WG_true, Int.toNat_natCast, Int.one_mul, Int.natCast_pow]; rfl
end Tq
end

section
/-! TW5: whole sums. -/
namespace Tq
open PySem
/-- a sum over a list -/
def sm {α : Type} (xs : List α) (f : α → Int) : Int := (xs.map f).sum
theorem sm_nil {α : Type} (f : α → Int) : sm [] f = 0 := rfl
theorem sm_cons {α : Type} (x : α) (xs : List α) (f : α → Int) : sm (x :: xs) f = f x + sm xs f := by simp [sm]
theorem sm_append {α : Type} (xs ys : List α) (f : α → Int) : sm (xs ++ ys) f = sm xs f + sm ys f := by
  induction xs with
  | nil => simp [sm_nil]
  | cons x xs ih => rw [List.cons_append, sm_cons, sm_cons, ih]; omega
theorem sm_congr {α : Type} {xs : List α} {f g : α → Int} (h : ∀ x ∈ xs, f x = g x) : sm xs f = sm xs g := by
  induction xs with
  | nil => rfl
  | cons x xs ih => rw [sm_cons, sm_cons, h x (by simp), ih fun y hy => h y (by simp [hy])]
theorem sm_map {α β : Type} (xs : List α) (h : α → β) (f : β → Int) : sm (xs.map h) f = sm xs fun x => f (h x) := by
  simp [sm, List.map_map, Function.comp_def]
theorem sm_mul {α : Type} (xs : List α) (f : α → Int) (c : Int) : sm xs (fun x => c * f x) = c * sm xs f := by
  induction xs with
  | nil => simp [sm_nil]
  | cons x xs ih => rw [sm_cons, sm_cons, ih]; grind
theorem sm_add {α : Type} (xs : List α) (f g : α → Int) : sm xs (fun x => f x + g x) = sm xs f + sm xs g := by
  induction xs with
  | nil => simp [sm_nil]
  | cons x xs ih => rw [sm_cons, sm_cons, sm_cons, ih]; omega
theorem sm_filter {α : Type} (xs : List α) (p : α → Bool) (f : α → Int) : sm (xs.filter p) f = sm xs fun x => if p x then f x else 0 := by
  induction xs with
  | nil => rfl
  | cons x xs ih =>
    rw [sm_cons]
    by_cases h : p x = true
    · rw [List.filter_cons_of_pos h, sm_cons, ih, if_pos h]
    · rw [List.filter_cons_of_neg h, ih, if_neg h]; omega
theorem sm_zero {α : Type} (xs : List α) : sm xs (fun _ => 0) = 0 := by
  induction xs with
  | nil => rfl
  | cons x xs ih => rw [sm_cons, ih]; rfl
theorem sm_comm {α β : Type} (xs : List α) (ys : List β) (f : α → β → Int) : sm xs (fun x => sm ys (f x)) = sm ys fun y => sm xs fun x => f x y := by
  induction xs with
  | nil => simp only [sm_nil, sm_zero]
  | cons x xs ih => rw [sm_cons, ih, ← sm_add]; exact sm_congr fun y _ => (sm_cons x xs fun x => f x y).symm
theorem sm_nonneg {α : Type} {xs : List α} {f : α → Int} (h : ∀ x ∈ xs, 0 ≤ f x) : 0 ≤ sm xs f := by
  induction xs with
  | nil => exact Int.le_refl _
  | cons x xs ih =>
    rw [sm_cons]
    have := h x (by simp)
    have := ih fun y hy => h y (by simp [hy])
    omega
/-- one taken out, and what is left -/
def picks : List Nat → List (Nat × List Nat)
  | [] => []
  | c :: cs => (c, cs) :: (picks cs).map fun p => (p.1, c :: p.2)
/-- the whole sum of rows over just so many columns -/
def per : List (List Int) → List Nat → Int
  | [], cs => if cs = [] then 1 else 0
  | r :: rs, cs => sm (picks cs) fun p => r.getD p.1 0 * per rs p.2
theorem picks_sm (cs : List Nat) (hd : cs.Nodup) (f : Nat → List Nat → Int) : sm (picks cs) (fun p => f p.1 p.2) = sm cs fun c => f c (cs.filter (· ≠ c)) := by
  induction cs generalizing f with
  | nil => rfl
  | cons c cs ih =>
    rw [List.nodup_cons] at hd
    have h1 : (c :: cs).filter (· ≠ c) = cs := by
      rw [List.filter_cons_of_neg (by simp)]
      exact List.filter_eq_self.mpr fun x hx => by
        simp only [decide_eq_true_eq]; rintro rfl; exact hd.1 hx
    rw [picks, sm_cons, sm_cons, sm_map, h1]
    congr 1
    rw [ih hd.2 fun x l => f x (c :: l)]
    refine sm_congr fun x hx => ?_
    rw [List.filter_cons_of_pos (by simp only [decide_eq_true_eq]; rintro rfl; exact hd.1 hx)]
/-- the columns that a lot leaves -/
def free (n k : Nat) : List Nat := (List.range n).filter fun j => !k.testBit j
theorem free_nodup (n k : Nat) : (free n k).Nodup := List.Nodup.sublist List.filter_sublist List.nodup_range
theorem free_or (n k j : Nat) : free n (k ||| 2 ^ j) = (free n k).filter (· ≠ j) := by
  unfold free
  rw [List.filter_filter]
  refine List.filter_congr fun i _ => ?_
  rw [Nat.testBit_or, Nat.testBit_two_pow, Bool.not_or]
  by_cases h : j = i
  · subst h; simp
  · have : i ≠ j := fun e => h e.symm
    simp [h, this]
theorem per_free (n k : Nat) (r : List Int) (rs : List (List Int)) : per (r :: rs) (free n k) = sm (List.range n) fun j => if !k.testBit j then r.getD j 0 * per rs (free n (k ||| 2 ^ j)) else 0 := by
  rw [per, picks_sm _ (free_nodup n k) fun c l => r.getD c 0 * per rs l]
  conv => lhs; unfold free
  rw [sm_filter]
  refine sm_congr fun j _ => ?_
  split
  · rw [free_or]; rfl
  · rfl
theorem free_full {n k : Nat} (hk : k < 2 ^ n) : free n k = [] ↔ k = 2 ^ n - 1 := by
  unfold free
  rw [List.filter_eq_nil_iff]
  constructor
  · intro h
    refine Nat.eq_of_testBit_eq fun i => ?_
    rw [Nat.testBit_two_pow_sub_one]
    by_cases hi : i < n
    · have := h i (List.mem_range.mpr hi)
      simp at this
      simp [this, hi]
    · rw [Nat.testBit_lt_two_pow (Nat.lt_of_lt_of_le hk (Nat.pow_le_pow_right (by decide) (by omega)))]
      simp [hi]
  · rintro rfl j hj
    rw [Nat.testBit_two_pow_sub_one]
    simpa using List.mem_range.mp hj
theorem free_zero (n : Nat) : free n 0 = List.range n := by
  unfold free
  exact List.filter_eq_self.mpr fun x _ => by simp
/-! dicts of numbers -/
abbrev NI := List (Nat × Int)
def dN (d : NI) : List (T × T) := d.map fun p => (.int (p.1 : Int), .int p.2)
def dg : NI → Nat → Option Int
  | [], _ => none
  | (j, v) :: r, k => if j = k then some v else dg r k
def dp : NI → Nat → Int → NI
  | [], k, v => [(k, v)]
  | (j, u) :: r, k, v => if j = k then (j, v) :: r else (j, u) :: dp r k v
theorem int_eq_nat (j k : Nat) : T.eq (.int (j : Int)) (.int (k : Int)) = decide (j = k) := by
  rw [T.eq]; by_cases h : j = k <;> simp [h]; omega
theorem dget_N (d : NI) (k : Nat) : dget (dN d) (.int (k : Int)) = (dg d k).map T.int := by
  induction d with
  | nil => rfl
  | cons p d ih =>
    obtain ⟨j, v⟩ := p
    rw [dN, List.map_cons, dget, dg, int_eq_nat]
    by_cases h : j = k
    · simp [h]
    · simp only [h, decide_false, Bool.false_eq_true, if_false]; exact ih
theorem dput_N (d : NI) (k : Nat) (v : Int) : dput (dN d) (.int (k : Int)) (.int v) = dN (dp d k v) := by
  induction d with
  | nil => rfl
  | cons p d ih =>
    obtain ⟨j, u⟩ := p
    rw [dN, List.map_cons, dput, dp, int_eq_nat]
    by_cases h : j = k
    · simp [h, dN]
    · simp only [h, decide_false, Bool.false_eq_true, if_false]
      rw [show List.map (fun p : Nat × Int => (T.int (p.1 : Int), T.int p.2)) d = dN d from rfl, ih]; rfl
theorem kOk_N (o : Bool) (d : NI) (k : Nat) : kOk o (dN d) (.int (k : Int)) = true := by
  cases d with
  | nil => simp [dN, kOk, k1]
  | cons p d => obtain ⟨j, v⟩ := p; simp [dN, kOk, k1]
theorem frzK_N (d : NI) : frzK (dN d) = dN d := by
  induction d with
  | nil => rfl
  | cons p d ih => rw [dN, List.map_cons, frzK]; rw [show List.map (fun p : Nat × Int => (T.int (p.1 : Int), T.int p.2)) d = dN d from rfl, ih]; rfl
theorem shK_N (d : NI) : shK (dN d) = true := by
  induction d with
  | nil => rfl
  | cons p d ih => rw [dN, List.map_cons, shK]; exact ih
theorem dN_len (d : NI) : (dN d).length = d.length := by simp [dN]
/-- what a dict is worth -/
def dw (d : NI) (g : Nat → Int) : Int := sm d fun p => p.2 * g p.1
theorem dw_put (d : NI) (k : Nat) (x : Int) (g : Nat → Int) : dw (dp d k ((dg d k).getD 0 + x)) g = dw d g + x * g k := by
  induction d with
  | nil => simp [dp, dg, dw, sm]
  | cons p d ih =>
    obtain ⟨j, u⟩ := p
    rw [dp, dg]
    by_cases h : j = k
    · subst h
      simp only [if_true, Option.getD_some]
      unfold dw; rw [sm_cons, sm_cons]; simp only []; grind
    · simp only [h, if_false]
      unfold dw at ih ⊢; rw [sm_cons, sm_cons, ih]; omega
theorem dp_keys (d : NI) (k : Nat) (v : Int) : ∀ x, x ∈ (dp d k v).map (·.1) ↔ x ∈ d.map (·.1) ∨ x = k := by
  intro x
  induction d with
  | nil => simp [dp]
  | cons p d ih =>
    obtain ⟨j, u⟩ := p
    rw [dp]
    by_cases h : j = k
    · subst h; simp only [if_true, List.map_cons, List.mem_cons]
      constructor
      · rintro (h | h)
        · exact .inl (.inl h)
        · exact .inl (.inr h)
      · rintro ((h | h) | h)
        · exact .inl h
        · exact .inr h
        · exact .inl h
    · simp only [h, if_false, List.map_cons, List.mem_cons, ih]
      constructor
      · rintro (h | h | h)
        · exact .inl (.inl h)
        · exact .inl (.inr h)
        · exact .inr h
      · rintro ((h | h) | h)
        · exact .inl h
        · exact .inr (.inl h)
        · exact .inr (.inr h)
theorem dp_nodup {d : NI} (h : (d.map (·.1)).Nodup) (k : Nat) (v : Int) : ((dp d k v).map (·.1)).Nodup := by
  induction d with
  | nil => simp [dp]
  | cons p d ih =>
    obtain ⟨j, u⟩ := p
    rw [List.map_cons, List.nodup_cons] at h
    rw [dp]
    by_cases e : j = k
    · subst e; simp only [if_true, List.map_cons, List.nodup_cons]; exact h
    · simp only [e, if_false, List.map_cons, List.nodup_cons]
      refine ⟨fun hm => ?_, ih h.2⟩
      rcases (dp_keys d k v j).mp hm with h3 | h3
      · exact h.1 h3
      · exact e h3
theorem dg_mem {d : NI} (h : (d.map (·.1)).Nodup) {k : Nat} {v : Int} (hm : (k, v) ∈ d) : dg d k = some v := by
  induction d with
  | nil => cases hm
  | cons p d ih =>
    obtain ⟨j, u⟩ := p
    rw [List.map_cons, List.nodup_cons] at h
    rw [dg]
    rcases List.mem_cons.mp hm with e | e
    · cases e; simp
    · have : j ≠ k := by rintro rfl; exact h.1 (List.mem_map.mpr ⟨_, e, rfl⟩)
      simp only [this, if_false]; exact ih h.2 e
theorem dg_none {d : NI} {k : Nat} (h : k ∉ d.map (·.1)) : dg d k = none := by
  induction d with
  | nil => rfl
  | cons p d ih =>
    obtain ⟨j, u⟩ := p
    rw [List.map_cons, List.mem_cons, not_or] at h
    rw [dg, if_neg (fun e => h.1 e.symm)]; exact ih h.2
theorem len_bound : ∀ (N : Nat) (l : List Nat), l.Nodup → (∀ x ∈ l, x < N) → l.length ≤ N
  | 0, l, _, h => by
    cases l with
    | nil => simp
    | cons x l => exact absurd (h x (by simp)) (by omega)
  | N + 1, l, hd, h => by
    by_cases hm : N ∈ l
    · have := len_bound N (l.erase N) (hd.erase N) fun x hx => by
        have h1 := h x (List.mem_of_mem_erase hx)
        have h2 : x ≠ N := by rintro rfl; exact (List.Nodup.not_mem_erase hd) hx
        omega
      rw [List.length_erase_of_mem hm] at this
      omega
    · have := len_bound N l hd fun x hx => by
        have h1 := h x hx
        have h2 : x ≠ N := by rintro rfl; exact hm hx
        omega
      omega
/-- a dict's worth at the end -/
theorem dw_end {n : Nat} {d : NI} (hd : (d.map (·.1)).Nodup) (hk : ∀ k ∈ d.map (·.1), k < 2 ^ n) : dw d (fun k => per [] (free n k)) = (dg d (2 ^ n - 1)).getD 0 := by
  induction d with
  | nil => rfl
  | cons p d ih =>
    obtain ⟨j, u⟩ := p
    rw [List.map_cons, List.nodup_cons] at hd
    have hj := hk j (by simp)
    have ih' := ih hd.2 fun k h => hk k (by simp [List.mem_map.mp h |>.choose_spec.1, h])
    unfold dw at ih' ⊢
    rw [sm_cons, ih', dg]
    simp only [per]
    by_cases e : j = 2 ^ n - 1
    · rw [if_pos ((free_full hj).mpr e), if_pos e, dg_none (by rw [← e]; exact hd.1)]; simp
    · rw [if_neg (fun h => e ((free_full hj).mp h)), if_neg e]; simp
theorem map_erase {α β : Type} (f : α → β) : ∀ (xs : List α) (i : Nat), (xs.map f).eraseIdx i = (xs.eraseIdx i).map f
  | [], _ => by simp
  | x :: xs, 0 => by simp
  | x :: xs, i + 1 => by simp [map_erase f xs i]
theorem erasePm {α : Type} : ∀ (xs : List α) (i : Nat) (h : i < xs.length), (xs[i] :: xs.eraseIdx i).Perm xs
  | [], _, h => absurd h (by simp)
  | x :: xs, 0, _ => by simp
  | x :: xs, i + 1, h => by
    have := erasePm xs i (by simpa using h)
    simp only [List.getElem_cons_succ, List.eraseIdx_cons_succ]
    exact (List.Perm.swap x _ _).trans (this.cons x)
/-! rows of numbers -/
def rowI (n : Nat) (f : Nat → Int) : List T := (List.range n).map fun j => .int (f j)
theorem rowI_ints (n : Nat) (f : Nat → Int) : rowI n f = ofInts ((List.range n).map f) := by simp [rowI, ofInts]
theorem rowI_len (n : Nat) (f : Nat → Int) : (rowI n f).length = n := by simp [rowI]
theorem rowI_sh (n : Nat) (f : Nat → Int) : shL (rowI n f) = true := by rw [rowI_ints]; exact shL_ofInts _
theorem rowI_frz (n : Nat) (f : Nat → Int) : frzL (rowI n f) = rowI n f := frzL_sh _ (rowI_sh n f)
theorem rowI_at {n : Nat} {f : Nat → Int} {i : Nat} {x : T} (h : (rowI n f)[i]? = some x) : i < n ∧ x = .int (f i) := by
  have hl : i < n := by
    obtain ⟨h, -⟩ := List.getElem?_eq_some_iff.mp h
    rwa [rowI_len] at h
  refine ⟨hl, ?_⟩
  rw [rowI, List.getElem?_map, List.getElem?_range hl] at h
  cases h; rfl
theorem rowI_get (o : Bool) {n : Nat} (f : Nat → Int) {j : Nat} (h : j < n) : getI (.lst o (rowI n f)) (.int (j : Int)) = some (.int (f j)) := by
  rw [getI_l o (rowI n f) j (by rw [rowI_len]; exact h)]
  simp [rowI]
theorem rowI_getT {n : Nat} (f : Nat → Int) {j : Nat} (h : j < n) : getI (.tup (rowI n f)) (.int (j : Int)) = some (.int (f j)) := by
  rw [getI_t (rowI n f) j (by rw [rowI_len]; exact h)]
  simp [rowI]
theorem rowI_congr {n : Nat} {f g : Nat → Int} (h : ∀ j, j < n → f j = g j) : rowI n f = rowI n g := by
  unfold rowI
  refine List.map_congr_left fun j hj => ?_
  rw [h j (List.mem_range.mp hj)]
theorem rowI_set {n : Nat} (f : Nat → Int) {j : Nat} (h : j < n) (v : Int) : setI (.lst true (rowI n f)) (.int (j : Int)) (.int v) = some (.lst true (rowI n fun i => if i = j then v else f i)) := by
  rw [setI_l (rowI n f) j (by rw [rowI_len]; exact h)]
  congr 2
  refine List.ext_getElem (by simp [rowI]) fun i h1 h2 => ?_
  rw [List.getElem_set]
  simp only [rowI, List.getElem_map, List.getElem_range]
  by_cases e : j = i
  · subst e; simp
  · rw [if_neg e, if_neg (fun h => e h.symm)]
/-! tables -/
def tuI (r : List Int) : T := .tup (ofInts r)
def tuT (rows : List (List Int)) : T := .tup (rows.map tuI)
theorem tI_sh (r : List Int) : (tuI r).sh = true := by unfold tuI; rw [T.sh]; exact shL_ofInts r
theorem shL_tI (rows : List (List Int)) : shL (rows.map tuI) = true := by
  rw [shL_all, List.all_eq_true]
  intro x hx
  obtain ⟨r, -, rfl⟩ := List.mem_map.mp hx
  exact tI_sh r
theorem tT_sh (rows : List (List Int)) : (tuT rows).sh = true := by unfold tuT; rw [T.sh]; exact shL_tI rows
theorem frzL_tI (rows : List (List Int)) : frzL (rows.map tuI) = rows.map tuI := frzL_sh _ (shL_tI rows)
theorem itemsOf_tT (rows : List (List Int)) : itemsOf (tuT rows) = some (rows.map tuI) := by unfold tuT; rw [itemsOf_t, frzL_tI]
theorem itemsOf_tI (r : List Int) : itemsOf (tuI r) = some (ofInts r) := by unfold tuI; rw [itemsOf_t, frzL_ofInts]
theorem seqF_tI (r : List Int) : seqF (tuI r) = some (ofInts r) := by unfold tuI; rw [seqF_t, frzL_ofInts]
theorem seqF_tT (rows : List (List Int)) : seqF (tuT rows) = some (rows.map tuI) := by unfold tuT; rw [seqF_t, frzL_tI]
theorem frz_tI (r : List Int) : (tuI r).frz = tuI r := frz_sh _ (tI_sh r)
theorem frz_tT (r : List (List Int)) : (tuT r).frz = tuT r := frz_sh _ (tT_sh r)
theorem ofInts_len (r : List Int) : (ofInts r).length = r.length := by simp [ofInts]
theorem ofInts_at {r : List Int} {i : Nat} {x : T} (h : (ofInts r)[i]? = some x) : ∃ y, r[i]? = some y ∧ x = .int y := by
  unfold ofInts at h
  rw [List.getElem?_map] at h
  obtain ⟨y, h1, rfl⟩ := Option.map_eq_some_iff.mp h
  exact ⟨y, h1, rfl⟩
theorem tTmap_at {rows : List (List Int)} {i : Nat} {x : T} (h : (rows.map tuI)[i]? = some x) : ∃ y, rows[i]? = some y ∧ x = tuI y := by
  rw [List.getElem?_map] at h
  obtain ⟨y, h1, rfl⟩ := Option.map_eq_some_iff.mp h
  exact ⟨y, h1, rfl⟩
theorem b_len_tI {C : Cn} (r : List Int) : biF C .len [tuI r] = some (.int (r.length : Int)) := by
  unfold tuI; rw [b_len_t, ofInts_len]
theorem b_len_tT {C : Cn} (r : List (List Int)) : biF C .len [tuT r] = some (.int (r.length : Int)) := by
  unfold tuT; rw [b_len_t, List.length_map]
theorem frz_dN (o : Bool) (d : NI) : (T.dic o (dN d)).frz = .dic false (dN d) := by rw [T.frz, frzK_N]
theorem itemsOf_dN (o : Bool) (d : NI) : itemsOf (.dic o (dN d)) = some (d.map fun p => .int (p.1 : Int)) := by
  show some ((frzK (dN d)).map (·.1)) = _
  rw [frzK_N, dN, List.map_map]; rfl
theorem getD_N (o : Bool) (d : NI) (k : Nat) (w : Int) : getD (some (.dic o (dN d))) (.int (k : Int)) (.int w) = some (.int ((dg d k).getD w)) := by
  unfold getD
  simp only [kOk_N, if_true, dget_N]
  cases dg d k <;> rfl
theorem getI_N (o : Bool) (d : NI) {k : Nat} {v : Int} (h : dg d k = some v) : getI (.dic o (dN d)) (.int (k : Int)) = some (.int v) := by
  show (if kOk o (dN d) (.int (k : Int)) then dget (dN d) (.int (k : Int)) else none) = _
  rw [kOk_N, if_pos rfl, dget_N, h]; rfl
theorem setI_N (d : NI) (k : Nat) (v : Int) (h : d.length < LL) : setI (.dic true (dN d)) (.int (k : Int)) (.int v) = some (.dic true (dN (dp d k v))) := by
  show (if kOk true (dN d) (.int (k : Int)) && decide ((dN d).length < LL) then some (T.dic true (dput (dN d) (.int (k : Int)) (.int v))) else none) = _
  rw [kOk_N, dN_len, decide_eq_true h, dput_N]; rfl
theorem dic_sh (d : NI) : (T.dic true (dN d)).sh = false := rfl
theorem dicf_sh (d : NI) : (T.dic false (dN d)).sh = true := by rw [T.sh, shK_N]; rfl
theorem isDi_dic (o : Bool) (d : NI) : isDi (some (T.dic o (dN d))) = true := rfl
theorem bit_zero (k j : Nat) : (((k >>> j % 2 : Nat) : Int) = 0) ↔ k.testBit j = false := by
  rw [Nat.testBit_eq_decide_div_mod_eq, Nat.shiftRight_eq_div_pow, decide_eq_false_iff_not]
  omega
end Tq
end

section
/-! TW6: whole sums of sums of two tables, by how many rows of the one. -/
namespace Tq
open PySem
abbrev RP := List (List Int × List Int)
def pp : RP → List Nat → Nat → Int
  | [], cs, s => if cs = [] ∧ s = 0 then 1 else 0
  | (ra, rb) :: rs, cs, s => sm (picks cs) fun p => rb.getD p.1 0 * pp rs p.2 s + ra.getD p.1 0 * (match s with | 0 => 0 | s + 1 => pp rs p.2 s)
theorem pp_cons0 (ra rb : List Int) (rs : RP) (cs : List Nat) : pp ((ra, rb) :: rs) cs 0 = sm (picks cs) fun p => rb.getD p.1 0 * pp rs p.2 0 := by
  rw [pp]; exact sm_congr fun p _ => by simp
theorem pp_cons (ra rb : List Int) (rs : RP) (cs : List Nat) (s : Nat) : pp ((ra, rb) :: rs) cs (s + 1) = sm (picks cs) fun p => rb.getD p.1 0 * pp rs p.2 (s + 1) + ra.getD p.1 0 * pp rs p.2 s := by
  rw [pp]
theorem pp_zero : ∀ (rs : RP) (cs : List Nat), pp rs cs 0 = per (rs.map (·.2)) cs
  | [], cs => by simp [pp, per]
  | (ra, rb) :: rs, cs => by
    rw [pp_cons0, List.map_cons, per]
    exact sm_congr fun p _ => by rw [pp_zero rs]
theorem pp_big : ∀ (rs : RP) (cs : List Nat) (s : Nat), rs.length < s → pp rs cs s = 0
  | [], cs, s, h => by
    rw [pp, if_neg]; rintro ⟨-, rfl⟩; exact absurd h (by simp)
  | (ra, rb) :: rs, cs, 0, h => absurd h (by simp)
  | (ra, rb) :: rs, cs, s + 1, h => by
    rw [List.length_cons] at h
    rw [pp_cons, sm_congr (g := fun _ => 0) fun p _ => by rw [pp_big rs p.2 (s + 1) (by omega), pp_big rs p.2 s (by omega)]; simp, sm_zero]
theorem pp_top : ∀ (rs : RP) (cs : List Nat), pp rs cs rs.length = per (rs.map (·.1)) cs
  | [], cs => by simp [pp, per]
  | (ra, rb) :: rs, cs => by
    rw [List.length_cons, pp_cons, List.map_cons, per]
    exact sm_congr fun p _ => by rw [pp_big rs p.2 (rs.length + 1) (by omega), pp_top rs]; simp
theorem sm_range_succ (n : Nat) (f : Nat → Int) : sm (List.range (n + 1)) f = f 0 + sm (List.range n) fun i => f (i + 1) := by
  rw [List.range_succ_eq_map, sm_cons, sm_map]
theorem sm_range_last (n : Nat) (f : Nat → Int) : sm (List.range (n + 1)) f = sm (List.range n) f + f n := by
  rw [List.range_succ, sm_append, sm_cons, sm_nil]; omega
/-- at one -/
theorem pp_sum : ∀ (rs : RP) (ts : List (List Int)) (cs : List Nat), rs.length = ts.length → (∀ i (h : i < rs.length) (h' : i < ts.length), ∀ c, ts[i].getD c 0 = rs[i].1.getD c 0 + rs[i].2.getD c 0) → sm (List.range (rs.length + 1)) (pp rs cs) = per ts cs
  | [], [], cs, _, _ => by simp [sm, pp, per]
  | [], _ :: _, _, h, _ => by simp at h
  | _ :: _, [], _, h, _ => by simp at h
  | (ra, rb) :: rs, t :: ts, cs, h, hh => by
    have hl : rs.length = ts.length := by simpa using h
    have ih := fun cs => pp_sum rs ts cs hl fun i h1 h2 c => by
      have := hh (i + 1) (by simpa using h1) (by simpa using h2) c
      simpa using this
    have h0 := fun c => hh 0 (by simp) (by simp) c
    simp only [List.getElem_cons_zero] at h0
    rw [List.length_cons, sm_range_succ, pp_cons0, per]
    rw [sm_congr (g := fun s => sm (picks cs) fun p => rb.getD p.1 0 * pp rs p.2 (s + 1) + ra.getD p.1 0 * pp rs p.2 s) fun s _ => pp_cons ra rb rs cs s]
    rw [sm_comm, ← sm_add]
    refine sm_congr fun p _ => ?_
    rw [sm_add, sm_mul, sm_mul, h0, ← ih p.2]
    have e1 := sm_range_succ (rs.length + 1) (pp rs p.2)
    have e2 := sm_range_last (rs.length + 1) (pp rs p.2)
    rw [pp_big rs p.2 (rs.length + 1) (by omega)] at e2
    grind
theorem pp_symm : ∀ (rs : RP) (cs : List Nat) (s : Nat), s ≤ rs.length → pp (rs.map fun r => (r.2, r.1)) cs s = pp rs cs (rs.length - s)
  | [], cs, s, h => by
    have : s = 0 := by simpa using h
    subst this; rfl
  | (ra, rb) :: rs, cs, 0, h => by
    rw [List.map_cons, pp_cons0, List.length_cons, Nat.sub_zero, pp_cons]
    exact sm_congr fun p _ => by rw [pp_symm rs p.2 0 (by omega), pp_big rs p.2 (rs.length + 1) (by omega), Nat.sub_zero]; simp
  | (ra, rb) :: rs, cs, s + 1, h => by
    rw [List.length_cons] at h
    rw [List.map_cons, pp_cons, List.length_cons, show rs.length + 1 - (s + 1) = rs.length - s by omega]
    by_cases e : s = rs.length
    · subst e
      rw [Nat.sub_self, pp_cons0]
      refine sm_congr fun p _ => ?_
      rw [pp_symm rs p.2 rs.length (Nat.le_refl _), Nat.sub_self, pp_big _ p.2 (rs.length + 1) (by simp)]; simp
    · obtain ⟨m, hm⟩ : ∃ m, rs.length - s = m + 1 := ⟨rs.length - s - 1, by omega⟩
      rw [hm, pp_cons]
      refine sm_congr fun p _ => ?_
      rw [pp_symm rs p.2 (s + 1) (by omega), pp_symm rs p.2 s (by omega), show rs.length - (s + 1) = m by omega, hm]; simp only []; omega
theorem sm_perm {α : Type} {xs ys : List α} (h : xs.Perm ys) (f : α → Int) : sm xs f = sm ys f := by
  induction h with
  | nil => rfl
  | cons x _ ih => rw [sm_cons, sm_cons, ih]
  | swap x y l => rw [sm_cons, sm_cons, sm_cons, sm_cons]; omega
  | trans _ _ h1 h2 => rw [h1, h2]
theorem pp_nd (ra rb : List Int) (rs : RP) {cs : List Nat} (hd : cs.Nodup) (s : Nat) : pp ((ra, rb) :: rs) cs s = sm cs fun c => rb.getD c 0 * pp rs (cs.filter (· ≠ c)) s + ra.getD c 0 * (match s with | 0 => 0 | s + 1 => pp rs (cs.filter (· ≠ c)) s) := by
  rw [pp]
  exact picks_sm cs hd fun c l => rb.getD c 0 * pp rs l s + ra.getD c 0 * (match s with | 0 => 0 | s + 1 => pp rs l s)
/-- columns in any order -/
theorem pp_cols : ∀ (rs : RP) {cs ds : List Nat}, cs.Perm ds → cs.Nodup → ∀ s, pp rs cs s = pp rs ds s
  | [], cs, ds, h, _, s => by
    rw [pp, pp]
    have : cs = [] ↔ ds = [] := ⟨fun e => by subst e; exact List.Perm.eq_nil h.symm, fun e => by subst e; exact List.Perm.eq_nil h⟩
    simp only [this]
  | (ra, rb) :: rs, cs, ds, h, hd, s => by
    rw [pp_nd ra rb rs hd, pp_nd ra rb rs (h.nodup_iff.mp hd), sm_perm h]
    refine sm_congr fun c _ => ?_
    have hp := h.filter (· ≠ c)
    have hdf : (cs.filter (· ≠ c)).Nodup := List.Nodup.sublist List.filter_sublist hd
    rw [pp_cols rs hp hdf s]
    cases s with
    | zero => rfl
    | succ s => simp only []; rw [pp_cols rs hp hdf s]
theorem sm_ite_ne {cs : List Nat} (c : Nat) (f : Nat → Int) : sm (cs.filter (· ≠ c)) f = sm cs fun x => if x ≠ c then f x else 0 := by
  rw [sm_filter]; exact sm_congr fun x _ => by by_cases h : x = c <;> simp [h]
theorem filter_swap (cs : List Nat) (c d : Nat) : (cs.filter (· ≠ c)).filter (· ≠ d) = (cs.filter (· ≠ d)).filter (· ≠ c) := by
  rw [List.filter_filter, List.filter_filter]
  exact List.filter_congr fun x _ => by rw [Bool.and_comm]
/-- two rows exchanged -/
theorem pp_swap (r1 r2 : List Int × List Int) (rs : RP) {cs : List Nat} (hd : cs.Nodup) (s : Nat) : pp (r1 :: r2 :: rs) cs s = pp (r2 :: r1 :: rs) cs s := by
  obtain ⟨a1, b1⟩ := r1
  obtain ⟨a2, b2⟩ := r2
  have nd : ∀ c, (cs.filter (· ≠ c)).Nodup := fun c => List.Nodup.sublist List.filter_sublist hd
  rw [pp_nd a1 b1 _ hd, pp_nd a2 b2 _ hd]
  -- both as sums over two columns
  have key : ∀ (x1 y1 x2 y2 : Nat → Int) (G : List Nat → Int), sm cs (fun c => x1 c * sm (cs.filter (· ≠ c)) fun d => x2 d * G ((cs.filter (· ≠ c)).filter (· ≠ d))) = sm cs fun d => x2 d * sm (cs.filter (· ≠ d)) fun c => x1 c * G ((cs.filter (· ≠ d)).filter (· ≠ c)) := fun x1 _ x2 _ G => by
    rw [sm_congr (g := fun c => sm cs fun d => if d ≠ c then x1 c * x2 d * G ((cs.filter (· ≠ c)).filter (· ≠ d)) else 0) fun c _ => by
      rw [sm_ite_ne, ← sm_mul]; exact sm_congr fun d _ => by split <;> grind]
    rw [sm_comm]
    refine sm_congr fun d _ => ?_
    rw [sm_ite_ne, ← sm_mul]
    refine sm_congr fun c _ => ?_
    by_cases h : d = c
    · subst h; simp
    · have h' : c ≠ d := fun e => h e.symm
      rw [if_pos h, if_pos h', filter_swap]; grind
  cases s with
  | zero =>
    simp only [Int.mul_zero, Int.add_zero]
    have e : ∀ (a b : List Int) c, pp ((a, b) :: rs) (cs.filter (· ≠ c)) 0 = sm (cs.filter (· ≠ c)) fun d => b.getD d 0 * pp rs ((cs.filter (· ≠ c)).filter (· ≠ d)) 0 := fun a b c => by
      rw [pp_nd a b rs (nd c)]; exact sm_congr fun d _ => by simp
    simp only [e]
    exact key (fun c => b1.getD c 0) (fun _ => 0) (fun c => b2.getD c 0) (fun _ => 0) fun l => pp rs l 0
  | succ s =>
    have e : ∀ (a b : List Int) c t, pp ((a, b) :: rs) (cs.filter (· ≠ c)) (t + 1) = sm (cs.filter (· ≠ c)) (fun d => b.getD d 0 * pp rs ((cs.filter (· ≠ c)).filter (· ≠ d)) (t + 1)) + sm (cs.filter (· ≠ c)) fun d => a.getD d 0 * pp rs ((cs.filter (· ≠ c)).filter (· ≠ d)) t := fun a b c t => by
      rw [pp_nd a b rs (nd c), ← sm_add]
    cases s with
    | zero =>
      have e0 : ∀ (a b : List Int) c, pp ((a, b) :: rs) (cs.filter (· ≠ c)) 0 = sm (cs.filter (· ≠ c)) fun d => b.getD d 0 * pp rs ((cs.filter (· ≠ c)).filter (· ≠ d)) 0 := fun a b c => by
        rw [pp_nd a b rs (nd c)]; exact sm_congr fun d _ => by simp
      simp only [e, e0, Nat.zero_add]
      have k1 := key (fun c => b1.getD c 0) (fun _ => 0) (fun c => b2.getD c 0) (fun _ => 0) fun l => pp rs l 1
      have k2 := key (fun c => b1.getD c 0) (fun _ => 0) (fun c => a2.getD c 0) (fun _ => 0) fun l => pp rs l 0
      have k3 := key (fun c => a1.getD c 0) (fun _ => 0) (fun c => b2.getD c 0) (fun _ => 0) fun l => pp rs l 0
      simp only [] at k1 k2 k3
      rw [sm_add, sm_add]
      rw [sm_congr (g := fun c => b1.getD c 0 * sm (cs.filter (· ≠ c)) (fun d => b2.getD d 0 * pp rs ((cs.filter (· ≠ c)).filter (· ≠ d)) 1) + b1.getD c 0 * sm (cs.filter (· ≠ c)) fun d => a2.getD d 0 * pp rs ((cs.filter (· ≠ c)).filter (· ≠ d)) 0) fun c _ => Int.mul_add _ _ _, sm_add]
      rw [sm_congr (g := fun c => b2.getD c 0 * sm (cs.filter (· ≠ c)) (fun d => b1.getD d 0 * pp rs ((cs.filter (· ≠ c)).filter (· ≠ d)) 1) + b2.getD c 0 * sm (cs.filter (· ≠ c)) fun d => a1.getD d 0 * pp rs ((cs.filter (· ≠ c)).filter (· ≠ d)) 0) fun c _ => Int.mul_add _ _ _, sm_add]
      omega
    | succ s =>
      simp only [e]
      have k1 := key (fun c => b1.getD c 0) (fun _ => 0) (fun c => b2.getD c 0) (fun _ => 0) fun l => pp rs l (s + 1 + 1)
      have k2 := key (fun c => b1.getD c 0) (fun _ => 0) (fun c => a2.getD c 0) (fun _ => 0) fun l => pp rs l (s + 1)
      have k3 := key (fun c => a1.getD c 0) (fun _ => 0) (fun c => b2.getD c 0) (fun _ => 0) fun l => pp rs l (s + 1)
      have k4 := key (fun c => a1.getD c 0) (fun _ => 0) (fun c => a2.getD c 0) (fun _ => 0) fun l => pp rs l s
      simp only [] at k1 k2 k3 k4
      rw [sm_add, sm_add]
      simp only [Int.mul_add]
      rw [sm_add, sm_add, sm_add, sm_add]
      omega
/-- rows in any order -/
theorem pp_rows {rs ts : RP} (h : rs.Perm ts) : ∀ {cs : List Nat}, cs.Nodup → ∀ s, pp rs cs s = pp ts cs s := by
  induction h with
  | nil => intro cs _ s; rfl
  | cons x _ ih =>
    intro cs hd s
    obtain ⟨ra, rb⟩ := x
    have nd : ∀ c, (cs.filter (· ≠ c)).Nodup := fun c => List.Nodup.sublist List.filter_sublist hd
    rw [pp_nd ra rb _ hd, pp_nd ra rb _ hd]
    refine sm_congr fun c _ => ?_
    cases s with
    | zero => rw [ih (nd c) 0]
    | succ s => simp only []; rw [ih (nd c) (s + 1), ih (nd c) s]
  | swap x y l => intro cs hd s; exact pp_swap y x l hd s
  | trans _ _ h1 h2 => intro cs hd s; rw [h1 hd s, h2 hd s]
end Tq
end

section
/-! TW7: lots, and what is left of them. -/
namespace Tq
open PySem
/-- over all lots of so many, and what is left -/
def ss : List Nat → Nat → (List Nat → List Nat → Int) → Int
  | [], 0, f => f [] []
  | [], _ + 1, _ => 0
  | x :: xs, 0, f => ss xs 0 fun a b => f a (x :: b)
  | x :: xs, m + 1, f => (ss xs m fun a b => f (x :: a) b) + ss xs (m + 1) fun a b => f a (x :: b)
theorem ss_zero : ∀ (xs : List Nat) (f : List Nat → List Nat → Int), ss xs 0 f = f [] xs
  | [], f => rfl
  | x :: xs, f => by rw [ss, ss_zero xs]
theorem ss_add : ∀ (xs : List Nat) (m : Nat) (f g : List Nat → List Nat → Int), ss xs m (fun a b => f a b + g a b) = ss xs m f + ss xs m g
  | [], 0, _, _ => rfl
  | [], _ + 1, _, _ => rfl
  | x :: xs, 0, f, g => by rw [ss, ss, ss]; exact ss_add xs 0 _ _
  | x :: xs, m + 1, f, g => by
    rw [ss, ss, ss, ss_add xs m (fun a b => f (x :: a) b) fun a b => g (x :: a) b, ss_add xs (m + 1) (fun a b => f a (x :: b)) fun a b => g a (x :: b)]; omega
theorem ss_mul : ∀ (xs : List Nat) (m : Nat) (c : Int) (f : List Nat → List Nat → Int), ss xs m (fun a b => c * f a b) = c * ss xs m f
  | [], 0, _, _ => rfl
  | [], _ + 1, _, _ => by simp [ss]
  | x :: xs, 0, c, f => by rw [ss, ss]; exact ss_mul xs 0 c _
  | x :: xs, m + 1, c, f => by
    rw [ss, ss, ss_mul xs m c fun a b => f (x :: a) b, ss_mul xs (m + 1) c fun a b => f a (x :: b)]; grind
theorem ss_nul : ∀ (xs : List Nat) (m : Nat), ss xs m (fun _ _ => 0) = 0
  | [], 0 => rfl
  | [], _ + 1 => rfl
  | x :: xs, 0 => by rw [ss]; exact ss_nul xs 0
  | x :: xs, m + 1 => by rw [ss, ss_nul xs m, ss_nul xs (m + 1)]; rfl
theorem ss_congr {xs : List Nat} {m : Nat} {f g : List Nat → List Nat → Int} (h : ∀ a b, f a b = g a b) : ss xs m f = ss xs m g := by
  have : f = g := funext fun a => funext fun b => h a b
  rw [this]
theorem ss_sm {α : Type} (xs : List Nat) (m : Nat) (ys : List α) (g : List Nat → List Nat → α → Int) : ss xs m (fun a b => sm ys (g a b)) = sm ys fun y => ss xs m fun a b => g a b y := by
  induction ys with
  | nil => simp only [sm_nil]; exact ss_nul xs m
  | cons y ys ih =>
    rw [sm_cons, ← ih, ← ss_add]
    exact ss_congr fun a b => sm_cons _ _ _
/-- one of the lot first -/
theorem ss_pickA : ∀ (cs : List Nat) (s : Nat) (h : Nat → List Nat → List Nat → Int), ss cs (s + 1) (fun a b => sm (picks a) fun p => h p.1 p.2 b) = sm (picks cs) fun p => ss p.2 s (h p.1)
  | [], _, _ => rfl
  | c :: cs, s, h => by
    rw [ss, picks, sm_cons, sm_map]
    have e1 : ss cs s (fun a b => sm (picks (c :: a)) fun p => h p.1 p.2 b) = ss cs s (h c) + ss cs s (fun a b => sm (picks a) fun p => h p.1 (c :: p.2) b) := by
      rw [← ss_add]
      exact ss_congr fun a b => by rw [picks, sm_cons, sm_map]
    rw [e1, ss_pickA cs s fun x a b => h x a (c :: b)]
    cases s with
    | zero =>
      rw [ss_zero cs fun a b => sm (picks a) fun p => h p.1 (c :: p.2) b]
      rw [show sm (picks []) (fun p => h p.1 (c :: p.2) cs) = 0 from rfl, Int.add_zero]
      simp only [ss]
    | succ s =>
      rw [ss_pickA cs s fun x a b => h x (c :: a) b]
      simp only [ss]
      rw [sm_add]; omega
/-- one of what is left first -/
theorem ss_pickB : ∀ (cs : List Nat) (s : Nat) (h : Nat → List Nat → List Nat → Int), ss cs s (fun a b => sm (picks b) fun p => h p.1 a p.2) = sm (picks cs) fun p => ss p.2 s (h p.1)
  | [], 0, _ => rfl
  | [], _ + 1, _ => rfl
  | c :: cs, 0, h => by
    rw [ss, picks, sm_cons, sm_map]
    rw [ss_congr (g := fun a b => h c a b + sm (picks b) fun p => h p.1 a (c :: p.2)) fun a b => by rw [picks, sm_cons, sm_map], ss_add, ss_pickB cs 0 fun x a b => h x a (c :: b)]
    simp only [ss]
  | c :: cs, s + 1, h => by
    rw [ss, picks, sm_cons, sm_map]
    rw [ss_congr (xs := cs) (m := s + 1) (g := fun a b => h c a b + sm (picks b) fun p => h p.1 a (c :: p.2)) fun a b => by rw [picks, sm_cons, sm_map], ss_add, ss_pickB cs (s + 1) fun x a b => h x a (c :: b), ss_pickB cs s fun x a b => h x (c :: a) b]
    simp only [ss]
    rw [sm_add]; omega
/-- by parts -/
theorem pp_parts (A B : Nat → List Int) : ∀ (R : List Nat) (cs : List Nat) (s : Nat), pp (R.map fun i => (A i, B i)) cs s = ss R s fun a b => ss cs s fun c d => per (a.map A) c * per (b.map B) d
  | [], cs, 0 => by
    rw [ss_zero, ss_zero]; simp [pp, per]
  | [], cs, s + 1 => by simp [pp, ss]
  | i :: R, cs, 0 => by
    rw [List.map_cons, pp_cons0, ss]
    have e : ∀ a b : List Nat, (ss cs 0 fun c d => per (a.map A) c * per ((i :: b).map B) d) = sm (picks cs) fun p => (B i).getD p.1 0 * ss p.2 0 fun c d => per (a.map A) c * per (b.map B) d := fun a b => by
      rw [ss_congr (g := fun c d => sm (picks d) fun p => (B i).getD p.1 0 * (per (a.map A) c * per (b.map B) p.2)) fun c d => by rw [List.map_cons, per, ← sm_mul]; exact sm_congr fun p _ => by grind,
        ss_pickB cs 0 fun x c d => (B i).getD x 0 * (per (a.map A) c * per (b.map B) d)]
      exact sm_congr fun p _ => ss_mul _ _ _ _
    rw [ss_congr e, ss_sm]
    refine sm_congr fun p _ => ?_
    rw [ss_mul, pp_parts A B R p.2 0]
  | i :: R, cs, s + 1 => by
    rw [List.map_cons, pp_cons, ss]
    have e : ∀ a b : List Nat, (ss cs (s + 1) fun c d => per (a.map A) c * per ((i :: b).map B) d) = sm (picks cs) fun p => (B i).getD p.1 0 * ss p.2 (s + 1) fun c d => per (a.map A) c * per (b.map B) d := fun a b => by
      rw [ss_congr (g := fun c d => sm (picks d) fun p => (B i).getD p.1 0 * (per (a.map A) c * per (b.map B) p.2)) fun c d => by rw [List.map_cons, per, ← sm_mul]; exact sm_congr fun p _ => by grind,
        ss_pickB cs (s + 1) fun x c d => (B i).getD x 0 * (per (a.map A) c * per (b.map B) d)]
      exact sm_congr fun p _ => ss_mul _ _ _ _
    have e' : ∀ a b : List Nat, (ss cs (s + 1) fun c d => per ((i :: a).map A) c * per (b.map B) d) = sm (picks cs) fun p => (A i).getD p.1 0 * ss p.2 s fun c d => per (a.map A) c * per (b.map B) d := fun a b => by
      rw [ss_congr (g := fun c d => sm (picks c) fun p => (A i).getD p.1 0 * (per (a.map A) p.2 * per (b.map B) d)) fun c d => by rw [List.map_cons, per, Int.mul_comm, ← sm_mul]; exact sm_congr fun p _ => by grind,
        ss_pickA cs s fun x c d => (A i).getD x 0 * (per (a.map A) c * per (b.map B) d)]
      exact sm_congr fun p _ => ss_mul _ _ _ _
    rw [ss_congr e, ss_congr e', ss_sm, ss_sm, ← sm_add]
    refine sm_congr fun p _ => ?_
    rw [ss_mul, ss_mul, pp_parts A B R p.2 (s + 1), pp_parts A B R p.2 s]; omega
/-! the lots themselves, ascending -/
def lotsR : List Nat → Nat → List (List Nat)
  | _, 0 => [[]]
  | [], _ + 1 => []
  | x :: xs, m + 1 => (lotsR xs m).map (x :: ·) ++ lotsR xs (m + 1)
theorem lotsR_mem : ∀ (xs : List Nat) (m : Nat) (l : List Nat), l ∈ lotsR xs m → (∀ x ∈ l, x ∈ xs) ∧ l.length = m
  | xs, 0, l, h => by
    have : l = [] := by cases xs <;> simpa [lotsR] using h
    subst this; simp
  | [], m + 1, l, h => by simp [lotsR] at h
  | x :: xs, m + 1, l, h => by
    rw [lotsR, List.mem_append] at h
    rcases h with h | h
    · obtain ⟨l', h', rfl⟩ := List.mem_map.mp h
      have := lotsR_mem xs m l' h'
      refine ⟨fun y hy => ?_, by simp [this.2]⟩
      rcases List.mem_cons.mp hy with rfl | hy
      · simp
      · exact List.mem_cons_of_mem _ (this.1 y hy)
    · have := lotsR_mem xs (m + 1) l h
      exact ⟨fun y hy => List.mem_cons_of_mem _ (this.1 y hy), this.2⟩
theorem ss_lots : ∀ (xs : List Nat) (hd : xs.Nodup) (m : Nat) (f : List Nat → List Nat → Int), sm (lotsR xs m) (fun l => f l (xs.filter fun x => !l.contains x)) = ss xs m f
  | xs, hd, 0, f => by
    have e : lotsR xs 0 = [[]] := by cases xs <;> rfl
    rw [e, ss_zero, sm_cons, sm_nil, Int.add_zero]
    congr 1
    exact List.filter_eq_self.mpr fun x _ => by simp
  | [], _, m + 1, f => rfl
  | x :: xs, hd, m + 1, f => by
    rw [List.nodup_cons] at hd
    rw [lotsR, sm_append, sm_map, ss]
    congr 1
    · rw [← ss_lots xs hd.2 m fun a b => f (x :: a) b]
      refine sm_congr fun l hl => ?_
      congr 1
      rw [List.filter_cons_of_neg (by simp)]
      refine List.filter_congr fun y hy => ?_
      have : y ≠ x := by rintro rfl; exact hd.1 hy
      simp [this]
    · rw [← ss_lots xs hd.2 (m + 1) fun a b => f a (x :: b)]
      refine sm_congr fun l hl => ?_
      have hx : x ∉ l := fun h => hd.1 ((lotsR_mem xs (m + 1) l hl).1 x h)
      rw [List.filter_cons_of_pos (by simpa using hx)]
/-- the next ones of a lot -/
def lstart (l : List Nat) : Nat := match l.getLast? with
  | none => 0
  | some x => x + 1
def lext (n : Nat) (l : List Nat) : List (List Nat) := (List.range' (lstart l) (n - lstart l)).map fun k => l ++ [k]
def lotsP (n : Nat) : Nat → List (List Nat)
  | 0 => [[]]
  | t + 1 => (lotsP n t).flatMap (lext n)
theorem lstart_snoc (l : List Nat) (k : Nat) : lstart (l ++ [k]) = k + 1 := by simp [lstart]
theorem lotsR_zero (xs : List Nat) : lotsR xs 0 = [[]] := by cases xs <;> rfl
theorem lotsR_first : ∀ (l s m : Nat), lotsR (List.range' s l) (m + 1) = (List.range' s l).flatMap fun k => (lotsR (List.range' (k + 1) (s + l - (k + 1))) m).map (k :: ·)
  | 0, s, m => by simp [lotsR]
  | l + 1, s, m => by
    rw [List.range'_succ, lotsR, List.flatMap_cons, lotsR_first l (s + 1) m]
    congr 1
    · congr 2
      rw [show s + (l + 1) - (s + 1) = l by omega]
    · rw [show s + 1 + l = s + (l + 1) by omega]
theorem fm_congr {α β : Type} {xs : List α} {f g : α → List β} (h : ∀ x ∈ xs, f x = g x) : xs.flatMap f = xs.flatMap g := by
  induction xs with
  | nil => rfl
  | cons x xs ih => rw [List.flatMap_cons, List.flatMap_cons, h x (by simp), ih fun y hy => h y (by simp [hy])]
theorem lotsP_all (n : Nat) : ∀ (t m : Nat), (lotsP n t).flatMap (fun l => (lotsR (List.range' (lstart l) (n - lstart l)) m).map (l ++ ·)) = lotsR (List.range n) (t + m)
  | 0, m => by
    simp only [lotsP, List.flatMap_cons, List.flatMap_nil, List.append_nil, List.nil_append, List.map_id', Nat.zero_add]
    rw [show lstart [] = 0 from rfl, Nat.sub_zero, List.range_eq_range']
  | t + 1, m => by
    rw [lotsP, List.flatMap_assoc, show t + 1 + m = t + (m + 1) by omega, ← lotsP_all n t (m + 1)]
    refine fm_congr fun l _ => ?_
    by_cases h : lstart l ≤ n
    · rw [lotsR_first, lext, List.flatMap_map, List.map_flatMap]
      refine fm_congr fun k hk => ?_
      rw [lstart_snoc, List.map_map, show lstart l + (n - lstart l) = n by omega]
      exact List.map_congr_left fun x _ => by simp
    · rw [lext, show n - lstart l = 0 by omega]; simp [lotsR]
theorem lotsP_eq (n m : Nat) : lotsP n m = lotsR (List.range n) m := by
  have := lotsP_all n m 0
  rw [Nat.add_zero] at this
  rw [← this]
  simp [lotsR_zero]
end Tq
end

section
/-! TW8: parts of tables, bounds. -/
namespace Tq
open PySem
theorem picks_map (g : Nat → Nat) : ∀ cs : List Nat, picks (cs.map g) = (picks cs).map fun p => (g p.1, p.2.map g)
  | [] => rfl
  | c :: cs => by
    rw [List.map_cons, picks, picks_map g cs, picks, List.map_cons, List.map_map, List.map_map]
    simp [Function.comp_def]
theorem picks_mem : ∀ (cs : List Nat) (p : Nat × List Nat), p ∈ picks cs → p.1 ∈ cs ∧ (∀ x ∈ p.2, x ∈ cs) ∧ p.2.length + 1 = cs.length
  | [], p, h => by simp [picks] at h
  | c :: cs, p, h => by
    rw [picks, List.mem_cons] at h
    rcases h with rfl | h
    · exact ⟨by simp, fun x hx => List.mem_cons_of_mem _ hx, by simp⟩
    · obtain ⟨q, hq, rfl⟩ := List.mem_map.mp h
      obtain ⟨h1, h2, h3⟩ := picks_mem cs q hq
      refine ⟨List.mem_cons_of_mem _ h1, fun x hx => ?_, by simp; omega⟩
      rcases List.mem_cons.mp hx with rfl | hx
      · simp
      · exact List.mem_cons_of_mem _ (h2 x hx)
/-- columns by other names -/
theorem per_names (g : Nat → Nat) (F : List Int → List Int) : ∀ (rows : List (List Int)) (ks : List Nat), (∀ r ∈ rows, ∀ k ∈ ks, (F r).getD k 0 = r.getD (g k) 0) → per (rows.map F) ks = per rows (ks.map g)
  | [], ks, _ => by simp [per]
  | r :: rows, ks, h => by
    rw [List.map_cons, per, per, picks_map, sm_map]
    refine sm_congr fun p hp => ?_
    obtain ⟨h1, h2, -⟩ := picks_mem ks p hp
    rw [h r (by simp) p.1 h1, per_names g F rows p.2 fun r' hr' k hk => h r' (List.mem_cons_of_mem _ hr') k (h2 k hk)]
theorem sm_abs {α : Type} (xs : List α) (f : α → Int) (B : Nat) (h : ∀ x ∈ xs, (f x).natAbs ≤ B) : (sm xs f).natAbs ≤ xs.length * B := by
  induction xs with
  | nil => simp [sm]
  | cons x xs ih =>
    rw [sm_cons, List.length_cons, Nat.add_mul, Nat.one_mul]
    have h1 := h x (by simp)
    have h2 := ih fun y hy => h y (by simp [hy])
    have h3 := Int.natAbs_add_le (f x) (sm xs f)
    omega
theorem picks_length : ∀ cs : List Nat, (picks cs).length = cs.length
  | [] => rfl
  | c :: cs => by rw [picks, List.length_cons, List.length_map, picks_length cs, List.length_cons]
theorem per_abs {B N : Nat} (hN : 1 ≤ N * B) : ∀ (rows : List (List Int)) (cs : List Nat), (∀ r ∈ rows, ∀ c ∈ cs, (r.getD c 0).natAbs ≤ B) → cs.length ≤ N → (per rows cs).natAbs ≤ (N * B) ^ rows.length
  | [], cs, _, _ => by
    rw [per]; split <;> simp
  | r :: rows, cs, h, hc => by
    rw [per, List.length_cons, Nat.pow_succ]
    have := sm_abs (picks cs) (fun p => r.getD p.1 0 * per rows p.2) (B * (N * B) ^ rows.length) fun p hp => by
      obtain ⟨h1, h2, h3⟩ := picks_mem cs p hp
      rw [Int.natAbs_mul]
      exact Nat.mul_le_mul (h r (by simp) p.1 h1) (per_abs hN rows p.2 (fun r' hr' c hc' => h r' (List.mem_cons_of_mem _ hr') c (h2 c hc')) (by omega))
    rw [picks_length] at this
    refine Nat.le_trans this ?_
    refine Nat.le_trans (Nat.mul_le_mul_right _ hc) ?_
    rw [← Nat.mul_assoc, Nat.mul_comm]
    exact Nat.le_refl _
/-- a lot as a tuple -/
def lotT (l : List Nat) : T := tuI (l.map fun (i : Nat) => (i : Int))
theorem lotT_sh (l : List Nat) : (lotT l).sh = true := tI_sh _
theorem lotT_items (l : List Nat) : itemsOf (lotT l) = some (ofInts (l.map fun (i : Nat) => (i : Int))) := itemsOf_tI _
theorem lotT_frz (l : List Nat) : (lotT l).frz = lotT l := frz_tI _
theorem lot_at {l : List Nat} {i : Nat} {x : T} (h : (ofInts (l.map fun (i : Nat) => (i : Int)))[i]? = some x) : ∃ y, l[i]? = some y ∧ x = .int (y : Int) := by
  obtain ⟨z, hz, rfl⟩ := ofInts_at h
  rw [List.getElem?_map] at hz
  obtain ⟨y, hy, rfl⟩ := Option.map_eq_some_iff.mp hz
  exact ⟨y, hy, rfl⟩
/-- a part -/
def part (M : List (List Int)) (R C : List Nat) : List (List Int) := R.map fun i => C.map fun j => (M.getD i []).getD j 0
theorem part_per (M : List (List Int)) (R C : List Nat) : per (part M R C) (List.range C.length) = per (R.map fun i => M.getD i []) C := by
  have h := per_names (fun k => C.getD k 0) (fun r => C.map fun j => r.getD j 0) (R.map fun i => M.getD i []) (List.range C.length) fun r _ k hk => by
    have hk := List.mem_range.mp hk
    simp [List.getD_eq_getElem?_getD, List.getElem?_eq_getElem hk]
  rw [List.map_map] at h
  have e : (List.range C.length).map (fun k => C.getD k 0) = C := by
    refine List.ext_getElem (by simp) fun i h1 h2 => ?_
    simp [List.getD_eq_getElem?_getD, List.getElem?_eq_getElem h2]
  rw [e] at h
  exact h
/-- a square table of so many rows, items within a bound -/
def Sqr (n B : Nat) (M : List (List Int)) : Prop := M.length = n ∧ ∀ r ∈ M, r.length = n ∧ ∀ x ∈ r, x.natAbs ≤ B
theorem Sqr.getD {n B : Nat} {M : List (List Int)} (h : Sqr n B M) (i : Nat) : ∀ c, ((M.getD i []).getD c 0).natAbs ≤ B := fun c => by
  rw [List.getD_eq_getElem?_getD, List.getD_eq_getElem?_getD]
  cases e : M[i]? with
  | none => simp
  | some r =>
    simp only [Option.getD_some]
    cases e2 : r[c]? with
    | none => simp
    | some x => exact (h.2 r (List.mem_of_getElem? e)).2 x (List.mem_of_getElem? e2)
theorem Sqr.row {n B : Nat} {M : List (List Int)} (h : Sqr n B M) {i : Nat} (hi : i < n) : M[i]? = some (M.getD i []) ∧ (M.getD i []).length = n := by
  have h1 : i < M.length := by rw [h.1]; exact hi
  rw [List.getD_eq_getElem?_getD, List.getElem?_eq_getElem h1]
  exact ⟨rfl, (h.2 _ (List.getElem_mem h1)).1⟩
theorem Sqr.item {n B : Nat} {M : List (List Int)} (h : Sqr n B M) {i j : Nat} (hi : i < n) (hj : j < n) : (M.getD i [])[j]? = some ((M.getD i []).getD j 0) := by
  have h1 := (h.row hi).2
  generalize M.getD i [] = r at *
  rw [List.getD_eq_getElem?_getD, List.getElem?_eq_getElem (show j < r.length by omega)]; rfl
theorem getI_tT {M : List (List Int)} {i : Nat} {r : List Int} (h : M[i]? = some r) : getI (tuT M) (.int (i : Int)) = some (tuI r) := by
  obtain ⟨hi, e⟩ := List.getElem?_eq_some_iff.mp h
  unfold tuT
  rw [getI_t _ i (by rw [List.length_map]; exact hi)]
  simp [e]
theorem getI_tI {r : List Int} {i : Nat} {x : Int} (h : r[i]? = some x) : getI (tuI r) (.int (i : Int)) = some (.int x) := by
  obtain ⟨hi, e⟩ := List.getElem?_eq_some_iff.mp h
  unfold tuI
  rw [getI_t _ i (by rw [ofInts_len]; exact hi)]
  simp [ofInts, e]
theorem cm_ne_nil (l : List Nat) : cm .ne (lotT l) (.tup []) = some (!l.isEmpty) := by
  have h1 : (lotT l).dp 8 = true := by unfold lotT tuI; rw [T.dp]; exact dpL_ofInts _ _
  have h2 : (T.tup []).dp 8 = true := by rw [T.dp, dpL]
  have h3 : T.eq (lotT l) (.tup []) = l.isEmpty := by
    unfold lotT tuI
    rw [T.eq]
    cases l with
    | nil => simp [ofInts, eqL]
    | cons x l => simp [ofInts, eqL]
  show (if sc2 (lotT l) (.tup []) || ((lotT l).dp 8 && (T.tup []).dp 8) then some (!T.eq (lotT l) (.tup [])) else none) = _
  rw [h1, h2, h3]; simp
theorem isDi_tT (M : List (List Int)) : isDi (some (tuT M)) = false := rfl
theorem isDi_tI (M : List Int) : isDi (some (tuI M)) = false := rfl
theorem o_add_lot (sx sy : Bool) (l : List Nat) (x : Nat) (Q : T → Prop) : WV (op2 .add sx sy (lotT l) (.tup [.int (x : Int)])) Q = WG (decide (l.length + 1 ≤ LL)) (Q (lotT (l ++ [x]))) := by
  unfold lotT tuI
  rw [o_add_tt, shL_ofInts]
  have e1 : shL [T.int (x : Int)] = true := rfl
  rw [e1]
  have e2 : ofInts (l.map fun (i : Nat) => (i : Int)) ++ [T.int (x : Int)] = ofInts ((l ++ [x]).map fun (i : Nat) => (i : Int)) := by simp [ofInts]
  rw [e2]
  congr 1
  simp [ofInts]
theorem lot_last (l : List Nat) (h : l ≠ []) : getI (lotT l) (.int (-1)) = some (.int ((l.getLast h : Nat) : Int)) := by
  have h0 : 0 < l.length := List.length_pos_iff.mpr h
  have hix : ixOf l.length (-1) = some (l.length - 1) := by
    unfold ixOf
    rw [if_neg (by decide), if_pos (by omega)]
    congr 1
    omega
  unfold lotT tuI
  show ((ixOf (ofInts (l.map fun (i : Nat) => (i : Int))).length (-1)).bind fun j => (ofInts (l.map fun (i : Nat) => (i : Int)))[j]?) = _
  rw [ofInts_len, List.length_map, hix, Option.bind_some]
  simp only [ofInts, List.getElem?_map, List.getElem?_eq_getElem (show l.length - 1 < l.length by omega), Option.map_some, List.getLast_eq_getElem]
theorem lotsR_rest : ∀ (xs : List Nat), xs.Nodup → ∀ (m : Nat) (l : List Nat), l ∈ lotsR xs m → (xs.filter fun x => !l.contains x).length + m = xs.length
  | xs, hd, 0, l, h => by
    rw [lotsR_zero] at h
    have : l = [] := by simpa using h
    subst this
    rw [List.filter_eq_self.mpr fun x _ => by simp, Nat.add_zero]
  | [], _, m + 1, l, h => by simp [lotsR] at h
  | x :: xs, hd, m + 1, l, h => by
    rw [List.nodup_cons] at hd
    rw [lotsR, List.mem_append] at h
    rcases h with h | h
    · obtain ⟨l', h', rfl⟩ := List.mem_map.mp h
      have ih := lotsR_rest xs hd.2 m l' h'
      rw [List.filter_cons_of_neg (by simp), List.length_cons]
      have : (xs.filter fun y => !(x :: l').contains y) = xs.filter fun y => !l'.contains y := List.filter_congr fun y hy => by
        have : y ≠ x := by rintro rfl; exact hd.1 hy
        simp [this]
      rw [this]; omega
    · have ih := lotsR_rest xs hd.2 (m + 1) l h
      have hx : x ∉ l := fun h2 => hd.1 ((lotsR_mem xs (m + 1) l h).1 x h2)
      rw [List.filter_cons_of_pos (by simpa using hx), List.length_cons, List.length_cons]; omega
def prs (M1 M2 : List (List Int)) (n : Nat) : RP := (List.range n).map fun i => (M1.getD i [], M2.getD i [])
def PS (M1 M2 : List (List Int)) (n s : Nat) : Int := pp (prs M1 M2 n) (List.range n) s
theorem PS_lots (M1 M2 : List (List Int)) (n s : Nat) : sm (lotsR (List.range n) s) (fun R => sm (lotsR (List.range n) s) fun C => per (R.map fun i => M1.getD i []) C * per (((List.range n).filter fun x => !R.contains x).map fun i => M2.getD i []) ((List.range n).filter fun x => !C.contains x)) = PS M1 M2 n s := by
  unfold PS prs
  rw [pp_parts (fun i => M1.getD i []) (fun i => M2.getD i []) (List.range n) (List.range n) s, ← ss_lots (List.range n) List.nodup_range s fun a b => ss (List.range n) s fun c d => per (a.map fun i => M1.getD i []) c * per (b.map fun i => M2.getD i []) d]
  refine sm_congr fun R _ => ?_
  exact ss_lots (List.range n) List.nodup_range s fun c d => per (R.map fun i => M1.getD i []) c * per (((List.range n).filter fun x => !R.contains x).map fun i => M2.getD i []) d
theorem per_ok {n B : Nat} {M : List (List Int)} (h : Sqr n B M) (hn : n ≤ 12) (hB : B ≤ 1000000) (R C : List Nat) (hR : R.length ≤ n) (hC : C.length ≤ n) : (per (R.map fun i => M.getD i []) C).natAbs < 2 ^ 1000 := by
  have h1 := per_abs (B := 1000000) (N := 12) (by decide) (R.map fun i => M.getD i []) C (fun r hr c _ => by
    obtain ⟨i, -, rfl⟩ := List.mem_map.mp hr
    exact Nat.le_trans (h.getD i c) hB) (by omega)
  rw [List.length_map] at h1
  have h2 : (12 * 1000000) ^ R.length ≤ (12 * 1000000) ^ 12 := Nat.pow_le_pow_right (by decide) (by omega)
  exact Nat.lt_of_le_of_lt (Nat.le_trans h1 h2) (by decide +kernel)
theorem mulOk_1000 {a b : Int} (h1 : a.natAbs < 2 ^ 1000) (h2 : b.natAbs < 2 ^ 1000) : mulOk a b = true := by
  have : (2 : Nat) ^ 1000 ≤ B2 := Nat.pow_le_pow_right (by decide) (by decide)
  exact mulOk_b (Nat.lt_of_lt_of_le h1 this) (Nat.lt_of_lt_of_le h2 this)
theorem lotsR_len : ∀ (xs : List Nat) (m : Nat), (lotsR xs m).length ≤ 2 ^ xs.length
  | xs, 0 => by rw [lotsR_zero]; exact Nat.pow_pos (by decide)
  | [], m + 1 => by simp [lotsR]
  | x :: xs, m + 1 => by
    rw [lotsR, List.length_append, List.length_map, List.length_cons, Nat.pow_succ]
    have := lotsR_len xs m
    have := lotsR_len xs (m + 1)
    omega
theorem lotsP_len {n : Nat} (h : n ≤ 12) (t : Nat) : (lotsP n t).length ≤ 4096 := by
  rw [lotsP_eq]
  have := lotsR_len (List.range n) t
  rw [List.length_range] at this
  have h2 : 2 ^ n ≤ 2 ^ 12 := Nat.pow_le_pow_right (by decide) h
  omega
theorem lots_sh (ls : List (List Nat)) : shL (ls.map lotT) = true := by
  rw [shL_all, List.all_eq_true]; intro x hx
  obtain ⟨l, -, rfl⟩ := List.mem_map.mp hx
  exact lotT_sh l
theorem lots_frz (ls : List (List Nat)) : frzL (ls.map lotT) = ls.map lotT := frzL_sh _ (lots_sh ls)
theorem lots_at {ls : List (List Nat)} {i : Nat} {x : T} (h : (ls.map lotT)[i]? = some x) : ∃ y, ls[i]? = some y ∧ x = lotT y := by
  rw [List.getElem?_map] at h
  obtain ⟨y, h1, rfl⟩ := Option.map_eq_some_iff.mp h
  exact ⟨y, h1, rfl⟩
theorem isDi_lot (l : List Nat) : isDi (some (lotT l)) = false := rfl
/-- the items that are not 0, with their places -/
def someP (r : List Int) : List (Nat × Int) := ((List.range r.length).map fun j => (j, r.getD j 0)).filter fun p => !decide (p.2 = 0)
def pairT (p : Nat × Int) : T := .tup [.int (p.1 : Int), .int p.2]
def isNZ : T → Bool
  | .tup [_, .int y] => !decide (y = 0)
  | _ => false
theorem enumL_ints (r : List Int) : enumL (ofInts r) 0 = ((List.range r.length).map fun j => (j, r.getD j 0)).map pairT := by
  refine List.ext_getElem (by simp [enumL, ofInts]) fun i h1 h2 => ?_
  have h3 : i < r.length := by simpa using h2
  simp [enumL, ofInts, pairT, List.getD_eq_getElem?_getD, List.getElem?_eq_getElem h3]
theorem some_T (r : List Int) : List.map id (List.filter isNZ (enumL (ofInts r) 0)) = (someP r).map pairT := by
  rw [enumL_ints, List.map_id, List.filter_map]; rfl
theorem someP_sm (r : List Int) (n : Nat) (h : r.length = n) (F : Nat → Int → Int) (h0 : ∀ j, F j 0 = 0) : sm (someP r) (fun p => F p.1 p.2) = sm (List.range n) fun j => F j (r.getD j 0) := by
  unfold someP
  rw [sm_filter, sm_map, h]
  refine sm_congr fun j _ => ?_
  by_cases e : r.getD j 0 = 0
  · rw [e, h0]; simp
  · rw [if_pos (by rw [decide_eq_false e]; rfl)]
theorem someP_mem {r : List Int} {p : Nat × Int} (h : p ∈ someP r) : p.1 < r.length ∧ r[p.1]? = some p.2 := by
  unfold someP at h
  rw [List.mem_filter] at h
  obtain ⟨j, hj, rfl⟩ := List.mem_map.mp h.1
  have hj := List.mem_range.mp hj
  refine ⟨hj, ?_⟩
  simp only []
  rw [List.getD_eq_getElem?_getD, List.getElem?_eq_getElem hj]; rfl
theorem pairT_sh (p : Nat × Int) : (pairT p).sh = true := rfl
theorem pairs_sh (ps : List (Nat × Int)) : shL (ps.map pairT) = true := by
  rw [shL_all, List.all_eq_true]; intro x hx
  obtain ⟨l, -, rfl⟩ := List.mem_map.mp hx
  rfl
theorem pairs_frz (ps : List (Nat × Int)) : frzL (ps.map pairT) = ps.map pairT := frzL_sh _ (pairs_sh ps)
theorem pairs_at {ps : List (Nat × Int)} {i : Nat} {x : T} (h : (ps.map pairT)[i]? = some x) : ∃ p, ps[i]? = some p ∧ x = pairT p := by
  rw [List.getElem?_map] at h
  obtain ⟨y, h1, rfl⟩ := Option.map_eq_some_iff.mp h
  exact ⟨y, h1, rfl⟩
theorem memT_lot (i : Nat) : ∀ l : List Nat, memT (.int (i : Int)) (ofInts (l.map fun (i : Nat) => (i : Int))) = l.contains i
  | [] => rfl
  | y :: l => by
    have ih := memT_lot i l
    unfold memT at ih ⊢
    rw [List.map_cons, ofInts, List.map_cons, List.any_cons, List.contains_cons, show List.map T.int (l.map fun (i : Nat) => (i : Int)) = ofInts (l.map fun (i : Nat) => (i : Int)) from rfl, ih, int_eq_nat]
    congr 1
    by_cases h : y = i
    · subst h; simp
    · have : i ≠ y := fun e => h e.symm
      simp [h, this]
theorem cm_notin_lot (i : Nat) (l : List Nat) : cm .notin (.int (i : Int)) (lotT l) = some (!l.contains i) := by
  have h2 : (ofInts (l.map fun (i : Nat) => (i : Int))).all leaf = true := by
    rw [List.all_eq_true]; intro x hx
    obtain ⟨y, -, rfl⟩ := List.mem_map.mp hx; rfl
  show (if leaf (.int (i : Int)) && (ofInts (l.map fun (i : Nat) => (i : Int))).all leaf then some (!memT (.int (i : Int)) (ofInts (l.map fun (i : Nat) => (i : Int)))) else none) = _
  rw [h2, memT_lot]; rfl
end Tq
end

section
/-! TW9: whole sums of parts by dicts, lots as bits. -/
namespace Tq
open PySem
/-- rows taken one behind another from a lot on, judged at the end -/
def Eg (n : Nat) : List (List Int) → (Nat → Int) → Nat → Int
  | [], g, lot => g lot
  | r :: rs, g, lot => sm (List.range n) fun j => if !lot.testBit j then r.getD j 0 * Eg n rs g (lot ||| 2 ^ j) else 0
/-- a row more, last -/
def Ex (n : Nat) (r : List Int) (g : Nat → Int) : Nat → Int := fun k => sm (List.range n) fun j => if !k.testBit j then r.getD j 0 * g (k ||| 2 ^ j) else 0
theorem Eg_snoc (n : Nat) (r : List Int) (g : Nat → Int) : ∀ (rs : List (List Int)) (lot : Nat), Eg n (rs ++ [r]) g lot = Eg n rs (Ex n r g) lot
  | [], lot => rfl
  | q :: rs, lot => by
    rw [List.cons_append, Eg, Eg]
    exact sm_congr fun j _ => by rw [Eg_snoc n r g rs]
theorem Eg_cons (n : Nat) (r : List Int) (rs : List (List Int)) (g : Nat → Int) (lot : Nat) : Eg n (r :: rs) g lot = sm (free n lot) fun j => r.getD j 0 * Eg n rs g (lot ||| 2 ^ j) := by
  rw [Eg]
  conv => rhs; unfold free
  rw [sm_filter]
/-- judged by what is left -/
theorem Eg_ss (n : Nat) (h : List Nat → Int) : ∀ (rs : List (List Int)) (lot : Nat), Eg n rs (fun k => h (free n k)) lot = ss (free n lot) rs.length fun a b => per rs a * h b
  | [], lot => by rw [List.length_nil, ss_zero, Eg]; simp [per]
  | r :: rs, lot => by
    rw [Eg_cons, List.length_cons]
    rw [ss_congr (g := fun a b => sm (picks a) fun p => r.getD p.1 0 * (per rs p.2 * h b)) fun a b => by rw [per, Int.mul_comm, ← sm_mul]; exact sm_congr fun p _ => by grind]
    rw [ss_pickA (free n lot) rs.length fun x a b => r.getD x 0 * (per rs a * h b)]
    rw [picks_sm (free n lot) (free_nodup n lot) fun c l => ss l rs.length fun a b => r.getD c 0 * (per rs a * h b)]
    refine sm_congr fun j _ => ?_
    rw [ss_mul, Eg_ss n h rs, free_or]
/-- judged at one lot -/
def colsOf (n key : Nat) : List Nat := (List.range n).filter fun j => key.testBit j
theorem Eg_at (n key : Nat) (hk : key < 2 ^ n) : ∀ (rs : List (List Int)) (lot : Nat), lot < 2 ^ n → Eg n rs (fun k => if k = key then 1 else 0) lot = if (lot ||| key) = key then per rs ((free n lot).filter fun j => key.testBit j) else 0
  | [], lot, hl => by
    rw [Eg, per]
    by_cases h : (lot ||| key) = key
    · rw [if_pos h]
      have : lot = key ↔ (free n lot).filter (fun j => key.testBit j) = [] := by
        rw [List.filter_eq_nil_iff]
        constructor
        · rintro rfl j hj
          have := (List.mem_filter.mp hj).2
          simpa using this
        · intro h2
          refine Nat.eq_of_testBit_eq fun i => ?_
          by_cases hi : i < n
          · have h3 : (lot ||| key).testBit i = key.testBit i := by rw [h]
            rw [Nat.testBit_or] at h3
            cases e : lot.testBit i with
            | true => rw [e] at h3; simpa using h3
            | false =>
              have := h2 i (List.mem_filter.mpr ⟨List.mem_range.mpr hi, by simp [e]⟩)
              simp at this
              exact this.symm
          · rw [Nat.testBit_lt_two_pow (Nat.lt_of_lt_of_le hl (Nat.pow_le_pow_right (by decide) (by omega))), Nat.testBit_lt_two_pow (Nat.lt_of_lt_of_le hk (Nat.pow_le_pow_right (by decide) (by omega)))]
      by_cases e : lot = key
      · rw [if_pos e, if_pos (this.mp e)]
      · rw [if_neg e, if_neg fun h3 => e (this.mpr h3)]
    · rw [if_neg h, if_neg]
      rintro rfl; exact h (Nat.or_self _)
  | r :: rs, lot, hl => by
    rw [Eg_cons]
    have step : ∀ j ∈ free n lot, r.getD j 0 * Eg n rs (fun k => if k = key then 1 else 0) (lot ||| 2 ^ j) = if (lot ||| key) = key then (if key.testBit j then r.getD j 0 * per rs (((free n lot).filter fun j => key.testBit j).filter (· ≠ j)) else 0) else 0 := fun j hj => by
      have hjn := List.mem_range.mp (List.mem_filter.mp hj).1
      rw [Eg_at n key hk rs _ (Nat.or_lt_two_pow hl (Nat.pow_lt_pow_right (by decide) hjn)), free_or]
      have hb : ((lot ||| 2 ^ j) ||| key) = key ↔ (lot ||| key) = key ∧ key.testBit j = true := by
        constructor
        · intro h
          refine ⟨Nat.eq_of_testBit_eq fun i => ?_, ?_⟩
          · have := congrArg (fun x => x.testBit i) h
            simp only [Nat.testBit_or] at this ⊢
            revert this
            cases lot.testBit i <;> cases key.testBit i <;> cases (2 ^ j).testBit i <;> simp
          · have := congrArg (fun x => x.testBit j) h
            simp only [Nat.testBit_or, Nat.testBit_two_pow_self] at this
            revert this
            cases lot.testBit j <;> cases key.testBit j <;> simp
        · rintro ⟨h1, h2⟩
          refine Nat.eq_of_testBit_eq fun i => ?_
          have := congrArg (fun x => x.testBit i) h1
          simp only [Nat.testBit_or, Nat.testBit_two_pow] at this ⊢
          by_cases e : j = i
          · subst e; rw [h2]; simp
          · simp only [e, decide_false, Bool.or_false]; exact this
      by_cases h1 : (lot ||| key) = key
      · by_cases h2 : key.testBit j = true
        · rw [if_pos (hb.mpr ⟨h1, h2⟩), if_pos h1, if_pos h2, List.filter_filter, List.filter_filter]
          congr 2
          exact List.filter_congr fun x _ => by rw [Bool.and_comm]
        · rw [if_neg fun h => h2 (hb.mp h).2, if_pos h1, if_neg h2, Int.mul_zero]
      · rw [if_neg fun h => h1 (hb.mp h).1, if_neg h1, Int.mul_zero]
    rw [sm_congr step]
    by_cases h1 : (lot ||| key) = key
    · simp only [h1, if_true]
      rw [per, picks_sm _ (List.Nodup.sublist List.filter_sublist (free_nodup n lot)) fun c l => r.getD c 0 * per rs l, sm_filter]
    · simp only [h1, if_false]
      exact sm_zero _
theorem dg_dw {d : NI} (hd : (d.map (·.1)).Nodup) (key : Nat) : (dg d key).getD 0 = dw d fun k => if k = key then 1 else 0 := by
  induction d with
  | nil => rfl
  | cons p d ih =>
    obtain ⟨j, u⟩ := p
    rw [List.map_cons, List.nodup_cons] at hd
    have ih' := ih hd.2
    unfold dw at ih' ⊢
    rw [sm_cons, dg, ← ih']
    by_cases e : j = key
    · subst e
      rw [dg_none hd.1]; simp
    · simp [e]
/-- what a dict of parts tells at a lot -/
theorem dg_part {n : Nat} {d : NI} {rs : List (List Int)} (hd : (d.map (·.1)).Nodup) (h : ∀ g, dw d g = Eg n rs g 0) {key : Nat} (hk : key < 2 ^ n) : (dg d key).getD 0 = per rs (colsOf n key) := by
  rw [dg_dw hd, h, Eg_at n key hk rs 0 (Nat.pow_pos (by decide)), Nat.zero_or, if_pos rfl, free_zero]; rfl
theorem colsOf_compl {n c : Nat} (hc : c < 2 ^ n) : colsOf n (2 ^ n - 1 - c) = free n c := by
  unfold colsOf free
  refine List.filter_congr fun j hj => ?_
  have hj := List.mem_range.mp hj
  rw [show 2 ^ n - 1 - c = 2 ^ n - (c + 1) by omega, Nat.testBit_two_pow_sub_succ hc]
  simp [hj]
/-- two dicts of parts together -/
theorem dw_two {n : Nat} {d e : NI} {rs qs : List (List Int)} (h : ∀ g, dw d g = Eg n rs g 0) (he : (e.map (·.1)).Nodup) (h2 : ∀ g, dw e g = Eg n qs g 0) (hk : ∀ k ∈ d.map (·.1), k < 2 ^ n) :
    dw d (fun c => (dg e (2 ^ n - 1 - c)).getD 0) = ss (List.range n) rs.length fun a b => per rs a * per qs b := by
  have e1 : dw d (fun c => (dg e (2 ^ n - 1 - c)).getD 0) = dw d fun c => per qs (free n c) := by
    unfold dw
    refine sm_congr fun p hp => ?_
    have hp1 := hk p.1 (List.mem_map.mpr ⟨p, hp, rfl⟩)
    simp only []
    rw [dg_part he h2 (show 2 ^ n - 1 - p.1 < 2 ^ n by omega), colsOf_compl hp1]
  rw [e1, h, Eg_ss n (per qs), free_zero]
/-! lots as bits, in the order of the numbers -/
def mk : Nat → List (List Nat × List Nat)
  | 0 => [([], [])]
  | k + 1 => (mk k).map (fun p => (p.1, p.2 ++ [k])) ++ (mk k).map fun p => (p.1 ++ [k], p.2)
theorem mk_len : ∀ k, (mk k).length = 2 ^ k
  | 0 => rfl
  | k + 1 => by rw [mk, List.length_append, List.length_map, List.length_map, mk_len k, Nat.pow_succ]; omega
theorem mk_rev : ∀ k, (mk k).reverse = (mk k).map fun p => (p.2, p.1)
  | 0 => rfl
  | k + 1 => by
    rw [mk, List.reverse_append, ← List.map_reverse, ← List.map_reverse, mk_rev k, List.map_append, List.map_map, List.map_map, List.map_map, List.map_map]
    rfl
theorem ss_snoc (x : Nat) : ∀ (xs : List Nat) (m : Nat) (f : List Nat → List Nat → Int), ss (xs ++ [x]) m f = (match m with | 0 => 0 | m + 1 => ss xs m fun a b => f (a ++ [x]) b) + ss xs m fun a b => f a (b ++ [x])
  | [], 0, f => by simp [ss]
  | [], 1, f => by simp [ss]
  | [], m + 2, f => by simp [ss]
  | y :: xs, 0, f => by
    rw [List.cons_append, ss, ss, ss_snoc x xs 0]; simp
  | y :: xs, 1, f => by
    rw [List.cons_append, ss, ss, ss_snoc x xs 0, ss_snoc x xs 1]; simp only [ss, List.cons_append, Nat.zero_add]; omega
  | y :: xs, m + 2, f => by
    rw [List.cons_append, ss, ss, ss_snoc x xs (m + 1), ss_snoc x xs (m + 2)]; simp only [ss, List.cons_append, Nat.add_assoc, Nat.reduceAdd]; omega
theorem mk_ss : ∀ (n m : Nat) (f : List Nat → List Nat → Int), sm (mk n) (fun p => if p.1.length = m then f p.1 p.2 else 0) = ss (List.range n) m f
  | 0, 0, f => by simp [mk, sm, ss]
  | 0, m + 1, f => by simp [mk, sm, ss]
  | n + 1, m, f => by
    rw [mk, sm_append, sm_map, sm_map, List.range_succ, ss_snoc]
    have h1 := mk_ss n m fun a b => f a (b ++ [n])
    rw [h1]
    cases m with
    | zero => simp [sm_zero]
    | succ m =>
      have h2 := mk_ss n m fun a b => f (a ++ [n]) b
      simp only []
      rw [← h2, Int.add_comm]
      congr 1
      exact sm_congr fun p _ => by simp
theorem mk_compl {n m : Nat} (h : m < 2 ^ n) : ((mk n)[2 ^ n - 1 - m]'(by rw [mk_len]; omega)).1 = ((mk n)[m]'(by rw [mk_len]; exact h)).2 := by
  have h1 : (mk n).reverse[m]'(by rw [List.length_reverse, mk_len]; exact h) = ((mk n).map fun p => (p.2, p.1))[m]'(by rw [List.length_map, mk_len]; exact h) := by
    simp only [mk_rev]
  rw [List.getElem_reverse, List.getElem_map] at h1
  simp only [mk_len] at h1
  rw [h1]
theorem mk_parts : ∀ (n : Nat) (p : List Nat × List Nat), p ∈ mk n → p.1.length + p.2.length = n
  | 0, p, h => by
    have : p = ([], []) := by simpa [mk] using h
    subst this; rfl
  | n + 1, p, h => by
    rw [mk, List.mem_append] at h
    rcases h with h | h
    · obtain ⟨q, hq, rfl⟩ := List.mem_map.mp h
      have := mk_parts n q hq
      simp; omega
    · obtain ⟨q, hq, rfl⟩ := List.mem_map.mp h
      have := mk_parts n q hq
      simp; omega
/-- of two tables, by how many rows the first has -/
def XX (M1 M2 : List (List Int)) (n s : Nat) (a b : List Nat) : Int := ss (List.range n) s fun c d => per (a.map fun i => M1.getD i []) c * per (b.map fun i => M2.getD i []) d
theorem XX_sum (M1 M2 : List (List Int)) (n s : Nat) : sm (mk n) (fun p => if p.1.length = s then XX M1 M2 n s p.1 p.2 else 0) = PS M1 M2 n s := by
  rw [mk_ss n s (XX M1 M2 n s)]
  unfold PS prs XX
  rw [pp_parts (fun i => M1.getD i []) (fun i => M2.getD i [])]
def Goodd (n : Nat) (rs : List (List Int)) (d : NI) : Prop := (d.map (·.1)).Nodup ∧ (∀ k ∈ d.map (·.1), k < 2 ^ n) ∧ ∀ g, dw d g = Eg n rs g 0
def rowsAt (M : List (List Int)) (S : List Nat) : List (List Int) := S.map fun i => M.getD i []
def GoodL (n : Nat) (M : List (List Int)) (ps : List (List Nat × List Nat)) (ds : List NI) : Prop := ds.length = ps.length ∧ ∀ m (h : m < ps.length) (h' : m < ds.length), Goodd n (rowsAt M ps[m].1) ds[m]
def dsT (o : Bool) (ds : List NI) : List T := ds.map fun d => T.dic o (dN d)
theorem dsT_len (o : Bool) (ds : List NI) : (dsT o ds).length = ds.length := by simp [dsT]
theorem dsT_frz (o : Bool) (ds : List NI) : frzL (dsT o ds) = dsT false ds := by
  rw [frzL_map, dsT, List.map_map]
  exact List.map_congr_left fun d _ => frz_dN o d
theorem dsT_sh (ds : List NI) : shL (dsT false ds) = true := by
  rw [shL_all, List.all_eq_true]; intro x hx
  obtain ⟨d, -, rfl⟩ := List.mem_map.mp hx
  exact dicf_sh d
theorem dsT_at {o : Bool} {ds : List NI} {i : Nat} {x : T} (h : (dsT o ds)[i]? = some x) : ∃ d, ds[i]? = some d ∧ x = .dic o (dN d) := by
  unfold dsT at h
  rw [List.getElem?_map] at h
  obtain ⟨y, h1, rfl⟩ := Option.map_eq_some_iff.mp h
  exact ⟨y, h1, rfl⟩
theorem ds_at {ds : List NI} (m : Nat) (h : m < ds.length) : getI (.lst false (dsT false ds)) (.int (m : Int)) = some (.dic false (dN ds[m])) := by
  rw [getI_l _ _ m (by rw [dsT_len]; exact h)]
  simp [dsT]
theorem GoodL.zero (n : Nat) (M : List (List Int)) : GoodL n M (mk 0) [[(0, 1)]] := by
  refine ⟨rfl, fun m h h' => ?_⟩
  have : m = 0 := by simpa using h'
  subst this
  refine ⟨by simp, by simp [Nat.pow_pos], fun g => ?_⟩
  simp [dw, sm, mk, rowsAt, Eg]
theorem GoodL.succ {n i : Nat} {M : List (List Int)} {ds ls : List NI} (h : GoodL n M (mk i) ds) (hl : ls.length = ds.length) (hs : ∀ m (h : m < ls.length) (h' : m < ds.length), ((ls[m].map (·.1)).Nodup ∧ (∀ k ∈ ls[m].map (·.1), k < 2 ^ n) ∧ ∀ g, dw ls[m] g = dw ds[m] (Ex n (M.getD i []) g))) : GoodL n M (mk (i + 1)) (ds ++ ls) := by
  refine ⟨by rw [List.length_append, hl, h.1, mk_len, mk_len, Nat.pow_succ]; omega, fun m h1 h2 => ?_⟩
  have hd := h.1
  by_cases hm : m < ds.length
  · have h3 : m < (mk i).length := by omega
    have hg := h.2 m h3 hm
    have e1 : (mk (i + 1))[m].1 = (mk i)[m].1 := by
      simp only [mk]
      rw [List.getElem_append_left (by simpa using h3)]; simp
    rw [List.getElem_append_left hm, e1]
    exact hg
  · rw [List.length_append] at h2
    have h4 : m - ds.length < ls.length := by omega
    have h5 : m - ds.length < ds.length := by omega
    have h6 : m - ds.length < (mk i).length := by omega
    have hg := h.2 (m - ds.length) h6 h5
    obtain ⟨s1, s2, s3⟩ := hs (m - ds.length) h4 h5
    have e1 : (mk (i + 1))[m].1 = (mk i)[m - ds.length].1 ++ [i] := by
      simp only [mk]
      rw [List.getElem_append_right (by simp; omega)]
      simp [hd]
    rw [List.getElem_append_right (by omega), e1]
    refine ⟨s1, s2, fun g => ?_⟩
    rw [s3, hg.2.2, show rowsAt M ((mk i)[m - ds.length].1 ++ [i]) = rowsAt M (mk i)[m - ds.length].1 ++ [M.getD i []] by simp [rowsAt], Eg_snoc]
end Tq
end

section
/-! TWa: parts_sums: at one, the ends, from behind, led, a row times an integer. -/
namespace Tq
open PySem
theorem prs_len (M1 M2 : List (List Int)) (n : Nat) : (prs M1 M2 n).length = n := by simp [prs]
theorem rowsAll {M : List (List Int)} {n : Nat} (h : M.length = n) : (List.range n).map (fun i => M.getD i []) = M := by
  refine List.ext_getElem (by simp [h]) fun i h1 h2 => ?_
  simp [List.getD_eq_getElem?_getD, List.getElem?_eq_getElem h2]
theorem PS_zero {M1 M2 : List (List Int)} {n : Nat} (h : M2.length = n) : PS M1 M2 n 0 = per M2 (List.range n) := by
  unfold PS
  rw [pp_zero]
  congr 1
  unfold prs
  rw [List.map_map]
  exact rowsAll h
theorem PS_top {M1 M2 : List (List Int)} {n : Nat} (h : M1.length = n) : PS M1 M2 n n = per M1 (List.range n) := by
  have := pp_top (prs M1 M2 n) (List.range n)
  rw [prs_len] at this
  unfold PS
  rw [this]
  congr 1
  unfold prs
  rw [List.map_map]
  exact rowsAll h
theorem PS_sum {M1 M2 M3 : List (List Int)} {n : Nat} (h3 : M3.length = n) (h : ∀ i, i < n → ∀ c, (M3.getD i []).getD c 0 = (M1.getD i []).getD c 0 + (M2.getD i []).getD c 0) : sm (List.range (n + 1)) (PS M1 M2 n) = per M3 (List.range n) := by
  have := pp_sum (prs M1 M2 n) M3 (List.range n) (by rw [prs_len, h3]) fun i h1 h2 c => by
    rw [prs_len] at h1
    have := h i h1 c
    rw [show M3.getD i [] = M3[i] by simp [List.getD_eq_getElem?_getD, List.getElem?_eq_getElem h2]] at this
    rw [this]
    simp [prs]
  rw [prs_len] at this
  exact this
theorem PS_rev {M1 M2 : List (List Int)} {n s : Nat} (h : s ≤ n) : PS M2 M1 n s = PS M1 M2 n (n - s) := by
  have := pp_symm (prs M1 M2 n) (List.range n) s (by rw [prs_len]; exact h)
  rw [prs_len] at this
  unfold PS
  rw [← this]
  congr 1
  unfold prs
  rw [List.map_map]; rfl
theorem pp_nn : ∀ (rs : RP) (cs : List Nat) (s : Nat), (∀ r ∈ rs, ∀ c, 0 ≤ r.1.getD c 0 ∧ 0 ≤ r.2.getD c 0) → 0 ≤ pp rs cs s
  | [], cs, s, _ => by rw [pp]; split <;> decide
  | (ra, rb) :: rs, cs, s, h => by
    rw [pp]
    refine sm_nonneg fun p _ => ?_
    have h0 := h (ra, rb) (by simp) p.1
    have ih := fun t => pp_nn rs p.2 t fun r hr => h r (List.mem_cons_of_mem _ hr)
    have a := Int.mul_nonneg h0.2 (ih s)
    cases s with
    | zero => simp only [Int.mul_zero, Int.add_zero]; exact a
    | succ s => exact Int.add_nonneg a (Int.mul_nonneg h0.1 (ih s))
theorem getD_nn {M : List (List Int)} (h : ∀ r ∈ M, ∀ x ∈ r, 0 ≤ x) (i c : Nat) : 0 ≤ (M.getD i []).getD c 0 := by
  rw [List.getD_eq_getElem?_getD, List.getD_eq_getElem?_getD]
  cases e : M[i]? with
  | none => simp
  | some r =>
    simp only [Option.getD_some]
    cases e2 : r[c]? with
    | none => simp
    | some x => exact h r (List.mem_of_getElem? e) x (List.mem_of_getElem? e2)
theorem PS_ends {M1 M2 : List (List Int)} {n : Nat} (hn : 1 ≤ n) (h1 : ∀ r ∈ M1, ∀ x ∈ r, 0 ≤ x) (h2 : ∀ r ∈ M2, ∀ x ∈ r, 0 ≤ x) : PS M1 M2 n 0 + PS M1 M2 n n ≤ sm (List.range (n + 1)) (PS M1 M2 n) := by
  obtain ⟨m, rfl⟩ : ∃ m, n = m + 1 := ⟨n - 1, by omega⟩
  rw [sm_range_last, sm_range_succ]
  have : 0 ≤ sm (List.range m) fun i => PS M1 M2 (m + 1) (i + 1) := sm_nonneg fun i _ => by
    refine pp_nn _ _ _ fun r hr c => ?_
    obtain ⟨j, -, rfl⟩ := List.mem_map.mp hr
    exact ⟨getD_nn h1 j c, getD_nn h2 j c⟩
  omega
/-- columns by other names -/
theorem pp_names (g : Nat → Nat) (F : List Int → List Int) : ∀ (rs : RP) (ks : List Nat) (s : Nat), (∀ r ∈ rs, ∀ k ∈ ks, (F r.1).getD k 0 = r.1.getD (g k) 0 ∧ (F r.2).getD k 0 = r.2.getD (g k) 0) → pp (rs.map fun r => (F r.1, F r.2)) ks s = pp rs (ks.map g) s
  | [], ks, s, _ => by simp [pp]
  | (ra, rb) :: rs, ks, s, h => by
    rw [List.map_cons, pp, pp, picks_map, sm_map]
    refine sm_congr fun p hp => ?_
    obtain ⟨h1, h2, -⟩ := picks_mem ks p hp
    have h0 := h (ra, rb) (by simp) p.1 h1
    have ih := fun t => pp_names g F rs p.2 t fun r hr k hk => h r (List.mem_cons_of_mem _ hr) k (h2 k hk)
    simp only [] at h0
    rw [h0.1, h0.2, ih s]
    cases s with
    | zero => rfl
    | succ s => simp only []; rw [ih s]
theorem PS_led (M1 M2 : List (List Int)) {n : Nat} {R C : List Nat} (hR : R.Perm (List.range n)) (hC : C.Perm (List.range n)) (s : Nat) : PS (part M1 R C) (part M2 R C) n s = PS M1 M2 n s := by
  have hRl : R.length = n := by rw [hR.length_eq, List.length_range]
  have hCl : C.length = n := by rw [hC.length_eq, List.length_range]
  have e1 : prs (part M1 R C) (part M2 R C) n = (R.map fun i => (M1.getD i [], M2.getD i [])).map fun r => (C.map fun j => r.1.getD j 0, C.map fun j => r.2.getD j 0) := by
    unfold prs part
    refine List.ext_getElem (by simp [hRl]) fun i h1 h2 => ?_
    have h3 : i < R.length := by simpa using h2
    simp [List.getD_eq_getElem?_getD (l := List.map _ R), List.getElem?_map, List.getElem?_eq_getElem h3]
  unfold PS
  rw [e1, pp_names (fun k => C.getD k 0) (fun r => C.map fun j => r.getD j 0) _ _ _ fun r _ k hk => by
    have hk := List.mem_range.mp hk
    simp [List.getD_eq_getElem?_getD, List.getElem?_eq_getElem (show k < C.length by omega)]]
  have e2 : (List.range n).map (fun k => C.getD k 0) = C := by
    refine List.ext_getElem (by simp [hCl]) fun i h1 h2 => ?_
    simp [List.getD_eq_getElem?_getD, List.getElem?_eq_getElem h2]
  rw [e2, pp_cols _ hC (hC.nodup_iff.mpr List.nodup_range), pp_rows (hR.map _) List.nodup_range]
  rfl
theorem pp_scale (c : Int) : ∀ (rs : RP) (k : Nat) (ra rb ra' rb' : List Int) (cs : List Nat) (s : Nat), rs[k]? = some (ra, rb) → (∀ j, ra'.getD j 0 = c * ra.getD j 0) → (∀ j, rb'.getD j 0 = c * rb.getD j 0) → pp (rs.set k (ra', rb')) cs s = c * pp rs cs s
  | [], k, _, _, _, _, _, _, h, _, _ => by simp at h
  | (qa, qb) :: rs, 0, ra, rb, ra', rb', cs, s, h, h1, h2 => by
    simp only [List.getElem?_cons_zero, Option.some.injEq, Prod.mk.injEq] at h
    obtain ⟨rfl, rfl⟩ := h
    rw [List.set_cons_zero, pp, pp, ← sm_mul]
    refine sm_congr fun p _ => ?_
    rw [h1, h2]; grind
  | (qa, qb) :: rs, k + 1, ra, rb, ra', rb', cs, s, h, h1, h2 => by
    rw [List.getElem?_cons_succ] at h
    rw [List.set_cons_succ, pp, pp, ← sm_mul]
    refine sm_congr fun p _ => ?_
    have ih := fun t => pp_scale c rs k ra rb ra' rb' p.2 t h h1 h2
    rw [ih s]
    cases s with
    | zero => simp only []; grind
    | succ s => simp only []; rw [ih s]; grind
theorem PS_scale (c : Int) {M1 M2 : List (List Int)} {n k : Nat} (h1 : M1.length = n) (h2 : M2.length = n) (hk : k < n) (s : Nat) :
    PS (M1.set k ((M1.getD k []).map fun x => c * x)) (M2.set k ((M2.getD k []).map fun x => c * x)) n s = c * PS M1 M2 n s := by
  have e : prs (M1.set k ((M1.getD k []).map fun x => c * x)) (M2.set k ((M2.getD k []).map fun x => c * x)) n = (prs M1 M2 n).set k ((M1.getD k []).map fun x => c * x, (M2.getD k []).map fun x => c * x) := by
    unfold prs
    refine List.ext_getElem (by simp) fun i h3 h4 => ?_
    have hi : i < n := by simpa using h3
    rw [List.getElem_map, List.getElem_range, List.getElem_set]
    simp only [List.getD_eq_getElem?_getD]
    by_cases e : k = i
    · subst e
      rw [if_pos rfl, List.getElem?_set_self (by omega), List.getElem?_set_self (by omega)]; rfl
    · rw [if_neg e, List.getElem?_set_ne e, List.getElem?_set_ne e]
      simp
  unfold PS
  rw [e]
  have g : ∀ (r : List Int) j, (r.map fun x => c * x).getD j 0 = c * r.getD j 0 := fun r j => by
    simp only [List.getD_eq_getElem?_getD, List.getElem?_map]
    cases r[j]? <;> simp
  exact pp_scale c _ k (M1.getD k []) (M2.getD k []) _ _ _ _ (by simp [prs, hk]) (g _) (g _)
end Tq
end

section
set_option maxRecDepth 20000
/-! TWb: what K32 had of its own and others use too. -/
namespace Tq
open PySem
theorem replI (n : Nat) (x : Int) : (List.replicate ((n : Int).toNat) [T.int x]).flatten = ofInts (List.replicate n x) := by
  rw [Int.toNat_natCast, List.flatten_replicate_singleton]; simp [ofInts]
theorem replR (n : Nat) (r : List Int) : T.tup (List.replicate ((n : Int).toNat) [tuI r]).flatten = tuT (List.replicate n r) := by
  rw [Int.toNat_natCast, List.flatten_replicate_singleton]; simp [tuT]
theorem Sqr.repl {B : Nat} (n : Nat) (x : Int) (h : x.natAbs ≤ B) : Sqr n B (List.replicate n (List.replicate n x)) := by
  refine ⟨by simp, fun r hr => ?_⟩
  rw [(List.mem_replicate.mp hr).2]
  refine ⟨by simp, fun y hy => ?_⟩
  rw [(List.mem_replicate.mp hy).2]; exact h
def addR (a b : List Int) : List Int := List.zipWith (· + ·) a b
def addM (M1 M2 : List (List Int)) : List (List Int) := List.zipWith addR M1 M2
theorem addR_len (a b : List Int) : (addR a b).length = min a.length b.length := by simp [addR]
theorem Sqr.add {n B C : Nat} {M1 M2 : List (List Int)} (h1 : Sqr n B M1) (h2 : Sqr n C M2) : Sqr n (B + C) (addM M1 M2) := by
  refine ⟨by simp [addM, h1.1, h2.1], fun r hr => ?_⟩
  obtain ⟨i, hi, e⟩ := List.mem_iff_getElem.mp hr
  unfold addM at e hi
  rw [List.getElem_zipWith] at e
  rw [List.length_zipWith] at hi
  have a := h1.2 _ (List.getElem_mem (show i < M1.length by omega))
  have b := h2.2 _ (List.getElem_mem (show i < M2.length by omega))
  rw [← e]
  refine ⟨by rw [addR_len, a.1, b.1, Nat.min_self], fun x hx => ?_⟩
  obtain ⟨j, hj, e2⟩ := List.mem_iff_getElem.mp hx
  unfold addR at e2 hj
  rw [List.getElem_zipWith] at e2
  rw [List.length_zipWith] at hj
  have a2 := a.2 _ (List.getElem_mem (show j < M1[i].length by omega))
  have b2 := b.2 _ (List.getElem_mem (show j < M2[i].length by omega))
  rw [← e2]
  have := Int.natAbs_add_le M1[i][j] M2[i][j]
  omega
theorem addM_at {n B C : Nat} {M1 M2 : List (List Int)} (h1 : Sqr n B M1) (h2 : Sqr n C M2) {i : Nat} (hi : i < n) (c : Nat) : ((addM M1 M2).getD i []).getD c 0 = (M1.getD i []).getD c 0 + (M2.getD i []).getD c 0 := by
  have r1 := h1.row hi
  have r2 := h2.row hi
  have e : (addM M1 M2).getD i [] = addR (M1.getD i []) (M2.getD i []) := by
    have l1 : i < M1.length := by rw [h1.1]; exact hi
    have l2 : i < M2.length := by rw [h2.1]; exact hi
    unfold addM
    simp [List.getD_eq_getElem?_getD, List.getElem?_zipWith, List.getElem?_eq_getElem l1, List.getElem?_eq_getElem l2]
  rw [e]
  generalize M1.getD i [] = a at *
  generalize M2.getD i [] = b at *
  unfold addR
  by_cases hc : c < n
  · have l1 : c < a.length := by omega
    have l2 : c < b.length := by omega
    simp [List.getD_eq_getElem?_getD, List.getElem?_zipWith, List.getElem?_eq_getElem l1, List.getElem?_eq_getElem l2]
  · have l1 : a.length ≤ c := by omega
    have l2 : b.length ≤ c := by omega
    simp [List.getD_eq_getElem?_getD, List.getElem?_zipWith, List.getElem?_eq_none l1, List.getElem?_eq_none l2]
theorem zipT_tT (A B : List (List Int)) : zipT (tuT A) (tuT B) = some (zipL (A.map tuI) (B.map tuI)) := by
  unfold tuT; rw [zipT_t, frzL_tI, frzL_tI]
theorem zipT_tI' (A B : List Int) : zipT (tuI A) (tuI B) = some (zipL (ofInts A) (ofInts B)) := by
  unfold tuI; rw [zipT_t, frzL_ofInts, frzL_ofInts]
theorem minL_le : ∀ (xs : List Int) (m : Int), minL m xs ≤ m ∧ ∀ x ∈ xs, minL m xs ≤ x
  | [], m => ⟨Int.le_refl _, fun x h => by cases h⟩
  | x :: xs, m => by
    have h := minL_le xs (if x < m then x else m)
    rw [minL]
    refine ⟨?_, fun y hy => ?_⟩
    · have := h.1; split at this <;> omega
    · rcases List.mem_cons.mp hy with rfl | hy
      · have := h.1; split at this <;> omega
      · exact h.2 y hy
theorem intsL_of (xs : List Int) : intsL (ofInts xs) = some xs := by
  induction xs with
  | nil => rfl
  | cons x xs ih => rw [ofInts, List.map_cons, intsL, show List.map T.int xs = ofInts xs from rfl, ih]; rfl
theorem b_min1 {C : Cn} {r : List Int} (h : 1 ≤ r.length) : ∃ m, biF C .min1 [tuI r] = some (.int m) ∧ ∀ x ∈ r, m ≤ x := by
  cases r with
  | nil => simp at h
  | cons x xs =>
    refine ⟨minL x xs, ?_, fun y hy => ?_⟩
    · show ((some (ofInts (x :: xs))).bind intsL).bind _ = _
      rw [Option.bind_some, intsL_of]; rfl
    · rcases List.mem_cons.mp hy with rfl | hy
      · exact (minL_le xs y).1
      · exact (minL_le xs x).2 y hy
def scrT' (ns : List Int) : T := .scr (ns.map T.int)
theorem cut_map {α β : Type} (f : α → β) (xs : List α) (lo hi : Option Int) : cut (xs.map f) lo hi = (cut xs lo hi).map f := by
  unfold cut
  rw [List.length_map, ← List.map_drop, ← List.map_take]
theorem cut63_len (ns : List Int) : (cut ns none (some 63)).length ≤ 63 := by
  unfold cut clip
  simp
  omega
theorem powOk_10_57 : powOk 10 57 = true := by decide +kernel
theorem powOk_57_4 : powOk ((10 : Int) ^ 57) 4 = true := by decide +kernel
theorem pow_ne57 : (!decide ((((10 : Int) ^ 57) ^ 4) = 0)) = true := by decide +kernel
theorem pow_pos57 : (0 : Int) < (((10 : Int) ^ 57) ^ 4) := by decide +kernel
theorem ten300 : 1000 < 10 ^ 300 := by decide +kernel
theorem wt_ints (m : Nat) : ∀ (r : List Int), (∀ x ∈ r, x.natAbs ≤ 1000) → ((ofInts r).map fun x => x.wt m + 2).sum ≤ 402 * r.length
  | [], _ => by simp [ofInts]
  | x :: xs, h => by
    have ih := wt_ints m xs fun y hy => h y (by simp [hy])
    have hx := h x (by simp)
    have e : (T.int x).wt m = 400 := by
      cases m <;> exact if_pos (Nat.lt_of_le_of_lt hx ten300)
    rw [ofInts, List.map_cons, List.map_cons, List.sum_cons, show List.map T.int xs = ofInts xs from rfl, e, List.length_cons]
    omega
theorem wt_rows (m n : Nat) (hn : n ≤ 8) : ∀ (M : List (List Int)), (∀ r ∈ M, r.length = n ∧ ∀ x ∈ r, x.natAbs ≤ 1000) → ((M.map tuI).map fun x => x.wt (m + 1) + 2).sum ≤ 4002 * M.length
  | [], _ => by simp
  | r :: M, h => by
    have ih := wt_rows m n hn M fun y hy => h y (by simp [hy])
    have hx := h r (by simp)
    have e : (tuI r).wt (m + 1) ≤ 4000 := by
      show 4 + ((ofInts r).map fun x => x.wt m + 2).sum ≤ 4000
      have := wt_ints m r hx.2
      rw [hx.1] at this
      omega
    rw [List.map_cons, List.map_cons, List.sum_cons, List.length_cons]
    omega
theorem wt_tT {n B : Nat} {M : List (List Int)} (h : Sqr n B M) (hn : n ≤ 8) (hB : B ≤ 1000) (m : Nat) : (tuT M).wt (m + 2) ≤ 40000 := by
  show 4 + ((M.map tuI).map fun x => x.wt (m + 1) + 2).sum ≤ 40000
  have := wt_rows m n hn M fun r hr => ⟨(h.2 r hr).1, fun x hx => Nat.le_trans ((h.2 r hr).2 x hx) hB⟩
  rw [h.1] at this
  omega
theorem dpL_rows (m : Nat) (M : List (List Int)) : dpL (m + 1) (M.map tuI) = true := by
  induction M with
  | nil => rw [List.map_nil, dpL]
  | cons r M ih =>
    rw [List.map_cons, dpL, ih, Bool.and_true]
    unfold tuI; rw [T.dp]; exact dpL_ofInts _ _
theorem b_repr2 {C : Cn} {n B : Nat} {M1 M2 : List (List Int)} (h1 : Sqr n B M1) (h2 : Sqr n B M2) (hn : n ≤ 8) (hB : B ≤ 1000) : biF C .repr [.lst true [tuT M1, tuT M2]] = some (.str (C.rp (.lst true [tuT M1, tuT M2]))) := by
  show (if isSq (.lst true [tuT M1, tuT M2]) && wtOk (.lst true [tuT M1, tuT M2]) then some (T.str (C.rp (.lst true [tuT M1, tuT M2]))) else none) = _
  have h1 : wtOk (.lst true [tuT M1, tuT M2]) = true := by
    unfold wtOk
    rw [Bool.and_eq_true, decide_eq_true_eq]
    constructor
    · have a : (tuT M1).wt 6 ≤ 40000 := wt_tT h1 hn hB 4
      have b : (tuT M2).wt 6 ≤ 40000 := wt_tT h2 hn hB 4
      show 4 + ([tuT M1, tuT M2].map fun x => x.wt 6 + 2).sum ≤ 1000000
      simp only [List.map_cons, List.map_nil, List.sum_cons, List.sum_nil]
      omega
    · have d : ∀ r : List (List Int), (tuT r).dp 6 = true := fun r => by unfold tuT; rw [T.dp]; exact dpL_rows _ _
      rw [T.dp, dpL, dpL, dpL, d, d]; rfl
  rw [h1]; rfl
theorem c_eq_str (x y : Str) : cm .eq (.str x) (.str y) = some (decide (x = y)) := by
  show (if sc2 (.str x) (.str y) || (T.dp 8 (.str x) && T.dp 8 (.str y)) then some (T.eq (.str x) (.str y)) else none) = _
  rw [show sc2 (.str x) (.str y) = true from rfl, Bool.true_or, if_pos rfl, T.eq]
theorem b_sum_row {C : Cn} (n : Nat) (f : Nat → Int) : biF C .sum [.tup (rowI n f)] = some (.int (sm (List.range n) f)) := by
  show ((some (rowI n f)).bind intsL).map (fun ns => T.int ns.sum) = _
  rw [rowI_ints, Option.bind_some, intsL_of]; rfl
theorem row_rev (M1 M2 : List (List Int)) (n : Nat) : T.tup (rowI (n + 1) (PS M1 M2 n)).reverse = .tup (rowI (n + 1) (PS M2 M1 n)) := by
  congr 1
  refine List.ext_getElem (by simp [rowI]) fun i h1 h2 => ?_
  have hi : i < n + 1 := by simpa [rowI] using h2
  rw [List.getElem_reverse]
  simp only [rowI, List.length_map, List.length_range, List.getElem_map, List.getElem_range]
  rw [PS_rev (show i ≤ n by omega)]
  congr 2
def negM (M : List (List Int)) : List (List Int) := M.map fun r => r.map fun x => 0 - x
theorem Sqr.neg {n B : Nat} {M : List (List Int)} (h : Sqr n B M) : Sqr n B (negM M) := by
  refine ⟨by simp [negM, h.1], fun r hr => ?_⟩
  obtain ⟨r', hr', rfl⟩ := List.mem_map.mp hr
  refine ⟨by simp [(h.2 r' hr').1], fun x hx => ?_⟩
  obtain ⟨y, hy, rfl⟩ := List.mem_map.mp hx
  have := (h.2 r' hr').2 y hy
  omega
theorem Sqr.part {n B : Nat} {M : List (List Int)} (h : Sqr n B M) {R C : List Nat} (hR : R.length = n) (hC : C.length = n) : Sqr n B (part M R C) := by
  refine ⟨by simp [Tq.part, hR], fun r hr => ?_⟩
  obtain ⟨i, hi, rfl⟩ := List.mem_map.mp hr
  refine ⟨by simp [hC], fun x hx => ?_⟩
  obtain ⟨j, hj, rfl⟩ := List.mem_map.mp hx
  exact h.getD i j
theorem Sqr.mono {n B C : Nat} {M : List (List Int)} (h : Sqr n B M) (hBC : B ≤ C) : Sqr n C M := ⟨h.1, fun r hr => ⟨(h.2 r hr).1, fun x hx => Nat.le_trans ((h.2 r hr).2 x hx) hBC⟩⟩
theorem Sqr.bd {n B : Nat} {M : List (List Int)} (h : Sqr n B M) (hB : B ≤ 1000000) : ∀ r ∈ M, ∀ x ∈ r, -18446744073709551616 < x ∧ x < 18446744073709551616 := fun r hr x hx => by
  have := (h.2 r hr).2 x hx
  omega
theorem Sqr.len {n B : Nat} {M : List (List Int)} (h : Sqr n B M) : ∀ r ∈ M, r.length = n := fun r hr => (h.2 r hr).1
/-- row k times c -/
def mulR (M : List (List Int)) (k : Nat) (c : Int) : List (List Int) := M.set k ((M.getD k []).map fun x => c * x)
theorem Sqr.mul {n B : Nat} {M : List (List Int)} (h : Sqr n B M) {k : Nat} (hk : k < n) (c : Int) (hc : c.natAbs ≤ 2) : Sqr n (2 * B) (mulR M k c) := by
  refine ⟨by simp [mulR, h.1], fun r hr => ?_⟩
  rcases List.mem_or_eq_of_mem_set hr with hr | rfl
  · exact ⟨(h.2 r hr).1, fun x hx => by have := (h.2 r hr).2 x hx; omega⟩
  · have e := (h.row hk)
    have hm : M.getD k [] ∈ M := List.mem_of_getElem? e.1
    refine ⟨by rw [List.length_map, e.2], fun x hx => ?_⟩
    obtain ⟨y, hy, rfl⟩ := List.mem_map.mp hx
    have := (h.2 _ hm).2 y hy
    rw [Int.natAbs_mul]
    exact Nat.mul_le_mul hc this
theorem set_mulR (M : List (List Int)) {k : Nat} (h : k < M.length) (c : Int) : mulR M k c = M.take k ++ [(M.getD k []).map fun x => c * x] ++ M.drop (k + 1) := by
  unfold mulR
  rw [List.set_eq_take_append_cons_drop, if_pos h]; simp
theorem cut_to {α : Type} (xs : List α) (p : Nat) : cut xs none (some (p : Int)) = xs.take p := by
  unfold cut clip
  simp only [List.drop_zero, Nat.sub_zero]
  rw [if_neg (by omega), Int.toNat_natCast]
  rcases Nat.le_total p xs.length with h | h
  · rw [Nat.min_eq_left h]
  · rw [Nat.min_eq_right h, List.take_length, List.take_of_length_le h]
theorem cut_from {α : Type} (xs : List α) (p : Nat) : cut xs (some (p : Int)) none = xs.drop p := by
  unfold cut clip
  simp only []
  rw [if_neg (by omega), Int.toNat_natCast]
  rcases Nat.le_total p xs.length with h | h
  · rw [Nat.min_eq_left h]
    rw [List.take_of_length_le]; simp
  · rw [Nat.min_eq_right h, List.drop_length, List.drop_of_length_le h]; simp

/-! repr of what is small; conditional rules -/
theorem b_repr_ok {C : Cn} {t : T} (h1 : isSq t = true) (h2 : wtOk t = true) : biF C .repr [t] = some (.str (C.rp t)) := by
  show (if isSq t && wtOk t then some (T.str (C.rp t)) else none) = _
  rw [h1, h2]; rfl
theorem b_repr1 {C : Cn} {n B : Nat} {M : List (List Int)} (h1 : Sqr n B M) (hn : n ≤ 8) (hB : B ≤ 1000) : biF C .repr [tuT M] = some (.str (C.rp (tuT M))) := by
  refine b_repr_ok rfl ?_
  unfold wtOk
  rw [Bool.and_eq_true, decide_eq_true_eq]
  constructor
  · have a : (tuT M).wt 7 ≤ 40000 := wt_tT h1 hn hB 5
    omega
  · unfold tuT; rw [T.dp]; exact dpL_rows _ _
theorem dLL {n : Nat} (h : n ≤ 16777216) : decide (n ≤ LL) = true := decide_eq_true h
theorem dLT {n : Nat} (h : n < 16777216) : decide (n < LL) = true := decide_eq_true h
theorem getI_T' {M : List (List Int)} {i : Nat} (h : i < M.length) : getI (tuT M) (.int (i : Int)) = some (tuI (M.getD i [])) :=
  getI_tT (by rw [List.getD_eq_getElem?_getD, List.getElem?_eq_getElem h]; rfl)
theorem getI_I' {r : List Int} {i : Nat} (h : i < r.length) : getI (tuI r) (.int (i : Int)) = some (.int (r.getD i 0)) :=
  getI_tI (by rw [List.getD_eq_getElem?_getD, List.getElem?_eq_getElem h]; rfl)
theorem getI_L' (o : Bool) {r : List Int} {i : Nat} (h : i < r.length) : getI (.lst o (ofInts r)) (.int (i : Int)) = some (.int (r.getD i 0)) := by
  rw [getI_l o _ i (by rw [ofInts_len]; exact h)]
  simp [ofInts, List.getD_eq_getElem?_getD, List.getElem?_eq_getElem h]
theorem etI (xs : List Int) : T.tup (ofInts xs) = tuI xs := id rfl
theorem etT (xs : List (List Int)) : T.tup (xs.map tuI) = tuT xs := id rfl
theorem mulOk_l' {i j : Int} (h : -18446744073709551616 < i) (h' : i < 18446744073709551616) : mulOk i j = true := mulOk_l h h'
theorem mulOk_r' {i j : Int} (h : -18446744073709551616 < j) (h' : j < 18446744073709551616) : mulOk i j = true := mulOk_r h h'
end Tq
end

section
/-! TWc: sums of principal parts: of a table with m more along the diagonal. -/
namespace Tq
open PySem
theorem ss_congr' {m : Nat} : ∀ {xs : List Nat} {m : Nat} {f g : List Nat → List Nat → Int}, xs.Nodup → (∀ a b, (∀ x ∈ a, x ∈ xs) → (∀ x ∈ b, x ∈ xs) → xs.filter (fun x => !b.contains x) = a → a.length = m → b.length + m = xs.length → f a b = g a b) → ss xs m f = ss xs m g
  | [], 0, f, g, _, h => by
    rw [ss, ss]; exact h [] [] (by simp) (by simp) rfl rfl rfl
  | [], m + 1, f, g, _, h => rfl
  | x :: xs, 0, f, g, hd, h => by
    rw [List.nodup_cons] at hd
    rw [ss, ss]
    refine ss_congr' (m := 0) hd.2 fun a b ha hb e hl hl2 => h a (x :: b) (fun y hy => List.mem_cons_of_mem _ (ha y hy)) (fun y hy => ?_) ?_ hl (by simp; omega)
    · rcases List.mem_cons.mp hy with rfl | hy
      · simp
      · exact List.mem_cons_of_mem _ (hb y hy)
    · rw [List.filter_cons_of_neg (by simp), ← e]
      refine List.filter_congr fun y hy => ?_
      have : y ≠ x := by rintro rfl; exact hd.1 hy
      simp [this]
  | x :: xs, m + 1, f, g, hd, h => by
    rw [List.nodup_cons] at hd
    rw [ss, ss]
    congr 1
    · refine ss_congr' (m := 0) hd.2 fun a b ha hb e hl hl2 => h (x :: a) b (fun y hy => ?_) (fun y hy => List.mem_cons_of_mem _ (hb y hy)) ?_ (by simp [hl]) (by simp; omega)
      · rcases List.mem_cons.mp hy with rfl | hy
        · simp
        · exact List.mem_cons_of_mem _ (ha y hy)
      · have : x ∉ b := fun h => hd.1 (hb x h)
        rw [List.filter_cons_of_pos (by simpa using this), e]
    · refine ss_congr' (m := 0) hd.2 fun a b ha hb e hl hl2 => h a (x :: b) (fun y hy => List.mem_cons_of_mem _ (ha y hy)) (fun y hy => ?_) ?_ hl (by simp; omega)
      · rcases List.mem_cons.mp hy with rfl | hy
        · simp
        · exact List.mem_cons_of_mem _ (hb y hy)
      · rw [List.filter_cons_of_neg (by simp), ← e]
        refine List.filter_congr fun y hy => ?_
        have : y ≠ x := by rintro rfl; exact hd.1 hy
        simp [this]
/-- m at place i -/
def unitR (m : Int) (i : Nat) : List Int := List.replicate i 0 ++ [m]
theorem unitR_at (m : Int) (i c : Nat) : (unitR m i).getD c 0 = if c = i then m else 0 := by
  unfold unitR
  rw [List.getD_eq_getElem?_getD]
  by_cases h : c < i
  · rw [List.getElem?_append_left (by simpa using h)]
    simp [h, Nat.ne_of_lt h]
  · by_cases h2 : c = i
    · subst h2; simp
    · rw [List.getElem?_eq_none (by simp; omega)]; simp [h2]
theorem sm_one {cs : List Nat} (hd : cs.Nodup) (i : Nat) (v : Int) (f : Nat → Int) (h : f i = v) : sm cs (fun c => if c = i then f c else 0) = if i ∈ cs then v else 0 := by
  induction cs with
  | nil => simp [sm]
  | cons x xs ih =>
    rw [List.nodup_cons] at hd
    rw [sm_cons, ih hd.2]
    by_cases hx : x = i
    · subst hx; simp [hd.1, h]
    · have : i ≠ x := fun e => hx e.symm
      simp [hx, this]
theorem filter_sub (cs b : List Nat) (i : Nat) : (cs.filter (· ≠ i)).filter (fun x => !b.contains x) = cs.filter fun x => !(i :: b).contains x := by
  rw [List.filter_filter]
  refine List.filter_congr fun y _ => ?_
  by_cases h : y = i
  · subst h; simp
  · simp [h]
theorem filter_sub2 (cs b : List Nat) (i : Nat) : (cs.filter (fun x => !b.contains x)).filter (· ≠ i) = (cs.filter (· ≠ i)).filter (fun x => !b.contains x) := by
  rw [List.filter_filter, List.filter_filter]
  exact List.filter_congr fun y _ => Bool.and_comm _ _
theorem pp_diag (A : Nat → List Int) (m : Int) : ∀ (R : List Nat) (cs : List Nat) (s : Nat), R.Nodup → cs.Nodup → pp (R.map fun i => (A i, unitR m i)) cs s = ss R s fun a b => if ∀ x ∈ b, x ∈ cs then m ^ b.length * per (a.map A) (cs.filter fun x => !b.contains x) else 0
  | [], cs, 0, _, _ => by
    have e : cs.filter (fun x => !([] : List Nat).contains x) = cs := List.filter_eq_self.mpr fun x _ => by simp
    rw [ss, e]; simp [pp, per]
  | [], cs, s + 1, _, _ => by simp [pp, ss]
  | i :: R, cs, s, hR, hc => by
    rw [List.nodup_cons] at hR
    rw [List.map_cons, pp_nd _ _ _ hc]
    have e1 : ∀ s, sm cs (fun c => (unitR m i).getD c 0 * pp (R.map fun i => (A i, unitR m i)) (cs.filter (· ≠ c)) s) = ss R s fun a b => if ∀ x ∈ i :: b, x ∈ cs then m ^ (i :: b).length * per (a.map A) (cs.filter fun x => !(i :: b).contains x) else 0 := fun s => by
      rw [sm_congr (g := fun c => if c = i then m * pp (R.map fun i => (A i, unitR m i)) (cs.filter (· ≠ c)) s else 0) fun c _ => by rw [unitR_at]; split <;> simp,
        sm_one hc i _ _ rfl, pp_diag A m R _ s hR.2 (List.Nodup.sublist List.filter_sublist hc)]
      by_cases hi : i ∈ cs
      · rw [if_pos hi, ← ss_mul]
        refine ss_congr' (m := 0) hR.2 fun a b ha hb _ _ _ => ?_
        have hib : i ∉ b := fun h => hR.1 (hb i h)
        have e : (∀ x ∈ b, x ∈ cs.filter (· ≠ i)) ↔ ∀ x ∈ i :: b, x ∈ cs := by
          constructor
          · intro h x hx
            rcases List.mem_cons.mp hx with rfl | hx
            · exact hi
            · exact (List.mem_filter.mp (h x hx)).1
          · intro h x hx
            exact List.mem_filter.mpr ⟨h x (List.mem_cons_of_mem _ hx), by simp; rintro rfl; exact hib hx⟩
        by_cases h : ∀ x ∈ i :: b, x ∈ cs
        · rw [if_pos h, if_pos (e.mpr h), filter_sub, List.length_cons, Int.pow_succ]; grind
        · rw [if_neg h, if_neg (fun h2 => h (e.mp h2))]; simp
      · rw [if_neg hi]
        rw [ss_congr (g := fun _ _ => 0) fun a b => if_neg fun h => hi (h i (by simp)), ss_nul]
    cases s with
    | zero =>
      rw [ss, ← e1 0]
      exact sm_congr fun c _ => by simp
    | succ s =>
      rw [ss, ← e1 (s + 1), sm_add]
      rw [Int.add_comm]
      congr 1
      have e2 : ∀ a b : List Nat, (if ∀ x ∈ b, x ∈ cs then m ^ b.length * per ((i :: a).map A) (cs.filter fun x => !b.contains x) else 0) = sm cs fun c => (A i).getD c 0 * if ∀ x ∈ b, x ∈ cs.filter (· ≠ c) then m ^ b.length * per (a.map A) ((cs.filter (· ≠ c)).filter fun x => !b.contains x) else 0 := fun a b => by
        rw [List.map_cons, per, picks_sm _ (List.Nodup.sublist List.filter_sublist hc) fun c l => (A i).getD c 0 * per (a.map A) l, sm_filter]
        by_cases h : ∀ x ∈ b, x ∈ cs
        · rw [if_pos h, ← sm_mul]
          refine sm_congr fun c hcm => ?_
          by_cases hb : c ∈ b
          · rw [if_neg (by simpa using hb), if_neg fun h => by have := h c hb; simp at this]; simp
          · have h2 : ∀ x ∈ b, x ∈ cs.filter (· ≠ c) := fun x hx => List.mem_filter.mpr ⟨h x hx, by simp; rintro rfl; exact hb hx⟩
            rw [if_pos (by simpa using hb), if_pos h2, filter_sub2]; grind
        · rw [if_neg h]
          rw [sm_congr (g := fun _ => 0) fun c _ => by rw [if_neg fun h2 => h fun x hx => (List.mem_filter.mp (h2 x hx)).1]; simp, sm_zero]
      rw [ss_congr e2, ss_sm]
      refine sm_congr fun c _ => ?_
      rw [ss_mul, ← pp_diag A m R _ s hR.2 (List.Nodup.sublist List.filter_sublist hc)]
/-- over all lots of so many: the whole sum of the rows and columns of one lot -/
def SP (M : List (List Int)) (n q : Nat) : Int := ss (List.range n) q fun a _ => per (rowsAt M a) a
theorem SP_lots (M : List (List Int)) (n q : Nat) : sm (lotsR (List.range n) q) (fun l => per (rowsAt M l) l) = SP M n q :=
  ss_lots (List.range n) List.nodup_range q fun a _ => per (rowsAt M a) a
theorem SP_mk (M : List (List Int)) (n q : Nat) : sm (mk n) (fun p => if p.1.length = q then per (rowsAt M p.1) p.1 else 0) = SP M n q :=
  mk_ss n q fun a _ => per (rowsAt M a) a
def pv (c : Nat → Int) (n : Nat) (x : Int) : Int := sm (List.range (n + 1)) fun r => c r * x ^ r
theorem sm_rev (n : Nat) (f : Nat → Int) : sm (List.range (n + 1)) f = sm (List.range (n + 1)) fun i => f (n - i) := by
  induction n generalizing f with
  | zero => rfl
  | succ n ih =>
    rw [sm_range_last, ih, sm_range_succ (n + 1) fun i => f (n + 1 - i), Int.add_comm]
    congr 1
    exact sm_congr fun i hi => by have := List.mem_range.mp hi; congr 1; omega
/-- m more along the diagonal -/
theorem SP_more {M M3 : List (List Int)} {n : Nat} (m : Int) (h3 : M3.length = n) (h : ∀ i, i < n → ∀ c, (M3.getD i []).getD c 0 = (M.getD i []).getD c 0 + if c = i then m else 0) : per M3 (List.range n) = pv (fun r => SP M n (n - r)) n m := by
  have e := pp_sum ((List.range n).map fun i => (M.getD i [], unitR m i)) M3 (List.range n) (by simp [h3]) fun i h1 h2 c => by
    have h1 : i < n := by simpa using h1
    have := h i h1 c
    rw [show M3.getD i [] = M3[i] by simp [List.getD_eq_getElem?_getD, List.getElem?_eq_getElem h2]] at this
    rw [this]
    simp only [List.getElem_map, List.getElem_range, unitR_at]
  rw [List.length_map, List.length_range] at e
  rw [← e, sm_rev]
  unfold pv
  refine sm_congr fun r hr => ?_
  have hr := List.mem_range.mp hr
  rw [pp_diag _ m _ _ _ List.nodup_range List.nodup_range]
  unfold SP
  rw [Int.mul_comm, ← ss_mul]
  refine ss_congr' (m := 0) List.nodup_range fun a b ha hb e hl hl2 => ?_
  rw [if_pos hb, e]
  rw [List.length_range] at hl2
  rw [show b.length = r by omega]; rfl
/-! two sums of powers that are the same everywhere -/
theorem pv_succ (c : Nat → Int) (n : Nat) (x : Int) : pv c (n + 1) x = c 0 + x * pv (fun r => c (r + 1)) n x := by
  unfold pv
  rw [sm_range_succ, ← sm_mul]
  simp only [Int.pow_zero, Int.mul_one]
  congr 1
  exact sm_congr fun r _ => by rw [Int.pow_succ]; grind
theorem pv_zero_all : ∀ (n : Nat) (c : Nat → Int), (∀ x : Int, 1 ≤ x → pv c n x = 0) → ∀ r, r ≤ n → c r = 0
  | 0, c, h, r, hr => by
    have := h 1 (by omega)
    have hr : r = 0 := by omega
    subst hr
    simpa [pv, sm] using this
  | n + 1, c, h, r, hr => by
    have h0 : c 0 = 0 := by
      have h1 := h (((c 0).natAbs : Int) + 1) (by omega)
      rw [pv_succ] at h1
      generalize pv (fun r => c (r + 1)) n _ = z at h1
      have h2 : (((c 0).natAbs : Int) + 1) ∣ c 0 := ⟨-z, by grind⟩
      have h3 := Int.natAbs_dvd_natAbs.mpr h2
      rcases Nat.eq_zero_or_pos (c 0).natAbs with h4 | h4
      · omega
      · have := Nat.le_of_dvd h4 h3
        omega
    cases r with
    | zero => exact h0
    | succ r =>
      refine pv_zero_all n (fun r => c (r + 1)) (fun x hx => ?_) r (by omega)
      have h1 := h x hx
      rw [pv_succ, h0, Int.zero_add] at h1
      rcases Int.mul_eq_zero.mp h1 with h2 | h2
      · omega
      · exact h2
theorem pv_sub (c d : Nat → Int) (n : Nat) (x : Int) : pv (fun r => c r - d r) n x = pv c n x - pv d n x := by
  unfold pv
  have := sm_add (List.range (n + 1)) (fun r => (c r - d r) * x ^ r) (fun r => d r * x ^ r)
  have e : sm (List.range (n + 1)) (fun r => (c r - d r) * x ^ r + d r * x ^ r) = sm (List.range (n + 1)) fun r => c r * x ^ r := sm_congr fun r _ => by grind
  simp only []
  omega
theorem pv_ext {c d : Nat → Int} {n : Nat} (h : ∀ x : Int, pv c n x = pv d n x) {r : Nat} (hr : r ≤ n) : c r = d r := by
  have := pv_zero_all n (fun r => c r - d r) (fun x _ => by rw [pv_sub, h]; omega) r hr
  omega
/-! lots of so many, as a number; and x + m for x -/
def ch : Nat → Nat → Nat
  | _, 0 => 1
  | 0, _ + 1 => 0
  | n + 1, k + 1 => ch n k + ch n (k + 1)
theorem ch_big : ∀ (n k : Nat), n < k → ch n k = 0
  | 0, k + 1, _ => rfl
  | n + 1, k + 1, h => by rw [ch, ch_big n k (by omega), ch_big n (k + 1) (by omega)]
theorem ch_zero (n : Nat) : ch n 0 = 1 := by cases n <;> rfl
theorem ch_step : ∀ (n k : Nat), ch n k * (n - k) = ch n (k + 1) * (k + 1)
  | 0, 0 => rfl
  | 0, k + 1 => by simp [ch]
  | n + 1, 0 => by
    have := ch_step n 0
    rw [ch, ch, ch_zero] at *
    simp at *; omega
  | n + 1, k + 1 => by
    by_cases h : k + 1 ≤ n
    · have h1 := ch_step n k
      have h2 := ch_step n (k + 1)
      rw [ch, ch]
      obtain ⟨d, rfl⟩ : ∃ d, n = k + 1 + d := ⟨n - (k + 1), by omega⟩
      rw [show k + 1 + d - k = d + 1 by omega] at h1
      rw [show k + 1 + d - (k + 1) = d by omega] at h2
      rw [show k + 1 + d + 1 - (k + 1) = d + 1 by omega]
      grind
    · rw [ch_big (n + 1) (k + 1 + 1) (by omega), show n + 1 - (k + 1) = 0 by omega]; simp
theorem sm_ch (r : Nat) (m x : Int) : (x + m) ^ r = sm (List.range (r + 1)) fun s => (ch r s : Int) * m ^ (r - s) * x ^ s := by
  induction r with
  | zero => simp [sm, ch]
  | succ r ih =>
    rw [Int.pow_succ, ih, sm_range_succ (r + 1)]
    have e1 : sm (List.range (r + 1)) (fun i => ((ch (r + 1) (i + 1) : Nat) : Int) * m ^ (r + 1 - (i + 1)) * x ^ (i + 1)) = x * sm (List.range (r + 1)) (fun s => (ch r s : Int) * m ^ (r - s) * x ^ s) + sm (List.range (r + 1)) fun i => ((ch r (i + 1) : Nat) : Int) * m ^ (r - i) * x ^ (i + 1) := by
      rw [← sm_mul, ← sm_add]
      refine sm_congr fun i _ => ?_
      rw [ch, show r + 1 - (i + 1) = r - i by omega, Int.pow_succ, Int.natCast_add]; grind
    have e2 : m * sm (List.range (r + 1)) (fun s => (ch r s : Int) * m ^ (r - s) * x ^ s) = ((ch (r + 1) 0 : Nat) : Int) * m ^ (r + 1 - 0) * x ^ 0 + sm (List.range (r + 1)) fun i => ((ch r (i + 1) : Nat) : Int) * m ^ (r - i) * x ^ (i + 1) := by
      rw [← sm_mul, sm_range_succ, sm_range_last r fun i => ((ch r (i + 1) : Nat) : Int) * m ^ (r - i) * x ^ (i + 1), ch_big r (r + 1) (by omega), ch_zero, ch_zero]
      have : sm (List.range r) (fun i => m * ((ch r (i + 1) : Int) * m ^ (r - (i + 1)) * x ^ (i + 1))) = sm (List.range r) fun i => ((ch r (i + 1) : Nat) : Int) * m ^ (r - i) * x ^ (i + 1) := sm_congr fun i hi => by
        have := List.mem_range.mp hi
        rw [show r - i = (r - (i + 1)) + 1 by omega, Int.pow_succ]; grind
      rw [this, Nat.sub_zero, Nat.sub_zero, Int.pow_succ]; grind
    rw [e1]
    grind
/-- coefficients of p(x + m) -/
def sh_ (c : Nat → Int) (n : Nat) (m : Int) (s : Nat) : Int := sm (List.range (n + 1)) fun r => if s ≤ r then (ch r s : Int) * m ^ (r - s) * c r else 0
theorem sm_upto (n r : Nat) (hr : r ≤ n) (f : Nat → Int) : sm (List.range (n + 1)) (fun s => if s ≤ r then f s else 0) = sm (List.range (r + 1)) f := by
  induction n with
  | zero =>
    have : r = 0 := by omega
    subst this
    exact sm_congr fun s hs => by have := List.mem_range.mp hs; rw [if_pos (by omega)]
  | succ n ih =>
    rcases Nat.lt_or_ge r (n + 1) with h | h
    · rw [sm_range_last, ih (by omega), if_neg (by omega), Int.add_zero]
    · have : r = n + 1 := by omega
      subst this
      exact sm_congr fun s hs => by have := List.mem_range.mp hs; rw [if_pos (by omega)]
theorem pv_sh (c : Nat → Int) (n : Nat) (m x : Int) : pv c n (x + m) = pv (sh_ c n m) n x := by
  unfold pv sh_
  have e : ∀ s, sm (List.range (n + 1)) (fun r => if s ≤ r then (ch r s : Int) * m ^ (r - s) * c r else 0) * x ^ s = sm (List.range (n + 1)) fun r => if s ≤ r then (ch r s : Int) * m ^ (r - s) * x ^ s * c r else 0 := fun s => by
    rw [Int.mul_comm, ← sm_mul]
    exact sm_congr fun r _ => by split <;> grind
  rw [sm_congr fun s _ => e s, sm_comm]
  refine sm_congr fun r hr => ?_
  have hr := List.mem_range.mp hr
  rw [sm_upto n r (by omega) fun s => (ch r s : Int) * m ^ (r - s) * x ^ s * c r, sm_ch r m x, ← sm_mul]
  exact sm_congr fun s _ => by grind
end Tq
end

section
/-! TWd: comprehensions and loops over what is told by a list of Lean's own. -/
namespace Tq
open PySem
variable {ε : Env}
theorem lc_of {α : Type} {tg : Tg} {own : List Nat} {cs : Env → R Bool} {e : Env → R T} {Q : List T → Env → Prop} (enc : α → T) (g : α → T) (ys : List α)
    (hs : ∀ y ∈ ys, Blk (WV (asg tg (enc y) ε) fun ε1 => WR (cs ε1) fun b ε2 => b = true ∧ WR (e ε2) fun t ε3 => t = g y ∧ wipe ε3 own = ε))
    (hq : Q (ys.map g) ε) : WR (lcL tg own cs e (ys.map enc) [] ε) Q := by
  refine lc_inv (fun i acc ε' => acc = (ys.take i).map g ∧ ε' = ε) _ ?_ ?_ ⟨rfl, rfl⟩
  · rintro i x acc ε' hx ⟨rfl, rfl⟩
    rw [List.getElem?_map] at hx
    obtain ⟨y, hy, rfl⟩ := Option.map_eq_some_iff.mp hx
    have := hs y (List.mem_of_getElem? hy)
    rw [Blk_eq] at this ⊢
    cases ha : asg tg (enc y) ε' with
    | none => rw [ha] at this; exact this.elim
    | some ε1 =>
      rw [ha, WV_some] at this
      rw [WV_some]
      refine WR_mono this ?_
      rintro b ε2 ⟨rfl, h⟩
      rw [WB_true]
      refine WR_mono h ?_
      rintro t ε3 ⟨rfl, h2⟩
      refine ⟨?_, h2⟩
      rw [List.take_add_one, hy]
      simp
  · rintro acc ε' ⟨rfl, rfl⟩
    rw [List.length_map, List.take_length]; exact hq
theorem for_of {α : Type} {tg : Tg} {body : Env → O} {P : Po} (enc : α → T) (I : Nat → Env → Prop) (ys : List α)
    (hs : ∀ i y ε, ys[i]? = some y → I i ε → Blk (WV (asg tg (enc y) ε) fun ε1 => WO (body ε1) ⟨I (i + 1), P.ret, P.nx, I (i + 1)⟩))
    (hq : ∀ ε, I ys.length ε → P.nx ε) (h0 : I 0 ε) : WO (forL tg body (ys.map enc) ε) P := by
  refine for_inv I _ ?_ ?_ h0
  · rintro i x ε hx hI
    rw [List.getElem?_map] at hx
    obtain ⟨y, hy, rfl⟩ := Option.map_eq_some_iff.mp hx
    exact hs i y ε hy hI
  · intro ε h
    rw [List.length_map] at h
    exact hq ε h
/-- over range(n) -/
theorem rngL_map (lo : Int) (n : Nat) (c : Int) : rngL lo n c = (List.range n).map fun i => .int (lo + (i : Int) * c) := rfl
theorem lc_rng {tg : Tg} {own : List Nat} {cs : Env → R Bool} {e : Env → R T} {Q : List T → Env → Prop} (g : Nat → T) {n : Nat}
    (hs : ∀ i, i < n → Blk (WV (asg tg (.int (i : Int)) ε) fun ε1 => WR (cs ε1) fun b ε2 => b = true ∧ WR (e ε2) fun t ε3 => t = g i ∧ wipe ε3 own = ε))
    (hq : Q ((List.range n).map g) ε) : WR (lcL tg own cs e (rngL 0 n 1) [] ε) Q := by
  have e : rngL 0 n 1 = (List.range n).map fun (i : Nat) => T.int (i : Int) := by
    rw [rngL_map]; exact List.map_congr_left fun i _ => by congr 1; omega
  rw [e]
  exact lc_of _ g _ (fun i hi => hs i (List.mem_range.mp hi)) hq
theorem for_rng {tg : Tg} {body : Env → O} {P : Po} (I : Nat → Env → Prop) {n : Nat}
    (hs : ∀ i ε, i < n → I i ε → Blk (WV (asg tg (.int (i : Int)) ε) fun ε1 => WO (body ε1) ⟨I (i + 1), P.ret, P.nx, I (i + 1)⟩))
    (hq : ∀ ε, I n ε → P.nx ε) (h0 : I 0 ε) : WO (forL tg body (rngL 0 n 1) ε) P := by
  refine for_inv I _ ?_ ?_ h0
  · rintro i x ε hx hI
    obtain ⟨hi, rfl⟩ := rgAt hx
    rw [show (0 : Int) + (i : Int) * 1 = (i : Int) by omega]
    exact hs i ε hi hI
  · intro ε h
    rw [rgLen] at h
    exact hq ε h
/-- tables by their items -/
def tab (n m : Nat) (f : Nat → Nat → Int) : List (List Int) := (List.range n).map fun i => (List.range m).map (f i)
theorem tab_tuI (n m : Nat) (f : Nat → Nat → Int) : (List.range n).map (fun i => tuI ((List.range m).map (f i))) = (tab n m f).map tuI := by
  unfold tab; rw [List.map_map]; rfl
theorem tab_of {n m : Nat} {M : List (List Int)} (h : M.length = n) (h2 : ∀ r ∈ M, r.length = m) : tab n m (fun i j => (M.getD i []).getD j 0) = M := by
  unfold tab
  refine List.ext_getElem (by simp [h]) fun i h1 h3 => ?_
  rw [List.getElem_map, List.getElem_range]
  have e : M.getD i [] = M[i] := by simp [List.getD_eq_getElem?_getD, List.getElem?_eq_getElem h3]
  show List.map (fun j => (M.getD i []).getD j 0) (List.range m) = M[i]
  rw [e]
  have hl := h2 M[i] (List.getElem_mem h3)
  refine List.ext_getElem (by simp [hl]) fun j h4 h5 => ?_
  simp [List.getD_eq_getElem?_getD, List.getElem?_eq_getElem h5]
theorem tab_row {n m : Nat} (f : Nat → Nat → Int) {i : Nat} (h : i < n) : (tab n m f).getD i [] = (List.range m).map (f i) := by
  simp [tab, List.getD_eq_getElem?_getD, h]
theorem range_getD {m : Nat} (f : Nat → Int) (j : Nat) : ((List.range m).map f).getD j 0 = if j < m then f j else 0 := by
  rw [List.getD_eq_getElem?_getD, List.getElem?_map]
  by_cases h : j < m
  · simp [h]
  · rw [List.getElem?_eq_none (by simpa using h), if_neg h]; rfl
theorem tab_getD {n m : Nat} (f : Nat → Nat → Int) {i j : Nat} (h : i < n) (h2 : j < m) : ((tab n m f).getD i []).getD j 0 = f i j := by
  rw [tab_row f h, range_getD, if_pos h2]
theorem tab_Sqr {n B : Nat} {f : Nat → Nat → Int} (h : ∀ i j, i < n → j < n → (f i j).natAbs ≤ B) : Sqr n B (tab n n f) := by
  refine ⟨by simp [tab], fun r hr => ?_⟩
  obtain ⟨i, hi, rfl⟩ := List.mem_map.mp hr
  refine ⟨by simp, fun x hx => ?_⟩
  obtain ⟨j, hj, rfl⟩ := List.mem_map.mp hx
  exact h i j (List.mem_range.mp hi) (List.mem_range.mp hj)
theorem tab_congr {n m : Nat} {f g : Nat → Nat → Int} (h : ∀ i j, i < n → j < m → f i j = g i j) : tab n m f = tab n m g := by
  unfold tab
  refine List.map_congr_left fun i hi => List.map_congr_left fun j hj => h i j (List.mem_range.mp hi) (List.mem_range.mp hj)
theorem tab_len (n m : Nat) (f : Nat → Nat → Int) : (tab n m f).length = n := by simp [tab]
theorem rowI_ofInts (n : Nat) (f : Nat → Int) : List.map (fun j => T.int (f j)) (List.range n) = ofInts ((List.range n).map f) := rowI_ints n f
theorem ofInts_map {α : Type} (f : α → Int) (xs : List α) : List.map (fun j => T.int (f j)) xs = ofInts (xs.map f) := by
  simp [ofInts]
theorem b_sum_ints {C : Cn} (o : Bool) (xs : List Int) : biF C .sum [.lst o (ofInts xs)] = some (.int xs.sum) := by
  show ((some (ofInts xs)).bind intsL).map (fun ns => T.int ns.sum) = _
  rw [Option.bind_some, intsL_of]; rfl
theorem b_sum_intsT {C : Cn} (xs : List Int) : biF C .sum [.tup (ofInts xs)] = some (.int xs.sum) := by
  show ((some (ofInts xs)).bind intsL).map (fun ns => T.int ns.sum) = _
  rw [Option.bind_some, intsL_of]; rfl
/-- a list of places -/
def lotL (o : Bool) (l : List Nat) : T := .lst o (ofInts (l.map fun (i : Nat) => (i : Int)))
theorem lotL_items (o : Bool) (l : List Nat) : itemsOf (lotL o l) = some (l.map fun (i : Nat) => T.int (i : Int)) := by
  unfold lotL; rw [itemsOf_l, frzL_ofInts]; simp [ofInts]
theorem lotT_items' (l : List Nat) : itemsOf (lotT l) = some (l.map fun (i : Nat) => T.int (i : Int)) := by
  rw [lotT_items]; simp [ofInts]
theorem lotL_shf (l : List Nat) : (lotL false l).sh = true := by unfold lotL; rw [T.sh, shL_ofInts]; rfl
theorem lotL_sht (l : List Nat) : (lotL true l).sh = false := rfl
theorem lotL_frz (o : Bool) (l : List Nat) : (lotL o l).frz = lotL false l := by unfold lotL; rw [T.frz, frzL_ofInts]
theorem b_len_lotL {C : Cn} (o : Bool) (l : List Nat) : biF C .len [lotL o l] = some (.int (l.length : Int)) := by
  unfold lotL; rw [b_len_l, ofInts_len, List.length_map]
theorem b_len_lotT {C : Cn} (l : List Nat) : biF C .len [lotT l] = some (.int (l.length : Int)) := by
  unfold lotT; rw [b_len_tI, List.length_map]
theorem isDi_lotL (o : Bool) (l : List Nat) : isDi (some (lotL o l)) = false := id rfl
/-! slices, sums of tuples -/
theorem oInt_non : oInt .non .non = some none := id rfl
theorem oInt_var (k : Nat) (i : Int) : oInt (.var k) (.int i) = some (some i) := id rfl
theorem oInt_int (k i : Int) : oInt (.int k) (.int i) = some (some i) := id rfl
theorem oInt_op (o : Op2) (a b : E) (i : Int) : oInt (.op o a b) (.int i) = some (some i) := id rfl
theorem oInt_neg (a : E) (i : Int) : oInt (.neg a) (.int i) = some (some i) := id rfl
theorem cut_tI_to (sx : Bool) (r : List Int) (p : Nat) : cutT sx (tuI r) none (some (p : Int)) = some (tuI (r.take p)) := by
  show (if sx && !shL (ofInts r) then none else some (T.tup (cut (ofInts r) none (some (p : Int))))) = _
  rw [shL_ofInts, cut_to]; simp [ofInts, tuI]
theorem cut_tI_from (sx : Bool) (r : List Int) (p : Nat) : cutT sx (tuI r) (some ((p : Int) + 1)) none = some (tuI (r.drop (p + 1))) := by
  show (if sx && !shL (ofInts r) then none else some (T.tup (cut (ofInts r) (some ((p + 1 : Nat) : Int)) none))) = _
  rw [shL_ofInts, cut_from]; simp [ofInts, tuI]
theorem cut_tT_to (sx : Bool) (r : List (List Int)) (p : Nat) : cutT sx (tuT r) none (some (p : Int)) = some (tuT (r.take p)) := by
  show (if sx && !shL (r.map tuI) then none else some (T.tup (cut (r.map tuI) none (some (p : Int))))) = _
  rw [shL_tI, cut_to]; simp [tuT]
theorem cut_tT_from (sx : Bool) (r : List (List Int)) (p : Nat) : cutT sx (tuT r) (some ((p : Int) + 1)) none = some (tuT (r.drop (p + 1))) := by
  show (if sx && !shL (r.map tuI) then none else some (T.tup (cut (r.map tuI) (some ((p + 1 : Nat) : Int)) none))) = _
  rw [shL_tI, cut_from]; simp [tuT]
theorem o_add_tI (sx sy : Bool) (xs ys : List Int) (Q : T → Prop) : WV (op2 .add sx sy (tuI xs) (tuI ys)) Q = WG (decide (xs.length + ys.length ≤ LL)) (Q (tuI (xs ++ ys))) := by
  unfold tuI
  rw [o_add_tt, shL_ofInts, shL_ofInts, ofInts_len, ofInts_len, show ofInts xs ++ ofInts ys = ofInts (xs ++ ys) by simp [ofInts]]
  simp only [Bool.not_true, Bool.or_true, Bool.true_and]
theorem o_add_tI1 (sx sy : Bool) (xs : List Int) (y : Int) (Q : T → Prop) : WV (op2 .add sx sy (tuI xs) (.tup [.int y])) Q = WG (decide (xs.length + 1 ≤ LL)) (Q (tuI (xs ++ [y]))) := o_add_tI sx sy xs [y] Q
theorem o_add_tT (sx sy : Bool) (xs ys : List (List Int)) (Q : T → Prop) : WV (op2 .add sx sy (tuT xs) (tuT ys)) Q = WG (decide (xs.length + ys.length ≤ LL)) (Q (tuT (xs ++ ys))) := by
  unfold tuT
  rw [o_add_tt, shL_tI, shL_tI, List.length_map, List.length_map, show xs.map tuI ++ ys.map tuI = (xs ++ ys).map tuI by simp]
  simp only [Bool.not_true, Bool.or_true, Bool.true_and]
theorem o_add_tT1 (sx sy : Bool) (xs : List (List Int)) (y : List Int) (Q : T → Prop) : WV (op2 .add sx sy (tuT xs) (.tup [tuI y])) Q = WG (decide (xs.length + 1 ≤ LL)) (Q (tuT (xs ++ [y]))) := o_add_tT sx sy xs [y] Q
theorem enumL_tT (M : List (List Int)) : enumL (M.map tuI) 0 = (List.range M.length).map fun (i : Nat) => T.tup [.int (i : Int), tuI (M.getD i [])] := by
  refine List.ext_getElem (by simp [enumL]) fun i h1 h2 => ?_
  have h3 : i < M.length := by simpa using h2
  simp [enumL, List.getD_eq_getElem?_getD, List.getElem?_eq_getElem h3]
theorem enumL_tI (r : List Int) : enumL (ofInts r) 0 = (List.range r.length).map fun (i : Nat) => T.tup [.int (i : Int), .int (r.getD i 0)] := by
  refine List.ext_getElem (by simp [enumL, ofInts]) fun i h1 h2 => ?_
  have h3 : i < r.length := by simpa using h2
  simp [enumL, ofInts, List.getD_eq_getElem?_getD, List.getElem?_eq_getElem h3]
theorem tT_map (f : Nat → List Int) (n : Nat) : (List.range n).map (fun i => tuI (f i)) = ((List.range n).map f).map tuI := by
  rw [List.map_map]; rfl
theorem replI' (n : Nat) (x : Int) : (List.replicate n [T.int x]).flatten = ofInts (List.replicate n x) := replI n x
theorem replR' (n : Nat) (r : List Int) : T.tup (List.replicate n [tuI r]).flatten = tuT (List.replicate n r) := replR n r
theorem isin_ints (x : Int) (xs : List Int) : cm .isin (.int x) (.tup (ofInts xs)) = some (decide (x ∈ xs)) := by
  have h1 : (ofInts xs).all leaf = true := by rw [List.all_eq_true]; intro y hy; obtain ⟨z, -, rfl⟩ := List.mem_map.mp hy; rfl
  have h2 : memT (.int x) (ofInts xs) = decide (x ∈ xs) := by
    unfold memT ofInts
    rw [List.any_map, Bool.eq_iff_iff, List.any_eq_true]
    simp only [Function.comp, T.eq, decide_eq_true_eq]
    exact ⟨fun ⟨y, h, e⟩ => e ▸ h, fun h => ⟨x, h, rfl⟩⟩
  show (if leaf (.int x) && (ofInts xs).all leaf then some (memT (.int x) (ofInts xs)) else none) = _
  rw [h1, h2]; rfl
theorem isin_3 (x a b c : Int) : cm .isin (.int x) (.tup [.int a, .int b, .int c]) = some (decide (x ∈ [a, b, c])) := isin_ints x [a, b, c]
theorem isin_2 (x a b : Int) : cm .isin (.int x) (.tup [.int a, .int b]) = some (decide (x ∈ [a, b])) := isin_ints x [a, b]
theorem toNat_s (n : Nat) : ((n : Int) + 1).toNat = n + 1 := by omega
theorem rowI_snoc (n : Nat) (f : Nat → Int) : rowI n f ++ [.int (f n)] = rowI (n + 1) f := by
  unfold rowI; rw [List.range_succ]; simp
theorem rowI_snoc' {n : Nat} {f : Nat → Int} {v : Int} (h : f n = v) : rowI n f ++ [.int v] = rowI (n + 1) f := h ▸ rowI_snoc n f
end Tq
end

section
set_option maxRecDepth 20000
namespace K33
open PySem Tq
/-- whole_sum(table): 0 table, 1 states, 2 row, 3 longer, 4 lot, 5 j, 6 item, 7 own -/
def b0 : Ss := (.cons (.asg (.s 1) (.dic (.cons (.int 0) .nil) (.cons (.int 1) .nil)))
 (.cons (.for (.s 2) (.seq (.frz 0)) (.cons (.asg (.s 3) (.dic .nil .nil))
 (.cons (.for (.s 4) (.seq (.frz 1)) (.cons (.for (.t [(.s 5), (.s 6)]) (.enum (.frz 2)) (.cons (.iff (.and (.cmp .ne (.pl 6) (.int 0)) (.cmp .eq (.op .band (.op .shr (.pl 4) (.pl 5)) (.int 1)) (.int 0))) (.cons (.asg (.s 7) (.op .bor (.pl 4) (.op .shl (.int 1) (.pl 5))))
 (.cons (.seti 3 (.var 7) (.op .add (.get2 (.pl 3) (.var 7) (.int 0)) (.op .mul (.idx (.pl 1) (.pl 4)) (.pl 6))))
 .nil)) .nil)
 .nil))
 .nil))
 (.cons (.asg (.s 1) (.var 3))
 .nil))))
 (.cons (.ret (.get2 (.pl 1) (.op .sub (.op .shl (.int 1) (.bi .len (.cons (.pl 0) .nil))) (.int 1)) (.int 0)))
 .nil)))
def d0 : Fn := ⟨1, 8, [true], b0⟩
/-- part_of(table, rows, columns): 0 table, 1 rows, 2 columns, 3 i, 4 j -/
def b1 : Ss := (.cons (.ret (.bi .tuple (.cons (.lc [3] (.s 3) (.seq (.frz 1)) .nil (.bi .tuple (.cons (.lc [4] (.s 4) (.seq (.frz 2)) .nil (.idx (.idx (.pl 0) (.pl 3)) (.pl 4))) .nil))) .nil)))
 .nil)
def d1 : Fn := ⟨3, 5, [true, true, true], b1⟩
/-- lots_of(n, many): 0 n, 1 many, 2 found, 3 turn, 4 longer, 5 lot, 6 start, 7 k -/
def b2 : Ss := (.cons (.asg (.s 2) (.lst (.cons (.tup .nil) .nil)))
 (.cons (.for (.s 3) (.rng1 (.var 1)) (.cons (.asg (.s 4) (.lst .nil))
 (.cons (.for (.s 5) (.seq (.frz 2)) (.cons (.asg (.s 6) (.ite (.cmp .ne (.pl 5) (.tup .nil)) (.op .add (.idx (.pl 5) (.neg (.int 1))) (.int 1)) (.int 0)))
 (.cons (.ext 4 (.lc [7] (.s 7) (.rng2 (.var 6) (.var 0)) .nil (.op .add (.pl 5) (.tup (.cons (.var 7) .nil)))))
 .nil)))
 (.cons (.asg (.s 2) (.var 4))
 .nil))))
 (.cons (.ret (.bi .tuple (.cons (.pl 2) .nil)))
 .nil)))
def d2 : Fn := ⟨2, 8, [true, true], b2⟩
/-- part_sum(table, rows, columns): 0 table, 1 rows, 2 columns -/
def b3 : Ss := (.cons (.ret (.ite (.cmp .ne (.pl 1) (.tup .nil)) (.call 0 (.cons (.call 1 (.cons (.pl 0) (.cons (.pl 1) (.cons (.pl 2) .nil)))) .nil)) (.int 1)))
 .nil)
def d3 : Fn := ⟨3, 3, [true, true, true], b3⟩
/-- shifted_row(table): 0 table, 1 many, 2 n, 3 found, 4 lot -/
def b4 : Ss := (.cons (.par [2, 3] (.cons (.bi .len (.cons (.pl 0) .nil)) (.cons (.lst .nil) .nil)))
 (.cons (.for (.s 1) (.rng3 (.var 2) (.neg (.int 1)) (.neg (.int 1))) (.cons (.app 3 (.bi .sum (.cons (.lc [4] (.s 4) (.seq (.call 2 (.cons (.pl 2) (.cons (.pl 1) .nil)))) .nil (.call 3 (.cons (.pl 0) (.cons (.pl 4) (.cons (.pl 4) .nil))))) .nil)))
 .nil))
 (.cons (.ret (.bi .tuple (.cons (.pl 3) .nil)))
 .nil)))
def d4 : Fn := ⟨1, 5, [true], b4⟩
/-- no_fixed(n): 0 n, 1 found, 2 k -/
def b5 : Ss := (.cons (.asg (.s 1) (.int 0))
 (.cons (.for (.s 2) (.rng2 (.int 2) (.op .add (.pl 0) (.int 1))) (.cons (.asg (.s 1) (.op .add (.op .mul (.pl 2) (.pl 1)) (.ite (.cmp .eq (.op .mod (.pl 2) (.int 2)) (.int 0)) (.int 1) (.neg (.int 1)))))
 .nil))
 (.cons (.ret (.var 1))
 .nil)))
def d5 : Fn := ⟨1, 3, [true], b5⟩
/-- _law_own_bag(script): 0 script, 1 cells, 2 mixed, 3 cell, 4 great -/
def b6 : Ss := (.cons (.asg (.s 1) (.lc [3] (.s 3) (.seq (.sl (.pl 0) .non (.int 63))) .nil (.op .mod (.bi .abs (.cons (.pl 3) .nil)) (.op .pow (.op .pow (.int 10) (.int 57)) (.int 4)))))
 (.cons (.asg (.s 2) (.op .add (.int 2163633) (.bi .len (.cons (.pl 1) .nil))))
 (.cons (.for (.s 3) (.seq (.frz 1)) (.cons (.asg (.s 2) (.op .mod (.op .add (.op .add (.op .mul (.pl 2) (.int 48271)) (.op .mod (.pl 3) (.int 2147483629))) (.int 7)) (.int 2147483647)))
 .nil))
 (.cons (.asg (.s 4) (.lc [3] (.s 3) (.seq (.frz 1)) (.cons (.cmp .gt (.pl 3) (.op .pow (.int 10) (.int 9))) .nil) (.var 3)))
 (.cons (.ret (.lst (.cons (.lrev false (.frz 4)) (.cons (.int 0) (.cons (.var 2) .nil)))))
 .nil)))))
def d6 : Fn := ⟨1, 5, [true], b6⟩
/-- _law_draw(bag, below): 0 bag, 1 below, 2 found -/
def b7 : Ss := (.cons (.iff (.and (.cmp .eq (.idx (.pl 0) (.int 1)) (.int 0)) (.nil true 0 (.int 0))) (.cons (.seti 0 (.int 1) (.pop1 0 (.int 0)))
 .nil) .nil)
 (.cons (.iff (.cmp .gt (.idx (.pl 0) (.int 1)) (.int 0)) (.cons (.asg (.s 2) (.op .mod (.bi .int (.cons (.idx (.pl 0) (.int 1)) .nil)) (.pl 1)))
 (.cons (.seti 0 (.int 1) (.op .fdiv (.idx (.pl 0) (.int 1)) (.pl 1)))
 (.cons (.ret (.var 2))
 .nil))) .nil)
 (.cons (.seti 0 (.int 2) (.op .mod (.op .add (.op .mul (.idx (.pl 0) (.int 2)) (.int 48271)) (.int 11)) (.int 2147483647)))
 (.cons (.ret (.op .mod (.op .fdiv (.op .mod (.op .mul (.idx (.pl 0) (.int 2)) (.idx (.pl 0) (.int 2))) (.int 2147483629)) (.int 7)) (.pl 1)))
 .nil))))
def d7 : Fn := ⟨2, 3, [true, true], b7⟩
/-- _law_pick(bag, some): 0 bag, 1 some -/
def b8 : Ss := (.cons (.ret (.idx (.frz 1) (.call 7 (.cons (.pl 0) (.cons (.bi .len (.cons (.pl 1) .nil)) .nil)))))
 .nil)
def d8 : Fn := ⟨2, 2, [true, true], b8⟩
/-- _law_order(bag, n): 0 bag, 1 n, 2 turn, 3 rest, 4 found -/
def b9 : Ss := (.cons (.par [3, 4] (.cons (.lrng false (.var 1)) (.cons (.lst .nil) .nil)))
 (.cons (.for (.s 2) (.rng1 (.var 1)) (.cons (.app 4 (.popi 3 (.call 7 (.cons (.pl 0) (.cons (.bi .len (.cons (.pl 3) .nil)) .nil)))))
 .nil))
 (.cons (.ret (.var 4))
 .nil)))
def d9 : Fn := ⟨2, 5, [true, true], b9⟩
/-- _law_is_number(value): 0 value -/
def b10 : Ss := (.cons (.ret (.and (.isi (.pl 0) [.int]) (.not (.isi (.pl 0) [.bool]))))
 .nil)
def d10 : Fn := ⟨1, 1, [true], b10⟩
/-- _law_same(told, due): 0 told, 1 due, 2 one, 3 other -/
def b11 : Ss := (.cons (.iff (.cmp .is (.pl 1) .non) (.cons (.ret (.cmp .is (.pl 0) .non))
 .nil) .nil)
 (.cons (.iff (.isi (.pl 1) [.tuple]) (.cons (.iff (.or (.not (.isi (.pl 0) [.tuple])) (.cmp .ne (.bi .len (.cons (.pl 0) .nil)) (.bi .len (.cons (.pl 1) .nil)))) (.cons (.ret (.bl false))
 .nil) .nil)
 (.cons (.ret (.bi .all (.cons (.lc [2, 3] (.t [(.s 2), (.s 3)]) (.zip (.frz 0) (.frz 1)) .nil (.call 11 (.cons (.pl 2) (.cons (.pl 3) .nil)))) .nil)))
 .nil)) .nil)
 (.cons (.iff (.isi (.pl 1) [.str]) (.cons (.ret (.and (.isi (.pl 0) [.str]) (.cmp .eq (.pl 0) (.pl 1))))
 .nil) .nil)
 (.cons (.ret (.and (.call 10 (.cons (.pl 0) .nil)) (.cmp .eq (.pl 0) (.pl 1))))
 .nil))))
def d11 : Fn := ⟨2, 4, [true, true], b11⟩
/-- _law_whole(table): 0 table, 1 states, 2 row, 3 lot, 4 longer, 5 some, 6 j, 7 item -/
def b12 : Ss := (.cons (.asg (.s 1) (.dic (.cons (.int 0) .nil) (.cons (.int 1) .nil)))
 (.cons (.for (.s 2) (.seq (.frz 0)) (.cons (.par [4, 5] (.cons (.dic .nil .nil) (.cons (.lc [6, 7] (.t [(.s 6), (.s 7)]) (.enum (.frz 2)) (.cons (.cmp .ne (.pl 7) (.int 0)) .nil) (.tup (.cons (.var 6) (.cons (.var 7) .nil)))) .nil)))
 (.cons (.for (.s 3) (.seq (.frz 1)) (.cons (.for (.t [(.s 6), (.s 7)]) (.seq (.frz 5)) (.cons (.iff (.cmp .eq (.op .band (.op .shr (.pl 3) (.pl 6)) (.int 1)) (.int 0)) (.cons (.seti 4 (.op .bor (.pl 3) (.op .shl (.int 1) (.pl 6))) (.op .add (.get2 (.pl 4) (.op .bor (.pl 3) (.op .shl (.int 1) (.pl 6))) (.int 0)) (.op .mul (.idx (.pl 1) (.pl 3)) (.pl 7))))
 .nil) .nil)
 .nil))
 .nil))
 (.cons (.asg (.s 1) (.var 4))
 .nil))))
 (.cons (.ret (.get2 (.pl 1) (.op .sub (.op .shl (.int 1) (.bi .len (.cons (.pl 0) .nil))) (.int 1)) (.int 0)))
 .nil)))
def d12 : Fn := ⟨1, 8, [true], b12⟩
/-- _law_choose(n, k): 0 n, 1 k, 2 found, 3 i -/
def b13 : Ss := (.cons (.asg (.s 2) (.int 1))
 (.cons (.for (.s 3) (.rng1 (.var 1)) (.cons (.asg (.s 2) (.op .fdiv (.op .mul (.pl 2) (.op .sub (.pl 0) (.pl 3))) (.op .add (.pl 3) (.int 1))))
 .nil))
 (.cons (.ret (.var 2))
 .nil)))
def d13 : Fn := ⟨2, 4, [true, true], b13⟩
/-- _law_due(table): 0 table, 1 n, 2 k, 3 lot, 4 found, 5 lots, 6 own, 7 i, 8 j -/
def b14 : Ss := (.cons (.asg (.s 1) (.bi .len (.cons (.pl 0) .nil)))
 (.cons (.par [4, 5] (.cons (.op .mul (.lst (.cons (.int 0) .nil)) (.op .add (.pl 1) (.int 1))) (.cons (.lst (.cons (.lst .nil) .nil)) .nil)))
 (.cons (.for (.s 2) (.rng1 (.var 1)) (.cons (.asg (.s 5) (.op .add (.pl 5) (.lc [3] (.s 3) (.seq (.frz 5)) .nil (.op .add (.pl 3) (.lst (.cons (.var 2) .nil))))))
 .nil))
 (.cons (.for (.s 3) (.seq (.frz 5)) (.cons (.asg (.s 6) (.call 12 (.cons (.bi .tuple (.cons (.lc [7] (.s 7) (.seq (.frz 3)) .nil (.bi .tuple (.cons (.lc [8] (.s 8) (.seq (.frz 3)) .nil (.idx (.idx (.pl 0) (.pl 7)) (.pl 8))) .nil))) .nil)) .nil)))
 (.cons (.seti 4 (.op .sub (.pl 1) (.bi .len (.cons (.pl 3) .nil))) (.op .add (.idx (.pl 4) (.op .sub (.pl 1) (.bi .len (.cons (.pl 3) .nil)))) (.pl 6)))
 .nil)))
 (.cons (.ret (.bi .tuple (.cons (.pl 4) .nil)))
 .nil)))))
def d14 : Fn := ⟨1, 9, [true], b14⟩
/-- _law_more(table, m): 0 table, 1 m, 2 i, 3 row -/
def b15 : Ss := (.cons (.ret (.bi .tuple (.cons (.lc [2, 3] (.t [(.s 2), (.s 3)]) (.enum (.frz 0)) .nil (.op .add (.op .add (.sl (.pl 3) .non (.var 2)) (.tup (.cons (.op .add (.idx (.pl 3) (.pl 2)) (.pl 1)) .nil))) (.sl (.pl 3) (.op .add (.pl 2) (.int 1)) .non))) .nil)))
 .nil)
def d15 : Fn := ⟨2, 4, [true, true], b15⟩
/-- _law_own_table(bag, n): 0 bag, 1 n, 2 some, 3 rows, 4 way, 5 share, 6 i, 7 j, 8 row -/
def b16_7 : Ss := .nil
def b16_6 : Ss := (.cons (.ret (.bi .tuple (.cons (.lc [8] (.s 8) (.seq (.frz 3)) .nil (.bi .tuple (.cons (.pl 8) .nil))) .nil))) b16_7)
def b16_5 : Ss := (.cons (.asg (.s 3) (.lc [6] (.s 6) (.rng1 (.var 1)) .nil (.lc [7] (.s 7) (.rng1 (.var 1)) .nil (.ite (.cmp .lt (.call 7 (.cons (.pl 0) (.cons (.int 8) .nil))) (.pl 5)) (.call 8 (.cons (.pl 0) (.cons (.pl 2) .nil))) (.int 0))))) b16_6)
def b16_4 : Ss := (.cons (.iff (.cmp .eq (.pl 4) (.int 2)) (.cons (.ret (.bi .tuple (.cons (.lc [6] (.s 6) (.rng1 (.var 1)) .nil (.bi .tuple (.cons (.lc [7] (.s 7) (.rng1 (.var 1)) .nil (.ite (.cmp .eq (.pl 6) (.pl 7)) (.int 0) (.int 1))) .nil))) .nil)))
 .nil) .nil) b16_5)
def b16_3 : Ss := (.cons (.iff (.cmp .eq (.pl 4) (.int 1)) (.cons (.ret (.bi .tuple (.cons (.lc [6] (.s 6) (.rng1 (.var 1)) .nil (.bi .tuple (.cons (.lc [7] (.s 7) (.rng1 (.var 1)) .nil (.ite (.cmp .isin (.pl 7) (.tup (.cons (.var 6) (.cons (.op .sub (.pl 6) (.int 1)) (.cons (.op .sub (.op .add (.pl 6) (.pl 1)) (.int 1)) .nil))))) (.int 1) (.int 0))) .nil))) .nil)))
 .nil) .nil) b16_4)
def b16_2 : Ss := (.cons (.iff (.cmp .eq (.pl 4) (.int 0)) (.cons (.ret (.op .mul (.tup (.cons (.op .mul (.tup (.cons (.call 8 (.cons (.pl 0) (.cons (.lst (.cons (.int 0) (.cons (.int 1) (.cons (.int 1) (.cons (.int 2) .nil))))) .nil))) .nil)) (.pl 1)) .nil)) (.pl 1)))
 .nil) .nil) b16_3)
def b16_1 : Ss := (.cons (.asg (.s 2) (.call 8 (.cons (.pl 0) (.cons (.lst (.cons (.lst (.cons (.int 1) .nil)) (.cons (.lst (.cons (.int 1) (.cons (.int 2) (.cons (.int 3) .nil)))) (.cons (.lst (.cons (.int 1) (.cons (.neg (.int 1)) .nil))) (.cons (.lst (.cons (.int 1) (.cons (.int 2) (.cons (.neg (.int 3)) (.cons (.int 5) .nil))))) (.cons (.lst (.cons (.int 900) (.cons (.neg (.int 900)) (.cons (.int 499) (.cons (.int 1) .nil))))) (.cons (.lst (.cons (.int 4) (.cons (.int 40) (.cons (.int 400) .nil)))) .nil))))))) .nil)))) b16_2)
def b16_0 : Ss := (.cons (.asg (.t [(.s 4), (.s 5)]) (.tup (.cons (.call 7 (.cons (.pl 0) (.cons (.int 9) .nil))) (.cons (.call 8 (.cons (.pl 0) (.cons (.lst (.cons (.int 8) (.cons (.int 8) (.cons (.int 7) (.cons (.int 6) (.cons (.int 4) (.cons (.int 2) .nil))))))) .nil))) .nil)))) b16_1)
def b16 : Ss := b16_0
def d16 : Fn := ⟨2, 9, [true, true], b16⟩
/-- _law_is_right(bag, n): 0 bag, 1 n, 2 table, 3 told, 4 m, 5 item, 6 row, 7 s, 8 order, 9 led, 10 again, 11 kept, 12 is_named, 13 due, 14 later, 15 worth, 16 power, 17 r, 18 total, 19 i, 20 j -/
def b17_16 : Ss := .nil
def b17_15 : Ss := (.cons (.ret (.and (.call 11 (.cons (.pl 10) (.cons (.pl 13) .nil))) (.cmp .eq (.bi .repr (.cons (.pl 2) .nil)) (.pl 11)))) b17_16)
def b17_14 : Ss := (.cons (.asg (.s 10) (.ite (.pl 12) (.call 4 (.cons (.pl 2) .nil)) (.call 4 (.cons (.pl 2) .nil)))) b17_15)
def b17_13 : Ss := (.cons (.iff (.not (.call 11 (.cons (.call 4 (.cons (.pl 9) .nil)) (.cons (.pl 13) .nil)))) (.cons (.ret (.bl false))
 .nil) .nil) b17_14)
def b17_12 : Ss := (.cons (.asg (.s 9) (.bi .tuple (.cons (.lc [19] (.s 19) (.seq (.frz 8)) .nil (.bi .tuple (.cons (.lc [20] (.s 20) (.seq (.frz 8)) .nil (.idx (.idx (.pl 2) (.pl 19)) (.pl 20))) .nil))) .nil))) b17_13)
def b17_11 : Ss := (.cons (.asg (.s 8) (.call 9 (.cons (.pl 0) (.cons (.pl 1) .nil)))) b17_12)
def b17_10 : Ss := (.cons (.iff (.not (.call 11 (.cons (.ite (.pl 12) (.call 4 (.cons (.pl 14) .nil)) (.call 4 (.cons (.pl 14) .nil))) (.cons (.bi .tuple (.cons (.pl 6) .nil)) .nil)))) (.cons (.ret (.bl false))
 .nil) .nil) b17_11)
def b17_9 : Ss := (.cons (.for (.s 7) (.rng1 (.op .add (.pl 1) (.int 1))) (.cons (.asg (.t [(.s 18), (.s 16)]) (.tup (.cons (.int 0) (.cons (.int 1) .nil))))
 (.cons (.for (.s 17) (.rng2 (.var 7) (.op .add (.pl 1) (.int 1))) (.cons (.par [18, 16] (.cons (.op .add (.pl 18) (.op .mul (.op .mul (.call 13 (.cons (.pl 17) (.cons (.pl 7) .nil))) (.pl 16)) (.idx (.pl 13) (.pl 17)))) (.cons (.op .mul (.pl 16) (.pl 4)) .nil)))
 .nil))
 (.cons (.app 6 (.var 18))
 .nil)))) b17_10)
def b17_8 : Ss := (.cons (.asg (.s 6) (.lst .nil)) b17_9)
def b17_7 : Ss := (.cons (.iff (.or (.cmp .ne (.call 12 (.cons (.pl 14) .nil)) (.pl 15)) (.not (.call 11 (.cons (.call 0 (.cons (.pl 14) .nil)) (.cons (.pl 15) .nil))))) (.cons (.ret (.bl false))
 .nil) .nil) b17_8)
def b17_6 : Ss := (.cons (.for (.s 5) (.seq (.frz 3)) (.cons (.par [15, 16] (.cons (.op .add (.pl 15) (.op .mul (.pl 5) (.pl 16))) (.cons (.op .mul (.pl 16) (.pl 4)) .nil)))
 .nil)) b17_7)
def b17_5 : Ss := (.cons (.par [14, 15, 16] (.cons (.call 15 (.cons (.pl 2) (.cons (.pl 4) .nil))) (.cons (.int 0) (.cons (.int 1) .nil)))) b17_6)
def b17_4 : Ss := (.cons (.asg (.s 4) (.op .sub (.call 7 (.cons (.pl 0) (.cons (.int 11) .nil))) (.int 5))) b17_5)
def b17_3 : Ss := (.cons (.iff (.not (.call 11 (.cons (.pl 3) (.cons (.pl 13) .nil)))) (.cons (.ret (.bl false))
 .nil) .nil) b17_4)
def b17_2 : Ss := (.cons (.asg (.s 3) (.ite (.pl 12) (.call 4 (.cons (.pl 2) .nil)) (.call 4 (.cons (.pl 2) .nil)))) b17_3)
def b17_1 : Ss := (.cons (.par [11, 12, 13] (.cons (.bi .repr (.cons (.pl 2) .nil)) (.cons (.cmp .eq (.call 7 (.cons (.pl 0) (.cons (.int 2) .nil))) (.int 0)) (.cons (.call 14 (.cons (.pl 2) .nil)) .nil)))) b17_2)
def b17_0 : Ss := (.cons (.asg (.s 2) (.call 16 (.cons (.pl 0) (.cons (.pl 1) .nil)))) b17_1)
def b17 : Ss := b17_0
def d17 : Fn := ⟨2, 21, [true, true], b17⟩
/-- _law_rows(most): 0 most, 1 found, 2 n -/
def b18 : Ss := (.cons (.asg (.s 1) (.lst (.cons (.int 1) (.cons (.int 0) .nil))))
 (.cons (.for (.s 2) (.rng2 (.int 2) (.op .add (.pl 0) (.int 1))) (.cons (.app 1 (.op .add (.op .mul (.pl 2) (.idx (.pl 1) (.op .sub (.pl 2) (.int 1)))) (.ite (.cmp .eq (.op .mod (.pl 2) (.int 2)) (.int 0)) (.int 1) (.neg (.int 1)))))
 .nil))
 (.cons (.ret (.var 1))
 .nil)))
def d18 : Fn := ⟨1, 3, [true], b18⟩
/-- _law_are_orders_right(bag): 0 bag, 1 rows, 2 n, 3 s, 4 size, 5 hollow, 6 due, 7 is_named, 8 told, 9 whole, 10 total, 11 i, 12 j -/
def b19_11 : Ss := .nil
def b19_10 : Ss := (.cons (.ret (.call 11 (.cons (.call 4 (.cons (.pl 5) .nil)) (.cons (.pl 6) .nil)))) b19_11)
def b19_9 : Ss := (.cons (.asg (.s 6) (.bi .tuple (.cons (.op .add (.lc [3] (.s 3) (.rng1 (.var 4)) .nil (.op .mul (.call 13 (.cons (.pl 4) (.cons (.pl 3) .nil))) (.idx (.pl 1) (.op .sub (.pl 4) (.pl 3))))) (.lst (.cons (.int 1) .nil))) .nil))) b19_10)
def b19_8 : Ss := (.cons (.iff (.cmp .gt (.pl 4) (.int 6)) (.cons (.ret (.bl true))
 .nil) .nil) b19_9)
def b19_7 : Ss := (.cons (.iff (.not (.call 11 (.cons (.call 0 (.cons (.pl 5) .nil)) (.cons (.idx (.pl 1) (.pl 4)) .nil)))) (.cons (.ret (.bl false))
 .nil) .nil) b19_8)
def b19_6 : Ss := (.cons (.asg (.s 5) (.bi .tuple (.cons (.lc [11] (.s 11) (.rng1 (.var 4)) .nil (.bi .tuple (.cons (.lc [12] (.s 12) (.rng1 (.var 4)) .nil (.ite (.cmp .eq (.pl 11) (.pl 12)) (.int 0) (.int 1))) .nil))) .nil))) b19_7)
def b19_5 : Ss := (.cons (.asg (.s 4) (.call 8 (.cons (.pl 0) (.cons (.lst (.cons (.var 2) (.cons (.var 2) (.cons (.var 2) (.cons (.ite (.cmp .eq (.call 7 (.cons (.pl 0) (.cons (.int 6) .nil))) (.int 0)) (.int 10) (.int 2)) .nil))))) .nil)))) b19_6)
def b19_4 : Ss := (.cons (.iff (.cmp .ne (.pl 9) (.pl 10)) (.cons (.ret (.bl false))
 .nil) .nil) b19_5)
def b19_3 : Ss := (.cons (.for (.s 3) (.rng2 (.int 1) (.op .add (.pl 2) (.int 1))) (.cons (.asg (.s 9) (.op .mul (.pl 9) (.pl 3)))
 (.cons (.asg (.s 10) (.op .add (.pl 10) (.op .mul (.call 13 (.cons (.pl 2) (.cons (.pl 3) .nil))) (.call 5 (.cons (.pl 3) .nil)))))
 .nil))) b19_4)
def b19_2 : Ss := (.cons (.par [2, 9, 10] (.cons (.op .add (.int 1) (.call 7 (.cons (.pl 0) (.cons (.int 8) .nil)))) (.cons (.int 1) (.cons (.int 1) .nil)))) b19_3)
def b19_1 : Ss := (.cons (.for (.s 2) (.seq (.lst (.cons (.op .add (.int 1) (.call 7 (.cons (.pl 0) (.cons (.int 100) .nil)))) (.cons (.op .add (.int 1) (.call 7 (.cons (.pl 0) (.cons (.int 9) .nil)))) (.cons (.call 8 (.cons (.pl 0) (.cons (.lst (.cons (.int 1) (.cons (.int 2) (.cons (.int 99) (.cons (.int 100) .nil))))) .nil))) .nil))))) (.cons (.asg (.s 7) (.cmp .eq (.call 7 (.cons (.pl 0) (.cons (.int 2) .nil))) (.int 0)))
 (.cons (.asg (.s 8) (.ite (.pl 7) (.call 5 (.cons (.pl 2) .nil)) (.call 5 (.cons (.pl 2) .nil))))
 (.cons (.iff (.or (.not (.call 11 (.cons (.pl 8) (.cons (.idx (.pl 1) (.pl 2)) .nil)))) (.not (.call 11 (.cons (.ite (.pl 7) (.call 5 (.cons (.pl 2) .nil)) (.call 5 (.cons (.pl 2) .nil))) (.cons (.idx (.pl 1) (.pl 2)) .nil))))) (.cons (.ret (.bl false))
 .nil) .nil)
 .nil)))) b19_2)
def b19_0 : Ss := (.cons (.asg (.s 1) (.call 18 (.cons (.int 100) .nil))) b19_1)
def b19 : Ss := b19_0
def d19 : Fn := ⟨1, 13, [true], b19⟩
/-- law(script): 0 script, 1 bag, 2 n -/
def b20 : Ss := (.cons (.asg (.s 1) (.call 6 (.cons (.pl 0) .nil)))
 (.cons (.iff (.not (.call 19 (.cons (.pl 1) .nil))) (.cons (.ret (.bl false))
 .nil) .nil)
 (.cons (.iff (.cmp .eq (.call 7 (.cons (.pl 1) (.cons (.int 6) .nil))) (.int 0)) (.cons (.ret (.call 17 (.cons (.pl 1) (.cons (.call 8 (.cons (.pl 1) (.cons (.lst (.cons (.int 5) (.cons (.int 5) (.cons (.int 6) .nil)))) .nil))) .nil))))
 .nil) .nil)
 (.cons (.for (.s 2) (.seq (.tup (.cons (.op .add (.int 1) (.call 7 (.cons (.pl 1) (.cons (.int 4) .nil)))) (.cons (.call 8 (.cons (.pl 1) (.cons (.lst (.cons (.int 2) (.cons (.int 3) (.cons (.int 3) .nil)))) .nil))) (.cons (.call 8 (.cons (.pl 1) (.cons (.lst (.cons (.int 1) (.cons (.int 2) (.cons (.int 3) (.cons (.int 4) .nil))))) .nil))) .nil))))) (.cons (.iff (.not (.call 17 (.cons (.pl 1) (.cons (.pl 2) .nil)))) (.cons (.ret (.bl false))
 .nil) .nil)
 .nil))
 (.cons (.ret (.bl true))
 .nil)))))
def d20 : Fn := ⟨1, 3, [true], b20⟩
def Pp (rp : T → Str) : Pg := ⟨[d0, d1, d2, d3, d4, d5, d6, d7, d8, d9, d10, d11, d12, d13, d14, d15, d16, d17, d18, d19, d20], [], 5000, rp⟩
abbrev CC (rp : T → Str) (k : Nat) : Cn := ⟨rn (Pp rp) k, [], 5000, rp⟩
theorem e0 {rp : T → Str} {k : Nat} {t0 : T} {Q : T → List (Option T) → Prop} (H : WO (evSs (CC rp k) b0 [some t0, none, none, none, none, none, none, none]) ⟨fun ε => Q .non [gt ε 0], fun t ε => Q t [gt ε 0], fun _ => False, fun _ => False⟩) : WF (rn (Pp rp) (k + 1) 0 [t0]) Q := WF_run (d := d0) rfl rfl H
theorem e1 {rp : T → Str} {k : Nat} {t0 t1 t2 : T} {Q : T → List (Option T) → Prop} (H : WO (evSs (CC rp k) b1 [some t0, some t1, some t2, none, none]) ⟨fun ε => Q .non [gt ε 0, gt ε 1, gt ε 2], fun t ε => Q t [gt ε 0, gt ε 1, gt ε 2], fun _ => False, fun _ => False⟩) : WF (rn (Pp rp) (k + 1) 1 [t0, t1, t2]) Q := WF_run (d := d1) rfl rfl H
theorem e2 {rp : T → Str} {k : Nat} {t0 t1 : T} {Q : T → List (Option T) → Prop} (H : WO (evSs (CC rp k) b2 [some t0, some t1, none, none, none, none, none, none]) ⟨fun ε => Q .non [gt ε 0, gt ε 1], fun t ε => Q t [gt ε 0, gt ε 1], fun _ => False, fun _ => False⟩) : WF (rn (Pp rp) (k + 1) 2 [t0, t1]) Q := WF_run (d := d2) rfl rfl H
theorem e3 {rp : T → Str} {k : Nat} {t0 t1 t2 : T} {Q : T → List (Option T) → Prop} (H : WO (evSs (CC rp k) b3 [some t0, some t1, some t2]) ⟨fun ε => Q .non [gt ε 0, gt ε 1, gt ε 2], fun t ε => Q t [gt ε 0, gt ε 1, gt ε 2], fun _ => False, fun _ => False⟩) : WF (rn (Pp rp) (k + 1) 3 [t0, t1, t2]) Q := WF_run (d := d3) rfl rfl H
theorem e4 {rp : T → Str} {k : Nat} {t0 : T} {Q : T → List (Option T) → Prop} (H : WO (evSs (CC rp k) b4 [some t0, none, none, none, none]) ⟨fun ε => Q .non [gt ε 0], fun t ε => Q t [gt ε 0], fun _ => False, fun _ => False⟩) : WF (rn (Pp rp) (k + 1) 4 [t0]) Q := WF_run (d := d4) rfl rfl H
theorem e5 {rp : T → Str} {k : Nat} {t0 : T} {Q : T → List (Option T) → Prop} (H : WO (evSs (CC rp k) b5 [some t0, none, none]) ⟨fun ε => Q .non [gt ε 0], fun t ε => Q t [gt ε 0], fun _ => False, fun _ => False⟩) : WF (rn (Pp rp) (k + 1) 5 [t0]) Q := WF_run (d := d5) rfl rfl H
theorem e6 {rp : T → Str} {k : Nat} {t0 : T} {Q : T → List (Option T) → Prop} (H : WO (evSs (CC rp k) b6 [some t0, none, none, none, none]) ⟨fun ε => Q .non [gt ε 0], fun t ε => Q t [gt ε 0], fun _ => False, fun _ => False⟩) : WF (rn (Pp rp) (k + 1) 6 [t0]) Q := WF_run (d := d6) rfl rfl H
theorem e7 {rp : T → Str} {k : Nat} {t0 t1 : T} {Q : T → List (Option T) → Prop} (H : WO (evSs (CC rp k) b7 [some t0, some t1, none]) ⟨fun ε => Q .non [gt ε 0, gt ε 1], fun t ε => Q t [gt ε 0, gt ε 1], fun _ => False, fun _ => False⟩) : WF (rn (Pp rp) (k + 1) 7 [t0, t1]) Q := WF_run (d := d7) rfl rfl H
theorem e8 {rp : T → Str} {k : Nat} {t0 t1 : T} {Q : T → List (Option T) → Prop} (H : WO (evSs (CC rp k) b8 [some t0, some t1]) ⟨fun ε => Q .non [gt ε 0, gt ε 1], fun t ε => Q t [gt ε 0, gt ε 1], fun _ => False, fun _ => False⟩) : WF (rn (Pp rp) (k + 1) 8 [t0, t1]) Q := WF_run (d := d8) rfl rfl H
theorem e9 {rp : T → Str} {k : Nat} {t0 t1 : T} {Q : T → List (Option T) → Prop} (H : WO (evSs (CC rp k) b9 [some t0, some t1, none, none, none]) ⟨fun ε => Q .non [gt ε 0, gt ε 1], fun t ε => Q t [gt ε 0, gt ε 1], fun _ => False, fun _ => False⟩) : WF (rn (Pp rp) (k + 1) 9 [t0, t1]) Q := WF_run (d := d9) rfl rfl H
theorem e10 {rp : T → Str} {k : Nat} {t0 : T} {Q : T → List (Option T) → Prop} (H : WO (evSs (CC rp k) b10 [some t0]) ⟨fun ε => Q .non [gt ε 0], fun t ε => Q t [gt ε 0], fun _ => False, fun _ => False⟩) : WF (rn (Pp rp) (k + 1) 10 [t0]) Q := WF_run (d := d10) rfl rfl H
theorem e11 {rp : T → Str} {k : Nat} {t0 t1 : T} {Q : T → List (Option T) → Prop} (H : WO (evSs (CC rp k) b11 [some t0, some t1, none, none]) ⟨fun ε => Q .non [gt ε 0, gt ε 1], fun t ε => Q t [gt ε 0, gt ε 1], fun _ => False, fun _ => False⟩) : WF (rn (Pp rp) (k + 1) 11 [t0, t1]) Q := WF_run (d := d11) rfl rfl H
theorem e12 {rp : T → Str} {k : Nat} {t0 : T} {Q : T → List (Option T) → Prop} (H : WO (evSs (CC rp k) b12 [some t0, none, none, none, none, none, none, none]) ⟨fun ε => Q .non [gt ε 0], fun t ε => Q t [gt ε 0], fun _ => False, fun _ => False⟩) : WF (rn (Pp rp) (k + 1) 12 [t0]) Q := WF_run (d := d12) rfl rfl H
theorem e13 {rp : T → Str} {k : Nat} {t0 t1 : T} {Q : T → List (Option T) → Prop} (H : WO (evSs (CC rp k) b13 [some t0, some t1, none, none]) ⟨fun ε => Q .non [gt ε 0, gt ε 1], fun t ε => Q t [gt ε 0, gt ε 1], fun _ => False, fun _ => False⟩) : WF (rn (Pp rp) (k + 1) 13 [t0, t1]) Q := WF_run (d := d13) rfl rfl H
theorem e14 {rp : T → Str} {k : Nat} {t0 : T} {Q : T → List (Option T) → Prop} (H : WO (evSs (CC rp k) b14 [some t0, none, none, none, none, none, none, none, none]) ⟨fun ε => Q .non [gt ε 0], fun t ε => Q t [gt ε 0], fun _ => False, fun _ => False⟩) : WF (rn (Pp rp) (k + 1) 14 [t0]) Q := WF_run (d := d14) rfl rfl H
theorem e15 {rp : T → Str} {k : Nat} {t0 t1 : T} {Q : T → List (Option T) → Prop} (H : WO (evSs (CC rp k) b15 [some t0, some t1, none, none]) ⟨fun ε => Q .non [gt ε 0, gt ε 1], fun t ε => Q t [gt ε 0, gt ε 1], fun _ => False, fun _ => False⟩) : WF (rn (Pp rp) (k + 1) 15 [t0, t1]) Q := WF_run (d := d15) rfl rfl H
theorem e16 {rp : T → Str} {k : Nat} {t0 t1 : T} {Q : T → List (Option T) → Prop} (H : WO (evSs (CC rp k) b16 [some t0, some t1, none, none, none, none, none, none, none]) ⟨fun ε => Q .non [gt ε 0, gt ε 1], fun t ε => Q t [gt ε 0, gt ε 1], fun _ => False, fun _ => False⟩) : WF (rn (Pp rp) (k + 1) 16 [t0, t1]) Q := WF_run (d := d16) rfl rfl H
theorem e17 {rp : T → Str} {k : Nat} {t0 t1 : T} {Q : T → List (Option T) → Prop} (H : WO (evSs (CC rp k) b17 [some t0, some t1, none, none, none, none, none, none, none, none, none, none, none, none, none, none, none, none, none, none, none]) ⟨fun ε => Q .non [gt ε 0, gt ε 1], fun t ε => Q t [gt ε 0, gt ε 1], fun _ => False, fun _ => False⟩) : WF (rn (Pp rp) (k + 1) 17 [t0, t1]) Q := WF_run (d := d17) rfl rfl H
theorem e18 {rp : T → Str} {k : Nat} {t0 : T} {Q : T → List (Option T) → Prop} (H : WO (evSs (CC rp k) b18 [some t0, none, none]) ⟨fun ε => Q .non [gt ε 0], fun t ε => Q t [gt ε 0], fun _ => False, fun _ => False⟩) : WF (rn (Pp rp) (k + 1) 18 [t0]) Q := WF_run (d := d18) rfl rfl H
theorem e19 {rp : T → Str} {k : Nat} {t0 : T} {Q : T → List (Option T) → Prop} (H : WO (evSs (CC rp k) b19 [some t0, none, none, none, none, none, none, none, none, none, none, none, none]) ⟨fun ε => Q .non [gt ε 0], fun t ε => Q t [gt ε 0], fun _ => False, fun _ => False⟩) : WF (rn (Pp rp) (k + 1) 19 [t0]) Q := WF_run (d := d19) rfl rfl H
theorem e20 {rp : T → Str} {k : Nat} {t0 : T} {Q : T → List (Option T) → Prop} (H : WO (evSs (CC rp k) b20 [some t0, none, none]) ⟨fun ε => Q .non [gt ε 0], fun t ε => Q t [gt ε 0], fun _ => False, fun _ => False⟩) : WF (rn (Pp rp) (k + 1) 20 [t0]) Q := WF_run (d := d20) rfl rfl H
local macro_rules | `(tactic| simp? [$xs,*]) => `(tactic| simp only [↓Blk_eq, ↓w_non, ↓w_bl, ↓w_int, ↓w_str, ↓w_var, ↓w_frz, ↓w_two, ↓w_un, ↓w_cnd, ↓w_op, ↓w_neg, ↓w_not, ↓w_and, ↓w_or, ↓w_cmp, ↓w_cmp2, ↓w_ite, ↓w_call, ↓w_callk, ↓w_calls, ↓w_takes_nil, ↓w_takes_t, ↓w_takes_s, ↓w_bi, ↓w_isi, ↓w_idx, ↓w_sl, ↓w_tup, ↓w_lst, ↓w_dic0, ↓w_dic1, ↓w_lc, ↓w_pop', ↓w_popi', ↓w_pop1, ↓w_nil, ↓w_bi1, ↓w_get1, ↓w_get2, ↓w_count, ↓w_index, ↓w_lrng, ↓w_lrng2, ↓w_lrev, ↓w_evs_nil, ↓w_evs_cons, ↓w_evv_nil, ↓w_evv_cons, ↓w_evc_nil, ↓w_evc_one, ↓w_seq, ↓w_rng1, ↓w_rng2, ↓w_rng3, ↓w_enum, ↓w_zip, ↓w_rev, ↓w_items, ↓w_vals, ↓w_pl, ↓asO_non, ↓asO_bl, ↓asO_int, ↓asO_str, ↓asO_var, ↓asO_frz, ↓asO_gl, ↓asO_op, ↓asO_neg, ↓asO_not, ↓asO_and, ↓asO_or, ↓asO_cmp, ↓asO_cmp2, ↓asO_nil, ↓asO_ite, ↓asO_call, ↓asO_callk, ↓asO_bi, ↓asO_bi1, ↓asO_isi, ↓asO_idx, ↓asO_frz1, ↓asO_sl, ↓asO_tup, ↓asO_lst, ↓asO_dic, ↓asO_lc, ↓asO_pop, ↓asO_popi, ↓asO_pop1, ↓asO_get1, ↓asO_get2, ↓asO_count, ↓asO_index, ↓asO_lrng, ↓asO_lrng2, ↓asO_lrev, ↓w_pks, ↓s_nil, ↓s_cons, ↓s_pass, ↓s_brk, ↓s_ct, ↓s_retN, ↓s_ret, ↓s_asg, ↓s_par, ↓s_seti, ↓s_app', ↓s_ext', ↓s_drop, ↓s_iff, ↓s_for, ↓s_whl, ↓WR_bnd, ↓WR_ofO, ↓WO_obnd, ↓WV_rng, ↓WV_rngD, ↓WV_asg, ↓WV_asgt, ↓WV_asgs0, ↓WV_asgs, ↓WV_set0, ↓WV_set, lsO_some, o_mul_tn, o_add_tt, WE_cons, WE_nil, WR_ok, WR_no, WF_ok, WV_some, WV_none, WG_true, WG_false, WB_true, WB_false, WT_bl, WI_int, WL_lst, WV_if, WV_map, WV_bind, gives_s, gives_t, gives_nil, pk_t, pk_s, pks_nil, o_int, o_add_llg, o_mul_ln, oi_add, oi_sub, oi_mul, oi_fdiv, oi_mod, oi_pow, oi_shl, c_lt, c_le, c_gt, c_ge, c_eq, c_ne, c_is_non, c_isnot_non, c_is_bl, tru_bl, tru_int, tru_tup, tru_lst, gt_zero, gt_succ, st_zero, st_succ, mv_t, mv_f, fz_t, fz_f, gv_t, gv_f, tT_sh, tI_sh, frz_tT, frz_tI, itemsOf_tT, itemsOf_tI, seqF_tT, seqF_tI, b_len_tI, b_len_tT, dic_sh, dicf_sh, frz_dN, frzK_N, shK_N, itemsOf_dN, isDi_dic, getD_N, rt_sh, getI_rt0, getI_rt1, frz_rt, isDi_rt, true_and, and_true, T.sh, shL, shK, T.frz, frzL, shL_ofInts, frzL_ofInts, getI_l0, getI_l1, getI_l2, getI_t0, getI_t1, getI_t2, setI_l0, setI_l1, setI_l2, isL, isDi, Op.isS, itm_l0, gNil_l, isK, wipe, wipeS, backS, perm0, perm1, List.length_cons, List.length_nil, decide_true, decide_false, Bool.not_true, Bool.not_false, Bool.and_true, Bool.true_and, Bool.and_false, Bool.false_and, Bool.or_true, Bool.true_or, Bool.or_false, Bool.false_or, Option.isSome_some, Option.isSome_none, negT, b_len_t, b_len_l, b_abs, b_list_l, b_tuple_l, b_min2, b_max2, b_int, b_gcd, asSeq_t, asSeq_f, itemsOf_t, itemsOf_l, seqF_t, seqF_l, zipT_t, zipT_l, List.cons_append, List.nil_append, Int.sub_zero, Int.zero_add, isTy_s, List.any_cons, List.any_nil, Bool.false_eq_true, Bool.true_eq_false, Nat.reduceAdd, Nat.reduceLT, Nat.reduceLeDiff, Int.reduceToNat, Int.reduceSub, Int.reduceAdd, Int.reduceMul, Int.reduceLT, Int.reduceLE, Int.reduceNeg, Int.reduceEq, List.isEmpty_cons, List.isEmpty_nil, bne_false_, powOk_10_9, List.getElem?_cons_zero, List.getElem?_cons_succ, $xs,*])
local macro_rules | `(tactic| array_get_dec) => `(tactic| ((with_reducible refine WG_i ?_ ?_); focus (first | decide | exact mulOk_r (by omega) (by omega) | exact mulOk_l (by omega) (by omega) | exact divOk_l (by omega) (by omega) | (simp; done) | (simp; omega) | assumption | (simp [LL]; omega))))
local macro_rules | `(tactic| get_elem_tactic_extensible) => `(tactic| ((simp? [true_and]); repeat (array_get_dec; try (simp? [true_and]))))
theorem ws_w {rp : T → Str} {k : Nat} {Q : T → List (Option T) → Prop} {rows : List (List Int)} {n : Nat} (hn : n ≤ 12) (hl : rows.length = n) (hr : ∀ r ∈ rows, r.length = n) (hb : ∀ r ∈ rows, ∀ x ∈ r, -18446744073709551616 < x ∧ x < 18446744073709551616)
    (H : Q (.int (per rows (List.range n))) [some (tuT rows)]) : WF (rn (Pp rp) (k + 1) 0 [tuT rows]) Q := by
  refine e0 ?_
  have hsz : ∀ {d : NI}, (d.map (·.1)).Nodup → (∀ k ∈ d.map (·.1), k < 2 ^ n) → d.length < LL := fun {d} h1 h2 => by
    have h3 := len_bound (2 ^ n) _ h1 h2
    rw [List.length_map] at h3
    have h4 : 2 ^ n ≤ 2 ^ 12 := Nat.pow_le_pow_right (by decide) hn
    unfold LL
    have : (2 : Nat) ^ 12 = 4096 := by decide
    omega
  ((simp? [b0, tT_sh, itemsOf_tT, k1]); repeat (array_get_dec; try (simp? [b0, tT_sh, itemsOf_tT, k1])))
  refine for_inv (fun i ε => ∃ d s2 s3 s4 s5 s6 s7, ε = [some (tuT rows), some (.dic true (dN d)), s2, s3, s4, s5, s6, s7] ∧ (d.map (·.1)).Nodup ∧ (∀ k ∈ d.map (·.1), k < 2 ^ n) ∧ dw d (fun k => per (rows.drop i) (free n k)) = per rows (List.range n)) _ ?_ ?_
    ⟨[(0, 1)], none, none, none, none, none, none, rfl, by simp, by simp [Nat.pow_pos], by simp [dw, sm, free_zero]⟩
  · rintro i x ε hx ⟨d, s2, s3, s4, s5, s6, s7, rfl, hd, hk, hw⟩
    obtain ⟨r, hr1, rfl⟩ := tTmap_at hx
    have hrm := List.mem_of_getElem? hr1
    have hrl := hr r hrm
    have hdr : rows.drop i = r :: rows.drop (i + 1) := by
      obtain ⟨hi, e⟩ := List.getElem?_eq_some_iff.mp hr1
      rw [← e]; exact List.drop_eq_getElem_cons hi
    rw [hdr] at hw
    generalize hg : (fun k => per (rows.drop (i + 1)) (free n k)) = g
    have hS : ∀ k, per (r :: rows.drop (i + 1)) (free n k) = sm (List.range n) fun j => if !k.testBit j then r.getD j 0 * g (k ||| 2 ^ j) else 0 := fun k => by rw [per_free, ← hg]
    ((simp? [dic_sh, dicf_sh, frz_dN, itemsOf_dN, tI_sh]); repeat (array_get_dec; try (simp? [dic_sh, dicf_sh, frz_dN, itemsOf_dN, tI_sh])))
    refine for_inv (fun i2 ε => ∃ L s4 s5 s6 s7, ε = [some (tuT rows), some (.dic false (dN d)), some (tuI r), some (.dic true (dN L)), s4, s5, s6, s7] ∧ (L.map (·.1)).Nodup ∧ (∀ k ∈ L.map (·.1), k < 2 ^ n) ∧ dw L g = sm (d.take i2) (fun p => p.2 * sm (List.range n) fun j => if !p.1.testBit j then r.getD j 0 * g (p.1 ||| 2 ^ j) else 0)) _ ?_ ?_
      ⟨[], s4, s5, s6, s7, rfl, by simp, by simp, rfl⟩
    · rintro i2 x ε hx ⟨L, s4, s5, s6, s7, rfl, hLd, hLk, hLw⟩
      rw [List.getElem?_map] at hx
      obtain ⟨⟨k, v⟩, hp, rfl⟩ := Option.map_eq_some_iff.mp hx
      have hkm : (k, v) ∈ d := List.mem_of_getElem? hp
      have hkn : k < 2 ^ n := hk k (List.mem_map.mpr ⟨_, hkm, rfl⟩)
      have hgk := getI_N false d (dg_mem hd hkm)
      ((simp? [tI_sh, seqF_tI, frz_tI]); repeat (array_get_dec; try (simp? [tI_sh, seqF_tI, frz_tI])))
      refine for_inv (fun j ε => ∃ L s5 s6 s7, ε = [some (tuT rows), some (.dic false (dN d)), some (tuI r), some (.dic true (dN L)), some (.int (k : Int)), s5, s6, s7] ∧ (L.map (·.1)).Nodup ∧ (∀ k ∈ L.map (·.1), k < 2 ^ n) ∧ dw L g = sm (d.take i2) (fun p => p.2 * sm (List.range n) fun j => if !p.1.testBit j then r.getD j 0 * g (p.1 ||| 2 ^ j) else 0) + v * sm (List.range j) fun j => if !k.testBit j then r.getD j 0 * g (k ||| 2 ^ j) else 0) _ ?_ ?_
        ⟨L, s5, s6, s7, rfl, hLd, hLk, by rw [hLw]; simp [sm]⟩
      · rintro j x ε hx ⟨L, s5, s6, s7, rfl, hLd, hLk, hLw⟩
        obtain ⟨y, hy, rfl⟩ := enAt hx
        obtain ⟨z, hz, rfl⟩ := ofInts_at hy
        have hjn : j < n := by
          obtain ⟨h, -⟩ := List.getElem?_eq_some_iff.mp hz
          omega
        have hgz : r.getD j 0 = z := by rw [List.getD_eq_getElem?_getD, hz]; rfl
        have hbz := hb r hrm z (List.mem_of_getElem? hz)
        have hmz : mulOk v z = true := mulOk_r hbz.1 hbz.2
        have hstep : ∀ t : Int, (if !k.testBit j then z * g (k ||| 2 ^ j) else 0) = t → sm (d.take i2) (fun p => p.2 * sm (List.range n) fun j => if !p.1.testBit j then r.getD j 0 * g (p.1 ||| 2 ^ j) else 0) + v * sm (List.range (j + 1)) (fun j => if !k.testBit j then r.getD j 0 * g (k ||| 2 ^ j) else 0) = dw L g + v * t := fun t ht => by
          rw [List.range_succ, sm_append, sm_cons, sm_nil, hgz, ht, hLw]; grind
        ((simp? [tI_sh]); repeat (array_get_dec; try (simp? [tI_sh])))
        refine WB_nd (fun h0 => ?_) fun h0 => ?_
        · simp? [oi_shr_n, oi_band_1]
          refine WB_d (fun h1 => ?_) fun h1 => ?_
          · have hbit := (bit_zero k j).mp h1
            have s1 : ∀ Q : T → Prop, WV (opI .shl 1 (j : Int)) Q = Q (.int ((2 ^ j : Nat) : Int)) := oi_shl_1 _ (by omega)
            have hset := setI_N L (k ||| 2 ^ j) ((dg L (k ||| 2 ^ j)).getD 0 + v * z) (hsz hLd hLk)
            ((simp? [s1, oi_bor_n, getD_N, isDi_dic, hgk, dicf_sh, hmz, hset]); repeat (array_get_dec; try (simp? [s1, oi_bor_n, getD_N, isDi_dic, hgk, dicf_sh, hmz, hset])))
            refine ⟨_, _, _, _, rfl, dp_nodup hLd _ _, fun x hx => ?_, ?_⟩
            · rcases (dp_keys L _ _ x).mp hx with h | h
              · exact hLk x h
              · subst h
                exact Nat.or_lt_two_pow hkn (Nat.pow_lt_pow_right (by decide) hjn)
            · rw [dw_put, hstep _ rfl, if_pos (by simp [hbit])]; grind
          · have hbit : k.testBit j = true := by
              rcases h : k.testBit j with _ | _
              · exact absurd ((bit_zero k j).mpr h) h1
              · rfl
            simp? [true_and]
            refine ⟨L, _, _, _, rfl, hLd, hLk, ?_⟩
            rw [hstep 0 (by simp [hbit])]; grind
        · simp? [true_and]
          refine ⟨L, _, _, _, rfl, hLd, hLk, ?_⟩
          rw [hstep 0 (by rw [h0]; simp)]; grind
      · rintro ε ⟨L, s5, s6, s7, rfl, hLd, hLk, hLw⟩
        rw [enLen, ofInts_len, hrl] at hLw
        simp? [true_and]
        refine ⟨L, _, _, _, _, rfl, hLd, hLk, ?_⟩
        rw [hLw, List.take_add_one, hp, sm_append]
        simp only [Option.toList_some]
        rw [sm_cons, sm_nil, Int.add_zero]
    · rintro ε ⟨L, s4, s5, s6, s7, rfl, hLd, hLk, hLw⟩
      rw [List.length_map, List.take_length] at hLw
      simp? [dic_sh]
      refine ⟨L, _, _, _, _, _, _, rfl, hLd, hLk, ?_⟩
      rw [hLw, ← hw]
      unfold dw
      exact sm_congr fun p _ => by simp only [hS]
  · rintro ε ⟨d, s2, s3, s4, s5, s6, s7, rfl, hd, hk, hw⟩
    rw [List.length_map, List.drop_length, dw_end hd hk] at hw
    have s1 : ∀ Q : T → Prop, WV (opI .shl 1 (n : Int)) Q = Q (.int ((2 ^ n : Nat) : Int)) := oi_shl_1 _ (by omega)
    have e1 : ((2 ^ n : Nat) : Int) - 1 = ((2 ^ n - 1 : Nat) : Int) := by
      have : 0 < 2 ^ n := Nat.pow_pos (by decide)
      omega
    ((simp? [b_len_tT, hl, s1, e1, getD_N, isDi_dic]); repeat (array_get_dec; try (simp? [b_len_tT, hl, s1, e1, getD_N, isDi_dic])))
    rw [hw]
    exact H

/-! the bag -/
def Bag (t : T) : Prop := ∃ (cells : List Int) (d m : Int), t = .lst true [.lst true (ofInts cells), .int d, .int m] ∧ (∀ c ∈ cells, 0 ≤ c) ∧ 0 ≤ d ∧ 0 ≤ m ∧ m < 2147483647
theorem Bag.sh {t : T} (h : Bag t) : t.sh = false := by
  obtain ⟨c, d, m, rfl, -⟩ := h; rfl
section
variable {rp : T → Str} {k : Nat} {Q : T → List (Option T) → Prop}
theorem draw_w {t : T} {n : Int} (hb : Bag t) (hn : 0 < n) (hn2 : n < 1000000)
    (H : ∀ (v : Nat) t', (v : Int) < n → Bag t' → Q (.int (v : Int)) [some t', some (.int n)]) : WF (rn (Pp rp) (k + 1) 7 [t, .int n]) Q := by
  refine e7 ?_
  obtain ⟨c, d, m, rfl, hc, hd, hm, hm2⟩ := hb
  have fm := fun d => @fmod_lt d n hn
  unfold b7
  rw [s_cons]
  refine WO_mono (P := ⟨fun ε => ∃ c d, ε = [some (.lst true [.lst true (ofInts c), .int d, .int m]), some (.int n), none] ∧ (∀ x ∈ c, 0 ≤ x) ∧ 0 ≤ d, fun _ _ => False, fun _ => False, fun _ => False⟩) ?_ ?_ (fun _ _ h => h.elim) (fun _ h => h.elim) (fun _ h => h.elim)
  · get_elem_tactic_extensible
    refine WB_d (fun h => ?_) fun h => ?_
    · get_elem_tactic_extensible
      refine WB_i (fun h2 => ?_) fun h2 => ?_
      · get_elem_tactic_extensible
        obtain ⟨c', y, rfl⟩ : ∃ c' y, c = c' ++ [y] := by
          rcases List.eq_nil_or_concat c with h | ⟨c', y, h⟩
          · rw [h] at h2; cases h2
          · exact ⟨c', y, by simpa using h⟩
        have hy := hc y (by simp)
        refine ⟨_, _, ofInts (c' ++ [y]), .int y, rfl, by simp [ofInts], ?_⟩
        ((simp? [List.set_cons_zero]); repeat (array_get_dec; try (simp? [List.set_cons_zero])))
        exact ⟨c', y, by simp [ofInts], fun x hx => hc x (by simp [hx]), hy⟩
      · get_elem_tactic_extensible
        exact ⟨c, d, rfl, hc, hd⟩
    · get_elem_tactic_extensible
      exact ⟨c, d, rfl, hc, hd⟩
  · rintro ε ⟨c, d, rfl, hc, hd⟩
    get_elem_tactic_extensible
    refine WB_d (fun h => ?_) fun h => ?_
    · get_elem_tactic_extensible
      have h1 := fm d
      obtain ⟨v, hv⟩ : ∃ v : Nat, d.fmod n = v := ⟨(d.fmod n).toNat, by omega⟩
      rw [hv] at h1 ⊢
      exact H v _ h1.2 ⟨c, _, m, rfl, hc, fdiv_nn hd (by omega), hm, hm2⟩
    · have h1 := @fmod_lt (m * 48271 + 11) 2147483647 (by omega)
      get_elem_tactic_extensible
      generalize (m * 48271 + 11).fmod 2147483647 = z at *
      have h2 := fm (((z * z).fmod 2147483629).fdiv 7)
      obtain ⟨v, hv⟩ : ∃ v : Nat, (((z * z).fmod 2147483629).fdiv 7).fmod n = v := ⟨((((z * z).fmod 2147483629).fdiv 7).fmod n).toNat, by omega⟩
      rw [hv] at h2 ⊢
      exact H v _ h2.2 ⟨c, d, z, rfl, hc, hd, h1.1, h1.2⟩
theorem frz_sh_or {t : T} : (if t.sh then t else t.frz) = t.frz := by
  cases h : t.sh with
  | true => simp [frz_sh t h]
  | false => rfl
/-- one of a list of its own -/
theorem pick_o {b : T} {xs : List T} (hb : Bag b) (hx : 0 < xs.length) (hx2 : xs.length < 1000000)
    (H : ∀ x ∈ frzL xs, ∀ b', Bag b' → Q x [some b', some (.lst false (frzL xs))]) : WF (rn (Pp rp) (k + 2) 8 [b, .lst true xs]) Q := by
  refine e8 ?_
  have hs := hb.sh
  have hl : (frzL xs).length = xs.length := by rw [frzL_map, List.length_map]
  have hsx : shL (frzL xs) = true := shL_frz xs
  simp? [b8, hs, hsx, hl]
  refine draw_w hb (by omega) (by omega) fun v b' hv hb' => ?_
  have hs' := hb'.sh
  have hg := getI_l false (frzL xs) v (by omega)
  have hm : (frzL xs)[v]'(by omega) ∈ frzL xs := List.getElem_mem _
  simp? [hs, hs', hsx, hg]
  exact H _ hm b' hb'
/-- one of a shared list of numbers -/
theorem pick_s {b : T} {xs : List Int} (hb : Bag b) (hx : 0 < xs.length) (hx2 : xs.length < 1000000)
    (H : ∀ x ∈ xs, ∀ b', Bag b' → Q (.int x) [some b', some (.lst false (ofInts xs))]) : WF (rn (Pp rp) (k + 2) 8 [b, .lst false (ofInts xs)]) Q := by
  refine e8 ?_
  have hs := hb.sh
  have hl := ofInts_len xs
  simp? [b8, hs, hl]
  refine draw_w hb (by omega) (by omega) fun v b' hv hb' => ?_
  have hs' := hb'.sh
  have hg := getI_l false (ofInts xs) v (by omega)
  have hm : ∃ x ∈ xs, (ofInts xs)[v]'(by omega) = .int x := ⟨xs[v]'(by omega), List.getElem_mem _, by simp [ofInts]⟩
  obtain ⟨x, hm, e⟩ := hm
  rw [e] at hg
  simp? [hs, hs', hg]
  exact H _ hm b' hb'
/-- an order -/
theorem order_w {b : T} {n : Nat} (hb : Bag b) (hn : n ≤ 1000) (H : ∀ (os : List Nat) b', os.Perm (List.range n) → Bag b' → Q (.lst true (ofInts (os.map fun (i : Nat) => (i : Int)))) [some b', some (.int (n : Int))]) : WF (rn (Pp rp) (k + 2) 9 [b, .int (n : Int)]) Q := by
  refine e9 ?_
  have hs := hb.sh
  have h1 : rngOk 0 (n : Int) = true := rngOk_n (by omega)
  have er : rngL 0 n 1 = ofInts ((List.range n).map fun (i : Nat) => (i : Int)) := by simp [rngL, ofInts]
  simp? [b9, hs, h1, Int.toNat_natCast]
  refine for_inv (fun i ε => ∃ (rest found : List Nat) (b : T) (s : Option T), ε = [some b, some (.int (n : Int)), s, some (.lst true (ofInts (rest.map fun (i : Nat) => (i : Int)))), some (.lst true (ofInts (found.map fun (i : Nat) => (i : Int))))] ∧ Bag b ∧ found.length = i ∧ (found ++ rest).Perm (List.range n)) _ ?_ ?_ ⟨List.range n, [], b, none, by rw [er]; rfl, hb, rfl, List.Perm.refl _⟩
  · rintro i x ε hx ⟨rest, found, b, s, rfl, hb, hf, hp⟩
    have hi := rgLt hx
    have hlen := hp.length_eq
    rw [List.length_append, List.length_range] at hlen
    have hs := hb.sh
    have hl : (ofInts (rest.map fun (i : Nat) => (i : Int))).length = rest.length := by simp [ofInts]
    have hl2 : (ofInts (found.map fun (i : Nat) => (i : Int))).length = found.length := by simp [ofInts]
    ((simp? [hs, hl]); repeat (array_get_dec; try (simp? [hs, hl])))
    refine draw_w hb (by omega) (by omega) fun v b' hv hb' => ?_
    have hs' := hb'.sh
    have hix := ixOf_nat (n := rest.length) (k := v) (by omega)
    have hgv : (ofInts (rest.map fun (i : Nat) => (i : Int)))[v]? = some (.int ((rest[v]'(by omega) : Nat) : Int)) := by
      simp [ofInts, List.getElem?_eq_getElem (show v < rest.length by omega)]
    have hll : decide ((ofInts (found.map fun (i : Nat) => (i : Int))).length < LL) = true := decide_eq_true (by rw [hl2]; unfold LL; omega)
    simp? [hs, hs', hl, hix, hgv, hll]
    refine ⟨rest.eraseIdx v, found ++ [rest[v]'(by omega)], b', some x, ?_, hb', by simp [hf], ?_⟩
    · simp [ofInts, map_erase]
    · refine List.Perm.trans ?_ hp
      rw [List.append_assoc]
      refine List.Perm.append_left _ ?_
      have : (rest[v]'(by omega)) :: rest.eraseIdx v = [rest[v]'(by omega)] ++ rest.eraseIdx v := rfl
      rw [← this]
      exact erasePm rest v (by omega)
  · rintro ε ⟨rest, found, b, s, rfl, hb, hf, hp⟩
    rw [rgLen] at hf
    have hlen := hp.length_eq
    rw [List.length_append, List.length_range] at hlen
    have hr : rest = [] := List.length_eq_zero_iff.mp (by omega)
    subst hr
    rw [List.append_nil] at hp
    have hfs : (T.lst true (ofInts (found.map fun (i : Nat) => (i : Int)))).sh = false := rfl
    simp? [true_and]
    exact H found b hp hb
end

section
variable {rp : T → Str} {k : Nat} {Q : T → List (Option T) → Prop}
theorem partof_w {n B : Nat} {M : List (List Int)} (hM : Sqr n B M) {R C : List Nat} (hR : ∀ i ∈ R, i < n) (hC : ∀ j ∈ C, j < n) (hl : R.length ≤ 1000 ∧ C.length ≤ 1000)
    (H : Q (tuT (part M R C)) [some (tuT M), some (lotT R), some (lotT C)]) : WF (rn (Pp rp) (k + 1) 1 [tuT M, lotT R, lotT C]) Q := by
  refine e1 ?_
  have hRl : (ofInts (R.map fun (i : Nat) => (i : Int))).length = R.length := by simp [ofInts]
  have hCl : (ofInts (C.map fun (i : Nat) => (i : Int))).length = C.length := by simp [ofInts]
  simp? [b1, lotT_sh, lotT_items, lotT_frz, hRl]
  refine WG_i (decide_eq_true (by unfold LL; omega)) ?_
  simp? [lotT_sh, lotT_items, lotT_frz, hRl]
  refine lc_idx (fun i => tuI (C.map fun j => (M.getD (R.getD i 0) []).getD j 0)) _ ?_ ?_
  · intro i x hx
    obtain ⟨y, hy, rfl⟩ := lot_at hx
    have hyR := hR y (List.mem_of_getElem? hy)
    have hyD : R.getD i 0 = y := by rw [List.getD_eq_getElem?_getD, hy]; rfl
    have hg := getI_tT (hM.row hyR).1
    ((simp? [lotT_sh, lotT_items, lotT_frz, hCl]); repeat (array_get_dec; try (simp? [lotT_sh, lotT_items, lotT_frz, hCl])))
    refine WG_i (decide_eq_true (by unfold LL; omega)) ?_
    simp? [lotT_sh, lotT_items, lotT_frz, hCl]
    refine lc_idx (fun j => .int ((M.getD y []).getD (C.getD j 0) 0)) _ ?_ ?_
    · intro j x hx
      obtain ⟨z, hz, rfl⟩ := lot_at hx
      have hzC := hC z (List.mem_of_getElem? hz)
      have hzD : C.getD j 0 = z := by rw [List.getD_eq_getElem?_getD, hz]; rfl
      have hg2 := getI_tI (hM.item hyR hzC)
      rw [hzD]
      ((simp? [hg, hg2, isDi_tT, isDi_tI]); repeat (array_get_dec; try (simp? [hg, hg2, isDi_tT, isDi_tI])))
    have e1 : List.map (fun j => T.int ((M.getD y []).getD (C.getD j 0) 0)) (List.range C.length) = ofInts (C.map fun j => (M.getD y []).getD j 0) := by
      refine List.ext_getElem (by simp [ofInts]) fun i h1 h2 => ?_
      have h3 : i < C.length := by simpa using h1
      simp [ofInts, List.getD_eq_getElem?_getD, List.getElem?_eq_getElem h3]
    have e2 : ∀ xs, T.tup (ofInts xs) = tuI xs := fun _ => rfl
    rw [hCl, e1, hyD]
    ((simp? [e2]); repeat (array_get_dec; try (simp? [e2])))
  have e3 : List.map (fun i => tuI (C.map fun j => (M.getD (R.getD i 0) []).getD j 0)) (List.range R.length) = (part M R C).map tuI := by
    unfold part
    refine List.ext_getElem (by simp) fun i h1 h2 => ?_
    have h3 : i < R.length := by simpa using h1
    simp [List.getD_eq_getElem?_getD, List.getElem?_eq_getElem h3]
  have e4 : ∀ xs : List (List Int), T.tup (xs.map tuI) = tuT xs := fun _ => rfl
  have hst := shL_tI (part M R C)
  rw [hRl, e3]
  ((simp? [hst, e4, lotT_sh]); repeat (array_get_dec; try (simp? [hst, e4, lotT_sh])))
  exact H
theorem partsum_w {n B : Nat} {M : List (List Int)} (hM : Sqr n B M) (hn : n ≤ 12) (hB : B ≤ 1000000) {R C : List Nat} (hR : ∀ i ∈ R, i < n) (hC : ∀ j ∈ C, j < n) (hRn : R.length ≤ n) (hRC : R.length = C.length)
    (H : Q (.int (per (R.map fun i => M.getD i []) C)) [some (tuT M), some (lotT R), some (lotT C)]) : WF (rn (Pp rp) (k + 2) 3 [tuT M, lotT R, lotT C]) Q := by
  refine e3 ?_
  simp? [b3, lotT_sh, cm_ne_nil]
  refine WB_i (fun h => ?_) fun h => ?_
  · simp? [lotT_sh]
    refine partof_w hM hR hC ⟨by omega, by omega⟩ ?_
    simp? [lotT_sh]
    refine ws_w (n := R.length) (by omega) (by simp [part]) (fun r hr => ?_) (fun r hr x hx => ?_) ?_
    · unfold part at hr
      obtain ⟨i, -, rfl⟩ := List.mem_map.mp hr
      rw [List.length_map]; exact hRC.symm
    · unfold part at hr
      obtain ⟨i, -, rfl⟩ := List.mem_map.mp hr
      obtain ⟨j, -, rfl⟩ := List.mem_map.mp hx
      have := hM.getD i j
      omega
    rw [hRC, part_per]
    simp? [lotT_sh]
    exact H
  · have : R = [] := by simpa using h
    subst this
    have : C = [] := List.length_eq_zero_iff.mp hRC.symm
    subst this
    simp? [lotT_sh]
    exact H
end

section
variable {rp : T → Str} {k : Nat} {Q : T → List (Option T) → Prop}
theorem lots_w {n m : Nat} (hn : n ≤ 12) (hm : m ≤ 100) (H : Q (.tup ((lotsR (List.range n) m).map lotT)) [some (.int (n : Int)), some (.int (m : Int))]) : WF (rn (Pp rp) (k + 1) 2 [.int (n : Int), .int (m : Int)]) Q := by
  refine e2 ?_
  have h1 : rngOk 0 (m : Int) = true := rngOk_n (by omega)
  simp? [b2, h1, Int.toNat_natCast]
  refine for_inv (fun t ε => ∃ s3 s4 s5 s6, ε = [some (.int (n : Int)), some (.int (m : Int)), some (.lst true ((lotsP n t).map lotT)), s3, s4, s5, s6, none]) _ ?_ ?_ ⟨none, none, none, none, rfl⟩
  · rintro t x ε hx ⟨s3, s4, s5, s6, rfl⟩
    have hls := lots_sh (lotsP n t)
    have hlf := lots_frz (lotsP n t)
    have hlen := lotsP_len hn (t + 1)
    ((simp? [hls, hlf]); repeat (array_get_dec; try (simp? [hls, hlf])))
    refine for_inv (fun i ε => ∃ s5 s6, ε = [some (.int (n : Int)), some (.int (m : Int)), some (.lst false ((lotsP n t).map lotT)), some x, some (.lst true ((((lotsP n t).take i).flatMap (lext n)).map lotT)), s5, s6, none]) _ ?_ ?_ ⟨_, _, rfl⟩
    · rintro i x ε hx ⟨s5, s6, rfl⟩
      obtain ⟨l, hl, rfl⟩ := lots_at hx
      have hpre : ((lotsP n t).take (i + 1)).flatMap (lext n) = ((lotsP n t).take i).flatMap (lext n) ++ lext n l := by
        rw [List.take_add_one, hl, List.flatMap_append]; simp
      have hlen2 : (((lotsP n t).take i).flatMap (lext n) ++ lext n l).length ≤ 4096 := by
        rw [← hpre]
        have e : (lotsP n (t + 1)) = ((lotsP n t).take (i + 1)).flatMap (lext n) ++ ((lotsP n t).drop (i + 1)).flatMap (lext n) := by
          rw [← List.flatMap_append, List.take_append_drop]; rfl
        rw [e, List.length_append] at hlen
        omega
      rw [List.length_append] at hlen2
      have hlm : l.length ≤ 1000000 := by
        have := lotsP_eq n t ▸ List.mem_of_getElem? hl
        have := (lotsR_mem _ _ _ this).2
        have hb := rgLt (by assumption : (rngL 0 m 1)[t]? = some _)
        omega
      have hsn : lstart l ≤ 1000 := by
        unfold lstart
        cases e : l.getLast? with
        | none => exact Nat.zero_le _
        | some z =>
          have hz : z ∈ l := List.mem_of_getLast? e
          have := lotsP_eq n t ▸ List.mem_of_getElem? hl
          have := List.mem_range.mp ((lotsR_mem _ _ _ this).1 z hz)
          simp only []
          omega
      ((simp? [cm_ne_nil]); repeat (array_get_dec; try (simp? [cm_ne_nil])))
      refine WB_i (fun h => ?_) fun h => ?_
      · have hne : l ≠ [] := by rintro rfl; simp at h
        have hlast := lot_last l hne
        have hst : ((l.getLast hne : Nat) : Int) + 1 = ((lstart l : Nat) : Int) := by
          unfold lstart; rw [List.getLast?_eq_some_getLast hne]; rfl
        simp? [hlast, isDi_lot, hst]
        skip
        have h2 : rngOk ((lstart l : Nat) : Int) (n : Int) = true := rngOk_ab (by omega) (by omega) (by omega) (by omega)
        have e3 : (((n : Nat) : Int) - ((lstart l : Nat) : Int)).toNat = n - lstart l := by omega
        have hll : decide ((rngL ((lstart l : Nat) : Int) (n - lstart l) 1).length ≤ LL) = true := decide_eq_true (by rw [rgLen]; unfold LL; omega)
        simp? [h2, e3, hll]
        refine lc_idx (fun i => lotT (l ++ [lstart l + i])) _ ?_ ?_
        · intro q x hx
          obtain ⟨hq, rfl⟩ := rgAt hx
          have e4 : ((lstart l : Nat) : Int) + (q : Int) * 1 = ((lstart l + q : Nat) : Int) := by omega
          rw [e4]
          simp? [o_add_lot]
          refine WG_i (decide_eq_true (by unfold LL; omega)) ?_
          simp? [true_and]
        have e5 : List.map (fun i => lotT (l ++ [lstart l + i])) (List.range (rngL ((lstart l : Nat) : Int) (n - lstart l) 1).length) = (lext n l).map lotT := by
          rw [rgLen, lext, List.map_map]
          refine List.ext_getElem (by simp) fun i h1 h2 => ?_
          simp
        rw [e5]
        simp? [true_and]
        refine WG_i (decide_eq_true (by rw [List.length_map, List.length_map]; unfold LL; omega)) ?_
        simp? [true_and]
        exact ⟨_, _, by rw [hpre, List.map_append]⟩
      · have hne : l = [] := by simpa using h
        have hst : (0 : Int) = ((lstart l : Nat) : Int) := by subst hne; rfl
        simp? [true_and]
        rw [hst]
        skip
        have h2 : rngOk ((lstart l : Nat) : Int) (n : Int) = true := rngOk_ab (by omega) (by omega) (by omega) (by omega)
        have e3 : (((n : Nat) : Int) - ((lstart l : Nat) : Int)).toNat = n - lstart l := by omega
        have hll : decide ((rngL ((lstart l : Nat) : Int) (n - lstart l) 1).length ≤ LL) = true := decide_eq_true (by rw [rgLen]; unfold LL; omega)
        simp? [h2, e3, hll]
        refine lc_idx (fun i => lotT (l ++ [lstart l + i])) _ ?_ ?_
        · intro q x hx
          obtain ⟨hq, rfl⟩ := rgAt hx
          have e4 : ((lstart l : Nat) : Int) + (q : Int) * 1 = ((lstart l + q : Nat) : Int) := by omega
          rw [e4]
          simp? [o_add_lot]
          refine WG_i (decide_eq_true (by unfold LL; omega)) ?_
          simp? [true_and]
        have e5 : List.map (fun i => lotT (l ++ [lstart l + i])) (List.range (rngL ((lstart l : Nat) : Int) (n - lstart l) 1).length) = (lext n l).map lotT := by
          rw [rgLen, lext, List.map_map]
          refine List.ext_getElem (by simp) fun i h1 h2 => ?_
          simp
        rw [e5]
        simp? [true_and]
        refine WG_i (decide_eq_true (by rw [List.length_map, List.length_map]; unfold LL; omega)) ?_
        simp? [true_and]
        exact ⟨_, _, by rw [hpre, List.map_append]⟩
    · rintro ε ⟨s5, s6, rfl⟩
      rw [List.length_map, List.take_length]
      get_elem_tactic_extensible
      exact ⟨_, _, _, _, rfl⟩
  · rintro ε ⟨s3, s4, s5, s6, rfl⟩
    rw [rgLen, lotsP_eq]
    have hls := lots_sh (lotsR (List.range n) m)
    ((simp? [hls]); repeat (array_get_dec; try (simp? [hls])))
    exact H
end

theorem lwhole_w {rp : T → Str} {k' : Nat} {Q : T → List (Option T) → Prop} {rows : List (List Int)} {n : Nat} (hn : n ≤ 12) (hl : rows.length = n) (hr : ∀ r ∈ rows, r.length = n) (hb : ∀ r ∈ rows, ∀ x ∈ r, -18446744073709551616 < x ∧ x < 18446744073709551616)
    (H : Q (.int (per rows (List.range n))) [some (tuT rows)]) : WF (rn (Pp rp) (k' + 1) 12 [tuT rows]) Q := by
  refine e12 ?_
  have hsz : ∀ {d : NI}, (d.map (·.1)).Nodup → (∀ k ∈ d.map (·.1), k < 2 ^ n) → d.length < LL := fun {d} h1 h2 => by
    have h3 := len_bound (2 ^ n) _ h1 h2
    rw [List.length_map] at h3
    have h4 : 2 ^ n ≤ 2 ^ 12 := Nat.pow_le_pow_right (by decide) hn
    unfold LL
    have : (2 : Nat) ^ 12 = 4096 := by decide
    omega
  ((simp? [b12, tT_sh, itemsOf_tT, k1]); repeat (array_get_dec; try (simp? [b12, tT_sh, itemsOf_tT, k1])))
  refine for_inv (fun i ε => ∃ d s2 s3 s4 s5 s6 s7, ε = [some (tuT rows), some (.dic true (dN d)), s2, s3, s4, s5, s6, s7] ∧ (d.map (·.1)).Nodup ∧ (∀ k ∈ d.map (·.1), k < 2 ^ n) ∧ dw d (fun k => per (rows.drop i) (free n k)) = per rows (List.range n)) _ ?_ ?_
    ⟨[(0, 1)], none, none, none, none, none, none, rfl, by simp, by simp [Nat.pow_pos], by simp [dw, sm, free_zero]⟩
  · rintro i x ε hx ⟨d, s2, s3, s4, s5, s6, s7, rfl, hd, hk, hw⟩
    obtain ⟨r, hr1, rfl⟩ := tTmap_at hx
    have hrm := List.mem_of_getElem? hr1
    have hrl := hr r hrm
    have hdr : rows.drop i = r :: rows.drop (i + 1) := by
      obtain ⟨hi, e⟩ := List.getElem?_eq_some_iff.mp hr1
      rw [← e]; exact List.drop_eq_getElem_cons hi
    rw [hdr] at hw
    generalize hg : (fun k => per (rows.drop (i + 1)) (free n k)) = g
    have hS : ∀ k, per (r :: rows.drop (i + 1)) (free n k) = sm (List.range n) fun j => if !k.testBit j then r.getD j 0 * g (k ||| 2 ^ j) else 0 := fun k => by rw [per_free, ← hg]
    have hgs : ∀ k, sm (someP r) (fun p => if !k.testBit p.1 then p.2 * g (k ||| 2 ^ p.1) else 0) = sm (List.range n) fun j => if !k.testBit j then r.getD j 0 * g (k ||| 2 ^ j) else 0 := fun k => someP_sm r n hrl (fun j y => if !k.testBit j then y * g (k ||| 2 ^ j) else 0) fun j => by split <;> simp
    have hpf := pairs_frz (someP r)
    have hps := pairs_sh (someP r)
    ((simp? [tI_sh]); repeat (array_get_dec; try (simp? [tI_sh])))
    refine WG_i (decide_eq_true (by rw [enLen, ofInts_len, hrl]; unfold LL; omega)) ?_
    simp? [tI_sh]
    refine lc_filter isNZ id _ ?_ ?_
    · intro x hx
      obtain ⟨j, hj⟩ := List.mem_iff_getElem?.mp hx
      obtain ⟨y, hy, rfl⟩ := enAt hj
      obtain ⟨z, hz, rfl⟩ := ofInts_at hy
      ((simp? [isNZ]); repeat (array_get_dec; try (simp? [isNZ])))
      exact ⟨fun _ => rfl, fun _ => trivial⟩
    rw [some_T]
    ((simp? [dic_sh, dicf_sh, frz_dN, itemsOf_dN, tI_sh]); repeat (array_get_dec; try (simp? [dic_sh, dicf_sh, frz_dN, itemsOf_dN, tI_sh])))
    refine for_inv (fun i2 ε => ∃ L o s3 s6 s7, ε = [some (tuT rows), some (.dic false (dN d)), some (tuI r), s3, some (.dic true (dN L)), some (.lst o ((someP r).map pairT)), s6, s7] ∧ (L.map (·.1)).Nodup ∧ (∀ k ∈ L.map (·.1), k < 2 ^ n) ∧ dw L g = sm (d.take i2) (fun p => p.2 * sm (List.range n) fun j => if !p.1.testBit j then r.getD j 0 * g (p.1 ||| 2 ^ j) else 0)) _ ?_ ?_
      ⟨[], true, _, _, _, rfl, by simp, by simp, rfl⟩
    · rintro i2 x ε hx ⟨L, o, s3, s6, s7, rfl, hLd, hLk, hLw⟩
      rw [List.getElem?_map] at hx
      obtain ⟨⟨k, v⟩, hp, rfl⟩ := Option.map_eq_some_iff.mp hx
      have hkm : (k, v) ∈ d := List.mem_of_getElem? hp
      have hkn : k < 2 ^ n := hk k (List.mem_map.mpr ⟨_, hkm, rfl⟩)
      have hgk := getI_N false d (dg_mem hd hkm)
      have hfz : (T.lst o ((someP r).map pairT)).frz = .lst false ((someP r).map pairT) := by rw [T.frz, pairs_frz]
      have hsho : (T.lst o ((someP r).map pairT)).sh = !o := by rw [T.sh, pairs_sh, Bool.and_true]
      have main : ∀ L : NI, (L.map (·.1)).Nodup → (∀ k ∈ L.map (·.1), k < 2 ^ n) → dw L g = sm (d.take i2) (fun p => p.2 * sm (List.range n) fun j => if !p.1.testBit j then r.getD j 0 * g (p.1 ||| 2 ^ j) else 0) → ∀ (fin : Tq.Env → Prop), (∀ L s6 s7, (L.map (·.1)).Nodup → (∀ k ∈ L.map (·.1), k < 2 ^ n) → dw L g = sm (d.take (i2 + 1)) (fun p => p.2 * sm (List.range n) fun j => if !p.1.testBit j then r.getD j 0 * g (p.1 ||| 2 ^ j) else 0) → fin [some (tuT rows), some (.dic false (dN d)), some (tuI r), some (.int (k : Int)), some (.dic true (dN L)), some (.lst false ((someP r).map pairT)), s6, s7]) →
          ∀ s6 s7 P2 P3 P4, WO (forL (.t [.s 6, .s 7]) (evSs (CC rp k') (.cons (.iff (.cmp .eq (.op .band (.op .shr (.pl 3) (.pl 6)) (.int 1)) (.int 0)) (.cons (.seti 4 (.op .bor (.pl 3) (.op .shl (.int 1) (.pl 6))) (.op .add (.get2 (.pl 4) (.op .bor (.pl 3) (.op .shl (.int 1) (.pl 6))) (.int 0)) (.op .mul (.idx (.pl 1) (.pl 3)) (.pl 7)))) .nil) .nil) .nil)) ((someP r).map pairT) [some (tuT rows), some (.dic false (dN d)), some (tuI r), some (.int (k : Int)), some (.dic true (dN L)), some (.lst false ((someP r).map pairT)), s6, s7]) ⟨fin, P2, P3, P4⟩ := by
        intro L hLd hLk hLw fin hfin s6 s7 P2 P3 P4
        refine for_inv (fun j ε => ∃ L s6 s7, ε = [some (tuT rows), some (.dic false (dN d)), some (tuI r), some (.int (k : Int)), some (.dic true (dN L)), some (.lst false ((someP r).map pairT)), s6, s7] ∧ (L.map (·.1)).Nodup ∧ (∀ k ∈ L.map (·.1), k < 2 ^ n) ∧ dw L g = sm (d.take i2) (fun p => p.2 * sm (List.range n) fun j => if !p.1.testBit j then r.getD j 0 * g (p.1 ||| 2 ^ j) else 0) + v * sm ((someP r).take j) fun p => if !k.testBit p.1 then p.2 * g (k ||| 2 ^ p.1) else 0) _ ?_ ?_
          ⟨L, s6, s7, rfl, hLd, hLk, by rw [hLw]; simp [sm]⟩
        · rintro i3 x ε hx ⟨L, s6, s7, rfl, hLd, hLk, hLw⟩
          obtain ⟨⟨j, z⟩, hp3, rfl⟩ := pairs_at hx
          obtain ⟨hjn, hz⟩ := someP_mem (List.mem_of_getElem? hp3)
          simp only [] at hjn hz
          rw [hrl] at hjn
          have hbz := hb r hrm z (List.mem_of_getElem? hz)
          have hmz : mulOk v z = true := mulOk_r hbz.1 hbz.2
          have hstep : ∀ t : Int, (if !k.testBit j then z * g (k ||| 2 ^ j) else 0) = t → sm (d.take i2) (fun p => p.2 * sm (List.range n) fun j => if !p.1.testBit j then r.getD j 0 * g (p.1 ||| 2 ^ j) else 0) + v * sm ((someP r).take (i3 + 1)) (fun p => if !k.testBit p.1 then p.2 * g (k ||| 2 ^ p.1) else 0) = dw L g + v * t := fun t ht => by
            rw [List.take_add_one, hp3, sm_append]
            simp only [Option.toList_some]
            rw [sm_cons, sm_nil, ht, hLw]; grind
          unfold pairT
          simp? [tI_sh, oi_shr_n, oi_band_1]
          repeat (refine WG_i (by decide) ?_; simp? [tI_sh, oi_shr_n, oi_band_1])
          refine WB_d (fun h1 => ?_) fun h1 => ?_
          · have hbit := (bit_zero k j).mp h1
            have s1 : ∀ Q : T → Prop, WV (opI .shl 1 (j : Int)) Q = Q (.int ((2 ^ j : Nat) : Int)) := oi_shl_1 _ (by omega)
            have hset := setI_N L (k ||| 2 ^ j) ((dg L (k ||| 2 ^ j)).getD 0 + v * z) (hsz hLd hLk)
            ((simp? [s1, oi_bor_n, getD_N, isDi_dic, hgk, dicf_sh, hmz, hset]); repeat (array_get_dec; try (simp? [s1, oi_bor_n, getD_N, isDi_dic, hgk, dicf_sh, hmz, hset])))
            refine ⟨_, _, _, rfl, dp_nodup hLd _ _, fun x hx => ?_, ?_⟩
            · rcases (dp_keys L _ _ x).mp hx with h | h
              · exact hLk x h
              · subst h
                exact Nat.or_lt_two_pow hkn (Nat.pow_lt_pow_right (by decide) hjn)
            · rw [dw_put, hstep _ rfl, if_pos (by simp [hbit])]; grind
          · have hbit : k.testBit j = true := by
              rcases h : k.testBit j with _ | _
              · exact absurd ((bit_zero k j).mpr h) h1
              · rfl
            simp? [true_and]
            refine ⟨L, _, _, rfl, hLd, hLk, ?_⟩
            rw [hstep 0 (by simp [hbit])]; grind
        · rintro ε ⟨L, s6, s7, rfl, hLd, hLk, hLw⟩
          refine hfin L s6 s7 hLd hLk ?_
          rw [List.length_map, List.take_length, hgs k] at hLw
          rw [hLw, List.take_add_one, hp, sm_append]
          simp only [Option.toList_some]
          rw [sm_cons, sm_nil, Int.add_zero]
      cases o
      all_goals
        ((simp? [hpf, hps, hfz, hsho]); repeat (array_get_dec; try (simp? [hpf, hps, hfz, hsho])))
        refine main L hLd hLk hLw _ (fun L s6 s7 h1 h2 h3 => ?_) _ _ _ _ _
        exact ⟨L, false, _, _, _, rfl, h1, h2, h3⟩
    · rintro ε ⟨L, o, s3, s6, s7, rfl, hLd, hLk, hLw⟩
      rw [List.length_map, List.take_length] at hLw
      simp? [dic_sh]
      refine ⟨L, _, _, _, _, _, _, rfl, hLd, hLk, ?_⟩
      rw [hLw, ← hw]
      unfold dw
      exact sm_congr fun p _ => by simp only [hS]
  · rintro ε ⟨d, s2, s3, s4, s5, s6, s7, rfl, hd, hk, hw⟩
    rw [List.length_map, List.drop_length, dw_end hd hk] at hw
    have s1 : ∀ Q : T → Prop, WV (opI .shl 1 (n : Int)) Q = Q (.int ((2 ^ n : Nat) : Int)) := oi_shl_1 _ (by omega)
    have e1 : ((2 ^ n : Nat) : Int) - 1 = ((2 ^ n - 1 : Nat) : Int) := by
      have : 0 < 2 ^ n := Nat.pow_pos (by decide)
      omega
    ((simp? [b_len_tT, hl, s1, e1, getD_N, isDi_dic]); repeat (array_get_dec; try (simp? [b_len_tT, hl, s1, e1, getD_N, isDi_dic])))
    rw [hw]
    exact H

section
variable {rp : T → Str} {k : Nat} {Q : T → List (Option T) → Prop}
theorem bag_w {ns : List Int} (H : ∀ b, Bag b → Q b [some (scrT' ns)]) : WF (rn (Pp rp) (k + 1) 6 [scrT' ns]) Q := by
  refine e6 ?_
  have oN : oInt .non .non = some none := rfl
  have o1 : oInt (.int 63) (.int 63) = some (some 63) := rfl
  have hs : (scrT' ns).sh = true := rfl
  have ec : cutT true (scrT' ns) none (some 63) = some (.lst true (ofInts (cut ns none (some 63)))) := by
    show some (T.lst true (cut (ns.map T.int) none (some 63))) = _
    rw [cut_map]; rfl
  have hl := cut63_len ns
  generalize cut ns none (some 63) = ms at *
  have hl2 : (ofInts ms).length = ms.length := by simp [ofInts]
  have p1 := powOk_10_57
  have p2 := powOk_57_4
  have p3 := pow_ne57
  have p4 := pow_pos57
  simp? [b6, hs, ec, oN, o1]
  refine WG_i (decide_eq_true (by rw [hl2]; unfold LL; omega)) ?_
  simp? [true_and]
  refine lc_map (fun t => match t with | .int i => .int ((i.natAbs : Int).fmod (((10 : Int) ^ 57) ^ 4)) | t => t) _ ?_ ?_
  · intro x hx
    obtain ⟨i, -, rfl⟩ := List.mem_map.mp hx
    simp? [p1]
    refine WG_i (by decide) ?_
    simp? [p1, p2, p3]
  have em : List.map (fun t => match t with | T.int i => T.int ((i.natAbs : Int).fmod (((10 : Int) ^ 57) ^ 4)) | t => t) (ofInts ms) = ofInts (ms.map fun i => (i.natAbs : Int).fmod (((10 : Int) ^ 57) ^ 4)) := by
    unfold ofInts; rw [List.map_map, List.map_map]; rfl
  rw [em]
  have hp : ∀ c ∈ ms.map fun i => (i.natAbs : Int).fmod (((10 : Int) ^ 57) ^ 4), 0 ≤ c := fun c hc => by
    obtain ⟨i, -, rfl⟩ := List.mem_map.mp hc; exact (fmod_lt p4).1
  have hl3 : (ms.map fun i => (i.natAbs : Int).fmod (((10 : Int) ^ 57) ^ 4)).length ≤ 63 := by rw [List.length_map]; exact hl
  generalize (ms.map fun i => (i.natAbs : Int).fmod (((10 : Int) ^ 57) ^ 4)) = cs at *
  clear em p1 p2 p3 p4
  have hl4 : (ofInts cs).length = cs.length := by simp [ofInts]
  simp? [hl4]
  refine for_inv (fun i ε => ∃ m s, ε = [some (scrT' ns), some (.lst false (ofInts cs)), some (.int m), s, none] ∧ 0 ≤ m ∧ m < 2147483647) _ ?_ ?_ ⟨_, _, rfl, by omega, by omega⟩
  · rintro i x ε hx ⟨m, s, rfl, h1, h2⟩
    obtain ⟨y, hy, rfl⟩ := ofInts_at hx
    get_elem_tactic_extensible
    exact ⟨_, _, rfl, (fmod_lt (by decide)).1, (fmod_lt (by decide)).2⟩
  · rintro ε ⟨m, s, rfl, h1, h2⟩
    get_elem_tactic_extensible
    refine WG_i (decide_eq_true (by rw [hl4]; unfold LL; omega)) ?_
    simp? [true_and]
    refine lc_filter (fun t => match t with | .int i => decide ((10 : Int) ^ 9 < i) | _ => false) id _ ?_ ?_
    · intro x hx
      obtain ⟨i, -, rfl⟩ := List.mem_map.mp hx
      get_elem_tactic_extensible
      exact ⟨fun _ => rfl, fun _ => trivial⟩
    have e5 : List.map id (List.filter (fun t => match t with | .int i => decide ((10 : Int) ^ 9 < i) | _ => false) (ofInts cs)) = ofInts (cs.filter fun i => decide ((10 : Int) ^ 9 < i)) := by
      unfold ofInts; rw [List.map_id, List.filter_map]; rfl
    rw [e5]
    simp? [true_and]
    refine H _ ⟨(cs.filter fun i => decide ((10 : Int) ^ 9 < i)).reverse, 0, m, ?_, fun c hc => hp c (List.mem_filter.mp (List.mem_reverse.mp hc)).1, by decide, h1, h2⟩
    unfold ofInts; rw [List.map_reverse]
end

/-! what is just the same -/
def St : Nat → T → Prop
  | _, .int _ => True
  | d + 1, .tup xs => xs.length ≤ 1000 ∧ ∀ x ∈ xs, St d x
  | _, _ => False
theorem St.sh : ∀ {d : Nat} {t : T}, St d t → t.sh = true
  | d, .int _, _ => rfl
  | d + 1, .tup xs, h => by
    rw [T.sh, shL_all, List.all_eq_true]
    exact fun x hx => St.sh (h.2 x hx)
  | 0, .tup _, h => h.elim
  | 0, .non, h => h.elim
  | 0, .bl _, h => h.elim
  | 0, .str _, h => h.elim
  | 0, .lst _ _, h => h.elim
  | 0, .dic _ _, h => h.elim
  | 0, .scr _, h => h.elim
  | _ + 1, .non, h => h.elim
  | _ + 1, .bl _, h => h.elim
  | _ + 1, .str _, h => h.elim
  | _ + 1, .lst _ _, h => h.elim
  | _ + 1, .dic _ _, h => h.elim
  | _ + 1, .scr _, h => h.elim
theorem St.shL {d : Nat} {xs : List T} (h : ∀ x ∈ xs, St d x) : shL xs = true := by
  rw [shL_all, List.all_eq_true]; exact fun x hx => St.sh (h x hx)
theorem bls_true (xs : List T) (h : ∀ x ∈ xs, x = .bl true) : bls xs = some (List.replicate xs.length true) := by
  induction xs with
  | nil => rfl
  | cons x xs ih =>
    rw [h x (by simp), bls, ih fun y hy => h y (by simp [hy])]; rfl
theorem b_all_true {C : Cn} (o : Bool) (xs : List T) (h : ∀ x ∈ xs, x = .bl true) : biF C .all [.lst o xs] = some (.bl true) := by
  show (bls xs).map (fun bs => T.bl (bs.all id)) = _
  rw [bls_true xs h]; simp
theorem St.rowI (n : Nat) (f : Nat → Int) (h : n ≤ 1000) : St 1 (.tup (rowI n f)) := ⟨by rw [rowI_len]; exact h, fun x hx => by
  obtain ⟨j, -, rfl⟩ := List.mem_map.mp hx; exact trivial⟩
section
variable {rp : T → Str} {k : Nat} {Q : T → List (Option T) → Prop}
theorem isnum_w {i : Int} (H : Q (.bl true) [some (.int i)]) : WF (rn (Pp rp) (k + 1) 10 [.int i]) Q := by
  refine e10 ?_
  simp? [b10]
  exact H
theorem same_w : ∀ (d : Nat) {k : Nat} {Q : T → List (Option T) → Prop} {t : T}, St d t → (Q (.bl true) [some t, some t]) → WF (rn (Pp rp) (k + d + 2) 11 [t, t]) Q
  | d, k, Q, .int i, _, H => by
    refine e11 ?_
    simp? [b11]
    refine isnum_w ?_
    simp? [true_and]
    exact H
  | d + 1, k, Q, .tup xs, h, H => by
    refine e11 ?_
    obtain ⟨hl, h⟩ := h
    have hs : shL xs = true := St.shL h
    have hf : frzL xs = xs := frzL_sh _ hs
    have hne : cm .ne (.int (xs.length : Int)) (.int (xs.length : Int)) = some false := by rw [c_ne]; simp
    simp? [b11, hne, hs, hf]
    refine WG_i (decide_eq_true (by unfold zipL LL; simp; omega)) ?_
    simp? [hs]
    refine lc_map (fun _ => .bl true) _ ?_ ?_
    · intro x hx
      obtain ⟨y, hy, rfl⟩ : ∃ y ∈ xs, x = .tup [y, y] := by
        unfold zipL at hx
        rw [List.mem_map] at hx
        obtain ⟨⟨a, b⟩, hm, rfl⟩ := hx
        rw [List.mem_iff_getElem] at hm
        obtain ⟨n, hn, e⟩ := hm
        rw [List.getElem_zip] at e
        cases e
        exact ⟨_, List.getElem_mem _, rfl⟩
      have hys := (h y hy).sh
      ((simp? [hs, hys]); repeat (array_get_dec; try (simp? [hs, hys])))
      refine same_w d (h y hy) ?_
      simp? [hs, hys]
    · have hb := b_all_true (C := CC rp (k + (d + 1) + 1)) true (List.map (fun _ => T.bl true) (zipL xs xs)) (by simp)
      simp? [hb, hs]
      exact H
  | 0, k, Q, .tup _, h, H => h.elim
  | 0, k, Q, .non, h, H => h.elim
  | 0, k, Q, .bl _, h, H => h.elim
  | 0, k, Q, .str _, h, H => h.elim
  | 0, k, Q, .lst _ _, h, H => h.elim
  | 0, k, Q, .dic _ _, h, H => h.elim
  | 0, k, Q, .scr _, h, H => h.elim
  | _ + 1, k, Q, .non, h, H => h.elim
  | _ + 1, k, Q, .bl _, h, H => h.elim
  | _ + 1, k, Q, .str _, h, H => h.elim
  | _ + 1, k, Q, .lst _ _, h, H => h.elim
  | _ + 1, k, Q, .dic _ _, h, H => h.elim
  | _ + 1, k, Q, .scr _, h, H => h.elim
theorem St.frz {d : Nat} {t : T} (h : St d t) : t.frz = t := frz_sh _ h.sh
end

end K33
end

section
set_option maxRecDepth 20000
namespace K33
open PySem Tq
local macro_rules | `(tactic| simp? [$xs,*]) => `(tactic| simp (disch := omega) only [↓Blk_eq, ↓w_non, ↓w_bl, ↓w_int, ↓w_str, ↓w_var, ↓w_frz, ↓w_two, ↓w_un, ↓w_cnd, ↓w_op, ↓w_neg, ↓w_not, ↓w_and, ↓w_or, ↓w_cmp, ↓w_cmp2, ↓w_ite, ↓w_call, ↓w_callk, ↓w_calls, ↓w_takes_nil, ↓w_takes_t, ↓w_takes_s, ↓w_bi, ↓w_isi, ↓w_idx, ↓w_sl, ↓w_tup, ↓w_lst, ↓w_dic0, ↓w_dic1, ↓w_lc, ↓w_pop', ↓w_popi', ↓w_pop1, ↓w_nil, ↓w_bi1, ↓w_get1, ↓w_get2, ↓w_count, ↓w_index, ↓w_lrng, ↓w_lrng2, ↓w_lrev, ↓w_evs_nil, ↓w_evs_cons, ↓w_evv_nil, ↓w_evv_cons, ↓w_evc_nil, ↓w_evc_one, ↓w_seq, ↓w_rng1, ↓w_rng2, ↓w_rng3, ↓w_enum, ↓w_zip, ↓w_rev, ↓w_items, ↓w_vals, ↓w_pl, ↓asO_non, ↓asO_bl, ↓asO_int, ↓asO_str, ↓asO_var, ↓asO_frz, ↓asO_gl, ↓asO_op, ↓asO_neg, ↓asO_not, ↓asO_and, ↓asO_or, ↓asO_cmp, ↓asO_cmp2, ↓asO_nil, ↓asO_ite, ↓asO_call, ↓asO_callk, ↓asO_bi, ↓asO_bi1, ↓asO_isi, ↓asO_idx, ↓asO_frz1, ↓asO_sl, ↓asO_tup, ↓asO_lst, ↓asO_dic, ↓asO_lc, ↓asO_pop, ↓asO_popi, ↓asO_pop1, ↓asO_get1, ↓asO_get2, ↓asO_count, ↓asO_index, ↓asO_lrng, ↓asO_lrng2, ↓asO_lrev, ↓w_pks, ↓s_nil, ↓s_cons, ↓s_pass, ↓s_brk, ↓s_ct, ↓s_retN, ↓s_ret, ↓s_asg, ↓s_par, ↓s_seti, ↓s_app', ↓s_ext', ↓s_drop, ↓s_iff, ↓s_for, ↓s_whl, ↓WR_bnd, ↓WR_ofO, ↓WO_obnd, ↓WV_rng, ↓WV_rngD, ↓WV_asg, ↓WV_asgt, ↓WV_asgs0, ↓WV_asgs, ↓WV_set0, ↓WV_set, lsO_some, o_mul_tn, o_add_tt, WE_cons, WE_nil, WR_ok, WR_no, WF_ok, WV_some, WV_none, WG_true, WG_false, WB_true, WB_false, WT_bl, WI_int, WL_lst, WV_if, WV_map, WV_bind, gives_s, gives_t, gives_nil, pk_t, pk_s, pks_nil, o_int, o_add_llg, o_mul_ln, oi_add, oi_sub, oi_mul, oi_fdiv, oi_mod, oi_pow, oi_shl, c_lt, c_le, c_gt, c_ge, c_eq, c_ne, c_is_non, c_isnot_non, c_is_bl, tru_bl, tru_int, tru_tup, tru_lst, gt_zero, gt_succ, st_zero, st_succ, mv_t, mv_f, fz_t, fz_f, gv_t, gv_f, tT_sh, tI_sh, frz_tT, frz_tI, itemsOf_tT, itemsOf_tI, seqF_tT, seqF_tI, b_len_tI, b_len_tT, dic_sh, dicf_sh, frz_dN, frzK_N, shK_N, itemsOf_dN, isDi_dic, getD_N, rt_sh, getI_rt0, getI_rt1, frz_rt, isDi_rt, true_and, and_true, T.sh, shL, shK, T.frz, frzL, shL_ofInts, frzL_ofInts, getI_l0, getI_l1, getI_l2, getI_t0, getI_t1, getI_t2, setI_l0, setI_l1, setI_l2, isL, isDi, Op.isS, itm_l0, gNil_l, isK, wipe, wipeS, backS, perm0, perm1, List.length_cons, List.length_nil, decide_true, decide_false, Bool.not_true, Bool.not_false, Bool.and_true, Bool.true_and, Bool.and_false, Bool.false_and, Bool.or_true, Bool.true_or, Bool.or_false, Bool.false_or, Option.isSome_some, Option.isSome_none, negT, b_len_t, b_len_l, b_abs, b_list_l, b_tuple_l, b_min2, b_max2, b_int, b_gcd, asSeq_t, asSeq_f, itemsOf_t, itemsOf_l, seqF_t, seqF_l, zipT_t, zipT_l, List.cons_append, List.nil_append, Int.sub_zero, Int.zero_add, isTy_s, List.any_cons, List.any_nil, Bool.false_eq_true, Bool.true_eq_false, Nat.reduceAdd, Nat.reduceLT, Nat.reduceLeDiff, Int.reduceToNat, Int.reduceSub, Int.reduceAdd, Int.reduceMul, Int.reduceLT, Int.reduceLE, Int.reduceNeg, Int.reduceEq, List.isEmpty_cons, List.isEmpty_nil, bne_false_, powOk_10_9, List.getElem?_cons_zero, List.getElem?_cons_succ, rngOk_ab, dLL, dLT, rgLen, ofInts_len, rowI_len, rowI_frz, rowI_sh, enLen, List.length_map, List.length_range, List.length_append, List.length_take, List.length_drop, List.length_set, List.length_reverse, Int.toNat_natCast, rowI_get, rowI_getT, getI_T', getI_I', getI_L', mulOk_l', mulOk_r', isDi_tT, isDi_tI, shL_tI, frzL_tI, Int.mul_one, lotL_items, lotL_frz, lotL_shf, lotL_sht, b_len_lotL, isDi_lotL, lotT_sh, lotT_items', lotT_frz, b_len_lotT, isDi_lot, etI, etT, shL_ofInts, frzL_ofInts, oInt_non, oInt_var, oInt_int, oInt_op, oInt_neg, cut_tI_to, cut_tI_from, cut_tT_to, cut_tT_from, o_add_tI, o_add_tI1, o_add_tT, o_add_tT1, enumL_tT, enumL_tI, toNat_s, $xs,*])
local macro_rules | `(tactic| array_get_dec) => `(tactic| ((with_reducible refine WG_i ?_ ?_); focus (first | decide | exact mulOk_r (by omega) (by omega) | exact mulOk_l (by omega) (by omega) | exact divOk_l (by omega) (by omega) | (simp; done) | (simp; omega) | assumption | (simp [LL]; omega))))
local macro_rules | `(tactic| get_elem_tactic_extensible) => `(tactic| ((simp? [true_and]); repeat (array_get_dec; try (simp? [true_and]))))
/-- n things put so that none stays -/
def nf : Nat → Int
  | 0 => 1
  | 1 => 0
  | n + 2 => ((n + 2 : Nat) : Int) * nf (n + 1) + if ((n + 2 : Nat) : Int).fmod 2 = 0 then 1 else -1
theorem ch_fdiv (n i : Nat) : ((ch n i : Int) * ((n : Int) - (i : Int))).fdiv ((i : Int) + 1) = (ch n (i + 1) : Int) := by
  have h := ch_step n i
  have e : (ch n i : Int) * ((n : Int) - (i : Int)) = (ch n (i + 1) : Int) * ((i : Int) + 1) := by
    rcases Nat.lt_or_ge n i with h1 | h1
    · rw [ch_big n i h1, ch_big n (i + 1) (by omega)]; simp
    · have : ((n - i : Nat) : Int) = (n : Int) - i := by omega
      rw [← this, ← Int.natCast_mul, h]; simp
  rw [e, Int.mul_comm, Int.mul_fdiv_cancel_left _ (by omega)]
section
variable {rp : T → Str} {k : Nat} {Q : T → List (Option T) → Prop}
theorem choose_w {n m : Nat} (hn : n ≤ 1000) (hm : m ≤ 1000) (H : Q (.int (ch n m : Int)) [some (.int (n : Int)), some (.int (m : Int))]) : WF (rn (Pp rp) (k + 1) 13 [.int (n : Int), .int (m : Int)]) Q := by
  refine e13 ?_
  simp? [b13]
  refine for_inv (fun i ε => ∃ s, ε = [some (.int (n : Int)), some (.int (m : Int)), some (.int (ch n i : Int)), s]) _ ?_ ?_ ⟨none, by rw [ch_zero]; rfl⟩
  · rintro i x ε hx ⟨s, rfl⟩
    obtain ⟨hi, rfl⟩ := rgAt hx
    ((simp? [divOk_l, ch_fdiv]); repeat (array_get_dec; try (simp? [divOk_l, ch_fdiv])))
    exact ⟨_, rfl⟩
  · rintro ε ⟨s, rfl⟩
    simp? [true_and]
    exact H
theorem nofixed_w {n : Nat} (hn1 : 1 ≤ n) (hn : n ≤ 1000) (H : Q (.int (nf n)) [some (.int (n : Int))]) : WF (rn (Pp rp) (k + 1) 5 [.int (n : Int)]) Q := by
  refine e5 ?_
  simp? [b5]
  have e : ((n : Int) + 1 - 2).toNat = n - 1 := by omega
  refine for_inv (fun i ε => ∃ s, ε = [some (.int (n : Int)), some (.int (nf (i + 1))), s]) _ ?_ ?_ ⟨none, rfl⟩
  · rintro i x ε hx ⟨s, rfl⟩
    obtain ⟨hi, rfl⟩ := rgAt hx
    have e2 : (2 : Int) + (i : Int) * 1 = ((i + 2 : Nat) : Int) := by omega
    rw [e2]
    have e3 : ∀ v, nf (i + 1 + 1) = ((i + 2 : Nat) : Int) * nf (i + 1) + v ↔ (if ((i + 2 : Nat) : Int).fmod 2 = 0 then 1 else -1) = v := fun v => by
      rw [nf]; omega
    get_elem_tactic_extensible
    refine WB_d (fun h => ?_) fun h => ?_
    · simp? [true_and]
      exact ⟨_, by rw [(e3 1).mpr (if_pos h)]⟩
    · simp? [true_and]
      exact ⟨_, by rw [(e3 (-1)).mpr (if_neg h)]⟩
  · rintro ε ⟨s, rfl⟩
    simp? [true_and]
    rw [e, show n - 1 + 1 = n by omega]
    exact H
theorem rows_w {n : Nat} (hn1 : 1 ≤ n) (hn : n ≤ 1000) (H : Q (.lst true (rowI (n + 1) nf)) [some (.int (n : Int))]) : WF (rn (Pp rp) (k + 1) 18 [.int (n : Int)]) Q := by
  refine e18 ?_
  have e : ((n : Int) + 1 - 2).toNat = n - 1 := by omega
  simp? [b18]
  refine for_inv (fun i ε => ∃ s, ε = [some (.int (n : Int)), some (.lst true (rowI (i + 2) nf)), s]) _ ?_ ?_ ⟨none, rfl⟩
  · rintro i x ε hx ⟨s, rfl⟩
    obtain ⟨hi, rfl⟩ := rgAt hx
    have e2 : (2 : Int) + (i : Int) * 1 = ((i + 2 : Nat) : Int) := by omega
    have e4 : ((i + 2 : Nat) : Int) - 1 = ((i + 1 : Nat) : Int) := by omega
    rw [e2]
    have e3 : ∀ v, nf (i + 2) = ((i + 2 : Nat) : Int) * nf (i + 1) + v ↔ (if ((i + 2 : Nat) : Int).fmod 2 = 0 then 1 else -1) = v := fun v => by
      rw [nf]; omega
    ((simp? [e4]); repeat (array_get_dec; try (simp? [e4])))
    refine WB_d (fun h => ?_) fun h => ?_
    · simp? [true_and]
      exact ⟨_, by rw [← rowI_snoc (i + 2), (e3 1).mpr (if_pos h)]⟩
    · simp? [true_and]
      exact ⟨_, by rw [← rowI_snoc (i + 2), (e3 (-1)).mpr (if_neg h)]⟩
  · rintro ε ⟨s, rfl⟩
    have hsf : ∀ n, (T.lst true (rowI n nf)).sh = false := fun _ => rfl
    simp? [hsf]
    rw [e, show n - 1 + 2 = n + 1 by omega]
    exact H
end
end K33
end

section
set_option maxRecDepth 20000
namespace K33
open PySem Tq
local macro_rules | `(tactic| simp? [$xs,*]) => `(tactic| simp (disch := omega) only [↓Blk_eq, ↓w_non, ↓w_bl, ↓w_int, ↓w_str, ↓w_var, ↓w_frz, ↓w_two, ↓w_un, ↓w_cnd, ↓w_op, ↓w_neg, ↓w_not, ↓w_and, ↓w_or, ↓w_cmp, ↓w_cmp2, ↓w_ite, ↓w_call, ↓w_callk, ↓w_calls, ↓w_takes_nil, ↓w_takes_t, ↓w_takes_s, ↓w_bi, ↓w_isi, ↓w_idx, ↓w_sl, ↓w_tup, ↓w_lst, ↓w_dic0, ↓w_dic1, ↓w_lc, ↓w_pop', ↓w_popi', ↓w_pop1, ↓w_nil, ↓w_bi1, ↓w_get1, ↓w_get2, ↓w_count, ↓w_index, ↓w_lrng, ↓w_lrng2, ↓w_lrev, ↓w_evs_nil, ↓w_evs_cons, ↓w_evv_nil, ↓w_evv_cons, ↓w_evc_nil, ↓w_evc_one, ↓w_seq, ↓w_rng1, ↓w_rng2, ↓w_rng3, ↓w_enum, ↓w_zip, ↓w_rev, ↓w_items, ↓w_vals, ↓w_pl, ↓asO_non, ↓asO_bl, ↓asO_int, ↓asO_str, ↓asO_var, ↓asO_frz, ↓asO_gl, ↓asO_op, ↓asO_neg, ↓asO_not, ↓asO_and, ↓asO_or, ↓asO_cmp, ↓asO_cmp2, ↓asO_nil, ↓asO_ite, ↓asO_call, ↓asO_callk, ↓asO_bi, ↓asO_bi1, ↓asO_isi, ↓asO_idx, ↓asO_frz1, ↓asO_sl, ↓asO_tup, ↓asO_lst, ↓asO_dic, ↓asO_lc, ↓asO_pop, ↓asO_popi, ↓asO_pop1, ↓asO_get1, ↓asO_get2, ↓asO_count, ↓asO_index, ↓asO_lrng, ↓asO_lrng2, ↓asO_lrev, ↓w_pks, ↓s_nil, ↓s_cons, ↓s_pass, ↓s_brk, ↓s_ct, ↓s_retN, ↓s_ret, ↓s_asg, ↓s_par, ↓s_seti, ↓s_app', ↓s_ext', ↓s_drop, ↓s_iff, ↓s_for, ↓s_whl, ↓WR_bnd, ↓WR_ofO, ↓WO_obnd, ↓WV_rng, ↓WV_rngD, ↓WV_asg, ↓WV_asgt, ↓WV_asgs0, ↓WV_asgs, ↓WV_set0, ↓WV_set, lsO_some, o_mul_tn, o_add_tt, WE_cons, WE_nil, WR_ok, WR_no, WF_ok, WV_some, WV_none, WG_true, WG_false, WB_true, WB_false, WT_bl, WI_int, WL_lst, WV_if, WV_map, WV_bind, gives_s, gives_t, gives_nil, pk_t, pk_s, pks_nil, o_int, o_add_llg, o_mul_ln, oi_add, oi_sub, oi_mul, oi_fdiv, oi_mod, oi_pow, oi_shl, c_lt, c_le, c_gt, c_ge, c_eq, c_ne, c_is_non, c_isnot_non, c_is_bl, tru_bl, tru_int, tru_tup, tru_lst, gt_zero, gt_succ, st_zero, st_succ, mv_t, mv_f, fz_t, fz_f, gv_t, gv_f, tT_sh, tI_sh, frz_tT, frz_tI, itemsOf_tT, itemsOf_tI, seqF_tT, seqF_tI, b_len_tI, b_len_tT, dic_sh, dicf_sh, frz_dN, frzK_N, shK_N, itemsOf_dN, isDi_dic, getD_N, rt_sh, getI_rt0, getI_rt1, frz_rt, isDi_rt, true_and, and_true, T.sh, shL, shK, T.frz, frzL, shL_ofInts, frzL_ofInts, getI_l0, getI_l1, getI_l2, getI_t0, getI_t1, getI_t2, setI_l0, setI_l1, setI_l2, isL, isDi, Op.isS, itm_l0, gNil_l, isK, wipe, wipeS, backS, perm0, perm1, List.length_cons, List.length_nil, decide_true, decide_false, Bool.not_true, Bool.not_false, Bool.and_true, Bool.true_and, Bool.and_false, Bool.false_and, Bool.or_true, Bool.true_or, Bool.or_false, Bool.false_or, Option.isSome_some, Option.isSome_none, negT, b_len_t, b_len_l, b_abs, b_list_l, b_tuple_l, b_min2, b_max2, b_int, b_gcd, asSeq_t, asSeq_f, itemsOf_t, itemsOf_l, seqF_t, seqF_l, zipT_t, zipT_l, List.cons_append, List.nil_append, Int.sub_zero, Int.zero_add, isTy_s, List.any_cons, List.any_nil, Bool.false_eq_true, Bool.true_eq_false, Nat.reduceAdd, Nat.reduceLT, Nat.reduceLeDiff, Int.reduceToNat, Int.reduceSub, Int.reduceAdd, Int.reduceMul, Int.reduceLT, Int.reduceLE, Int.reduceNeg, Int.reduceEq, List.isEmpty_cons, List.isEmpty_nil, bne_false_, powOk_10_9, List.getElem?_cons_zero, List.getElem?_cons_succ, rngOk_ab, dLL, dLT, rgLen, ofInts_len, rowI_len, rowI_frz, rowI_sh, enLen, List.length_map, List.length_range, List.length_append, List.length_take, List.length_drop, List.length_set, List.length_reverse, Int.toNat_natCast, rowI_get, rowI_getT, getI_T', getI_I', getI_L', mulOk_l', mulOk_r', isDi_tT, isDi_tI, shL_tI, frzL_tI, Int.mul_one, lotL_items, lotL_frz, lotL_shf, lotL_sht, b_len_lotL, isDi_lotL, lotT_sh, lotT_items', lotT_frz, b_len_lotT, isDi_lot, etI, etT, shL_ofInts, frzL_ofInts, oInt_non, oInt_var, oInt_int, oInt_op, oInt_neg, cut_tI_to, cut_tI_from, cut_tT_to, cut_tT_from, o_add_tI, o_add_tI1, o_add_tT, o_add_tT1, enumL_tT, enumL_tI, toNat_s, $xs,*])
local macro_rules | `(tactic| array_get_dec) => `(tactic| ((with_reducible refine WG_i ?_ ?_); focus (first | decide | exact mulOk_r (by omega) (by omega) | exact mulOk_l (by omega) (by omega) | exact divOk_l (by omega) (by omega) | (simp; done) | (simp; omega) | assumption | (simp [LL]; omega))))
local macro_rules | `(tactic| get_elem_tactic_extensible) => `(tactic| ((simp? [true_and]); repeat (array_get_dec; try (simp? [true_and]))))
abbrev spR (M : List (List Int)) (n : Nat) : Nat → Int := fun r => SP M n (n - r)
section
variable {rp : T → Str} {k : Nat} {Q : T → List (Option T) → Prop}
theorem shifted_w {n B : Nat} {M : List (List Int)} (hM : Sqr n B M) (hn : n ≤ 12) (hB : B ≤ 1000000) (H : Q (.tup (rowI (n + 1) (spR M n))) [some (tuT M)]) : WF (rn (Pp rp) (k + 3) 4 [tuT M]) Q := by
  refine e4 ?_
  have hl := hM.1
  have hr : rngOk (-1) (n : Int) = true := rngOk_ab (by omega) (by omega) (by omega) (by omega)
  have hc : ((n : Int) - -1).toNat = n + 1 := by omega
  simp? [b4, hl, hr, hc]
  refine for_inv (fun i ε => ∃ s s', ε = [some (tuT M), s, some (.int (n : Int)), some (.lst true (rowI i (spR M n))), s']) _ ?_ ?_ ⟨none, none, rfl⟩
  · rintro i x ε hx ⟨s, s', rfl⟩
    obtain ⟨hi, rfl⟩ := rgAt hx
    have e : (n : Int) + (i : Int) * -1 = ((n - i : Nat) : Int) := by omega
    rw [e]
    get_elem_tactic_extensible
    refine lots_w (k := k + 1) hn (by omega) ?_
    have hls := lots_sh (lotsR (List.range n) (n - i))
    have hlf := lots_frz (lotsR (List.range n) (n - i))
    have hlen := lotsR_len (List.range n) (n - i)
    have h2 : 2 ^ (List.range n).length ≤ 4096 := by rw [List.length_range]; exact Nat.le_trans (Nat.pow_le_pow_right (by decide) hn) (by decide)
    ((simp? [hlf]); repeat (array_get_dec; try (simp? [hlf])))
    refine lc_of lotT (fun l => .int (per (rowsAt M l) l)) _ ?_ ?_
    · intro l hl
      have hm := lotsR_mem _ _ _ hl
      simp? [lotT_sh]
      refine partsum_w hM hn hB (fun i hi => List.mem_range.mp (hm.1 i hi)) (fun i hi => List.mem_range.mp (hm.1 i hi)) (by omega) rfl ?_
      simp? [lotT_sh]
      rfl
    rw [ofInts_map]
    have e2 : (List.map (fun l => per (rowsAt M l) l) (lotsR (List.range n) (n - i))).sum = spR M n i := SP_lots M n (n - i)
    simp? [b_sum_ints, e2]
    exact ⟨_, _, by rw [rowI_snoc]⟩
  · rintro ε ⟨s, s', rfl⟩
    simp? [true_and]
    exact H
end
end K33
end

section
set_option maxRecDepth 20000
namespace K33
open PySem Tq
local macro_rules | `(tactic| simp? [$xs,*]) => `(tactic| simp (disch := omega) only [↓Blk_eq, ↓w_non, ↓w_bl, ↓w_int, ↓w_str, ↓w_var, ↓w_frz, ↓w_two, ↓w_un, ↓w_cnd, ↓w_op, ↓w_neg, ↓w_not, ↓w_and, ↓w_or, ↓w_cmp, ↓w_cmp2, ↓w_ite, ↓w_call, ↓w_callk, ↓w_calls, ↓w_takes_nil, ↓w_takes_t, ↓w_takes_s, ↓w_bi, ↓w_isi, ↓w_idx, ↓w_sl, ↓w_tup, ↓w_lst, ↓w_dic0, ↓w_dic1, ↓w_lc, ↓w_pop', ↓w_popi', ↓w_pop1, ↓w_nil, ↓w_bi1, ↓w_get1, ↓w_get2, ↓w_count, ↓w_index, ↓w_lrng, ↓w_lrng2, ↓w_lrev, ↓w_evs_nil, ↓w_evs_cons, ↓w_evv_nil, ↓w_evv_cons, ↓w_evc_nil, ↓w_evc_one, ↓w_seq, ↓w_rng1, ↓w_rng2, ↓w_rng3, ↓w_enum, ↓w_zip, ↓w_rev, ↓w_items, ↓w_vals, ↓w_pl, ↓asO_non, ↓asO_bl, ↓asO_int, ↓asO_str, ↓asO_var, ↓asO_frz, ↓asO_gl, ↓asO_op, ↓asO_neg, ↓asO_not, ↓asO_and, ↓asO_or, ↓asO_cmp, ↓asO_cmp2, ↓asO_nil, ↓asO_ite, ↓asO_call, ↓asO_callk, ↓asO_bi, ↓asO_bi1, ↓asO_isi, ↓asO_idx, ↓asO_frz1, ↓asO_sl, ↓asO_tup, ↓asO_lst, ↓asO_dic, ↓asO_lc, ↓asO_pop, ↓asO_popi, ↓asO_pop1, ↓asO_get1, ↓asO_get2, ↓asO_count, ↓asO_index, ↓asO_lrng, ↓asO_lrng2, ↓asO_lrev, ↓w_pks, ↓s_nil, ↓s_cons, ↓s_pass, ↓s_brk, ↓s_ct, ↓s_retN, ↓s_ret, ↓s_asg, ↓s_par, ↓s_seti, ↓s_app', ↓s_ext', ↓s_drop, ↓s_iff, ↓s_for, ↓s_whl, ↓WR_bnd, ↓WR_ofO, ↓WO_obnd, ↓WV_rng, ↓WV_rngD, ↓WV_asg, ↓WV_asgt, ↓WV_asgs0, ↓WV_asgs, ↓WV_set0, ↓WV_set, lsO_some, o_mul_tn, o_add_tt, WE_cons, WE_nil, WR_ok, WR_no, WF_ok, WV_some, WV_none, WG_true, WG_false, WB_true, WB_false, WT_bl, WI_int, WL_lst, WV_if, WV_map, WV_bind, gives_s, gives_t, gives_nil, pk_t, pk_s, pks_nil, o_int, o_add_llg, o_mul_ln, oi_add, oi_sub, oi_mul, oi_fdiv, oi_mod, oi_pow, oi_shl, c_lt, c_le, c_gt, c_ge, c_eq, c_ne, c_is_non, c_isnot_non, c_is_bl, tru_bl, tru_int, tru_tup, tru_lst, gt_zero, gt_succ, st_zero, st_succ, mv_t, mv_f, fz_t, fz_f, gv_t, gv_f, tT_sh, tI_sh, frz_tT, frz_tI, itemsOf_tT, itemsOf_tI, seqF_tT, seqF_tI, b_len_tI, b_len_tT, dic_sh, dicf_sh, frz_dN, frzK_N, shK_N, itemsOf_dN, isDi_dic, getD_N, rt_sh, getI_rt0, getI_rt1, frz_rt, isDi_rt, true_and, and_true, T.sh, shL, shK, T.frz, frzL, shL_ofInts, frzL_ofInts, getI_l0, getI_l1, getI_l2, getI_t0, getI_t1, getI_t2, setI_l0, setI_l1, setI_l2, isL, isDi, Op.isS, itm_l0, gNil_l, isK, wipe, wipeS, backS, perm0, perm1, List.length_cons, List.length_nil, decide_true, decide_false, Bool.not_true, Bool.not_false, Bool.and_true, Bool.true_and, Bool.and_false, Bool.false_and, Bool.or_true, Bool.true_or, Bool.or_false, Bool.false_or, Option.isSome_some, Option.isSome_none, negT, b_len_t, b_len_l, b_abs, b_list_l, b_tuple_l, b_min2, b_max2, b_int, b_gcd, asSeq_t, asSeq_f, itemsOf_t, itemsOf_l, seqF_t, seqF_l, zipT_t, zipT_l, List.cons_append, List.nil_append, Int.sub_zero, Int.zero_add, isTy_s, List.any_cons, List.any_nil, Bool.false_eq_true, Bool.true_eq_false, Nat.reduceAdd, Nat.reduceLT, Nat.reduceLeDiff, Int.reduceToNat, Int.reduceSub, Int.reduceAdd, Int.reduceMul, Int.reduceLT, Int.reduceLE, Int.reduceNeg, Int.reduceEq, List.isEmpty_cons, List.isEmpty_nil, bne_false_, powOk_10_9, List.getElem?_cons_zero, List.getElem?_cons_succ, rngOk_ab, dLL, dLT, rgLen, ofInts_len, rowI_len, rowI_frz, rowI_sh, enLen, List.length_map, List.length_range, List.length_append, List.length_take, List.length_drop, List.length_set, List.length_reverse, Int.toNat_natCast, rowI_get, rowI_getT, getI_T', getI_I', getI_L', mulOk_l', mulOk_r', isDi_tT, isDi_tI, shL_tI, frzL_tI, Int.mul_one, lotL_items, lotL_frz, lotL_shf, lotL_sht, b_len_lotL, isDi_lotL, lotT_sh, lotT_items', lotT_frz, b_len_lotT, isDi_lot, etI, etT, shL_ofInts, frzL_ofInts, oInt_non, oInt_var, oInt_int, oInt_op, oInt_neg, cut_tI_to, cut_tI_from, cut_tT_to, cut_tT_from, o_add_tI, o_add_tI1, o_add_tT, o_add_tT1, enumL_tT, enumL_tI, toNat_s, $xs,*])
local macro_rules | `(tactic| array_get_dec) => `(tactic| ((with_reducible refine WG_i ?_ ?_); focus (first | decide | exact mulOk_r (by omega) (by omega) | exact mulOk_l (by omega) (by omega) | exact divOk_l (by omega) (by omega) | (simp; done) | (simp; omega) | assumption | (simp [LL]; omega))))
local macro_rules | `(tactic| get_elem_tactic_extensible) => `(tactic| ((simp? [true_and]); repeat (array_get_dec; try (simp? [true_and]))))
theorem rep0 (n : Nat) : (List.replicate (n + 1) [T.int 0]).flatten = rowI (n + 1) fun _ => 0 := by
  rw [List.flatten_replicate_singleton]
  refine List.ext_getElem (by simp [rowI]) fun i h1 h2 => ?_
  simp [rowI]
theorem part_tab (M : List (List Int)) (R C : List Nat) : (part M R C).map tuI = R.map fun i => tuI (C.map fun j => (M.getD i []).getD j 0) := by
  unfold part; rw [List.map_map]; rfl
theorem mk_mem : ∀ (n : Nat) (p : List Nat × List Nat), p ∈ mk n → ∀ x ∈ p.1, x < n
  | 0, p, h, x, hx => by
    have : p = ([], []) := by simpa [mk] using h
    subst this; cases hx
  | n + 1, p, h, x, hx => by
    rw [mk, List.mem_append] at h
    rcases h with h | h
    · obtain ⟨q, hq, rfl⟩ := List.mem_map.mp h
      have := mk_mem n q hq x hx
      omega
    · obtain ⟨q, hq, rfl⟩ := List.mem_map.mp h
      simp only [List.mem_append, List.mem_singleton] at hx
      rcases hx with hx | rfl
      · have := mk_mem n q hq x hx
        omega
      · omega
section
variable {rp : T → Str} {k : Nat} {Q : T → List (Option T) → Prop}
theorem due_w {n B : Nat} {M : List (List Int)} (hM : Sqr n B M) (hn : n ≤ 12) (hB : B ≤ 1000000) (H : Q (.tup (rowI (n + 1) (spR M n))) [some (tuT M)]) : WF (rn (Pp rp) (k + 2) 14 [tuT M]) Q := by
  refine e14 ?_
  have hl := hM.1
  have hp2 : ∀ i, i ≤ n → 2 ^ i ≤ 4096 := fun i hi => Nat.le_trans (Nat.pow_le_pow_right (by decide) (Nat.le_trans hi hn)) (by decide)
  have w0 : shL [T.int 0] = true := rfl
  simp? [b14, hl, w0]
  refine WG_i (by simp only [Bool.and_eq_true, decide_eq_true_eq]; (repeat' apply And.intro) <;> ((try unfold LL); omega)) ?_
  simp? [rep0]
  refine for_rng (fun i ε => ∃ s3 xs, frzL xs = (mk i).map (fun p => lotL false p.1) ∧ xs.length = 2 ^ i ∧ ∃ s2, ε = [some (tuT M), some (.int (n : Int)), s2, s3, some (.lst true (rowI (n + 1) fun _ => 0)), some (.lst true xs), none, none, none]) ?_ ?_ ⟨none, [.lst true []], rfl, rfl, none, rfl⟩
  · rintro i ε hi ⟨s3, xs, hx, hxl, s2, rfl⟩
    have hpi := hp2 i (by omega)
    have hso : ∀ xs, (T.lst true xs).sh = false := fun _ => rfl
    have hfl : (frzL xs).length = 2 ^ i := by rw [frzL_map, List.length_map, hxl]
    have hfs : shL (frzL xs) = true := shL_frz xs
    have hff : frzL (frzL xs) = frzL xs := frzL_sh _ hfs
    simp? [hso, hfl, hfs, hff]
    rw [hx]
    refine lc_of (fun (p : List Nat × List Nat) => lotL false p.1) (fun p => lotL true (p.1 ++ [i])) _ ?_ ?_
    · intro p hp
      have hlp := mk_parts i p hp
      simp? [lotL_shf]
      unfold lotL
      have hap : ofInts (p.1.map fun (i : Nat) => (i : Int)) ++ [T.int (i : Int)] = ofInts ((p.1 ++ [i]).map fun (i : Nat) => (i : Int)) := by simp [ofInts]
      simp? [shL_ofInts, hap]
    have hml : (mk i).length = 2 ^ i := mk_len i
    rw [← hx]
    simp? [hfs, hfl, hml]
    refine ⟨_, _, ?_, ?_, _, rfl⟩
    · rw [frzL_map, List.map_append, ← frzL_map, ← frzL_map, frzL_sh _ hfs, hx, frzL_map, List.map_map, mk, List.map_append, List.map_map, List.map_map]
      congr 1
      exact List.map_congr_left fun p _ => lotL_frz true _
    · rw [List.length_append, List.length_map, hfl, hml, Nat.pow_succ]; omega
  · rintro ε ⟨s3, xs, hx, hxl, s2, rfl⟩
    have hpi := hp2 n (by omega)
    have hso : ∀ xs, (T.lst true xs).sh = false := fun _ => rfl
    have hff : frzL (frzL xs) = frzL xs := frzL_sh _ (shL_frz xs)
    simp? [hso, hff]
    rw [hx]
    refine for_of (fun (p : List Nat × List Nat) => lotL false p.1) (fun i ε => ∃ s3 s6, ε = [some (tuT M), some (.int (n : Int)), s2, s3, some (.lst true (rowI (n + 1) fun r => sm ((mk n).take i) fun p => if n - p.1.length = r then per (rowsAt M p.1) p.1 else 0)), some (.lst false ((mk n).map fun p => lotL false p.1)), s6, none, none]) _ ?_ ?_ ⟨s3, none, rfl⟩
    · rintro i p ε hp ⟨s3, s6, rfl⟩
      have hpm := List.mem_of_getElem? hp
      have hlp := mk_parts n p hpm
      have hin := mk_mem n p hpm
      simp? [lotL_shf, lotL_items]
      refine lc_of (fun (i : Nat) => T.int (i : Int)) (fun i => tuI (p.1.map fun j => (M.getD i []).getD j 0)) _ ?_ ?_
      · intro y hy
        have hyn := hin y hy
        simp? [lotL_shf, lotL_items]
        refine lc_of (fun (i : Nat) => T.int (i : Int)) (fun j => .int ((M.getD y []).getD j 0)) _ ?_ ?_
        · intro z hz
          have hzn := hin z hz
          have hr := (hM.row hyn).2
          simp? [true_and]
        rw [ofInts_map]
        simp? [etI]
        skip
      rw [← part_tab]
      simp? [etT, shL_tI]
      refine lwhole_w (k' := k) (n := p.1.length) (by omega) (by simp [part]) (fun r hr => ?_) (fun r hr x hx => ?_) ?_
      · obtain ⟨i, -, rfl⟩ := List.mem_map.mp hr
        rw [List.length_map]
      · obtain ⟨i, -, rfl⟩ := List.mem_map.mp hr
        obtain ⟨j, -, rfl⟩ := List.mem_map.mp hx
        have := hM.getD i j
        omega
      rw [part_per]
      have e1 : (n : Int) - (p.1.length : Int) = ((n - p.1.length : Nat) : Int) := by omega
      have hset : ∀ v, setI (.lst true (rowI (n + 1) fun r => sm ((mk n).take i) fun p => if n - p.1.length = r then per (rowsAt M p.1) p.1 else 0)) (.int ((n - p.1.length : Nat) : Int)) (.int v) = some (.lst true (rowI (n + 1) fun j => if j = n - p.1.length then v else sm ((mk n).take i) fun p => if n - p.1.length = j then per (rowsAt M p.1) p.1 else 0)) := fun v => rowI_set _ (by omega) v
      simp? [b_len_lotL, e1, hset]
      have er : rowI (n + 1) (fun j => if j = n - p.1.length then (sm ((mk n).take i) fun q => if n - q.1.length = n - p.1.length then per (rowsAt M q.1) q.1 else 0) + per (p.1.map fun i => M.getD i []) p.1 else sm ((mk n).take i) fun p => if n - p.1.length = j then per (rowsAt M p.1) p.1 else 0) = rowI (n + 1) fun r => sm ((mk n).take (i + 1)) fun p => if n - p.1.length = r then per (rowsAt M p.1) p.1 else 0 := by
        refine rowI_congr fun j _ => ?_
        rw [List.take_add_one, hp, sm_append]
        simp only [Option.toList_some, sm_cons, sm_nil, Int.add_zero]
        by_cases h : j = n - p.1.length
        · subst h; simp [rowsAt]
        · rw [if_neg h, if_neg (fun e => h e.symm)]; omega
      rw [er]
      exact ⟨_, _, rfl⟩
    · rintro ε ⟨s3, s6, rfl⟩
      have er : rowI (n + 1) (fun r => sm ((mk n).take (mk n).length) fun p => if n - p.1.length = r then per (rowsAt M p.1) p.1 else 0) = rowI (n + 1) (spR M n) := by
        refine rowI_congr fun j hj => ?_
        rw [List.take_length, show spR M n j = SP M n (n - j) from rfl, ← SP_mk]
        refine sm_congr fun p hp => ?_
        have := mk_parts n p hp
        by_cases h : p.1.length = n - j
        · rw [if_pos h, if_pos (by omega)]
        · rw [if_neg h, if_neg (by omega)]
      rw [er]
      simp? [true_and]
      exact H
end
end K33
end

section
set_option maxRecDepth 20000
namespace K33
open PySem Tq
local macro_rules | `(tactic| simp? [$xs,*]) => `(tactic| simp (disch := omega) only [↓Blk_eq, ↓w_non, ↓w_bl, ↓w_int, ↓w_str, ↓w_var, ↓w_frz, ↓w_two, ↓w_un, ↓w_cnd, ↓w_op, ↓w_neg, ↓w_not, ↓w_and, ↓w_or, ↓w_cmp, ↓w_cmp2, ↓w_ite, ↓w_call, ↓w_callk, ↓w_calls, ↓w_takes_nil, ↓w_takes_t, ↓w_takes_s, ↓w_bi, ↓w_isi, ↓w_idx, ↓w_sl, ↓w_tup, ↓w_lst, ↓w_dic0, ↓w_dic1, ↓w_lc, ↓w_pop', ↓w_popi', ↓w_pop1, ↓w_nil, ↓w_bi1, ↓w_get1, ↓w_get2, ↓w_count, ↓w_index, ↓w_lrng, ↓w_lrng2, ↓w_lrev, ↓w_evs_nil, ↓w_evs_cons, ↓w_evv_nil, ↓w_evv_cons, ↓w_evc_nil, ↓w_evc_one, ↓w_seq, ↓w_rng1, ↓w_rng2, ↓w_rng3, ↓w_enum, ↓w_zip, ↓w_rev, ↓w_items, ↓w_vals, ↓w_pl, ↓asO_non, ↓asO_bl, ↓asO_int, ↓asO_str, ↓asO_var, ↓asO_frz, ↓asO_gl, ↓asO_op, ↓asO_neg, ↓asO_not, ↓asO_and, ↓asO_or, ↓asO_cmp, ↓asO_cmp2, ↓asO_nil, ↓asO_ite, ↓asO_call, ↓asO_callk, ↓asO_bi, ↓asO_bi1, ↓asO_isi, ↓asO_idx, ↓asO_frz1, ↓asO_sl, ↓asO_tup, ↓asO_lst, ↓asO_dic, ↓asO_lc, ↓asO_pop, ↓asO_popi, ↓asO_pop1, ↓asO_get1, ↓asO_get2, ↓asO_count, ↓asO_index, ↓asO_lrng, ↓asO_lrng2, ↓asO_lrev, ↓w_pks, ↓s_nil, ↓s_cons, ↓s_pass, ↓s_brk, ↓s_ct, ↓s_retN, ↓s_ret, ↓s_asg, ↓s_par, ↓s_seti, ↓s_app', ↓s_ext', ↓s_drop, ↓s_iff, ↓s_for, ↓s_whl, ↓WR_bnd, ↓WR_ofO, ↓WO_obnd, ↓WV_rng, ↓WV_rngD, ↓WV_asg, ↓WV_asgt, ↓WV_asgs0, ↓WV_asgs, ↓WV_set0, ↓WV_set, lsO_some, o_mul_tn, o_add_tt, WE_cons, WE_nil, WR_ok, WR_no, WF_ok, WV_some, WV_none, WG_true, WG_false, WB_true, WB_false, WT_bl, WI_int, WL_lst, WV_if, WV_map, WV_bind, gives_s, gives_t, gives_nil, pk_t, pk_s, pks_nil, o_int, o_add_llg, o_mul_ln, oi_add, oi_sub, oi_mul, oi_fdiv, oi_mod, oi_pow, oi_shl, c_lt, c_le, c_gt, c_ge, c_eq, c_ne, c_is_non, c_isnot_non, c_is_bl, tru_bl, tru_int, tru_tup, tru_lst, gt_zero, gt_succ, st_zero, st_succ, mv_t, mv_f, fz_t, fz_f, gv_t, gv_f, tT_sh, tI_sh, frz_tT, frz_tI, itemsOf_tT, itemsOf_tI, seqF_tT, seqF_tI, b_len_tI, b_len_tT, dic_sh, dicf_sh, frz_dN, frzK_N, shK_N, itemsOf_dN, isDi_dic, getD_N, rt_sh, getI_rt0, getI_rt1, frz_rt, isDi_rt, true_and, and_true, T.sh, shL, shK, T.frz, frzL, shL_ofInts, frzL_ofInts, getI_l0, getI_l1, getI_l2, getI_t0, getI_t1, getI_t2, setI_l0, setI_l1, setI_l2, isL, isDi, Op.isS, itm_l0, gNil_l, isK, wipe, wipeS, backS, perm0, perm1, List.length_cons, List.length_nil, decide_true, decide_false, Bool.not_true, Bool.not_false, Bool.and_true, Bool.true_and, Bool.and_false, Bool.false_and, Bool.or_true, Bool.true_or, Bool.or_false, Bool.false_or, Option.isSome_some, Option.isSome_none, negT, b_len_t, b_len_l, b_abs, b_list_l, b_tuple_l, b_min2, b_max2, b_int, b_gcd, asSeq_t, asSeq_f, itemsOf_t, itemsOf_l, seqF_t, seqF_l, zipT_t, zipT_l, List.cons_append, List.nil_append, Int.sub_zero, Int.zero_add, isTy_s, List.any_cons, List.any_nil, Bool.false_eq_true, Bool.true_eq_false, Nat.reduceAdd, Nat.reduceLT, Nat.reduceLeDiff, Int.reduceToNat, Int.reduceSub, Int.reduceAdd, Int.reduceMul, Int.reduceLT, Int.reduceLE, Int.reduceNeg, Int.reduceEq, List.isEmpty_cons, List.isEmpty_nil, bne_false_, powOk_10_9, List.getElem?_cons_zero, List.getElem?_cons_succ, rngOk_ab, dLL, dLT, rgLen, ofInts_len, rowI_len, rowI_frz, rowI_sh, enLen, List.length_map, List.length_range, List.length_append, List.length_take, List.length_drop, List.length_set, List.length_reverse, Int.toNat_natCast, rowI_get, rowI_getT, getI_T', getI_I', getI_L', mulOk_l', mulOk_r', isDi_tT, isDi_tI, shL_tI, frzL_tI, Int.mul_one, lotL_items, lotL_frz, lotL_shf, lotL_sht, b_len_lotL, isDi_lotL, lotT_sh, lotT_items', lotT_frz, b_len_lotT, isDi_lot, etI, etT, shL_ofInts, frzL_ofInts, oInt_non, oInt_var, oInt_int, oInt_op, oInt_neg, cut_tI_to, cut_tI_from, cut_tT_to, cut_tT_from, o_add_tI, o_add_tI1, o_add_tT, o_add_tT1, enumL_tT, enumL_tI, toNat_s, $xs,*])
local macro_rules | `(tactic| array_get_dec) => `(tactic| ((with_reducible refine WG_i ?_ ?_); focus (first | decide | exact mulOk_r (by omega) (by omega) | exact mulOk_l (by omega) (by omega) | exact divOk_l (by omega) (by omega) | (simp; done) | (simp; omega) | assumption | (simp [LL]; omega))))
local macro_rules | `(tactic| get_elem_tactic_extensible) => `(tactic| ((simp? [true_and]); repeat (array_get_dec; try (simp? [true_and]))))
/-- m more along the diagonal -/
def moreD (M : List (List Int)) (n : Nat) (m : Int) : List (List Int) := (List.range n).map fun i => (M.getD i []).take i ++ [(M.getD i []).getD i 0 + m] ++ (M.getD i []).drop (i + 1)
theorem moreD_row {n B : Nat} {M : List (List Int)} (hM : Sqr n B M) {i : Nat} (hi : i < n) (m : Int) : (moreD M n m).getD i [] = (M.getD i []).set i ((M.getD i []).getD i 0 + m) := by
  have hr := (hM.row hi).2
  rw [List.set_eq_take_append_cons_drop, if_pos (by omega)]
  simp [moreD, List.getD_eq_getElem?_getD, hi]
theorem moreD_at {n B : Nat} {M : List (List Int)} (hM : Sqr n B M) {i : Nat} (hi : i < n) (m : Int) (c : Nat) : ((moreD M n m).getD i []).getD c 0 = (M.getD i []).getD c 0 + if c = i then m else 0 := by
  have hr := (hM.row hi).2
  rw [moreD_row hM hi, List.getD_eq_getElem?_getD (l := List.set _ _ _), List.getElem?_set]
  by_cases h : i = c
  · subst h
    rw [if_pos rfl, if_pos (by omega), if_pos rfl]; rfl
  · rw [if_neg h, if_neg (fun e => h e.symm), Int.add_zero]
    simp [List.getD_eq_getElem?_getD]
theorem moreD_len (M : List (List Int)) (n : Nat) (m : Int) : (moreD M n m).length = n := by simp [moreD]
theorem moreD_Sqr {n B : Nat} {M : List (List Int)} (hM : Sqr n B M) {m : Int} (hm : m.natAbs ≤ 10) : Sqr n (B + 10) (moreD M n m) := by
  refine ⟨moreD_len M n m, fun r hr => ?_⟩
  obtain ⟨i, hi, e⟩ := List.mem_iff_getElem.mp hr
  rw [moreD_len] at hi
  have e2 : (moreD M n m).getD i [] = r := by rw [List.getD_eq_getElem?_getD, List.getElem?_eq_getElem (by rw [moreD_len]; exact hi)]; exact e
  have hl : r.length = n := by rw [← e2, moreD_row hM hi, List.length_set]; exact (hM.row hi).2
  refine ⟨hl, fun x hx => ?_⟩
  obtain ⟨c, hc, e3⟩ := List.mem_iff_getElem.mp hx
  have h1 := moreD_at hM hi m c
  rw [e2, List.getD_eq_getElem?_getD, List.getElem?_eq_getElem hc, e3] at h1
  have h2 := hM.getD i c
  have h3 : x = (M.getD i []).getD c 0 + if c = i then m else 0 := h1
  split at h3 <;> omega
section
variable {rp : T → Str} {k : Nat} {Q : T → List (Option T) → Prop}
theorem more_w {n B : Nat} {M : List (List Int)} (hM : Sqr n B M) (hn : n ≤ 1000) (m : Int) (H : Q (tuT (moreD M n m)) [some (tuT M), some (.int m)]) : WF (rn (Pp rp) (k + 1) 15 [tuT M, .int m]) Q := by
  refine e15 ?_
  have hl := hM.1
  simp? [b15, hl]
  refine lc_of (fun (i : Nat) => T.tup [.int (i : Int), tuI (M.getD i [])]) (fun i => tuI ((M.getD i []).take i ++ [(M.getD i []).getD i 0 + m] ++ (M.getD i []).drop (i + 1))) _ ?_ ?_
  · intro i hi
    have hi := List.mem_range.mp hi
    have hr := (hM.row hi).2
    generalize M.getD i [] = r at *
    simp? [tI_sh]
    skip
  rw [tT_map]
  have e : List.map (fun i => (M.getD i []).take i ++ [(M.getD i []).getD i 0 + m] ++ (M.getD i []).drop (i + 1)) (List.range n) = moreD M n m := rfl
  rw [e]
  simp? [true_and]
  exact H
theorem table_w {b : T} {n : Nat} (hb : Bag b) (hn : n ≤ 8) (H : ∀ M b', Sqr n 900 M → Bag b' → Q (tuT M) [some b', some (.int (n : Int))]) : WF (rn (Pp rp) (k + 3) 16 [b, .int (n : Int)]) Q := by
  refine e16 ?_
  have hs := hb.sh
  simp? [b16, b16_0, hs]
  refine draw_w hb (by decide) (by decide) fun way b1 hway hb1 => ?_
  have hs1 := hb1.sh
  simp? [hs, hs1]
  refine pick_o (xs := [.int 8, .int 8, .int 7, .int 6, .int 4, .int 2]) hb1 (by decide) (by decide) fun sh hsh b2 hb2 => ?_
  have hs2 := hb2.sh
  obtain ⟨sv, rfl⟩ : ∃ v : Int, sh = .int v := by
    simp only [frzL, T.frz, List.mem_cons, List.not_mem_nil, or_false] at hsh
    rcases hsh with rfl | rfl | rfl | rfl | rfl | rfl <;> exact ⟨_, rfl⟩
  simp? [b16_1, hs1, hs2]
  refine pick_o (xs := [.lst true [.int 1], .lst true [.int 1, .int 2, .int 3], .lst true [.int 1, .int (-1)], .lst true [.int 1, .int 2, .int (-3), .int 5], .lst true [.int 900, .int (-900), .int 499, .int 1], .lst true [.int 4, .int 40, .int 400]]) hb2 (by decide) (by decide) fun so hso b3 hb3 => ?_
  have hs3 := hb3.sh
  obtain ⟨zs, rfl, hz1, hz2, hz3⟩ : ∃ zs : List Int, so = .lst false (ofInts zs) ∧ 0 < zs.length ∧ zs.length < 1000000 ∧ ∀ x ∈ zs, x.natAbs ≤ 900 := by
    simp only [frzL, T.frz, List.mem_cons, List.not_mem_nil, or_false] at hso
    rcases hso with rfl | rfl | rfl | rfl | rfl | rfl
    · exact ⟨[1], rfl, by decide, by decide, by decide⟩
    · exact ⟨[1, 2, 3], rfl, by decide, by decide, by decide⟩
    · exact ⟨[1, -1], rfl, by decide, by decide, by decide⟩
    · exact ⟨[1, 2, -3, 5], rfl, by decide, by decide, by decide⟩
    · exact ⟨[900, -900, 499, 1], rfl, by decide, by decide, by decide⟩
    · exact ⟨[4, 40, 400], rfl, by decide, by decide, by decide⟩
  have shI : ∀ xs, shL [tuI xs] = true := fun xs => shL_tI [xs]
  simp? [b16_2, hs2, hs3]
  refine WB_d (fun h => ?_) fun h => ?_
  · simp? [hs3]
    refine pick_o (xs := [.int 0, .int 1, .int 1, .int 2]) hb3 (by decide) (by decide) fun xx hxx b4 hb4 => ?_
    have hs4 := hb4.sh
    obtain ⟨xv, rfl, hxv⟩ : ∃ v : Int, xx = .int v ∧ v.natAbs ≤ 900 := by
      simp only [frzL, T.frz, List.mem_cons, List.not_mem_nil, or_false] at hxx
      rcases hxx with rfl | rfl | rfl | rfl <;> exact ⟨_, rfl, by decide⟩
    simp? [hs3, hs4]
    refine WG_i (by simp only [Bool.and_eq_true, decide_eq_true_eq]; (repeat' apply And.intro) <;> ((try unfold LL); omega)) ?_
    simp? [replI', shI]
    refine WG_i (by simp only [Bool.and_eq_true, decide_eq_true_eq]; (repeat' apply And.intro) <;> ((try unfold LL); omega)) ?_
    simp? [replR', hs4]
    exact H _ _ (Sqr.repl n xv hxv) hb4
  simp? [b16_3, hs3]
  refine WB_d (fun h => ?_) fun h => ?_
  · simp? [hs3]
    refine lc_rng (fun (i : Nat) => tuI ((List.range n).map fun (j : Nat) => if (j : Int) ∈ [(i : Int), (i : Int) - 1, (i : Int) + n - 1] then 1 else 0)) ?_ ?_
    · intro i hi
      simp? [hs3]
      refine lc_rng (fun (j : Nat) => T.int (if (j : Int) ∈ [(i : Int), (i : Int) - 1, (i : Int) + n - 1] then 1 else 0)) ?_ ?_
      · intro j hj
        have hcm1 := isin_3 (j : Int) (i : Int) ((i : Int) - 1) ((i : Int) + n - 1)
        by_cases hc : (j : Int) ∈ [(i : Int), (i : Int) - 1, (i : Int) + n - 1]
        · rw [decide_eq_true hc] at hcm1
          simp? [hcm1, hs3]
          rw [if_pos hc]
        · rw [decide_eq_false hc] at hcm1
          simp? [hcm1, hs3]
          rw [if_neg hc]
      rw [rowI_ofInts]
      simp? [hs3]
    rw [tab_tuI]
    simp? [hs3]
    exact H _ _ (tab_Sqr fun i j _ _ => by split <;> decide) hb3
  simp? [b16_4, hs3]
  refine WB_d (fun h => ?_) fun h => ?_
  · simp? [hs3]
    refine lc_rng (fun (i : Nat) => tuI ((List.range n).map fun (j : Nat) => if i = j then 0 else 1)) ?_ ?_
    · intro i hi
      simp? [hs3]
      refine lc_rng (fun (j : Nat) => T.int (if i = j then 0 else 1)) ?_ ?_
      · intro j hj
        by_cases hc : i = j
        · subst hc
          have hd : decide ((i : Int) = (i : Int)) = true := decide_eq_true rfl
          simp? [hs3, hd]
          simp
        · have hd : decide ((i : Int) = (j : Int)) = false := decide_eq_false (by omega)
          simp? [hs3, hd]
          simp [hc]
      rw [rowI_ofInts]
      simp? [hs3]
    rw [tab_tuI]
    simp? [hs3]
    exact H _ _ (tab_Sqr fun i j _ _ => by split <;> decide) hb3
  have h1 : rngOk 0 (n : Int) = true := rngOk_n (by omega)
  have hll : decide ((rngL 0 n 1).length ≤ LL) = true := decide_eq_true (by rw [rgLen]; unfold LL; omega)
  simp? [b16_5, b16_6, b16_7, hs3, h1, hll, Int.toNat_natCast]
  refine lc_inv (fun i acc ε => ∃ (Ms : List (List Int)) (b : T), acc = Ms.map (fun r => T.lst true (ofInts r)) ∧ Ms.length = i ∧ (∀ r ∈ Ms, r.length = n ∧ ∀ x ∈ r, x.natAbs ≤ 900) ∧ ε = [some b, some (.int (n : Int)), some (.lst false (ofInts zs)), none, some (.int (way : Int)), some (.int sv), none, none, none] ∧ Bag b) _ ?_ ?_ ⟨[], b3, rfl, rfl, by simp, rfl, hb3⟩
  · rintro i x acc ε hx ⟨Ms, b, rfl, hl, hM, rfl, hb⟩
    have hs := hb.sh
    obtain ⟨hi, rfl⟩ := rgAt hx
    simp? [hs, h1, hll, Int.toNat_natCast]
    refine lc_inv (fun j acc ε => ∃ xs b, acc = ofInts xs ∧ xs.length = j ∧ (∀ x ∈ xs, x.natAbs ≤ 900) ∧ ε = [some b, some (.int (n : Int)), some (.lst false (ofInts zs)), none, some (.int (way : Int)), some (.int sv), some (.int (i : Int)), none, none] ∧ Bag b) _ ?_ ?_ ⟨[], b, rfl, rfl, by simp, rfl, hb⟩
    · rintro j x acc ε hx ⟨xs, b, rfl, hl, hX, rfl, hb⟩
      have hs := hb.sh
      ((simp? [hs]); repeat (array_get_dec; try (simp? [hs])))
      refine draw_w hb (by decide) (by decide) fun v b' hv hb' => ?_
      have hs' := hb'.sh
      simp? [hs, hs']
      refine WB_d (fun h => ?_) fun h => ?_
      · simp? [hs']
        refine pick_s hb' hz1 hz2 fun x hx b3 hb3 => ?_
        have hs3 := hb3.sh
        simp? [hs', hs3]
        refine ⟨xs ++ [x], b3, by simp [ofInts], by simp [hl], fun y hy => ?_, rfl, hb3⟩
        rcases List.mem_append.mp hy with h | h
        · exact hX y h
        · rw [List.mem_singleton.mp h]; exact hz3 x hx
      · simp? [hs']
        refine ⟨xs ++ [0], b', by simp [ofInts], by simp [hl], fun y hy => ?_, rfl, hb'⟩
        rcases List.mem_append.mp hy with h | h
        · exact hX y h
        · rw [List.mem_singleton.mp h]; decide
    · rintro acc ε ⟨xs, b, rfl, hl2, hX, rfl, hb⟩
      rw [rgLen] at hl2
      have hs := hb.sh
      ((simp? [hs]); repeat (array_get_dec; try (simp? [hs])))
      refine ⟨Ms ++ [xs], b, by simp, by simp [hl], fun r hr => ?_, rfl, hb⟩
      rcases List.mem_append.mp hr with h | h
      · exact hM r h
      · rw [List.mem_singleton.mp h]; exact ⟨hl2, hX⟩
  · rintro acc ε ⟨Ms, b, rfl, hl, hM, rfl, hb⟩
    rw [rgLen] at hl
    have hs := hb.sh
    have hfr : ∀ o, frzL (Ms.map fun r => T.lst o (ofInts r)) = Ms.map fun r => T.lst false (ofInts r) := fun o => by
      rw [frzL_map, List.map_map]
      exact List.map_congr_left fun r _ => by simp [T.frz, frzL_ofInts]
    have hml : (Ms.map fun r => T.lst false (ofInts r)).length = n := by rw [List.length_map, hl]
    have hsf : (T.lst true (Ms.map fun r => T.lst true (ofInts r))).sh = false := rfl
    simp? [hs, hsf, hfr, hml]
    refine lc_map (fun t => match t with | .lst _ xs => .tup xs | t => t) _ ?_ ?_
    · intro x hx
      obtain ⟨r, -, rfl⟩ := List.mem_map.mp hx
      ((simp? [hs]); repeat (array_get_dec; try (simp? [hs])))
    have em : List.map (fun t => match t with | T.lst _ xs => T.tup xs | t => t) (Ms.map fun r => T.lst false (ofInts r)) = Ms.map tuI := by
      rw [List.map_map]; rfl
    have hst := shL_tI Ms
    rw [em]
    ((simp? [hs, hst, etT]); repeat (array_get_dec; try (simp? [hs, hst, etT])))
    exact H Ms b ⟨hl, hM⟩ hb
end
end K33
end

section
set_option maxRecDepth 20000
namespace K33
open PySem Tq
theorem pv_more {n B : Nat} {M : List (List Int)} (hM : Sqr n B M) (m : Int) : per (moreD M n m) (List.range n) = pv (spR M n) n m :=
  SP_more m (moreD_len M n m) fun i hi c => moreD_at hM hi m c
theorem sp_shift {n B : Nat} {M : List (List Int)} (hM : Sqr n B M) {m : Int} (hm : m.natAbs ≤ 10) {s : Nat} (hs : s ≤ n) : spR (moreD M n m) n s = sh_ (spR M n) n m s := by
  refine pv_ext (n := n) (fun x => ?_) hs
  rw [← pv_sh, ← pv_more (moreD_Sqr hM hm) x]
  exact SP_more (M := M) (x + m) (moreD_len _ _ _) fun i hi c => by
    rw [moreD_at (moreD_Sqr hM hm) hi, moreD_at hM hi]; split <;> omega
theorem per_led {n : Nat} {M : List (List Int)} (h : M.length = n) {R C : List Nat} (hR : R.Perm (List.range n)) (hC : C.Perm (List.range n)) : per (part M R C) (List.range n) = per M (List.range n) := by
  have := PS_led M M hR hC 0
  rwa [PS_zero (by simp [part, hR.length_eq]), PS_zero h] at this
theorem part_at (M : List (List Int)) (R C : List Nat) {i : Nat} (hi : i < R.length) (c : Nat) : ((part M R C).getD i []).getD c 0 = if c < C.length then (M.getD (R.getD i 0) []).getD (C.getD c 0) 0 else 0 := by
  have e1 : (part M R C).getD i [] = C.map fun j => (M.getD (R.getD i 0) []).getD j 0 := by
    simp [part, List.getD_eq_getElem?_getD, List.getElem?_eq_getElem hi]
  rw [e1, List.getD_eq_getElem?_getD, List.getElem?_map]
  by_cases h : c < C.length
  · rw [if_pos h]; simp [List.getD_eq_getElem?_getD, List.getElem?_eq_getElem h]
  · rw [if_neg h, List.getElem?_eq_none (by omega)]; rfl
theorem nodup_getD {R : List Nat} (h : R.Nodup) {i j : Nat} (hi : i < R.length) (hj : j < R.length) : R.getD i 0 = R.getD j 0 ↔ i = j := by
  simp only [List.getD_eq_getElem?_getD, List.getElem?_eq_getElem hi, List.getElem?_eq_getElem hj, Option.getD_some]
  constructor
  · intro e
    rcases Nat.lt_trichotomy i j with h1 | h1 | h1
    · exact absurd e (List.pairwise_iff_getElem.mp h i j hi hj h1)
    · exact h1
    · exact absurd e.symm (List.pairwise_iff_getElem.mp h j i hj hi h1)
  · rintro rfl; rfl
theorem sp_led {n B : Nat} {M : List (List Int)} (hM : Sqr n B M) {R : List Nat} (hR : R.Perm (List.range n)) {s : Nat} (hs : s ≤ n) : spR (part M R R) n s = spR M n s := by
  have hRl : R.length = n := by rw [hR.length_eq, List.length_range]
  have hnd : R.Nodup := hR.nodup_iff.mpr List.nodup_range
  have hlt : ∀ i, i < n → R.getD i 0 < n := fun i hi => by
    have : R.getD i 0 ∈ R := by
      rw [List.getD_eq_getElem?_getD, List.getElem?_eq_getElem (by omega)]; exact List.getElem_mem _
    exact List.mem_range.mp (hR.mem_iff.mp this)
  refine pv_ext (n := n) (fun x => ?_) hs
  rw [← pv_more hM x, ← per_led (moreD_len M n x) hR hR]
  refine (SP_more x (by simp [part, hRl]) fun i hi c => ?_).symm
  rw [part_at _ _ _ (by omega), part_at _ _ _ (by omega)]
  by_cases hc : c < n
  · rw [if_pos (by omega), if_pos (by omega), moreD_at hM (hlt i hi)]
    have := nodup_getD hnd (i := c) (j := i) (by omega) (by omega)
    simp only [this]
  · rw [if_neg (by omega), if_neg (by omega), if_neg (by omega)]; rfl
/-! ones but for the diagonal -/
def hol (n : Nat) : List (List Int) := tab n n fun i j => if i = j then 0 else 1
def ones (n : Nat) : List (List Int) := tab n n fun _ _ => 1
theorem per_ones : ∀ (rs : List (List Int)) (cs : List Nat), rs.length = cs.length → (∀ r ∈ rs, ∀ c ∈ cs, r.getD c 0 = 1) → per rs cs = (fact cs.length : Int)
  | [], cs, hl, _ => by
    have : cs = [] := List.length_eq_zero_iff.mp hl.symm
    subst this; rfl
  | r :: rs, cs, hl, h => by
    rw [per]
    have e : sm (picks cs) (fun p => r.getD p.1 0 * per rs p.2) = sm (picks cs) fun _ => (fact (cs.length - 1) : Int) := sm_congr fun p hp => by
      obtain ⟨h1, h2, h3⟩ := picks_mem cs p hp
      rw [h r (by simp) p.1 h1, per_ones rs p.2 (by simp at hl; omega) fun r hr c hc => h r (by simp [hr]) c (h2 c hc), show p.2.length = cs.length - 1 by omega]; omega
    have e2 : ∀ (α : Type) (xs : List α) (v : Int), sm xs (fun _ => v) = xs.length * v := fun α xs v => by
      induction xs with
      | nil => simp [sm]
      | cons x xs ih => rw [sm_cons, ih, List.length_cons]; grind
    rw [e, e2, picks_length]
    obtain ⟨m, hm⟩ : ∃ m, cs.length = m + 1 := ⟨cs.length - 1, by simp at hl; omega⟩
    rw [hm, show m + 1 - 1 = m by omega, fact, Int.natCast_mul]
theorem sp_ones (n q : Nat) : SP (ones n) n q = ((lotsR (List.range n) q).length : Int) * (fact q : Int) := by
  rw [← SP_lots]
  have e2 : ∀ (α : Type) (xs : List α) (v : Int), sm xs (fun _ => v) = xs.length * v := fun α xs v => by
    induction xs with
    | nil => simp [sm]
    | cons x xs ih => rw [sm_cons, ih, List.length_cons]; grind
  rw [← e2]
  refine sm_congr fun l hl => ?_
  have hm := lotsR_mem _ _ _ hl
  rw [← hm.2]
  refine per_ones _ _ (by simp [rowsAt]) fun r hr c hc => ?_
  obtain ⟨i, hi, rfl⟩ := List.mem_map.mp hr
  exact tab_getD _ (List.mem_range.mp (hm.1 i hi)) (List.mem_range.mp (hm.1 c hc))
theorem hol_per (n : Nat) : per (hol n) (List.range n) = pv (fun r => ((lotsR (List.range n) (n - r)).length : Int) * (fact (n - r) : Int)) n (-1) := by
  have := SP_more (M := ones n) (M3 := hol n) (n := n) (-1) (tab_len _ _ _) fun i hi c => by
    unfold hol ones
    rw [tab_row _ hi, tab_row _ hi, range_getD, range_getD]
    by_cases hc : c < n
    · rw [if_pos hc, if_pos hc]
      by_cases h : i = c
      · subst h; simp
      · rw [if_neg h, if_neg (fun e => h e.symm)]; rfl
    · rw [if_neg hc, if_neg hc, if_neg (by omega)]; rfl
  rw [this]
  unfold pv
  exact sm_congr fun r _ => by show SP (ones n) n (n - r) * (-1) ^ r = _; rw [sp_ones]
theorem hol_nf : ∀ n ∈ [1, 2, 3, 4, 5, 6, 7, 8, 10], per (hol n) (List.range n) = nf n := fun n hn => by
  rw [hol_per]
  revert n
  decide +kernel
theorem hol_sp : ∀ n ∈ [1, 2, 3, 4, 5, 6], ∀ s ∈ List.range (n + 1), spR (hol n) n s = if s < n then (ch n s : Int) * nf (n - s) else 1 := by
  decide +kernel
theorem nf_sum : ∀ n ∈ [1, 2, 3, 4, 5, 6, 7, 8], (fact n : Int) = 1 + sm (List.range n) fun i => (ch n (i + 1) : Int) * nf (i + 1) := by
  decide +kernel
end K33
end

section
set_option maxRecDepth 20000
namespace K33
open PySem Tq
local macro_rules | `(tactic| simp? [$xs,*]) => `(tactic| simp (disch := omega) only [↓Blk_eq, ↓w_non, ↓w_bl, ↓w_int, ↓w_str, ↓w_var, ↓w_frz, ↓w_two, ↓w_un, ↓w_cnd, ↓w_op, ↓w_neg, ↓w_not, ↓w_and, ↓w_or, ↓w_cmp, ↓w_cmp2, ↓w_ite, ↓w_call, ↓w_callk, ↓w_calls, ↓w_takes_nil, ↓w_takes_t, ↓w_takes_s, ↓w_bi, ↓w_isi, ↓w_idx, ↓w_sl, ↓w_tup, ↓w_lst, ↓w_dic0, ↓w_dic1, ↓w_lc, ↓w_pop', ↓w_popi', ↓w_pop1, ↓w_nil, ↓w_bi1, ↓w_get1, ↓w_get2, ↓w_count, ↓w_index, ↓w_lrng, ↓w_lrng2, ↓w_lrev, ↓w_evs_nil, ↓w_evs_cons, ↓w_evv_nil, ↓w_evv_cons, ↓w_evc_nil, ↓w_evc_one, ↓w_seq, ↓w_rng1, ↓w_rng2, ↓w_rng3, ↓w_enum, ↓w_zip, ↓w_rev, ↓w_items, ↓w_vals, ↓w_pl, ↓asO_non, ↓asO_bl, ↓asO_int, ↓asO_str, ↓asO_var, ↓asO_frz, ↓asO_gl, ↓asO_op, ↓asO_neg, ↓asO_not, ↓asO_and, ↓asO_or, ↓asO_cmp, ↓asO_cmp2, ↓asO_nil, ↓asO_ite, ↓asO_call, ↓asO_callk, ↓asO_bi, ↓asO_bi1, ↓asO_isi, ↓asO_idx, ↓asO_frz1, ↓asO_sl, ↓asO_tup, ↓asO_lst, ↓asO_dic, ↓asO_lc, ↓asO_pop, ↓asO_popi, ↓asO_pop1, ↓asO_get1, ↓asO_get2, ↓asO_count, ↓asO_index, ↓asO_lrng, ↓asO_lrng2, ↓asO_lrev, ↓w_pks, ↓s_nil, ↓s_cons, ↓s_pass, ↓s_brk, ↓s_ct, ↓s_retN, ↓s_ret, ↓s_asg, ↓s_par, ↓s_seti, ↓s_app', ↓s_ext', ↓s_drop, ↓s_iff, ↓s_for, ↓s_whl, ↓WR_bnd, ↓WR_ofO, ↓WO_obnd, ↓WV_rng, ↓WV_rngD, ↓WV_asg, ↓WV_asgt, ↓WV_asgs0, ↓WV_asgs, ↓WV_set0, ↓WV_set, lsO_some, o_mul_tn, o_add_tt, WE_cons, WE_nil, WR_ok, WR_no, WF_ok, WV_some, WV_none, WG_true, WG_false, WB_true, WB_false, WT_bl, WI_int, WL_lst, WV_if, WV_map, WV_bind, gives_s, gives_t, gives_nil, pk_t, pk_s, pks_nil, o_int, o_add_llg, o_mul_ln, oi_add, oi_sub, oi_mul, oi_fdiv, oi_mod, oi_pow, oi_shl, c_lt, c_le, c_gt, c_ge, c_eq, c_ne, c_is_non, c_isnot_non, c_is_bl, tru_bl, tru_int, tru_tup, tru_lst, gt_zero, gt_succ, st_zero, st_succ, mv_t, mv_f, fz_t, fz_f, gv_t, gv_f, tT_sh, tI_sh, frz_tT, frz_tI, itemsOf_tT, itemsOf_tI, seqF_tT, seqF_tI, b_len_tI, b_len_tT, dic_sh, dicf_sh, frz_dN, frzK_N, shK_N, itemsOf_dN, isDi_dic, getD_N, rt_sh, getI_rt0, getI_rt1, frz_rt, isDi_rt, true_and, and_true, T.sh, shL, shK, T.frz, frzL, shL_ofInts, frzL_ofInts, getI_l0, getI_l1, getI_l2, getI_t0, getI_t1, getI_t2, setI_l0, setI_l1, setI_l2, isL, isDi, Op.isS, itm_l0, gNil_l, isK, wipe, wipeS, backS, perm0, perm1, List.length_cons, List.length_nil, decide_true, decide_false, Bool.not_true, Bool.not_false, Bool.and_true, Bool.true_and, Bool.and_false, Bool.false_and, Bool.or_true, Bool.true_or, Bool.or_false, Bool.false_or, Option.isSome_some, Option.isSome_none, negT, b_len_t, b_len_l, b_abs, b_list_l, b_tuple_l, b_min2, b_max2, b_int, b_gcd, asSeq_t, asSeq_f, itemsOf_t, itemsOf_l, seqF_t, seqF_l, zipT_t, zipT_l, List.cons_append, List.nil_append, Int.sub_zero, Int.zero_add, isTy_s, List.any_cons, List.any_nil, Bool.false_eq_true, Bool.true_eq_false, Nat.reduceAdd, Nat.reduceLT, Nat.reduceLeDiff, Int.reduceToNat, Int.reduceSub, Int.reduceAdd, Int.reduceMul, Int.reduceLT, Int.reduceLE, Int.reduceNeg, Int.reduceEq, List.isEmpty_cons, List.isEmpty_nil, bne_false_, powOk_10_9, List.getElem?_cons_zero, List.getElem?_cons_succ, rngOk_ab, dLL, dLT, rgLen, ofInts_len, rowI_len, rowI_frz, rowI_sh, enLen, List.length_map, List.length_range, List.length_append, List.length_take, List.length_drop, List.length_set, List.length_reverse, Int.toNat_natCast, rowI_get, rowI_getT, getI_T', getI_I', getI_L', mulOk_l', mulOk_r', isDi_tT, isDi_tI, shL_tI, frzL_tI, Int.mul_one, lotL_items, lotL_frz, lotL_shf, lotL_sht, b_len_lotL, isDi_lotL, lotT_sh, lotT_items', lotT_frz, b_len_lotT, isDi_lot, etI, etT, shL_ofInts, frzL_ofInts, oInt_non, oInt_var, oInt_int, oInt_op, oInt_neg, cut_tI_to, cut_tI_from, cut_tT_to, cut_tT_from, o_add_tI, o_add_tI1, o_add_tT, o_add_tT1, enumL_tT, enumL_tI, toNat_s, $xs,*])
local macro_rules | `(tactic| array_get_dec) => `(tactic| ((with_reducible refine WG_i ?_ ?_); focus (first | decide | exact mulOk_r (by omega) (by omega) | exact mulOk_l (by omega) (by omega) | exact divOk_l (by omega) (by omega) | (simp; done) | (simp; omega) | assumption | (simp [LL]; omega))))
local macro_rules | `(tactic| get_elem_tactic_extensible) => `(tactic| ((simp? [true_and]); repeat (array_get_dec; try (simp? [true_and]))))
theorem pow_small {m : Int} (hm : m.natAbs ≤ 5) {i : Nat} (hi : i ≤ 10) : -1000000000 < m ^ i ∧ m ^ i < 1000000000 := by
  have h1 : (m ^ i).natAbs ≤ 5 ^ 10 := by
    rw [Int.natAbs_pow]
    exact Nat.le_trans (Nat.pow_le_pow_left hm i) (Nat.pow_le_pow_right (by decide) hi)
  have : (5 : Nat) ^ 10 = 9765625 := by decide
  omega
theorem ch_small : ∀ n ≤ 8, ∀ k ≤ 8, ch n k ≤ 100 := by decide
section
variable {rp : T → Str} {k : Nat} {Q : T → List (Option T) → Prop}
abbrev dT (M : List (List Int)) (n : Nat) : T := .tup (rowI (n + 1) (spR M n))
theorem dT_sh (M : List (List Int)) (n : Nat) : (dT M n).sh = true := by rw [T.sh]; exact rowI_sh _ _
abbrev KK (Q : T → List (Option T) → Prop) : Po := ⟨fun ε => Q .non [gt ε 0, gt ε 1], fun t ε => Q t [gt ε 0, gt ε 1], fun _ => False, fun _ => False⟩
theorem rb_w {b r : T} {n : Nat} {M : List (List Int)} {v : Bool} (hM : Sqr n 900 M) (hb : Bag b) (hn1 : 1 ≤ n) (hn : n ≤ 6)
    (H : ∀ b', Bag b' → Q (.bl true) [some b', some (.int (n : Int))]) :
    WO (evSs (CC rp (k + 4)) b17_4 [some b, some (.int (n : Int)), some (tuT M), some (dT M n), none, none, none, none, none, none, none, some (.str (rp (tuT M))), some (.bl v), some (dT M n), none, none, none, none, none, none, none]) (KK Q) := by
  have hs := hb.sh
  have hr := @b_repr1 (CC rp (k + 4)) n 900 M hM (by omega) (by omega)
  simp? [b17_4, b17_5, hs, tT_sh, rowI_sh]
  refine draw_w hb (by decide) (by decide) fun mv b1 hmv hb1 => ?_
  have hs1 := hb1.sh
  simp? [hs, hs1]
  obtain ⟨m, hm, hm5⟩ : ∃ m : Int, (mv : Int) - 5 = m ∧ m.natAbs ≤ 5 := ⟨_, rfl, by omega⟩
  rw [hm]
  have hp := fun i (hi : i ≤ 10) => pow_small hm5 hi
  refine more_w (k := k + 3) hM (by omega) m ?_
  have hM3 := moreD_Sqr hM (m := m) (by omega)
  have hpv := pv_more hM m
  generalize hM3e : moreD M n m = M3 at *
  simp? [b17_6, hs1, tT_sh, rowI_sh]
  refine for_of (fun r => T.int (spR M n r)) (fun i ε => ∃ s5, ε = [some b1, some (.int (n : Int)), some (tuT M), some (dT M n), some (.int m), s5, none, none, none, none, none, some (.str (rp (tuT M))), some (.bl v), some (dT M n), some (tuT M3), some (.int (sm (List.range i) fun r => spR M n r * m ^ r)), some (.int (m ^ i)), none, none, none, none]) (List.range (n + 1)) ?_ ?_ ⟨none, by rw [Int.pow_zero]; rfl⟩
  · rintro i y ε hy ⟨s5, rfl⟩
    have hi : i < n + 1 ∧ y = i := by
      obtain ⟨h1, h2⟩ := List.getElem?_eq_some_iff.mp hy
      rw [List.length_range] at h1
      exact ⟨h1, by rw [← h2, List.getElem_range]⟩
    obtain ⟨hi, rfl⟩ := hi
    have := hp y (by omega)
    simp? [true_and]
    refine ⟨some (.int (spR M n y)), ?_⟩
    rw [List.range_succ, sm_append, sm_cons, sm_nil, Int.add_zero, Int.pow_succ]
  rintro ε ⟨s5, rfl⟩
  have he : sm (List.range (List.range (n + 1)).length) (fun r => spR M n r * m ^ r) = per M3 (List.range n) := by
    rw [List.length_range, hpv]; rfl
  rw [he]
  clear he
  simp? [b17_7, hs1, tT_sh, rowI_sh]
  refine lwhole_w (k' := k + 3) (n := n) (by omega) hM3.1 (Sqr.len hM3) (Sqr.bd hM3 (by omega)) ?_
  have hne : ∀ x : Int, cm .ne (.int x) (.int x) = some false := fun x => by rw [c_ne]; simp
  simp? [hne, hs1, tT_sh, rowI_sh]
  refine ws_w (k := k + 3) (n := n) (by omega) hM3.1 (Sqr.len hM3) (Sqr.bd hM3 (by omega)) ?_
  simp? [hs1, tT_sh, rowI_sh]
  refine same_w 0 (k := k + 2) trivial ?_
  simp? [b17_8, b17_9, hs1, tT_sh, rowI_sh]
  refine for_rng (fun s ε => ∃ s7 s16 s17 s18, ε = [some b1, some (.int (n : Int)), some (tuT M), some (dT M n), some (.int m), s5, some (.lst true (rowI s (sh_ (spR M n) n m))), s7, none, none, none, some (.str (rp (tuT M))), some (.bl v), some (dT M n), some (tuT M3), some (.int (per M3 (List.range n))), s16, s17, s18, none, none]) ?_ ?_ ⟨_, _, none, none, rfl⟩
  · rintro s ε hsn ⟨s7, s16, s17, s18, rfl⟩
    have hsn : s ≤ n := by omega
    simp? [hs1, tT_sh, rowI_sh]
    have ec : ((n : Int) + 1 - (s : Int)).toNat = n + 1 - s := by omega
    have hd : isDi (some (dT M n)) = false := rfl
    refine for_inv (fun t ε => ∃ s17, ε = [some b1, some (.int (n : Int)), some (tuT M), some (dT M n), some (.int m), s5, some (.lst true (rowI s (sh_ (spR M n) n m))), some (.int (s : Int)), none, none, none, some (.str (rp (tuT M))), some (.bl v), some (dT M n), some (tuT M3), some (.int (per M3 (List.range n))), some (.int (m ^ t)), s17, some (.int (sm (List.range (s + t)) fun r => if s ≤ r then (ch r s : Int) * m ^ (r - s) * spR M n r else 0)), none, none]) _ ?_ ?_ ⟨s17, ?_⟩
    · rintro t x ε hx ⟨s17, rfl⟩
      obtain ⟨ht, rfl⟩ := rgAt hx
      rw [ec] at ht
      have e3 : (s : Int) + (t : Int) * 1 = ((s + t : Nat) : Int) := by omega
      have hpt := hp t (by omega)
      have hcs := ch_small (s + t) (by omega) s (by omega)
      have hmo : mulOk ((ch (s + t) s : Int) * m ^ t) (spR M n (s + t)) = true := by
        have h1 : ((ch (s + t) s : Int) * m ^ t).natAbs ≤ 100 * 1000000000 := by
          rw [Int.natAbs_mul]
          exact Nat.mul_le_mul (by omega) (by omega)
        exact mulOk_l (by omega) (by omega)
      rw [e3]
      simp? [hs1, tT_sh, rowI_sh]
      refine choose_w (k := k + 3) (n := s + t) (m := s) (by omega) (by omega) ?_
      simp? [hs1, tT_sh, rowI_sh, hd, hmo]
      refine ⟨some (.int ((s + t : Nat) : Int)), ?_⟩
      rw [show s + (t + 1) = (s + t) + 1 by omega, List.range_succ, sm_append, sm_cons, sm_nil, Int.add_zero, Int.pow_succ, if_pos (by omega), show s + t - s = t by omega]
    · rintro ε ⟨s17, rfl⟩
      rw [rgLen, ec, show s + (n + 1 - s) = n + 1 by omega]
      simp? [hs1, tT_sh, rowI_sh]
      have es : rowI s (sh_ (spR M n) n m) ++ [T.int (sm (List.range (n + 1)) fun r => if s ≤ r then (ch r s : Int) * m ^ (r - s) * spR M n r else 0)] = rowI (s + 1) (sh_ (spR M n) n m) := rowI_snoc s _
      rw [es]
      exact ⟨_, _, _, _, rfl⟩
    · have : sm (List.range (s + 0)) (fun r => if s ≤ r then (ch r s : Int) * m ^ (r - s) * spR M n r else 0) = 0 := by
        rw [sm_congr (g := fun _ => 0) fun r hr => if_neg (by have := List.mem_range.mp hr; omega), sm_zero]
      rw [this, Int.pow_zero]
  rintro ε ⟨s7, s16, s17, s18, rfl⟩
  have hsf : ∀ n f, (T.lst true (rowI n f)).sh = false := fun _ _ => rfl
  have er : rowI (n + 1) (sh_ (spR M n) n m) = rowI (n + 1) (spR M3 n) := rowI_congr fun s hs => by
    rw [← hM3e]; exact (sp_shift hM (by omega) (by omega)).symm
  rw [er]
  have main : ∀ v' : Bool, v' = v → WO (evSs (CC rp (k + 4)) b17_10 [some b1, some (.int (n : Int)), some (tuT M), some (dT M n), some (.int m), s5, some (.lst true (rowI (n + 1) (spR M3 n))), s7, none, none, none, some (.str (rp (tuT M))), some (.bl v'), some (dT M n), some (tuT M3), some (.int (per M3 (List.range n))), s16, s17, s18, none, none]) (KK Q) := fun v' _ => by
    cases v'
    all_goals
      simp? [b17_10, hs1, tT_sh, rowI_sh]
      refine shifted_w (k := k + 1) hM3 (by omega) (by omega) ?_
      simp? [hs1, tT_sh, rowI_sh, hsf]
      refine same_w 1 (k := k + 1) (t := dT M3 n) (St.rowI (n + 1) (spR M3 n) (by omega)) ?_
      simp? [b17_11, hs1, tT_sh, rowI_sh]
      refine order_w (k := k + 2) hb1 (by omega) fun R b2 hR hb2 => ?_
      have hs2 := hb2.sh
      have hRl : R.length = n := by rw [hR.length_eq, List.length_range]
      have hin : ∀ i ∈ R, i < n := fun i hi => List.mem_range.mp (hR.mem_iff.mp hi)
      have eL : ∀ o, T.lst o (ofInts (R.map fun (i : Nat) => (i : Int))) = lotL o R := fun _ => rfl
      simp? [b17_12, hs1, hs2, tT_sh, rowI_sh, eL]
      refine lc_of (fun (i : Nat) => T.int (i : Int)) (fun i => tuI (R.map fun j => (M.getD i []).getD j 0)) _ ?_ ?_
      · intro y hy
        have hyn := hin y hy
        have hl := hM.1
        simp? [hs2, tT_sh]
        refine lc_of (fun (i : Nat) => T.int (i : Int)) (fun j => .int ((M.getD y []).getD j 0)) _ ?_ ?_
        · intro z hz
          have hzn := hin z hz
          have hr := (hM.row hyn).2
          simp? [hs2, tT_sh]
        rw [ofInts_map]
        simp? [hs2, tT_sh]
      rw [← part_tab]
      have hMR := Sqr.part hM hRl hRl
      have er2 : rowI (n + 1) (spR (part M R R) n) = rowI (n + 1) (spR M n) := rowI_congr fun s hs => sp_led hM hR (by omega)
      simp? [b17_13, hs1, hs2, tT_sh, rowI_sh]
      refine shifted_w (k := k + 1) hMR (by omega) (by omega) ?_
      rw [er2]
      simp? [hs1, hs2, tT_sh, rowI_sh]
      refine same_w 1 (k := k + 1) (t := dT M n) (St.rowI (n + 1) (spR M n) (by omega)) ?_
      simp? [b17_14, hs1, hs2, tT_sh, rowI_sh]
      refine shifted_w (k := k + 1) hM (by omega) (by omega) ?_
      simp? [b17_15, hs1, hs2, tT_sh, rowI_sh]
      refine same_w 1 (k := k + 1) (t := dT M n) (St.rowI (n + 1) (spR M n) (by omega)) ?_
      simp? [b17_16, hs1, hs2, tT_sh, rowI_sh, hr, c_eq_str]
      exact H b2 hb2
  exact main v rfl
end
end K33
end

section
set_option maxRecDepth 20000
namespace K33
open PySem Tq
local macro_rules | `(tactic| simp? [$xs,*]) => `(tactic| simp (disch := omega) only [↓Blk_eq, ↓w_non, ↓w_bl, ↓w_int, ↓w_str, ↓w_var, ↓w_frz, ↓w_two, ↓w_un, ↓w_cnd, ↓w_op, ↓w_neg, ↓w_not, ↓w_and, ↓w_or, ↓w_cmp, ↓w_cmp2, ↓w_ite, ↓w_call, ↓w_callk, ↓w_calls, ↓w_takes_nil, ↓w_takes_t, ↓w_takes_s, ↓w_bi, ↓w_isi, ↓w_idx, ↓w_sl, ↓w_tup, ↓w_lst, ↓w_dic0, ↓w_dic1, ↓w_lc, ↓w_pop', ↓w_popi', ↓w_pop1, ↓w_nil, ↓w_bi1, ↓w_get1, ↓w_get2, ↓w_count, ↓w_index, ↓w_lrng, ↓w_lrng2, ↓w_lrev, ↓w_evs_nil, ↓w_evs_cons, ↓w_evv_nil, ↓w_evv_cons, ↓w_evc_nil, ↓w_evc_one, ↓w_seq, ↓w_rng1, ↓w_rng2, ↓w_rng3, ↓w_enum, ↓w_zip, ↓w_rev, ↓w_items, ↓w_vals, ↓w_pl, ↓asO_non, ↓asO_bl, ↓asO_int, ↓asO_str, ↓asO_var, ↓asO_frz, ↓asO_gl, ↓asO_op, ↓asO_neg, ↓asO_not, ↓asO_and, ↓asO_or, ↓asO_cmp, ↓asO_cmp2, ↓asO_nil, ↓asO_ite, ↓asO_call, ↓asO_callk, ↓asO_bi, ↓asO_bi1, ↓asO_isi, ↓asO_idx, ↓asO_frz1, ↓asO_sl, ↓asO_tup, ↓asO_lst, ↓asO_dic, ↓asO_lc, ↓asO_pop, ↓asO_popi, ↓asO_pop1, ↓asO_get1, ↓asO_get2, ↓asO_count, ↓asO_index, ↓asO_lrng, ↓asO_lrng2, ↓asO_lrev, ↓w_pks, ↓s_nil, ↓s_cons, ↓s_pass, ↓s_brk, ↓s_ct, ↓s_retN, ↓s_ret, ↓s_asg, ↓s_par, ↓s_seti, ↓s_app', ↓s_ext', ↓s_drop, ↓s_iff, ↓s_for, ↓s_whl, ↓WR_bnd, ↓WR_ofO, ↓WO_obnd, ↓WV_rng, ↓WV_rngD, ↓WV_asg, ↓WV_asgt, ↓WV_asgs0, ↓WV_asgs, ↓WV_set0, ↓WV_set, lsO_some, o_mul_tn, o_add_tt, WE_cons, WE_nil, WR_ok, WR_no, WF_ok, WV_some, WV_none, WG_true, WG_false, WB_true, WB_false, WT_bl, WI_int, WL_lst, WV_if, WV_map, WV_bind, gives_s, gives_t, gives_nil, pk_t, pk_s, pks_nil, o_int, o_add_llg, o_mul_ln, oi_add, oi_sub, oi_mul, oi_fdiv, oi_mod, oi_pow, oi_shl, c_lt, c_le, c_gt, c_ge, c_eq, c_ne, c_is_non, c_isnot_non, c_is_bl, tru_bl, tru_int, tru_tup, tru_lst, gt_zero, gt_succ, st_zero, st_succ, mv_t, mv_f, fz_t, fz_f, gv_t, gv_f, tT_sh, tI_sh, frz_tT, frz_tI, itemsOf_tT, itemsOf_tI, seqF_tT, seqF_tI, b_len_tI, b_len_tT, dic_sh, dicf_sh, frz_dN, frzK_N, shK_N, itemsOf_dN, isDi_dic, getD_N, rt_sh, getI_rt0, getI_rt1, frz_rt, isDi_rt, true_and, and_true, T.sh, shL, shK, T.frz, frzL, shL_ofInts, frzL_ofInts, getI_l0, getI_l1, getI_l2, getI_t0, getI_t1, getI_t2, setI_l0, setI_l1, setI_l2, isL, isDi, Op.isS, itm_l0, gNil_l, isK, wipe, wipeS, backS, perm0, perm1, List.length_cons, List.length_nil, decide_true, decide_false, Bool.not_true, Bool.not_false, Bool.and_true, Bool.true_and, Bool.and_false, Bool.false_and, Bool.or_true, Bool.true_or, Bool.or_false, Bool.false_or, Option.isSome_some, Option.isSome_none, negT, b_len_t, b_len_l, b_abs, b_list_l, b_tuple_l, b_min2, b_max2, b_int, b_gcd, asSeq_t, asSeq_f, itemsOf_t, itemsOf_l, seqF_t, seqF_l, zipT_t, zipT_l, List.cons_append, List.nil_append, Int.sub_zero, Int.zero_add, isTy_s, List.any_cons, List.any_nil, Bool.false_eq_true, Bool.true_eq_false, Nat.reduceAdd, Nat.reduceLT, Nat.reduceLeDiff, Int.reduceToNat, Int.reduceSub, Int.reduceAdd, Int.reduceMul, Int.reduceLT, Int.reduceLE, Int.reduceNeg, Int.reduceEq, List.isEmpty_cons, List.isEmpty_nil, bne_false_, powOk_10_9, List.getElem?_cons_zero, List.getElem?_cons_succ, rngOk_ab, dLL, dLT, rgLen, ofInts_len, rowI_len, rowI_frz, rowI_sh, enLen, List.length_map, List.length_range, List.length_append, List.length_take, List.length_drop, List.length_set, List.length_reverse, Int.toNat_natCast, rowI_get, rowI_getT, getI_T', getI_I', getI_L', mulOk_l', mulOk_r', isDi_tT, isDi_tI, shL_tI, frzL_tI, Int.mul_one, lotL_items, lotL_frz, lotL_shf, lotL_sht, b_len_lotL, isDi_lotL, lotT_sh, lotT_items', lotT_frz, b_len_lotT, isDi_lot, etI, etT, shL_ofInts, frzL_ofInts, oInt_non, oInt_var, oInt_int, oInt_op, oInt_neg, cut_tI_to, cut_tI_from, cut_tT_to, cut_tT_from, o_add_tI, o_add_tI1, o_add_tT, o_add_tT1, enumL_tT, enumL_tI, toNat_s, $xs,*])
local macro_rules | `(tactic| array_get_dec) => `(tactic| ((with_reducible refine WG_i ?_ ?_); focus (first | decide | exact mulOk_r (by omega) (by omega) | exact mulOk_l (by omega) (by omega) | exact divOk_l (by omega) (by omega) | (simp; done) | (simp; omega) | assumption | (simp [LL]; omega))))
local macro_rules | `(tactic| get_elem_tactic_extensible) => `(tactic| ((simp? [true_and]); repeat (array_get_dec; try (simp? [true_and]))))
theorem tI_of (n : Nat) (f : Nat → Int) : T.tup (rowI n f) = tuI ((List.range n).map f) := by rw [rowI_ints]; rfl
section
variable {rp : T → Str} {k : Nat} {Q : T → List (Option T) → Prop}
theorem right_w {b : T} {n : Nat} (hb : Bag b) (hn1 : 1 ≤ n) (hn : n ≤ 6) (H : ∀ b', Bag b' → Q (.bl true) [some b', some (.int (n : Int))]) : WF (rn (Pp rp) (k + 5) 17 [b, .int (n : Int)]) Q := by
  refine e17 ?_
  have hs := hb.sh
  simp? [b17, b17_0, hs]
  refine table_w (k := k + 1) hb (by omega) fun M b1 hM hb1 => ?_
  have hs1 := hb1.sh
  have hr := @b_repr1 (CC rp (k + 4)) n 900 M hM (by omega) (by omega)
  simp? [b17_1, hs, hs1, tT_sh, hr]
  refine draw_w hb1 (by decide) (by decide) fun v b2 hv hb2 => ?_
  have hs2 := hb2.sh
  simp? [hs1, hs2, tT_sh]
  refine due_w (k := k + 2) hM (by omega) (by omega) ?_
  cases hc : decide ((v : Int) = 0)
  all_goals
    simp? [b17_2, hc, hs2, tT_sh, rowI_sh]
    refine shifted_w (k := k + 1) hM (by omega) (by omega) ?_
    simp? [b17_3, hs2, tT_sh, rowI_sh]
    refine same_w 1 (k := k + 1) (t := dT M n) (St.rowI (n + 1) (spR M n) (by omega)) ?_
    simp? [hs2, tT_sh, rowI_sh]
    exact rb_w (r := .non) hM hb2 hn1 hn H
theorem sizes {n : Nat} (h1 : 1 ≤ n) (h2 : n ≤ 8) : n ∈ [1, 2, 3, 4, 5, 6, 7, 8] := by
  simp only [List.mem_cons, List.not_mem_nil, or_false]; omega
theorem hol_w {b3 : T} {s : Nat} {x2 x3 x7 x8 x9 x10 : Option T} (hb3 : Bag b3) (hs1' : 1 ≤ s) (hs8 : s ≤ 8 ∨ s = 10) (H : ∀ b', Bag b' → Q (.bl true) [some b']) :
    Blk (WO (evSs (CC rp (k + 4)) b19_6 [some b3, some (.lst true (rowI 101 nf)), x2, x3, some (.int (s : Int)), none, none, x7, x8, x9, x10, none, none]) ⟨fun ε => Q .non [gt ε 0], fun t ε => Q t [gt ε 0], fun _ => False, fun _ => False⟩) := by
  have hsf : ∀ n f, (T.lst true (rowI n f)).sh = false := fun _ _ => rfl
  have hs3 := hb3.sh
  have hg : getI (.lst true (rowI 101 nf)) (.int (s : Int)) = some (.int (nf s)) := rowI_get true nf (by omega)
  have hd : isDi (some (T.lst true (rowI 101 nf))) = false := rfl
  simp? [b19_6, hs3, hsf]
  refine lc_rng (fun (i : Nat) => tuI ((List.range s).map fun (j : Nat) => if i = j then 0 else 1)) ?_ ?_
  · intro i hi
    simp? [hs3]
    refine lc_rng (fun (j : Nat) => T.int (if i = j then 0 else 1)) ?_ ?_
    · intro j hj
      by_cases hc : i = j
      · subst hc
        have hd : decide ((i : Int) = (i : Int)) = true := decide_eq_true rfl
        simp? [hs3, hd]
        simp
      · have hd : decide ((i : Int) = (j : Int)) = false := decide_eq_false (by omega)
        simp? [hs3, hd]
        simp [hc]
    rw [rowI_ofInts]
    simp? [hs3]
  rw [tab_tuI]
  have eh : (tab s s fun i j => if i = j then 0 else 1) = hol s := rfl
  have hH : Sqr s 1 (hol s) := tab_Sqr fun i j _ _ => by split <;> decide
  have hper : per (hol s) (List.range s) = nf s := hol_nf s (by simp only [List.mem_cons, List.not_mem_nil, or_false]; omega)
  rw [eh]
  simp? [b19_7, hs3, hsf, tT_sh]
  refine ws_w (k := k + 3) (n := s) (by omega) hH.1 (Sqr.len hH) (Sqr.bd hH (by omega)) ?_
  rw [hper]
  simp? [hs3, hsf, tT_sh, hg, hd]
  refine same_w 0 (k := k + 2) trivial ?_
  simp? [b19_8, hs3, hsf, tT_sh]
  refine WB_d (fun h6 => ?_) fun h6 => ?_
  · simp? [hs3]
    exact H _ hb3
  have hs6 : s ≤ 6 := by omega
  simp? [b19_9, hs3, hsf, tT_sh]
  refine lc_rng (fun (i : Nat) => T.int ((ch s i : Int) * nf (s - i))) ?_ ?_
  · intro i hi
    have hcs := ch_small s (by omega) i (by omega)
    have e4 : (s : Int) - (i : Int) = ((s - i : Nat) : Int) := by omega
    have hg2 : getI (.lst true (rowI 101 nf)) (.int ((s - i : Nat) : Int)) = some (.int (nf (s - i))) := rowI_get true nf (by omega)
    simp? [hs3, hsf, tT_sh]
    refine choose_w (k := k + 3) (n := s) (m := i) (by omega) (by omega) ?_
    simp? [hs3, hsf, tT_sh, e4, hg2, hd]
  have er : List.map (fun (i : Nat) => T.int ((ch s i : Int) * nf (s - i))) (List.range s) ++ [T.int 1] = rowI (s + 1) (spR (hol s) s) := by
    have h2 := hol_sp s (by simp only [List.mem_cons, List.not_mem_nil, or_false]; omega)
    unfold rowI
    rw [List.range_succ, List.map_append]
    congr 1
    · refine List.map_congr_left fun i hi => ?_
      have hi := List.mem_range.mp hi
      rw [h2 i (List.mem_range.mpr (by omega)), if_pos hi]
    · rw [List.map_cons, List.map_nil, h2 s (List.mem_range.mpr (by omega)), if_neg (by omega)]
  simp? [hs3, hsf, tT_sh]
  rw [er]
  simp? [hs3, hsf, tT_sh, b19_10]
  refine shifted_w (k := k + 1) hH (by omega) (by omega) ?_
  simp? [hs3, hsf, tT_sh]
  refine same_w 1 (k := k + 1) (t := dT (hol s) s) (St.rowI (s + 1) (spR (hol s) s) (by omega)) ?_
  simp? [hs3, hsf, tT_sh]
  exact H _ hb3
theorem orders_w {b : T} (hb : Bag b) (H : ∀ b', Bag b' → Q (.bl true) [some b']) : WF (rn (Pp rp) (k + 5) 19 [b]) Q := by
  refine e19 ?_
  have hs := hb.sh
  have hsf : ∀ n f, (T.lst true (rowI n f)).sh = false := fun _ _ => rfl
  simp? [b19, b19_0, hs]
  refine rows_w (k := k + 3) (n := 100) (by omega) (by omega) ?_
  simp? [b19_1, hs, hsf]
  refine draw_w hb (by decide) (by decide) fun v1 b1 hv1 hb1 => ?_
  have hs1 := hb1.sh
  simp? [hs, hs1, hsf]
  refine draw_w hb1 (by decide) (by decide) fun v2 b2 hv2 hb2 => ?_
  have hs2 := hb2.sh
  simp? [hs1, hs2, hsf]
  refine pick_o (xs := [.int 1, .int 2, .int 99, .int 100]) hb2 (by decide) (by decide) fun x hx b3 hb3 => ?_
  have hs3 := hb3.sh
  obtain ⟨v3, rfl, hv3⟩ : ∃ n : Nat, x = .int ((n : Nat) : Int) ∧ 1 ≤ n ∧ n ≤ 100 := by
    simp only [frzL, T.frz, List.mem_cons, List.not_mem_nil, or_false] at hx
    rcases hx with rfl | rfl | rfl | rfl
    · exact ⟨1, rfl, by decide, by decide⟩
    · exact ⟨2, rfl, by decide, by decide⟩
    · exact ⟨99, rfl, by decide, by decide⟩
    · exact ⟨100, rfl, by decide, by decide⟩
  simp? [hs2, hs3, hsf]
  refine for_inv (fun i ε => ∃ b s2 s7 s8, Bag b ∧ ε = [some b, some (.lst true (rowI 101 nf)), s2, none, none, none, none, s7, s8, none, none, none, none]) _ ?_ ?_ ⟨_, _, _, _, hb3, rfl⟩
  · rintro i x ε hx ⟨b, s2, s7, s8, hb, rfl⟩
    have hs := hb.sh
    obtain ⟨n, rfl, hn1, hn2⟩ : ∃ n : Nat, x = .int (n : Int) ∧ 1 ≤ n ∧ n ≤ 100 := by
      have hx := List.mem_of_getElem? hx
      simp only [List.mem_cons, List.not_mem_nil, or_false] at hx
      rcases hx with rfl | rfl | rfl
      · exact ⟨1 + v1, by simp, by omega, by omega⟩
      · exact ⟨1 + v2, by simp, by omega, by omega⟩
      · exact ⟨v3, rfl, hv3⟩
    have hg : getI (.lst true (rowI 101 nf)) (.int (n : Int)) = some (.int (nf n)) := rowI_get true nf (by omega)
    have hd : isDi (some (T.lst true (rowI 101 nf))) = false := rfl
    simp? [hs]
    refine draw_w hb (by decide) (by decide) fun v b' hv hb' => ?_
    have hs' := hb'.sh
    cases hc : decide ((v : Int) = 0)
    all_goals
      simp? [hs, hs', hc]
      refine nofixed_w (k := k + 3) hn1 (by omega) ?_
      simp? [hs', hg, hd]
      refine same_w 0 (k := k + 2) trivial ?_
      simp? [hs', hg, hd]
      refine nofixed_w (k := k + 3) hn1 (by omega) ?_
      simp? [hs', hg, hd]
      refine same_w 0 (k := k + 2) trivial ?_
      simp? [hs', hg, hd]
      exact ⟨_, _, _, _, hb', rfl⟩
  · rintro ε ⟨b, s2, s7, s8, hb, rfl⟩
    have hs := hb.sh
    simp? [b19_2, hs, hsf]
    refine draw_w hb (by decide) (by decide) fun v b1 hv hb1 => ?_
    have hs1 := hb1.sh
    obtain ⟨n, hn⟩ : ∃ n, n = 1 + v := ⟨_, rfl⟩
    have hn1 : 1 ≤ n := by omega
    have hn2 : n ≤ 8 := by omega
    have en : (1 : Int) + (v : Int) = (n : Int) := by omega
    simp? [b19_3, hs, hs1, hsf, en]
    have ec : ((n : Int) + 1 - 1).toNat = n := by omega
    refine for_inv (fun i ε => ∃ s3, ε = [some b1, some (.lst true (rowI 101 nf)), some (.int (n : Int)), s3, none, none, none, s7, s8, some (.int (fact i : Int)), some (.int (1 + sm (List.range i) fun i => (ch n (i + 1) : Int) * nf (i + 1))), none, none]) _ ?_ ?_ ⟨none, rfl⟩
    · rintro i x ε hx ⟨s3, rfl⟩
      obtain ⟨hi, rfl⟩ := rgAt hx
      rw [ec] at hi
      have e3 : (1 : Int) + (i : Int) * 1 = ((i + 1 : Nat) : Int) := by omega
      rw [e3]
      have hcs := ch_small n (by omega) (i + 1) (by omega)
      simp? [hs1, hsf]
      refine choose_w (k := k + 3) (n := n) (m := i + 1) (by omega) (by omega) ?_
      simp? [hs1, hsf]
      refine nofixed_w (k := k + 3) (n := i + 1) (by omega) (by omega) ?_
      simp? [hs1, hsf]
      refine ⟨some (.int ((i + 1 : Nat) : Int)), ?_⟩
      rw [List.range_succ, sm_append, sm_cons, sm_nil, Int.add_zero, fact, Int.natCast_mul, Int.mul_comm, Int.add_assoc]
    · rintro ε ⟨s3, rfl⟩
      rw [rgLen, ec]
      have hsum := nf_sum n (sizes hn1 hn2)
      rw [← hsum]
      have hne : ∀ x : Int, cm .ne (.int x) (.int x) = some false := fun x => by rw [c_ne]; simp
      simp? [b19_4, b19_5, hne, hs1, hsf]
      refine draw_w hb1 (by decide) (by decide) fun v5 b2 hv5 hb2 => ?_
      have hs2 := hb2.sh
      cases hc : decide ((v5 : Int) = 0)
      · simp? [hc, hs1, hs2, hsf]
        refine pick_o (k := k + 2) (xs := [.int (n : Int), .int (n : Int), .int (n : Int), .int 2]) hb2 (by simp) (by simp) fun x hx b3 hb3 => ?_
        have hs3 := hb3.sh
        obtain ⟨s, rfl, hs1', hs8⟩ : ∃ s : Nat, x = .int (s : Int) ∧ 1 ≤ s ∧ (s ≤ 8 ∨ s = 10) := by
          simp only [frzL, T.frz, List.mem_cons, List.not_mem_nil, or_false] at hx
          rcases hx with rfl | rfl | rfl | rfl
          · exact ⟨n, rfl, by omega, by omega⟩
          · exact ⟨n, rfl, by omega, by omega⟩
          · exact ⟨n, rfl, by omega, by omega⟩
          · exact ⟨2, rfl, by omega, by omega⟩
        simp? [hs2, hs3, hsf]
        have hf := hol_w (rp := rp) (k := k) (x2 := some (.int (n : Int))) (x3 := s3) (x7 := s7) (x8 := s8) (x9 := some (.int (fact n : Int))) (x10 := some (.int (fact n : Int))) hb3 hs1' hs8 H
        rw [Blk_eq] at hf
        assumption
      · simp? [hc, hs1, hs2, hsf]
        refine pick_o (k := k + 2) (xs := [.int (n : Int), .int (n : Int), .int (n : Int), .int 10]) hb2 (by simp) (by simp) fun x hx b3 hb3 => ?_
        have hs3 := hb3.sh
        obtain ⟨s, rfl, hs1', hs8⟩ : ∃ s : Nat, x = .int (s : Int) ∧ 1 ≤ s ∧ (s ≤ 8 ∨ s = 10) := by
          simp only [frzL, T.frz, List.mem_cons, List.not_mem_nil, or_false] at hx
          rcases hx with rfl | rfl | rfl | rfl
          · exact ⟨n, rfl, by omega, by omega⟩
          · exact ⟨n, rfl, by omega, by omega⟩
          · exact ⟨n, rfl, by omega, by omega⟩
          · exact ⟨10, rfl, by omega, by omega⟩
        simp? [hs2, hs3, hsf]
        have hf := hol_w (rp := rp) (k := k) (x2 := some (.int (n : Int))) (x3 := s3) (x7 := s7) (x8 := s8) (x9 := some (.int (fact n : Int))) (x10 := some (.int (fact n : Int))) hb3 hs1' hs8 H
        rw [Blk_eq] at hf
        assumption
theorem law_q {ns : List Int} {Q : T → List (Option T) → Prop} (H : Q (.bl true) [some (scrT' ns)]) : WF (rn (Pp rp) (k + 6) 20 [scrT' ns]) Q := by
  refine e20 ?_
  have hs0 : (scrT' ns).sh = true := rfl
  simp? [b20, hs0]
  refine bag_w (k := k + 4) fun b hb => ?_
  have hs := hb.sh
  simp? [hs0, hs]
  refine orders_w hb fun b0 hb0 => ?_
  have hs' := hb0.sh
  simp? [hs0, hs, hs']
  clear hs
  have hs := hs'
  refine draw_w hb0 (by decide) (by decide) fun v b1 hv hb1 => ?_
  have hs1 := hb1.sh
  cases hc : decide ((v : Int) = 0)
  · simp? [hs0, hs, hs1, hc]
    refine draw_w hb1 (by decide) (by decide) fun v2 b2 hv2 hb2 => ?_
    have hs2 := hb2.sh
    simp? [hs0, hs, hs1, hs2, hc]
    refine pick_o (k := k + 3) hb2 (by decide) (by decide) fun c hc b3 hb3 => ?_
    have hs3 := hb3.sh
    obtain ⟨n1, rfl, hn1⟩ : ∃ n : Nat, c = .int (n : Int) ∧ 1 ≤ n ∧ n ≤ 6 := by
      change c ∈ [T.int 2, T.int 3, T.int 3] at hc
      simp only [List.mem_cons, List.not_mem_nil, or_false] at hc
      rcases hc with rfl | rfl | rfl
      · exact ⟨2, rfl, by decide, by decide⟩
      · exact ⟨3, rfl, by decide, by decide⟩
      · exact ⟨3, rfl, by decide, by decide⟩
    simp? [hs0, hs, hs1, hs2, hs3]
    refine pick_o (k := k + 3) hb3 (by decide) (by decide) fun c hc b4 hb4 => ?_
    have hs4 := hb4.sh
    obtain ⟨n2, rfl, hn2⟩ : ∃ n : Nat, c = .int (n : Int) ∧ 1 ≤ n ∧ n ≤ 6 := by
      change c ∈ [T.int 1, T.int 2, T.int 3, T.int 4] at hc
      simp only [List.mem_cons, List.not_mem_nil, or_false] at hc
      rcases hc with rfl | rfl | rfl | rfl
      · exact ⟨1, rfl, by decide, by decide⟩
      · exact ⟨2, rfl, by decide, by decide⟩
      · exact ⟨3, rfl, by decide, by decide⟩
      · exact ⟨4, rfl, by decide, by decide⟩
    simp? [hs0, hs, hs1, hs2, hs3, hs4]
    refine for_inv (fun i ε => ∃ b s, Bag b ∧ ε = [some (scrT' ns), some b, s]) _ ?_ ?_ ⟨_, _, hb4, rfl⟩
    · rintro i x ε hx ⟨b5, s, hb5, rfl⟩
      have hs5 := hb5.sh
      obtain ⟨n, rfl, hn1, hn2⟩ : ∃ n : Nat, x = .int (n : Int) ∧ 1 ≤ n ∧ n ≤ 6 := by
        have hx := List.mem_of_getElem? hx
        simp only [List.mem_cons, List.not_mem_nil, or_false] at hx
        rcases hx with rfl | rfl | rfl
        · exact ⟨1 + v2, by simp, by omega, by omega⟩
        · exact ⟨n1, rfl, hn1⟩
        · exact ⟨n2, rfl, hn2⟩
      simp? [hs0, hs5]
      refine right_w hb5 hn1 hn2 fun b6 hb6 => ?_
      have hs6 := hb6.sh
      simp? [hs0, hs5, hs6]
      exact ⟨_, _, hb6, rfl⟩
    · rintro ε ⟨b5, s, hb5, rfl⟩
      have hs5 := hb5.sh
      simp? [hs0, hs5]
      exact H
  · simp? [hs0, hs, hs1, hc]
    refine pick_o (k := k + 3) hb1 (by decide) (by decide) fun c hc b2 hb2 => ?_
    have hs2 := hb2.sh
    obtain ⟨n, rfl, hn1, hn2⟩ : ∃ n : Nat, c = .int (n : Int) ∧ 1 ≤ n ∧ n ≤ 6 := by
      change c ∈ [T.int 5, T.int 5, T.int 6] at hc
      simp only [List.mem_cons, List.not_mem_nil, or_false] at hc
      rcases hc with rfl | rfl | rfl
      · exact ⟨5, rfl, by decide, by decide⟩
      · exact ⟨5, rfl, by decide, by decide⟩
      · exact ⟨6, rfl, by decide, by decide⟩
    simp? [hs0, hs, hs1, hs2]
    refine right_w hb2 hn1 hn2 fun b3 hb3 => ?_
    have hs3 := hb3.sh
    simp? [hs0, hs2, hs3]
    exact H

theorem law_w {ns : List Int} : WF (rn (Pp rp) (k + 6) 20 [scrT' ns]) fun t _ => t = .bl true := law_q rfl
end
end K33
end

set_option maxRecDepth 100000
set_option maxHeartbeats 8000000
namespace K33
open PySem PySem.Spec PyProof.Rows L2 Tq
def top (i : Nat) : Stmt := PySem.Challenge.pw_onefromeach_k33_whole_shifted_and_no_fix.main.body.getD i (.Pass ⟨0, 0, 0, 0⟩)
def f0 : Df := ⟨"whole_sum", "whole_sum", top 1, ["table", "states", "row", "longer", "lot", "j", "item", "own"], ["table"], d0, []⟩
def f1 : Df := ⟨"part_of", "part_of", top 2, ["table", "rows", "columns", "i", "j"], ["table", "rows", "columns"], d1, []⟩
def f2 : Df := ⟨"lots_of", "lots_of", top 3, ["n", "many", "found", "turn", "longer", "lot", "start", "k"], ["n", "many"], d2, []⟩
def f3 : Df := ⟨"part_sum", "part_sum", top 5, ["table", "rows", "columns"], ["table", "rows", "columns"], d3, []⟩
def f4 : Df := ⟨"shifted_row", "shifted_row", top 6, ["table", "many", "n", "found", "lot"], ["table"], d4, []⟩
def f5 : Df := ⟨"no_fixed", "no_fixed", top 7, ["n", "found", "k"], ["n"], d5, []⟩
def f6 : Df := ⟨"_law_own_bag", "_law_own_bag", top 9, ["script", "cells", "mixed", "cell", "great"], ["script"], d6, []⟩
def f7 : Df := ⟨"_law_draw", "_law_draw", top 10, ["bag", "below", "found"], ["bag", "below"], d7, []⟩
def f8 : Df := ⟨"_law_pick", "_law_pick", top 11, ["bag", "some"], ["bag", "some"], d8, []⟩
def f9 : Df := ⟨"_law_order", "_law_order", top 12, ["bag", "n", "turn", "rest", "found"], ["bag", "n"], d9, []⟩
def f10 : Df := ⟨"_law_is_number", "_law_is_number", top 13, ["value"], ["value"], d10, []⟩
def f11 : Df := ⟨"_law_same", "_law_same", top 14, ["told", "due", "one", "other"], ["told", "due"], d11, []⟩
def f12 : Df := ⟨"_law_whole", "_law_whole", top 15, ["table", "states", "row", "lot", "longer", "some", "j", "item"], ["table"], d12, []⟩
def f13 : Df := ⟨"_law_choose", "_law_choose", top 16, ["n", "k", "found", "i"], ["n", "k"], d13, []⟩
def f14 : Df := ⟨"_law_due", "_law_due", top 17, ["table", "n", "k", "lot", "found", "lots", "own", "i", "j"], ["table"], d14, []⟩
def f15 : Df := ⟨"_law_more", "_law_more", top 18, ["table", "m", "i", "row"], ["table", "m"], d15, []⟩
def f16 : Df := ⟨"_law_own_table", "_law_own_table", top 19, ["bag", "n", "some", "rows", "way", "share", "i", "j", "row"], ["bag", "n"], d16, []⟩
def f17 : Df := ⟨"_law_is_right", "_law_is_right", top 20, ["bag", "n", "table", "told", "m", "item", "row", "s", "order", "led", "again", "kept", "is_named", "due", "later", "worth", "power", "r", "total", "i", "j"], ["bag", "n"], d17, []⟩
def f18 : Df := ⟨"_law_rows", "_law_rows", top 21, ["most", "found", "n"], ["most"], d18, []⟩
def f19 : Df := ⟨"_law_are_orders_right", "_law_are_orders_right", top 22, ["bag", "rows", "n", "s", "size", "hollow", "due", "is_named", "told", "whole", "total", "i", "j"], ["bag"], d19, []⟩
def f20 : Df := ⟨"law", "law", top 23, ["script", "bag", "n"], ["script"], d20, []⟩
def dfs : List Df := [f0, f1, f2, f3, f4, f5, f6, f7, f8, f9, f10, f11, f12, f13, f14, f15, f16, f17, f18, f19, f20]
def blt : List Str := ["abs", "all", "bool", "enumerate", "int", "isinstance", "len", "list", "range", "repr", "reversed", "str", "sum", "tuple", "zip"]
def bis : List (Bi × Str) := [(.abs, "abs"), (.all, "all"), (.int, "int"), (.len, "len"), (.repr, "repr"), (.sum, "sum"), (.tuple, "tuple")]
def P : Pg := Pp rpr
theorem chk : dfs.all (fun df => dfB (ctOf dfs blt bis df) df) = true := by decide +kernel
theorem all_mk {l : PySem.W.OpenLaw} {w : World} {K : PySem.W.Frag} {h : Heap} {mg : Str → Option Value} {fa g0 g1 g2 g3 g4 g5 g6 g7 g8 g9 g10 g11 g12 g13 g14 g15 g16 g17 g18 g19 g20 : Addr} (X : K.In h) (G : h.Ns mainGlobals mg) (hfa : mg "law" = some (.ref fa))
    {od0 an0 od1 an1 od2 an2 od3 an3 od4 an4 od5 an5 od6 an6 od7 an7 od8 an8 od9 an9 od10 an10 od11 an11 od12 an12 od13 an13 od14 an14 od15 an15 od16 an16 od17 an17 od18 an18 od19 an19 od20 an20 : Option Addr} {sl0 sl1 sl2 sl3 sl4 sl5 sl6 sl7 sl8 sl9 sl10 sl11 sl12 sl13 sl14 sl15 sl16 sl17 sl18 sl19 sl20 : Array (Option Value)} {oc0 kV0 dc0 pm0 cd0 ct0 oc1 kV1 dc1 pm1 cd1 ct1 oc2 kV2 dc2 pm2 cd2 ct2 oc3 kV3 dc3 pm3 cd3 ct3 oc4 kV4 dc4 pm4 cd4 ct4 oc5 kV5 dc5 pm5 cd5 ct5 oc6 kV6 dc6 pm6 cd6 ct6 oc7 kV7 dc7 pm7 cd7 ct7 oc8 kV8 dc8 pm8 cd8 ct8 oc9 kV9 dc9 pm9 cd9 ct9 oc10 kV10 dc10 pm10 cd10 ct10 oc11 kV11 dc11 pm11 cd11 ct11 oc12 kV12 dc12 pm12 cd12 ct12 oc13 kV13 dc13 pm13 cd13 ct13 oc14 kV14 dc14 pm14 cd14 ct14 oc15 kV15 dc15 pm15 cd15 ct15 oc16 kV16 dc16 pm16 cd16 ct16 oc17 kV17 dc17 pm17 cd17 ct17 oc18 kV18 dc18 pm18 cd18 ct18 oc19 kV19 dc19 pm19 cd19 ct19 oc20 kV20 dc20 pm20 cd20 ct20 : Value}
    (a0 : PySem.W.nsIn K mainGlobals "whole_sum" = some (some (.ref g0))) (l0 : K.lookup g0 = some ⟨oc0, od0, .func (PySem.W.fnOf "whole_sum" "whole_sum" (defArgs (top 1)) (defBody (top 1)) (defScope (top 1)) .none kV0 dc0 pm0 an0 cd0 ct0), sl0⟩) (c0 : PySem.W.codeIn K cd0 "whole_sum" = true) (k0 : PySem.W.keepIn K (.ref g0) = true)
    (a1 : PySem.W.nsIn K mainGlobals "part_of" = some (some (.ref g1))) (l1 : K.lookup g1 = some ⟨oc1, od1, .func (PySem.W.fnOf "part_of" "part_of" (defArgs (top 2)) (defBody (top 2)) (defScope (top 2)) .none kV1 dc1 pm1 an1 cd1 ct1), sl1⟩) (c1 : PySem.W.codeIn K cd1 "part_of" = true) (k1 : PySem.W.keepIn K (.ref g1) = true)
    (a2 : PySem.W.nsIn K mainGlobals "lots_of" = some (some (.ref g2))) (l2 : K.lookup g2 = some ⟨oc2, od2, .func (PySem.W.fnOf "lots_of" "lots_of" (defArgs (top 3)) (defBody (top 3)) (defScope (top 3)) .none kV2 dc2 pm2 an2 cd2 ct2), sl2⟩) (c2 : PySem.W.codeIn K cd2 "lots_of" = true) (k2 : PySem.W.keepIn K (.ref g2) = true)
    (a3 : PySem.W.nsIn K mainGlobals "part_sum" = some (some (.ref g3))) (l3 : K.lookup g3 = some ⟨oc3, od3, .func (PySem.W.fnOf "part_sum" "part_sum" (defArgs (top 5)) (defBody (top 5)) (defScope (top 5)) .none kV3 dc3 pm3 an3 cd3 ct3), sl3⟩) (c3 : PySem.W.codeIn K cd3 "part_sum" = true) (k3 : PySem.W.keepIn K (.ref g3) = true)
    (a4 : PySem.W.nsIn K mainGlobals "shifted_row" = some (some (.ref g4))) (l4 : K.lookup g4 = some ⟨oc4, od4, .func (PySem.W.fnOf "shifted_row" "shifted_row" (defArgs (top 6)) (defBody (top 6)) (defScope (top 6)) .none kV4 dc4 pm4 an4 cd4 ct4), sl4⟩) (c4 : PySem.W.codeIn K cd4 "shifted_row" = true) (k4 : PySem.W.keepIn K (.ref g4) = true)
    (a5 : PySem.W.nsIn K mainGlobals "no_fixed" = some (some (.ref g5))) (l5 : K.lookup g5 = some ⟨oc5, od5, .func (PySem.W.fnOf "no_fixed" "no_fixed" (defArgs (top 7)) (defBody (top 7)) (defScope (top 7)) .none kV5 dc5 pm5 an5 cd5 ct5), sl5⟩) (c5 : PySem.W.codeIn K cd5 "no_fixed" = true) (k5 : PySem.W.keepIn K (.ref g5) = true)
    (a6 : PySem.W.nsIn K mainGlobals "_law_own_bag" = some (some (.ref g6))) (l6 : K.lookup g6 = some ⟨oc6, od6, .func (PySem.W.fnOf "_law_own_bag" "_law_own_bag" (defArgs (top 9)) (defBody (top 9)) (defScope (top 9)) .none kV6 dc6 pm6 an6 cd6 ct6), sl6⟩) (c6 : PySem.W.codeIn K cd6 "_law_own_bag" = true) (k6 : PySem.W.keepIn K (.ref g6) = true)
    (a7 : PySem.W.nsIn K mainGlobals "_law_draw" = some (some (.ref g7))) (l7 : K.lookup g7 = some ⟨oc7, od7, .func (PySem.W.fnOf "_law_draw" "_law_draw" (defArgs (top 10)) (defBody (top 10)) (defScope (top 10)) .none kV7 dc7 pm7 an7 cd7 ct7), sl7⟩) (c7 : PySem.W.codeIn K cd7 "_law_draw" = true) (k7 : PySem.W.keepIn K (.ref g7) = true)
    (a8 : PySem.W.nsIn K mainGlobals "_law_pick" = some (some (.ref g8))) (l8 : K.lookup g8 = some ⟨oc8, od8, .func (PySem.W.fnOf "_law_pick" "_law_pick" (defArgs (top 11)) (defBody (top 11)) (defScope (top 11)) .none kV8 dc8 pm8 an8 cd8 ct8), sl8⟩) (c8 : PySem.W.codeIn K cd8 "_law_pick" = true) (k8 : PySem.W.keepIn K (.ref g8) = true)
    (a9 : PySem.W.nsIn K mainGlobals "_law_order" = some (some (.ref g9))) (l9 : K.lookup g9 = some ⟨oc9, od9, .func (PySem.W.fnOf "_law_order" "_law_order" (defArgs (top 12)) (defBody (top 12)) (defScope (top 12)) .none kV9 dc9 pm9 an9 cd9 ct9), sl9⟩) (c9 : PySem.W.codeIn K cd9 "_law_order" = true) (k9 : PySem.W.keepIn K (.ref g9) = true)
    (a10 : PySem.W.nsIn K mainGlobals "_law_is_number" = some (some (.ref g10))) (l10 : K.lookup g10 = some ⟨oc10, od10, .func (PySem.W.fnOf "_law_is_number" "_law_is_number" (defArgs (top 13)) (defBody (top 13)) (defScope (top 13)) .none kV10 dc10 pm10 an10 cd10 ct10), sl10⟩) (c10 : PySem.W.codeIn K cd10 "_law_is_number" = true) (k10 : PySem.W.keepIn K (.ref g10) = true)
    (a11 : PySem.W.nsIn K mainGlobals "_law_same" = some (some (.ref g11))) (l11 : K.lookup g11 = some ⟨oc11, od11, .func (PySem.W.fnOf "_law_same" "_law_same" (defArgs (top 14)) (defBody (top 14)) (defScope (top 14)) .none kV11 dc11 pm11 an11 cd11 ct11), sl11⟩) (c11 : PySem.W.codeIn K cd11 "_law_same" = true) (k11 : PySem.W.keepIn K (.ref g11) = true)
    (a12 : PySem.W.nsIn K mainGlobals "_law_whole" = some (some (.ref g12))) (l12 : K.lookup g12 = some ⟨oc12, od12, .func (PySem.W.fnOf "_law_whole" "_law_whole" (defArgs (top 15)) (defBody (top 15)) (defScope (top 15)) .none kV12 dc12 pm12 an12 cd12 ct12), sl12⟩) (c12 : PySem.W.codeIn K cd12 "_law_whole" = true) (k12 : PySem.W.keepIn K (.ref g12) = true)
    (a13 : PySem.W.nsIn K mainGlobals "_law_choose" = some (some (.ref g13))) (l13 : K.lookup g13 = some ⟨oc13, od13, .func (PySem.W.fnOf "_law_choose" "_law_choose" (defArgs (top 16)) (defBody (top 16)) (defScope (top 16)) .none kV13 dc13 pm13 an13 cd13 ct13), sl13⟩) (c13 : PySem.W.codeIn K cd13 "_law_choose" = true) (k13 : PySem.W.keepIn K (.ref g13) = true)
    (a14 : PySem.W.nsIn K mainGlobals "_law_due" = some (some (.ref g14))) (l14 : K.lookup g14 = some ⟨oc14, od14, .func (PySem.W.fnOf "_law_due" "_law_due" (defArgs (top 17)) (defBody (top 17)) (defScope (top 17)) .none kV14 dc14 pm14 an14 cd14 ct14), sl14⟩) (c14 : PySem.W.codeIn K cd14 "_law_due" = true) (k14 : PySem.W.keepIn K (.ref g14) = true)
    (a15 : PySem.W.nsIn K mainGlobals "_law_more" = some (some (.ref g15))) (l15 : K.lookup g15 = some ⟨oc15, od15, .func (PySem.W.fnOf "_law_more" "_law_more" (defArgs (top 18)) (defBody (top 18)) (defScope (top 18)) .none kV15 dc15 pm15 an15 cd15 ct15), sl15⟩) (c15 : PySem.W.codeIn K cd15 "_law_more" = true) (k15 : PySem.W.keepIn K (.ref g15) = true)
    (a16 : PySem.W.nsIn K mainGlobals "_law_own_table" = some (some (.ref g16))) (l16 : K.lookup g16 = some ⟨oc16, od16, .func (PySem.W.fnOf "_law_own_table" "_law_own_table" (defArgs (top 19)) (defBody (top 19)) (defScope (top 19)) .none kV16 dc16 pm16 an16 cd16 ct16), sl16⟩) (c16 : PySem.W.codeIn K cd16 "_law_own_table" = true) (k16 : PySem.W.keepIn K (.ref g16) = true)
    (a17 : PySem.W.nsIn K mainGlobals "_law_is_right" = some (some (.ref g17))) (l17 : K.lookup g17 = some ⟨oc17, od17, .func (PySem.W.fnOf "_law_is_right" "_law_is_right" (defArgs (top 20)) (defBody (top 20)) (defScope (top 20)) .none kV17 dc17 pm17 an17 cd17 ct17), sl17⟩) (c17 : PySem.W.codeIn K cd17 "_law_is_right" = true) (k17 : PySem.W.keepIn K (.ref g17) = true)
    (a18 : PySem.W.nsIn K mainGlobals "_law_rows" = some (some (.ref g18))) (l18 : K.lookup g18 = some ⟨oc18, od18, .func (PySem.W.fnOf "_law_rows" "_law_rows" (defArgs (top 21)) (defBody (top 21)) (defScope (top 21)) .none kV18 dc18 pm18 an18 cd18 ct18), sl18⟩) (c18 : PySem.W.codeIn K cd18 "_law_rows" = true) (k18 : PySem.W.keepIn K (.ref g18) = true)
    (a19 : PySem.W.nsIn K mainGlobals "_law_are_orders_right" = some (some (.ref g19))) (l19 : K.lookup g19 = some ⟨oc19, od19, .func (PySem.W.fnOf "_law_are_orders_right" "_law_are_orders_right" (defArgs (top 22)) (defBody (top 22)) (defScope (top 22)) .none kV19 dc19 pm19 an19 cd19 ct19), sl19⟩) (c19 : PySem.W.codeIn K cd19 "_law_are_orders_right" = true) (k19 : PySem.W.keepIn K (.ref g19) = true)
    (a20 : PySem.W.nsIn K mainGlobals "law" = some (some (.ref g20))) (l20 : K.lookup g20 = some ⟨oc20, od20, .func (PySem.W.fnOf "law" "law" (defArgs (top 23)) (defBody (top 23)) (defScope (top 23)) .none kV20 dc20 pm20 an20 cd20 ct20), sl20⟩) (c20 : PySem.W.codeIn K cd20 "law" = true) (k20 : PySem.W.keepIn K (.ref g20) = true)
    (z0 : PySem.W.nsIn K mainGlobals "abs" = some none)
    (z1 : PySem.W.nsIn K mainGlobals "all" = some none)
    (z2 : PySem.W.nsIn K mainGlobals "bool" = some none)
    (z3 : PySem.W.nsIn K mainGlobals "enumerate" = some none)
    (z4 : PySem.W.nsIn K mainGlobals "int" = some none)
    (z5 : PySem.W.nsIn K mainGlobals "isinstance" = some none)
    (z6 : PySem.W.nsIn K mainGlobals "len" = some none)
    (z7 : PySem.W.nsIn K mainGlobals "list" = some none)
    (z8 : PySem.W.nsIn K mainGlobals "range" = some none)
    (z9 : PySem.W.nsIn K mainGlobals "repr" = some none)
    (z10 : PySem.W.nsIn K mainGlobals "reversed" = some none)
    (z11 : PySem.W.nsIn K mainGlobals "str" = some none)
    (z12 : PySem.W.nsIn K mainGlobals "sum" = some none)
    (z13 : PySem.W.nsIn K mainGlobals "tuple" = some none)
    (z14 : PySem.W.nsIn K mainGlobals "zip" = some none) :
    ∃ fd : FuncData, (∀ (s : Shared) (u : Value), BindsTo s fd ⟨[u], []⟩ [("script", u)]) ∧ ∀ base : Heap, K.In base → base.Ns mainGlobals mg → FnG l.prog w K mg base 20 fa fd ["script"] (spT K (run P 20) 20 1) := by
  have e := hfa.symm.trans (PySem.W.mg_of X G a20)
  have e2 : g20 = fa := by cases e; rfl
  subst e2
  have h0 : DfOk K mg f0 g0 (PySem.W.fnOf "whole_sum" "whole_sum" (defArgs (top 1)) (defBody (top 1)) (defScope (top 1)) .none kV0 dc0 pm0 an0 cd0 ct0) := ⟨fun_mk (st := top 1) l0 c0 k0, PySem.W.mg_of X G a0, fun s us hl => (match us, hl with | [_], _ => .of_eq rfl), fun s us hl => (match us, hl with | [_], _ => .of_eq rfl), fun q hq => by cases hq⟩
  have h1 : DfOk K mg f1 g1 (PySem.W.fnOf "part_of" "part_of" (defArgs (top 2)) (defBody (top 2)) (defScope (top 2)) .none kV1 dc1 pm1 an1 cd1 ct1) := ⟨fun_mk (st := top 2) l1 c1 k1, PySem.W.mg_of X G a1, fun s us hl => (match us, hl with | [_, _, _], _ => .of_eq rfl), fun s us hl => (match us, hl with | [_, _, _], _ => .of_eq rfl), fun q hq => by cases hq⟩
  have h2 : DfOk K mg f2 g2 (PySem.W.fnOf "lots_of" "lots_of" (defArgs (top 3)) (defBody (top 3)) (defScope (top 3)) .none kV2 dc2 pm2 an2 cd2 ct2) := ⟨fun_mk (st := top 3) l2 c2 k2, PySem.W.mg_of X G a2, fun s us hl => (match us, hl with | [_, _], _ => .of_eq rfl), fun s us hl => (match us, hl with | [_, _], _ => .of_eq rfl), fun q hq => by cases hq⟩
  have h3 : DfOk K mg f3 g3 (PySem.W.fnOf "part_sum" "part_sum" (defArgs (top 5)) (defBody (top 5)) (defScope (top 5)) .none kV3 dc3 pm3 an3 cd3 ct3) := ⟨fun_mk (st := top 5) l3 c3 k3, PySem.W.mg_of X G a3, fun s us hl => (match us, hl with | [_, _, _], _ => .of_eq rfl), fun s us hl => (match us, hl with | [_, _, _], _ => .of_eq rfl), fun q hq => by cases hq⟩
  have h4 : DfOk K mg f4 g4 (PySem.W.fnOf "shifted_row" "shifted_row" (defArgs (top 6)) (defBody (top 6)) (defScope (top 6)) .none kV4 dc4 pm4 an4 cd4 ct4) := ⟨fun_mk (st := top 6) l4 c4 k4, PySem.W.mg_of X G a4, fun s us hl => (match us, hl with | [_], _ => .of_eq rfl), fun s us hl => (match us, hl with | [_], _ => .of_eq rfl), fun q hq => by cases hq⟩
  have h5 : DfOk K mg f5 g5 (PySem.W.fnOf "no_fixed" "no_fixed" (defArgs (top 7)) (defBody (top 7)) (defScope (top 7)) .none kV5 dc5 pm5 an5 cd5 ct5) := ⟨fun_mk (st := top 7) l5 c5 k5, PySem.W.mg_of X G a5, fun s us hl => (match us, hl with | [_], _ => .of_eq rfl), fun s us hl => (match us, hl with | [_], _ => .of_eq rfl), fun q hq => by cases hq⟩
  have h6 : DfOk K mg f6 g6 (PySem.W.fnOf "_law_own_bag" "_law_own_bag" (defArgs (top 9)) (defBody (top 9)) (defScope (top 9)) .none kV6 dc6 pm6 an6 cd6 ct6) := ⟨fun_mk (st := top 9) l6 c6 k6, PySem.W.mg_of X G a6, fun s us hl => (match us, hl with | [_], _ => .of_eq rfl), fun s us hl => (match us, hl with | [_], _ => .of_eq rfl), fun q hq => by cases hq⟩
  have h7 : DfOk K mg f7 g7 (PySem.W.fnOf "_law_draw" "_law_draw" (defArgs (top 10)) (defBody (top 10)) (defScope (top 10)) .none kV7 dc7 pm7 an7 cd7 ct7) := ⟨fun_mk (st := top 10) l7 c7 k7, PySem.W.mg_of X G a7, fun s us hl => (match us, hl with | [_, _], _ => .of_eq rfl), fun s us hl => (match us, hl with | [_, _], _ => .of_eq rfl), fun q hq => by cases hq⟩
  have h8 : DfOk K mg f8 g8 (PySem.W.fnOf "_law_pick" "_law_pick" (defArgs (top 11)) (defBody (top 11)) (defScope (top 11)) .none kV8 dc8 pm8 an8 cd8 ct8) := ⟨fun_mk (st := top 11) l8 c8 k8, PySem.W.mg_of X G a8, fun s us hl => (match us, hl with | [_, _], _ => .of_eq rfl), fun s us hl => (match us, hl with | [_, _], _ => .of_eq rfl), fun q hq => by cases hq⟩
  have h9 : DfOk K mg f9 g9 (PySem.W.fnOf "_law_order" "_law_order" (defArgs (top 12)) (defBody (top 12)) (defScope (top 12)) .none kV9 dc9 pm9 an9 cd9 ct9) := ⟨fun_mk (st := top 12) l9 c9 k9, PySem.W.mg_of X G a9, fun s us hl => (match us, hl with | [_, _], _ => .of_eq rfl), fun s us hl => (match us, hl with | [_, _], _ => .of_eq rfl), fun q hq => by cases hq⟩
  have h10 : DfOk K mg f10 g10 (PySem.W.fnOf "_law_is_number" "_law_is_number" (defArgs (top 13)) (defBody (top 13)) (defScope (top 13)) .none kV10 dc10 pm10 an10 cd10 ct10) := ⟨fun_mk (st := top 13) l10 c10 k10, PySem.W.mg_of X G a10, fun s us hl => (match us, hl with | [_], _ => .of_eq rfl), fun s us hl => (match us, hl with | [_], _ => .of_eq rfl), fun q hq => by cases hq⟩
  have h11 : DfOk K mg f11 g11 (PySem.W.fnOf "_law_same" "_law_same" (defArgs (top 14)) (defBody (top 14)) (defScope (top 14)) .none kV11 dc11 pm11 an11 cd11 ct11) := ⟨fun_mk (st := top 14) l11 c11 k11, PySem.W.mg_of X G a11, fun s us hl => (match us, hl with | [_, _], _ => .of_eq rfl), fun s us hl => (match us, hl with | [_, _], _ => .of_eq rfl), fun q hq => by cases hq⟩
  have h12 : DfOk K mg f12 g12 (PySem.W.fnOf "_law_whole" "_law_whole" (defArgs (top 15)) (defBody (top 15)) (defScope (top 15)) .none kV12 dc12 pm12 an12 cd12 ct12) := ⟨fun_mk (st := top 15) l12 c12 k12, PySem.W.mg_of X G a12, fun s us hl => (match us, hl with | [_], _ => .of_eq rfl), fun s us hl => (match us, hl with | [_], _ => .of_eq rfl), fun q hq => by cases hq⟩
  have h13 : DfOk K mg f13 g13 (PySem.W.fnOf "_law_choose" "_law_choose" (defArgs (top 16)) (defBody (top 16)) (defScope (top 16)) .none kV13 dc13 pm13 an13 cd13 ct13) := ⟨fun_mk (st := top 16) l13 c13 k13, PySem.W.mg_of X G a13, fun s us hl => (match us, hl with | [_, _], _ => .of_eq rfl), fun s us hl => (match us, hl with | [_, _], _ => .of_eq rfl), fun q hq => by cases hq⟩
  have h14 : DfOk K mg f14 g14 (PySem.W.fnOf "_law_due" "_law_due" (defArgs (top 17)) (defBody (top 17)) (defScope (top 17)) .none kV14 dc14 pm14 an14 cd14 ct14) := ⟨fun_mk (st := top 17) l14 c14 k14, PySem.W.mg_of X G a14, fun s us hl => (match us, hl with | [_], _ => .of_eq rfl), fun s us hl => (match us, hl with | [_], _ => .of_eq rfl), fun q hq => by cases hq⟩
  have h15 : DfOk K mg f15 g15 (PySem.W.fnOf "_law_more" "_law_more" (defArgs (top 18)) (defBody (top 18)) (defScope (top 18)) .none kV15 dc15 pm15 an15 cd15 ct15) := ⟨fun_mk (st := top 18) l15 c15 k15, PySem.W.mg_of X G a15, fun s us hl => (match us, hl with | [_, _], _ => .of_eq rfl), fun s us hl => (match us, hl with | [_, _], _ => .of_eq rfl), fun q hq => by cases hq⟩
  have h16 : DfOk K mg f16 g16 (PySem.W.fnOf "_law_own_table" "_law_own_table" (defArgs (top 19)) (defBody (top 19)) (defScope (top 19)) .none kV16 dc16 pm16 an16 cd16 ct16) := ⟨fun_mk (st := top 19) l16 c16 k16, PySem.W.mg_of X G a16, fun s us hl => (match us, hl with | [_, _], _ => .of_eq rfl), fun s us hl => (match us, hl with | [_, _], _ => .of_eq rfl), fun q hq => by cases hq⟩
  have h17 : DfOk K mg f17 g17 (PySem.W.fnOf "_law_is_right" "_law_is_right" (defArgs (top 20)) (defBody (top 20)) (defScope (top 20)) .none kV17 dc17 pm17 an17 cd17 ct17) := ⟨fun_mk (st := top 20) l17 c17 k17, PySem.W.mg_of X G a17, fun s us hl => (match us, hl with | [_, _], _ => .of_eq rfl), fun s us hl => (match us, hl with | [_, _], _ => .of_eq rfl), fun q hq => by cases hq⟩
  have h18 : DfOk K mg f18 g18 (PySem.W.fnOf "_law_rows" "_law_rows" (defArgs (top 21)) (defBody (top 21)) (defScope (top 21)) .none kV18 dc18 pm18 an18 cd18 ct18) := ⟨fun_mk (st := top 21) l18 c18 k18, PySem.W.mg_of X G a18, fun s us hl => (match us, hl with | [_], _ => .of_eq rfl), fun s us hl => (match us, hl with | [_], _ => .of_eq rfl), fun q hq => by cases hq⟩
  have h19 : DfOk K mg f19 g19 (PySem.W.fnOf "_law_are_orders_right" "_law_are_orders_right" (defArgs (top 22)) (defBody (top 22)) (defScope (top 22)) .none kV19 dc19 pm19 an19 cd19 ct19) := ⟨fun_mk (st := top 22) l19 c19 k19, PySem.W.mg_of X G a19, fun s us hl => (match us, hl with | [_], _ => .of_eq rfl), fun s us hl => (match us, hl with | [_], _ => .of_eq rfl), fun q hq => by cases hq⟩
  have h20 : DfOk K mg f20 g20 (PySem.W.fnOf "law" "law" (defArgs (top 23)) (defBody (top 23)) (defScope (top 23)) .none kV20 dc20 pm20 an20 cd20 ct20) := ⟨fun_mk (st := top 23) l20 c20 k20, PySem.W.mg_of X G a20, fun s us hl => (match us, hl with | [_], _ => .of_eq rfl), fun s us hl => (match us, hl with | [_], _ => .of_eq rfl), fun q hq => by cases hq⟩
  have ok : OkL K mg dfs [(g0, (PySem.W.fnOf "whole_sum" "whole_sum" (defArgs (top 1)) (defBody (top 1)) (defScope (top 1)) .none kV0 dc0 pm0 an0 cd0 ct0)), (g1, (PySem.W.fnOf "part_of" "part_of" (defArgs (top 2)) (defBody (top 2)) (defScope (top 2)) .none kV1 dc1 pm1 an1 cd1 ct1)), (g2, (PySem.W.fnOf "lots_of" "lots_of" (defArgs (top 3)) (defBody (top 3)) (defScope (top 3)) .none kV2 dc2 pm2 an2 cd2 ct2)), (g3, (PySem.W.fnOf "part_sum" "part_sum" (defArgs (top 5)) (defBody (top 5)) (defScope (top 5)) .none kV3 dc3 pm3 an3 cd3 ct3)), (g4, (PySem.W.fnOf "shifted_row" "shifted_row" (defArgs (top 6)) (defBody (top 6)) (defScope (top 6)) .none kV4 dc4 pm4 an4 cd4 ct4)), (g5, (PySem.W.fnOf "no_fixed" "no_fixed" (defArgs (top 7)) (defBody (top 7)) (defScope (top 7)) .none kV5 dc5 pm5 an5 cd5 ct5)), (g6, (PySem.W.fnOf "_law_own_bag" "_law_own_bag" (defArgs (top 9)) (defBody (top 9)) (defScope (top 9)) .none kV6 dc6 pm6 an6 cd6 ct6)), (g7, (PySem.W.fnOf "_law_draw" "_law_draw" (defArgs (top 10)) (defBody (top 10)) (defScope (top 10)) .none kV7 dc7 pm7 an7 cd7 ct7)), (g8, (PySem.W.fnOf "_law_pick" "_law_pick" (defArgs (top 11)) (defBody (top 11)) (defScope (top 11)) .none kV8 dc8 pm8 an8 cd8 ct8)), (g9, (PySem.W.fnOf "_law_order" "_law_order" (defArgs (top 12)) (defBody (top 12)) (defScope (top 12)) .none kV9 dc9 pm9 an9 cd9 ct9)), (g10, (PySem.W.fnOf "_law_is_number" "_law_is_number" (defArgs (top 13)) (defBody (top 13)) (defScope (top 13)) .none kV10 dc10 pm10 an10 cd10 ct10)), (g11, (PySem.W.fnOf "_law_same" "_law_same" (defArgs (top 14)) (defBody (top 14)) (defScope (top 14)) .none kV11 dc11 pm11 an11 cd11 ct11)), (g12, (PySem.W.fnOf "_law_whole" "_law_whole" (defArgs (top 15)) (defBody (top 15)) (defScope (top 15)) .none kV12 dc12 pm12 an12 cd12 ct12)), (g13, (PySem.W.fnOf "_law_choose" "_law_choose" (defArgs (top 16)) (defBody (top 16)) (defScope (top 16)) .none kV13 dc13 pm13 an13 cd13 ct13)), (g14, (PySem.W.fnOf "_law_due" "_law_due" (defArgs (top 17)) (defBody (top 17)) (defScope (top 17)) .none kV14 dc14 pm14 an14 cd14 ct14)), (g15, (PySem.W.fnOf "_law_more" "_law_more" (defArgs (top 18)) (defBody (top 18)) (defScope (top 18)) .none kV15 dc15 pm15 an15 cd15 ct15)), (g16, (PySem.W.fnOf "_law_own_table" "_law_own_table" (defArgs (top 19)) (defBody (top 19)) (defScope (top 19)) .none kV16 dc16 pm16 an16 cd16 ct16)), (g17, (PySem.W.fnOf "_law_is_right" "_law_is_right" (defArgs (top 20)) (defBody (top 20)) (defScope (top 20)) .none kV17 dc17 pm17 an17 cd17 ct17)), (g18, (PySem.W.fnOf "_law_rows" "_law_rows" (defArgs (top 21)) (defBody (top 21)) (defScope (top 21)) .none kV18 dc18 pm18 an18 cd18 ct18)), (g19, (PySem.W.fnOf "_law_are_orders_right" "_law_are_orders_right" (defArgs (top 22)) (defBody (top 22)) (defScope (top 22)) .none kV19 dc19 pm19 an19 cd19 ct19)), (g20, (PySem.W.fnOf "law" "law" (defArgs (top 23)) (defBody (top 23)) (defScope (top 23)) .none kV20 dc20 pm20 an20 cd20 ct20))] := ⟨h0, h1, h2, h3, h4, h5, h6, h7, h8, h9, h10, h11, h12, h13, h14, h15, h16, h17, h18, h19, h20, trivial⟩
  have hblt : ∀ x ∈ blt, mg x = none := by
    intro x hx
    have hx : x ∈ (["abs", "all", "bool", "enumerate", "int", "isinstance", "len", "list", "range", "repr", "reversed", "str", "sum", "tuple", "zip"] : List Str) := hx
    simp only [List.mem_cons, List.not_mem_nil, or_false] at hx
    rcases hx with rfl | rfl | rfl | rfl | rfl | rfl | rfl | rfl | rfl | rfl | rfl | rfl | rfl | rfl | rfl
    · exact PySem.W.mg_none_of X G z0
    · exact PySem.W.mg_none_of X G z1
    · exact PySem.W.mg_none_of X G z2
    · exact PySem.W.mg_none_of X G z3
    · exact PySem.W.mg_none_of X G z4
    · exact PySem.W.mg_none_of X G z5
    · exact PySem.W.mg_none_of X G z6
    · exact PySem.W.mg_none_of X G z7
    · exact PySem.W.mg_none_of X G z8
    · exact PySem.W.mg_none_of X G z9
    · exact PySem.W.mg_none_of X G z10
    · exact PySem.W.mg_none_of X G z11
    · exact PySem.W.mg_none_of X G z12
    · exact PySem.W.mg_none_of X G z13
    · exact PySem.W.mg_none_of X G z14
  have hbis : ∀ p ∈ bis, ∃ v, biV p.1 = some v ∧ ((mg p.2 = none ∧ bootBuiltins p.2 = some v ∧ p.2 ≠ "__name__") ∨ (mg p.2 = some v ∧ ∃ id, v = .builtin id)) := by
    intro p hp
    have hp : p ∈ [((.abs : Bi), ("abs" : Str)), ((.all : Bi), ("all" : Str)), ((.int : Bi), ("int" : Str)), ((.len : Bi), ("len" : Str)), ((.repr : Bi), ("repr" : Str)), ((.sum : Bi), ("sum" : Str)), ((.tuple : Bi), ("tuple" : Str))] := hp
    simp only [List.mem_cons, List.not_mem_nil, or_false] at hp
    rcases hp with rfl | rfl | rfl | rfl | rfl | rfl | rfl
    · exact ⟨_, rfl, .inl ⟨PySem.W.mg_none_of X G z0, by decide +kernel, by decide⟩⟩
    · exact ⟨_, rfl, .inl ⟨PySem.W.mg_none_of X G z1, by decide +kernel, by decide⟩⟩
    · exact ⟨_, rfl, .inl ⟨PySem.W.mg_none_of X G z4, by decide +kernel, by decide⟩⟩
    · exact ⟨_, rfl, .inl ⟨PySem.W.mg_none_of X G z6, by decide +kernel, by decide⟩⟩
    · exact ⟨_, rfl, .inl ⟨PySem.W.mg_none_of X G z9, by decide +kernel, by decide⟩⟩
    · exact ⟨_, rfl, .inl ⟨PySem.W.mg_none_of X G z12, by decide +kernel, by decide⟩⟩
    · exact ⟨_, rfl, .inl ⟨PySem.W.mg_none_of X G z13, by decide +kernel, by decide⟩⟩
  exact ⟨_, fun s v => .of_eq rfl, fun base _ _ => laws_defs (df := f20) (j := 20) rfl rfl ok chk hblt hbis 20 rfl rfl⟩
theorem runs : ∀ ms : List Int, ms.length ≤ 63 → ∃ outs, run P 20 20 [scrT ms] = .ok (.bl true) outs := by
  intro ms _
  have h := law_w (rp := rpr) (k := 14) (ns := ms)
  rw [rn_run] at h
  exact WF_ex h
end K33
open PySem PySem.W PyProof.Rows
set_option maxRecDepth 100000 in
set_option maxHeartbeats 0 in
theorem PySem.Challenge.cw_onefromeach_k33_whole_shifted_and_no_fix_holds : PySem.Challenge.rw_onefromeach_k33_whole_shifted_and_no_fix.Holds := by
  w_on; o_law; k_head; (case hw => w_witness2)
  k_fill
  refine Tq.walkG (l := PySem.Challenge.rw_onefromeach_k33_whole_shifted_and_no_fix) (n := 63) (k := 20) (x := "script") (call := Tq.run K33.P 20) (j := 20) rfl (by decide) rfl ⟨rfl, by decide, by decide⟩ (fun w h Y => PySem.W.kIn_of Y) ?F K33.runs
  case F =>
    intro w mg fa h KX G hmg
    refine' K33.all_mk KX G hmg ?a0 ?l0 ?c0 ?k0 ?a1 ?l1 ?c1 ?k1 ?a2 ?l2 ?c2 ?k2 ?a3 ?l3 ?c3 ?k3 ?a4 ?l4 ?c4 ?k4 ?a5 ?l5 ?c5 ?k5 ?a6 ?l6 ?c6 ?k6 ?a7 ?l7 ?c7 ?k7 ?a8 ?l8 ?c8 ?k8 ?a9 ?l9 ?c9 ?k9 ?a10 ?l10 ?c10 ?k10 ?a11 ?l11 ?c11 ?k11 ?a12 ?l12 ?c12 ?k12 ?a13 ?l13 ?c13 ?k13 ?a14 ?l14 ?c14 ?k14 ?a15 ?l15 ?c15 ?k15 ?a16 ?l16 ?c16 ?k16 ?a17 ?l17 ?c17 ?k17 ?a18 ?l18 ?c18 ?k18 ?a19 ?l19 ?c19 ?k19 ?a20 ?l20 ?c20 ?k20 ?z0 ?z1 ?z2 ?z3 ?z4 ?z5 ?z6 ?z7 ?z8 ?z9 ?z10 ?z11 ?z12 ?z13 ?z14
    (case a0 => k_is); (case l0 => k_is); (case c0 => k_is); (case k0 => k_is); (case a1 => k_is); (case l1 => k_is)
    (case c1 => k_is); (case k1 => k_is); (case a2 => k_is); (case l2 => k_is); (case c2 => k_is); (case k2 => k_is)
    (case a3 => k_is); (case l3 => k_is); (case c3 => k_is); (case k3 => k_is); (case a4 => k_is); (case l4 => k_is)
    (case c4 => k_is); (case k4 => k_is); (case a5 => k_is); (case l5 => k_is); (case c5 => k_is); (case k5 => k_is)
    (case a6 => k_is); (case l6 => k_is); (case c6 => k_is); (case k6 => k_is); (case a7 => k_is); (case l7 => k_is)
    (case c7 => k_is); (case k7 => k_is); (case a8 => k_is); (case l8 => k_is); (case c8 => k_is); (case k8 => k_is)
    (case a9 => k_is); (case l9 => k_is); (case c9 => k_is); (case k9 => k_is); (case a10 => k_is); (case l10 => k_is)
    (case c10 => k_is); (case k10 => k_is); (case a11 => k_is); (case l11 => k_is); (case c11 => k_is); (case k11 => k_is)
    (case a12 => k_is); (case l12 => k_is); (case c12 => k_is); (case k12 => k_is); (case a13 => k_is); (case l13 => k_is)
    (case c13 => k_is); (case k13 => k_is); (case a14 => k_is); (case l14 => k_is); (case c14 => k_is); (case k14 => k_is)
    (case a15 => k_is); (case l15 => k_is); (case c15 => k_is); (case k15 => k_is); (case a16 => k_is); (case l16 => k_is)
    (case c16 => k_is); (case k16 => k_is); (case a17 => k_is); (case l17 => k_is); (case c17 => k_is); (case k17 => k_is)
    (case a18 => k_is); (case l18 => k_is); (case c18 => k_is); (case k18 => k_is); (case a19 => k_is); (case l19 => k_is)
    (case c19 => k_is); (case k19 => k_is); (case a20 => k_is); (case l20 => k_is); (case c20 => k_is); (case k20 => k_is)
    (case z0 => k_is); (case z1 => k_is); (case z2 => k_is); (case z3 => k_is); (case z4 => k_is); (case z5 => k_is)
    (case z6 => k_is); (case z7 => k_is); (case z8 => k_is); (case z9 => k_is); (case z10 => k_is); (case z11 => k_is)
    (case z12 => k_is); (case z13 => k_is); (case z14 => k_is)
