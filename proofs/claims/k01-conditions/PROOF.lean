import PyProof.Rows.All
import PySem.PyData
import KE.DataEq
import KE.LtData
import KE.SortData
import HandS.ReplaceList
import HandS.ForMost
import HandS.ForExc
import HandS.Lambda
import HandS.DictComp
import HandS.AnyAll
import HandS.GenList
import HandS.TupAny
import HandS.RaiseMore
import HandS.Style
import HandS.Codes
import HandS.More
import HandS.WordsDict
import KE.KIntText
import KE.IntTextLaws
import KE.DataMinMax
import KE.OsSortAny
import HandS.Replace
import HandS.FStr
import HandS.Comp
import PyProof.DictUpdate
import HandS.ExcCtx
import HandS.Iter
import HandS.Zip
import KE.GoesRaise
import KE.GoesComp
import HandS.ReplaceDef
import PyProof.GenArm
import PyProof.GenQ
import PyProof.Rows.SeqGen
import PyProof.ExcBaseAll.ValueError
import HandS.HeadWalk
import HandS.HeadHook4
import HandS.Head2
import HandS.Head0
import HandS.Head1
import HandS.HeadEnd
import HandS.HeadHook1
import HandS.HeadHook2
import PySem.Challenge.RW_rulestack_k01_conditions_as_text
section S1
set_option autoImplicit false
/-! A1: the small language: data, store, expressions, statements, their evaluator. Plain Lean; nothing of the model but Str and PyData. -/
set_option linter.all false
namespace RS
open PySem

/-- data: what a value is; loc: a mutable thing that stands in the store -/
inductive D where
  | non | bl (b : Bool) | int (i : Int) | str (s : List Nat)
  | tup (xs : List D) | lst (xs : List D) | dct (kvs : List (D × D)) | loc (n : Nat) | lam (k : Nat)
  /-- a list from outside -/
  | scr (xs : List D)
  deriving Inhabited

inductive Cell where
  | obj (c : Nat) (fs : List (Nat × D))
  | lst (xs : List D)
  | dct (kvs : List (D × D))
  deriving Inhabited

abbrev Sto := List Cell
/-- a result: a value, an own exception (by the number of its class), or nothing is said -/
inductive R (α : Type) where
  | ok (a : α) (s : Sto)
  | err (c : Nat) (s : Sto)
  | no
namespace R
variable {α β : Type}
def bind (x : R α) (f : α → Sto → R β) : R β := match x with
  | .ok a s => f a s
  | .err c s => .err c s
  | .no => .no
@[simp] theorem bind_ok (a : α) (s : Sto) (f : α → Sto → R β) : (R.ok a s).bind f = f a s := rfl
@[simp] theorem bind_err (c : Nat) (s : Sto) (f : α → Sto → R β) : (R.err c s : R α).bind f = .err c s := rfl
@[simp] theorem bind_no (f : α → Sto → R β) : (R.no : R α).bind f = .no := rfl
end R

/-- how a value stands: frozen (never written again), fresh (nobody else has it), borrowed (read only, now) -/
inductive Kd where
  | fz | fr | bo
  deriving DecidableEq

abbrev Env := List (Option (D × Bool))
def isMut : D → Bool
  | .lst _ | .dct _ => true
  | _ => false

def isNon : D → Bool
  | .non => true
  | _ => false
def isTup : D → Bool
  | .tup _ => true
  | _ => false
def isTupC : D → Bool
  | .tup (_ :: _) => true
  | _ => false
def isStr : D → Bool
  | .str _ => true
  | _ => false

/-! ### operations by data -/
mutual
def py : D → PyData
  | .non => .none
  | .bl b => .bool b
  | .int i => .int i
  | .str s => .str ⟨s.toArray⟩
  | .tup xs => .tuple (pyAll xs)
  | .lst xs => .list (pyAll xs)
  | .dct _ => .none
  | .loc _ => .none
  | .lam _ => .none
  | .scr _ => .none
def pyAll : List D → List PyData
  | [] => []
  | x :: xs => py x :: pyAll xs
end
-- no store, no dict within
mutual
def plainD : D → Bool
  | .tup xs => plainA xs
  | .lst xs => plainA xs
  | .dct _ => false
  | .loc _ => false
  | .lam _ => false
  | .scr _ => false
  | _ => true
def plainA : List D → Bool
  | [] => true
  | x :: xs => plainD x && plainA xs
end
mutual
def deq : D → D → Bool
  | .non, .non => true
  | .bl a, .bl b => a == b
  | .bl a, .int j => (if a then 1 else 0) == j
  | .int i, .bl b => i == (if b then 1 else 0)
  | .int i, .int j => i == j
  | .str x, .str y => x == y
  | .tup xs, .tup ys => deqA xs ys
  | .lst xs, .lst ys => deqA xs ys
  | _, _ => false
def deqA : List D → List D → Bool
  | [], [] => true
  | x :: xs, y :: ys => deq x y && deqA xs ys
  | _, _ => false
end
mutual
def dep : D → Nat
  | .tup xs => depA xs + 1
  | .lst xs => depA xs + 1
  | _ => 0
def depA : List D → Nat
  | [] => 0
  | x :: xs => max (dep x) (depA xs)
end
/-- both plain, not deeper than 32 -/
def cmpOk (x y : D) : Bool := plainD x && plainD y && decide (dep x ≤ 32) && decide (dep y ≤ 32)

/-- a dict's keys: whole numbers and texts -/
def isKey : D → Bool
  | .int _ | .str _ => true
  | _ => false
def keyEq : D → D → Bool
  | .int i, .int j => i == j
  | .str x, .str y => x == y
  | _, _ => false
def dget (kvs : List (D × D)) (k : D) : Option D := match kvs with
  | [] => none
  | (a, v) :: r => if keyEq a k then some v else dget r k
def dhas (kvs : List (D × D)) (k : D) : Bool := kvs.any fun p => keyEq p.1 k
/-- in its place, or at the end -/
def dput (kvs : List (D × D)) (k v : D) : List (D × D) :=
  if dhas kvs k then kvs.map fun p => if keyEq p.1 k then (p.1, v) else p else kvs ++ [(k, v)]
def dputs (kvs : List (D × D)) : List (D × D) → List (D × D)
  | [] => kvs
  | (k, v) :: r => dputs (dput kvs k v) r

-- the very same data
mutual
def beqD : D → D → Bool
  | .non, .non => true
  | .bl a, .bl b => a == b
  | .int i, .int j => i == j
  | .str x, .str y => x == y
  | .tup xs, .tup ys => beqA xs ys
  | .lst xs, .lst ys => beqA xs ys
  | .dct xs, .dct ys => beqK xs ys
  | .loc n, .loc m => n == m
  | .lam n, .lam m => n == m
  | _, _ => false
def beqA : List D → List D → Bool
  | [], [] => true
  | x :: xs, y :: ys => beqD x y && beqA xs ys
  | _, _ => false
def beqK : List (D × D) → List (D × D) → Bool
  | [], [] => true
  | (a, x) :: xs, (b, y) :: ys => beqD a b && beqD x y && beqK xs ys
  | _, _ => false
end
def beqC : Cell → Cell → Bool
  | .lst xs, .lst ys => beqA xs ys
  | .dct xs, .dct ys => beqK xs ys
  | _, _ => false
def line : Nat := 16777216
/-- what stands behind a value, the store looked at once -/
def view (st : Sto) : D → D
  | .loc n => match st[n]? with
    | some (.lst xs) => .lst xs
    | some (.dct kvs) => .dct kvs
    | _ => .loc n
  | d => d
def truth (st : Sto) (d : D) : Option Bool := match view st d with
  | .non => some false
  | .bl b => some b
  | .int i => some (i != 0)
  | .str s => some (!s.isEmpty)
  | .tup xs => some (!xs.isEmpty)
  | .lst xs => some (!xs.isEmpty)
  | .dct kvs => some (!kvs.isEmpty)
  | .loc _ => none
  | .lam _ => none
  | .scr _ => none

/-- where s begins in t with p -/
def isPre : List Nat → List Nat → Bool
  | [], _ => true
  | a :: p, b :: t => a == b && isPre p t
  | _, _ => false
/-- t.replace(p, r), p not empty -/
def repl (p r t : List Nat) : List Nat := StrLaws.replL p r t
def cat (sep : List Nat) : List (List Nat) → List Nat
  | [] => []
  | [x] => x
  | x :: r => x ++ sep ++ cat sep r

/-- the place that an index means -/
def ix (n : Nat) (i : Int) : Option Nat := if 0 ≤ i then (if i < n then some i.toNat else none) else if -(n : Int) ≤ i then some (i + n).toNat else none
def atD {α : Type} (xs : List α) (i : Int) : Option α := (ix xs.length i).bind fun j => xs[j]?
/-- a bound of a slice -/
def cut (n d : Nat) : Option Int → Nat
  | none => d
  | some v => if v < 0 then (v + (n : Int)).toNat else min v.toNat n
def slice {α : Type} (xs : List α) (lo hi : Option Int) : List α := (xs.drop (cut xs.length 0 lo)).take (cut xs.length xs.length hi - cut xs.length 0 lo)

def sOf (s : String) : List Nat := s.toList.map Char.toNat
def natS (n : Nat) : List Nat := (Nat.toDigits 10 n).map Char.toNat
def intS (i : Int) : List Nat := if i < 0 then 45 :: natS i.natAbs else natS i.natAbs
def strOf : D → Option (List Nat)
  | .str s => some s
  | .int i => if i.natAbs < 10 ^ 100 then some (intS i) else none
  | .bl b => some (if b then [84, 114, 117, 101] else [70, 97, 108, 115, 101])
  | .non => some [78, 111, 110, 101]
  | _ => none
def digs : List Nat → Nat → Option Nat
  | [], a => some a
  | c :: r, a => if 48 ≤ c ∧ c ≤ 57 then digs r (a * 10 + (c - 48)) else none
/-- int(text), for figures alone, a "-" ahead -/
def intOf (s : List Nat) : Option Int := match s with
  | [] => none
  | 45 :: r => if r.isEmpty || decide (600 < r.length) then none else (digs r 0).bind fun n => some (-Int.ofNat n)
  | c :: r => if 600 < r.length then none else (digs (c :: r) 0).bind fun n => some (Int.ofNat n)

inductive Op where
  | add | sub | mul | fdiv | mod | pow
  deriving DecidableEq
inductive Cp where
  | eq | ne | lt | le | gt | ge | isin | notin | is | isnot
  deriving DecidableEq

def binop (o : Op) (st : Sto) (x y : D) : Option (D × Kd) := match o, view st x, view st y with
  | .add, .int i, .int j => some (.int (i + j), .fz)
  | .add, .str a, .str b => if a.length + b.length ≤ line then some (.str (a ++ b), .fz) else none
  | .add, .tup a, .tup b => if a.length + b.length ≤ line then some (.tup (a ++ b), .fz) else none
  | .add, .lst a, .lst b => if a.length + b.length ≤ line then some (.lst (a ++ b), .fr) else none
  | .sub, .int i, .int j => some (.int (i - j), .fz)
  | .mul, .int i, .int j => if i.natAbs < 2 ^ 64 ∨ j.natAbs < 2 ^ 64 then some (.int (i * j), .fz) else none
  | .mul, .str a, .int j => if a.length * j.toNat ≤ line ∧ 0 ≤ j ∧ j < 2 ^ 20 then some (.str (List.replicate j.toNat a).flatten, .fz) else none
  | .fdiv, .int i, .int j => if 0 < j ∧ j < 1073741824 then some (.int (i / j), .fz) else none
  | .mod, .int i, .int j => if 0 < j then some (.int (i % j), .fz) else none
  | .pow, .int i, .int j => if 0 ≤ j ∧ j ≤ 1000 ∧ i.natAbs < 2 ^ 64 then some (.int (i ^ j.toNat), .fz) else none
  | _, _, _ => none

def isBl (b : Bool) : D → Bool
  | .bl a => a == b
  | _ => false
/-- is None, is True, is False -/
def isSame (x y : D) : Option Bool := match y with
  | .non => some (isNon x)
  | .bl b => some (isBl b x)
  | _ => none

def memOk (xs : List D) (x : D) : Bool := plainD x && plainA xs && decide (dep x ≤ 32) && decide (depA xs ≤ 32)
def isMem (x : D) (xs : List D) : Bool := xs.any fun y => deq y x
def contains (st : Sto) (x y : D) : Option Bool := match view st y with
  | .tup xs => if memOk xs (view st x) then some (isMem (view st x) xs) else none
  | .lst xs => if memOk xs (view st x) then some (isMem (view st x) xs) else none
  | .dct kvs => if isKey x then some (dget kvs x).isSome else none
  | .str t => match x with
    | .str [c] => some (decide (c ∈ t))
    | _ => none
  | _ => none

def cmpop (o : Cp) (st : Sto) (x y : D) : Option Bool := match o with
  | .eq => if cmpOk (view st x) (view st y) then some (deq (view st x) (view st y)) else none
  | .ne => if cmpOk (view st x) (view st y) then some (!deq (view st x) (view st y)) else none
  | .lt => match x, y with
    | .int i, .int j => some (decide (i < j))
    | _, _ => none
  | .le => match x, y with
    | .int i, .int j => some (decide (i ≤ j))
    | _, _ => none
  | .gt => match x, y with
    | .int i, .int j => some (decide (j < i))
    | _, _ => none
  | .ge => match x, y with
    | .int i, .int j => some (decide (j ≤ i))
    | _, _ => none
  | .isin => contains st x y
  | .notin => (contains st x y).map (!·)
  | .is => isSame x y
  | .isnot => (isSame x y).map (!·)

def item (st : Sto) (x i : D) : Option (D × Kd) := match view st x, i with
  | .tup xs, .int k => (atD xs k).map fun d => (d, .fz)
  | .lst xs, .int k => (atD xs k).map fun d => (d, .fz)
  | .str s, .int k => (atD s k).map fun c => (.str [c], .fz)
  | .dct kvs, k => if isKey k then (dget kvs k).map fun d => (d, .fz) else none
  | _, _ => none
def bnd : D → Option (Option Int)
  | .non => some none
  | .int i => if i.natAbs < 2 ^ 62 then some (some i) else none
  | _ => none
def sliced (st : Sto) (x lo hi : D) : Option (D × Kd) := match bnd lo, bnd hi with
  | some a, some b => match view st x with
    | .tup xs => some (.tup (slice xs a b), .fz)
    | .lst xs => some (.lst (slice xs a b), .fr)
    | .scr xs => some (.lst (slice xs a b), .fr)
    | .str s => some (.str (slice s a b), .fz)
    | _ => none
  | _, _ => none

/-- the walked things stand as they stood -/
def still1 (s₀ s : Sto) (d : D) : Bool := match d with
  | .loc n => match s₀[n]?, s[n]? with
    | some a, some b => beqC a b
    | _, _ => false
  | _ => true
def still (s₀ : Sto) (ds : List (D × Kd)) (s : Sto) : Bool := ds.all fun d => still1 s₀ s d.1
/-- what is walked, as it stands now -/
def items (st : Sto) (d : D) : Option (List D) := match view st d with
  | .tup xs => some xs
  | .lst xs => some xs
  | .str s => some (s.map fun c => .str [c])
  | _ => none
def upto (lo : Int) : Nat → List D
  | 0 => []
  | n + 1 => .int lo :: upto (lo + 1) n

def allAlike (xs : List D) : Bool := xs.all fun x => xs.all fun y => W.alike (py x) (py y)
def sortable (xs : List D) : Bool := plainA xs && decide (depA xs ≤ 32) && allAlike xs &&
  ((xs.all isTupC) || (xs.all fun d => !isTup d && !isNon d))
/-- into its place, ahead of those that are as small -/
def insD (x : D) : List D → List D
  | [] => [x]
  | y :: r => if W.dataLt (py y) (py x) then y :: insD x r else x :: y :: r
def sortD : List D → List D
  | [] => []
  | x :: r => insD x (sortD r)
def intsOf : List D → Option (List Int)
  | [] => some []
  | .int i :: r => (intsOf r).map (i :: ·)
  | _ :: _ => none
/-- all may be compared with one another -/
def ordAll (xs : List D) : Bool := plainA xs && decide (depA xs ≤ 32) && allAlike xs && xs.all fun d => !isNon d
def minG (x : D) (xs : List D) : D := xs.foldl (fun a y => if W.dataLt (py y) (py a) then y else a) x
def maxG (x : D) (xs : List D) : D := xs.foldl (fun a y => if W.dataLt (py a) (py y) then y else a) x
def pairOf : D → Option (D × D)
  | .tup [k, v] => if isKey k then some (k, v) else none
  | _ => none
def pairsOf : List D → Option (List (D × D))
  | [] => some []
  | x :: r => (pairOf x).bind fun p => (pairsOf r).map (p :: ·)

inductive Bi where
  | len | abs | int | str | list | tuple | dict | sorted | sum | min | max | min2 | max2
  deriving DecidableEq
/-- a built-in over one thing that is walked -/
def walked (b : Bi) (xs : List D) : Option (D × Kd) := match b with
  | .list => if xs.length ≤ line then some (.lst xs, .fr) else none
  | .tuple => if xs.length ≤ line then some (.tup xs, .fz) else none
  | .sorted => if sortable xs && decide (xs.length ≤ line) then some (.lst (sortD xs), .fr) else none
  | .sum => (intsOf xs).map fun is => (.int is.sum, .fz)
  | .min => match xs with
    | x :: r => if ordAll xs && decide (xs.length ≤ line) then some (minG x r, .fz) else none
    | [] => none
  | .max => match xs with
    | x :: r => if ordAll xs && decide (xs.length ≤ line) then some (maxG x r, .fz) else none
    | [] => none
  | .dict => (pairsOf xs).bind fun ps => if ps.length ≤ line then some (.dct (dputs [] ps), .fr) else none
  | _ => none
/-- .. as it stands -/
def eaten (b : Bi) (d : D) : Option (D × Kd) := match b, d with
  | .dict, .dct kvs => some (.dct kvs, .fr)
  | .list, .dct kvs => some (.lst (kvs.map (·.1)), .fr)
  | .sorted, .dct kvs => if decide (kvs.length < 64) && kvs.all (fun p => isStr p.1) then some (.lst (sortD (kvs.map (·.1))), .fr) else none
  | .list, .tup xs => some (.lst xs, .fr)
  | .tuple, .tup xs => some (.tup xs, .fz)
  | b, .lst xs => walked b xs
  | _, _ => none
def builtin (b : Bi) (st : Sto) (xs : List D) : Option (D × Kd) := match b, xs with
  | .len, [x] => match view st x with
    | .tup xs => some (.int xs.length, .fz)
    | .lst xs => some (.int xs.length, .fz)
    | .str s => some (.int s.length, .fz)
    | .dct kvs => some (.int kvs.length, .fz)
    | _ => none
  | .abs, [.int i] => some (.int (if i < 0 then -i else i), .fz)
  | .int, [.int i] => some (.int i, .fz)
  | .int, [.bl b] => some (.int (if b then 1 else 0), .fz)
  | .int, [.str s] => (intOf s).map fun i => (.int i, .fz)
  | .str, [x] => (strOf x).map fun s => (.str s, .fz)
  | .min2, [.int i, .int j] => some (.int (if j < i then j else i), .fz)
  | .max2, [.int i, .int j] => some (.int (if i < j then j else i), .fz)
  | b, [x] => eaten b (view st x)
  | _, _ => none

inductive Mt where
  | get | startswith | replace | join | count | index | values | keys | split
  deriving DecidableEq
def strsOf : List D → Option (List (List Nat))
  | [] => some []
  | .str s :: r => (strsOf r).map (s :: ·)
  | _ => none
/-- the receiver is of the method's own type -/
def recv (m : Mt) (d : D) : Bool := match m, d with
  | .get, .dct _ => true
  | .startswith, .str _ => true
  | .replace, .str _ => true
  | .join, .str _ => true
  | _, _ => false
def method (m : Mt) (st : Sto) (x : D) (ys : List D) : Option (D × Kd) := match m, view st x, ys with
  | .get, .dct kvs, [k] => if isKey k then some ((dget kvs k).getD .non, .fz) else none
  | .get, .dct kvs, [k, d] => if isKey k && !isMut d then some ((dget kvs k).getD d, .fz) else none
  | .startswith, .str t, [.str s] => some (.bl (isPre s t), .fz)
  | .replace, .str t, [.str s, .str r] => if s.isEmpty || s == r || decide (line < t.length + (t.length + 1) * r.length) then none else some (.str (repl s r t), .fz)
  | .join, .str s, [l] => match view st l with
    | .lst xs => (strsOf xs).bind fun ts => if (ts.map List.length).sum + ts.length * s.length ≤ line then some (.str (cat s ts), .fz) else none
    | _ => none
  | _, _, _ => none

/-- what eats a generator expression -/
inductive Eat where
  | any | all | bi (b : Bi)
  deriving DecidableEq

/-- a target: a name, or names in a row -/
inductive Tg where
  | nm (i : Nat)
  | tp (is : List Nat)
  deriving DecidableEq
def setAll (ρ : Env) : List Nat → List D → Option Env
  | [], [] => some ρ
  | i :: is, d :: ds => if i < ρ.length then setAll (ρ.set i (some (d, false))) is ds else none
  | _, _ => none
/-- a frozen value to a target -/
def bindTg (st : Sto) (ρ : Env) (d : D) : Tg → Option Env
  | .nm i => if i < ρ.length then some (ρ.set i (some (d, false))) else none
  | .tp is => match view st d with
    | .tup ds => setAll ρ is ds
    | .lst ds => setAll ρ is ds
    | _ => none
def tgNames : Tg → List Nat
  | .nm i => [i]
  | .tp is => is
def wipeE (ρ : Env) : List Nat → Env
  | [] => ρ
  | v :: vs => (wipeE ρ vs).set v none

inductive IE where
  | var (i : Nat)
  | con (d : D)
  | glo (g : Nat)
  | tup (es : List IE)
  | lst (es : List IE)
  | box (es : List IE)
  | dct (kvs : List IE)
  | kv (k v : IE)
  | bin (o : Op) (a b : IE)
  | neg (a : IE)
  | not (a : IE)
  | and (es : List IE)
  | or (es : List IE)
  | ifx (c a b : IE)
  | cmp (o : Cp) (a b : IE)
  | chain (o₁ o₂ : Cp) (a b c : IE)
  | sub (a i : IE)
  | slc (a lo hi : IE)
  | call (f : Nat) (es : List IE)
  | bi (b : Bi) (es : List IE)
  | mt (m : Mt) (e : IE) (es : List IE)
  | lc (elt : IE) (tg : Tg) (it : IE) (ifs : List IE)
  | dc (k v : IE) (tg : Tg) (it : IE) (ifs : List IE)
  | gen (e : Eat) (elt : IE) (tg : Tg) (it : IE) (ifs : List IE)
  | rng (es : List IE)
  | enum (e : IE)
  | zip (a b : IE)
  | fstr (es : List IE)
  | told (c : Nat) (nm : List Nat) (e : IE)
  /-- a value as a test; a value that is walked -/
  | tv (e : IE)
  | it (e : IE)

inductive IS where
  | asg (tg : Tg) (e : IE)
  | par (is : List Nat) (es : List IE)
  | setI (o i e : IE)
  | setV (v : Nat) (i e : IE)
  | aug (v : Nat) (o : Op) (e : IE)
  | app (v : Nat) (e : IE)
  | upd (v : Nat) (e : IE)
  | expr (e : IE)
  | ret (e : IE)
  | retV (v : Nat)
  | ret0
  | ite (c : IE) (a b : List IS)
  | for_ (tg : Tg) (it : IE) (body : List IS)
  | whl (n : Nat) (c : IE) (body : List IS)
  | raise (c : Nat)
  | pass | brk | cont
  | frz (vs : List Nat)
  /-- v = [lambda: e, ..]; each is told to raise c -/
  | bads (v : Nat) (c : Nat) (es : List IE)

structure Fn where
  np : Nat
  ns : Nat
  body : List IS
structure Prg where
  fn : Nat → Option Fn
  con : Nat → D

abbrev Call := Nat → List D → Sto → R (D × Kd)
def ofO {α : Type} (x : Option α) (s : Sto) : R α := match x with
  | some a => .ok a s
  | none => .no
@[simp] theorem ofO_some {α : Type} (a : α) (s : Sto) : ofO (some a) s = .ok a s := rfl
@[simp] theorem ofO_none {α : Type} (s : Sto) : ofO (none : Option α) s = .no := rfl
/-- {x} -/
def fmtOf : D → Option (List Nat)
  | .str s => some s
  | .int i => if i.natAbs < 10 ^ 100 then some (intS i) else none
  | _ => none
/-- a value that somebody keeps -/
def keep (x : D × Kd) : Option D := if x.2 = .bo then none else some x.1
@[simp] theorem keep_fz (d : D) : keep (d, .fz) = some d := rfl
@[simp] theorem keep_fr (d : D) : keep (d, .fr) = some d := rfl

/-- the turns of a list comprehension: what has been made, in order -/
def lcTurns (chk : Sto → Bool) (turn : D → Sto → R (Option D)) : List D → List D → Sto → R (List D)
  | [], acc, s => if chk s then .ok acc s else .no
  | x :: r, acc, s => if chk s then (turn x s).bind fun o s' => match o with
    | some d => if acc.length < line then lcTurns chk turn r (acc ++ [d]) s' else .no
    | none => lcTurns chk turn r acc s' else .no
def dcTurns (chk : Sto → Bool) (turn : D → Sto → R (Option (D × D))) : List D → List (D × D) → Sto → R (List (D × D))
  | [], acc, s => if chk s then .ok acc s else .no
  | x :: r, acc, s => if chk s then (turn x s).bind fun o s' => match o with
    | some (k, v) => if isKey k && decide (acc.length < line) then dcTurns chk turn r (dput acc k v) s' else .no
    | none => dcTurns chk turn r acc s' else .no
/-- an exception is not spoken of -/
def noErr {α : Type} (r : R α) : R α := match r with
  | .err _ _ => .no
  | r => r
/-- any, all: until it is known -/
def anyTurns (chk : Sto → Bool) (stop : Bool) (turn : D → Sto → R (Option D)) : List D → Sto → R Bool
  | [], s => if chk s then .ok (!stop) s else .no
  | x :: r, s => if chk s then (noErr (turn x s)).bind fun o s' => match o with
    | some (.bl b) => if b = stop then .ok stop s' else anyTurns chk stop turn r s'
    | some _ => .no
    | none => anyTurns chk stop turn r s' else .no
/-- what a generator gives, all of it -/
def genTurns (chk : Sto → Bool) (turn : D → Sto → R (Option D)) : List D → List D → Sto → R (List D)
  | [], acc, s => if chk s then .ok acc s else .no
  | x :: r, acc, s => if chk s then (noErr (turn x s)).bind fun o s' => match o with
    | some d => if acc.length < line then genTurns chk turn r (acc ++ [d]) s' else .no
    | none => genTurns chk turn r acc s' else .no
def maxI (i : Int) (is : List Int) : Int := is.foldl (fun a b => if a < b then b else a) i
def minI (i : Int) (is : List Int) : Int := is.foldl (fun a b => if b < a then b else a) i
/-- .. eaten by b -/
def eatG (b : Bi) (ds : List D) : Option (D × Kd) := match b with
  | .list => some (.lst ds, .fr)
  | .tuple => some (.tup ds, .fz)
  | .sorted => if sortable ds then some (.lst (sortD ds), .fr) else none
  | .sum => (intsOf ds).map fun is => (.int is.sum, .fz)
  | .min => match intsOf ds with
    | some (i :: is) => some (.int (minI i is), .fz)
    | _ => none
  | .max => match intsOf ds with
    | some (i :: is) => some (.int (maxI i is), .fz)
    | _ => none
  | _ => none

def zipD : List D → List D → List D
  | x :: xs, y :: ys => .tup [x, y] :: zipD xs ys
  | _, _ => []
def enumD : Int → List D → List D
  | _, [] => []
  | i, x :: xs => .tup [.int i, x] :: enumD (i + 1) xs

section
variable (p : Prg) (call : Call)
mutual
def ev : IE → Env → Sto → R (D × Kd)
  | .var i, ρ, s => match ρ[i]? with
    | some (some (d, own)) => .ok (d, if own then .bo else .fz) s
    | _ => .no
  | .con d, _, s => .ok (d, .fz) s
  | .glo g, _, s => .ok (p.con g, .fz) s
  | .tup es, ρ, s => (evs es ρ s).bind fun ds s => .ok (.tup ds, .fz) s
  | .lst es, ρ, s => (evs es ρ s).bind fun ds s => .ok (.lst ds, .fr) s
  | .box es, ρ, s => (evs es ρ s).bind fun ds s => .ok (.loc s.length, .fz) (s ++ [.lst ds])
  | .dct kvs, ρ, s => (evkv kvs ρ s).bind fun kvs s => .ok (.dct (dputs [] kvs), .fr) s
  | .bin o a b, ρ, s => (ev a ρ s).bind fun x s => (ev b ρ s).bind fun y s => ofO (binop o s x.1 y.1) s
  | .neg a, ρ, s => (ev a ρ s).bind fun x s => match x.1 with
    | .int i => .ok (.int (-i), .fz) s
    | _ => .no
  | .not a, ρ, s => (evT a ρ s).bind fun b s => .ok (.bl (!b), .fz) s
  | .and es, ρ, s => evAnd es ρ s
  | .or es, ρ, s => evOr es ρ s
  | .ifx c a b, ρ, s => (evT c ρ s).bind fun t s => if t then ev a ρ s else ev b ρ s
  | .cmp o a b, ρ, s => (ev a ρ s).bind fun x s => (ev b ρ s).bind fun y s => (ofO (cmpop o s x.1 y.1) s).bind fun b s => .ok (.bl b, .fz) s
  | .chain o₁ o₂ a b c, ρ, s => (ev a ρ s).bind fun x s => (ev b ρ s).bind fun y s => (ofO (cmpop o₁ s x.1 y.1) s).bind fun t s =>
      if t then (ev c ρ s).bind fun z s => (ofO (cmpop o₂ s y.1 z.1) s).bind fun b s => .ok (.bl b, .fz) s else .ok (.bl false, .fz) s
  | .sub a i, ρ, s => (ev a ρ s).bind fun x s => (ev i ρ s).bind fun y s => ofO (item s x.1 y.1) s
  | .slc a lo hi, ρ, s => (ev a ρ s).bind fun x s => (ev lo ρ s).bind fun y s => (ev hi ρ s).bind fun z s => ofO (sliced s x.1 y.1 z.1) s
  | .call f es, ρ, s => (evs es ρ s).bind fun ds s => call f ds s
  | .bi b es, ρ, s => (evo es ρ s).bind fun ds s => ofO (builtin b s ds) s
  | .mt m e es, ρ, s => (ev e ρ s).bind fun x s => if recv m (view s x.1) then (evo es ρ s).bind fun ds s => ofO (method m s x.1 ds) s else .no
  | .lc elt tg it ifs, ρ, s => (evI it ρ s).bind fun xs s =>
      (lcTurns (still s xs.2) (fun x s => (ofO (bindTg s (wipeE ρ (tgNames tg)) x tg) s).bind fun ρ' s => (evTs ifs ρ' s).bind fun b s =>
        if b then (ev elt ρ' s).bind fun y s => (ofO (keep y) s).bind fun d s => .ok (some d) s else .ok none s) xs.1 [] s).bind fun ds s => .ok (.lst ds, .fr) s
  | .dc k v tg it ifs, ρ, s => (evI it ρ s).bind fun xs s =>
      (dcTurns (still s xs.2) (fun x s => (ofO (bindTg s (wipeE ρ (tgNames tg)) x tg) s).bind fun ρ' s => (evTs ifs ρ' s).bind fun b s =>
        if b then (ev k ρ' s).bind fun y s => (ev v ρ' s).bind fun z s => (ofO (keep z) s).bind fun d s => .ok (some (y.1, d)) s else .ok none s) xs.1 [] s).bind fun ds s => .ok (.dct ds, .fr) s
  | .gen e elt tg it ifs, ρ, s => (evI it ρ s).bind fun xs s =>
      match e with
      | .any => (anyTurns (still s xs.2) true (fun x s => (ofO (bindTg s (wipeE ρ (tgNames tg)) x tg) s).bind fun ρ' s => (evTs ifs ρ' s).bind fun b s =>
          if b then (ev elt ρ' s).bind fun y s => (ofO (keep y) s).bind fun d s => .ok (some d) s else .ok none s) xs.1 s).bind fun b s => .ok (.bl b, .fz) s
      | .all => (anyTurns (still s xs.2) false (fun x s => (ofO (bindTg s (wipeE ρ (tgNames tg)) x tg) s).bind fun ρ' s => (evTs ifs ρ' s).bind fun b s =>
          if b then (ev elt ρ' s).bind fun y s => (ofO (keep y) s).bind fun d s => .ok (some d) s else .ok none s) xs.1 s).bind fun b s => .ok (.bl b, .fz) s
      | .bi b => (genTurns (still s xs.2) (fun x s => (ofO (bindTg s (wipeE ρ (tgNames tg)) x tg) s).bind fun ρ' s => (evTs ifs ρ' s).bind fun b s =>
          if b then (ev elt ρ' s).bind fun y s => (ofO (keep y) s).bind fun d s => .ok (some d) s else .ok none s) xs.1 [] s).bind fun ds s => ofO (eatG b ds) s
  | .fstr es, ρ, s => (evF es [] ρ s).bind fun t s => .ok (.str t, .fz) s
  | .told c nm e, ρ, s => match ev e ρ s with
    | .ok x s => .ok x s
    | .err c' s => if c' = c then .ok (.str nm, .fz) s else .no
    | .no => .no
  | .rng _, _, _ => .no
  | .enum _, _, _ => .no
  | .zip _ _, _, _ => .no
  | .tv _, _, _ => .no
  | .kv _ _, _, _ => .no
  | .it _, _, _ => .no
/-- each raises c -/
def evBad : List IE → Nat → Env → Sto → R Unit
  | [], _, _, s => .ok () s
  | e :: es, c, ρ, s => match ev e ρ s with
    | .err c' s => if c' = c then evBad es c ρ s else .no
    | _ => .no
/-- arguments that are kept -/
def evs : List IE → Env → Sto → R (List D)
  | [], _, s => .ok [] s
  | e :: es, ρ, s => (ev e ρ s).bind fun x s => (ofO (keep x) s).bind fun d s => (evs es ρ s).bind fun ds s => .ok (d :: ds) s
/-- arguments that are looked at -/
def evo : List IE → Env → Sto → R (List D)
  | [], _, s => .ok [] s
  | e :: es, ρ, s => (ev e ρ s).bind fun x s => (evo es ρ s).bind fun ds s => .ok (x.1 :: ds) s
def evkv : List IE → Env → Sto → R (List (D × D))
  | [], _, s => .ok [] s
  | .kv k v :: es, ρ, s => (ev k ρ s).bind fun x s => (ev v ρ s).bind fun y s => (ofO (keep y) s).bind fun d s => if isKey x.1 then (evkv es ρ s).bind fun kvs s => .ok ((x.1, d) :: kvs) s else .no
  | _ :: _, _, _ => .no
def evAnd : List IE → Env → Sto → R (D × Kd)
  | [], _, _ => .no
  | e :: es, ρ, s => match es with
    | [] => ev e ρ s
    | _ :: _ => (ev e ρ s).bind fun x s => (ofO (truth s x.1) s).bind fun b s => if b then evAnd es ρ s else .ok x s
def evOr : List IE → Env → Sto → R (D × Kd)
  | [], _, _ => .no
  | e :: es, ρ, s => match es with
    | [] => ev e ρ s
    | _ :: _ => (ev e ρ s).bind fun x s => (ofO (truth s x.1) s).bind fun b s => if b then .ok x s else evOr es ρ s
/-- the texts of an f-string, one behind the other -/
def evF : List IE → List Nat → Env → Sto → R (List Nat)
  | [], acc, _, s => .ok acc s
  | e :: es, acc, ρ, s => (ev e ρ s).bind fun x s => (ofO (fmtOf x.1) s).bind fun t s => if acc.length + t.length ≤ line then evF es (acc ++ t) ρ s else .no
/-- a test -/
def evT : IE → Env → Sto → R Bool
  | .and es, ρ, s => evTAnd es ρ s
  | .or es, ρ, s => evTOr es ρ s
  | .not a, ρ, s => (evT a ρ s).bind fun b s => .ok (!b) s
  | .tv e, ρ, s => (ev e ρ s).bind fun x s => ofO (truth s x.1) s
  | _, _, _ => .no
def evTAnd : List IE → Env → Sto → R Bool
  | [], _, s => .ok true s
  | e :: es, ρ, s => (evT e ρ s).bind fun b s => if b then evTAnd es ρ s else .ok false s
def evTOr : List IE → Env → Sto → R Bool
  | [], _, s => .ok false s
  | e :: es, ρ, s => (evT e ρ s).bind fun b s => if b then .ok true s else evTOr es ρ s
/-- a clause's tests -/
def evTs : List IE → Env → Sto → R Bool
  | [], _, s => .ok true s
  | e :: es, ρ, s => (evT e ρ s).bind fun b s => if b then evTs es ρ s else .ok false s
/-- what a for walks -/
def evI : IE → Env → Sto → R (List D × List (D × Kd))
  | .rng es, ρ, s => (evo es ρ s).bind fun ds s => match ds with
    | [.int n] => if n.natAbs < 2 ^ 60 then .ok (upto 0 n.toNat, []) s else .no
    | [.int a, .int b] => if a.natAbs < 2 ^ 60 ∧ b.natAbs < 2 ^ 60 then .ok (upto a (b - a).toNat, []) s else .no
    | _ => .no
  | .enum e, ρ, s => (ev e ρ s).bind fun x s => (ofO (items s x.1) s).bind fun xs s => .ok (enumD 0 xs, [x]) s
  | .zip a b, ρ, s => (ev a ρ s).bind fun x s => (ev b ρ s).bind fun y s => (ofO (items s x.1) s).bind fun xs s => (ofO (items s y.1) s).bind fun ys s => .ok (zipD xs ys, [x, y]) s
  | .it e, ρ, s => (ev e ρ s).bind fun x s => (ofO (items s x.1) s).bind fun xs s => .ok (xs, [x]) s
  | _, _, _ => .no
end

/-- how a statement ends -/
inductive Fl where
  | nx | bk | ct | rt (d : D) (k : Kd)
def setOwn (ρ : Env) (i : Nat) (x : D × Kd) : Option Env :=
  if i < ρ.length then (keep x).map fun d => ρ.set i (some (d, isMut d && decide (x.2 = .fr))) else none
def setPar (ρ : Env) : List Nat → List (D × Kd) → Option Env
  | [], [] => some ρ
  | i :: is, x :: xs => (setOwn ρ i x).bind fun ρ => setPar ρ is xs
  | _, _ => none
def frzE (ρ : Env) : List Nat → Env
  | [] => ρ
  | i :: is => match (frzE ρ is)[i]? with
    | some (some (d, _)) => (frzE ρ is).set i (some (d, false))
    | _ => frzE ρ is
/-- x[i] = d, of a list, of a dict -/
def putL (xs : List D) (i d : D) : Option (List D) := match i with
  | .int k => (ix xs.length k).map fun n => xs.set n d
  | _ => none
def putK (kvs : List (D × D)) (k d : D) : Option (List (D × D)) := if isKey k && decide (kvs.length < line) then some (dput kvs k d) else none

def forTurns (chk : Sto → Bool) (bind : D → Env → Sto → Option Env) (body : Env → Sto → R (Fl × Env)) : List D → Env → Sto → R (Fl × Env)
  | [], ρ, s => if chk s then .ok (.nx, ρ) s else .no
  | x :: r, ρ, s => if chk s then (ofO (bind x ρ s) s).bind fun ρ s => (body ρ s).bind fun f s => match f with
    | (.nx, ρ) => forTurns chk bind body r ρ s
    | (.ct, ρ) => forTurns chk bind body r ρ s
    | (.bk, ρ) => .ok (.nx, ρ) s
    | (.rt d k, ρ) => .ok (.rt d k, ρ) s else .no
def whlTurns (test : Env → Sto → R Bool) (body : Env → Sto → R (Fl × Env)) : Nat → Env → Sto → R (Fl × Env)
  | 0, _, _ => .no
  | n + 1, ρ, s => (test ρ s).bind fun b s => if b then (body ρ s).bind fun f s => match f with
    | (.nx, ρ) => whlTurns test body n ρ s
    | (.ct, ρ) => whlTurns test body n ρ s
    | (.bk, ρ) => .ok (.nx, ρ) s
    | (.rt d k, ρ) => .ok (.rt d k, ρ) s else .ok (.nx, ρ) s

section
variable (p : Prg) (call : Call)
/-- values with how they stand -/
def evk : List IE → Env → Sto → R (List (D × Kd))
  | [], _, s => .ok [] s
  | e :: es, ρ, s => (ev p call e ρ s).bind fun x s => (evk es ρ s).bind fun xs s => .ok (x :: xs) s
mutual
def exec : IS → Env → Sto → R (Fl × Env)
  | .asg tg e, ρ, s => (ev p call e ρ s).bind fun x s => match tg with
    | .nm i => (ofO (setOwn ρ i x) s).bind fun ρ s => .ok (.nx, ρ) s
    | .tp is => (ofO (bindTg s ρ x.1 (.tp is)) s).bind fun ρ s => .ok (.nx, ρ) s
  | .par is es, ρ, s => (evk p call es ρ s).bind fun xs s => (ofO (setPar ρ is xs) s).bind fun ρ s => .ok (.nx, ρ) s
  | .setI o i e, ρ, s => (ev p call e ρ s).bind fun y s => (ofO (keep y) s).bind fun d s => (ev p call o ρ s).bind fun x s => (ev p call i ρ s).bind fun k s => match x.1 with
    | .loc n => match s[n]? with
      | some (.lst xs) => (ofO (putL xs k.1 d) s).bind fun xs s => .ok (.nx, ρ) (s.set n (.lst xs))
      | some (.dct kvs) => (ofO (putK kvs k.1 d) s).bind fun kvs s => .ok (.nx, ρ) (s.set n (.dct kvs))
      | _ => .no
    | _ => .no
  | .setV v i e, ρ, s => (ev p call e ρ s).bind fun y s => (ofO (keep y) s).bind fun d s => match ρ[v]? with
    | some (some (.lst xs, true)) => (ev p call i ρ s).bind fun k s => (ofO (putL xs k.1 d) s).bind fun xs s => .ok (.nx, ρ.set v (some (.lst xs, true))) s
    | some (some (.dct kvs, true)) => (ev p call i ρ s).bind fun k s => (ofO (putK kvs k.1 d) s).bind fun kvs s => .ok (.nx, ρ.set v (some (.dct kvs, true))) s
    | _ => .no
  | .aug v o e, ρ, s => match ρ[v]? with
    | some (some (.lst xs, true)) => (ev p call e ρ s).bind fun y s => match o, view s y.1 with
      | .add, .lst ys => if y.2 ≠ .bo ∧ xs.length + ys.length ≤ line then .ok (.nx, ρ.set v (some (.lst (xs ++ ys), true))) s else .no
      | _, _ => .no
    | some (some (d, false)) => (ev p call e ρ s).bind fun y s => match o, d, y.1 with
      | .add, .int i, .int j => .ok (.nx, ρ.set v (some (.int (i + j), false))) s
      | .sub, .int i, .int j => .ok (.nx, ρ.set v (some (.int (i - j), false))) s
      | .add, .str a, .str b => if a.length + b.length ≤ line then .ok (.nx, ρ.set v (some (.str (a ++ b), false))) s else .no
      | _, _, _ => .no
    | _ => .no
  | .app v e, ρ, s => match ρ[v]? with
    | some (some (.lst xs, true)) => (ev p call e ρ s).bind fun y s => (ofO (keep y) s).bind fun d s => if xs.length < line then .ok (.nx, ρ.set v (some (.lst (xs ++ [d]), true))) s else .no
    | _ => .no
  | .upd v e, ρ, s => match ρ[v]? with
    | some (some (.dct kvs, true)) => (ev p call e ρ s).bind fun y s => match y.1 with
      | .dct more => if y.2 = .fr ∧ kvs.length + more.length ≤ line then .ok (.nx, ρ.set v (some (.dct (dputs kvs more), true))) s else .no
      | _ => .no
    | _ => .no
  | .expr e, ρ, s => (ev p call e ρ s).bind fun _ s => .ok (.nx, ρ) s
  | .ret e, ρ, s => (ev p call e ρ s).bind fun x s => if x.2 = .bo then .no else .ok (.rt x.1 x.2, ρ) s
  | .retV v, ρ, s => match ρ[v]? with
    | some (some (d, own)) => .ok (.rt d (if own then .fr else .fz), ρ) s
    | _ => .no
  | .ret0, ρ, s => .ok (.rt .non .fz, ρ) s
  | .ite c a b, ρ, s => (evT p call c ρ s).bind fun t s => if t then execs a ρ s else execs b ρ s
  | .for_ tg it body, ρ, s => (evI p call it ρ s).bind fun xs s => if xs.2.all (fun x => decide (x.2 ≠ .bo)) then forTurns (still s xs.2) (fun x ρ s => bindTg s ρ x tg) (fun ρ s => execs body ρ s) xs.1 ρ s else .no
  | .whl n c body, ρ, s => whlTurns (fun ρ s => evT p call c ρ s) (fun ρ s => execs body ρ s) n ρ s
  | .raise c, _, s => .err c s
  | .pass, ρ, s => .ok (.nx, ρ) s
  | .brk, ρ, s => .ok (.bk, ρ) s
  | .cont, ρ, s => .ok (.ct, ρ) s
  | .frz vs, ρ, s => .ok (.nx, frzE ρ vs) s
  | .bads v c es, ρ, s => if v < ρ.length then (evBad p call es c (ρ.set v none) s).bind fun _ s => .ok (.nx, ρ.set v none) s else .no
def execs : List IS → Env → Sto → R (Fl × Env)
  | [], ρ, s => .ok (.nx, ρ) s
  | st :: r, ρ, s => (exec st ρ s).bind fun f s => match f with
    | (.nx, ρ) => execs r ρ s
    | f => .ok f s
end
end
def body0 (p : Prg) (call : Call) (f : Fn) (ds : List D) (s : Sto) : R (D × Kd) :=
  if ds.length = f.np then (execs p call f.body (ds.map (fun d => some (d, false)) ++ List.replicate (f.ns - f.np) none) s).bind fun r s => match r.1 with
    | .rt d k => .ok (d, k) s
    | .nx => .ok (.non, .fz) s
    | _ => .no
  else .no
/-- a call, at most n calls one in another -/
def run (p : Prg) : Nat → Call
  | 0 => fun _ _ _ => .no
  | n + 1 => fun f ds s => match p.fn f with
    | some fd => body0 p (run p n) fd ds s
    | none => .no
end
end RS
end S1
section S2
set_option autoImplicit false
set_option linter.all false
set_option maxRecDepth 100000
set_option Elab.async false
/-! A2: what a value of the model stands for, in an abstract heap; how this lasts. -/
namespace RS
open PySem L2

def keyOf : D → Option Key
  | .int i => some (.inl i)
  | .str s => some (.inr ⟨s.toArray⟩)
  | _ => none
/-- the abstract heap, what is never written again, where the store's cells stand -/
structure WS where
  H : Hp
  Fz : Addr → Prop
  μ : List Addr

/-- a list that nobody writes: the script's, one of the written part -/
def StL (K : PySem.W.Frag) (H : Hp) (a : Addr) (xs : List V) : Prop :=
  (∃ o, H a = some (.frz o (.lst xs))) ∨
    ∃ (o : Obj) (its : Array Value) (n : Nat), K.lookup a = some o ∧ o.cls = .type "list" ∧ o.dict = none ∧ o.data = .seq its n ∧ its.size ≤ sizeLine ∧ Vals xs its.toList

section
variable (K : PySem.W.Frag)
mutual
def Rep (E : WS) : D → V → Prop
  | .non, v => v = .non
  | .bl b, v => v = .bl b
  | .int i, v => v = .int i
  | .str s, v => v = .str ⟨s.toArray⟩ ∧ s.length ≤ line
  | .tup xs, v => ∃ a vs, v = .ref a ∧ SqT K E.H a vs ∧ RepA E xs vs
  | .lst xs, v => ∃ a vs, v = .ref a ∧ E.Fz a ∧ E.H a = some (.lst vs) ∧ RepA E xs vs
  | .scr xs, v => ∃ a vs, v = .ref a ∧ StL K E.H a vs ∧ RepA E xs vs
  | .dct kvs, v => ∃ a ks, v = .ref a ∧ E.Fz a ∧ E.H a = some (.dK ks) ∧ RepK E kvs ks
  | .loc n, v => ∃ a, v = .ref a ∧ E.μ[n]? = some a
  | .lam _, _ => False
def RepA (E : WS) : List D → List V → Prop
  | [], vs => vs = []
  | x :: xs, vs => ∃ v r, vs = v :: r ∧ Rep E x v ∧ RepA E xs r
def RepK (E : WS) : List (D × D) → List (Key × V) → Prop
  | [], ks => ks = []
  | (a, d) :: r, ks => ∃ k v q, ks = (k, v) :: q ∧ (keyOf a = some k ∧ Rep E a (kV k)) ∧ Rep E d v ∧ RepK E r q
end
/-- what a mutable thing holds now -/
def RepC (E : WS) : D → V → Prop
  | .lst xs, v => ∃ a vs, v = .ref a ∧ E.H a = some (.lst vs) ∧ RepA K E xs vs
  | .dct kvs, v => ∃ a ks, v = .ref a ∧ E.H a = some (.dK ks) ∧ RepK K E kvs ks
  | d, v => Rep K E d v
/-- a list, a dict that may be written -/
def Own (E : WS) : D → Addr → Prop
  | .lst xs, a => ∃ vs, E.H a = some (.lst vs) ∧ RepA K E xs vs
  | .dct kvs, a => ∃ ks, E.H a = some (.dK ks) ∧ RepK K E kvs ks
  | _, _ => False
/-- a fresh thing since E₀ -/
structure Fresh (E₀ E : WS) (d : D) (a : Addr) : Prop where
  own : Own K E d a
  nfz : ¬ E.Fz a
  nmu : a ∉ E.μ
  new : E₀.H a = none
/-- a result by how it stands -/
def RepR (E₀ E : WS) (d : D) (k : Kd) (v : V) : Prop := match k with
  | .fz => Rep K E d v
  | .fr => if isMut d then ∃ a, v = .ref a ∧ Fresh K E₀ E d a else Rep K E d v
  | .bo => ∃ a, v = .ref a ∧ Own K E d a ∧ a ∉ E.μ

/-- what is frozen lasts -/
structure Last (E E' : WS) : Prop where
  tup : ∀ a xs, E.H a = some (.tup xs) → E'.H a = some (.tup xs)
  frz : ∀ a o u, E.H a = some (.frz o u) → E'.H a = some (.frz o u)
  fz : ∀ a, E.Fz a → E'.Fz a ∧ ∀ o, E.H a = some o → E'.H a = some o
  mu : ∀ (n : Nat) a, E.μ[n]? = some a → E'.μ[n]? = some a
variable {K}
theorem Last.refl (E : WS) : Last E E := ⟨fun _ _ h => h, fun _ _ _ h => h, fun _ h => ⟨h, fun _ e => e⟩, fun _ _ h => h⟩
theorem Last.trans {E E' E'' : WS} (a : Last E E') (b : Last E' E'') : Last E E'' :=
  ⟨fun x xs h => b.tup x xs (a.tup x xs h), fun x o u h => b.frz x o u (a.frz x o u h), fun x h => ⟨(b.fz x (a.fz x h).1).1, fun o e => (b.fz x (a.fz x h).1).2 o ((a.fz x h).2 o e)⟩, fun n x h => b.mu n x (a.mu n x h)⟩
theorem Last.sqT {E E' : WS} (l : Last E E') {a : Addr} {xs : List V} (h : SqT K E.H a xs) : SqT K E'.H a xs := by
  rcases h with (h | ⟨o, h⟩) | h
  · exact .inl (.inl (l.tup a xs h))
  · exact .inl (.inr ⟨o, l.frz a o _ h⟩)
  · exact .inr h
theorem Last.stL {E E' : WS} (l : Last E E') {a : Addr} {xs : List V} (h : StL K E.H a xs) : StL K E'.H a xs := by
  rcases h with ⟨o, h⟩ | h
  · exact .inl ⟨o, l.frz a o _ h⟩
  · exact .inr h
theorem StL.sqL {H : Hp} {a : Addr} {xs : List V} (h : StL K H a xs) : SqL K H a xs := by
  rcases h with ⟨o, h⟩ | h
  · exact .inl (.inr ⟨o, h⟩)
  · exact .inr h
theorem sqL_cases {H : Hp} {a : Addr} {xs : List V} (h : SqL K H a xs) : H a = some (.lst xs) ∨ StL K H a xs := by
  rcases h with (h | ⟨o, h⟩) | h
  · exact .inl h
  · exact .inr (.inl ⟨o, h⟩)
  · exact .inr (.inr h)

mutual
theorem Rep.last {E E' : WS} (l : Last E E') : ∀ {d : D} {v : V}, Rep K E d v → Rep K E' d v
  | .non, _, h => h
  | .bl _, _, h => h
  | .int _, _, h => h
  | .str _, _, h => h
  | .tup xs, v, h => by
    rw [Rep] at h ⊢
    obtain ⟨a, vs, e, s, r⟩ := h
    exact ⟨a, vs, e, l.sqT s, RepA.last l r⟩
  | .lst xs, v, h => by
    rw [Rep] at h ⊢
    obtain ⟨a, vs, e, f, s, r⟩ := h
    exact ⟨a, vs, e, (l.fz a f).1, (l.fz a f).2 _ s, RepA.last l r⟩
  | .scr xs, v, h => by
    rw [Rep] at h ⊢
    obtain ⟨a, vs, e, s, r⟩ := h
    exact ⟨a, vs, e, l.stL s, RepA.last l r⟩
  | .dct kvs, v, h => by
    rw [Rep] at h ⊢
    obtain ⟨a, ks, e, f, s, r⟩ := h
    exact ⟨a, ks, e, (l.fz a f).1, (l.fz a f).2 _ s, RepK.last l r⟩
  | .loc n, v, h => by
    rw [Rep] at h ⊢
    obtain ⟨a, e, m⟩ := h
    exact ⟨a, e, l.mu n a m⟩
  | .lam _, _, h => by rw [Rep] at h; exact h.elim
theorem RepA.last {E E' : WS} (l : Last E E') : ∀ {xs : List D} {vs : List V}, RepA K E xs vs → RepA K E' xs vs
  | [], _, h => h
  | x :: xs, vs, h => by
    rw [RepA] at h ⊢
    obtain ⟨v, r, e, h1, h2⟩ := h
    exact ⟨v, r, e, Rep.last l h1, RepA.last l h2⟩
theorem RepK.last {E E' : WS} (l : Last E E') : ∀ {kvs : List (D × D)} {ks : List (Key × V)}, RepK K E kvs ks → RepK K E' kvs ks
  | [], _, h => h
  | (a, d) :: r, ks, h => by
    rw [RepK] at h ⊢
    obtain ⟨k, v, q, e, ⟨h0, h3⟩, h1, h2⟩ := h
    exact ⟨k, v, q, e, ⟨h0, Rep.last l h3⟩, Rep.last l h1, RepK.last l h2⟩
end

/-- not a table of code -/
def NT (o : HO) : Prop := ∀ ps, o ≠ .tbl ps
/-- an expression's step: all that is no cell is kept -/
structure Ext (E E' : WS) : Prop where
  pres : ∀ a o, E.H a = some o → a ∉ E.μ → NT o → E'.H a = some o
  up : ∀ a, E'.H a = none → E.H a = none
  tup : ∀ a xs, E.H a = some (.tup xs) → E'.H a = some (.tup xs)
  frz : ∀ a o u, E.H a = some (.frz o u) → E'.H a = some (.frz o u)
  fz : ∀ a, E.Fz a → E'.Fz a ∧ ∀ o, E.H a = some o → E'.H a = some o
  fzn : ∀ a, E'.Fz a → E.Fz a ∨ E.H a = none
  mu : ∃ m, E'.μ = E.μ ++ m ∧ ∀ a ∈ m, E.H a = none
theorem Ext.refl (E : WS) : Ext E E := ⟨fun _ _ h _ _ => h, fun _ h => h, fun _ _ h => h, fun _ _ _ h => h, fun _ h => ⟨h, fun _ e => e⟩, fun _ h => .inl h, [], by simp, by simp⟩
theorem Ext.last {E E' : WS} (x : Ext E E') : Last E E' := ⟨x.tup, x.frz, x.fz, fun n a h => by
  obtain ⟨m, e, _⟩ := x.mu
  rw [e, List.getElem?_append_left (List.getElem?_eq_some_iff.mp h).1]
  exact h⟩
theorem Ext.mem {E E' : WS} (x : Ext E E') {a : Addr} (h : a ∈ E'.μ) : a ∈ E.μ ∨ E.H a = none := by
  obtain ⟨m, e, hm⟩ := x.mu
  rw [e] at h
  exact (List.mem_append.mp h).imp id (hm a)
theorem Ext.there {E E' : WS} (x : Ext E E') {a : Addr} {o : HO} (h : E.H a = some o) (n : a ∉ E.μ) : a ∉ E'.μ := fun z => by
  rcases x.mem z with z | z
  · exact n z
  · rw [h] at z; cases z
theorem Ext.trans {E E' E'' : WS} (x : Ext E E') (y : Ext E' E'') : Ext E E'' where
  pres := fun a o h n t => y.pres a o (x.pres a o h n t) (x.there h n) t
  up := fun a h => x.up a (y.up a h)
  tup := fun a xs h => y.tup a xs (x.tup a xs h)
  frz := fun a o u h => y.frz a o u (x.frz a o u h)
  fz := fun a h => ⟨(y.fz a (x.fz a h).1).1, fun o e => (y.fz a (x.fz a h).1).2 o ((x.fz a h).2 o e)⟩
  fzn := fun a h => by
    rcases y.fzn a h with h | h
    · exact x.fzn a h
    · exact .inr (x.up a h)
  mu := by
    obtain ⟨m, e, hm⟩ := x.mu
    obtain ⟨m', e', hm'⟩ := y.mu
    refine ⟨m ++ m', by rw [e', e, List.append_assoc], fun a h => ?_⟩
    rcases List.mem_append.mp h with h | h
    · exact hm a h
    · exact x.up a (hm' a h)

/-! ### the store, a frame -/
theorem nt_lst {xs : List V} : NT (.lst xs) := fun _ e => by cases e
theorem nt_dK {xs : List (Key × V)} : NT (.dK xs) := fun _ e => by cases e
theorem nt_tup {xs : List V} : NT (.tup xs) := fun _ e => by cases e
/-- what is known of the text: its classes, its code tables -/
structure Inf where
  ca : Nat → Addr
  TG : List Addr
  TL : List (Addr × Str)
def CellR (K : PySem.W.Frag) (E : WS) : Cell → Addr → Prop
  | .lst xs, a => ∃ vs, E.H a = some (.lst vs) ∧ RepA K E xs vs
  | .dct kvs, a => ∃ ks, E.H a = some (.dK ks) ∧ RepK K E kvs ks
  | .obj _ _, _ => False
structure WSOk (K : PySem.W.Frag) (J : Inf) (E : WS) (s : Sto) : Prop where
  len : E.μ.length = s.length
  nd : E.μ.Nodup
  cell : ∀ (n : Nat) c a, s[n]? = some c → E.μ[n]? = some a → CellR K E c a
  nfz : ∀ a ∈ E.μ, ¬ E.Fz a
  fzH : ∀ a, E.Fz a → ∃ o, E.H a = some o ∧ NT o
  tg : ∀ P ∈ J.TG, GxR.TabG E.H P
  tl : LamX.Tabs J.TL E.H
theorem CellR.there {K : PySem.W.Frag} {E : WS} {c : Cell} {a : Addr} (h : CellR K E c a) : (∃ vs, E.H a = some (.lst vs)) ∨ ∃ ks, E.H a = some (.dK ks) := by
  cases c with
  | lst xs => obtain ⟨vs, h, _⟩ := h; exact .inl ⟨vs, h⟩
  | dct kvs => obtain ⟨vs, h, _⟩ := h; exact .inr ⟨vs, h⟩
  | obj _ _ => exact h.elim
theorem WSOk.at {K : PySem.W.Frag} {J : Inf} {E : WS} {s : Sto} (w : WSOk K J E s) {a : Addr} (h : a ∈ E.μ) : ∃ (n : Nat) (c : Cell), s[n]? = some c ∧ E.μ[n]? = some a ∧ CellR K E c a := by
  obtain ⟨n, hn, e⟩ := List.getElem_of_mem h
  have hn' : n < s.length := by rw [← w.len]; exact hn
  have e1 : E.μ[n]? = some a := by rw [List.getElem?_eq_getElem hn, e]
  exact ⟨n, s[n], List.getElem?_eq_getElem hn', e1, w.cell n _ a (List.getElem?_eq_getElem hn') e1⟩
theorem WSOk.muH {K : PySem.W.Frag} {J : Inf} {E : WS} {s : Sto} (w : WSOk K J E s) {a : Addr} (h : a ∈ E.μ) : (∃ vs, E.H a = some (.lst vs)) ∨ ∃ ks, E.H a = some (.dK ks) := by
  obtain ⟨n, c, _, _, r⟩ := w.at h
  exact r.there
theorem WSOk.muN {K : PySem.W.Frag} {J : Inf} {E : WS} {s : Sto} (w : WSOk K J E s) {a : Addr} {o : HO} (h : E.H a = some o) (h1 : ∀ vs, o ≠ .lst vs) (h2 : ∀ ks, o ≠ .dK ks) : a ∉ E.μ := fun z => by
  rcases w.muH z with ⟨vs, e⟩ | ⟨ks, e⟩
  · rw [h] at e; exact h1 _ (Option.some.inj e)
  · rw [h] at e; exact h2 _ (Option.some.inj e)

structure FrR (K : PySem.W.Frag) (E₀ E : WS) (σ : L2.St) (ρ : Env) : Prop where
  len : ρ.length = σ.length
  slot : ∀ (i : Nat) d own, ρ[i]? = some (some (d, own)) → ∃ v, σ[i]? = some (some v) ∧ (own = false → Rep K E d v) ∧ (own = true → ∃ a, v = .ref a ∧ Fresh K E₀ E d a)
  apart : ∀ (i j : Nat) d d' a, i ≠ j → ρ[i]? = some (some (d, true)) → ρ[j]? = some (some (d', true)) → σ[i]? = some (some (.ref a)) → σ[j]? = some (some (.ref a)) → False
  ext : Ext E₀ E

section
variable {K : PySem.W.Frag}
theorem Own.ext {E E' : WS} (x : Ext E E') {d : D} {a : Addr} (n : a ∉ E.μ) (h : Own K E d a) : Own K E' d a := by
  cases d with
  | lst xs => obtain ⟨vs, h, r⟩ := h; exact ⟨vs, x.pres a _ h n nt_lst, RepA.last x.last r⟩
  | dct kvs => obtain ⟨vs, h, r⟩ := h; exact ⟨vs, x.pres a _ h n nt_dK, RepK.last x.last r⟩
  | _ => exact h.elim
theorem Own.there {E : WS} {d : D} {a : Addr} (h : Own K E d a) : ∃ o, E.H a = some o := by
  cases d with
  | lst xs => obtain ⟨vs, h, r⟩ := h; exact ⟨_, h⟩
  | dct kvs => obtain ⟨vs, h, r⟩ := h; exact ⟨_, h⟩
  | _ => exact h.elim
theorem Fresh.ext {E₀ E E' : WS} (x : Ext E E') {d : D} {a : Addr} (h : Fresh K E₀ E d a) : Fresh K E₀ E' d a := by
  obtain ⟨h1, h2, h3, h4⟩ := h
  obtain ⟨o, ho⟩ := h1.there
  refine ⟨h1.ext x h3, fun z => ?_, x.there ho h3, h4⟩
  rcases x.fzn a z with z | z
  · exact h2 z
  · rw [ho] at z; cases z
theorem Fresh.from {E E₁ E' : WS} (x : Ext E E₁) {d : D} {a : Addr} (h : Fresh K E₁ E' d a) : Fresh K E E' d a := ⟨h.own, h.nfz, h.nmu, x.up a h.new⟩
theorem RepR.from {E E₁ E' : WS} (x : Ext E E₁) {d : D} {k : Kd} {v : V} (h : RepR K E₁ E' d k v) : RepR K E E' d k v := by
  cases k with
  | fz => exact h
  | bo => exact h
  | fr =>
    show if isMut d = true then _ else _
    have h : if isMut d = true then ∃ a, v = .ref a ∧ Fresh K E₁ E' d a else Rep K E' d v := h
    split
    · rename_i hm
      rw [if_pos hm] at h
      obtain ⟨a, e, f⟩ := h
      exact ⟨a, e, f.from x⟩
    · rename_i hm
      rw [if_neg hm] at h
      exact h
theorem sqL_ext {E E' : WS} (x : Ext E E') {a : Addr} {vs : List V} (n : a ∉ E.μ) (h : SqL K E.H a vs) : SqL K E'.H a vs := by
  rcases sqL_cases h with h | h
  · exact .inl (.inl (x.pres a _ h n nt_lst))
  · exact (x.last.stL h).sqL
/-- what a mutable thing holds, where it is no cell -/
def NC (E : WS) (v : V) : Prop := ∀ a, v = .ref a → a ∉ E.μ
theorem rep_lst {E : WS} {xs : List D} {v : V} : Rep K E (.lst xs) v ↔ ∃ a vs, v = .ref a ∧ E.Fz a ∧ E.H a = some (.lst vs) ∧ RepA K E xs vs := by rw [Rep]
theorem rep_scr {E : WS} {xs : List D} {v : V} : Rep K E (.scr xs) v ↔ ∃ a vs, v = .ref a ∧ StL K E.H a vs ∧ RepA K E xs vs := by rw [Rep]
theorem rep_tup {E : WS} {xs : List D} {v : V} : Rep K E (.tup xs) v ↔ ∃ a vs, v = .ref a ∧ SqT K E.H a vs ∧ RepA K E xs vs := by rw [Rep]
theorem rep_dct {E : WS} {kvs : List (D × D)} {v : V} : Rep K E (.dct kvs) v ↔ ∃ a ks, v = .ref a ∧ E.Fz a ∧ E.H a = some (.dK ks) ∧ RepK K E kvs ks := by rw [Rep]
theorem rep_loc {E : WS} {n : Nat} {v : V} : Rep K E (.loc n) v ↔ ∃ a, v = .ref a ∧ E.μ[n]? = some a := by rw [Rep]
theorem rep_lam {E : WS} {n : Nat} {v : V} : ¬ Rep K E (.lam n) v := by rw [Rep]; exact id
theorem rep_int {E : WS} {i : Int} {v : V} : Rep K E (.int i) v ↔ v = .int i := by rw [Rep]
theorem rep_bl {E : WS} {i : Bool} {v : V} : Rep K E (.bl i) v ↔ v = .bl i := by rw [Rep]
theorem rep_non {E : WS} {v : V} : Rep K E .non v ↔ v = .non := by rw [Rep]
theorem rep_str {E : WS} {s : List Nat} {v : V} : Rep K E (.str s) v ↔ v = .str ⟨s.toArray⟩ ∧ s.length ≤ line := by rw [Rep]
theorem Rep.c {E : WS} {d : D} {v : V} (h : Rep K E d v) : RepC K E d v := by
  cases d with
  | lst xs =>
    obtain ⟨a, vs, e, _, s, r⟩ := rep_lst.mp h
    exact ⟨a, vs, e, s, r⟩
  | dct kvs =>
    obtain ⟨a, vs, e, _, s, r⟩ := rep_dct.mp h
    exact ⟨a, vs, e, s, r⟩
  | _ => exact h
theorem Own.c {E : WS} {d : D} {a : Addr} (h : Own K E d a) : RepC K E d (.ref a) := by
  cases d with
  | lst xs => obtain ⟨vs, s, r⟩ := h; exact ⟨a, vs, rfl, s, r⟩
  | dct kvs => obtain ⟨vs, s, r⟩ := h; exact ⟨a, vs, rfl, s, r⟩
  | _ => exact h.elim
/-- a value that may be looked at -/
def RepX (K : PySem.W.Frag) (E : WS) (d : D) (v : V) : Prop := (∃ a, v = .ref a ∧ Own K E d a ∧ a ∉ E.μ) ∨ Rep K E d v
theorem RepX.c {E : WS} {d : D} {v : V} (h : RepX K E d v) : RepC K E d v := by
  rcases h with ⟨a, e, h, _⟩ | h
  · subst e; exact h.c
  · exact h.c
theorem RepX.ext {E E' : WS} (x : Ext E E') {d : D} {v : V} (h : RepX K E d v) : RepX K E' d v := by
  rcases h with ⟨a, e, h, n⟩ | h
  · obtain ⟨o, ho⟩ := h.there
    exact .inl ⟨a, e, h.ext x n, x.there ho n⟩
  · exact .inr (h.last x.last)
theorem RepR.x {E₀ E : WS} {d : D} {k : Kd} {v : V} (h : RepR K E₀ E d k v) : RepX K E d v := by
  cases k with
  | fz => exact .inr h
  | bo => exact .inl h
  | fr =>
    have h : if isMut d = true then ∃ a, v = .ref a ∧ Fresh K E₀ E d a else Rep K E d v := h
    split at h
    · obtain ⟨a, e, f⟩ := h
      exact .inl ⟨a, e, f.own, f.nmu⟩
    · exact .inr h
theorem RepR.c {E₀ E : WS} {d : D} {k : Kd} {v : V} (h : RepR K E₀ E d k v) : RepC K E d v := by
  cases k with
  | fz => exact Rep.c h
  | bo =>
    obtain ⟨a, e, h1, _⟩ := h
    subst e
    exact h1.c
  | fr =>
    have h : if isMut d = true then ∃ a, v = .ref a ∧ Fresh K E₀ E d a else Rep K E d v := h
    split at h
    · obtain ⟨a, e, f⟩ := h
      subst e
      exact f.own.c
    · exact h.c
/-- .. the store looked at -/
theorem RepR.ext {E₀ E E' : WS} (x : Ext E E') {d : D} {k : Kd} {v : V} (h : RepR K E₀ E d k v) : RepR K E₀ E' d k v := by
  cases k with
  | fz => exact Rep.last x.last h
  | bo =>
    obtain ⟨a, e, h1, n⟩ := h
    obtain ⟨o, ho⟩ := h1.there
    exact ⟨a, e, h1.ext x n, x.there ho n⟩
  | fr =>
    show if isMut d = true then _ else _
    have h : if isMut d = true then ∃ a, v = .ref a ∧ Fresh K E₀ E d a else Rep K E d v := h
    split
    · rename_i hm
      rw [if_pos hm] at h
      obtain ⟨a, e, f⟩ := h
      exact ⟨a, e, f.ext x⟩
    · rename_i hm
      rw [if_neg hm] at h
      exact h.last x.last
theorem view_ok {J : Inf} {E : WS} {s : Sto} (w : WSOk K J E s) {d : D} {v : V} (h : RepC K E d v) : RepC K E (view s d) v := by
  cases d with
  | loc n =>
    obtain ⟨a, e, m⟩ := (rep_loc (K := K)).mp h
    have ev : view s (.loc n) = match s[n]? with
      | some (.lst xs) => .lst xs
      | some (.dct kvs) => .dct kvs
      | _ => .loc n := rfl
    rw [ev]
    cases q : s[n]? with
    | none => exact h
    | some c =>
      have r := w.cell n c a q m
      cases c with
      | lst xs => obtain ⟨vs, h1, h2⟩ := r; exact ⟨a, vs, e, h1, h2⟩
      | dct xs => obtain ⟨vs, h1, h2⟩ := r; exact ⟨a, vs, e, h1, h2⟩
      | obj _ _ => exact h
  | _ => exact h
theorem FrR.mono {E₀ E E' : WS} {σ : L2.St} {ρ : Env} (f : FrR K E₀ E σ ρ) (x : Ext E E') : FrR K E₀ E' σ ρ := by
  refine ⟨f.len, fun i d own h => ?_, f.apart, f.ext.trans x⟩
  obtain ⟨v, e, h1, h2⟩ := f.slot i d own h
  refine ⟨v, e, fun z => (h1 z).last x.last, fun z => ?_⟩
  obtain ⟨a, e1, h3⟩ := h2 z
  exact ⟨a, e1, h3.ext x⟩
end
end
end RS
end S2
section S3
set_option autoImplicit false
set_option linter.all false
set_option maxRecDepth 100000
set_option Elab.async false
/-! A3: the judgements: an expression of the model does what a function of the evaluator does. -/
namespace RS
open PySem PySem.Spec PyProof.Rows L2

def Out {α : Type} (r : R α) (P : α → Sto → Prop) (Pe : Nat → Sto → Prop) : Prop := match r with
  | .ok a s => P a s
  | .err c s => Pe c s
  | .no => False
theorem Out.bind {α β : Type} {x : R α} {f : α → Sto → R β} {P : β → Sto → Prop} {Pe : Nat → Sto → Prop} : Out (x.bind f) P Pe ↔ Out x (fun a s => Out (f a s) P Pe) Pe := by cases x <;> exact Iff.rfl
theorem Out.mono {α : Type} {r : R α} {P P' : α → Sto → Prop} {Pe Pe' : Nat → Sto → Prop} (h : Out r P Pe) (hP : ∀ a s, P a s → P' a s) (hE : ∀ c s, Pe c s → Pe' c s) : Out r P' Pe' := by
  cases r with
  | ok a s => exact hP a s h
  | err c s => exact hE c s h
  | no => exact h
theorem Out.ofO {α : Type} {o : Option α} {s : Sto} {P : α → Sto → Prop} {Pe : Nat → Sto → Prop} (h : Out (ofO o s) P Pe) : ∃ a, o = some a ∧ P a s := by
  cases o with
  | none => exact h.elim
  | some a => exact ⟨a, rfl, h⟩

/-- where a frame's proof stands -/
structure Cfg where
  J : Inf
  X : Cx
  E₀ : WS
  W : XK
  /-- a token is out -/
  tk : Bool

section
variable (G : Cfg)
abbrev Cfg.M : Model := model G.X.prog G.X.w
abbrev Cfg.WO (E : WS) (st : Sto) : Prop := WSOk G.X.K G.J E st
abbrev Cfg.Fr (E : WS) (σ : L2.St) (ρ : Env) : Prop := FrR G.X.K G.E₀ E σ ρ
def Cfg.Tk (s : Shared) : Prop := G.tk = true → 1 ≤ s.toks
/-- an exception goes on -/
def Cfg.er (E : WS) (σ : L2.St) : Nat → Sto → Prop := fun c st' => ∀ E', Ext E E' → G.WO E' st' → G.W (.ref (G.J.ca c)) none E'.H
/-- a value comes -/
def Cfg.okP (pins : List (Addr × Obj)) (σ : L2.St) (E : WS) (Q : Value → Shared → Prop) : D × Kd → Sto → Prop := fun x st' =>
  ∀ E' v u s', Ext E E' → G.WO E' st' → RepR G.X.K E E' x.1 x.2 v → Inv G.X pins σ E'.H s' → RelV v u → Q u s'
def Cfg.okT (pins : List (Addr × Obj)) (σ : L2.St) (E : WS) (Q : Bool → Shared → Prop) : Bool → Sto → Prop := fun x st' =>
  ∀ E' s', Ext E E' → G.WO E' st' → Inv G.X pins σ E'.H s' → Q x s'
variable {G}
theorem Cfg.er_ext {E E' : WS} {σ : L2.St} (x : Ext E E') {c : Nat} {st : Sto} (h : G.er E σ c st) : G.er E' σ c st := fun E'' y w => h E'' (x.trans y) w
variable (G)

structure SE (e : Expr) (m : Env → Sto → R (D × Kd)) : Prop where
  run : ∀ (pins : List (Addr × Obj)) (s : Shared) (σ : L2.St) (E : WS) (ρ : Env) (st : Sto) (Q : Value → Shared → Prop), Inv G.X pins σ E.H s → G.WO E st → G.Fr E σ ρ → G.Tk s →
    Out (m ρ st) (G.okP pins σ E Q) (G.er E σ) → wpAny G.M G.X.A (eval e G.X.env) Q G.X.xe s
/-- a test -/
structure ST (e : Expr) (m : Env → Sto → R Bool) : Prop where
  run : ∀ (pins : List (Addr × Obj)) (s : Shared) (σ : L2.St) (E : WS) (ρ : Env) (st : Sto) (Q : Bool → Shared → Prop), Inv G.X pins σ E.H s → G.WO E st → G.Fr E σ ρ → G.Tk s →
    Out (m ρ st) (G.okT pins σ E Q) (G.er E σ) → wpAny G.M G.X.A (isTrue e G.X.env (eval e G.X.env)) Q G.X.xe s
/-- a test, whatever its whole is -/
structure SW (e : Expr) (m : Env → Sto → R Bool) : Prop where
  run : ∀ (whole : Sem Value) (pins : List (Addr × Obj)) (s : Shared) (σ : L2.St) (E : WS) (ρ : Env) (st : Sto) (Q : Bool → Shared → Prop), Inv G.X pins σ E.H s → G.WO E st → G.Fr E σ ρ → G.Tk s →
    Out (m ρ st) (G.okT pins σ E Q) (G.er E σ) → wpAny G.M G.X.A (isTrue e G.X.env whole) Q G.X.xe s
/-- values in a row, kept -/
def Cfg.okA (pins : List (Addr × Obj)) (σ : L2.St) (E : WS) (Q : List Value → Shared → Prop) : List D → Sto → Prop := fun ds st' =>
  ∀ E' vs us s', Ext E E' → G.WO E' st' → RepA G.X.K E' ds vs → Inv G.X pins σ E'.H s' → Vals vs us → Q us s'
/-- .. looked at -/
def RepO (K : PySem.W.Frag) (E : WS) : List D → List V → Prop
  | [], vs => vs = []
  | d :: ds, vs => ∃ v r, vs = v :: r ∧ RepX K E d v ∧ RepO K E ds r
def Cfg.okO (pins : List (Addr × Obj)) (σ : L2.St) (E : WS) (Q : List Value → Shared → Prop) : List D → Sto → Prop := fun ds st' =>
  ∀ E' vs us s', Ext E E' → G.WO E' st' → RepO G.X.K E' ds vs → Inv G.X pins σ E'.H s' → Vals vs us → Q us s'
structure SA (es : List Expr) (m : Env → Sto → R (List D)) : Prop where
  run : ∀ (pos : Pos) (pins : List (Addr × Obj)) (s : Shared) (σ : L2.St) (E : WS) (ρ : Env) (st : Sto) (Q : List Value → Shared → Prop), Inv G.X pins σ E.H s → G.WO E st → G.Fr E σ ρ → G.Tk s →
    Out (m ρ st) (G.okA pins σ E Q) (G.er E σ) → wpAny G.M G.X.A (spliced (backTo pos (starEach es G.X.env))) Q G.X.xe s
structure SO (es : List Expr) (m : Env → Sto → R (List D)) : Prop where
  run : ∀ (pos : Pos) (pins : List (Addr × Obj)) (s : Shared) (σ : L2.St) (E : WS) (ρ : Env) (st : Sto) (Q : List Value → Shared → Prop), Inv G.X pins σ E.H s → G.WO E st → G.Fr E σ ρ → G.Tk s →
    Out (m ρ st) (G.okO pins σ E Q) (G.er E σ) → wpAny G.M G.X.A (spliced (backTo pos (starEach es G.X.env))) Q G.X.xe s
variable {G}

theorem Cfg.wtk {s : Shared} (t : G.Tk s) {α : Type} {T : Sem α} {Q : α → Shared → Prop} {Ex : Value → Shared → Prop} (h : wpAny G.M G.X.A T (fun a s' => G.Tk s' → Q a s') Ex s) : wpAny G.M G.X.A T Q Ex s := by
  cases q : G.tk with
  | false => exact wpAny_mono h (fun _ _ z => z fun e => by rw [q] at e; cases e) fun _ _ z => z
  | true => exact wpAny_with_toks (t q) (wpAny_mono h (fun _ _ z n => z fun _ => n) fun _ _ z _ => z)
section
variable {pins : List (Addr × Obj)} {s : Shared} {σ : L2.St} {E : WS} {ρ : Env} {st : Sto}
theorem SE.thn' {e : Expr} {m : Env → Sto → R (D × Kd)} (h : SE G e m) (I : Inv G.X pins σ E.H s) (w : G.WO E st) (f : G.Fr E σ ρ) (tk : G.Tk s) {β : Type} {F : D × Kd → Sto → R β} {P : β → Sto → Prop} {Pe : Nat → Sto → Prop} (hE : ∀ c t, Pe c t → G.er E σ c t)
    (hO : Out ((m ρ st).bind F) P Pe) {Q : Value → Shared → Prop}
    (k : ∀ x st1 E1 v u s1, Ext E E1 → G.WO E1 st1 → RepR G.X.K E E1 x.1 x.2 v → Inv G.X pins σ E1.H s1 → RelV v u → G.Tk s1 → Out (F x st1) P Pe → Q u s1) : wpAny G.M G.X.A (eval e G.X.env) Q G.X.xe s :=
  G.wtk tk (h.run pins s σ E ρ st _ I w f tk ((Out.bind.mp hO).mono (fun x st1 hx E1 v u s1 x1 w1 r1 I1 ru t1 => k x st1 E1 v u s1 x1 w1 r1 I1 ru t1 hx) hE))
theorem SE.thn {e : Expr} {m : Env → Sto → R (D × Kd)} (h : SE G e m) (I : Inv G.X pins σ E.H s) (w : G.WO E st) (f : G.Fr E σ ρ) (tk : G.Tk s) {β : Type} {F : D × Kd → Sto → R β} {P : β → Sto → Prop}
    (hO : Out ((m ρ st).bind F) P (G.er E σ)) {Q : Value → Shared → Prop}
    (k : ∀ x st1 E1 v u s1, Ext E E1 → G.WO E1 st1 → RepR G.X.K E E1 x.1 x.2 v → Inv G.X pins σ E1.H s1 → RelV v u → G.Tk s1 → Out (F x st1) P (G.er E σ) → Q u s1) : wpAny G.M G.X.A (eval e G.X.env) Q G.X.xe s := h.thn' I w f tk (fun _ _ z => z) hO k
theorem ST.thn' {e : Expr} {m : Env → Sto → R Bool} (h : ST G e m) (I : Inv G.X pins σ E.H s) (w : G.WO E st) (f : G.Fr E σ ρ) (tk : G.Tk s) {β : Type} {F : Bool → Sto → R β} {P : β → Sto → Prop} {Pe : Nat → Sto → Prop} (hE : ∀ c t, Pe c t → G.er E σ c t)
    (hO : Out ((m ρ st).bind F) P Pe) {Q : Bool → Shared → Prop}
    (k : ∀ x st1 E1 s1, Ext E E1 → G.WO E1 st1 → Inv G.X pins σ E1.H s1 → G.Tk s1 → Out (F x st1) P Pe → Q x s1) : wpAny G.M G.X.A (isTrue e G.X.env (eval e G.X.env)) Q G.X.xe s :=
  G.wtk tk (h.run pins s σ E ρ st _ I w f tk ((Out.bind.mp hO).mono (fun x st1 hx E1 s1 x1 w1 I1 t1 => k x st1 E1 s1 x1 w1 I1 t1 hx) hE))
theorem ST.thn {e : Expr} {m : Env → Sto → R Bool} (h : ST G e m) (I : Inv G.X pins σ E.H s) (w : G.WO E st) (f : G.Fr E σ ρ) (tk : G.Tk s) {β : Type} {F : Bool → Sto → R β} {P : β → Sto → Prop}
    (hO : Out ((m ρ st).bind F) P (G.er E σ)) {Q : Bool → Shared → Prop}
    (k : ∀ x st1 E1 s1, Ext E E1 → G.WO E1 st1 → Inv G.X pins σ E1.H s1 → G.Tk s1 → Out (F x st1) P (G.er E σ) → Q x s1) : wpAny G.M G.X.A (isTrue e G.X.env (eval e G.X.env)) Q G.X.xe s := h.thn' I w f tk (fun _ _ z => z) hO k
theorem Out.er {β : Type} {r : R β} {P P' : β → Sto → Prop} {E E' : WS} (x : Ext E E') (h : Out r P (G.er E σ)) (hP : ∀ b t, P b t → P' b t) : Out r P' (G.er E' σ) := h.mono hP fun _ _ z => Cfg.er_ext x z
theorem Out.er0 {β : Type} {r : R β} {P : β → Sto → Prop} {E E' : WS} (x : Ext E E') (h : Out r P (G.er E σ)) : Out r P (G.er E' σ) := h.er x fun _ _ z => z
/-- two in a row -/
theorem two {a b : Expr} {ma mb : Env → Sto → R (D × Kd)} (ha : SE G a ma) (hb : SE G b mb) (I : Inv G.X pins σ E.H s) (w : G.WO E st) (f : G.Fr E σ ρ) (tk : G.Tk s) {β : Type} {F : D × Kd → D × Kd → Sto → R β} {P : β → Sto → Prop}
    (hO : Out ((ma ρ st).bind fun x st => (mb ρ st).bind fun y st => F x y st) P (G.er E σ)) {α : Type} {T : Value → Value → Sem α} {Q : α → Shared → Prop}
    (k : ∀ x y st2 E2 v1 u1 v2 u2 s2, Ext E E2 → G.WO E2 st2 → RepR G.X.K E E2 x.1 x.2 v1 → RepR G.X.K E E2 y.1 y.2 v2 → Inv G.X pins σ E2.H s2 → RelV v1 u1 → RelV v2 u2 → G.Tk s2 → Out (F x y st2) P (G.er E σ) → wpAny G.M G.X.A (T u1 u2) Q G.X.xe s2) :
    wpAny G.M G.X.A (eval a G.X.env) (fun u1 s1 => wpAny G.M G.X.A (eval b G.X.env) (fun u2 s2 => wpAny G.M G.X.A (T u1 u2) Q G.X.xe s2) G.X.xe s1) G.X.xe s := by
  refine ha.thn I w f tk hO fun x st1 E1 v1 u1 s1 x1 w1 r1 I1 ru1 t1 h1 => ?_
  refine hb.thn' I1 w1 (f.mono x1) t1 (fun _ _ z => Cfg.er_ext x1 z) h1 fun y st2 E2 v2 u2 s2 x2 w2 r2 I2 ru2 t2 h2 => ?_
  exact k x y st2 E2 v1 u1 v2 u2 s2 (x1.trans x2) w2 (r1.ext x2) (r2.from x1) I2 ru1 ru2 t2 h2

/-! ### names, constants -/
theorem se_var {i : Nat} {x : Str} {pos : Pos} (hN : G.X.N[i]? = some x) (hv : Vis G.X.env.scope x) (hd : (x == ("__debug__" : Str)) = false) (hcd : (x == ("__classdict__" : Str)) = false) :
    SE G (.Name x pos) (fun ρ s => match ρ[i]? with | some (some (d, own)) => .ok (d, if own then .bo else .fz) s | _ => .no) := by
  refine ⟨fun pins s σ E ρ st Q I w f tk h => ?_⟩
  cases q : ρ[i]? with
  | none => rw [q] at h; exact h.elim
  | some o =>
    cases o with
    | none => rw [q] at h; exact h.elim
    | some p =>
      obtain ⟨d, own⟩ := p
      rw [q] at h
      obtain ⟨v, e, h1, h2⟩ := f.slot i d own q
      refine L2.thn ((pe_var (pos := pos) hN hv hd hcd).run pins s σ E.H (fun v' H' => v' = v ∧ H' = E.H) I ⟨v, e, rfl, rfl⟩) fun u s1 ⟨v', H1, I1, r1, ev, eH⟩ => ?_
      subst ev
      rw [eH] at I1
      cases own with
      | true =>
        obtain ⟨a, ea, fr⟩ := h2 rfl
        have hr : RepR G.X.K E E d .bo v' := ⟨a, ea, fr.own, fr.nmu⟩
        exact h E v' u s1 (Ext.refl E) w hr I1 r1
      | false => exact h E v' u s1 (Ext.refl E) w (h1 rfl) I1 r1
end
end
end RS
end S3
section S4
set_option autoImplicit false
set_option linter.all false
set_option maxRecDepth 100000
set_option Elab.async false
/-! A4: new objects; displays; operators. -/
namespace RS
open PySem PySem.Spec PyProof.Rows L2

/-- a new object -/
abbrev WS.put (E : WS) (p : Addr) (o : HO) : WS := ⟨upd E.H p o, E.Fz, E.μ⟩
/-- never written again from now on -/
abbrev WS.frz (E : WS) (a : Addr) : WS := ⟨E.H, fun b => E.Fz b ∨ b = a, E.μ⟩
section
variable {K : PySem.W.Frag} {J : Inf} {E E₁ : WS} {st : Sto} {p a : Addr} {o : HO}
theorem ext_put (h : E.H p = none) : Ext E (E.put p o) where
  pres := fun a u e _ _ => by show upd E.H p o a = _; rw [upd_ne (ne_of_none e h)]; exact e
  up := fun a e => by
    have e : upd E.H p o a = none := e
    by_cases z : a = p
    · rw [z, upd_same] at e; cases e
    · rw [upd_ne z] at e; exact e
  tup := fun a u e => by show upd E.H p o a = _; rw [upd_ne (ne_of_none e h)]; exact e
  frz := fun a u u' e => by show upd E.H p o a = _; rw [upd_ne (ne_of_none e h)]; exact e
  fz := fun a z => ⟨z, fun u e => by show upd E.H p o a = _; rw [upd_ne (ne_of_none e h)]; exact e⟩
  fzn := fun _ z => .inl z
  mu := ⟨[], by simp, by simp⟩
theorem CellR.last {E E' : WS} (l : Last E E') {c : Cell} {a : Addr} (h : CellR K E c a) (e : ∀ o, E.H a = some o → E'.H a = some o) : CellR K E' c a := by
  cases c with
  | lst xs => obtain ⟨vs, h, r⟩ := h; exact ⟨vs, e _ h, r.last l⟩
  | dct xs => obtain ⟨vs, h, r⟩ := h; exact ⟨vs, e _ h, r.last l⟩
  | obj _ _ => exact h
theorem WSOk.put (w : WSOk K J E st) (h : E.H p = none) : WSOk K J (E.put p o) st := by
  have keep : ∀ a u, E.H a = some u → (E.put p o).H a = some u := fun a u e => by show upd E.H p o a = _; rw [upd_ne (ne_of_none e h)]; exact e
  refine ⟨w.len, w.nd, fun n c a h1 h2 => (w.cell n c a h1 h2).last (ext_put h).last fun u e => keep a u e, w.nfz, fun a z => ?_, fun P hP => ?_, LamX.Tabs.ext w.tl keep⟩
  · obtain ⟨u, e, n⟩ := w.fzH a z
    exact ⟨u, keep a u e, n⟩
  · obtain ⟨ps, e, t⟩ := w.tg P hP
    exact ⟨ps, keep _ _ e, t⟩
theorem last_frz : Last E (E.frz a) := ⟨fun _ _ h => h, fun _ _ _ h => h, fun _ h => ⟨.inl h, fun _ e => e⟩, fun _ _ h => h⟩
theorem ext_frz (x : Ext E E₁) (h : E.H a = none) : Ext E (E₁.frz a) := ⟨x.pres, x.up, x.tup, x.frz, fun b h => ⟨.inl (x.fz b h).1, (x.fz b h).2⟩, fun b hb => by
  rcases hb with hb | hb
  · exact x.fzn b hb
  · rw [hb]; exact .inr h, x.mu⟩
theorem WSOk.frz (w : WSOk K J E st) (n : a ∉ E.μ) (h : ∃ o, E.H a = some o ∧ NT o) : WSOk K J (E.frz a) st := by
  refine ⟨w.len, w.nd, fun n c b h1 h2 => (w.cell n c b h1 h2).last last_frz fun u e => e, fun b hb hz => ?_, fun b hz => ?_, w.tg, w.tl⟩
  · rcases hz with hz | hz
    · exact w.nfz b hb hz
    · rw [hz] at hb; exact n hb
  · rcases hz with hz | hz
    · exact w.fzH b hz
    · rw [hz]; exact h
theorem Own.nt {d : D} (h : Own K E d a) : ∃ o, E.H a = some o ∧ NT o := by
  cases d with
  | lst xs => obtain ⟨vs, h, r⟩ := h; exact ⟨_, h, nt_lst⟩
  | dct kvs => obtain ⟨vs, h, r⟩ := h; exact ⟨_, h, nt_dK⟩
  | _ => exact h.elim
theorem Own.rep {d : D} (h : Own K E d a) : Rep K (E.frz a) d (.ref a) := by
  cases d with
  | lst xs => obtain ⟨vs, h, r⟩ := h; exact rep_lst.mpr ⟨a, vs, rfl, .inr rfl, h, r.last last_frz⟩
  | dct kvs => obtain ⟨vs, h, r⟩ := h; exact rep_dct.mpr ⟨a, vs, rfl, .inr rfl, h, r.last last_frz⟩
  | _ => exact h.elim
/-- a value that somebody keeps -/
theorem keep_ok {d d' : D} {k : Kd} {v : V} (x : Ext E E₁) (w : WSOk K J E₁ st) (r : RepR K E E₁ d k v) (hk : keep (d, k) = some d') :
    d' = d ∧ ∃ E', E'.H = E₁.H ∧ Ext E E' ∧ Last E₁ E' ∧ WSOk K J E' st ∧ Rep K E' d v := by
  unfold keep at hk
  split at hk
  · cases hk
  · rename_i hb
    have ed : d = d' := Option.some.inj hk
    refine ⟨ed.symm, ?_⟩
    cases k with
    | bo => exact absurd rfl hb
    | fz => exact ⟨E₁, rfl, x, Last.refl _, w, r⟩
    | fr =>
      have r : if isMut d = true then ∃ a, v = .ref a ∧ Fresh K E E₁ d a else Rep K E₁ d v := r
      split at r
      · obtain ⟨a, e, f⟩ := r
        subst e
        exact ⟨E₁.frz a, rfl, ext_frz x f.new, last_frz, w.frz f.nmu f.own.nt, f.own.rep⟩
      · exact ⟨E₁, rfl, x, Last.refl _, w, r⟩
end

section
variable {G : Cfg} {pins : List (Addr × Obj)} {s : Shared} {σ : L2.St} {E : WS} {ρ : Env} {st : Sto}
/-- a constant -/
theorem se_con {e : Expr} {d : D} {v : V} (he : PE G.X e (tC v)) (hr : ∀ E, Rep G.X.K E d v) : SE G e (fun _ s => .ok (d, .fz) s) := by
  refine ⟨fun pins s σ E ρ st Q I w f tk h => ?_⟩
  refine L2.thn (he.run pins s σ E.H (fun v' H' => v' = v ∧ H' = E.H) I ⟨rfl, rfl⟩) fun u s1 ⟨v', H1, I1, r1, ev, eH⟩ => ?_
  subst ev
  rw [eH] at I1
  exact h E v' u s1 (Ext.refl E) w (hr E) I1 r1
theorem SE.congr {e : Expr} {m m' : Env → Sto → R (D × Kd)} (h : SE G e m) (hm : ∀ ρ s, m' ρ s = m ρ s) : SE G e m' := by
  have : m' = m := funext fun ρ => funext fun s => hm ρ s
  rw [this]; exact h

/-! ### arguments -/
theorem sa_nil : SA G [] (fun _ s => .ok [] s) := ⟨fun pos pins s σ E ρ st Q I w f tk h => Calls.spliced_nil (h E [] [] s (Ext.refl E) w rfl I .nil)⟩
theorem sa_cons {e : Expr} {es : List Expr} {m : Env → Sto → R (D × Kd)} {ms : Env → Sto → R (List D)} (he : SE G e m) (hs : SA G es ms) (hst : starEach (e :: es) G.X.env = (false, eval e G.X.env) :: starEach es G.X.env) :
    SA G (e :: es) (fun ρ s => (m ρ s).bind fun x s => (ofO (keep x) s).bind fun d s => (ms ρ s).bind fun ds s => .ok (d :: ds) s) := by
  refine ⟨fun pos pins s σ E ρ st Q I w f tk h => ?_⟩
  rw [hst]
  show wpAny _ _ (spliced ((false, eval e G.X.env) :: backTo pos (starEach es G.X.env))) _ _ s
  refine Calls.spliced_cons (he.thn I w f tk h fun x st1 E1 v u s1 x1 w1 r1 I1 ru t1 h1 => ?_)
  obtain ⟨d, hk, h2⟩ := (Out.bind.mp h1).ofO
  obtain ⟨ed, E', eH, x2, l2, w2, r2⟩ := keep_ok x1 w1 r1 hk
  subst ed
  rw [← eH] at I1
  refine hs.run pos pins s1 σ E' ρ st1 _ I1 w2 (f.mono x2) t1 ((Out.bind.mp h2).mono (fun ds st3 h3 E3 vs us s3 x3 w3 r3 I3 rv => ?_) fun _ _ z => Cfg.er_ext x2 z)
  exact h3 E3 (v :: vs) (u :: us) s3 (x2.trans x3) w3 ⟨v, vs, rfl, r2.last x3.last, r3⟩ I3 (.cons ru rv)
theorem so_nil : SO G [] (fun _ s => .ok [] s) := ⟨fun pos pins s σ E ρ st Q I w f tk h => Calls.spliced_nil (h E [] [] s (Ext.refl E) w rfl I .nil)⟩
theorem so_cons {e : Expr} {es : List Expr} {m : Env → Sto → R (D × Kd)} {ms : Env → Sto → R (List D)} (he : SE G e m) (hs : SO G es ms) (hst : starEach (e :: es) G.X.env = (false, eval e G.X.env) :: starEach es G.X.env) :
    SO G (e :: es) (fun ρ s => (m ρ s).bind fun x s => (ms ρ s).bind fun ds s => .ok (x.1 :: ds) s) := by
  refine ⟨fun pos pins s σ E ρ st Q I w f tk h => ?_⟩
  rw [hst]
  show wpAny _ _ (spliced ((false, eval e G.X.env) :: backTo pos (starEach es G.X.env))) _ _ s
  refine Calls.spliced_cons (he.thn I w f tk h fun x st1 E1 v u s1 x1 w1 r1 I1 ru t1 h1 => ?_)
  refine hs.run pos pins s1 σ E1 ρ st1 _ I1 w1 (f.mono x1) t1 ((Out.bind.mp h1).mono (fun ds st3 h3 E3 vs us s3 x3 w3 r3 I3 rv => ?_) fun _ _ z => Cfg.er_ext x1 z)
  exact h3 E3 (v :: vs) (u :: us) s3 (x1.trans x3) w3 ⟨v, vs, rfl, r1.x.ext x3, r3⟩ I3 (.cons ru rv)

/-! ### displays -/
theorem RepA.length {K : PySem.W.Frag} {E : WS} : ∀ {xs : List D} {vs : List V}, RepA K E xs vs → xs.length = vs.length
  | [], _, h => by rw [RepA] at h; rw [h]; rfl
  | x :: xs, vs, h => by
    rw [RepA] at h
    obtain ⟨v, r, e, _, h2⟩ := h
    rw [e, List.length_cons, List.length_cons, h2.length]
theorem RepK.length {K : PySem.W.Frag} {E : WS} : ∀ {xs : List (D × D)} {vs : List (Key × V)}, RepK K E xs vs → xs.length = vs.length
  | [], _, h => by rw [RepK] at h; rw [h]; rfl
  | (a, x) :: xs, vs, h => by
    rw [RepK] at h
    obtain ⟨k, v, r, e, _, _, h2⟩ := h
    rw [e, List.length_cons, List.length_cons, h2.length]
theorem line_eq : line = sizeLine := by rw [sizeLine_eq]; rfl
theorem Out.self {α : Type} {r : R α} {P : α → Sto → Prop} {Pe : Nat → Sto → Prop} (h : Out r P Pe) : Out r (fun a s => r = .ok a s ∧ P a s) Pe := by
  cases r with
  | ok a s => exact ⟨rfl, h⟩
  | err c s => exact h
  | no => exact h
/-- a new object comes -/
theorem laid_lst {vs : List V} {us : List Value} {H : Hp} (I : Inv G.X pins σ H s) (rv : Vals vs us) (hz : vs.length ≤ sizeLine) :
    Inv G.X pins σ (upd H s.heap.objs.size (.lst vs)) { s with heap := s.heap.push { cls := .type "list", data := .seq us.toArray } } :=
  I.laid (t' := s.toks) (fun b u e => Heap.get?_push_of_some _ e) (Nat.le_refl _) ⟨hz, us, 0, rv, Heap.get?_push_size _ rfl⟩
theorem laid_tup {vs : List V} {us : List Value} {H : Hp} (I : Inv G.X pins σ H s) (rv : Vals vs us) (hz : vs.length ≤ sizeLine) :
    Inv G.X pins σ (upd H s.heap.objs.size (.tup vs)) { s with heap := s.heap.push { cls := .type "tuple", data := .seq us.toArray } } :=
  I.laid (t' := s.toks) (fun b u e => Heap.get?_push_of_some _ e) (Nat.le_refl _) ⟨hz, us, rv, ⟨_, Heap.get?_push_size _ rfl, rfl, _, rfl⟩⟩
theorem rep_new_tup {K : PySem.W.Frag} {E : WS} {p : Addr} {ds : List D} {vs : List V} (hf : E.H p = none) (r : RepA K E ds vs) : Rep K (E.put p (.tup vs)) (.tup ds) (.ref p) :=
  rep_tup.mpr ⟨_, vs, rfl, .inl (.inl upd_same), r.last (ext_put hf).last⟩
theorem fresh_new_lst {K : PySem.W.Frag} {J : Inf} {E₀ E : WS} {st : Sto} {p : Addr} {ds : List D} {vs : List V} (w : WSOk K J E st) (x : Ext E₀ E) (hf : E.H p = none) (r : RepA K E ds vs) : Fresh K E₀ (E.put p (.lst vs)) (.lst ds) p where
  own := ⟨vs, upd_same, r.last (ext_put hf).last⟩
  nfz := fun z => by
    obtain ⟨o, e, _⟩ := w.fzH p z
    rw [hf] at e; cases e
  nmu := fun z => by
    rcases w.muH z with ⟨_, e⟩ | ⟨_, e⟩ <;> (rw [hf] at e; cases e)
  new := x.up p hf
theorem fresh_new_dct {K : PySem.W.Frag} {J : Inf} {E₀ E : WS} {st : Sto} {p : Addr} {ds : List (D × D)} {vs : List (Key × V)} (w : WSOk K J E st) (x : Ext E₀ E) (hf : E.H p = none) (r : RepK K E ds vs) : Fresh K E₀ (E.put p (.dK vs)) (.dct ds) p where
  own := ⟨vs, upd_same, r.last (ext_put hf).last⟩
  nfz := fun z => by
    obtain ⟨o, e, _⟩ := w.fzH p z
    rw [hf] at e; cases e
  nmu := fun z => by
    rcases w.muH z with ⟨_, e⟩ | ⟨_, e⟩ <;> (rw [hf] at e; cases e)
  new := x.up p hf
/-- (a, b, ..) -/
theorem se_tup {es : List Expr} {k : Nat} {pos : Pos} {m : Env → Sto → R (List D)} (h : SA G es m) (hl : ∀ ρ s ds s', m ρ s = .ok ds s' → ds.length ≤ line) : SE G (.Tuple es k pos) (fun ρ s => (m ρ s).bind fun ds s => .ok (.tup ds, .fz) s) := by
  refine ⟨fun pins s σ E ρ st Q I w f tk hO => ?_⟩
  refine wpAny_Tuple_spliced (h.run pos pins s σ E ρ st _ I w f tk ((Out.bind.mp hO).self.mono (fun ds st1 ⟨hd, h1⟩ E1 vs us s1 x1 w1 r1 I1 rv => ?_) fun _ _ z => z))
  have hz : vs.length ≤ sizeLine := by rw [← line_eq, ← r1.length]; exact hl _ _ _ _ hd
  have hf : E1.H s1.heap.objs.size = none := I1.hok.fresh (Nat.le_refl _)
  exact ⟨by rw [← rv.length]; exact hz, h1 (E1.put s1.heap.objs.size (.tup vs)) _ _ _ (x1.trans (ext_put hf)) (w1.put hf) (rep_new_tup hf r1) (laid_tup I1 rv hz) rfl⟩
/-- [a, b, ..] -/
theorem se_lst {es : List Expr} {pos : Pos} {m : Env → Sto → R (List D)} (h : SA G es m) (hl : ∀ ρ s ds s', m ρ s = .ok ds s' → ds.length ≤ line) : SE G (.List es pos) (fun ρ s => (m ρ s).bind fun ds s => .ok (.lst ds, .fr) s) := by
  refine ⟨fun pins s σ E ρ st Q I w f tk hO => ?_⟩
  refine wpAny_List_spliced (h.run pos pins s σ E ρ st _ I w f tk ((Out.bind.mp hO).self.mono (fun ds st1 ⟨hd, h1⟩ E1 vs us s1 x1 w1 r1 I1 rv => ?_) fun _ _ z => z))
  have hz : vs.length ≤ sizeLine := by rw [← line_eq, ← r1.length]; exact hl _ _ _ _ hd
  have hf : E1.H s1.heap.objs.size = none := I1.hok.fresh (Nat.le_refl _)
  exact ⟨by rw [← rv.length]; exact hz, h1 (E1.put s1.heap.objs.size (.lst vs)) _ _ _ (x1.trans (ext_put hf)) (w1.put hf) ⟨_, rfl, fresh_new_lst w1 x1 hf r1⟩ (laid_lst I1 rv hz) rfl⟩
/-- a list into the store -/
theorem WSOk.box {K : PySem.W.Frag} {J : Inf} {E : WS} {st : Sto} {p : Addr} {ds : List D} {vs : List V} (w : WSOk K J E st) (hf : E.H p = none) (r : RepA K E ds vs) :
    WSOk K J ⟨upd E.H p (.lst vs), E.Fz, E.μ ++ [p]⟩ (st ++ [.lst ds]) ∧ Ext E ⟨upd E.H p (.lst vs), E.Fz, E.μ ++ [p]⟩ := by
  have w1 := w.put (o := .lst vs) hf
  have x1 := ext_put (o := .lst vs) hf
  have hp : p ∉ E.μ := fun z => by
    rcases w.muH z with ⟨_, e⟩ | ⟨_, e⟩ <;> (rw [hf] at e; cases e)
  have x2 : Ext E ⟨upd E.H p (.lst vs), E.Fz, E.μ ++ [p]⟩ := ⟨x1.pres, x1.up, x1.tup, x1.frz, x1.fz, x1.fzn, [p], rfl, fun a ha => by rw [List.mem_singleton.mp ha]; exact hf⟩
  have l2 : Last (E.put p (.lst vs)) ⟨upd E.H p (.lst vs), E.Fz, E.μ ++ [p]⟩ := ⟨fun _ _ h => h, fun _ _ _ h => h, fun _ h => ⟨h, fun _ e => e⟩, x2.last.mu⟩
  refine ⟨⟨by simp [w.len], ?_, fun n c a h1 h2 => ?_, fun a ha => ?_, w1.fzH, w1.tg, w1.tl⟩, x2⟩
  · exact List.nodup_append.mpr ⟨w.nd, by simp, fun a ha b hb => by rw [List.mem_singleton.mp hb]; rintro rfl; exact hp ha⟩
  · by_cases hn : n < st.length
    · rw [List.getElem?_append_left hn] at h1
      rw [List.getElem?_append_left (by rw [w.len]; exact hn)] at h2
      exact (w1.cell n c a h1 h2).last l2 fun _ e => e
    · have hn' : n = st.length := by
        have := (List.getElem?_eq_some_iff.mp h1).1
        simp at this
        omega
      subst hn'
      rw [← w.len] at h2
      simp at h1 h2
      subst h1 h2
      exact ⟨vs, upd_same, r.last x2.last⟩
  · rcases List.mem_append.mp ha with ha | ha
    · exact w.nfz a ha
    · rw [List.mem_singleton.mp ha]
      intro z
      obtain ⟨o, e, _⟩ := w.fzH p z
      rw [hf] at e; cases e
theorem se_box {es : List Expr} {pos : Pos} {m : Env → Sto → R (List D)} (h : SA G es m) (hl : ∀ ρ s ds s', m ρ s = .ok ds s' → ds.length ≤ line) : SE G (.List es pos) (fun ρ s => (m ρ s).bind fun ds s => .ok (.loc s.length, .fz) (s ++ [.lst ds])) := by
  refine ⟨fun pins s σ E ρ st Q I w f tk hO => ?_⟩
  refine wpAny_List_spliced (h.run pos pins s σ E ρ st _ I w f tk ((Out.bind.mp hO).self.mono (fun ds st1 ⟨hd, h1⟩ E1 vs us s1 x1 w1 r1 I1 rv => ?_) fun _ _ z => z))
  have hz : vs.length ≤ sizeLine := by rw [← line_eq, ← r1.length]; exact hl _ _ _ _ hd
  have hf : E1.H s1.heap.objs.size = none := I1.hok.fresh (Nat.le_refl _)
  obtain ⟨w2, x2⟩ := w1.box hf r1
  exact ⟨by rw [← rv.length]; exact hz, h1 ⟨upd E1.H s1.heap.objs.size (.lst vs), E1.Fz, E1.μ ++ [s1.heap.objs.size]⟩ _ _ _ (x1.trans x2) w2 ((rep_loc (K := G.X.K)).mpr ⟨_, rfl, by rw [← w1.len]; simp⟩) (laid_lst I1 rv hz) rfl⟩
end
end RS
end S4
section S5
set_option autoImplicit false
set_option linter.all false
set_option maxRecDepth 100000
set_option Elab.async false
/-! A5: data read off the heap; operators, comparisons, items, slices, truth by values. -/
namespace RS
open PySem PySem.Spec PyProof.Rows L2

/-! ### data and the kit's data -/
mutual
theorem eqv_py : ∀ x y : D, plainD x = true → plainD y = true → PyData.eqv (py x) (py y) = deq x y
  | .non, y, _, h => by cases y <;> first | (simp [plainD] at h; done) | simp [py, deq, PyData.eqv]
  | .bl a, y, _, h => by cases y <;> first | (simp [plainD] at h; done) | simp [py, deq, PyData.eqv]
  | .int a, y, _, h => by cases y <;> first | (simp [plainD] at h; done) | simp [py, deq, PyData.eqv]
  | .str a, y, _, h => by
    cases y <;> first | (simp [plainD] at h; done) | (simp [py, deq, PyData.eqv]; done) | skip
    rename_i b
    simp only [py, deq, PyData.eqv]
    rw [Bool.eq_iff_iff]
    simp
  | .tup xs, y, hx, h => by
    cases y with
    | tup ys => simp only [py, deq, PyData.eqv]; exact eqv_pyA xs ys (by simpa [plainD] using hx) (by simpa [plainD] using h)
    | _ => first | (simp [plainD] at h; done) | simp [py, deq, PyData.eqv]
  | .lst xs, y, hx, h => by
    cases y with
    | lst ys => simp only [py, deq, PyData.eqv]; exact eqv_pyA xs ys (by simpa [plainD] using hx) (by simpa [plainD] using h)
    | _ => first | (simp [plainD] at h; done) | simp [py, deq, PyData.eqv]
  | .dct _, _, h, _ => by simp [plainD] at h
  | .loc _, _, h, _ => by simp [plainD] at h
  | .lam _, _, h, _ => by simp [plainD] at h
  | .scr _, _, h, _ => by simp [plainD] at h
theorem eqv_pyA : ∀ xs ys : List D, plainA xs = true → plainA ys = true → PyData.eqvAll (pyAll xs) (pyAll ys) = deqA xs ys
  | [], [], _, _ => rfl
  | [], _ :: _, _, _ => by simp [pyAll, deqA, PyData.eqvAll]
  | _ :: _, [], _, _ => by simp [pyAll, deqA, PyData.eqvAll]
  | x :: xs, y :: ys, hx, hy => by
    rw [plainA, Bool.and_eq_true] at hx hy
    simp only [pyAll, deqA, PyData.eqvAll]
    rw [eqv_py x y hx.1 hy.1, eqv_pyA xs ys hx.2 hy.2]
end
mutual
theorem plain_py : ∀ x : D, plainD x = true → (py x).plain = true
  | .non, _ => rfl
  | .bl _, _ => rfl
  | .int _, _ => rfl
  | .str _, _ => rfl
  | .tup xs, h => by simp only [py, PyData.plain]; exact plain_pyA xs (by simpa [plainD] using h)
  | .lst xs, h => by simp only [py, PyData.plain]; exact plain_pyA xs (by simpa [plainD] using h)
  | .dct _, h => by simp [plainD] at h
  | .loc _, h => by simp [plainD] at h
  | .lam _, h => by simp [plainD] at h
  | .scr _, h => by simp [plainD] at h
theorem plain_pyA : ∀ xs : List D, plainA xs = true → PyData.plainAll (pyAll xs) = true
  | [], _ => rfl
  | x :: xs, h => by
    rw [plainA, Bool.and_eq_true] at h
    rw [pyAll, PyData.plainAll, plain_py x h.1, plain_pyA xs h.2]
    rfl
end
mutual
theorem depth_py : ∀ x : D, (py x).depth ≤ dep x
  | .non => by simp [py, PyData.depth]
  | .bl _ => by simp [py, PyData.depth]
  | .int _ => by simp [py, PyData.depth]
  | .str _ => by simp [py, PyData.depth]
  | .tup xs => by simp only [py, PyData.depth, dep]; exact Nat.succ_le_succ (depth_pyA xs)
  | .lst xs => by simp only [py, PyData.depth, dep]; exact Nat.succ_le_succ (depth_pyA xs)
  | .dct _ => by simp [py, PyData.depth]
  | .loc _ => by simp [py, PyData.depth]
  | .lam _ => by simp [py, PyData.depth]
  | .scr _ => by simp [py, PyData.depth]
theorem depth_pyA : ∀ xs : List D, PyData.depthAll (pyAll xs) ≤ depA xs
  | [] => by simp [pyAll, PyData.depthAll]
  | x :: xs => by
    have h1 := depth_py x
    have h2 := depth_pyA xs
    simp only [pyAll, PyData.depthAll, depA]
    omega
end

section
variable {X : Cx} {pins : List (Addr × Obj)} {s : Shared} {σ : L2.St} {E : WS}
mutual
/-- a value that stands for plain data reads as it -/
theorem reads : ∀ (d : D) (v : V) (u : Value), Inv X pins σ E.H s → Rep X.K E d v → RelV v u → plainD d = true → ∃ as, Reads s.heap u (py d) as
  | .non, v, u, _, r, ru, _ => by rw [rep_non] at r; subst r; cases ru; exact ⟨_, .none⟩
  | .bl b, v, u, _, r, ru, _ => by rw [rep_bl] at r; subst r; cases ru; exact ⟨_, .bool b⟩
  | .int i, v, u, _, r, ru, _ => by rw [rep_int] at r; subst r; obtain ⟨t, rfl⟩ := ru; exact ⟨_, .int i t⟩
  | .str x, v, u, _, r, ru, _ => by rw [rep_str] at r; obtain ⟨rfl, _⟩ := r; obtain ⟨t, rfl⟩ := ru; exact ⟨_, .str _ t⟩
  | .tup xs, v, u, I, r, ru, h => by
    obtain ⟨a, vs, e, hs, rA⟩ := rep_tup.mp r
    subst e
    cases ru
    obtain ⟨its, rv, ⟨o, ho, hc, n, hd⟩, _⟩ := I.tuple hs
    obtain ⟨as, ra⟩ := readsA xs vs its I rA rv (by simpa [plainD] using h)
    exact ⟨_, .tuple ho hc hd (by simpa using ra)⟩
  | .lst xs, v, u, I, r, ru, h => by
    obtain ⟨a, vs, e, _, hs, rA⟩ := rep_lst.mp r
    subst e
    cases ru
    have hs : SqL X.K E.H a vs := .inl (.inl hs)
    obtain ⟨its, rv, ⟨o, n, ho, hc, _, hd⟩, _⟩ := I.list hs
    obtain ⟨as, ra⟩ := readsA xs vs its I rA rv (by simpa [plainD] using h)
    exact ⟨_, .list ho hc hd (by simpa using ra)⟩
  | .dct _, _, _, _, _, _, h => by simp [plainD] at h
  | .loc _, _, _, _, _, _, h => by simp [plainD] at h
  | .lam _, _, _, _, _, _, h => by simp [plainD] at h
  | .scr _, _, _, _, _, _, h => by simp [plainD] at h
theorem readsA : ∀ (ds : List D) (vs : List V) (us : List Value), Inv X pins σ E.H s → RepA X.K E ds vs → Vals vs us → plainA ds = true → ∃ as, ReadsAll s.heap us (pyAll ds) as
  | [], vs, us, _, r, ru, _ => by rw [RepA] at r; subst r; cases ru; exact ⟨_, .nil⟩
  | d :: ds, vs, us, I, r, ru, h => by
    rw [RepA] at r
    obtain ⟨v, q, e, r1, r2⟩ := r
    subst e
    rw [plainA, Bool.and_eq_true] at h
    cases ru with
    | cons ru rr =>
      obtain ⟨as, h1⟩ := reads d v _ I r1 ru h.1
      obtain ⟨bs, h2⟩ := readsA ds q _ I r2 rr h.2
      exact ⟨_, .cons h1 h2⟩
end
theorem readsC {d : D} {v : V} {u : Value} (I : Inv X pins σ E.H s) (r : RepC X.K E d v) (ru : RelV v u) (h : plainD d = true) : ∃ as, Reads s.heap u (py d) as := by
  cases d with
  | lst xs =>
    obtain ⟨a, vs, e, hs, rA⟩ := r
    subst e
    cases ru
    have hs : SqL X.K E.H a vs := .inl (.inl hs)
    obtain ⟨its, rv, ⟨o, n, ho, hc, _, hd⟩, _⟩ := I.list hs
    obtain ⟨as, ra⟩ := readsA xs vs its I rA rv (by simpa [plainD] using h)
    exact ⟨_, .list ho hc hd (by simpa using ra)⟩
  | dct _ => simp [plainD] at h
  | _ => exact reads _ _ _ I r ru h
end

/-! ### what a value is -/
section
variable {K : PySem.W.Frag} {E : WS}
theorem RepA.at : ∀ {xs : List D} {vs : List V} {n : Nat} {d : D}, RepA K E xs vs → xs[n]? = some d → ∃ v, vs[n]? = some v ∧ Rep K E d v
  | [], _, _, _, _, e => by simp at e
  | x :: xs, vs, 0, d, h, e => by
    rw [RepA] at h
    obtain ⟨v, r, e1, h1, _⟩ := h
    simp at e; subst e e1
    exact ⟨v, rfl, h1⟩
  | x :: xs, vs, n + 1, d, h, e => by
    rw [RepA] at h
    obtain ⟨v, r, e1, _, h2⟩ := h
    subst e1
    obtain ⟨w, hw, hr⟩ := RepA.at (n := n) h2 (by simpa using e)
    exact ⟨w, by simpa using hw, hr⟩
theorem RepA.append : ∀ {xs ys : List D} {vs ws : List V}, RepA K E xs vs → RepA K E ys ws → RepA K E (xs ++ ys) (vs ++ ws)
  | [], ys, vs, ws, h, h2 => by rw [RepA] at h; subst h; exact h2
  | x :: xs, ys, vs, ws, h, h2 => by
    rw [RepA] at h
    obtain ⟨v, r, e1, h1, h3⟩ := h
    subst e1
    rw [List.cons_append, List.cons_append, RepA]
    exact ⟨v, _, rfl, h1, h3.append h2⟩
theorem RepA.drop : ∀ {xs : List D} {vs : List V} (n : Nat), RepA K E xs vs → RepA K E (xs.drop n) (vs.drop n)
  | xs, vs, 0, h => by simpa using h
  | [], vs, n + 1, h => by rw [RepA] at h; subst h; simp [RepA]
  | x :: xs, vs, n + 1, h => by
    rw [RepA] at h
    obtain ⟨v, r, e1, _, h3⟩ := h
    subst e1
    simpa using h3.drop n
theorem RepA.take : ∀ {xs : List D} {vs : List V} (n : Nat), RepA K E xs vs → RepA K E (xs.take n) (vs.take n)
  | xs, vs, 0, h => by simp [RepA]
  | [], vs, n + 1, h => by rw [RepA] at h; subst h; simp [RepA]
  | x :: xs, vs, n + 1, h => by
    rw [RepA] at h
    obtain ⟨v, r, e1, h2, h3⟩ := h
    subst e1
    rw [List.take_succ_cons, List.take_succ_cons, RepA]
    exact ⟨v, _, rfl, h2, h3.take n⟩
theorem slice_rep {xs : List D} {vs : List V} (h : RepA K E xs vs) (lo hi : Option Int) : RepA K E (slice xs lo hi) (cutV vs lo hi) := by
  have e := h.length
  unfold slice cutV
  have e1 : ∀ n d o, cut n d o = HT.sIx n d o := fun n d o => by cases o <;> rfl
  rw [e1, e1, ← e]
  exact (h.drop _).take _
end

section
variable {G : Cfg} {pins : List (Addr × Obj)} {s : Shared} {σ : L2.St} {E E₂ : WS} {st : Sto} {v1 v2 : V} {u1 u2 : Value}
theorem by_op {f : Value → Value → Sem Value} {r : R2} {P : V → Hp → Prop} {H : Hp} {Q : Value → Shared → Prop} (ho : OpR G.X f r) (I : Inv G.X pins σ H s) (r1 : RelV v1 u1) (r2 : RelV v2 u2) (hr : r v1 v2 H P)
    (k : ∀ v H' u s', Inv G.X pins σ H' s' → RelV v u → P v H' → Q u s') : wpAny G.M G.X.A (f u1 u2) Q G.X.xe s :=
  L2.thn (ho pins s σ H v1 v2 u1 u2 P I r1 r2 hr) fun u s' ⟨v, H', I', ru, p⟩ => k v H' u s' I' ru p
theorem by_call {f : Value} {r : List V → Hp → VK → Prop} {vs : List V} {us : List Value} {P : V → Hp → Prop} {H : Hp} {Q : Value → Shared → Prop} (ho : CallR G.X f r) (I : Inv G.X pins σ H s) (rv : Vals vs us) (hr : r vs H P)
    (k : ∀ v H' u s', Inv G.X pins σ H' s' → RelV v u → P v H' → Q u s') : wpAny G.M G.X.A (call f us) Q G.X.xe s :=
  L2.thn (ho pins s σ H vs us P I rv hr) fun u s' ⟨v, H', I', ru, p⟩ => k v H' u s' I' ru p
/-- an unchanging heap, a frozen value -/
abbrev same (v : V) (H : Hp) : V → Hp → Prop := fun v' H' => v' = v ∧ H' = H
theorem ok_same {d : D} {v : V} {u : Value} {s' : Shared} {H' : Hp} {v' : V} {Q : Value → Shared → Prop} (h : G.okP pins σ E Q (d, .fz) st) (x : Ext E E₂) (w : G.WO E₂ st) (r : Rep G.X.K E₂ d v) (I : Inv G.X pins σ H' s') (ru : RelV v' u) (p : same v E₂.H v' H') : Q u s' := by
  obtain ⟨rfl, rfl⟩ := p
  exact h E₂ _ u s' x w r I ru
/-- .. a new object -/
theorem ok_new_tup {ds : List D} {vs : List V} {p : Addr} {u : Value} {s' : Shared} {H' : Hp} {v' : V} {Q : Value → Shared → Prop} (h : G.okP pins σ E Q (.tup ds, .fz) st) (x : Ext E E₂) (w : G.WO E₂ st) (r : RepA G.X.K E₂ ds vs) (hf : E₂.H p = none) (I : Inv G.X pins σ H' s') (ru : RelV v' u)
    (e : same (.ref p) (upd E₂.H p (.tup vs)) v' H') : Q u s' := by
  obtain ⟨rfl, rfl⟩ := e
  exact h (E₂.put p (.tup vs)) _ u s' (x.trans (ext_put hf)) (w.put hf) (rep_new_tup hf r) I ru
theorem ok_new_lst {ds : List D} {vs : List V} {p : Addr} {u : Value} {s' : Shared} {H' : Hp} {v' : V} {Q : Value → Shared → Prop} (h : G.okP pins σ E Q (.lst ds, .fr) st) (x : Ext E E₂) (w : G.WO E₂ st) (r : RepA G.X.K E₂ ds vs) (hf : E₂.H p = none) (I : Inv G.X pins σ H' s') (ru : RelV v' u)
    (e : same (.ref p) (upd E₂.H p (.lst vs)) v' H') : Q u s' := by
  obtain ⟨rfl, rfl⟩ := e
  exact h (E₂.put p (.lst vs)) _ u s' (x.trans (ext_put hf)) (w.put hf) ⟨_, rfl, fresh_new_lst w x hf r⟩ I ru
end
end RS
end S5
section S6
set_option autoImplicit false
set_option linter.all false
set_option maxRecDepth 100000
set_option Elab.async false
/-! A6: operators, comparisons, items, slices, truth. -/
namespace RS
open PySem PySem.Spec PyProof.Rows L2

def opO : Op → Operator
  | .add => .Add | .sub => .Sub | .mul => .Mult | .fdiv => .FloorDiv | .mod => .Mod | .pow => .Pow
theorem str_len (s : List Nat) : (⟨s.toArray⟩ : Str).length = s.length := by simp [Str.length]
theorem str_app (a b : List Nat) : (⟨a.toArray⟩ : Str) ++ ⟨b.toArray⟩ = ⟨(a ++ b).toArray⟩ := by
  show Str.mk (a.toArray ++ b.toArray) = _
  simp
section
variable {G : Cfg} {pins : List (Addr × Obj)} {s : Shared} {σ : L2.St} {E E₂ : WS} {st : Sto} {v1 v2 : V} {u1 u2 : Value} {Q : Value → Shared → Prop}
/-- what is frozen of nothing mutable -/
theorem view_x {K : PySem.W.Frag} {J : Inf} {E : WS} {st : Sto} (w : WSOk K J E st) {d : D} {v : V} (h : RepX K E d v) : RepC K E (view st d) v := view_ok w h.c

section
variable {K : PySem.W.Frag} {E : WS}
theorem c_int {i : Int} {v : V} (h : RepC K E (.int i) v) : v = .int i := (rep_int (K := K) (E := E)).mp h
theorem c_bl {i : Bool} {v : V} (h : RepC K E (.bl i) v) : v = .bl i := (rep_bl (K := K) (E := E)).mp h
theorem c_non {v : V} (h : RepC K E .non v) : v = .non := (rep_non (K := K) (E := E)).mp h
theorem c_str {i : List Nat} {v : V} (h : RepC K E (.str i) v) : v = .str ⟨i.toArray⟩ ∧ i.length ≤ line := (rep_str (K := K) (E := E)).mp h
theorem c_tup {xs : List D} {v : V} (h : RepC K E (.tup xs) v) : ∃ a vs, v = .ref a ∧ SqT K E.H a vs ∧ RepA K E xs vs := (rep_tup (K := K) (E := E)).mp h
theorem c_lst {xs : List D} {v : V} (h : RepC K E (.lst xs) v) : ∃ a vs, v = .ref a ∧ E.H a = some (.lst vs) ∧ RepA K E xs vs := h
theorem c_dct {xs : List (D × D)} {v : V} (h : RepC K E (.dct xs) v) : ∃ a vs, v = .ref a ∧ E.H a = some (.dK vs) ∧ RepK K E xs vs := h
theorem c_scr {xs : List D} {v : V} (h : RepC K E (.scr xs) v) : ∃ a vs, v = .ref a ∧ StL K E.H a vs ∧ RepA K E xs vs := (rep_scr (K := K) (E := E)).mp h
theorem c_loc {n : Nat} {v : V} (h : RepC K E (.loc n) v) : ∃ a, v = .ref a ∧ E.μ[n]? = some a := (rep_loc (K := K) (E := E)).mp h
end
theorem binop_ok {o : Op} {x y : D} (I : Inv G.X pins σ E₂.H s) (w : G.WO E₂ st) (xe : Ext E E₂) (r1 : RepX G.X.K E₂ x v1) (r2 : RepX G.X.K E₂ y v2) (ru1 : RelV v1 u1) (ru2 : RelV v2 u2)
    (h : Out (ofO (binop o st x y) st) (G.okP pins σ E Q) (G.er E σ)) : wpAny G.M G.X.A (binaryOp (opO o) u1 u2) Q G.X.xe s := by
  obtain ⟨r, hr, hP⟩ := h.ofO
  have c1 := view_x w r1
  have c2 := view_x w r2
  unfold binop at hr
  split at hr
  · -- ints
    rename_i i j e1 e2
    rw [e1] at c1; rw [e2] at c2
    cases hr
    obtain rfl := c_int c1
    obtain rfl := c_int c2
    exact by_op op_add I ru1 ru2 ⟨i, j, rfl, rfl, ⟨rfl, rfl⟩⟩ fun v H' u s' I' ru p => ok_same hP xe w (rep_int.mpr rfl) I' ru p
  · rename_i a b e1 e2
    rw [e1] at c1; rw [e2] at c2
    split at hr
    · rename_i hl
      cases hr
      obtain ⟨rfl, l1⟩ := c_str c1
      obtain ⟨rfl, l2⟩ := c_str c2
      refine by_op op_add_str I ru1 ru2 ⟨_, _, rfl, rfl, by rw [str_len, str_len, ← line_eq]; exact hl, ⟨rfl, rfl⟩⟩ fun v H' u s' I' ru p => ok_same hP xe w (rep_str.mpr ⟨?_, by rw [List.length_append]; exact hl⟩) I' ru p
      rw [str_app]
    · cases hr
  · rename_i a b e1 e2
    rw [e1] at c1; rw [e2] at c2
    split at hr
    · rename_i hl
      cases hr
      obtain ⟨p, vs, rfl, s1, q1⟩ := c_tup c1
      obtain ⟨q, ws, rfl, s2, q2⟩ := c_tup c2
      have hl' : vs.length + ws.length ≤ sizeLine := by rw [← q1.length, ← q2.length, ← line_eq]; exact hl
      have q12 := q1.append q2
      refine by_op (P := fun v' H' => (v' = .ref q ∧ H' = E₂.H ∧ vs = []) ∨ (v' = .ref p ∧ H' = E₂.H ∧ ws = []) ∨ ∃ n, E₂.H n = none ∧ same (.ref n) (upd E₂.H n (.tup (vs ++ ws))) v' H') op_catA I ru1 ru2
        ⟨p, q, vs, ws, rfl, rfl, s1, s2, hl', fun z => .inl ⟨rfl, rfl, z⟩, fun _ z => .inr (.inl ⟨rfl, rfl, z⟩), fun _ _ n hn => .inr (.inr ⟨n, hn, rfl, rfl⟩)⟩ fun v H' u s' I' ru z => ?_
      rcases z with ⟨e, eH, z⟩ | ⟨e, eH, z⟩ | ⟨n, hn, z⟩
      · subst e eH z
        rw [List.nil_append] at q12
        exact hP E₂ _ u s' xe w (rep_tup.mpr ⟨q, ws, rfl, s2, q12⟩) I' ru
      · subst e eH z
        rw [List.append_nil] at q12
        exact hP E₂ _ u s' xe w (rep_tup.mpr ⟨p, vs, rfl, s1, q12⟩) I' ru
      · exact ok_new_tup hP xe w q12 hn I' ru z
    · cases hr
  · rename_i a b e1 e2
    rw [e1] at c1; rw [e2] at c2
    split at hr
    · rename_i hl
      cases hr
      obtain ⟨p, vs, rfl, s1, q1⟩ := c_lst c1
      obtain ⟨q, ws, rfl, s2, q2⟩ := c_lst c2
      have hl' : vs.length + ws.length ≤ sizeLine := by rw [← q1.length, ← q2.length, ← line_eq]; exact hl
      refine by_op (P := fun v' H' => ∃ n, E₂.H n = none ∧ same (.ref n) (upd E₂.H n (.lst (vs ++ ws))) v' H') op_cat I ru1 ru2 ⟨p, q, vs, ws, rfl, rfl, s1, s2, hl', fun n hn => ⟨n, hn, rfl, rfl⟩⟩ fun v H' u s' I' ru ⟨n, hn, z⟩ => ?_
      exact ok_new_lst hP xe w (q1.append q2) hn I' ru z
    · cases hr
  · rename_i i j e1 e2
    rw [e1] at c1; rw [e2] at c2
    cases hr
    obtain rfl := c_int c1
    obtain rfl := c_int c2
    exact by_op op_sub I ru1 ru2 ⟨i, j, rfl, rfl, ⟨rfl, rfl⟩⟩ fun v H' u s' I' ru p => ok_same hP xe w (rep_int.mpr rfl) I' ru p
  · rename_i i j e1 e2
    rw [e1] at c1; rw [e2] at c2
    split at hr
    · rename_i hc
      cases hr
      obtain rfl := c_int c1
      obtain rfl := c_int c2
      have hc' : CMul i j := by unfold CMul; omega
      exact by_op op_mul I ru1 ru2 ⟨i, j, rfl, rfl, hc', ⟨rfl, rfl⟩⟩ fun v H' u s' I' ru p => ok_same hP xe w (rep_int.mpr rfl) I' ru p
    · cases hr
  · -- text * int
    rename_i a j e1 e2
    rw [e1] at c1; rw [e2] at c2
    split at hr
    · rename_i hc
      cases hr
      obtain ⟨rfl, l1⟩ := c_str c1
      obtain rfl := c_int c2
      obtain ⟨t1, rfl⟩ := ru1
      obtain ⟨t2, rfl⟩ := ru2
      obtain ⟨h1, h2, h3⟩ := hc
      have hline : line = 16777216 := rfl
      have et : Txt.mul ⟨a.toArray⟩ j = ⟨(List.replicate j.toNat a).flatten.toArray⟩ := by
        unfold Txt.mul
        split
        · rename_i hj
          have : j = 0 := by omega
          subst this
          rfl
        · split
          · rename_i hj hk
            rcases Bool.or_eq_true_iff.mp hk with hk | hk
            · have : j = 1 := by simpa using hk
              subst this
              simp
            · have : a = [] := by simpa [Str.length] using hk
              subst this
              simp
          · have gen : ∀ (n : Nat) (acc : Array Nat), (List.replicate n a.toArray).foldl (· ++ ·) acc = acc ++ (List.replicate n a).flatten.toArray := by
              intro n
              induction n with
              | zero => intro acc; simp
              | succ n ih => intro acc; rw [List.replicate_succ, List.foldl_cons, ih, List.replicate_succ, List.flatten_cons]; simp
            rw [gen]
            simp
      refine SB.mul ⟨by simp; omega, fun _ _ => ?_, fun _ _ => ?_⟩ fun t' k => ?_
      · have hn : 0 < j := by
          rename_i q _
          omega
        rw [str_len]
        have : (a.length : Int) ≤ (2 ^ 63 - 1) / j := by
          rw [Int.le_ediv_iff_mul_le hn]
          have h4 : (a.length : Int) * j = ((a.length * j.toNat : Nat) : Int) := by
            rw [Int.natCast_mul, Int.toNat_of_nonneg h2]
          omega
        omega
      · rw [str_len]
        unfold Builtin.Str.tooLong
        have := line_eq
        simp
        omega
      · rw [et]
        refine hP E₂ (.str ⟨(List.replicate j.toNat a).flatten.toArray⟩) _ _ xe w ((rep_str (K := G.X.K) (E := E₂) (s := (List.replicate j.toNat a).flatten)).mpr ⟨rfl, ?_⟩) (I.tok _) ⟨_, rfl⟩
        rw [List.length_flatten, List.map_replicate, List.sum_replicate_nat, Nat.mul_comm]
        exact h1
    · cases hr
  · rename_i i j e1 e2
    rw [e1] at c1; rw [e2] at c2
    split at hr
    · rename_i hc
      cases hr
      obtain rfl := c_int c1
      obtain rfl := c_int c2
      exact by_op op_fdiv I ru1 ru2 ⟨i, j, rfl, rfl, hc, ⟨rfl, rfl⟩⟩ fun v H' u s' I' ru p => ok_same hP xe w (rep_int.mpr rfl) I' ru p
    · cases hr
  · rename_i i j e1 e2
    rw [e1] at c1; rw [e2] at c2
    split at hr
    · rename_i hc
      cases hr
      obtain rfl := c_int c1
      obtain rfl := c_int c2
      exact by_op op_mod I ru1 ru2 ⟨i, j, rfl, rfl, hc, ⟨rfl, rfl⟩⟩ fun v H' u s' I' ru p => ok_same hP xe w (rep_int.mpr rfl) I' ru p
    · cases hr
  · rename_i i j e1 e2
    rw [e1] at c1; rw [e2] at c2
    split at hr
    · rename_i hc
      cases hr
      obtain rfl := c_int c1
      obtain rfl := c_int c2
      have hc' : CPow i j := ⟨hc.1, by omega, hc.2.2⟩
      exact by_op op_pow I ru1 ru2 ⟨i, j, rfl, rfl, hc', ⟨rfl, rfl⟩⟩ fun v H' u s' I' ru p => ok_same hP xe w (rep_int.mpr rfl) I' ru p
    · cases hr
  · cases hr

theorem cmpOk_cases {x y : D} (h : cmpOk x y = true) : plainD x = true ∧ plainD y = true ∧ dep x ≤ 32 ∧ dep y ≤ 32 := by
  unfold cmpOk at h
  simp only [Bool.and_eq_true, decide_eq_true_eq] at h
  exact ⟨h.1.1.1, h.1.1.2, h.1.2, h.2⟩
/-- the truth of a comparison comes -/
theorem ok_bl {b : Bool} {s' : Shared} (hP : G.okP pins σ E Q (.bl b, .fz) st) (xe : Ext E E₂) (w : G.WO E₂ st) (I : Inv G.X pins σ E₂.H s') : Q (.bool b) s' :=
  hP E₂ (.bl b) _ s' xe w ((rep_bl (K := G.X.K) (E := E₂)).mpr rfl) I rfl
theorem eq_ok {x y : D} (hu : G.X.A.units + 64 < cLine) (I : Inv G.X pins σ E₂.H s) (w : G.WO E₂ st) (r1 : RepX G.X.K E₂ x v1) (r2 : RepX G.X.K E₂ y v2) (ru1 : RelV v1 u1) (ru2 : RelV v2 u2) (hc : cmpOk (view st x) (view st y) = true) (h : Q (.bool (deq (view st x) (view st y))) s) :
    wpAny G.M G.X.A (compareOp .Eq u1 u2) Q G.X.xe s := by
  obtain ⟨p1, p2, d1, d2⟩ := cmpOk_cases hc
  obtain ⟨as, a1⟩ := readsC I (view_x w r1) ru1 p1
  obtain ⟨bs, a2⟩ := readsC I (view_x w r2) ru2 p2
  refine PySem.SeqAt.eq_plain a1 a2 (plain_py _ p1) (plain_py _ p2) ?_ (by rw [eqv_py _ _ p1 p2]; exact h)
  have := depth_py (view st x)
  omega
theorem ne_ok {x y : D} (hu : G.X.A.units + 64 < cLine) (I : Inv G.X pins σ E₂.H s) (w : G.WO E₂ st) (r1 : RepX G.X.K E₂ x v1) (r2 : RepX G.X.K E₂ y v2) (ru1 : RelV v1 u1) (ru2 : RelV v2 u2) (hc : cmpOk (view st x) (view st y) = true) (h : Q (.bool (!deq (view st x) (view st y))) s) :
    wpAny G.M G.X.A (compareOp .NotEq u1 u2) Q G.X.xe s := by
  obtain ⟨p1, p2, d1, d2⟩ := cmpOk_cases hc
  obtain ⟨as, a1⟩ := readsC I (view_x w r1) ru1 p1
  obtain ⟨bs, a2⟩ := readsC I (view_x w r2) ru2 p2
  refine PySem.SeqAt.ne_plain a1 a2 (plain_py _ p1) (plain_py _ p2) ?_ (by rw [eqv_py _ _ p1 p2]; exact h)
  have := depth_py (view st x)
  omega

/-! ### dicts -/
theorem rep_key {K : PySem.W.Frag} {E : WS} {d : D} {k : Key} {v : V} (h : keyOf d = some k) (r : RepC K E d v) : v = kV k := by
  cases d <;> simp only [keyOf] at h <;> first | (cases h; done) | skip
  · cases h; exact c_int r
  · cases h; exact (c_str r).1
theorem isKey_of {d : D} (h : isKey d = true) : ∃ k, keyOf d = some k := by
  cases d <;> simp only [isKey] at h <;> first | (cases h; done) | exact ⟨_, rfl⟩
theorem keyEq_iff {a b : D} {k j : Key} (ha : keyOf a = some k) (hb : keyOf b = some j) : keyEq a b = decide (k = j) := by
  cases a <;> simp only [keyOf] at ha <;> first | (cases ha; done) | skip
  · cases ha
    cases b <;> simp only [keyOf] at hb <;> first | (cases hb; done) | skip
    · cases hb; simp only [keyEq]; rw [Bool.eq_iff_iff]; simp
    · cases hb; simp [keyEq]
  · cases ha
    cases b <;> simp only [keyOf] at hb <;> first | (cases hb; done) | skip
    · cases hb; simp [keyEq]
    · cases hb; simp only [keyEq]; rw [Bool.eq_iff_iff]; simp
theorem RepK.get {K : PySem.W.Frag} {E : WS} {kd : D} {k : Key} (hk : keyOf kd = some k) : ∀ {kvs : List (D × D)} {ks : List (Key × V)}, RepK K E kvs ks →
    (∀ d, dget kvs kd = some d → ∃ v, valV ks k = some v ∧ Rep K E d v) ∧ (dget kvs kd = none → valV ks k = none)
  | [], ks, h => by
    rw [RepK] at h
    subst h
    exact ⟨fun d e => (by simp [dget] at e), fun _ => rfl⟩
  | (a, d) :: r, ks, h => by
    rw [RepK] at h
    obtain ⟨j, v, q, e, ⟨h0, _⟩, h1, h2⟩ := h
    subst e
    have ih := RepK.get hk h2
    have e2 := keyEq_iff h0 hk
    unfold dget
    by_cases z : j = k
    · rw [e2, decide_eq_true z, if_pos rfl]
      exact ⟨fun d' e => ⟨v, valV_pos (p := (j, v)) z, by cases e; exact h1⟩, fun e => by cases e⟩
    · rw [e2, decide_eq_false z, if_neg (by decide), valV_neg (p := (j, v)) z]
      exact ih
theorem RepK.isSome {K : PySem.W.Frag} {E : WS} {kd : D} {k : Key} (hk : keyOf kd = some k) {kvs : List (D × D)} {ks : List (Key × V)} (h : RepK K E kvs ks) : (valV ks k).isSome = (dget kvs kd).isSome := by
  have g := h.get hk
  cases q : dget kvs kd with
  | none => rw [g.2 q]; rfl
  | some d =>
    obtain ⟨v, e, _⟩ := g.1 d q
    rw [e]; rfl

/-! ### in, is -/
def cpO : Cp → CmpOp
  | .eq => .Eq | .ne => .NotEq | .lt => .Lt | .le => .LtE | .gt => .Gt | .ge => .GtE | .isin => .In | .notin => .NotIn | .is => .Is | .isnot => .IsNot
theorem isMem_py {x : D} {xs : List D} (hx : plainD x = true) (hxs : plainA xs = true) : (pyAll xs).any (fun y => PyData.eqv y (py x)) = isMem x xs := by
  induction xs with
  | nil => rfl
  | cons y ys ih =>
    rw [plainA, Bool.and_eq_true] at hxs
    simp only [pyAll, List.any_cons, isMem]
    rw [eqv_py y x hxs.1 hx, ih hxs.2]
    rfl
theorem memOk_cases {xs : List D} {x : D} (h : memOk xs x = true) : plainD x = true ∧ plainA xs = true ∧ dep x ≤ 32 ∧ depA xs ≤ 32 := by
  unfold memOk at h
  simp only [Bool.and_eq_true, decide_eq_true_eq] at h
  exact ⟨h.1.1.1, h.1.1.2, h.1.2, h.2⟩
theorem in_ok {x y : D} {b : Bool} (hu : G.X.A.units + 128 < cLine) (I : Inv G.X pins σ E₂.H s) (w : G.WO E₂ st) (r1 : RepX G.X.K E₂ x v1) (r2 : RepX G.X.K E₂ y v2) (ru1 : RelV v1 u1) (ru2 : RelV v2 u2) (hc : contains st x y = some b) :
    ((∀ s', Inv G.X pins σ E₂.H s' → Q (.bool b) s') → wpAny G.M G.X.A (compareOp .In u1 u2) Q G.X.xe s) ∧
    ((∀ s', Inv G.X pins σ E₂.H s' → Q (.bool (!b)) s') → wpAny G.M G.X.A (compareOp .NotIn u1 u2) Q G.X.xe s) := by
  have c1 := view_x w r1
  have c2 := view_x w r2
  unfold contains at hc
  split at hc
  · rename_i xs e
    rw [e] at c2
    split at hc
    · rename_i hm
      cases hc
      obtain ⟨p1, p2, d1, d2⟩ := memOk_cases hm
      obtain ⟨as, a1⟩ := readsC I c1 ru1 p1
      obtain ⟨bs, a2⟩ := readsC I c2 ru2 (by simpa [plainD] using p2)
      have hd := depth_py (view st x)
      have hb : G.X.A.units + 1 + min (PyData.depthAll (pyAll xs)) (py (view st x)).depth < cLine := by omega
      rw [py] at a2
      rw [← isMem_py p1 p2]
      exact ⟨fun h => PySem.SeqAt.in_tuple_data a2 a1 (plain_pyA _ p2) (plain_py _ p1) hb (h s I), fun h => PySem.SeqAt.notIn_tuple_data a2 a1 (plain_pyA _ p2) (plain_py _ p1) hb (h s I)⟩
    · cases hc
  · rename_i xs e
    rw [e] at c2
    split at hc
    · rename_i hm
      cases hc
      obtain ⟨p1, p2, d1, d2⟩ := memOk_cases hm
      obtain ⟨as, a1⟩ := readsC I c1 ru1 p1
      obtain ⟨bs, a2⟩ := readsC I c2 ru2 (by simpa [plainD] using p2)
      have hd := depth_py (view st x)
      have hb : G.X.A.units + 1 + min (PyData.depthAll (pyAll xs)) (py (view st x)).depth < cLine := by omega
      rw [py] at a2
      rw [← isMem_py p1 p2]
      exact ⟨fun h => PySem.SeqAt.in_list_data a2 a1 (plain_pyA _ p2) (plain_py _ p1) hb (h s I), fun h => PySem.SeqAt.notIn_list_data a2 a1 (plain_pyA _ p2) (plain_py _ p1) hb (h s I)⟩
    · cases hc
  · rename_i kvs e
    rw [e] at c2
    split at hc
    · rename_i hk
      cases hc
      obtain ⟨k, hk⟩ := isKey_of hk
      obtain ⟨a, ks, rfl, hd, rK⟩ := c_dct c2
      cases ru2
      have e1 := rep_key hk r1.c
      subst e1
      rw [← rK.isSome hk]
      exact ⟨fun h => d_in (by omega) I (DGet.k hd) ru1 fun s' I' => h s' I', fun h => d_notIn (by omega) I (DGet.k hd) ru1 fun s' I' => h s' I'⟩
    · cases hc
  · rename_i t e
    rw [e] at c2
    split at hc
    · rename_i c
      cases hc
      obtain ⟨rfl, _⟩ := c_str c2
      obtain ⟨rfl, _⟩ := c_str r1.c
      exact ⟨fun h => by_op (P := same (.bl (decide (c ∈ t))) E₂.H) op_in_sign I ru1 ru2 ⟨c, _, rfl, rfl, ⟨by simp, rfl⟩⟩ fun v H' u s' I' ru ⟨e1, e2⟩ => by subst e1 e2; cases ru; exact h s' I',
        fun h => by_op (P := same (.bl (!decide (c ∈ t))) E₂.H) op_notIn_sign I ru1 ru2 ⟨c, _, rfl, rfl, ⟨by simp, rfl⟩⟩ fun v H' u s' I' ru ⟨e1, e2⟩ => by subst e1 e2; cases ru; exact h s' I'⟩
    · cases hc
  · cases hc
theorem c_lam {K : PySem.W.Frag} {E : WS} {n : Nat} {v : V} (h : RepC K E (.lam n) v) : False := (rep_lam (K := K) (E := E) (n := n) (v := v)) h
theorem c_non_iff {K : PySem.W.Frag} {E : WS} {x : D} {v : V} (c : RepC K E x v) : decide (v = .non) = isNon x := by
  cases x with
  | non => rw [c_non c]; rfl
  | bl b => rw [c_bl c]; rfl
  | int i => rw [c_int c]; rfl
  | str i => rw [(c_str c).1]; rfl
  | tup i => obtain ⟨a, vs, rfl, _⟩ := c_tup c; rfl
  | lst i => obtain ⟨a, vs, rfl, _⟩ := c_lst c; rfl
  | dct i => obtain ⟨a, vs, rfl, _⟩ := c_dct c; rfl
  | scr i => obtain ⟨a, vs, rfl, _⟩ := c_scr c; rfl
  | loc i => obtain ⟨a, rfl, _⟩ := c_loc c; rfl
  | lam i => exact (c_lam c).elim
theorem RepX.non_iff {K : PySem.W.Frag} {E : WS} {x : D} {v : V} (r : RepX K E x v) : decide (v = .non) = isNon x := c_non_iff r.c
theorem is_ok {x y : D} {b : Bool} (I : Inv G.X pins σ E₂.H s) (r1 : RepX G.X.K E₂ x v1) (r2 : RepX G.X.K E₂ y v2) (ru1 : RelV v1 u1) (ru2 : RelV v2 u2) (hc : isSame x y = some b) :
    (Q (.bool b) s → wpAny G.M G.X.A (compareOp .Is u1 u2) Q G.X.xe s) ∧ (Q (.bool (!b)) s → wpAny G.M G.X.A (compareOp .IsNot u1 u2) Q G.X.xe s) := by
  unfold isSame at hc
  split at hc
  · cases hc
    have e := c_non r2.c
    subst e
    cases ru2
    rw [← r1.non_iff, ← ru1.none_iff]
    exact ⟨fun h => is_none_gen h, fun h => isnot_none_gen h⟩
  · rename_i b'
    cases hc
    have e := c_bl r2.c
    subst e
    cases ru2
    have c := r1.c
    cases x with
    | bl a =>
      have e := c_bl c
      subst e
      cases ru1
      exact ⟨fun h => is_bool h, fun h => isnot_bool (by rw [bne]; exact h)⟩
    | non => have e := c_non c; subst e; cases ru1; exact ⟨fun h => wpAny_is_other rfl (by intro z; cases z) h, fun h => wpAny_isNot_other rfl (by intro z; cases z) h⟩
    | int i => have e := c_int c; subst e; obtain ⟨t, rfl⟩ := ru1; exact ⟨fun h => wpAny_is_other rfl (by intro z; cases z) h, fun h => wpAny_isNot_other rfl (by intro z; cases z) h⟩
    | str i => have e := (c_str c).1; subst e; obtain ⟨t, rfl⟩ := ru1; exact ⟨fun h => wpAny_is_other rfl (by intro z; cases z) h, fun h => wpAny_isNot_other rfl (by intro z; cases z) h⟩
    | tup i => obtain ⟨a, vs, rfl, _⟩ := c_tup c; cases ru1; exact ⟨fun h => wpAny_is_other rfl (by intro z; cases z) h, fun h => wpAny_isNot_other rfl (by intro z; cases z) h⟩
    | lst i => obtain ⟨a, vs, rfl, _⟩ := c_lst c; cases ru1; exact ⟨fun h => wpAny_is_other rfl (by intro z; cases z) h, fun h => wpAny_isNot_other rfl (by intro z; cases z) h⟩
    | dct i => obtain ⟨a, vs, rfl, _⟩ := c_dct c; cases ru1; exact ⟨fun h => wpAny_is_other rfl (by intro z; cases z) h, fun h => wpAny_isNot_other rfl (by intro z; cases z) h⟩
    | scr i => obtain ⟨a, vs, rfl, _⟩ := c_scr c; cases ru1; exact ⟨fun h => wpAny_is_other rfl (by intro z; cases z) h, fun h => wpAny_isNot_other rfl (by intro z; cases z) h⟩
    | loc i => obtain ⟨a, rfl, _⟩ := c_loc c; cases ru1; exact ⟨fun h => wpAny_is_other rfl (by intro z; cases z) h, fun h => wpAny_isNot_other rfl (by intro z; cases z) h⟩
    | lam i => exact (c_lam c).elim
  · cases hc
/-- a comparison -/
theorem cmpop_ok {o : Cp} {x y : D} {b : Bool} (hu : G.X.A.units + 128 < cLine) (I : Inv G.X pins σ E₂.H s) (w : G.WO E₂ st) (r1 : RepX G.X.K E₂ x v1) (r2 : RepX G.X.K E₂ y v2) (ru1 : RelV v1 u1) (ru2 : RelV v2 u2) (hc : cmpop o st x y = some b)
    (h : ∀ s', Inv G.X pins σ E₂.H s' → Q (.bool b) s') : wpAny G.M G.X.A (compareOp (cpO o) u1 u2) Q G.X.xe s := by
  cases o <;> simp only [cmpop] at hc
  · split at hc
    · rename_i hk; cases hc; exact eq_ok (by omega) I w r1 r2 ru1 ru2 hk (h s I)
    · cases hc
  · split at hc
    · rename_i hk; cases hc; exact ne_ok (by omega) I w r1 r2 ru1 ru2 hk (h s I)
    · cases hc
  · split at hc
    · rename_i i j; cases hc
      have e1 := c_int r1.c; have e2 := c_int r2.c; subst e1 e2
      obtain ⟨t, rfl⟩ := ru1; obtain ⟨t', rfl⟩ := ru2
      exact lt_int (h s I)
    · cases hc
  · split at hc
    · rename_i i j; cases hc
      have e1 := c_int r1.c; have e2 := c_int r2.c; subst e1 e2
      obtain ⟨t, rfl⟩ := ru1; obtain ⟨t', rfl⟩ := ru2
      exact le_int (h s I)
    · cases hc
  · split at hc
    · rename_i i j; cases hc
      have e1 := c_int r1.c; have e2 := c_int r2.c; subst e1 e2
      obtain ⟨t, rfl⟩ := ru1; obtain ⟨t', rfl⟩ := ru2
      exact gt_int (h s I)
    · cases hc
  · split at hc
    · rename_i i j; cases hc
      have e1 := c_int r1.c; have e2 := c_int r2.c; subst e1 e2
      obtain ⟨t, rfl⟩ := ru1; obtain ⟨t', rfl⟩ := ru2
      exact ge_int (h s I)
    · cases hc
  · exact (in_ok hu I w r1 r2 ru1 ru2 hc).1 h
  · cases q : contains st x y with
    | none => rw [q] at hc; cases hc
    | some c => rw [q] at hc; cases hc; exact (in_ok hu I w r1 r2 ru1 ru2 q).2 h
  · exact (is_ok I r1 r2 ru1 ru2 hc).1 (h s I)
  · cases q : isSame x y with
    | none => rw [q] at hc; cases hc
    | some c => rw [q] at hc; cases hc; exact (is_ok I r1 r2 ru1 ru2 q).2 (h s I)
theorem emp0 {α : Type} {xs : List α} : ((xs.length : Int) != 0) = !xs.isEmpty := by
  cases xs with
  | nil => rfl
  | cons a r =>
    simp [bne]
    omega
theorem emp1 {α β : Type} {xs : List α} {ys : List β} (h : xs.length = ys.length) : (!ys.isEmpty) = !xs.isEmpty := by
  cases xs <;> cases ys <;> simp_all
/-- a value's truth -/
theorem truth_ok {x : D} {b : Bool} {Q : Bool → Shared → Prop} (I : Inv G.X pins σ E₂.H s) (w : G.WO E₂ st) (r : RepX G.X.K E₂ x v1) (ru : RelV v1 u1) (ht : truth st x = some b) (h : ∀ s', Inv G.X pins σ E₂.H s' → Q b s') :
    wpAny G.M G.X.A (truthy u1) Q G.X.xe s := by
  have c := view_x w r
  have key : ∀ {b'}, TruV G.X.K v1 E₂.H b' → b' = b → wpAny G.M G.X.A (truthy u1) Q G.X.xe s := fun {b'} t e => by
    refine L2.thn (tru_ok pins s σ E₂.H v1 u1 (fun k H' => k = b' ∧ H' = E₂.H) I ru ⟨b', t, rfl, rfl⟩) fun k s' ⟨H', I', e1, e2⟩ => ?_
    rw [e2] at I'
    rw [e1, e]
    exact h s' I'
  unfold truth at ht
  split at ht <;> (rename_i e; rw [e] at c) <;> first | (cases ht; done) | skip
  · cases ht; have e := c_non c; subst e; exact key (b' := false) rfl rfl
  · cases ht; have e := c_bl c; subst e; exact key rfl rfl
  · cases ht; have e := c_int c; subst e; exact key rfl rfl
  · cases ht
    obtain ⟨e, l⟩ := c_str c
    subst e
    refine key ⟨by rw [str_len, ← line_eq]; exact l, rfl⟩ ?_
    rw [str_len]
    exact emp0
  · cases ht
    obtain ⟨a, vs, rfl, hs, rA⟩ := c_tup c
    refine key (.inr (.inl ⟨vs, hs, rfl⟩)) ?_
    exact emp1 rA.length
  · cases ht
    obtain ⟨a, vs, rfl, hs, rA⟩ := c_lst c
    refine key (.inl ⟨vs, .inl (.inl hs), rfl⟩) ?_
    exact emp1 rA.length
  · cases ht
    obtain ⟨a, vs, rfl, hs, rA⟩ := c_dct c
    refine key (.inr (.inr ⟨vs, hs, rfl⟩)) ?_
    exact emp1 rA.length
end
end RS
end S6
section S7
set_option autoImplicit false
set_option linter.all false
set_option maxRecDepth 100000
set_option Elab.async false
/-! A7: items, slices; the expressions that operate. -/
namespace RS
open PySem PySem.Spec PyProof.Rows L2

section
variable {G : Cfg} {pins : List (Addr × Obj)} {s : Shared} {σ : L2.St} {E E₂ : WS} {st : Sto} {v1 v2 : V} {u1 u2 : Value} {Q : Value → Shared → Prop} {ρ : Env}
theorem ok_rep {d : D} {v : V} {u : Value} {s' : Shared} (hP : G.okP pins σ E Q (d, .fz) st) (xe : Ext E E₂) (w : G.WO E₂ st) (r : Rep G.X.K E₂ d v) (I : Inv G.X pins σ E₂.H s') (ru : RelV v u) : Q u s' := hP E₂ v u s' xe w r I ru
theorem atD_eq {α : Type} (xs : List α) (i : Int) : atD xs i = atI xs i := rfl
theorem atD_rep {K : PySem.W.Frag} {E : WS} {xs : List D} {vs : List V} {i : Int} {d : D} (rA : RepA K E xs vs) (h : atD xs i = some d) : ∃ v, atI vs i = some v ∧ Rep K E d v := by
  unfold atD at h
  cases q : ix xs.length i with
  | none => rw [q] at h; cases h
  | some n =>
    rw [q] at h
    obtain ⟨v, hv, r⟩ := rA.at h
    refine ⟨v, ?_, r⟩
    show (ixN vs.length i).bind (fun j => vs[j]?) = some v
    rw [← rA.length]
    show (ix xs.length i).bind (fun j => vs[j]?) = some v
    rw [q]
    exact hv
theorem by_ix {r : R2} {va vb : Expr} {P : V → Hp → Prop} {H : Hp} (ho : IxR G.X r) (hs : subscripted vb false u1 u2 = operate [u1, u2] (getItem u1 u2)) (I : Inv G.X pins σ H s) (r1 : RelV v1 u1) (r2 : RelV v2 u2) (hr : r v1 v2 H P)
    (k : ∀ v H' u s', Inv G.X pins σ H' s' → RelV v u → P v H' → Q u s') : wpAny G.M G.X.A (subscriptTail va vb u1 u2) Q G.X.xe s :=
  L2.thn (ho va vb pins s σ H v1 v2 u1 u2 P I r1 r2 hr hs) fun u s' ⟨v, H', I', ru, p⟩ => k v H' u s' I' ru p
theorem item_ok {va vb : Expr} {x i : D} (hu : G.X.A.units + 128 < cLine) (hs : PlainIx vb) (I : Inv G.X pins σ E₂.H s) (w : G.WO E₂ st) (xe : Ext E E₂) (r1 : RepX G.X.K E₂ x v1) (r2 : RepX G.X.K E₂ i v2) (ru1 : RelV v1 u1) (ru2 : RelV v2 u2)
    (h : Out (ofO (item st x i) st) (G.okP pins σ E Q) (G.er E σ)) : wpAny G.M G.X.A (subscriptTail va vb u1 u2) Q G.X.xe s := by
  obtain ⟨r, hr, hP⟩ := h.ofO
  have c1 := view_x w r1
  unfold item at hr
  split at hr
  · rename_i xs k e
    rw [e] at c1
    have e2 := c_int r2.c
    subst e2
    obtain ⟨d, hd, e3⟩ := Option.map_eq_some_iff.mp hr
    subst e3
    obtain ⟨a, vs, rfl, hq, rA⟩ := c_tup c1
    obtain ⟨v, hv, rd⟩ := atD_rep rA hd
    exact by_ix (P := same v E₂.H) ix_tup (hs _ _) I ru1 ru2 ⟨a, vs, k, v, rfl, rfl, hq, hv, rfl, rfl⟩ fun v' H' u s' I' ru p => ok_same hP xe w rd I' ru p
  · rename_i xs k e
    rw [e] at c1
    have e2 := c_int r2.c
    subst e2
    obtain ⟨d, hd, e3⟩ := Option.map_eq_some_iff.mp hr
    subst e3
    obtain ⟨a, vs, rfl, hq, rA⟩ := c_lst c1
    obtain ⟨v, hv, rd⟩ := atD_rep rA hd
    exact by_ix (P := same v E₂.H) ix_list (hs _ _) I ru1 ru2 ⟨a, vs, k, v, rfl, rfl, .inl (.inl hq), hv, rfl, rfl⟩ fun v' H' u s' I' ru p => ok_same hP xe w rd I' ru p
  · rename_i z k e
    rw [e] at c1
    have e2 := c_int r2.c
    subst e2
    obtain ⟨c, hd, e3⟩ := Option.map_eq_some_iff.mp hr
    subst e3
    obtain ⟨e4, l⟩ := c_str c1
    subst e4
    refine by_ix (P := same (.str ⟨#[c]⟩) E₂.H) ix_str (hs _ _) I ru1 ru2 ⟨_, k, c, rfl, rfl, by rw [str_len, ← line_eq]; exact l, by rw [← atD_eq]; simpa using hd, rfl, rfl⟩ fun v' H' u s' I' ru p => ok_same hP xe w (rep_str.mpr ⟨rfl, ?_⟩) I' ru p
    show 1 ≤ line
    unfold line; omega
  · rename_i kvs k e
    rw [e] at c1
    split at hr
    · rename_i hk
      obtain ⟨k', hk⟩ := isKey_of hk
      obtain ⟨d, hd, e3⟩ := Option.map_eq_some_iff.mp hr
      subst e3
      obtain ⟨a, ks, rfl, hq, rK⟩ := c_dct c1
      obtain ⟨v, hv, rd⟩ := (rK.get hk).1 d hd
      have e1 := rep_key hk r2.c
      subst e1
      cases ru1
      have g : DGet E₂.H a (kV k') (some v) := by rw [← hv]; exact DGet.k hq
      exact tail_any (dict_typeIs I g) PySem.F.slot_dict_getitem.lookup (d_getItem (by omega) I g ru2 fun w' s3 I3 rw' => ok_rep hP xe w rd I3 rw') (hs _ _)
    · cases hr
  · cases hr

/-! ### bounds -/
structure SB (G : Cfg) (e : Option Expr) (m : Env → Sto → R (D × Kd)) : Prop where
  run : ∀ (pins : List (Addr × Obj)) (s : Shared) (σ : L2.St) (E : WS) (ρ : Env) (st : Sto) (Q : Value → Shared → Prop), Inv G.X pins σ E.H s → G.WO E st → G.Fr E σ ρ → G.Tk s →
    Out (m ρ st) (G.okP pins σ E Q) (G.er E σ) → wpAny G.M G.X.A (evalPart e G.X.env) Q G.X.xe s
theorem SB.thn' {pins : List (Addr × Obj)} {s : Shared} {σ : L2.St} {E : WS} {ρ : Env} {st : Sto} {e : Option Expr} {m : Env → Sto → R (D × Kd)} (h : SB G e m) (I : Inv G.X pins σ E.H s) (w : G.WO E st) (f : G.Fr E σ ρ) (tk : G.Tk s) {β : Type} {F : D × Kd → Sto → R β} {P : β → Sto → Prop} {Pe : Nat → Sto → Prop} (hE : ∀ c t, Pe c t → G.er E σ c t)
    (hO : Out ((m ρ st).bind F) P Pe) {Q : Value → Shared → Prop}
    (k : ∀ x st1 E1 v u s1, Ext E E1 → G.WO E1 st1 → RepR G.X.K E E1 x.1 x.2 v → Inv G.X pins σ E1.H s1 → RelV v u → G.Tk s1 → Out (F x st1) P Pe → Q u s1) : wpAny G.M G.X.A (evalPart e G.X.env) Q G.X.xe s :=
  G.wtk tk (h.run pins s σ E ρ st _ I w f tk ((Out.bind.mp hO).mono (fun x st1 hx E1 v u s1 x1 w1 r1 I1 ru t1 => k x st1 E1 v u s1 x1 w1 r1 I1 ru t1 hx) hE))
theorem sb_none : SB G none (fun _ s => .ok (.non, .fz) s) := by
  refine ⟨fun pins s σ E ρ st Q I w f tk h => ?_⟩
  rw [evalPart_none]
  exact wpAny_pure (h E .non .none s (Ext.refl E) w ((rep_non (K := G.X.K) (E := E)).mpr rfl) I rfl)
theorem sb_some {e : Expr} {m : Env → Sto → R (D × Kd)} (he : SE G e m) : SB G (some e) m := by
  refine ⟨fun pins s σ E ρ st Q I w f tk h => ?_⟩
  rw [evalPart_some]
  exact he.run pins s σ E ρ st Q I w f tk h
theorem bnd_part {d : D} {o : Option Int} {K : PySem.W.Frag} {E : WS} {v : V} {u : Value} (h : bnd d = some o) (r : RepC K E d v) (ru : RelV v u) : IsPart u o := by
  cases d <;> simp only [bnd] at h <;> first | (cases h; done) | skip
  · cases h
    have e := c_non r
    subst e
    cases ru
    exact .none
  · split at h
    · cases h
      have e := c_int r
      subst e
      obtain ⟨t, rfl⟩ := ru
      exact .int _ _
    · cases h
theorem slice_len {α : Type} (xs : List α) (lo hi : Option Int) : (slice xs lo hi).length ≤ xs.length := by
  unfold slice
  rw [List.length_take, List.length_drop]
  omega
theorem sliced_ok {x lo hi : D} {l h : Option Int} {vl vu : Value} {sl : Addr} {r : D × Kd} (I : Inv G.X pins σ E₂.H s) (w : G.WO E₂ st) (xe : Ext E E₂) (r1 : RepX G.X.K E₂ x v1) (ru1 : RelV v1 u1)
    (hsl : s.heap.IsSliceOf sl vl vu .none) (pl : IsPart vl l) (pu : IsPart vu h) (hl : bnd lo = some l) (hh : bnd hi = some h) (hr : sliced st x lo hi = some r) (hP : G.okP pins σ E Q r st) :
    ∃ T id, typeLookup (.type T) "__getitem__" = pure (some (.builtin id)) ∧ s.TypeIs u1 T ∧ wpAny G.M G.X.A (getItem u1 (.ref sl)) Q G.X.xe s := by
  have c1 := view_x w r1
  have fin : ∀ {rr : V → Option Int → Option Int → Hp → VK → Prop} {P : V → Hp → Prop}, SlR G.X rr → rr v1 l h E₂.H P → (∀ v H' u s', Inv G.X pins σ H' s' → RelV v u → P v H' → Q u s') → ∃ T id, typeLookup (.type T) "__getitem__" = pure (some (.builtin id)) ∧ s.TypeIs u1 T ∧ wpAny G.M G.X.A (getItem u1 (.ref sl)) Q G.X.xe s := fun {rr P} hR hr k => by
    obtain ⟨T, id, a, b, c⟩ := hR pins s σ E₂.H v1 u1 vl vu l h sl P I ru1 hsl pl pu hr
    exact ⟨T, id, a, b, L2.thn c fun u s' ⟨v, H', I', ru, p⟩ => k v H' u s' I' ru p⟩
  unfold sliced at hr
  rw [hl, hh] at hr
  dsimp only at hr
  split at hr
  · rename_i xs e
    rw [e] at c1
    cases hr
    obtain ⟨a, vs, rfl, hq, rA⟩ := c_tup c1
    have rs := slice_rep rA l h
    refine fin (P := fun v' H' => (v' = .ref a ∧ H' = E₂.H ∧ (HT.sIx vs.length 0 l = 0 ∧ HT.sIx vs.length vs.length h = vs.length)) ∨ ∃ n, E₂.H n = none ∧ same (.ref n) (upd E₂.H n (.tup (cutV vs l h))) v' H') sl_tupA
      ⟨a, vs, rfl, hq, fun z => .inl ⟨rfl, rfl, z⟩, fun _ p hp => .inr ⟨p, hp, rfl, rfl⟩⟩ fun v H' u s' I' ru z => ?_
    rcases z with ⟨e, eH, z⟩ | ⟨n, hn, z⟩
    · subst e eH
      have ev : cutV vs l h = vs := by
        unfold cutV
        rw [z.1, z.2]
        simp
      rw [ev] at rs
      exact ok_rep hP xe w (rep_tup.mpr ⟨a, vs, rfl, hq, rs⟩) I' ru
    · exact ok_new_tup hP xe w rs hn I' ru z
  · rename_i xs e
    rw [e] at c1
    cases hr
    obtain ⟨a, vs, rfl, hq, rA⟩ := c_lst c1
    refine fin (P := fun v' H' => ∃ n, E₂.H n = none ∧ same (.ref n) (upd E₂.H n (.lst (cutV vs l h))) v' H') sl_list ⟨a, vs, rfl, .inl (.inl hq), fun p hp => ⟨p, hp, rfl, rfl⟩⟩ fun v H' u s' I' ru z => ?_
    obtain ⟨n, hn, z⟩ := z
    exact ok_new_lst hP xe w (slice_rep rA l h) hn I' ru z
  · rename_i xs e
    rw [e] at c1
    cases hr
    obtain ⟨a, vs, rfl, hq, rA⟩ := c_scr c1
    refine fin (P := fun v' H' => ∃ n, E₂.H n = none ∧ same (.ref n) (upd E₂.H n (.lst (cutV vs l h))) v' H') sl_list ⟨a, vs, rfl, hq.sqL, fun p hp => ⟨p, hp, rfl, rfl⟩⟩ fun v H' u s' I' ru z => ?_
    obtain ⟨n, hn, z⟩ := z
    exact ok_new_lst hP xe w (slice_rep rA l h) hn I' ru z
  · rename_i z e
    rw [e] at c1
    cases hr
    obtain ⟨e4, hz⟩ := c_str c1
    subst e4
    have es : cutS ⟨z.toArray⟩ l h = ⟨(slice z l h).toArray⟩ := by
      unfold cutS slice
      rw [str_len]
      have e1 : ∀ n d o, cut n d o = HT.sIx n d o := fun n d o => by cases o <;> rfl
      rw [e1, e1]
    refine fin (P := same (.str ⟨(slice z l h).toArray⟩) E₂.H) sl_str ⟨_, rfl, by rw [str_len, ← line_eq]; exact hz, by rw [es], rfl⟩ fun v H' u s' I' ru p => ok_same hP xe w (rep_str.mpr ⟨rfl, Nat.le_trans (slice_len z l h) hz⟩) I' ru p
  · cases hr
theorem sliced_bnd {st : Sto} {x lo hi : D} {r : D × Kd} (h : sliced st x lo hi = some r) : ∃ a b, bnd lo = some a ∧ bnd hi = some b := by
  unfold sliced at h
  split at h
  · rename_i a b e1 e2
    exact ⟨a, b, e1, e2⟩
  · cases h

/-! ### the expressions that operate -/
variable {a b c : Expr} {ma mb mc : Env → Sto → R (D × Kd)} {pos p2 : Pos}
theorem se_bin {o : Op} (ha : SE G a ma) (hb : SE G b mb) : SE G (.BinOp a (opO o) b pos) (fun ρ s => (ma ρ s).bind fun x s => (mb ρ s).bind fun y s => ofO (binop o s x.1 y.1) s) :=
  ⟨fun pins s σ E ρ st Q I w f tk h => wpAny_BinOp (two ha hb I w f tk h fun x y st2 E2 v1 u1 v2 u2 s2 x2 w2 r1 r2 I2 ru1 ru2 t2 h2 => binop_ok I2 w2 x2 r1.x r2.x ru1 ru2 h2)⟩
theorem se_sub (hu : G.X.A.units + 128 < cLine) (hs : PlainIx b) (ha : SE G a ma) (hb : SE G b mb) : SE G (.Subscript a b pos) (fun ρ s => (ma ρ s).bind fun x s => (mb ρ s).bind fun y s => ofO (item s x.1 y.1) s) :=
  ⟨fun pins s σ E ρ st Q I w f tk h => Subscript_ (two ha hb I w f tk h fun x y st2 E2 v1 u1 v2 u2 s2 x2 w2 r1 r2 I2 ru1 ru2 t2 h2 => item_ok hu hs I2 w2 x2 r1.x r2.x ru1 ru2 h2)⟩
theorem se_slc {lo hi : Option Expr} {ml mh : Env → Sto → R (D × Kd)} (ha : SE G a ma) (hl : SB G lo ml) (hh : SB G hi mh) :
    SE G (.Subscript a (.Slice lo hi none p2) pos) (fun ρ s => (ma ρ s).bind fun x s => (ml ρ s).bind fun y s => (mh ρ s).bind fun z s => ofO (sliced s x.1 y.1 z.1) s) := by
  refine ⟨fun pins s σ E ρ st Q I w f tk h => Subscript_ (ha.thn I w f tk h fun x st1 E1 v1 u1 s1 x1 w1 r1 I1 ru1 t1 h1 => ?_)⟩
  refine wpAny_Slice (hl.thn' I1 w1 (f.mono x1) t1 (fun _ _ z => Cfg.er_ext x1 z) h1 fun y st2 E2 v2 u2 s2 x2 w2 r2 I2 ru2 t2 h2 => ?_)
  refine hh.thn' I2 w2 (f.mono (x1.trans x2)) t2 (fun _ _ z => Cfg.er_ext (x1.trans x2) z) h2 fun z st3 E3 v3 u3 s3 x3 w3 r3 I3 ru3 t3 h3 => ?_
  rw [evalPart_none]
  refine wpAny_pure ?_
  obtain ⟨r, hr, hP⟩ := h3.ofO
  obtain ⟨l, hi', hb1, hb2⟩ := sliced_bnd hr
  have x12 := x1.trans x2
  have I4 : Inv G.X pins σ E3.H { s3 with heap := s3.heap.push { cls := .type "slice", data := .fields #[u2, u3, .none] } } := I3.kept (t' := s3.toks) fun b ob q => Heap.get?_push_of_some _ q
  obtain ⟨T, id, hT, ht, hg⟩ := sliced_ok (sl := s3.heap.objs.size) I4 w3 (x12.trans x3) (r1.x.ext (x2.trans x3)) ru1 (Heap.IsSliceOf.new ..) (bnd_part hb1 (r2.x.ext x3).c ru2) (bnd_part hb2 r3.c ru3) hb1 hb2 hr hP
  show wpAny G.M G.X.A (subscriptTail a (.Slice lo hi none p2) u1 (.ref s3.heap.objs.size)) Q G.X.xe { s3 with heap := s3.heap.push { cls := .type "slice", data := .fields #[u2, u3, .none] } }
  exact tail_any (ops := [.ref s3.heap.objs.size, u1]) ht hT hg (by with_unfolding_all rfl)
theorem se_neg (ha : SE G a ma) : SE G (.UnaryOp .USub a pos) (fun ρ s => (ma ρ s).bind fun x s => match x.1 with | .int i => .ok (.int (-i), .fz) s | _ => .no) := by
  refine ⟨fun pins s σ E ρ st Q I w f tk h => UnaryOp_ (ha.thn I w f tk h fun x st1 E1 v1 u1 s1 x1 w1 r1 I1 ru1 t1 h1 => ?_)⟩
  split at h1
  · rename_i i e
    have c := r1.c
    rw [e] at c
    have e := c_int c
    subst e
    exact L2.thn (un_neg pins s1 σ E1.H _ u1 (same (.int (-i)) E1.H) I1 ru1 ⟨i, rfl, rfl, rfl⟩) fun u s' ⟨v, H', I', ru, p⟩ => ok_same h1 x1 w1 (rep_int.mpr rfl) I' ru p
  · exact h1.elim

/-! ### tests -/
theorem st_val (ha : SE G a ma) (he : ∀ whole, isTrue a G.X.env whole = (do let v ← whole; standAt a.pos; holding [v] (truthy v))) : ST G a (fun ρ s => (ma ρ s).bind fun x s => ofO (truth s x.1) s) := by
  refine ⟨fun pins s σ E ρ st Q I w f tk h => isTrue_plain (ha.thn I w f tk h fun x st1 E1 v1 u1 s1 x1 w1 r1 I1 ru1 t1 h1 => ?_) (he _)⟩
  obtain ⟨t, ht, hP⟩ := h1.ofO
  exact truth_ok I1 w1 r1.x ru1 ht fun s' I' => hP E1 s' x1 w1 I'
theorem tru_bl {b : Bool} {s' : Shared} {Q : Bool → Shared → Prop} {E1 : WS} (hP : G.okT pins σ E Q b st) (x : Ext E E1) (w : G.WO E1 st) (I : Inv G.X pins σ E1.H s') : wpAny G.M G.X.A (truthy (.bool b)) Q G.X.xe s' := wpAny_truthy_bool (hP E1 s' x w I)
theorem cmp_tok {β : Type} {F : Bool → Sto → R β} {P : β → Sto → Prop} {Pe : Nat → Sto → Prop} {o : Cp} {x y : D} (h : Out ((ofO (cmpop o st x y) st).bind F) P Pe) : ∃ b, cmpop o st x y = some b ∧ Out (F b st) P Pe := (Out.bind.mp h).ofO
theorem se_cmp {o : Cp} (hu : G.X.A.units + 128 < cLine) (hm : behindInMarks (cpO o) b = false) (ha : SE G a ma) (hb : SE G b mb) :
    SE G (.Compare a [cpO o] [b] pos) (fun ρ s => (ma ρ s).bind fun x s => (mb ρ s).bind fun y s => (ofO (cmpop o s x.1 y.1) s).bind fun b s => .ok (.bl b, .fz) s) := by
  refine ⟨fun pins s σ E ρ st Q I w f tk h => wpAny_Compare1 (two ha hb I w f tk h fun x y st2 E2 v1 u1 v2 u2 s2 x2 w2 r1 r2 I2 ru1 ru2 t2 h2 => ?_) hm⟩
  obtain ⟨t, ht, hP⟩ := cmp_tok h2
  exact cmpop_ok hu I2 w2 r1.x r2.x ru1 ru2 ht fun s' I' => ok_bl hP x2 w2 I'
theorem st_cmp {o : Cp} (hu : G.X.A.units + 128 < cLine) (hm : behindInMarks (cpO o) b = false) (ha : SE G a ma) (hb : SE G b mb) :
    ST G (.Compare a [cpO o] [b] pos) (fun ρ s => ((ma ρ s).bind fun x s => (mb ρ s).bind fun y s => (ofO (cmpop o s x.1 y.1) s).bind fun b s => .ok (D.bl b, Kd.fz) s).bind fun x s => ofO (truth s x.1) s) := by
  refine ⟨fun pins s σ E ρ st Q I w f tk h => ?_⟩
  have h' : Out ((ma ρ st).bind fun x s => (mb ρ s).bind fun y s => (ofO (cmpop o s x.1 y.1) s)) (G.okT pins σ E Q) (G.er E σ) := by
    refine Out.bind.mpr ((Out.bind.mp (Out.bind.mp h)).mono (fun x st1 h1 => ?_) fun _ _ z => z)
    refine Out.bind.mpr ((Out.bind.mp h1).mono (fun y st2 h2 => ?_) fun _ _ z => z)
    exact (Out.bind.mp h2).mono (fun t st3 h3 => h3) fun _ _ z => z
  refine wpAny_isTrue_Compare1 (L2.thn (two (T := fun u1 u2 => compareOp (cpO o) u1 u2) (Q := fun u s' => wpAny G.M G.X.A (truthy u) Q G.X.xe s') ha hb I w f tk h' fun x y st2 E2 v1 u1 v2 u2 s2 x2 w2 r1 r2 I2 ru1 ru2 t2 h2 => ?_) fun _ _ z => L2.thn z fun _ _ z => L2.thn z fun _ _ z => z) hm
  obtain ⟨t, ht, hP⟩ := h2.ofO
  exact cmpop_ok hu I2 w2 r1.x r2.x ru1 ru2 ht fun s' I' => tru_bl hP x2 w2 I'

/-- a op1 b op2 c -/
theorem se_chain {o o' : Cp} (hu : G.X.A.units + 128 < cLine) (hm : lastMarks [cpO o, cpO o'] [b, c] = false) (ha : SE G a ma) (hb : SE G b mb) (hc : SE G c mc) :
    SE G (.Compare a [cpO o, cpO o'] [b, c] pos) (fun ρ s => (ma ρ s).bind fun x s => (mb ρ s).bind fun y s => (ofO (cmpop o s x.1 y.1) s).bind fun t s =>
      if t then (mc ρ s).bind fun z s => (ofO (cmpop o' s y.1 z.1) s).bind fun b s => .ok (.bl b, .fz) s else .ok (.bl false, .fz) s) := by
  refine ⟨fun pins s σ E ρ st Q I w f tk h => Compare_chain (ha.thn I w f tk h fun x st1 E1 v1 u1 s1 x1 w1 r1 I1 ru1 t1 h1 => chain_link ?_) hm⟩
  refine hb.thn' I1 w1 (f.mono x1) t1 (fun _ _ z => Cfg.er_ext x1 z) h1 fun y st2 E2 v2 u2 s2 x2 w2 r2 I2 ru2 t2 h2 => ?_
  obtain ⟨t, ht, h3⟩ := cmp_tok h2
  have x12 := x1.trans x2
  refine G.wtk t2 (cmpop_ok hu I2 w2 (r1.x.ext x2) r2.x ru1 ru2 ht fun s3 I3 t3 => wpAny_truthy_bool ?_)
  cases t with
  | false => exact ite_ff (ok_bl h3 x12 w2 I3)
  | true =>
    refine ite_tt (chain_last (hc.thn' I3 w2 (f.mono x12) t3 (fun _ _ z => Cfg.er_ext x12 z) h3 fun z st4 E4 v4 u4 s4 x4 w4 r4 I4 ru4 t4 h4 => ?_))
    obtain ⟨t', ht', h5⟩ := cmp_tok h4
    exact cmpop_ok hu I4 w4 (r2.x.ext x4) r4.x ru2 ru4 ht' fun s5 I5 => ok_bl h5 (x12.trans x4) w4 I5
theorem st_chain {o o' : Cp} (hu : G.X.A.units + 128 < cLine) (hm : lastMarks [cpO o, cpO o'] [b, c] = false) (ha : SE G a ma) (hb : SE G b mb) (hc : SE G c mc) :
    ST G (.Compare a [cpO o, cpO o'] [b, c] pos) (fun ρ s => ((ma ρ s).bind fun x s => (mb ρ s).bind fun y s => (ofO (cmpop o s x.1 y.1) s).bind fun t s =>
      if t then (mc ρ s).bind fun z s => (ofO (cmpop o' s y.1 z.1) s).bind fun b s => .ok (D.bl b, Kd.fz) s else .ok (D.bl false, Kd.fz) s).bind fun x s => ofO (truth s x.1) s) := by
  refine ⟨fun pins s σ E ρ st Q I w f tk h => isTrue_chain (ha.thn I w f tk (Out.bind.mp h) fun x st1 E1 v1 u1 s1 x1 w1 r1 I1 ru1 t1 h1 => test_link ?_) hm⟩
  refine hb.thn' I1 w1 (f.mono x1) t1 (fun _ _ z => Cfg.er_ext x1 z) h1 fun y st2 E2 v2 u2 s2 x2 w2 r2 I2 ru2 t2 h2 => ?_
  obtain ⟨t, ht, h3⟩ := cmp_tok h2
  have x12 := x1.trans x2
  refine G.wtk t2 (cmpop_ok hu I2 w2 (r1.x.ext x2) r2.x ru1 ru2 ht fun s3 I3 t3 => wpAny_truthy_bool ?_)
  cases t with
  | false => exact ite_ff (h3 E2 s3 x12 w2 I3)
  | true =>
    refine ite_tt (test_last (hc.thn' I3 w2 (f.mono x12) t3 (fun _ _ z => Cfg.er_ext x12 z) h3 fun z st4 E4 v4 u4 s4 x4 w4 r4 I4 ru4 t4 h4 => ?_))
    obtain ⟨t', ht', h5⟩ := cmp_tok h4
    exact cmpop_ok hu I4 w4 (r2.x.ext x4) r4.x ru2 ru4 ht' fun s5 I5 => wpAny_truthy_bool (h5 E4 s5 (x12.trans x4) w4 I5)

/-! ### and, or, not, if -/
/-- .. from a later place -/
theorem Cfg.okP_from {E E₁ : WS} {r : D × Kd} (x : Ext E E₁) (h : G.okP pins σ E Q r st) : G.okP pins σ E₁ Q r st := fun E' v u s' x' w' r' I' ru' => h E' v u s' (x.trans x') w' (r'.from x) I' ru'
theorem Cfg.okT_from {E E₁ : WS} {r : Bool} {Q : Bool → Shared → Prop} (x : Ext E E₁) (h : G.okT pins σ E Q r st) : G.okT pins σ E₁ Q r st := fun E' s' x' w' I' => h E' s' (x.trans x') w' I'
theorem Out.from {E E₁ : WS} {r : R (D × Kd)} (x : Ext E E₁) (h : Out r (G.okP pins σ E Q) (G.er E σ)) : Out r (G.okP pins σ E₁ Q) (G.er E₁ σ) := h.mono (fun _ _ z => Cfg.okP_from x z) fun _ _ z => Cfg.er_ext x z
theorem Out.fromT {E E₁ : WS} {r : R Bool} {Q : Bool → Shared → Prop} (x : Ext E E₁) (h : Out r (G.okT pins σ E Q) (G.er E σ)) : Out r (G.okT pins σ E₁ Q) (G.er E₁ σ) := h.mono (fun _ _ z => Cfg.okT_from x z) fun _ _ z => Cfg.er_ext x z
theorem se_ifx {mt : Env → Sto → R Bool} (hc : ST G c mt) (ha : SE G a ma) (hb : SE G b mb) : SE G (.IfExp c a b pos) (fun ρ s => (mt ρ s).bind fun t s => if t then ma ρ s else mb ρ s) := by
  refine ⟨fun pins s σ E ρ st Q I w f tk h => wpAny_IfExp (hc.thn I w f tk h fun t st1 E1 s1 x1 w1 I1 t1 h1 => ?_)⟩
  cases t with
  | true => exact ha.run pins s1 σ E1 ρ st1 Q I1 w1 (f.mono x1) t1 (h1.from x1)
  | false => exact hb.run pins s1 σ E1 ρ st1 Q I1 w1 (f.mono x1) t1 (h1.from x1)
theorem st_not {mt : Env → Sto → R Bool} (ha : ST G a mt) : ST G (.UnaryOp .Not a pos) (fun ρ s => (mt ρ s).bind fun b s => .ok (!b) s) :=
  ⟨fun pins s σ E ρ st Q I w f tk h => isTrue_not (ha.thn I w f tk h fun t st1 E1 s1 x1 w1 I1 t1 h1 => h1 E1 s1 x1 w1 I1)⟩
theorem se_one {op : BoolOp} (ha : SE G a ma) : SE G (.BoolOp op [a] pos) ma := ⟨fun pins s σ E ρ st Q I w f tk h => BoolOp_one (ha.run pins s σ E ρ st Q I w f tk h)⟩
theorem se_and {rest : List Expr} (ha : SE G a ma) (hb : SE G (.BoolOp .And (b :: rest) pos) mb) : SE G (.BoolOp .And (a :: b :: rest) pos) (fun ρ s => (ma ρ s).bind fun x s => (ofO (truth s x.1) s).bind fun b s => if b then mb ρ s else .ok x s) := by
  refine ⟨fun pins s σ E ρ st Q I w f tk h => BoolOp_and (ha.thn I w f tk h fun x st1 E1 v1 u1 s1 x1 w1 r1 I1 ru1 t1 h1 => ?_)⟩
  obtain ⟨t, ht, h2⟩ := (Out.bind.mp h1).ofO
  refine G.wtk t1 (truth_ok I1 w1 r1.x ru1 ht fun s2 I2 t2 => ?_)
  cases t with
  | true => exact hb.run pins s2 σ E1 ρ st1 Q I2 w1 (f.mono x1) t2 (h2.from x1)
  | false => exact h2 E1 v1 u1 s2 x1 w1 r1 I2 ru1
theorem se_or {rest : List Expr} (ha : SE G a ma) (hb : SE G (.BoolOp .Or (b :: rest) pos) mb) : SE G (.BoolOp .Or (a :: b :: rest) pos) (fun ρ s => (ma ρ s).bind fun x s => (ofO (truth s x.1) s).bind fun b s => if b then .ok x s else mb ρ s) := by
  refine ⟨fun pins s σ E ρ st Q I w f tk h => BoolOp_or (ha.thn I w f tk h fun x st1 E1 v1 u1 s1 x1 w1 r1 I1 ru1 t1 h1 => ?_)⟩
  obtain ⟨t, ht, h2⟩ := (Out.bind.mp h1).ofO
  refine G.wtk t1 (truth_ok I1 w1 r1.x ru1 ht fun s2 I2 t2 => ?_)
  cases t with
  | false => exact hb.run pins s2 σ E1 ρ st1 Q I2 w1 (f.mono x1) t2 (h2.from x1)
  | true => exact h2 E1 v1 u1 s2 x1 w1 r1 I2 ru1
/-- not, as a value -/
theorem se_not (ha : SE G a ma) : SE G (.UnaryOp .Not a pos) (fun ρ s => ((ma ρ s).bind fun x s => ofO (truth s x.1) s).bind fun b s => .ok (.bl (!b), .fz) s) := by
  refine ⟨fun pins s σ E ρ st Q I w f tk h => UnaryOp_ (ha.thn I w f tk (Out.bind.mp h) fun x st1 E1 v1 u1 s1 x1 w1 r1 I1 ru1 t1 h1 => not_of ?_)⟩
  obtain ⟨t, ht, h2⟩ := h1.ofO
  exact truth_ok I1 w1 r1.x ru1 ht fun s2 I2 => ok_bl h2 x1 w1 I2
/-! tests: and, or -/
theorem st_of {e : Expr} {m : Env → Sto → R Bool} (h : SW G e m) : ST G e m := ⟨fun pins s σ E ρ st Q I w f tk hO => h.run _ pins s σ E ρ st Q I w f tk hO⟩
variable {mt mt' : Env → Sto → R Bool}
theorem sw_and1 (ha : ST G a mt) : SW G (.BoolOp .And [a] pos) (fun ρ s => (mt ρ s).bind fun b s => if b then .ok true s else .ok false s) := by
  refine ⟨fun wh pins s σ E ρ st Q I w f tk h => isTrue_and (ha.thn I w f tk h fun t st1 E1 s1 x1 w1 I1 t1 h1 => ?_)⟩
  cases t with
  | true => exact isTrue_and_nil (h1 E1 s1 x1 w1 I1)
  | false => exact h1 E1 s1 x1 w1 I1
theorem sw_or1 (ha : ST G a mt) : SW G (.BoolOp .Or [a] pos) (fun ρ s => (mt ρ s).bind fun b s => if b then .ok true s else .ok false s) := by
  refine ⟨fun wh pins s σ E ρ st Q I w f tk h => isTrue_or (ha.thn I w f tk h fun t st1 E1 s1 x1 w1 I1 t1 h1 => ?_)⟩
  cases t with
  | false => exact isTrue_or_nil (h1 E1 s1 x1 w1 I1)
  | true => exact h1 E1 s1 x1 w1 I1
theorem sw_and {rest : List Expr} (ha : ST G a mt) (hb : SW G (.BoolOp .And (b :: rest) pos) mt') : SW G (.BoolOp .And (a :: b :: rest) pos) (fun ρ s => (mt ρ s).bind fun b s => if b then mt' ρ s else .ok false s) := by
  refine ⟨fun wh pins s σ E ρ st Q I w f tk h => isTrue_and (ha.thn I w f tk h fun t st1 E1 s1 x1 w1 I1 t1 h1 => ?_)⟩
  cases t with
  | true => exact hb.run wh pins s1 σ E1 ρ st1 Q I1 w1 (f.mono x1) t1 (h1.fromT x1)
  | false => exact h1 E1 s1 x1 w1 I1
theorem sw_or {rest : List Expr} (ha : ST G a mt) (hb : SW G (.BoolOp .Or (b :: rest) pos) mt') : SW G (.BoolOp .Or (a :: b :: rest) pos) (fun ρ s => (mt ρ s).bind fun b s => if b then .ok true s else mt' ρ s) := by
  refine ⟨fun wh pins s σ E ρ st Q I w f tk h => isTrue_or (ha.thn I w f tk h fun t st1 E1 s1 x1 w1 I1 t1 h1 => ?_)⟩
  cases t with
  | false => exact hb.run wh pins s1 σ E1 ρ st1 Q I1 w1 (f.mono x1) t1 (h1.fromT x1)
  | true => exact h1 E1 s1 x1 w1 I1
end
end RS
end S7
section S8
set_option autoImplicit false
set_option linter.all false
set_option maxRecDepth 100000
set_option Elab.async false
/-! A8: texts, sorted lists, least and greatest: the plain facts. -/
namespace RS
open PySem PySem.Spec PyProof.Rows L2

/-! ### texts -/
abbrev S_ (s : List Nat) : Str := ⟨s.toArray⟩
theorem isPre_iff : ∀ (s t : List Nat), isPre s t = (t.take s.length == s)
  | [], t => by simp [isPre]
  | a :: s, [] => by simp [isPre]
  | a :: s, b :: t => by
    rw [isPre, isPre_iff s t, List.length_cons, List.take_succ_cons]
    rw [Bool.eq_iff_iff]
    simp only [Bool.and_eq_true, beq_iff_eq, List.cons.injEq]
    constructor
    · rintro ⟨rfl, h⟩; exact ⟨rfl, h⟩
    · rintro ⟨rfl, h⟩; exact ⟨rfl, h⟩
theorem starts_eq (t s : List Nat) : Txt.startswith (S_ t) (S_ s) = isPre s t := by
  unfold Txt.startswith
  rw [StrLaws.subAt_eq, isPre_iff]
  rw [str_len, str_len]
  show (decide (0 + s.length ≤ t.length) && ((t.drop 0).take s.length == s)) = _
  rw [List.drop_zero, Nat.zero_add]
  by_cases h : s.length ≤ t.length
  · rw [decide_eq_true h, Bool.true_and]
  · rw [decide_eq_false h, Bool.false_and]
    symm
    rw [beq_eq_false_iff_ne]
    intro e
    have := congrArg List.length e
    rw [List.length_take] at this
    omega
theorem str_ext {a b : Str} (h : a.cps.toList = b.cps.toList) : a = b := by
  cases a with
  | mk a => cases b with
    | mk b => congr 1; exact Array.toList_inj.mp h
theorem replace_eq (t s r : List Nat) (h : s ≠ []) : Txt.replace (S_ t) (S_ s) (S_ r) = S_ (repl s r t) := by
  refine str_ext ?_
  rw [StrLaws.replace_list (by rw [str_len]; cases s with | nil => exact absurd rfl h | cons _ _ => simp)]
  rfl
theorem glueL_eq (z : List Nat) : ∀ ts : List (List Nat), StrLaws.glueL z (ts.map S_) = (ts.map fun t => z ++ t).flatten
  | [] => rfl
  | t :: ts => by
    show z ++ (t ++ StrLaws.glueL z (ts.map S_)) = _
    rw [glueL_eq z ts, List.map_cons, List.flatten_cons, List.append_assoc]
theorem cat_eq (z : List Nat) : ∀ (t : List Nat) (ts : List (List Nat)), cat z (t :: ts) = t ++ (ts.map fun t => z ++ t).flatten
  | t, [] => by simp [cat]
  | t, u :: ts => by
    rw [cat, cat_eq z u ts]
    simp
    simp
theorem join_eq (z : List Nat) (ts : List (List Nat)) : Txt.join (S_ z) (ts.map S_) = S_ (cat z ts) := by
  refine str_ext ?_
  cases ts with
  | nil => rfl
  | cons t ts =>
    show (Builtin.Str.glued (S_ z) (S_ t :: ts.map S_)).cps.toList = _
    rw [StrLaws.glued_list]
    show t ++ StrLaws.glueL z (ts.map S_) = cat z (t :: ts)
    rw [glueL_eq, cat_eq]
theorem int_str (i : Int) : Str.ofString (toString i) = S_ (intS i) := by
  refine str_ext ?_
  unfold intS
  cases i with
  | ofNat n =>
    rw [if_neg (by simp)]
    exact W.KIN.signs_num n
  | negSucc n =>
    rw [if_pos (by omega)]
    have h := W.KIN.signs_num (n + 1)
    rw [signs_ofString] at h ⊢
    have e : toString (Int.negSucc n) = "-" ++ toString (n + 1) := rfl
    rw [e, String.toList_append, List.map_append]
    exact congrArg (45 :: ·) h
theorem digs_ok : ∀ (s : List Nat) (a n : Nat), digs s a = some n → (∀ c ∈ s, 48 ≤ c ∧ c ≤ 57) ∧ n = s.foldl (fun acc c => acc * 10 + (c - 48)) a
  | [], a, n, h => by rw [digs] at h; cases h; exact ⟨by simp, rfl⟩
  | c :: s, a, n, h => by
    rw [digs] at h
    split at h
    · rename_i hc
      obtain ⟨h1, h2⟩ := digs_ok s _ n h
      exact ⟨fun d hd => by
        rcases List.mem_cons.mp hd with rfl | hd
        · exact hc
        · exact h1 d hd, h2⟩
    · cases h
theorem intOf_ok {s : List Nat} {i : Int} (h : intOf s = some i) : intText? (S_ s) = some i ∧ s.length ≤ 640 := by
  unfold intOf at h
  split at h
  · cases h
  · rename_i r
    split at h
    · cases h
    · rename_i hc
      simp only [Bool.or_eq_true, List.isEmpty_iff, decide_eq_true_eq, not_or, Nat.not_lt] at hc
      obtain ⟨n, hn, e⟩ := Option.bind_eq_some_iff.mp h
      obtain ⟨h1, h2⟩ := digs_ok r 0 n hn
      refine ⟨?_, by simp only [List.length_cons]; omega⟩
      rw [intText_neg (x := S_ (45 :: r)) (cs := r) rfl h1 hc.1 (by rw [str_len]; simp only [List.length_cons]; omega), ← e, h2]
      rfl
  · rename_i c r _
    split at h
    · cases h
    · rename_i hc
      obtain ⟨n, hn, e⟩ := Option.bind_eq_some_iff.mp h
      obtain ⟨h1, h2⟩ := digs_ok (c :: r) 0 n hn
      refine ⟨?_, by simp only [List.length_cons]; omega⟩
      rw [intText_digits (x := S_ (c :: r)) h1 (by simp) (by rw [str_len]; simp only [List.length_cons]; omega), ← e, h2]
      rfl

/-! ### sorted -/
theorem insD_spec (x : D) : ∀ (l₁ l₂ : List D), (∀ b ∈ l₁, W.dataLt (py b) (py x) = true) → (∀ b, l₂.head? = some b → W.dataLt (py b) (py x) = false) → insD x (l₁ ++ l₂) = l₁ ++ x :: l₂
  | [], [], _, _ => rfl
  | [], b :: l₂, _, h => by
    show insD x (b :: l₂) = _
    rw [insD, h b rfl]
    rfl
  | a :: l₁, l₂, h1, h2 => by
    show insD x (a :: (l₁ ++ l₂)) = _
    rw [insD, if_pos (h1 a (List.mem_cons_self ..)), insD_spec x l₁ l₂ (fun b hb => h1 b (List.mem_cons_of_mem _ hb)) h2]
    rfl
theorem sort_eq : ∀ xs : List D, xs.mergeSort (W.dataLe false py) = sortD xs
  | [] => by rw [List.mergeSort]; rfl
  | x :: xs => by
    have T : W.TotalLe (W.dataLe false py) := W.sortLe_total _ false _
    obtain ⟨l₁, l₂, e1, e2, h⟩ := List.mergeSort_cons (le := W.dataLe false py) T.trans (fun a b => by rw [Bool.or_eq_true]; exact T.total a b) x xs
    have hp := W.sort_pairwise T (x :: xs)
    rw [e1] at hp ⊢
    rw [sortD, ← sort_eq xs, e2]
    refine (insD_spec x l₁ l₂ (fun b hb => ?_) fun b hb => ?_).symm
    · have := h b hb
      rw [W.dataLe_eq] at this
      simpa using this
    · have h2 := (List.pairwise_append.mp hp).2.1
      have h3 := (List.pairwise_cons.mp h2).1 b (List.mem_of_mem_head? hb)
      rw [W.dataLe_eq] at h3
      simpa using h3
theorem sort_perm (xs : List D) : (sortD xs).Perm xs := by rw [← sort_eq]; exact List.mergeSort_perm _ _
theorem sort_len (xs : List D) : (sortD xs).length = xs.length := (sort_perm xs).length_eq
end RS
end S8
section S9
set_option autoImplicit false
set_option linter.all false
set_option maxRecDepth 100000
set_option Elab.async false
/-! A9: the built-ins, the methods. -/
namespace RS
open PySem PySem.Spec PyProof.Rows L2 PySem.W

section
variable {K : PySem.W.Frag} {E : WS}
/-- a value for a datum -/
def RU (K : PySem.W.Frag) (E : WS) (u : Value) (d : D) : Prop := ∃ v, RelV v u ∧ Rep K E d v
theorem each_of : ∀ {ds : List D} {vs : List V} {us : List Value}, RepA K E ds vs → Vals vs us → W.EachIs (RU K E) us ds
  | [], vs, us, r, rv => by rw [RepA] at r; subst r; cases rv; exact .nil
  | d :: ds, vs, us, r, rv => by
    rw [RepA] at r
    obtain ⟨v, q, e, r1, r2⟩ := r
    subst e
    cases rv with
    | cons h1 h2 => exact .cons ⟨v, h1, r1⟩ (each_of r2 h2)
theorem of_each : ∀ {ds : List D} {us : List Value}, W.EachIs (RU K E) us ds → ∃ vs, Vals vs us ∧ RepA K E ds vs
  | _, _, .nil => ⟨[], .nil, rfl⟩
  | _, _, .cons ⟨v, h1, r1⟩ t => by
    obtain ⟨vs, a, b⟩ := of_each t
    exact ⟨v :: vs, .cons h1 a, v, vs, rfl, r1, b⟩
theorem each_mem' {α β : Type} {R : α → β → Prop} : ∀ {xs : List α} {ys : List β}, W.EachIs R xs ys → ∀ (i : Nat) (x : α) (y : β), xs[i]? = some x → ys[i]? = some y → R x y
  | _, _, .nil, i, x, y, h, _ => by simp at h
  | _, _, .cons h t, 0, x, y, hx, hy => by simp at hx hy; subst hx hy; exact h
  | _, _, .cons h t, i + 1, x, y, hx, hy => each_mem' t i x y (by simpa using hx) (by simpa using hy)
theorem plainA_mem : ∀ {xs : List D}, plainA xs = true → ∀ x ∈ xs, plainD x = true
  | [], _, x, h => by cases h
  | y :: ys, h, x, hx => by
    rw [plainA, Bool.and_eq_true] at h
    rcases List.mem_cons.mp hx with e | hx
    · rw [e]; exact h.1
    · exact plainA_mem h.2 x hx
theorem depA_mem : ∀ {xs : List D} {n : Nat}, depA xs ≤ n → ∀ x ∈ xs, dep x ≤ n
  | [], _, _, x, h => by cases h
  | y :: ys, n, h, x, hx => by
    rw [depA] at h
    rcases List.mem_cons.mp hx with e | hx
    · rw [e]; omega
    · exact depA_mem (by omega) x hx
theorem pyAll_map (xs : List D) : pyAll xs = xs.map py := by
  induction xs with
  | nil => rfl
  | cons x xs ih => rw [pyAll, ih]; rfl
end
section
variable {X : Cx} {pins : List (Addr × Obj)} {s : Shared} {σ : L2.St} {E : WS}
theorem each_reads {ds : List D} {us : List Value} (I : Inv X pins σ E.H s) (hp : plainA ds = true) (e : W.EachIs (RU X.K E) us ds) : W.EachIs (fun v b => ∃ as, Reads s.heap v (py b) as) us ds :=
  (W.each_mem e).mono fun u d ⟨⟨v, ru, r⟩, hd⟩ => reads d v u I r ru (plainA_mem hp d hd)
theorem sortable_ok {ds : List D} (h : sortable ds = true) : plainA ds = true ∧ depA ds ≤ 32 ∧ W.AllAlike (ds.map py) ∧ W.Sortable (ds.map py) := by
  unfold sortable at h
  simp only [Bool.and_eq_true, decide_eq_true_eq] at h
  obtain ⟨⟨⟨h1, h2⟩, h3⟩, h4⟩ := h
  refine ⟨h1, h2, fun d hd d' hd' => ?_, ?_⟩
  · obtain ⟨x, hx, rfl⟩ := List.mem_map.mp hd
    obtain ⟨y, hy, rfl⟩ := List.mem_map.mp hd'
    unfold allAlike at h3
    rw [List.all_eq_true] at h3
    have := h3 x hx
    rw [List.all_eq_true] at this
    exact this y hy
  · rcases Bool.or_eq_true_iff.mp h4 with h4 | h4
    · refine .inl fun d hd => ?_
      obtain ⟨x, hx, rfl⟩ := List.mem_map.mp hd
      have := List.all_eq_true.mp h4 x hx
      cases x with
      | tup xs => cases xs with
        | nil => cases this
        | cons a r => exact ⟨py a, pyAll r, by rw [py, pyAll]⟩
      | _ => cases this
    · refine .inr fun d hd => ?_
      obtain ⟨x, hx, rfl⟩ := List.mem_map.mp hd
      have := List.all_eq_true.mp h4 x hx
      have hpl := plainA_mem h1 x hx
      cases x <;> first | (simp [plainD] at hpl; done) | (simp [isTup, isNon] at this; done) | exact ⟨by simp [py], fun _ => by simp [py]⟩
theorem call_sorted {a : Addr} {ds : List D} {vs : List V} {Q : Value → Shared → Prop} (hu : X.A.units + 128 < cLine) (I : Inv X pins σ E.H s) (hl : SqL X.K E.H a vs) (rA : RepA X.K E ds vs) (hs : sortable ds = true)
    (k : ∀ p vs' s', E.H p = none → RepA X.K E (sortD ds) vs' → Inv X pins σ (upd E.H p (.lst vs')) s' → Q (.ref p) s') : wpAny (model X.prog X.w) X.A (call (.builtin "sorted") [.ref a]) Q X.xe s := by
  obtain ⟨h1, h2, h3, h4⟩ := sortable_ok hs
  obtain ⟨its, rv, pl, hz⟩ := I.list hl
  have e := each_of rA rv
  have hlen : ds.length ≤ sizeLine := by rw [rA.length]; exact hz
  refine W.sorted_data (R := RU X.K E) pl.isList e (each_reads I h1 e) h3 h4 hlen (fun d hd => ?_) fun out ho eo => ?_
  · have := depth_py d
    have := depA_mem h2 d hd
    omega
  · rw [sort_eq] at eo
    obtain ⟨vs', r1, r2⟩ := of_each eo
    obtain ⟨ep, he'⟩ := PyProof.Rows.sortedAll_at s.heap its out.toArray
    have hf : E.H (s.heap.objs.size + 1) = none := I.hok.fresh (Nat.le_succ _)
    refine k _ vs' _ hf r2 (I.laid (t' := s.toks) (fun _ _ => PyProof.Rows.sortedAll_old) (Nat.le_succ _) ⟨?_, out, ep, r1, he'⟩)
    rw [← r2.length, sort_len]
    exact hlen
theorem ordAll_ok {ds : List D} (h : ordAll ds = true) : plainA ds = true ∧ depA ds ≤ 32 ∧ AlikeAll (ds.map py) := by
  unfold ordAll at h
  simp only [Bool.and_eq_true, decide_eq_true_eq] at h
  obtain ⟨⟨⟨h1, h2⟩, h3⟩, h4⟩ := h
  refine ⟨h1, h2, fun d hd d' hd' => ?_, fun d hd => ?_⟩
  · obtain ⟨x, hx, rfl⟩ := List.mem_map.mp hd
    obtain ⟨y, hy, rfl⟩ := List.mem_map.mp hd'
    unfold allAlike at h3
    rw [List.all_eq_true] at h3
    have := h3 x hx
    rw [List.all_eq_true] at this
    exact this y hy
  · obtain ⟨x, hx, rfl⟩ := List.mem_map.mp hd
    have := List.all_eq_true.mp h4 x hx
    have hpl := plainA_mem h1 x hx
    cases x <;> first | (simp [plainD] at hpl; done) | (simp [isNon] at this; done) | simp [py]
theorem getD_map {xs : List D} {i : Nat} (h : i < xs.length) : (xs.map py).getD i .none = py (xs.getD i .non) := by
  rw [List.getD_eq_getElem?_getD, List.getD_eq_getElem?_getD, List.getElem?_map, List.getElem?_eq_getElem h]
  rfl
theorem getD_mapG (xs : List D) (i : Nat) : (xs.map py).getD i .none = py (xs.getD i .non) := by
  rw [List.getD_eq_getElem?_getD, List.getD_eq_getElem?_getD, List.getElem?_map]
  cases xs[i]? <;> rfl
theorem each_at {α β : Type} {R : α → β → Prop} : ∀ {xs : List α} {ys : List β}, W.EachIs R xs ys → ∀ (i : Nat) (x : α), xs[i]? = some x → ∃ y, ys[i]? = some y ∧ R x y
  | _, _, .nil, i, x, h => by simp at h
  | _, _, .cons h t, 0, x, hx => by simp at hx; subst hx; exact ⟨_, rfl, h⟩
  | _, _, .cons h t, i + 1, x, hx => by
    obtain ⟨y, hy, r⟩ := each_at t i x (by simpa using hx)
    exact ⟨y, by simpa using hy, r⟩
theorem call_min {a : Addr} {d : D} {ds : List D} {vs : List V} {Q : Value → Shared → Prop} (hc : X.calm = true) (hu : X.A.units + 128 < cLine) (I : Inv X pins σ E.H s) (hl : SqL X.K E.H a vs) (rA : RepA X.K E (d :: ds) vs) (hs : ordAll (d :: ds) = true)
    (k : ∀ v u s', RelV v u → Rep X.K E (minG d ds) v → Inv X pins σ E.H s' → Q u s') : wpAny (model X.prog X.w) X.A (call (.builtin "min") [.ref a]) Q X.xe s := by
  obtain ⟨h1, h2, ha⟩ := ordAll_ok hs
  obtain ⟨its, rv, pl, hz⟩ := I.list hl
  have e := each_of rA rv
  obtain ⟨as, hr⟩ := W.each_readsAll py (each_reads I h1 e)
  have hn : its.toArray.size = ds.length + 1 := by rw [List.size_toArray, e.length]; rfl
  have hd := depth_pyA (d :: ds)
  rw [pyAll_map] at hd
  refine call_min_walkH (iter_listW (A := X.A.in1) (I.ok.hd hc) pl.isList fun s₂ es Wk st hfp hw hk => ?_)
  refine ⟨_, _, _, _, _, _, _, s.heap, _, rfl, Wk, st, hfp, by omega, hw, hk, cmpIn_lt (A := X.A.in1) (by simpa using hr) ha (by show X.A.units + 1 + _ < _; omega), fun v s' hP m => ?_⟩
  obtain ⟨h', tk, es', hk'⟩ := moved_old es rfl m
  subst es'
  have e1 : its.toArray.size - 1 = ds.length := by omega
  have hP : its.toArray[argBest (fun i j => W.dataLt (((d :: ds).map py).getD i .none) (((d :: ds).map py).getD j .none)) (its.toArray.size - 1)]? = some v := hP
  have ef : (fun i j => W.dataLt (((d :: ds).map py).getD i .none) (((d :: ds).map py).getD j .none)) = fun i j => (fun a b : D => W.dataLt (py a) (py b)) ((d :: ds).getD i .non) ((d :: ds).getD j .non) := by
    funext i j
    rw [getD_mapG, getD_mapG]
  rw [e1, ef] at hP
  obtain ⟨b1, b2⟩ := argBest_fold (fun a b : D => W.dataLt (py a) (py b)) .non d ds ds.length (Nat.le_refl _)
  rw [List.take_length] at b2
  obtain ⟨y, hy, z, rz, rp⟩ := each_at e _ v (by rw [← List.getElem?_toArray]; exact hP)
  have ey : y = minG d ds := by
    show y = List.foldl _ _ _
    rw [← b2, List.getD_eq_getElem?_getD, hy]
    rfl
  rw [ey] at rp
  exact k z v _ rz rp (I.kept (t' := tk) hk')
theorem call_max {a : Addr} {d : D} {ds : List D} {vs : List V} {Q : Value → Shared → Prop} (hc : X.calm = true) (hu : X.A.units + 128 < cLine) (I : Inv X pins σ E.H s) (hl : SqL X.K E.H a vs) (rA : RepA X.K E (d :: ds) vs) (hs : ordAll (d :: ds) = true)
    (k : ∀ v u s', RelV v u → Rep X.K E (maxG d ds) v → Inv X pins σ E.H s' → Q u s') : wpAny (model X.prog X.w) X.A (call (.builtin "max") [.ref a]) Q X.xe s := by
  obtain ⟨h1, h2, ha⟩ := ordAll_ok hs
  obtain ⟨its, rv, pl, hz⟩ := I.list hl
  have e := each_of rA rv
  obtain ⟨as, hr⟩ := W.each_readsAll py (each_reads I h1 e)
  have hn : its.toArray.size = ds.length + 1 := by rw [List.size_toArray, e.length]; rfl
  have hd := depth_pyA (d :: ds)
  rw [pyAll_map] at hd
  refine call_max_walkH (iter_listW (A := X.A.in1) (I.ok.hd hc) pl.isList fun s₂ es Wk st hfp hw hk => ?_)
  refine ⟨_, _, _, _, _, _, _, s.heap, _, rfl, Wk, st, hfp, by omega, hw, hk, cmpIn_gt (A := X.A.in1) (by simpa using hr) ha (by show X.A.units + 1 + _ < _; omega), fun v s' hP m => ?_⟩
  obtain ⟨h', tk, es', hk'⟩ := moved_old es rfl m
  subst es'
  have e1 : its.toArray.size - 1 = ds.length := by omega
  have hP : its.toArray[argBest (fun i j => W.dataLt (((d :: ds).map py).getD j .none) (((d :: ds).map py).getD i .none)) (its.toArray.size - 1)]? = some v := hP
  have ef : (fun i j => W.dataLt (((d :: ds).map py).getD j .none) (((d :: ds).map py).getD i .none)) = fun i j => (fun a b : D => W.dataLt (py b) (py a)) ((d :: ds).getD i .non) ((d :: ds).getD j .non) := by
    funext i j
    rw [getD_mapG, getD_mapG]
  rw [e1, ef] at hP
  obtain ⟨b1, b2⟩ := argBest_fold (fun a b : D => W.dataLt (py b) (py a)) .non d ds ds.length (Nat.le_refl _)
  rw [List.take_length] at b2
  obtain ⟨y, hy, z, rz, rp⟩ := each_at e _ v (by rw [← List.getElem?_toArray]; exact hP)
  have ey : y = maxG d ds := by
    show y = List.foldl _ _ _
    rw [← b2, List.getD_eq_getElem?_getD, hy]
    rfl
  rw [ey] at rp
  exact k z v _ rz rp (I.kept (t' := tk) hk')
end
end RS
end S9
section S10
set_option autoImplicit false
set_option linter.all false
set_option maxRecDepth 100000
set_option Elab.async false
/-! B1: the calls of built-ins. -/
namespace RS
open PySem PySem.Spec PyProof.Rows L2

def biVal : Bi → Value
  | .len => .builtin "len" | .abs => .builtin "abs" | .int => .type "int" | .str => .type "str" | .list => .type "list" | .tuple => .type "tuple" | .dict => .type "dict"
  | .sorted => .builtin "sorted" | .sum => .builtin "sum" | .min => .builtin "min" | .max => .builtin "max" | .min2 => .builtin "min" | .max2 => .builtin "max"
section
variable {G : Cfg} {pins : List (Addr × Obj)} {s : Shared} {σ : L2.St} {E E₂ : WS} {st : Sto} {v1 v2 : V} {u1 u2 : Value} {Q : Value → Shared → Prop}

theorem strs_rep {K : PySem.W.Frag} {E : WS} : ∀ {ds : List D} {vs : List V}, RepA K E ds vs → ds.all isStr = true → ∃ ts : List (List Nat), ds = ts.map D.str ∧ vs = ts.map fun t => V.str (S_ t)
  | [], vs, r, _ => by rw [RepA] at r; subst r; exact ⟨[], rfl, rfl⟩
  | d :: ds, vs, r, h => by
    rw [RepA] at r
    obtain ⟨v, q, e, r1, r2⟩ := r
    rw [List.all_cons, Bool.and_eq_true] at h
    obtain ⟨ts, e1, e2⟩ := strs_rep r2 h.2
    cases d <;> first | (simp [isStr] at h; done) | skip
    rename_i t
    rw [rep_str] at r1
    subst e
    exact ⟨t :: ts, by rw [e1]; rfl, by rw [e2, r1.1]; rfl⟩
theorem ints_rep {K : PySem.W.Frag} {E : WS} : ∀ {ds : List D} {vs : List V} {is : List Int}, RepA K E ds vs → intsOf ds = some is → vs = is.map V.int
  | [], vs, is, r, h => by rw [RepA] at r; subst r; rw [intsOf] at h; cases h; rfl
  | d :: ds, vs, is, r, h => by
    rw [RepA] at r
    obtain ⟨v, q, e, r1, r2⟩ := r
    cases d <;> first | (simp [intsOf] at h; done) | skip
    rename_i i
    rw [intsOf] at h
    obtain ⟨js, hj, e2⟩ := Option.map_eq_some_iff.mp h
    rw [rep_int] at r1
    subst e e2
    rw [r1, ints_rep r2 hj]
    rfl
theorem keys_rep {K : PySem.W.Frag} {E : WS} : ∀ {kvs : List (D × D)} {ks : List (Key × V)}, RepK K E kvs ks → RepA K E (kvs.map (·.1)) (ks.map fun kv => kV kv.1)
  | [], ks, r => by rw [RepK] at r; subst r; rw [List.map_nil, RepA]; rfl
  | (a, d) :: kvs, ks, r => by
    rw [RepK] at r
    obtain ⟨k, v, q, e, ⟨h0, h3⟩, h1, h2⟩ := r
    subst e
    rw [List.map_cons, List.map_cons, RepA]
    exact ⟨_, _, rfl, h3, keys_rep h2⟩
theorem RepK.any {K : PySem.W.Frag} {E : WS} {kd : D} {k : Key} (hk : keyOf kd = some k) : ∀ {kvs : List (D × D)} {ks : List (Key × V)}, RepK K E kvs ks → (ks.any fun kv => decide (kv.1 = k)) = dhas kvs kd
  | [], ks, r => by rw [RepK] at r; subst r; rfl
  | (a, d) :: kvs, ks, r => by
    rw [RepK] at r
    obtain ⟨j, v, q, e, ⟨h0, h3⟩, h1, h2⟩ := r
    subst e
    unfold dhas
    rw [List.any_cons, List.any_cons, keyEq_iff h0 hk, RepK.any hk h2]
    rfl
theorem RepK.upd {K : PySem.W.Frag} {E : WS} {kd d : D} {k : Key} {v : V} (hk : keyOf kd = some k) (hr : Rep K E d v) : ∀ {kvs : List (D × D)} {ks : List (Key × V)}, RepK K E kvs ks →
    RepK K E (kvs.map fun p => if keyEq p.1 kd then (p.1, d) else p) (ks.map fun kv => if kv.1 = k then (kv.1, v) else kv)
  | [], ks, r => by rw [RepK] at r; subst r; rw [List.map_nil, RepK]; rfl
  | (a, d') :: kvs, ks, r => by
    rw [RepK] at r
    obtain ⟨j, v', q, e, ⟨h0, h3⟩, h1, h2⟩ := r
    subst e
    rw [List.map_cons, List.map_cons]
    dsimp only
    rw [keyEq_iff h0 hk]
    by_cases z : j = k
    · rw [decide_eq_true z, if_pos rfl, if_pos z, RepK]
      exact ⟨j, v, _, rfl, ⟨h0, h3⟩, hr, RepK.upd hk hr h2⟩
    · rw [decide_eq_false z, if_neg (by decide), if_neg z, RepK]
      exact ⟨j, v', _, rfl, ⟨h0, h3⟩, h1, RepK.upd hk hr h2⟩
theorem RepK.app {K : PySem.W.Frag} {E : WS} : ∀ {kvs kvs' : List (D × D)} {ks ks' : List (Key × V)}, RepK K E kvs ks → RepK K E kvs' ks' → RepK K E (kvs ++ kvs') (ks ++ ks')
  | [], _, ks, _, r, r' => by rw [RepK] at r; subst r; exact r'
  | (a, d) :: kvs, _, ks, _, r, r' => by
    rw [RepK] at r
    obtain ⟨j, v', q, e, h0, h1, h2⟩ := r
    subst e
    rw [List.cons_append, List.cons_append, RepK]
    exact ⟨j, v', _, rfl, h0, h1, h2.app r'⟩
/-- a pair stored -/
theorem RepK.put {K : PySem.W.Frag} {E : WS} {kd d : D} {k : Key} {v : V} (hk : keyOf kd = some k) (hkr : Rep K E kd (kV k)) (hr : Rep K E d v) {kvs : List (D × D)} {ks : List (Key × V)} (r : RepK K E kvs ks) : RepK K E (dput kvs kd d) (L2.putK ks k v) := by
  unfold dput L2.putK
  rw [r.any hk]
  split
  · exact r.upd hk hr
  · refine r.app ?_
    rw [RepK]
    exact ⟨k, v, [], rfl, ⟨hk, hkr⟩, hr, by rw [RepK]⟩
theorem RepK.merge {K : PySem.W.Frag} {E : WS} : ∀ {more : List (D × D)} {ms : List (Key × V)} {kvs : List (D × D)} {ks : List (Key × V)}, RepK K E more ms → RepK K E kvs ks → RepK K E (dputs kvs more) (mergeK ks ms)
  | [], ms, _, _, r, h => by rw [RepK] at r; subst r; exact h
  | (a, d) :: more, ms, _, _, r, h => by
    rw [RepK] at r
    obtain ⟨j, v', q, e, ⟨h0, h3⟩, h1, h2⟩ := r
    subst e
    show RepK K E (dputs (dput _ a d) more) (mergeK (L2.putK _ j v') q)
    exact RepK.merge h2 (h.put h0 h3 h1)

/-- a new dict comes -/
theorem ok_new_dct {kvs : List (D × D)} {ks : List (Key × V)} {p : Addr} {u : Value} {s' : Shared} {H' : Hp} {v' : V} {Q : Value → Shared → Prop} (h : G.okP pins σ E Q (.dct kvs, .fr) st) (x : Ext E E₂) (w : G.WO E₂ st) (r : RepK G.X.K E₂ kvs ks) (hf : E₂.H p = none) (I : Inv G.X pins σ H' s') (ru : RelV v' u)
    (e : same (.ref p) (upd E₂.H p (.dK ks)) v' H') : Q u s' := by
  obtain ⟨rfl, rfl⟩ := e
  exact h (E₂.put p (.dK ks)) _ u s' (x.trans (ext_put hf)) (w.put hf) ⟨_, rfl, fresh_new_dct w x hf r⟩ I ru
theorem pairs_rep {K : PySem.W.Frag} {E : WS} : ∀ {ds : List D} {vs : List V} {ps : List (D × D)}, RepA K E ds vs → pairsOf ds = some ps → ∃ (as : List Addr) (ks : List (Key × V)), vs = as.map V.ref ∧ Paired (fun p kv => SqT K E.H p [kV kv.1, kv.2]) as ks ∧ RepK K E ps ks
  | [], vs, ps, r, h => by
    rw [RepA] at r
    subst r
    rw [pairsOf] at h
    cases h
    exact ⟨[], [], rfl, .nil, by rw [RepK]⟩
  | d :: ds, vs, ps, r, h => by
    rw [RepA] at r
    obtain ⟨v, q, e, r1, r2⟩ := r
    rw [pairsOf] at h
    obtain ⟨p, hp, h⟩ := Option.bind_eq_some_iff.mp h
    obtain ⟨ps', hps, e2⟩ := Option.map_eq_some_iff.mp h
    obtain ⟨as, ks, e3, e4, e5⟩ := pairs_rep r2 hps
    unfold pairOf at hp
    split at hp
    · rename_i k x
      split at hp
      · rename_i hk
        cases hp
        obtain ⟨k', hk⟩ := isKey_of hk
        obtain ⟨a, vs2, ea, hs, rA⟩ := rep_tup.mp r1
        rw [RepA] at rA
        obtain ⟨w1, q1, e6, r3, rA⟩ := rA
        rw [RepA] at rA
        obtain ⟨w2, q2, e7, r4, rA⟩ := rA
        rw [RepA] at rA
        subst e e2 ea e6 e7 rA e3
        have e8 := rep_key hk r3.c
        subst e8
        refine ⟨a :: as, (k', w2) :: ks, rfl, .cons hs e4, ?_⟩
        rw [RepK]
        exact ⟨k', w2, ks, rfl, ⟨hk, r3⟩, r4, e5⟩
      · cases hp
    · cases hp
theorem c_sqL {K : PySem.W.Frag} {E : WS} {xs : List D} {v : V} (h : RepC K E (.lst xs) v) : ∃ a vs, v = .ref a ∧ SqL K E.H a vs ∧ RepA K E xs vs := by
  obtain ⟨a, vs, e, h1, h2⟩ := c_lst h
  exact ⟨a, vs, e, .inl (.inl h1), h2⟩
theorem walked_ok {b : Bi} {xs : List D} {r : D × Kd} (hc : G.X.calm = true) (hu : G.X.A.units + 128 < cLine) (I : Inv G.X pins σ E₂.H s) (w : G.WO E₂ st) (xe : Ext E E₂) (c : RepC G.X.K E₂ (.lst xs) v1) (ru : RelV v1 u1)
    (hr : walked b xs = some r) (hP : G.okP pins σ E Q r st) : wpAny G.M G.X.A (call (biVal b) [u1]) Q G.X.xe s := by
  obtain ⟨a, vs, rfl, hl, rA⟩ := c_sqL c
  cases ru
  have rv : Vals [V.ref a] [Value.ref a] := .cons rfl .nil
  unfold walked at hr
  split at hr
  · split at hr
    · rename_i hz
      cases hr
      exact by_call (P := fun v' H' => ∃ n, E₂.H n = none ∧ same (.ref n) (upd E₂.H n (.lst vs)) v' H') call_list_of I rv ⟨a, vs, rfl, .inl hl, fun l hn => ⟨l, hn, rfl, rfl⟩⟩ fun v H' u s' I' ru ⟨n, hn, z⟩ => ok_new_lst hP xe w rA hn I' ru z
    · cases hr
  · split at hr
    · rename_i hz
      cases hr
      exact by_call (P := fun v' H' => ∃ n, E₂.H n = none ∧ same (.ref n) (upd E₂.H n (.tup vs)) v' H') call_tuple_of I rv ⟨a, vs, rfl, .inl ⟨hl, fun l hn => ⟨l, hn, rfl, rfl⟩⟩⟩ fun v H' u s' I' ru ⟨n, hn, z⟩ => ok_new_tup hP xe w rA hn I' ru z
    · cases hr
  · split at hr
    · rename_i hz
      cases hr
      rw [Bool.and_eq_true] at hz
      exact call_sorted hu I hl rA hz.1 fun p vs' s' hp rA' I' => ok_new_lst (v' := .ref p) hP xe w rA' hp I' rfl ⟨rfl, rfl⟩
    · cases hr
  · obtain ⟨is, hi, e⟩ := Option.map_eq_some_iff.mp hr
    subst e
    have ev := ints_rep rA hi
    subst ev
    exact by_call (P := same (.int is.sum) E₂.H) (cr_sum hc) I rv ⟨a, is, rfl, hl, rfl, rfl⟩ fun v H' u s' I' ru p => ok_same hP xe w (rep_int.mpr rfl) I' ru p
  · split at hr
    · split at hr
      · rename_i hz
        cases hr
        rw [Bool.and_eq_true] at hz
        exact call_min hc hu I hl rA hz.1 fun v u s' ru rp I' => ok_rep hP xe w rp I' ru
      · cases hr
    · cases hr
  · split at hr
    · split at hr
      · rename_i hz
        cases hr
        rw [Bool.and_eq_true] at hz
        exact call_max hc hu I hl rA hz.1 fun v u s' ru rp I' => ok_rep hP xe w rp I' ru
      · cases hr
    · cases hr
  · obtain ⟨ps, hp, h⟩ := Option.bind_eq_some_iff.mp hr
    split at h
    · rename_i hz
      cases h
      obtain ⟨as, ks, ev, hpr, rK⟩ := pairs_rep rA hp
      subst ev
      exact by_call (P := fun v' H' => ∃ n, E₂.H n = none ∧ same (.ref n) (upd E₂.H n (.dK (mergeK [] ks))) v' H') (call_dictP hc) I rv ⟨a, as, ks, rfl, hl, hpr, fun l hn => ⟨l, hn, rfl, rfl⟩⟩
        fun v H' u s' I' ru ⟨n, hn, z⟩ => ok_new_dct hP xe w (RepK.merge rK (by rw [RepK])) hn I' ru z
    · cases h
  · cases hr
theorem isStr_keys : ∀ {kvs : List (D × D)} {ks : List (Key × V)} {K : PySem.W.Frag} {E : WS}, RepK K E kvs ks → (kvs.all fun p => isStr p.1) = true → ∃ ts : List (List Nat), kvs.map (·.1) = ts.map D.str ∧ ks.map (·.1) = (ts.map S_).map Sum.inr
  | [], ks, K, E, r, _ => by rw [RepK] at r; subst r; exact ⟨[], rfl, rfl⟩
  | (a, d) :: kvs, ks, K, E, r, h => by
    rw [RepK] at r
    obtain ⟨j, v', q, e, ⟨h0, h3⟩, h1, h2⟩ := r
    rw [List.all_cons, Bool.and_eq_true] at h
    obtain ⟨ts, e1, e2⟩ := isStr_keys h2 h.2
    cases a <;> first | (simp [isStr] at h; done) | skip
    rename_i t
    rw [keyOf] at h0
    cases h0
    subst e
    exact ⟨t :: ts, by rw [List.map_cons, e1]; rfl, by rw [List.map_cons, e2]; rfl⟩

theorem risingS_pw : ∀ (l : List Str) (p : Str), risingS p l = true → (p :: l).Pairwise (fun a b => a.cps.toList ≤ b.cps.toList)
  | [], p, _ => List.pairwise_singleton ..
  | x :: r, p, h => by
    rw [risingS, Bool.and_eq_true, Bool.not_eq_true', ltCps_eq] at h
    have h1 : p.cps.toList ≤ x.cps.toList := by
      have := of_decide_eq_false h.1
      exact List.not_lt.mp this
    have h2 := risingS_pw r x h.2
    refine List.pairwise_cons.mpr ⟨fun b hb => ?_, h2⟩
    rcases List.mem_cons.mp hb with e | hb
    · rw [e]; exact h1
    · exact List.le_trans h1 ((List.pairwise_cons.mp h2).1 b hb)
theorem sortedS_pw {l : List Str} (h : sortedS l = true) : l.Pairwise (fun a b => a.cps.toList ≤ b.cps.toList) := by
  cases l with
  | nil => exact .nil
  | cons x r => exact risingS_pw r x h
/-- the texts in order -/
theorem sort_strs (ts : List (List Nat)) (ys : List Str) (hp : ys.Perm (ts.map S_)) (hs : sortedS ys = true) : ∃ zs : List (List Nat), ys = zs.map S_ ∧ sortD (ts.map D.str) = zs.map D.str ∧ ∀ z ∈ zs, z ∈ ts := by
  have ey : ys = (ys.map (·.cps.toList)).map S_ := by
    rw [List.map_map]
    conv => lhs; rw [← List.map_id ys]
    rfl
  refine ⟨ys.map (·.cps.toList), ey, ?_, fun z hz => ?_⟩
  · rw [← sort_eq, ← List.map_mergeSort (r := fun a b : List Nat => decide (a ≤ b)) (f := D.str) fun a _ b _ => by
      have := congrFun (congrFun (W.dataLe_str (β := List Nat) S_) a) b
      exact this.symm]
    congr 1
    symm
    have hp2 := hp.map (·.cps.toList)
    rw [List.map_map] at hp2
    have e2 : (ts.map ((·.cps.toList) ∘ S_)) = ts := by
      conv => rhs; rw [← List.map_id ts]
      rfl
    rw [e2] at hp2
    refine W.Srt.the_of_perm (fun a b : List Nat => decide (a ≤ b)) (trans := ?_) (total := ?_) (antisymm := ?_) hp2 ?_
    · intro a b c h1 h2
      exact decide_eq_true (List.le_trans (of_decide_eq_true h1) (of_decide_eq_true h2))
    · intro a b
      rw [Bool.or_eq_true]
      exact (List.le_total a b).imp (fun h => decide_eq_true h) fun h => decide_eq_true h
    · intro a b h1 h2
      exact List.le_antisymm (of_decide_eq_true h1) (of_decide_eq_true h2)
    · rw [List.pairwise_map]
      exact (sortedS_pw hs).imp fun h => decide_eq_true h
  · obtain ⟨y, hy, e⟩ := List.mem_map.mp hz
    obtain ⟨t, ht, e3⟩ := List.mem_map.mp (hp.mem_iff.mp hy)
    rw [← e, ← e3]
    exact ht

theorem strs_repA {K : PySem.W.Frag} {E : WS} : ∀ {zs : List (List Nat)}, (∀ z ∈ zs, z.length ≤ line) → RepA K E (zs.map D.str) (zs.map fun z => V.str (S_ z))
  | [], _ => by rw [List.map_nil, RepA]; rfl
  | z :: zs, h => by
    rw [List.map_cons, List.map_cons, RepA]
    exact ⟨_, _, rfl, rep_str.mpr ⟨rfl, h z (List.mem_cons_self ..)⟩, strs_repA fun y hy => h y (List.mem_cons_of_mem _ hy)⟩
theorem repK_strs : ∀ {kvs : List (D × D)} {ks : List (Key × V)} {K : PySem.W.Frag} {E : WS}, RepK K E kvs ks → ∀ t, D.str t ∈ kvs.map (·.1) → t.length ≤ line
  | [], ks, K, E, r, t, h => by cases h
  | (a, d) :: kvs, ks, K, E, r, t, h => by
    rw [RepK] at r
    obtain ⟨j, v', q, e, ⟨h0, h3⟩, h1, h2⟩ := r
    rw [List.map_cons] at h
    rcases List.mem_cons.mp h with e | h
    · have e : D.str t = a := e
      subst e
      exact (rep_str.mp h3).2
    · exact repK_strs h2 t h
theorem valsR (a : Addr) : Vals [V.ref a] [Value.ref a] := .cons (show RelV (.ref a) (.ref a) from rfl) .nil
theorem eaten_ok {b : Bi} {d : D} {r : D × Kd} (hc : G.X.calm = true) (hu : G.X.A.units + 128 < cLine) (I : Inv G.X pins σ E₂.H s) (w : G.WO E₂ st) (xe : Ext E E₂) (c : RepC G.X.K E₂ d v1) (ru : RelV v1 u1)
    (hr : eaten b d = some r) (hP : G.okP pins σ E Q r st) : wpAny G.M G.X.A (call (biVal b) [u1]) Q G.X.xe s := by
  unfold eaten at hr
  split at hr
  · cases hr
    obtain ⟨a, ks, rfl, hd, rK⟩ := c_dct c
    cases ru
    exact by_call (P := fun v' H' => ∃ n, E₂.H n = none ∧ same (.ref n) (upd E₂.H n (.dK ks)) v' H') call_dictD I (valsR a) ⟨a, ks, rfl, .inl hd, fun l hn => ⟨l, hn, rfl, rfl⟩⟩ fun v H' u s' I' ru ⟨n, hn, z⟩ => ok_new_dct hP xe w rK hn I' ru z
  · cases hr
    obtain ⟨a, ks, rfl, hd, rK⟩ := c_dct c
    cases ru
    exact by_call (P := fun v' H' => ∃ n, E₂.H n = none ∧ same (.ref n) (upd E₂.H n (.lst (ks.map fun kv => kV kv.1))) v' H') (call_listD hc) I (valsR a) ⟨a, ks, rfl, .inl hd, fun l hn => ⟨l, hn, rfl, rfl⟩⟩ fun v H' u s' I' ru ⟨n, hn, z⟩ => ok_new_lst hP xe w (keys_rep rK) hn I' ru z
  · split at hr
    · rename_i hk
      cases hr
      rw [Bool.and_eq_true, decide_eq_true_eq] at hk
      obtain ⟨a, ks, rfl, hd, rK⟩ := c_dct c
      cases ru
      obtain ⟨ts, e1, e2⟩ := isStr_keys rK hk.2
      refine by_call (P := fun v' H' => ∃ (ys : List Str) (n : Addr), ys.Perm (ts.map S_) ∧ sortedS ys = true ∧ E₂.H n = none ∧ same (.ref n) (upd E₂.H n (.lst (ys.map V.str))) v' H') (call_sortedD hc) I (valsR a)
        ⟨a, ks, ts.map S_, rfl, .inl hd, e2, ?_, fun ys p h1 h2 hn => ⟨ys, p, h1, h2, hn, rfl, rfl⟩⟩ fun v H' u s' I' ru ⟨ys, n, h1, h2, hn, z⟩ => ?_
      · have := congrArg List.length e1
        rw [List.length_map, List.length_map] at this
        rw [List.length_map, ← this]
        exact hk.1
      · obtain ⟨zs, e3, e4, e5⟩ := sort_strs ts ys h1 h2
        rw [e1, e4] at hP
        refine ok_new_lst hP xe w (vs := ys.map V.str) ?_ hn I' ru z
        rw [e3, List.map_map]
        exact strs_repA fun z hz => repK_strs rK z (by rw [e1]; exact List.mem_map.mpr ⟨z, e5 z hz, rfl⟩)
    · cases hr
  · cases hr
    obtain ⟨a, vs, rfl, hq, rA⟩ := c_tup c
    cases ru
    exact by_call (P := fun v' H' => ∃ n, E₂.H n = none ∧ same (.ref n) (upd E₂.H n (.lst vs)) v' H') call_list_of I (valsR a) ⟨a, vs, rfl, .inr hq, fun l hn => ⟨l, hn, rfl, rfl⟩⟩ fun v H' u s' I' ru ⟨n, hn, z⟩ => ok_new_lst hP xe w rA hn I' ru z
  · cases hr
    obtain ⟨a, vs, rfl, hq, rA⟩ := c_tup c
    cases ru
    exact by_call (P := same (.ref a) E₂.H) call_tuple_of I (valsR a) ⟨a, vs, rfl, .inr ⟨hq, rfl, rfl⟩⟩ fun v H' u s' I' ru p => ok_same hP xe w (rep_tup.mpr ⟨a, vs, rfl, hq, rA⟩) I' ru p
  · exact walked_ok hc hu I w xe c ru hr hP
  · cases hr
theorem rO1 {K : PySem.W.Frag} {E : WS} {d : D} {vs : List V} {us : List Value} (r : RepO K E [d] vs) (rv : Vals vs us) : ∃ v u, vs = [v] ∧ us = [u] ∧ RepX K E d v ∧ RelV v u := by
  obtain ⟨v, q, e, r1, e2⟩ := r
  have e2 : q = [] := e2
  subst e e2
  cases rv with
  | cons h1 h2 => cases h2; exact ⟨v, _, rfl, rfl, r1, h1⟩
theorem rO2 {K : PySem.W.Frag} {E : WS} {d d' : D} {vs : List V} {us : List Value} (r : RepO K E [d, d'] vs) (rv : Vals vs us) : ∃ v u v' u', vs = [v, v'] ∧ us = [u, u'] ∧ RepX K E d v ∧ RelV v u ∧ RepX K E d' v' ∧ RelV v' u' := by
  obtain ⟨v, q, e, r1, r2⟩ := r
  subst e
  cases rv with
  | cons h1 h2 =>
    obtain ⟨v', u', e1, e2, r3, h3⟩ := rO1 r2 h2
    subst e1 e2
    exact ⟨v, _, v', u', rfl, rfl, r1, h1, r3, h3⟩
theorem small_log {i : Int} (h : i.natAbs < 10 ^ 100) : i.natAbs.log2 < 1920 := by
  by_cases h0 : i.natAbs = 0
  · rw [h0]; decide
  · rw [Nat.log2_lt h0]
    exact Nat.lt_trans h (by decide +kernel)
theorem natS_len (n : Nat) (h : n < 10 ^ 100) : (natS n).length ≤ 101 := by
  unfold natS
  rw [List.length_map]
  have h2 : n < 10 ^ 101 := Nat.lt_trans h (by decide +kernel)
  by_cases h0 : n = 0
  · subst h0; decide
  · exact (Nat.length_toDigits_le_iff (by decide) (by decide)).mpr h2

theorem strOf_len {d : D} {t : List Nat} (h : strOf d = some t) : (∃ s, d = .str s ∧ t = s) ∨ t.length ≤ 200 := by
  unfold strOf at h
  split at h
  · cases h; exact .inl ⟨_, rfl, rfl⟩
  · split at h
    · rename_i i hi
      cases h
      right
      have := natS_len i.natAbs hi
      unfold intS
      split
      · rw [List.length_cons]; omega
      · omega
    · cases h
  · cases h; right; split <;> decide
  · cases h; right; decide
  · cases h
theorem rep_S {K : PySem.W.Frag} {E : WS} {t : List Nat} (h : t.length ≤ line) : Rep K E (.str t) (.str (S_ t)) := rep_str.mpr ⟨rfl, h⟩
theorem line_big : 200 ≤ line := by unfold line; omega
theorem call_str {d : D} {t : List Nat} (I : Inv G.X pins σ E₂.H s) (w : G.WO E₂ st) (xe : Ext E E₂) (r1 : RepX G.X.K E₂ d v1) (ru : RelV v1 u1) (h : strOf d = some t) (hP : G.okP pins σ E Q (.str t, .fz) st) : wpAny G.M G.X.A (call (.type "str") [u1]) Q G.X.xe s := by
  have hl := strOf_len h
  unfold strOf at h
  split at h
  · cases h
    obtain ⟨e, hz⟩ := c_str r1.c
    subst e
    exact by_call (P := same (.str (S_ t)) E₂.H) SkE.call_str_str I (.cons ru .nil) ⟨_, rfl, rfl, rfl⟩ fun v H' u s' I' ru p => ok_same hP xe w (rep_str.mpr ⟨rfl, hz⟩) I' ru p
  · split at h
    · rename_i i hi
      cases h
      have e := c_int r1.c
      subst e
      refine by_call (P := same (.str (S_ (intS i))) E₂.H) call_str_int I (.cons ru .nil) ⟨_, rfl, small_log hi, ?_, rfl⟩ fun v H' u s' I' ru p => ok_same hP xe w (rep_str.mpr ⟨rfl, ?_⟩) I' ru p
      · show V.str (Str.ofString (toString i)) = _
        rw [int_str]
      · rcases hl with ⟨z, e, _⟩ | hl
        · cases e
        · exact Nat.le_trans hl line_big
    · cases h
  · cases h
    rename_i b
    have e := c_bl r1.c
    subst e
    cases ru
    have q := fun t => hP E₂ (.str (S_ (if b then [84, 114, 117, 101] else [70, 97, 108, 115, 101]))) (.str (S_ (if b then [84, 114, 117, 101] else [70, 97, 108, 115, 101])) t) { s with toks := s.toks + 1 } xe w (rep_S (K := G.X.K) (E := E₂) (by cases b <;> (unfold line; decide))) (I.tok _) ⟨_, rfl⟩
    refine PySem.P.str_of_bool ?_
    cases b <;> exact q _
  · cases h
    have e := c_non r1.c
    subst e
    cases ru
    have q := fun t => hP E₂ (.str (S_ [78, 111, 110, 101])) (.str (S_ [78, 111, 110, 101]) t) { s with toks := s.toks + 1 } xe w (rep_S (K := G.X.K) (E := E₂) (by unfold line; decide)) (I.tok _) ⟨_, rfl⟩
    exact PySem.P.str_of_none (q _)
  · cases h
theorem builtin_ok {b : Bi} {ds : List D} {r : D × Kd} {vs : List V} {us : List Value} (hc : G.X.calm = true) (hu : G.X.A.units + 128 < cLine) (I : Inv G.X pins σ E₂.H s) (w : G.WO E₂ st) (xe : Ext E E₂) (rO : RepO G.X.K E₂ ds vs) (rv : Vals vs us)
    (hr : builtin b st ds = some r) (hP : G.okP pins σ E Q r st) : wpAny G.M G.X.A (call (biVal b) us) Q G.X.xe s := by
  unfold builtin at hr
  split at hr
  · -- len
    rename_i x
    obtain ⟨v, u, e1, e2, r1, ru⟩ := rO1 rO rv
    subst e1 e2
    have c1 := view_x w r1
    split at hr
    · rename_i xs e; rw [e] at c1; cases hr
      obtain ⟨a, vs, rfl, hq, rA⟩ := c_tup c1
      exact by_call (P := same (.int xs.length) E₂.H) call_len_seq I rv ⟨a, vs, rfl, .inr hq, by rw [rA.length], rfl⟩ fun v H' u s' I' ru p => ok_same hP xe w (rep_int.mpr rfl) I' ru p
    · rename_i xs e; rw [e] at c1; cases hr
      obtain ⟨a, vs, rfl, hq, rA⟩ := c_sqL c1
      exact by_call (P := same (.int xs.length) E₂.H) call_len_seq I rv ⟨a, vs, rfl, .inl hq, by rw [rA.length], rfl⟩ fun v H' u s' I' ru p => ok_same hP xe w (rep_int.mpr rfl) I' ru p
    · rename_i z e; rw [e] at c1; cases hr
      obtain ⟨rfl, hz⟩ := c_str c1
      exact by_call (P := same (.int z.length) E₂.H) call_len_str I rv ⟨_, rfl, by rw [str_len, ← line_eq]; exact hz, by rw [str_len], rfl⟩ fun v H' u s' I' ru p => ok_same hP xe w (rep_int.mpr rfl) I' ru p
    · rename_i kvs e; rw [e] at c1; cases hr
      obtain ⟨a, ks, rfl, hd, rK⟩ := c_dct c1
      exact by_call (P := same (.int kvs.length) E₂.H) call_lenD I rv ⟨a, ks, rfl, hd, by rw [rK.length], rfl⟩ fun v H' u s' I' ru p => ok_same hP xe w (rep_int.mpr rfl) I' ru p
    · cases hr
  · rename_i i
    cases hr
    obtain ⟨v, u, e1, e2, r1, ru⟩ := rO1 rO rv
    have e3 := c_int r1.c
    subst e1 e2 e3
    exact by_call (P := same (.int (if i < 0 then -i else i)) E₂.H) call_abs I rv ⟨i, rfl, rfl, rfl⟩ fun v H' u s' I' ru p => ok_same hP xe w (rep_int.mpr rfl) I' ru p
  · rename_i i
    cases hr
    obtain ⟨v, u, e1, e2, r1, ru⟩ := rO1 rO rv
    have e3 := c_int r1.c
    subst e1 e2 e3
    exact by_call (P := same (.int i) E₂.H) call_int1 I rv (.inl ⟨i, rfl, rfl, rfl⟩) fun v H' u s' I' ru p => ok_same hP xe w (rep_int.mpr rfl) I' ru p
  · rename_i b
    cases hr
    obtain ⟨v, u, e1, e2, r1, ru⟩ := rO1 rO rv
    have e3 := c_bl r1.c
    subst e1 e2 e3
    exact by_call (P := same (.int (if b then 1 else 0)) E₂.H) call_int1 I rv (.inr ⟨b, rfl, rfl, rfl⟩) fun v H' u s' I' ru p => ok_same hP xe w (rep_int.mpr rfl) I' ru p
  · rename_i z
    obtain ⟨i, hi, e⟩ := Option.map_eq_some_iff.mp hr
    subst e
    obtain ⟨v, u, e1, e2, r1, ru⟩ := rO1 rO rv
    have e3 := (c_str r1.c).1
    subst e1 e2 e3
    obtain ⟨h1, h2⟩ := intOf_ok hi
    exact by_call (P := same (.int i) E₂.H) call_int_str I rv ⟨_, i, rfl, h1, by rw [str_len]; exact h2, rfl, rfl⟩ fun v H' u s' I' ru p => ok_same hP xe w (rep_int.mpr rfl) I' ru p
  · obtain ⟨t, ht, e⟩ := Option.map_eq_some_iff.mp hr
    subst e
    obtain ⟨v, u, e1, e2, r1, ru⟩ := rO1 rO rv
    subst e1 e2
    exact call_str I w xe r1 ru ht hP
  · rename_i i j
    cases hr
    obtain ⟨v, u, v', u', e1, e2, r1, ru, r2, ru2⟩ := rO2 rO rv
    have e3 := c_int r1.c
    have e4 := c_int r2.c
    subst e1 e2 e3 e4
    exact by_call (P := same (.int (if j < i then j else i)) E₂.H) (call_min2 hc) I rv ⟨i, j, rfl, rfl, rfl⟩ fun v H' u s' I' ru p => ok_same hP xe w (rep_int.mpr rfl) I' ru p
  · rename_i i j
    cases hr
    obtain ⟨v, u, v', u', e1, e2, r1, ru, r2, ru2⟩ := rO2 rO rv
    have e3 := c_int r1.c
    have e4 := c_int r2.c
    subst e1 e2 e3 e4
    exact by_call (P := same (.int (if i < j then j else i)) E₂.H) (call_max2 hc) I rv ⟨i, j, rfl, rfl, rfl⟩ fun v H' u s' I' ru p => ok_same hP xe w (rep_int.mpr rfl) I' ru p
  · obtain ⟨v, u, e1, e2, r1, ru⟩ := rO1 rO rv
    subst e1 e2
    exact eaten_ok hc hu I w xe (view_x w r1) ru hr hP
  · cases hr
end
end RS
end S10
section S11
set_option autoImplicit false
set_option linter.all false
set_option maxRecDepth 100000
set_option Elab.async false
/-! B2: calls of built-ins, of methods. -/
namespace RS
open PySem PySem.Spec PyProof.Rows L2

section
variable {G : Cfg} {pins : List (Addr × Obj)} {s : Shared} {σ : L2.St} {E E₂ : WS} {st : Sto} {v1 v2 : V} {u1 u2 : Value} {Q : Value → Shared → Prop}
/-- what a looked-at list of arguments gives -/
theorem SO.thn' {ρ : Env} {pos : Pos} {es : List Expr} {m : Env → Sto → R (List D)} (h : SO G es m) (I : Inv G.X pins σ E.H s) (w : G.WO E st) (f : G.Fr E σ ρ) (tk : G.Tk s) {β : Type} {F : List D → Sto → R β} {P : β → Sto → Prop} {Pe : Nat → Sto → Prop} (hE : ∀ c t, Pe c t → G.er E σ c t)
    (hO : Out ((m ρ st).bind F) P Pe) {Q : List Value → Shared → Prop}
    (k : ∀ x st1 E1 vs us s1, Ext E E1 → G.WO E1 st1 → RepO G.X.K E1 x vs → Inv G.X pins σ E1.H s1 → Vals vs us → G.Tk s1 → Out (F x st1) P Pe → Q us s1) : wpAny G.M G.X.A (spliced (backTo pos (starEach es G.X.env))) Q G.X.xe s :=
  G.wtk tk (h.run pos pins s σ E ρ st _ I w f tk ((Out.bind.mp hO).mono (fun x st1 hx E1 v u s1 x1 w1 r1 I1 ru t1 => k x st1 E1 v u s1 x1 w1 r1 I1 ru t1 hx) hE))
theorem SA.thn' {ρ : Env} {pos : Pos} {es : List Expr} {m : Env → Sto → R (List D)} (h : SA G es m) (I : Inv G.X pins σ E.H s) (w : G.WO E st) (f : G.Fr E σ ρ) (tk : G.Tk s) {β : Type} {F : List D → Sto → R β} {P : β → Sto → Prop} {Pe : Nat → Sto → Prop} (hE : ∀ c t, Pe c t → G.er E σ c t)
    (hO : Out ((m ρ st).bind F) P Pe) {Q : List Value → Shared → Prop}
    (k : ∀ x st1 E1 vs us s1, Ext E E1 → G.WO E1 st1 → RepA G.X.K E1 x vs → Inv G.X pins σ E1.H s1 → Vals vs us → G.Tk s1 → Out (F x st1) P Pe → Q us s1) : wpAny G.M G.X.A (spliced (backTo pos (starEach es G.X.env))) Q G.X.xe s :=
  G.wtk tk (h.run pos pins s σ E ρ st _ I w f tk ((Out.bind.mp hO).mono (fun x st1 hx E1 v u s1 x1 w1 r1 I1 ru t1 => k x st1 E1 v u s1 x1 w1 r1 I1 ru t1 hx) hE))

/-- no starred argument -/
def plainArgs : List Expr → Bool
  | [] => true
  | .Starred _ _ :: _ => false
  | _ :: r => plainArgs r
theorem star_cons {e : Expr} {es : List Expr} {env : PySem.Env} (h : plainArgs (e :: es) = true) : starEach (e :: es) env = (false, eval e env) :: starEach es env ∧ plainArgs es = true := by
  cases e <;> first | (simp [plainArgs] at h; done) | exact ⟨by simp [starEach], by simpa [plainArgs] using h⟩
theorem star_plain {pos : Pos} {env : PySem.Env} : ∀ {es : List Expr}, plainArgs es = true → (backTo pos (starEach es env)).any (·.1) = false ∧ (backTo pos (starEach es env)).all (fun x => !x.1) = true
  | [], _ => ⟨by simp [starEach, backTo], by simp [starEach, backTo]⟩
  | e :: es, h => by
    obtain ⟨e1, h2⟩ := star_cons (env := env) h
    obtain ⟨i1, i2⟩ := star_plain (pos := pos) (env := env) h2
    rw [e1]
    exact ⟨by simpa [backTo] using i1, by simpa [backTo] using i2⟩

/-! ### built-ins -/
def biName : Bi → Str
  | .len => "len" | .abs => "abs" | .int => "int" | .str => "str" | .list => "list" | .tuple => "tuple" | .dict => "dict"
  | .sorted => "sorted" | .sum => "sum" | .min => "min" | .max => "max" | .min2 => "min" | .max2 => "max"
theorem bi_val (b : Bi) : (∃ id, biVal b = .builtin id) ∨ ∃ id, biVal b = .type id := by cases b <;> first | exact .inl ⟨_, rfl⟩ | exact .inr ⟨_, rfl⟩
theorem bi_boot (b : Bi) : bootBuiltins (biName b) = some (biVal b) := by cases b <;> (unfold biName biVal; decide +kernel)
theorem bi_n1 (b : Bi) : biName b ≠ "__name__" := by cases b <;> decide +kernel
theorem bi_n2 (b : Bi) : (biName b == ("__debug__" : Str)) = false := by cases b <;> decide +kernel
theorem se_bi {b : Bi} {e : Expr} {es : List Expr} {p pos : Pos} {m : Env → Sto → R (List D)} (hc : G.X.calm = true) (hu : G.X.A.units + 128 < cLine) (hg : Gl G.X (biName b)) (hm : G.X.mg (biName b) = none) (hp : plainArgs (e :: es) = true) (h : SO G (e :: es) m) :
    SE G (.Call (.Name (biName b) p) (e :: es) [] pos) (fun ρ s => (m ρ s).bind fun ds s => ofO (builtin b s ds) s) := by
  refine ⟨fun pins s σ E ρ st Q I w f tk hO => ?_⟩
  obtain ⟨e1, h2⟩ := star_cons (env := G.X.env) hp
  obtain ⟨e2, _⟩ := star_plain (pos := pos) (env := G.X.env) h2
  have key : wpAny G.M G.X.A (spliced (backTo pos (starEach (e :: es) G.X.env))) (fun us s1 => wpAny G.M G.X.A (call (biVal b) us) Q G.X.xe s1) G.X.xe s := by
    refine h.thn' I w f tk (fun _ _ z => z) hO fun ds st1 E1 vs us s1 x1 w1 r1 I1 rv t1 h1 => ?_
    obtain ⟨r, hr, hP⟩ := h1.ofO
    exact builtin_ok hc hu I1 w1 x1 r1 rv hr hP
  refine wpAny_Call_Name_kw (ld_blt I hg hm (bi_boot b) ?_ (bi_n1 b) (bi_n2 b))
  rcases bi_val b with ⟨id, h⟩ | ⟨id, h⟩
  · rw [h] at key ⊢
    exact PyProof.Rows.callWith_builtin1 key e1 e2
  · rw [h] at key ⊢
    exact PyProof.Rows.callWith_type1 key e1 e2

/-! ### methods -/
def mtT : Mt → String
  | .get => "dict" | .values => "dict" | .keys => "dict" | .count => "list" | .index => "list" | _ => "str"
def mtN : Mt → Str
  | .get => "get" | .startswith => "startswith" | .replace => "replace" | .join => "join" | .count => "count" | .index => "index" | .values => "values" | .keys => "keys" | .split => "split"
def mtId : Mt → String
  | .get => "dict.get" | .startswith => "str.startswith" | .replace => "str.replace" | .join => "str.join" | .count => "list.count" | .index => "list.index" | .values => "dict.values" | .keys => "dict.keys" | .split => "str.split"
def plainBase : Expr → Bool
  | .Call (.Name _ _) [] [] _ => false
  | _ => true
theorem base_eq {o : Expr} {name : Str} {env : PySem.Env} {whole : Sem Value} (h : plainBase o = true) : attributeBase o name env whole = whole := by
  unfold attributeBase
  split
  · simp [plainBase] at h
  · rfl
theorem recv_is {m : Mt} {d : D} {x : V} {u : Value} (I : Inv G.X pins σ E₂.H s) (r : RepC G.X.K E₂ d x) (ru : RelV x u) (h : recv m d = true) : s.TypeIs u (mtT m) ∧ ∀ a, u = .ref a → ∃ ob, s.heap.get? a = some ob ∧ ob.dict = none := by
  unfold recv at h
  split at h <;> first | (cases h; done) | skip
  · obtain ⟨a, ks, rfl, hd, rK⟩ := c_dct r
    exact tyV_is I ru (.inr (.inr (.inl ⟨rfl, .inl ⟨ks, hd⟩⟩)))
  all_goals
    obtain ⟨rfl, _⟩ := c_str r
    exact tyV_is I ru rfl
theorem mtR_run {id : String} {r : V → List V → Hp → VK → Prop} {vs : List V} {us : List Value} {P : V → Hp → Prop} {H : Hp} (ho : MtR G.X id r) (I : Inv G.X pins σ H s) (r1 : RelV v1 u1) (rv : Vals vs us) (hr : r v1 vs H P)
    (k : ∀ v H' u s', Inv G.X pins σ H' s' → RelV v u → P v H' → Q u s') : wpAny G.M G.X.A (call (.builtin id) (u1 :: us)) Q G.X.xe s :=
  L2.thn (ho pins s σ H v1 vs u1 us P I r1 rv hr) fun u s' ⟨v, H', I', ru, p⟩ => k v H' u s' I' ru p
theorem strsOf_ok : ∀ {ds : List D} {ts : List (List Nat)}, strsOf ds = some ts → ds = ts.map D.str
  | [], ts, h => by rw [strsOf] at h; cases h; rfl
  | d :: ds, ts, h => by
    cases d <;> first | (simp [strsOf] at h; done) | skip
    rw [strsOf] at h
    obtain ⟨t, ht, e⟩ := Option.map_eq_some_iff.mp h
    rw [← e, strsOf_ok ht]
    rfl
theorem rep_notmut {K : PySem.W.Frag} {E : WS} {d : D} {v : V} (h : isMut d = false) (r : RepX K E d v) : Rep K E d v := by
  rcases r with ⟨a, e, ho, _⟩ | r
  · cases d <;> first | (simp [isMut] at h; done) | exact ho.elim
  · exact r
/-- all but replace -/
theorem method_ok {m : Mt} {x : D} {ds : List D} {r : D × Kd} {vs : List V} {us : List Value} (hm : m ≠ .replace) (hu : G.X.A.units + 128 < cLine) (I : Inv G.X pins σ E₂.H s) (w : G.WO E₂ st) (xe : Ext E E₂) (rx : RepX G.X.K E₂ x v1) (ru1 : RelV v1 u1) (rO : RepO G.X.K E₂ ds vs) (rv : Vals vs us)
    (hr : method m st x ds = some r) (hP : G.okP pins σ E Q r st) : wpAny G.M G.X.A (call (.builtin (mtId m)) (u1 :: us)) Q G.X.xe s := by
  have c1 := view_x w rx
  unfold method at hr
  split at hr
  · rename_i kvs k e
    rw [e] at c1
    split at hr
    · rename_i hk
      cases hr
      obtain ⟨k', hk⟩ := isKey_of hk
      obtain ⟨a, ks, rfl, hd, rK⟩ := c_dct c1
      cases ru1
      obtain ⟨v, u, e1, e2, r1, ru⟩ := rO1 rO rv
      have e3 := rep_key hk r1.c
      subst e1 e2 e3
      refine d_get1 (by omega) I (DGet.k hd) ru fun w' s' I' rw' => hP E₂ _ w' s' xe w ?_ I' rw'
      show Rep _ _ _ _
      cases q : dget kvs k with
      | none => rw [(rK.get hk).2 q]; exact rep_non.mpr rfl
      | some d =>
        obtain ⟨z, hz, rz⟩ := (rK.get hk).1 d q
        rw [hz]; exact rz
    · cases hr
  · rename_i kvs k d e
    rw [e] at c1
    split at hr
    · rename_i hk
      cases hr
      rw [Bool.and_eq_true, Bool.not_eq_true'] at hk
      obtain ⟨k', hk1⟩ := isKey_of hk.1
      obtain ⟨a, ks, rfl, hd, rK⟩ := c_dct c1
      cases ru1
      obtain ⟨v, u, v', u', e1, e2, r1, ru, r2, ru2⟩ := rO2 rO rv
      have e3 := rep_key hk1 r1.c
      subst e1 e2 e3
      refine d_get2 (by omega) I (DGet.k hd) ru ru2 fun w' s' I' rw' => hP E₂ _ w' s' xe w ?_ I' rw'
      show Rep _ _ _ _
      cases q : dget kvs k with
      | none => rw [(rK.get hk1).2 q]; exact rep_notmut hk.2 r2
      | some d =>
        obtain ⟨z, hz, rz⟩ := (rK.get hk1).1 d q
        rw [hz]; exact rz
    · cases hr
  · rename_i t z e
    cases hr
    rw [e] at c1
    obtain ⟨v, u, e1, e2, r1, ru⟩ := rO1 rO rv
    obtain ⟨e3, _⟩ := c_str r1.c
    obtain ⟨e4, _⟩ := c_str c1
    subst e1 e2 e3 e4
    exact mtR_run (P := same (.bl (isPre z t)) E₂.H) mt_startswith I ru1 rv ⟨_, _, rfl, rfl, by rw [starts_eq], rfl⟩ fun v H' u s' I' ru p => ok_same hP xe w (rep_bl.mpr rfl) I' ru p
  · exact absurd rfl hm
  · rename_i z l e
    rw [e] at c1
    obtain ⟨v, u, e1, e2, r1, ru⟩ := rO1 rO rv
    obtain ⟨e4, _⟩ := c_str c1
    subst e1 e2 e4
    have c2 := view_x w r1
    split at hr
    · rename_i xs e
      rw [e] at c2
      obtain ⟨ts, hts, h⟩ := Option.bind_eq_some_iff.mp hr
      split at h
      · rename_i hz
        cases h
        obtain ⟨a, vs, rfl, hl, rA⟩ := c_sqL c2
        have ex := strsOf_ok hts
        subst ex
        have hev : ∀ {ts : List (List Nat)} {vs : List V}, RepA G.X.K E₂ (ts.map D.str) vs → vs = (ts.map S_).map V.str := fun {ts} => by
          induction ts with
          | nil => intro vs r; rw [List.map_nil, RepA] at r; rw [r]; rfl
          | cons t ts ih =>
            intro vs r
            rw [List.map_cons, RepA] at r
            obtain ⟨v, q, e, r1, r2⟩ := r
            rw [rep_str] at r1
            rw [e, r1.1, ih r2]
            rfl
        have ev := hev rA
        subst ev
        have esum : ((ts.map S_).map (·.length)).sum = (ts.map List.length).sum := by
          rw [List.map_map]
          congr 1
        refine mtR_run (P := same (.str (S_ (cat z ts))) E₂.H) mt_join I ru1 rv ⟨_, a, ts.map S_, rfl, rfl, .inl hl, ?_, by rw [join_eq], rfl⟩ fun v H' u s' I' ru p => ok_same hP xe w (rep_str.mpr ⟨rfl, ?_⟩) I' ru p
        · rw [esum, List.length_map, str_len]
          exact hz
        · refine Nat.le_trans ?_ hz
          cases ts with
          | nil => simp [cat]
          | cons t ts =>
            rw [cat_eq, List.length_append, List.length_flatten, List.map_map, List.map_cons, List.sum_cons, List.length_cons]
            have : ∀ l : List (List Nat), (l.map (List.length ∘ fun t => z ++ t)).sum = (l.map List.length).sum + l.length * z.length := by
              intro l
              induction l with
              | nil => simp
              | cons t l ih => rw [List.map_cons, List.sum_cons, ih, List.map_cons, List.sum_cons, List.length_cons, Nat.succ_mul]; simp only [Function.comp]; rw [List.length_append]; omega
            rw [this, Nat.succ_mul]
            omega
      · cases h
    · cases hr
  · cases hr
theorem mt_slot {m : Mt} (h : recv m (.dct []) = true ∨ recv m (.str []) = true) : PlainAttrs (mtT m) ∧ Slot (mtT m) (mtN m) (mtId m) ∧ typeOf (.builtin (mtId m)) = pure (.type "method_descriptor") := by
  cases m <;> simp [recv] at h
  · exact ⟨PySem.F.plainAttrs_dict, PySem.F.slot_dict_get, PySem.F.type_dict_get⟩
  · exact ⟨PySem.F.plainAttrs_str, PySem.F.slot_str_startswith, PySem.F.type_str_startswith⟩
  · exact ⟨PySem.F.plainAttrs_str, PySem.F.slot_str_replace, PySem.F.type_str_replace⟩
  · exact ⟨PySem.F.plainAttrs_str, PySem.F.slot_str_join, PySem.F.type_str_join⟩
theorem recv_any {m : Mt} {d : D} (h : recv m d = true) : recv m (.dct []) = true ∨ recv m (.str []) = true := by
  unfold recv at h
  split at h <;> first | (cases h; done) | exact .inl rfl | exact .inr rfl
theorem se_mt {m : Mt} {o e : Expr} {es : List Expr} {apos pos : Pos} {me : Env → Sto → R (D × Kd)} {ms : Env → Sto → R (List D)} (hm : m ≠ .replace) (hu : G.X.A.units + 128 < cLine) (hb : plainBase o = true) (hp : plainArgs (e :: es) = true) (hl : (apos.endLine == pos.line) = true) (hn : es.length < 20)
    (ho : SE G o me) (hs : SO G (e :: es) ms) :
    SE G (.Call (.Attribute o (mtN m) apos) (e :: es) [] pos) (fun ρ s => (me ρ s).bind fun x s => if recv m (view s x.1) then (ms ρ s).bind fun ds s => ofO (method m s x.1 ds) s else .no) := by
  refine ⟨fun pins s σ E ρ st Q I w f tk hO => ?_⟩
  obtain ⟨_, e3⟩ := star_plain (pos := pos) (env := G.X.env) hp
  obtain ⟨e1, h2⟩ := star_cons (env := G.X.env) hp
  obtain ⟨e2, _⟩ := star_plain (pos := pos) (env := G.X.env) h2
  refine wpAny_Call_method_late (base_eq hb) ?_ hl rfl (ho.thn I w f tk hO fun x st1 E1 v1 u1 s1 x1 w1 r1 I1 ru1 t1 h1 => ?_)
  · rw [e3]
    simp [keywordEach, backToKw]
    omega
  · split at h1
    · rename_i hrv
      obtain ⟨q1, q2, q3⟩ := mt_slot (recv_any hrv)
      obtain ⟨t1', t2'⟩ := recv_is I1 (view_x w1 r1.x) ru1 hrv
      have key : wpAny G.M G.X.A (spliced (backTo pos (starEach (e :: es) G.X.env))) (fun us s1 => wpAny G.M G.X.A (call (.builtin (mtId m)) (u1 :: us)) Q G.X.xe s1) G.X.xe s1 := by
        refine hs.thn' I1 w1 (f.mono x1) t1 (fun _ _ z => Cfg.er_ext x1 z) h1 fun ds st2 E2 vs us s2 x2 w2 r2 I2 rv t2 h2 => ?_
        obtain ⟨r, hr, hP⟩ := h2.ofO
        exact method_ok hm hu I2 w2 (x1.trans x2) (r1.x.ext x2) ru1 r2 rv hr hP
      rw [e1] at key ⊢
      exact ⟨mtT m, mtId m, q1, q2, q3, t1', t2', Calls.callWith_builtin (by show (false || (backTo pos (starEach es G.X.env)).any (·.1)) = false; rw [e2] <;> rfl) (Calls.evalArgs_plain key)⟩
    · exact h1.elim
theorem method_repl {st : Sto} {x : D} {y z : List Nat} {r : D × Kd} (h : method .replace st x [.str y, .str z] = some r) :
    ∃ t, view st x = .str t ∧ y ≠ [] ∧ y ≠ z ∧ t.length + (t.length + 1) * z.length ≤ 16777216 ∧ r = (.str (repl y z t), .fz) := by
  unfold method at h
  generalize view st x = d at h
  cases d <;> simp only at h <;> first | (cases h; done) | skip
  rename_i t
  split at h
  · cases h
  · rename_i hz
    simp only [Bool.or_eq_true, List.isEmpty_iff, decide_eq_true_eq, not_or, Nat.not_lt, beq_iff_eq] at hz
    cases h
    exact ⟨t, rfl, hz.1.1, hz.1.2, hz.2, rfl⟩
/-- .replace of two texts that are written there -/
theorem se_replace {o : Expr} {y z : List Nat} {j k : Nat} {c0 c1 apos pos : Pos} {me : Env → Sto → R (D × Kd)} (htk : G.tk = true) (hb : plainBase o = true) (hl : (apos.endLine == pos.line) = true)
    (ho : SE G o me) :
    SE G (.Call (.Attribute o "replace" apos) [.Constant (.str (S_ y)) j c0, .Constant (.str (S_ z)) k c1] [] pos) (fun ρ s => (me ρ s).bind fun x s => if recv .replace (view s x.1) then ((R.ok [D.str y, D.str z] s).bind fun ds s => ofO (method .replace s x.1 ds) s) else .no) := by
  refine ⟨fun pins s σ E ρ st Q I w f tk hO => ?_⟩
  refine PySem.Call_method2 (base_eq hb) (by simp [starEach]) hl (ho.thn I w f tk hO fun x st1 E1 v1 u1 s1 x1 w1 r1 I1 ru1 t1 h1 => ?_)
  split at h1
  · rw [R.bind_ok] at h1
    obtain ⟨r, hr, hP⟩ := h1.ofO
    have c1' := view_x w1 r1.x
    obtain ⟨t, e, z1, z2, z3, e5⟩ := method_repl hr
    subst e5
    rw [e] at c1'
    obtain ⟨rfl, ht⟩ := c_str c1'
    obtain ⟨tx, rfl⟩ := ru1
    have h0 : 1 ≤ s1.toks := t1 htk
    have hne : (S_ y == S_ z) = false := by
      rw [beq_eq_false_iff_ne]
      intro e
      exact z2 (congrArg (fun q : Str => q.cps.toList) e)
    have hbd : (S_ t).length + ((S_ t).length + 1) * (S_ z).length ≤ 16777216 := by
      rw [str_len, str_len]
      exact z3
    refine ⟨"str", _, PySem.F.plainAttrs_str, PySem.F.slot_str_replace, PySem.F.type_str_replace, typeIs_str _ _ _, (fun _ e => nomatch e), Calls.callWith_builtin rfl (Calls.evalArgs_plain (Calls.spliced_cons ?_))⟩
    refine Calls.Constant_str (Calls.spliced_cons (Calls.Constant_str (Calls.spliced_nil ?_)))
    refine PySem.SC.replace (by show s1.toks ≠ 0; omega) (by show s1.toks + 1 ≠ 0; omega) (by show s1.toks ≠ s1.toks + 1; omega) hne hbd fun t' k => ?_
    rw [replace_eq t y z z1]
    refine hP E1 (.str (S_ (repl y z t))) _ _ x1 w1 (rep_S (K := G.X.K) (E := E1) ?_) (I1.tok k) ⟨t', rfl⟩
    have hlen := TK.replace_len (S_ t) (S_ y) (S_ z)
    rw [replace_eq t y z z1, str_len] at hlen
    unfold line
    exact Nat.le_trans hlen hbd
  · exact h1.elim
end
end RS
end S11
section S12
set_option autoImplicit false
set_option linter.all false
set_option maxRecDepth 100000
set_option Elab.async false
/-! B3: f-strings, dict displays; a thing of one's own written. -/
namespace RS
open PySem PySem.Spec PyProof.Rows L2

/-! ### f-strings -/
section
variable {G : Cfg} {pins : List (Addr × Obj)} {s : Shared} {σ : L2.St} {E E₂ : WS} {st : Sto} {v1 v2 : V} {u1 u2 : Value} {Q : Value → Shared → Prop}
/-- a part -/
structure SF (G : Cfg) (e : Expr) (m : Env → Sto → R (List Nat)) : Prop where
  run : ∀ (pins : List (Addr × Obj)) (s : Shared) (σ : L2.St) (E : WS) (ρ : Env) (st : Sto) (Q : Value → Shared → Prop), Inv G.X pins σ E.H s → G.WO E st → G.Fr E σ ρ → G.Tk s →
    Out (m ρ st) (fun t st' => ∀ E' tk s', Ext E E' → G.WO E' st' → Inv G.X pins σ E'.H s' → Q (.str (S_ t) tk) s') (G.er E σ) → wpAny G.M G.X.A (eval e G.X.env) Q G.X.xe s
theorem sf_con {e : Expr} {m : Env → Sto → R (D × Kd)} (he : SE G e m) : SF G e (fun ρ s => (m ρ s).bind fun x s => match x.1 with | .str t => .ok t s | _ => .no) := by
  refine ⟨fun pins s σ E ρ st Q I w f tk h => he.thn I w f tk h fun x st1 E1 v u s1 x1 w1 r1 I1 ru t1 h1 => ?_⟩
  split at h1
  · rename_i t e
    have c := r1.c
    rw [e] at c
    obtain ⟨e1, _⟩ := c_str c
    subst e1
    obtain ⟨tk, rfl⟩ := ru
    exact h1 E1 tk s1 x1 w1 I1
  · exact h1.elim
theorem sf_fmt {e : Expr} {pos : Pos} {m : Env → Sto → R (D × Kd)} (he : SE G e m) : SF G (.FormattedValue e (-1) none pos) (fun ρ s => (m ρ s).bind fun x s => ofO (fmtOf x.1) s) := by
  refine ⟨fun pins s σ E ρ st Q I w f tk h => wpAny_FormattedValue_plain (he.thn I w f tk h fun x st1 E1 v u s1 x1 w1 r1 I1 ru t1 h1 => ?_)⟩
  obtain ⟨t, ht, hP⟩ := h1.ofO
  have c := r1.c
  cases hx : x.1 <;> rw [hx] at ht c <;> simp only [fmtOf] at ht <;> first | (cases ht; done) | skip
  · split at ht
    · rename_i i hi
      cases ht
      have e := c_int c
      subst e
      obtain ⟨tk, rfl⟩ := ru
      refine wpAny_formatField_int (small_log hi) ?_
      have e : (toString i : Str) = S_ (intS i) := int_str i
      have := hP E1 (s1.toks + 1) { s1 with toks := s1.toks + 1 + 1 } x1 w1 (I1.tok _)
      rw [← int_str] at this
      exact this
    · cases ht
  · cases ht
    obtain ⟨e, hz⟩ := c_str c
    subst e
    obtain ⟨tk, rfl⟩ := ru
    exact wpAny_formatField_str (hP E1 _ _ x1 w1 I1) (hP E1 _ _ x1 w1 (I1.tok _)) (by rw [str_len, ← line_eq]; exact hz)
/-- the parts behind acc -/
structure SJ (G : Cfg) (es : List Expr) (m : List Nat → Env → Sto → R (List Nat)) : Prop where
  run : ∀ (acc : List Nat) (pins : List (Addr × Obj)) (s : Shared) (σ : L2.St) (E : WS) (ρ : Env) (st : Sto) (Q : Str → Shared → Prop), acc.length ≤ line → Inv G.X pins σ E.H s → G.WO E st → G.Fr E σ ρ → G.Tk s →
    Out (m acc ρ st) (fun t st' => ∀ E' s', t.length ≤ line → Ext E E' → G.WO E' st' → Inv G.X pins σ E'.H s' → Q (S_ t) s') (G.er E σ) → Joins G.M G.X.A G.X.xe (evalEach es G.X.env) (S_ acc) Q s
theorem sj_nil : SJ G [] (fun acc _ s => .ok acc s) := by
  refine ⟨fun acc pins s σ E ρ st Q hz I w f tk h => ?_⟩
  have e0 : evalEach [] G.X.env = [] := by first | rfl | simp [evalEach]
  rw [e0]
  exact h E s hz (Ext.refl E) w I
theorem sj_cons {e : Expr} {es : List Expr} {m : Env → Sto → R (List Nat)} {ms : List Nat → Env → Sto → R (List Nat)} (he : SF G e m) (hs : SJ G es ms) :
    SJ G (e :: es) (fun acc ρ s => (m ρ s).bind fun t s => if acc.length + t.length ≤ line then ms (acc ++ t) ρ s else .no) := by
  refine ⟨fun acc pins s σ E ρ st Q hz I w f tk h => ?_⟩
  have e0 : evalEach (e :: es) G.X.env = eval e G.X.env :: evalEach es G.X.env := by first | rfl | simp [evalEach]
  rw [e0]
  refine G.wtk tk (he.run pins s σ E ρ st _ I w f tk ((Out.bind.mp h).mono (fun t st1 h1 E1 k s1 x1 w1 I1 t1 => ?_) fun _ _ z => z))
  split at h1
  · rename_i hl
    refine ⟨S_ t, k, rfl, ?_, ?_⟩
    · rw [str_app, str_len, List.length_append, ← line_eq]
      exact hl
    · rw [str_app]
      refine hs.run (acc ++ t) pins s1 σ E1 ρ st1 Q (by rw [List.length_append]; exact hl) I1 w1 (f.mono x1) t1 (h1.mono (fun z st2 h2 E2 s2 hz2 x2 w2 I2 => h2 E2 s2 hz2 (x1.trans x2) w2 I2) fun _ _ z => Cfg.er_ext x1 z)
  · exact h1.elim
theorem se_fstr {a b : Expr} {es : List Expr} {pos : Pos} {m : List Nat → Env → Sto → R (List Nat)} (h : SJ G (a :: b :: es) m) : SE G (.JoinedStr (a :: b :: es) pos) (fun ρ s => (m [] ρ s).bind fun t s => .ok (.str t, .fz) s) := by
  refine ⟨fun pins s σ E ρ st Q I w f tk hO => wpAny_JoinedStr (h.run [] pins s σ E ρ st _ (Nat.zero_le _) I w f tk ((Out.bind.mp hO).mono (fun t st1 h1 E1 s1 hz x1 w1 I1 => ?_) fun _ _ z => z))⟩
  exact ⟨by rw [str_len, ← line_eq]; exact hz, h1 E1 (.str (S_ t)) _ _ x1 w1 (rep_S (K := G.X.K) (E := E1) hz) (I1.tok _) ⟨_, rfl⟩⟩
end

/-! ### a thing of one's own written -/
def IsLD (o : HO) : Prop := (∃ xs, o = .lst xs) ∨ ∃ ks, o = .dK ks
section
variable {K : PySem.W.Frag} {J : Inf} {E E₀ : WS} {st : Sto} {p : Addr} {o o' : HO}
theorem last_over (h : E.H p = some o) (hm : IsLD o) (n : ¬ E.Fz p) : Last E (E.put p o') := by
  have hne : ∀ a u, E.H a = some u → (∀ xs, u ≠ .lst xs) → (∀ ks, u ≠ .dK ks) → a ≠ p := fun a u e h1 h2 z => by
    subst z
    rw [h] at e
    cases e
    rcases hm with ⟨xs, e⟩ | ⟨ks, e⟩
    · exact h1 _ e
    · exact h2 _ e
  refine ⟨fun a xs e => ?_, fun a u u' e => ?_, fun a z => ⟨z, fun u e => ?_⟩, fun _ _ h => h⟩
  · show upd E.H p o' a = _
    rw [upd_ne (hne a _ e (fun _ z => by cases z) fun _ z => by cases z)]; exact e
  · show upd E.H p o' a = _
    rw [upd_ne (hne a _ e (fun _ z => by cases z) fun _ z => by cases z)]; exact e
  · show upd E.H p o' a = _
    rw [upd_ne (fun q => by rw [q] at z; exact n z)]; exact e
theorem ext_over (x : Ext E₀ E) (h0 : E₀.H p = none) (h : E.H p = some o) (hm : IsLD o) (n : ¬ E.Fz p) : Ext E₀ (E.put p o') where
  pres := fun a u e h1 h2 => by show upd E.H p o' a = _; rw [upd_ne (ne_of_none e h0)]; exact x.pres a u e h1 h2
  up := fun a e => by
    have e : upd E.H p o' a = none := e
    by_cases z : a = p
    · rw [z, upd_same] at e; cases e
    · rw [upd_ne z] at e; exact x.up a e
  tup := fun a u e => (last_over h hm n).tup a u (x.tup a u e)
  frz := fun a u u' e => (last_over h hm n).frz a u u' (x.frz a u u' e)
  fz := fun a z => ⟨(x.fz a z).1, fun u e => ((last_over (o' := o') h hm n).fz a (x.fz a z).1).2 u ((x.fz a z).2 u e)⟩
  fzn := x.fzn
  mu := x.mu
theorem WSOk.over (w : WSOk K J E st) (h : E.H p = some o) (hm : IsLD o) (n : ¬ E.Fz p) (hmu : p ∉ E.μ) : WSOk K J (E.put p o') st := by
  have l := last_over (o' := o') h hm n
  have other : ∀ a, a ≠ p → (E.put p o').H a = E.H a := fun a e => upd_ne e
  refine ⟨w.len, w.nd, fun k c a h1 h2 => (w.cell k c a h1 h2).last l fun u e => ?_, w.nfz, fun a z => ?_, fun P hP => ?_, ?_⟩
  · have : a ≠ p := fun q => hmu (q ▸ List.mem_of_getElem? h2)
    rw [other a this]; exact e
  · obtain ⟨u, e, nt⟩ := w.fzH a z
    exact ⟨u, by rw [other a (fun q => by rw [q] at z; exact n z)]; exact e, nt⟩
  · obtain ⟨ps, e, t⟩ := w.tg P hP
    refine ⟨ps, ?_, t⟩
    have : P ≠ p := fun q => by
      rw [q, h] at e
      cases e
      rcases hm with ⟨_, e⟩ | ⟨_, e⟩ <;> cases e
    exact (other P this).trans e
  · intro q hq
    obtain ⟨ps, e, t, t2⟩ := w.tl q hq
    refine ⟨ps, ?_, t, fun pos cv hc => ?_⟩
    rotate_left
    · obtain ⟨c, e1, e2⟩ := t2 pos cv hc
      refine ⟨c, e1, ?_⟩
      have : c ≠ p := fun q => by
        rw [q, h] at e2
        cases e2
        rcases hm with ⟨_, e⟩ | ⟨_, e⟩ <;> cases e
      exact (other c this).trans e2
    have : q.1 ≠ p := fun q => by
      rw [q, h] at e
      cases e
      rcases hm with ⟨_, e⟩ | ⟨_, e⟩ <;> cases e
    exact (other q.1 this).trans e
end

/-! ### dict displays -/
section
variable {G : Cfg} {pins : List (Addr × Obj)} {s : Shared} {σ : L2.St} {E E₂ : WS} {st : Sto} {v1 v2 : V} {u1 u2 : Value} {Q : Value → Shared → Prop}
abbrev VVK (ks : List (Key × V)) (ws : List (Value × Value)) : Prop := VV (ks.map fun kv => (kV kv.1, kv.2)) ws
structure SP (G : Cfg) (pos : Pos) (keys : List (Option Expr)) (values : List Expr) (m : Env → Sto → R (List (D × D))) : Prop where
  run : ∀ (pins : List (Addr × Obj)) (s : Shared) (σ : L2.St) (E : WS) (ρ : Env) (st : Sto) (Q : List (Value × Value) → Shared → Prop), Inv G.X pins σ E.H s → G.WO E st → G.Fr E σ ρ → G.Tk s →
    Out (m ρ st) (fun kvs st' => ∀ E' ks ws s', Ext E E' → G.WO E' st' → RepK G.X.K E' kvs ks → Inv G.X pins σ E'.H s' → VVK ks ws → Q ws s') (G.er E σ) → wpAny G.M G.X.A (evalPairs (pairTrees keys values G.X.env pos)) Q G.X.xe s
theorem sp_nil {pos : Pos} : SP G pos [] [] (fun _ s => .ok [] s) := ⟨fun pins s σ E ρ st Q I w f tk h => pairTrees_nil_walk (h E [] [] s (Ext.refl E) w (by rw [RepK]) I .nil)⟩
theorem sp_cons {pos : Pos} {k v : Expr} {keys : List (Option Expr)} {values : List Expr} {mk mv : Env → Sto → R (D × Kd)} {m : Env → Sto → R (List (D × D))} (hk : SE G k mk) (hv : SE G v mv) (h : SP G pos keys values m) :
    SP G pos (some k :: keys) (v :: values) (fun ρ s => (mk ρ s).bind fun x s => (mv ρ s).bind fun y s => (ofO (keep y) s).bind fun d s => if isKey x.1 then (m ρ s).bind fun kvs s => .ok ((x.1, d) :: kvs) s else .no) := by
  refine ⟨fun pins s σ E ρ st Q I w f tk hO => pairTrees_cons_walk (hk.thn I w f tk hO fun x st1 E1 v1 u1 s1 x1 w1 r1 I1 ru1 t1 h1 => ?_)⟩
  refine hv.thn' I1 w1 (f.mono x1) t1 (fun _ _ z => Cfg.er_ext x1 z) h1 fun y st2 E2 v2 u2 s2 x2 w2 r2 I2 ru2 t2 h2 => ?_
  obtain ⟨d, hd, h3⟩ := (Out.bind.mp h2).ofO
  split at h3
  · rename_i hkx
    obtain ⟨k', hk'⟩ := isKey_of hkx
    obtain ⟨ed, E3, eH, x3, l3, w3, r3⟩ := keep_ok x2 w2 r2 hd
    subst ed
    rw [← eH] at I2
    have x13 := x1.trans x3
    refine h.run pins s2 σ E3 ρ st2 _ I2 w3 (f.mono x13) t2 ((Out.bind.mp h3).mono (fun kvs st4 h4 E4 ks ws s4 x4 w4 r4 I4 rv => ?_) fun _ _ z => Cfg.er_ext x13 z)
    have rk : Rep G.X.K E4 x.1 v1 := rep_notmut (by cases h : x.1 <;> rw [h] at hkx <;> simp [isKey] at hkx <;> rfl) (((r1.x.ext x3)).ext x4)
    have ev := rep_key hk' rk.c
    subst ev
    refine h4 E4 ((k', v2) :: ks) ((u1, u2) :: ws) s4 (x13.trans x4) w4 ?_ I4 (.cons ⟨ru1, ru2⟩ rv)
    rw [RepK]
    exact ⟨k', v2, ks, rfl, ⟨hk', rk⟩, r3.last x4.last, r4⟩
  · exact h3.elim
theorem se_dct0 {pos : Pos} : SE G (.Dict [] [] pos) (fun ρ s => (R.ok [] s).bind fun kvs s => .ok (.dct (dputs [] kvs), .fr) s) := by
  refine ⟨fun pins s σ E ρ st Q I w f tk hO => wpAny_Dict_empty ?_⟩
  have hf : E.H s.heap.objs.size = none := I.hok.fresh (Nat.le_refl _)
  exact hO (E.put s.heap.objs.size (.dK [])) _ _ _ (ext_put hf) (w.put hf) ⟨_, rfl, fresh_new_dct w (Ext.refl E) hf (by rw [dputs, RepK])⟩ (I.laid (a := s.heap.objs.size) (o := .dK []) (t' := s.toks) (fun _ _ q => Heap.get?_push_of_some _ q) (Nat.le_refl _) (dk_empty s.heap I.big)) rfl
theorem se_dct {pos : Pos} {keys : List (Option Expr)} {values : List Expr} {m : Env → Sto → R (List (D × D))} (h : SP G pos keys values m) (hall : keys.all (·.isSome) = true) (hl : keys.length = values.length) (h0 : keys ≠ [])
    (h15 : keys.length ≤ 15) (hm : ∀ ρ s kvs s', m ρ s = .ok kvs s' → kvs.length ≤ 15) : SE G (.Dict keys values pos) (fun ρ s => (m ρ s).bind fun kvs s => .ok (.dct (dputs [] kvs), .fr) s) := by
  refine ⟨fun pins s σ E ρ st Q I w f tk hO => ?_⟩
  have hn : E.H s.heap.objs.size = none := I.hok.fresh (Nat.le_refl s.heap.objs.size)
  have I1 := I.laid (a := s.heap.objs.size) (o := .dK []) (h' := s.heap.push { cls := .type "dict", data := .dict #[] }) (t' := s.toks) (fun _ _ q => Heap.get?_push_of_some _ q) (Nat.le_refl _) (dk_empty s.heap I.big)
  have x1 : Ext E (E.put s.heap.objs.size (.dK [])) := ext_put hn
  have hmu : s.heap.objs.size ∉ E.μ := fun z => by
    rcases w.muH z with ⟨_, e⟩ | ⟨_, e⟩ <;> (rw [hn] at e; cases e)
  have hfz : ¬ E.Fz s.heap.objs.size := fun z => by
    obtain ⟨o, e, _⟩ := w.fzH _ z
    rw [hn] at e; cases e
  refine wpAny_Dict_walk (knd := mixKind G.X.prog G.X.w) hall hl h0 h15 (h.run pins _ σ (E.put s.heap.objs.size (.dK [])) ρ st _ I1 (w.put hn) (f.mono x1) tk ((Out.bind.mp hO).self.mono (fun kvs st2 ⟨hq, h2⟩ E2 ks ws s2 x2 w2 rK I2 rel => ?_) fun _ _ z => Cfg.er_ext x1 z))
  have e : E2.H s.heap.objs.size = some (.dK []) := x2.pres _ _ upd_same hmu nt_dK
  have hmu2 := x2.there (o := .dK []) upd_same hmu
  have hfz2 : ¬ E2.Fz s.heap.objs.size := fun z => by
    rcases x2.fzn _ z with z | z
    · exact hfz z
    · have : (E.put s.heap.objs.size (.dK [])).H s.heap.objs.size = some (.dK []) := upd_same
      rw [this] at z; cases z
  obtain ⟨rs, c, rk⟩ := carries_of (P := G.X.prog) (w := G.X.w) rel
  obtain ⟨z, hd, vs0, r0, dd⟩ := dk_of I2.hok e
  cases r0
  have hlen : ks.length ≤ 15 := by rw [← rK.length]; exact hm _ _ _ _ hq
  have hz : (mergeK [] ks).length ≤ sizeLine := by
    have h1 := length_mergeK ks []
    rw [List.length_nil] at h1
    rw [sizeLine_eq]; omega
  refine ⟨rs, c, dd, fun h' dd' hs => ?_⟩
  have he : ∃ q, h'.get? s.heap.objs.size = some q := let ⟨q, _, _, hq, _⟩ := dd'; ⟨q, hq⟩
  have I3 := d_write (t' := s2.toks + ws.length) I2 (by rw [e]; exact True.intro) hs he (dk_new hz hd (rk.merge .nil) dd')
  have xx : Ext E (E2.put s.heap.objs.size (.dK (mergeK [] ks))) := ext_over (x1.trans x2) hn e (.inr ⟨_, rfl⟩) hfz2
  have ww : G.WO (E2.put s.heap.objs.size (.dK (mergeK [] ks))) st2 := w2.over e (.inr ⟨_, rfl⟩) hfz2 hmu2
  have lo : Last E2 (E2.put s.heap.objs.size (.dK (mergeK [] ks))) := last_over e (.inr ⟨_, rfl⟩) hfz2
  refine h2 (E2.put s.heap.objs.size (.dK (mergeK [] ks))) (.ref s.heap.objs.size) _ _ xx ww ⟨_, rfl, ⟨_, upd_same, ?_⟩, hfz2, hmu2, hn⟩ I3 rfl
  exact (RepK.merge (rK.last lo) (by rw [RepK]))
end
end RS
end S12
section S13
set_option autoImplicit false
set_option linter.all false
set_option maxRecDepth 100000
set_option Elab.async false
/-! B4: frames: a name stored, a thing of one's own written, frozen. -/
namespace RS
open PySem PySem.Spec PyProof.Rows L2

section
variable {K : PySem.W.Frag} {J : Inf} {E E₀ E' : WS} {st : Sto} {σ : L2.St} {ρ : Env} {p a : Addr} {o o' : HO} {i : Nat} {d d' : D} {v : V}
theorem get_set {α : Type} {l : List α} {i j : Nat} {x y : α} (h : (l.set i x)[j]? = some y) : (i = j ∧ y = x) ∨ (i ≠ j ∧ l[j]? = some y) := by
  by_cases e : i = j
  · subst e
    rw [List.getElem?_set_self'] at h
    cases q : l[i]? with
    | none => rw [q] at h; cases h
    | some z => rw [q] at h; cases h; exact .inl ⟨rfl, rfl⟩
  · rw [List.getElem?_set_ne e] at h
    exact .inr ⟨e, h⟩
theorem set_get {α : Type} {l : List α} {i : Nat} {x : α} (h : i < l.length) : (l.set i x)[i]? = some x := by rw [List.getElem?_set_self h]
/-- what does not change the frame -/
theorem FrR.fz (f : FrR K E₀ E σ ρ) (l : Last E E') (keep : ∀ (i : Nat) d v a, ρ[i]? = some (some (d, true)) → σ[i]? = some (some v) → v = .ref a → Fresh K E₀ E d a → Fresh K E₀ E' d a) (x : Ext E₀ E') : FrR K E₀ E' σ ρ := by
  refine ⟨f.len, fun i d own h => ?_, f.apart, x⟩
  obtain ⟨v, e, h1, h2⟩ := f.slot i d own h
  refine ⟨v, e, fun z => (h1 z).last l, fun z => ?_⟩
  obtain ⟨a, ea, fr⟩ := h2 z
  subst z
  exact ⟨a, ea, keep i d v a h e ea fr⟩
/-- a name gets a frozen value -/
theorem FrR.set (f : FrR K E₀ E σ ρ) (r : Rep K E d v) : FrR K E₀ E (σ.set i (some v)) (ρ.set i (some (d, false))) := by
  refine ⟨by simp [f.len], fun j d' own h => ?_, fun j k d1 d2 a hne h1 h2 e1 e2 => ?_, f.ext⟩
  · rcases get_set h with ⟨e, q⟩ | ⟨e, q⟩
    · subst e
      cases q
      have hl : i < ρ.length := by have := (List.getElem?_eq_some_iff.mp h).1; simpa using this
      exact ⟨v, set_get (by rw [← f.len]; exact hl), fun _ => r, fun z => by cases z⟩
    · obtain ⟨w, e1, h1, h2⟩ := f.slot j d' own q
      exact ⟨w, by rw [List.getElem?_set_ne e]; exact e1, h1, h2⟩
  · rcases get_set h1 with ⟨e, q⟩ | ⟨e, q⟩
    · cases q
    · rcases get_set h2 with ⟨e', q'⟩ | ⟨e', q'⟩
      · cases q'
      · rw [List.getElem?_set_ne e] at e1
        rw [List.getElem?_set_ne e'] at e2
        exact f.apart j k d1 d2 a hne q q' e1 e2
/-- a name gets a value; nothing is said of it -/
theorem FrR.drop (f : FrR K E₀ E σ ρ) (ov : Option V) : FrR K E₀ E (σ.set i ov) (ρ.set i none) := by
  refine ⟨by simp [f.len], fun j d' own h => ?_, fun j k d1 d2 a hne h1 h2 e1 e2 => ?_, f.ext⟩
  · rcases get_set h with ⟨e, q⟩ | ⟨e, q⟩
    · cases q
    · obtain ⟨w, e1, h1, h2⟩ := f.slot j d' own q
      exact ⟨w, by rw [List.getElem?_set_ne e]; exact e1, h1, h2⟩
  · rcases get_set h1 with ⟨e, q⟩ | ⟨e, q⟩
    · cases q
    · rcases get_set h2 with ⟨e', q'⟩ | ⟨e', q'⟩
      · cases q'
      · rw [List.getElem?_set_ne e] at e1
        rw [List.getElem?_set_ne e'] at e2
        exact f.apart j k d1 d2 a hne q q' e1 e2
/-- .. its own thing -/
theorem FrR.own (f : FrR K E₀ E σ ρ) (fr : Fresh K E₀ E d a) (ne : ∀ (j : Nat) d' , i ≠ j → ρ[j]? = some (some (d', true)) → σ[j]? = some (some (.ref a)) → False) :
    FrR K E₀ E (σ.set i (some (.ref a))) (ρ.set i (some (d, true))) := by
  refine ⟨by simp [f.len], fun j d' own h => ?_, fun j k d1 d2 b hne h1 h2 e1 e2 => ?_, f.ext⟩
  · rcases get_set h with ⟨e, q⟩ | ⟨e, q⟩
    · subst e
      cases q
      have hl : i < ρ.length := by have := (List.getElem?_eq_some_iff.mp h).1; simpa using this
      exact ⟨_, set_get (by rw [← f.len]; exact hl), fun z => (by cases z), fun _ => ⟨a, rfl, fr⟩⟩
    · obtain ⟨w, e1, h1, h2⟩ := f.slot j d' own q
      exact ⟨w, by rw [List.getElem?_set_ne e]; exact e1, h1, h2⟩
  · rcases get_set h1 with ⟨e, q⟩ | ⟨e, q⟩
    · rcases get_set h2 with ⟨e', q'⟩ | ⟨e', q'⟩
      · exact hne (e.symm.trans e')
      · subst e
        have hl : i < σ.length := by have := (List.getElem?_eq_some_iff.mp e1).1; simpa using this
        rw [set_get hl] at e1
        cases e1
        rw [List.getElem?_set_ne e'] at e2
        exact ne k d2 e' q' e2
    · rcases get_set h2 with ⟨e', q'⟩ | ⟨e', q'⟩
      · subst e'
        have hl : i < σ.length := by have := (List.getElem?_eq_some_iff.mp e2).1; simpa using this
        rw [set_get hl] at e2
        cases e2
        rw [List.getElem?_set_ne e] at e1
        exact ne j d1 e q e1
      · rw [List.getElem?_set_ne e] at e1
        rw [List.getElem?_set_ne e'] at e2
        exact f.apart j k d1 d2 b hne q q' e1 e2
theorem Own.ld (h : Own K E d a) : ∃ o, E.H a = some o ∧ IsLD o := by
  cases d with
  | lst xs => obtain ⟨vs, h, r⟩ := h; exact ⟨_, h, .inl ⟨_, rfl⟩⟩
  | dct kvs => obtain ⟨vs, h, r⟩ := h; exact ⟨_, h, .inr ⟨_, rfl⟩⟩
  | _ => exact h.elim
theorem Own.lastNe (h : Own K E d a) (l : Last E E') (e : E'.H a = E.H a) : Own K E' d a := by
  cases d with
  | lst xs => obtain ⟨vs, h, r⟩ := h; exact ⟨vs, e.trans h, r.last l⟩
  | dct kvs => obtain ⟨vs, h, r⟩ := h; exact ⟨vs, e.trans h, r.last l⟩
  | _ => exact h.elim
/-- the thing that a name has for its own is written -/
theorem FrR.write (f : FrR K E₀ E σ ρ) (hi : ρ[i]? = some (some (d, true))) (hs : σ[i]? = some (some (.ref a))) (fr : Fresh K E₀ E d a) (ow : Own K (E.put a o') d' a) : FrR K E₀ (E.put a o') σ (ρ.set i (some (d', true))) := by
  obtain ⟨o, ho, ld⟩ := fr.own.ld
  have l := last_over (o' := o') ho ld fr.nfz
  have x : Ext E₀ (E.put a o') := ext_over f.ext fr.new ho ld fr.nfz
  have hil : i < ρ.length := (List.getElem?_eq_some_iff.mp hi).1
  refine ⟨by simp [f.len], fun j d2 own h => ?_, fun j k d1 d2 b hne h1 h2 e1 e2 => ?_, x⟩
  · rcases get_set h with ⟨e, q⟩ | ⟨e, q⟩
    · subst e
      cases q
      exact ⟨_, hs, fun z => (by cases z), fun _ => ⟨a, rfl, ow, fr.nfz, fr.nmu, fr.new⟩⟩
    · obtain ⟨w, e1, h1, h2⟩ := f.slot j d2 own q
      refine ⟨w, e1, fun z => (h1 z).last l, fun z => ?_⟩
      obtain ⟨b, eb, fb⟩ := h2 z
      subst z eb
      have hne : b ≠ a := fun q2 => f.apart i j d d2 a e hi q hs (by rw [← q2]; exact e1)
      exact ⟨b, rfl, fb.own.lastNe l (upd_ne hne), fb.nfz, fb.nmu, fb.new⟩
  · rcases get_set h1 with ⟨e, q⟩ | ⟨e, q⟩
    · rcases get_set h2 with ⟨e', q'⟩ | ⟨e', q'⟩
      · exact hne (e.symm.trans e')
      · subst e
        exact f.apart i k d d2 b hne hi q' e1 e2
    · rcases get_set h2 with ⟨e', q'⟩ | ⟨e', q'⟩
      · subst e'
        exact f.apart j i d1 d b hne q hi e1 e2
      · exact f.apart j k d1 d2 b hne q q' e1 e2
/-- a name's own thing is frozen -/
theorem FrR.frz (f : FrR K E₀ E σ ρ) (w : WSOk K J E st) (hi : ρ[i]? = some (some (d, true))) : ∃ E', E'.H = E.H ∧ Last E E' ∧ WSOk K J E' st ∧ FrR K E₀ E' σ (ρ.set i (some (d, false))) := by
  obtain ⟨v, e, _, h2⟩ := f.slot i d true hi
  obtain ⟨a, ea, fr⟩ := h2 rfl
  subst ea
  have l : Last E (E.frz a) := last_frz
  refine ⟨E.frz a, rfl, l, w.frz fr.nmu fr.own.nt, ?_⟩
  have x : Ext E₀ (E.frz a) := ext_frz f.ext fr.new
  refine ⟨by simp [f.len], fun j d2 own h => ?_, fun j k d1 d2 b hne h1 h2 e1 e2 => ?_, x⟩
  · rcases get_set h with ⟨e', q⟩ | ⟨e', q⟩
    · subst e'
      cases q
      exact ⟨_, e, fun _ => fr.own.rep, fun z => by cases z⟩
    · obtain ⟨w', e1, h1, h2⟩ := f.slot j d2 own q
      refine ⟨w', e1, fun z => (h1 z).last l, fun z => ?_⟩
      obtain ⟨b, eb, fb⟩ := h2 z
      subst z eb
      have hne : b ≠ a := fun q2 => f.apart i j d d2 a e' hi q e (by rw [← q2]; exact e1)
      refine ⟨b, rfl, fb.own.lastNe l rfl, fun z => ?_, fb.nmu, fb.new⟩
      rcases z with z | z
      · exact fb.nfz z
      · exact hne z
  · rcases get_set h1 with ⟨e', q⟩ | ⟨e', q⟩
    · cases q
    · rcases get_set h2 with ⟨e'', q'⟩ | ⟨e'', q'⟩
      · cases q'
      · exact f.apart j k d1 d2 b hne q q' e1 e2
/-- a name gets what an expression made -/
theorem FrR.put {E₁ : WS} {x : D × Kd} {ρ' : Env} (f : FrR K E₀ E σ ρ) (w : WSOk K J E₁ st) (x1 : Ext E E₁) (r : RepR K E E₁ x.1 x.2 v) (h : RS.setOwn ρ i x = some ρ') :
    ∃ E', E'.H = E₁.H ∧ Last E₁ E' ∧ WSOk K J E' st ∧ FrR K E₀ E' (σ.set i (some v)) ρ' := by
  unfold RS.setOwn at h
  split at h
  · obtain ⟨d0, hk, e⟩ := Option.map_eq_some_iff.mp h
    subst e
    have hd0 : d0 = x.1 := (keep_ok x1 w r hk).1
    subst hd0
    by_cases hm : (isMut x.1 && decide (x.2 = Kd.fr)) = true
    · rw [hm]
      rw [Bool.and_eq_true, decide_eq_true_eq] at hm
      rw [hm.2] at r
      have r : if isMut x.1 = true then ∃ a, v = .ref a ∧ Fresh K E E₁ x.1 a else Rep K E₁ x.1 v := r
      rw [if_pos hm.1] at r
      obtain ⟨a, e, fr⟩ := r
      subst e
      refine ⟨E₁, rfl, Last.refl _, w, ((f.mono x1).own (fr.from f.ext) fun j d' hj h1 h2 => ?_)⟩
      obtain ⟨v', e1, _, q⟩ := f.slot j d' true h1
      obtain ⟨b, eb, fb⟩ := q rfl
      rw [h2] at e1
      cases e1
      cases eb
      obtain ⟨o, ho⟩ := fb.own.there
      rw [fr.new] at ho
      cases ho
    · have hm' : (isMut x.1 && decide (x.2 = Kd.fr)) = false := by simpa using hm
      rw [hm']
      obtain ⟨_, E', eH, x2, l2, w2, r2⟩ := keep_ok x1 w r hk
      exact ⟨E', eH, l2, w2, (f.mono x2).set r2⟩
  · cases h
end
end RS
end S13
section S14
set_option autoImplicit false
set_option linter.all false
set_option maxRecDepth 100000
set_option Elab.async false
/-! B5: targets; the small statements. -/
namespace RS
open PySem PySem.Spec PyProof.Rows L2

/-! ### a, b = a list -/
section
variable {prog : Program} {w : World} {A : Around} {E : Value → Shared → Prop} {s : Shared}
theorem isList_extBut {h h' : Heap} {a b : Addr} {items : Array Value} (hl : h.IsList a items) (k : Heap.ExtBut b h h') (hne : a ≠ b) : h'.IsList a items := by
  obtain ⟨o, ho, r⟩ := hl
  exact ⟨o, k a o hne ho, r⟩
theorem draw_list {it t : Addr} {items : Array Value} (hne : t ≠ it) : ∀ (n i : Nat) (s : Shared) (Q : List Value → Shared → Prop), s.heap.IsListIter it t i → s.heap.IsList t items → i + n ≤ items.size →
    (∀ h', h'.IsListIter it t (i + n) → Heap.SameBut it s.heap h' → Q ((items.toList.drop i).take n) { s with heap := h' }) → wpAny (model prog w) A (draw (.ref it) n) Q E s
  | 0, i, s, Q, hit, _, _, hQ => by
    show wpAny _ _ (pure []) Q E s
    exact wpAny_pure (by simpa using hQ s.heap hit (Heap.SameBut.refl ..))
  | n + 1, i, s, Q, hit, ht, hle, hQ => by
    have hlt : i < items.size := by omega
    show wpAny _ _ (pyNext (.ref it) >>= _) Q E s
    refine wpAny_bind (wpAny_pyNext_list_item hit ht (x := items[i]) (by simp [hlt]) fun h₁ hit₁ hs₁ => ?_)
    refine wpAny_bind (wpAny_holding (draw_list hne n (i + 1) _ _ hit₁ (isList_extBut ht hs₁.extBut hne) (by omega) fun h₂ hit₂ hs₂ => wpAny_pure ?_))
    have hd : items.toList.drop i = items[i] :: items.toList.drop (i + 1) := by simp [List.drop_eq_getElem_cons, hlt]
    have := hQ h₂ (by rw [show i + (n + 1) = i + 1 + n by omega]; exact hit₂) (hs₁.trans hs₂)
    rw [hd, List.take_succ_cons] at this
    exact this
theorem unpackItems_list {t : Addr} {items : Array Value} {Q : List Value → Shared → Prop} (hh : A.handled = none) (ht : s.heap.IsList t items)
    (hQ : ∀ h', Heap.ExtBut s.heap.objs.size s.heap h' → Q items.toList { s with heap := h' }) : wpAny (model prog w) A (unpackItems (.ref t) items.size none) Q E s := by
  have hlt : t ≠ s.heap.objs.size := by obtain ⟨o, ho, _⟩ := ht; exact Nat.ne_of_lt (Heap.lt_size ho)
  unfold unpackItems
  refine wpAny_bind ?_
  · unfold notIterableAtAll
    refine wpAny_bind (wpAny_specialOf ht.typeIs slot_list_iter.lookup ?_)
    refine wpAny_pure ?_
    simp only [Bool.false_eq_true, if_false]
    refine wpAny_bind (wpAny_holding (wpAny_pyIter_list ht ?_))
    refine wpAny_bind (wpAny_holding (draw_list hlt items.size 0 _ _ ⟨_, Heap.get?_push_size _ rfl, rfl, rfl⟩ (ht.push _) (by omega) fun h₁ hit₁ hs₁ => ?_))
    have hall : List.take items.size (List.drop 0 items.toList) = items.toList := by
      rw [List.drop_zero]; exact List.take_of_length_le (by simp)
    rw [hall]
    rw [if_neg (by simp)]
    have ht₁ : h₁.IsList t items := isList_extBut (ht.push _) hs₁.extBut hlt
    refine wpAny_bind (wpAny_holding (wpAny_pyNext_list_end hh hit₁ ht₁ (by simp) fun h₂ he₂ => ?_))
    simp only [Option.isSome_none, Bool.false_eq_true, if_false]
    refine wpAny_pure (hQ h₂ fun b o hb e => he₂ b o hb (hs₁.extBut b o hb (Heap.get?_push_of_some _ e)))
theorem assign_Tuple_list {env : PySem.Env} {elts : List Expr} {x1} {pos : Pos} {t : Addr} {items : Array Value} {Q : Unit → Shared → Prop} (hh : A.handled = none) (ht : s.heap.IsList t items)
    (hn : (assignEach elts env).length = items.size) (hstar : (assignEach elts env).findIdx? (·.1) = none)
    (h : ∀ h', Heap.ExtBut s.heap.objs.size s.heap h' → wpAny (model prog w) A (assignInOrder ((assignEach elts env).map (·.2)) items.toList) Q E { s with heap := h' }) :
    wpAny (model prog w) A (assign (.Tuple elts x1 pos) env (.ref t)) Q E s := by
  rw [assign_Tuple]
  refine wpAny_bind (wpAny_standAt ?_)
  unfold unpack
  rw [hn, hstar]
  exact wpAny_bind (wpAny_holding (unpackItems_list hh ht h))
end

/-! ### targets -/
section
variable {G : Cfg} {pins : List (Addr × Obj)} {s : Shared} {σ : L2.St} {E E₂ : WS} {st : Sto} {v1 v2 : V} {u1 u2 : Value} {ρ : Env}
structure SG (G : Cfg) (tg : Expr) (t : Tg) : Prop where
  run : ∀ (pins : List (Addr × Obj)) (s : Shared) (σ : L2.St) (E : WS) (ρ ρ' : Env) (st : Sto) (d : D) (v : V) (u : Value) (Q : Unit → Shared → Prop), Inv G.X pins σ E.H s → G.WO E st → G.Fr E σ ρ → RepX G.X.K E d v → ((∃ i, t = .nm i) → Rep G.X.K E d v) → RelV v u →
    bindTg st ρ d t = some ρ' → (∀ σ' s', Inv G.X pins σ' E.H s' → G.Fr E σ' ρ' → (∀ j, j ∉ tgNames t → σ'[j]? = σ[j]?) → Q () s') → wpAny G.M G.X.A (assign tg G.X.env u) Q G.X.xe s
/-- a name that may be stored -/
structure NameOk (X : Cx) (i : Nat) (x : Str) : Prop where
  at_ : X.N[i]? = some x
  loc : Loc X.env.scope x
  own : X.fn x = true ∨ X.env.scope.names.lookup x = some .local
theorem sg_nm {i : Nat} {x : Str} {pos : Pos} (hN : G.X.N.Nodup) (h : NameOk G.X i x) : SG G (.Name x pos) (.nm i) := by
  refine ⟨fun pins s σ E ρ ρ' st d v u Q I w f r0 r ru hb k => ?_⟩
  simp only [bindTg] at hb
  split at hb
  · cases hb
    exact wpAny_assign_Name (store_ok I hN h.at_ h.loc ru (fun s' I' => k _ s' I' (f.set (r ⟨i, rfl⟩)) fun j hj => List.getElem?_set_ne fun e => hj (List.mem_singleton.mpr e.symm)) h.own)
  · cases hb
structure SGs (G : Cfg) (es : List Expr) (is : List Nat) : Prop where
  len : es.length = is.length
  star : (assignEach es G.X.env).findIdx? (·.1) = none ∧ (assignEach es G.X.env).length = es.length
  run : ∀ (pins : List (Addr × Obj)) (s : Shared) (σ : L2.St) (E : WS) (ρ ρ' : Env) (ds : List D) (vs : List V) (us : List Value) (Q : Unit → Shared → Prop), Inv G.X pins σ E.H s → G.Fr E σ ρ → RepA G.X.K E ds vs → Vals vs us →
    setAll ρ is ds = some ρ' → (∀ σ' s', Inv G.X pins σ' E.H s' → G.Fr E σ' ρ' → (∀ j, j ∉ is → σ'[j]? = σ[j]?) → Q () s') → wpAny G.M G.X.A (assignInOrder ((assignEach es G.X.env).map (·.2)) us) Q G.X.xe s
theorem sgs_nil : SGs G [] [] := by
  refine ⟨rfl, by simp [assignEach], fun pins s σ E ρ ρ' ds vs us Q I f r rv h k => ?_⟩
  cases ds with
  | cons _ _ => simp [setAll] at h
  | nil =>
    simp only [setAll] at h
    cases h
    rw [RepA] at r
    subst r
    cases rv
    exact assignInOrder_nil (k σ s I f fun _ _ => rfl)
theorem sgs_cons {i : Nat} {x : Str} {pos : Pos} {es : List Expr} {is : List Nat} (hN : G.X.N.Nodup) (h : NameOk G.X i x) (hs : SGs G es is) : SGs G (.Name x pos :: es) (i :: is) := by
  have ea : assignEach (.Name x pos :: es) G.X.env = (false, assign (.Name x pos) G.X.env) :: assignEach es G.X.env := by simp [assignEach]
  refine ⟨by simp [hs.len], ?_, fun pins s σ E ρ ρ' ds vs us Q I f r rv hb k => ?_⟩
  · rw [ea]
    refine ⟨?_, by simp [hs.star.2]⟩
    rw [List.findIdx?_cons, hs.star.1]
    rfl
  · cases ds with
    | nil => simp [setAll] at hb
    | cons d ds =>
      simp only [setAll] at hb
      split at hb
      · rw [RepA] at r
        obtain ⟨v, q, e, r1, r2⟩ := r
        subst e
        cases rv with
        | cons ru rr =>
          rw [ea]
          refine assignInOrder_cons (wpAny_assign_Name (store_ok I hN h.at_ h.loc ru (fun s' I' => ?_) h.own))
          exact hs.run pins s' _ E _ ρ' ds q _ Q I' (f.set r1) r2 rr hb fun σ2 s2 I2 f2 hσ => k σ2 s2 I2 f2 fun j hj => (hσ j fun z => hj (List.mem_cons_of_mem _ z)).trans (List.getElem?_set_ne fun e => hj (by rw [← e]; exact List.mem_cons_self))
      · cases hb
theorem sg_tp {es : List Expr} {is : List Nat} {k : Nat} {pos : Pos} (hc : G.X.calm = true) (hs : SGs G es is) : SG G (.Tuple es k pos) (.tp is) := by
  refine ⟨fun pins s σ E ρ ρ' st d v u Q I w f r0 r ru hb kk => ?_⟩
  have c := view_x w r0
  have len : ∀ {is : List Nat} {ds : List D} {ρ ρ' : Env}, setAll ρ is ds = some ρ' → is.length = ds.length := fun {is} => by
    induction is with
    | nil => intro ds ρ ρ' h; cases ds with | nil => rfl | cons _ _ => simp [setAll] at h
    | cons i is ih =>
      intro ds ρ ρ' h
      cases ds with
      | nil => simp [setAll] at h
      | cons d ds =>
        simp only [setAll] at h
        split at h
        · simp [ih h]
        · cases h
  simp only [bindTg] at hb
  split at hb
  · rename_i ds e
    rw [e] at c
    obtain ⟨a, vs, rfl, hq, rA⟩ := c_tup c
    cases ru
    obtain ⟨its, rv, ht, hz⟩ := I.tuple hq
    refine assign_Tuple_tuple (I.ok.hd hc) ht (by rw [hs.star.2, hs.len, len hb, rA.length, rv.length]; simp) hs.star.1 fun h' hx => ?_
    have I1 : Inv G.X pins σ E.H { s with heap := h' } := I.kept (t' := s.toks) fun b o e => hx b o (Nat.ne_of_lt (Heap.lt_size e)) e
    exact hs.run pins _ σ E ρ ρ' ds vs _ Q I1 f rA (by simpa using rv) hb kk
  · rename_i ds e
    rw [e] at c
    obtain ⟨a, vs, rfl, hq, rA⟩ := c_sqL c
    cases ru
    obtain ⟨its, rv, pl, hz⟩ := I.list hq
    refine assign_Tuple_list (I.ok.hd hc) pl.isList (by rw [hs.star.2, hs.len, len hb, rA.length, rv.length]; simp) hs.star.1 fun h' hx => ?_
    have I1 : Inv G.X pins σ E.H { s with heap := h' } := I.kept (t' := s.toks) fun b o e => hx b o (Nat.ne_of_lt (Heap.lt_size e)) e
    exact hs.run pins _ σ E ρ ρ' ds vs _ Q I1 f rA (by simpa using rv) hb kk
  · cases hb

/-! ### statements -/
def FlR (K : PySem.W.Frag) (E₀ E : WS) : Fl → Flow → Prop
  | .nx, .next => True
  | .bk, .brk => True
  | .ct, .cont => True
  | .rt d k, .ret u => ∃ v, RelV v u ∧ RepR K E₀ E d k v
  | _, _ => False
def Cfg.erS (G : Cfg) : Nat → Sto → Prop := fun c st' => ∀ E', Ext G.E₀ E' → G.WO E' st' → G.W (.ref (G.J.ca c)) none E'.H
theorem Cfg.erS_er (f : G.Fr E σ ρ) {c : Nat} {st : Sto} (h : G.erS c st) : G.er E σ c st := fun E' x w => h E' (f.ext.trans x) w
def Cfg.okS (G : Cfg) (pins : List (Addr × Obj)) (E : WS) (Q : Flow → Shared → Prop) : Fl × Env → Sto → Prop := fun x st' =>
  ∀ E' σ' f s', Last E E' → G.WO E' st' → G.Fr E' σ' x.2 → Inv G.X pins σ' E'.H s' → FlR G.X.K G.E₀ E' x.1 f → G.Tk s' → Q f s'
structure SS (G : Cfg) (a : Stmt) (m : Env → Sto → R (Fl × Env)) : Prop where
  run : ∀ (pins : List (Addr × Obj)) (s : Shared) (σ : L2.St) (E : WS) (ρ : Env) (st : Sto) (Q : Flow → Shared → Prop), Inv G.X pins σ E.H s → G.WO E st → G.Fr E σ ρ → G.Tk s →
    Out (m ρ st) (G.okS pins E Q) G.erS → wpAny G.M G.X.A (PySem.exec a G.X.env) Q G.X.xe s
structure SSs (G : Cfg) (as : List Stmt) (m : Env → Sto → R (Fl × Env)) : Prop where
  run : ∀ (pins : List (Addr × Obj)) (s : Shared) (σ : L2.St) (E : WS) (ρ : Env) (st : Sto) (Q : Flow → Shared → Prop), Inv G.X pins σ E.H s → G.WO E st → G.Fr E σ ρ → G.Tk s →
    Out (m ρ st) (G.okS pins E Q) G.erS → wpAny G.M G.X.A (PySem.execs as G.X.env) Q G.X.xe s
theorem Cfg.okS_from {E E₁ : WS} {Q : Flow → Shared → Prop} {x : Fl × Env} (l : Last E E₁) (h : G.okS pins E Q x st) : G.okS pins E₁ Q x st := fun E' σ' f s' l' => h E' σ' f s' (l.trans l')
theorem sss_nil : SSs G [] (fun ρ s => .ok (.nx, ρ) s) := ⟨fun pins s σ E ρ st Q I w f tk h => wpAny_execs_nil (h E σ .next s (Last.refl E) w f I trivial tk)⟩
theorem sss_cons {a : Stmt} {as : List Stmt} {m ms : Env → Sto → R (Fl × Env)} (h1 : SS G a m) (h2 : SSs G as ms) : SSs G (a :: as) (fun ρ s => (m ρ s).bind fun f s => match f with | (.nx, ρ) => ms ρ s | f => .ok f s) := by
  refine ⟨fun pins s σ E ρ st Q I w f tk h => wpAny_execs_cons (h1.run pins s σ E ρ st _ I w f tk ((Out.bind.mp h).mono (fun x st1 hx E1 σ1 fl s1 l1 w1 f1 I1 r1 t1 => ?_) fun _ _ z => z))⟩
  obtain ⟨xf, ρ1⟩ := x
  cases xf with
  | nx =>
    cases fl <;> first | exact r1.elim | skip
    exact h2.run pins s1 σ1 E1 ρ1 st1 Q I1 w1 f1 t1 (hx.mono (fun _ _ z => Cfg.okS_from l1 z) fun _ _ z => z)
  | bk => cases fl <;> first | exact r1.elim | exact hx E1 σ1 _ s1 l1 w1 f1 I1 r1 t1
  | ct => cases fl <;> first | exact r1.elim | exact hx E1 σ1 _ s1 l1 w1 f1 I1 r1 t1
  | rt d k => cases fl <;> first | exact r1.elim | exact hx E1 σ1 _ s1 l1 w1 f1 I1 r1 t1
/-- what nobody sees: a name's own thing is frozen before a statement -/
theorem sss_frz {as : List Stmt} {v : Nat} {ms : Env → Sto → R (Fl × Env)} (h : SSs G as ms) : SSs G as (fun ρ s => match ρ[v]? with | some (some (d, _)) => ms (ρ.set v (some (d, false))) s | _ => ms ρ s) := by
  refine ⟨fun pins s σ E ρ st Q I w f tk hO => ?_⟩
  split at hO
  · rename_i d own e
    cases own with
    | true =>
      obtain ⟨E', eH, l, w', f'⟩ := f.frz w e
      rw [← eH] at I
      exact h.run pins s σ E' _ st Q I w' f' tk (hO.mono (fun _ _ z => Cfg.okS_from l z) fun _ _ z => z)
    | false =>
      have e2 : ρ.set v (some (d, false)) = ρ := by
        refine List.ext_getElem? fun j => ?_
        by_cases hj : v = j
        · subst hj
          have hl : v < ρ.length := (List.getElem?_eq_some_iff.mp e).1
          rw [set_get hl, e]
        · rw [List.getElem?_set_ne hj]
      rw [e2] at hO
      exact h.run pins s σ E ρ st Q I w f tk hO
  · exact h.run pins s σ E ρ st Q I w f tk hO
variable {e e2 : Expr} {m m2 : Env → Sto → R (D × Kd)} {pos pos' : Pos}
/-- an expression within a statement -/
theorem SE.sthn (h : SE G e m) (I : Inv G.X pins σ E.H s) (w : G.WO E st) (f : G.Fr E σ ρ) (tk : G.Tk s) {β : Type} {F : D × Kd → Sto → R β} {P : β → Sto → Prop}
    (hO : Out ((m ρ st).bind F) P G.erS) {Q : Value → Shared → Prop}
    (k : ∀ x st1 E1 v u s1, Ext E E1 → G.WO E1 st1 → RepR G.X.K E E1 x.1 x.2 v → Inv G.X pins σ E1.H s1 → RelV v u → G.Tk s1 → Out (F x st1) P G.erS → Q u s1) : wpAny G.M G.X.A (eval e G.X.env) Q G.X.xe s :=
  h.thn' I w f tk (fun _ _ z => Cfg.erS_er f z) hO k
theorem ss_pass : SS G (.Pass pos) (fun ρ s => .ok (.nx, ρ) s) := ⟨fun pins s σ E ρ st Q I w f tk h => wpAny_Pass (h E σ .next s (Last.refl E) w f I trivial tk)⟩
theorem ss_brk : SS G (.Break pos) (fun ρ s => .ok (.bk, ρ) s) := ⟨fun pins s σ E ρ st Q I w f tk h => wpAny_Break (h E σ .brk s (Last.refl E) w f I trivial tk)⟩
theorem ss_cont : SS G (.Continue pos) (fun ρ s => .ok (.ct, ρ) s) := ⟨fun pins s σ E ρ st Q I w f tk h => wpAny_Continue (h E σ .cont s (Last.refl E) w f I trivial tk)⟩
theorem ss_expr (he : SE G e m) (hs : swapsWith e none pos.line G.X.env = pure false) : SS G (.Expr e pos) (fun ρ s => (m ρ s).bind fun _ s => .ok (.nx, ρ) s) := by
  refine ⟨fun pins s σ E ρ st Q I w f tk h => wpAny_Expr_any (he.sthn I w f tk h fun x st1 E1 v u s1 x1 w1 r1 I1 ru t1 h1 => ?_) I.quiet hs⟩
  exact h1 E1 σ .next s1 x1.last w1 (f.mono x1) I1 trivial t1
theorem ss_ret (he : SE G e m) : SS G (.Return (some e) pos) (fun ρ s => (m ρ s).bind fun x s => if x.2 = .bo then .no else .ok (.rt x.1 x.2, ρ) s) := by
  refine ⟨fun pins s σ E ρ st Q I w f tk h => wpAny_Return_some (he.sthn I w f tk h fun x st1 E1 v u s1 x1 w1 r1 I1 ru t1 h1 => ?_)⟩
  split at h1
  · exact h1.elim
  · exact h1 E1 σ (.ret u) s1 x1.last w1 (f.mono x1) I1 ⟨v, ru, r1.from f.ext⟩ t1
theorem ss_ret0 : SS G (.Return none pos) (fun ρ s => .ok (.rt .non .fz, ρ) s) := ⟨fun pins s σ E ρ st Q I w f tk h => wpAny_Return_none (h E σ (.ret .none) s (Last.refl E) w f I ⟨.non, rfl, (rep_non (K := G.X.K) (E := E)).mpr rfl⟩ tk)⟩
theorem ss_retV {i : Nat} {x : Str} {p : Pos} (hN : G.X.N[i]? = some x) (hv : Vis G.X.env.scope x) (hd : (x == ("__debug__" : Str)) = false) (hcd : (x == ("__classdict__" : Str)) = false) :
    SS G (.Return (some (.Name x p)) pos) (fun ρ s => match ρ[i]? with | some (some (d, own)) => .ok (.rt d (if own then .fr else .fz), ρ) s | _ => .no) := by
  refine ⟨fun pins s σ E ρ st Q I w f tk h => ?_⟩
  split at h
  · rename_i d own q
    obtain ⟨v, e, h1, h2⟩ := f.slot i d own q
    refine wpAny_Return_some (G.wtk tk (L2.thn ((pe_var (pos := p) hN hv hd hcd).run pins s σ E.H (fun v' H' => v' = v ∧ H' = E.H) I ⟨v, e, rfl, rfl⟩) fun u s1 ⟨v', H1, I1, r1, ev, eH⟩ t1 => ?_))
    subst ev
    rw [eH] at I1
    refine h E σ (.ret u) s1 (Last.refl E) w f I1 ⟨v', r1, ?_⟩ t1
    cases own with
    | false => exact h1 rfl
    | true =>
      obtain ⟨a, ea, fr⟩ := h2 rfl
      obtain ⟨o, ho, ld⟩ := fr.own.ld
      show if isMut d = true then _ else _
      have hm : isMut d = true := by
        have := fr.own
        cases d <;> first | rfl | exact this.elim
      rw [if_pos hm]
      exact ⟨a, ea, fr⟩
  · exact h.elim
theorem ss_ite {c : Expr} {a b : List Stmt} {mt : Env → Sto → R Bool} {ma mb : Env → Sto → R (Fl × Env)} (hc : ST G c mt) (ha : SSs G a ma) (hb : SSs G b mb) : SS G (.If c a b pos) (fun ρ s => (mt ρ s).bind fun t s => if t then ma ρ s else mb ρ s) := by
  refine ⟨fun pins s σ E ρ st Q I w f tk h => wpAny_If (hc.thn' I w f tk (fun _ _ z => Cfg.erS_er f z) h fun t st1 E1 s1 x1 w1 I1 t1 h1 => ?_)⟩
  cases t with
  | true => exact ha.run pins s1 σ E1 ρ st1 Q I1 w1 (f.mono x1) t1 (h1.mono (fun _ _ z => Cfg.okS_from x1.last z) fun _ _ z => z)
  | false => exact hb.run pins s1 σ E1 ρ st1 Q I1 w1 (f.mono x1) t1 (h1.mono (fun _ _ z => Cfg.okS_from x1.last z) fun _ _ z => z)
theorem ss_set {i : Nat} {x : Str} (hN : G.X.N.Nodup) (hn : NameOk G.X i x) (he : SE G e m) (hs : swapsWith e (some (.Name x pos')) pos.line G.X.env = pure false) :
    SS G (.Assign [.Name x pos'] e pos) (fun ρ s => (m ρ s).bind fun x s => (ofO (setOwn ρ i x) s).bind fun ρ s => .ok (.nx, ρ) s) := by
  refine ⟨fun pins s σ E ρ st Q I w f tk h => wpAny_Assign_Name (he.sthn I w f tk h fun x st1 E1 v u s1 x1 w1 r1 I1 ru t1 h1 => ?_) hs⟩
  obtain ⟨ρ', hρ, h2⟩ := (Out.bind.mp h1).ofO
  obtain ⟨E', eH, l, w2, f2⟩ := f.put w1 x1 r1 hρ
  rw [← eH] at I1
  exact G.wtk t1 (store_ok I1 hN hn.at_ hn.loc ru (fun s2 I2 t2 => h2 E' _ .next s2 (x1.last.trans l) w2 f2 I2 trivial t2) hn.own)
theorem ss_asgT {tg : Expr} {is : List Nat} (he : SE G e m) (hg : SG G tg (.tp is)) (hs : swapsWithSole [tg] e pos.line G.X.env = pure false) (hw : swappedStores [tg] e G.X.env = pure none)
    (h1 : (assignEach [tg] G.X.env).map (·.2) = [assign tg G.X.env]) : SS G (.Assign [tg] e pos) (fun ρ s => (m ρ s).bind fun x s => (ofO (bindTg s ρ x.1 (.tp is)) s).bind fun ρ s => .ok (.nx, ρ) s) := by
  refine ⟨fun pins s σ E ρ st Q I w f tk h => wpAny_Assign_stores (he.sthn I w f tk h fun x st1 E1 v u s1 x1 w1 r1 I1 ru t1 hx => ?_) hs hw⟩
  rw [h1]
  obtain ⟨ρ', hρ, h2⟩ := (Out.bind.mp hx).ofO
  refine G.wtk t1 (hg.run pins s1 σ E1 ρ ρ' st1 x.1 v u _ I1 w1 (f.mono x1) r1.x (fun ⟨i, z⟩ => by cases z) ru hρ fun σ' s' I' f' _ t' => ?_)
  exact h2 E1 σ' .next s' x1.last w1 f' I' trivial t'
end
end RS
end S14
section S15
set_option autoImplicit false
set_option linter.all false
set_option maxRecDepth 100000
set_option Elab.async false
/-! B6: assignments in parallel, to items; what grows in its place. -/
namespace RS
open PySem PySem.Spec PyProof.Rows L2

section
variable {G : Cfg} {pins : List (Addr × Obj)} {s : Shared} {σ : L2.St} {E E₂ : WS} {st : Sto} {v1 v2 : V} {u1 u2 : Value} {ρ : Env}
/-! ### a, b = x, y -/
/-- values in a row, each fresh behind the ones ahead -/
def RepL (K : PySem.W.Frag) : WS → WS → List (D × Kd) → List V → Prop
  | _, _, [], vs => vs = []
  | E, E', x :: xs, vs => ∃ v r Em, vs = v :: r ∧ Ext E Em ∧ Ext Em E' ∧ RepR K E Em x.1 x.2 v ∧ RepL K Em E' xs r
def setσ (σ : L2.St) : List Nat → List V → L2.St
  | i :: is, v :: vs => setσ (σ.set i (some v)) is vs
  | _, _ => σ
theorem putAll {K : PySem.W.Frag} {E₀ E' : WS} : ∀ {is : List Nat} {Em : WS} {xs : List (D × Kd)} {vs : List V} {σ : L2.St} {ρ ρ' : Env}, RepL K Em E' xs vs → Ext E₀ Em → FrR K E₀ E' σ ρ →
    (∀ (j : Nat) d a, ρ[j]? = some (some (d, true)) → σ[j]? = some (some (.ref a)) → Em.H a ≠ none) → setPar ρ is xs = some ρ' → FrR K E₀ E' (setσ σ is vs) ρ'
  | [], Em, [], vs, σ, ρ, ρ', r, x, f, h, e => by
    simp only [setPar] at e
    cases e
    have r : vs = [] := r
    subst r
    exact f
  | [], _, _ :: _, _, _, _, _, _, _, _, _, e => by simp [setPar] at e
  | _ :: _, _, [], _, _, _, _, _, _, _, _, e => by simp [setPar] at e
  | i :: is, Em, y :: ys, vs, σ, ρ, ρ', ⟨v, r, En, ev, x1, x2, rr, rl⟩, x, f, h, e => by
    subst ev
    simp only [setPar] at e
    obtain ⟨ρ1, h1, e⟩ := Option.bind_eq_some_iff.mp e
    unfold RS.setOwn at h1
    split at h1
    · obtain ⟨d0, hk, e1⟩ := Option.map_eq_some_iff.mp h1
      subst e1
      have hd0 : d0 = y.1 := by
        unfold keep at hk
        split at hk
        · cases hk
        · cases hk; rfl
      have hnb : y.2 ≠ .bo := by
        unfold keep at hk
        split at hk
        · cases hk
        · assumption
      subst hd0
      show FrR K E₀ E' (setσ (σ.set i (some v)) is r) ρ'
      by_cases hm : (isMut y.1 && decide (y.2 = Kd.fr)) = true
      · rw [hm] at e
        rw [Bool.and_eq_true, decide_eq_true_eq] at hm
        rw [hm.2] at rr
        have rr : if isMut y.1 = true then ∃ a, v = .ref a ∧ Fresh K Em En y.1 a else Rep K En y.1 v := rr
        rw [if_pos hm.1] at rr
        obtain ⟨a, ea, fr⟩ := rr
        subst ea
        obtain ⟨o, ho⟩ := fr.own.there
        refine putAll rl (x.trans x1) (f.own ((fr.from x).ext x2) fun j d' hj q1 q2 => h j d' a q1 q2 fr.new) (fun j d b q1 q2 q3 => ?_) e
        rcases get_set q1 with ⟨e1, q⟩ | ⟨e1, q⟩
        · subst e1
          have hl : i < σ.length := by have := (List.getElem?_eq_some_iff.mp q2).1; simpa using this
          rw [set_get hl] at q2
          cases q2
          rw [ho] at q3
          cases q3
        · rw [List.getElem?_set_ne e1] at q2
          exact h j d b q q2 (x1.up b q3)
      · have hm' : (isMut y.1 && decide (y.2 = Kd.fr)) = false := by simpa using hm
        rw [hm'] at e
        have rp : Rep K En y.1 v := by
          cases hy : y.2 with
          | bo => exact absurd hy hnb
          | fz => rw [hy] at rr; exact rr
          | fr =>
            rw [hy] at rr hm'
            have rr : if isMut y.1 = true then ∃ a, v = .ref a ∧ Fresh K Em En y.1 a else Rep K En y.1 v := rr
            have : isMut y.1 = false := by simpa using hm'
            rw [this] at rr
            exact rr
        refine putAll rl (x.trans x1) (f.set (rp.last x2.last)) (fun j d b q1 q2 q3 => ?_) e
        rcases get_set q1 with ⟨e1, q⟩ | ⟨e1, q⟩
        · cases q
        · rw [List.getElem?_set_ne e1] at q2
          exact h j d b q q2 (x1.up b q3)
    · cases h1
structure SK (G : Cfg) (es : List Expr) (m : Env → Sto → R (List (D × Kd))) : Prop where
  run : ∀ (pos : Pos) (pins : List (Addr × Obj)) (s : Shared) (σ : L2.St) (E : WS) (ρ : Env) (st : Sto) (Q : List Value → Shared → Prop), Inv G.X pins σ E.H s → G.WO E st → G.Fr E σ ρ → G.Tk s →
    Out (m ρ st) (fun xs st' => ∀ E' vs us s', Ext E E' → G.WO E' st' → RepL G.X.K E E' xs vs → Inv G.X pins σ E'.H s' → Vals vs us → Q us s') (G.er E σ) → wpAny G.M G.X.A (spliced (backTo pos (starEach es G.X.env))) Q G.X.xe s
theorem sk_nil : SK G [] (fun _ s => .ok [] s) := ⟨fun pos pins s σ E ρ st Q I w f tk h => Calls.spliced_nil (h E [] [] s (Ext.refl E) w rfl I .nil)⟩
theorem sk_cons {e : Expr} {es : List Expr} {m : Env → Sto → R (D × Kd)} {ms : Env → Sto → R (List (D × Kd))} (he : SE G e m) (hs : SK G es ms) (hp : plainArgs (e :: es) = true) :
    SK G (e :: es) (fun ρ s => (m ρ s).bind fun x s => (ms ρ s).bind fun xs s => .ok (x :: xs) s) := by
  refine ⟨fun pos pins s σ E ρ st Q I w f tk h => ?_⟩
  rw [(star_cons hp).1]
  show wpAny _ _ (spliced ((false, eval e G.X.env) :: backTo pos (starEach es G.X.env))) _ _ s
  refine Calls.spliced_cons (he.thn I w f tk h fun x st1 E1 v u s1 x1 w1 r1 I1 ru t1 h1 => ?_)
  refine hs.run pos pins s1 σ E1 ρ st1 _ I1 w1 (f.mono x1) t1 ((Out.bind.mp h1).mono (fun xs st3 h3 E3 vs us s3 x3 w3 r3 I3 rv => ?_) fun _ _ z => Cfg.er_ext x1 z)
  exact h3 E3 (v :: vs) (u :: us) s3 (x1.trans x3) w3 ⟨v, vs, E1, rfl, x1, x3, r1, r3⟩ I3 (.cons ru rv)
theorem FrR.there (f : G.Fr E σ ρ) : ∀ (j : Nat) d a, ρ[j]? = some (some (d, true)) → σ[j]? = some (some (.ref a)) → E.H a ≠ none := fun j d a h1 h2 h3 => by
  obtain ⟨v, e, _, q⟩ := f.slot j d true h1
  obtain ⟨b, eb, fb⟩ := q rfl
  rw [h2] at e
  cases e
  cases eb
  obtain ⟨o, ho⟩ := fb.own.there
  rw [h3] at ho
  cases ho
theorem ss_par2 {i j : Nat} {x y : Str} {a b : Expr} {m : Env → Sto → R (List (D × Kd))} {px py pt pos : Pos} {kt k2 pt2} (hc : G.X.calm = true) (hN : G.X.N.Nodup) (hi : G.X.N[i]? = some x) (hj : G.X.N[j]? = some y) (hij : i ≠ j)
    (hx : G.X.env.scope.names.lookup x = some .local) (hy : G.X.env.scope.names.lookup y = some .local) (ha : SK G [a, b] m)
    (hw : swappedStores [.Tuple [.Name x px, .Name y py] kt pt] (.Tuple [a, b] k2 pt2) G.X.env = pure (some [x, y]))
    (hs : swapsWithSole [.Tuple [.Name x px, .Name y py] kt pt] (.Tuple [a, b] k2 pt2) pos.line G.X.env = pure false) (h2 : ∀ ρ s xs s', m ρ s = .ok xs s' → xs.length = 2) :
    SS G (.Assign [.Tuple [.Name x px, .Name y py] kt pt] (.Tuple [a, b] k2 pt2) pos) (fun ρ s => (m ρ s).bind fun xs s => (ofO (setPar ρ [i, j] xs) s).bind fun ρ s => .ok (.nx, ρ) s) := by
  refine ⟨fun pins s σ E ρ st Q I w f tk hO => ?_⟩
  rw [exec_Assign_arm]
  refine wpAny_bind (wpAny_standAt ?_)
  rw [hs]
  refine wpAny_bind (wpAny_pure ?_)
  rw [if_neg (by decide)]
  refine wpAny_bind (Tuple_ (G.wtk tk (ha.run _ pins s σ E ρ st _ I w f tk ((Out.bind.mp hO).self.mono (fun xs st1 ⟨hm, h1⟩ E1 vs us s1 x1 w1 r1 I1 rv t1 => ?_) fun _ _ z => Cfg.erS_er f z))))
  obtain ⟨ρ', hρ, hP⟩ := (Out.bind.mp h1).ofO
  have hl := h2 _ _ _ _ hm
  obtain ⟨xa, xb, rfl⟩ : ∃ xa xb, xs = [xa, xb] := by
    match xs, hl with
    | [p, q], _ => exact ⟨p, q, rfl⟩
  have f1 := putAll r1 f.ext (f.mono x1) (fun j d a h1 h2 => f.there j d a h1 h2) hρ
  obtain ⟨v1, q1, Em, ev, xa1, xa2, r1', v2, q2, En, ev2, xb1, xb2, r2', ev3⟩ := id r1
  have ev3 : q2 = [] := ev3
  subst ev3 ev2 ev
  obtain ⟨u1, u2, rfl, ru1, ru2⟩ : ∃ u1 u2, us = [u1, u2] ∧ RelV v1 u1 ∧ RelV v2 u2 := by
    cases rv with
    | cons p q =>
      cases q with
      | cons p' q' =>
        cases q'
        exact ⟨_, _, rfl, p, p'⟩
  refine wpAny_newObj_type ?_ (by show 2 ≤ sizeLine; decide)
  have I2 : Inv G.X pins σ E1.H { s1 with heap := s1.heap.push { cls := .type "tuple", data := .seq [u1, u2].toArray } } := I1.kept (t' := s1.toks) fun b o e => Heap.get?_push_of_some _ e
  rw [hw]
  refine wpAny_bind (wpAny_pure ?_)
  show wpAny G.M G.X.A (do rule "assign.swapped-stores"; let items ← unpackItems (.ref s1.heap.objs.size) 2 none; assignInOrder [fun v => bindName G.X.env y v, fun v => bindName G.X.env x v] items.reverse; pure Flow.next) _ _ _
  refine wpAny_bind (wpAny_rule (wpAny_bind (unpackItems_tuple (items := #[u1, u2]) (I.ok.hd hc) (IsTup.new s1.heap _) fun h' hx' => ?_)))
  have I3 := I2.kept (h' := h') (t' := s1.toks) fun b o e => hx' b o (Nat.ne_of_lt (Heap.lt_size e)) e
  have t3 : G.Tk { s1 with heap := h' } := t1
  show wpAny _ _ (assignInOrder [fun v => bindName G.X.env y v, fun v => bindName G.X.env x v] [u2, u1] >>= fun _ => pure Flow.next) _ _ _
  refine wpAny_bind (assignInOrder_cons (wpAny_bindName (G.wtk t3 (store_ok I3 hN hj (.inl hy) ru2 (fun s2 I4 t4 => ?_) (.inr hy)))))
  refine assignInOrder_cons (wpAny_bindName (G.wtk t4 (store_ok I4 hN hi (.inl hx) ru1 (fun s3 I5 t5 => assignInOrder_nil (wpAny_pure ?_)) (.inr hx))))
  rw [List.set_comm _ _ (Ne.symm hij)] at I5
  exact hP E1 _ .next s3 x1.last w1 f1 I5 trivial t5
theorem ss_par3 {i j l : Nat} {x y z : Str} {a b c : Expr} {m : Env → Sto → R (List (D × Kd))} {px py pz pt pos : Pos} {kt k2 pt2} (hc : G.X.calm = true) (hN : G.X.N.Nodup) (hi : G.X.N[i]? = some x) (hj : G.X.N[j]? = some y) (hl : G.X.N[l]? = some z) (hij : i ≠ j) (hil : i ≠ l) (hjl : j ≠ l)
    (hx : G.X.env.scope.names.lookup x = some .local) (hy : G.X.env.scope.names.lookup y = some .local) (hz : G.X.env.scope.names.lookup z = some .local) (ha : SK G [a, b, c] m)
    (hw : swappedStores [.Tuple [.Name x px, .Name y py, .Name z pz] kt pt] (.Tuple [a, b, c] k2 pt2) G.X.env = pure (some [x, y, z]))
    (hs : swapsWithSole [.Tuple [.Name x px, .Name y py, .Name z pz] kt pt] (.Tuple [a, b, c] k2 pt2) pos.line G.X.env = pure false) (h2 : ∀ ρ s xs s', m ρ s = .ok xs s' → xs.length = 3) :
    SS G (.Assign [.Tuple [.Name x px, .Name y py, .Name z pz] kt pt] (.Tuple [a, b, c] k2 pt2) pos) (fun ρ s => (m ρ s).bind fun xs s => (ofO (setPar ρ [i, j, l] xs) s).bind fun ρ s => .ok (.nx, ρ) s) := by
  refine ⟨fun pins s σ E ρ st Q I w f tk hO => ?_⟩
  rw [exec_Assign_arm]
  refine wpAny_bind (wpAny_standAt ?_)
  rw [hs]
  refine wpAny_bind (wpAny_pure ?_)
  rw [if_neg (by decide)]
  refine wpAny_bind (Tuple_ (G.wtk tk (ha.run _ pins s σ E ρ st _ I w f tk ((Out.bind.mp hO).self.mono (fun xs st1 ⟨hm, h1⟩ E1 vs us s1 x1 w1 r1 I1 rv t1 => ?_) fun _ _ z => Cfg.erS_er f z))))
  obtain ⟨ρ', hρ, hP⟩ := (Out.bind.mp h1).ofO
  have hlen := h2 _ _ _ _ hm
  obtain ⟨xa, xb, xc, rfl⟩ : ∃ xa xb xc, xs = [xa, xb, xc] := by
    match xs, hlen with
    | [p, q, r], _ => exact ⟨p, q, r, rfl⟩
  have f1 := putAll r1 f.ext (f.mono x1) (fun j d a h1 h2 => f.there j d a h1 h2) hρ
  obtain ⟨v1, q1, Em, ev, xa1, xa2, r1', v2, q2, En, ev2, xb1, xb2, r2', v3, q3, Eo, ev3, xc1, xc2, r3', ev4⟩ := id r1
  have ev4 : q3 = [] := ev4
  subst ev4 ev3 ev2 ev
  obtain ⟨u1, u2, u3, rfl, ru1, ru2, ru3⟩ : ∃ u1 u2 u3, us = [u1, u2, u3] ∧ RelV v1 u1 ∧ RelV v2 u2 ∧ RelV v3 u3 := by
    cases rv with
    | cons p q =>
      cases q with
      | cons p' q' =>
        cases q' with
        | cons p'' q'' =>
          cases q''
          exact ⟨_, _, _, rfl, p, p', p''⟩
  refine wpAny_newObj_type ?_ (by show 3 ≤ sizeLine; decide)
  have I2 : Inv G.X pins σ E1.H { s1 with heap := s1.heap.push { cls := .type "tuple", data := .seq [u1, u2, u3].toArray } } := I1.kept (t' := s1.toks) fun b o e => Heap.get?_push_of_some _ e
  rw [hw]
  refine wpAny_bind (wpAny_pure ?_)
  show wpAny G.M G.X.A (do rule "assign.swapped-stores"; let items ← unpackItems (.ref s1.heap.objs.size) 3 none; assignInOrder [fun v => bindName G.X.env z v, fun v => bindName G.X.env y v, fun v => bindName G.X.env x v] items.reverse; pure Flow.next) _ _ _
  refine wpAny_bind (wpAny_rule (wpAny_bind (unpackItems_tuple (items := #[u1, u2, u3]) (I.ok.hd hc) (IsTup.new s1.heap _) fun h' hx' => ?_)))
  have I3 := I2.kept (h' := h') (t' := s1.toks) fun b o e => hx' b o (Nat.ne_of_lt (Heap.lt_size e)) e
  have t3 : G.Tk { s1 with heap := h' } := t1
  show wpAny _ _ (assignInOrder [fun v => bindName G.X.env z v, fun v => bindName G.X.env y v, fun v => bindName G.X.env x v] [u3, u2, u1] >>= fun _ => pure Flow.next) _ _ _
  refine wpAny_bind (assignInOrder_cons (wpAny_bindName (G.wtk t3 (store_ok I3 hN hl (.inl hz) ru3 (fun s2 I4 t4 => ?_) (.inr hz)))))
  refine assignInOrder_cons (wpAny_bindName (G.wtk t4 (store_ok I4 hN hj (.inl hy) ru2 (fun s3 I5 t5 => ?_) (.inr hy))))
  refine assignInOrder_cons (wpAny_bindName (G.wtk t5 (store_ok I5 hN hi (.inl hx) ru1 (fun s4 I6 t6 => assignInOrder_nil (wpAny_pure ?_)) (.inr hx))))
  rw [List.set_comm _ _ (Ne.symm hjl), List.set_comm _ _ (Ne.symm hil), List.set_comm _ _ (Ne.symm hij)] at I6
  exact hP E1 _ .next s4 x1.last w1 f1 I6 trivial t6

/-! ### x[i] = e -/
theorem ixN_eq (n : Nat) (i : Int) : ix n i = ixN n i := rfl
theorem RepA.set {K : PySem.W.Frag} {E : WS} {d : D} {v : V} (r : Rep K E d v) : ∀ {xs : List D} {vs : List V} (n : Nat), RepA K E xs vs → RepA K E (xs.set n d) (vs.set n v)
  | [], vs, n, h => by rw [RepA] at h; subst h; simp [RepA]
  | x :: xs, vs, 0, h => by
    rw [RepA] at h
    obtain ⟨v', q, e, r1, r2⟩ := h
    subst e
    rw [List.set_cons_zero, List.set_cons_zero, RepA]
    exact ⟨v, q, rfl, r, r2⟩
  | x :: xs, vs, n + 1, h => by
    rw [RepA] at h
    obtain ⟨v', q, e, r1, r2⟩ := h
    subst e
    rw [List.set_cons_succ, List.set_cons_succ, RepA]
    exact ⟨v', _, rfl, r1, RepA.set r n r2⟩
theorem putL_ok {xs xs' : List D} {i d : D} {vs : List V} {K : PySem.W.Frag} {E : WS} {v w : V} (h : RS.putL xs i d = some xs') (rA : RepA K E xs vs) (ri : RepC K E i w) (r : Rep K E d v) :
    ∃ k j, w = .int k ∧ ixN vs.length k = some j ∧ RepA K E xs' (vs.set j v) := by
  unfold RS.putL at h
  split at h
  · rename_i k
    obtain ⟨n, hn, e⟩ := Option.map_eq_some_iff.mp h
    subst e
    exact ⟨k, n, c_int ri, by rw [← rA.length]; exact hn, rA.set r n⟩
  · cases h
theorem putK_ok {kvs kvs' : List (D × D)} {k d : D} {ks : List (Key × V)} {K : PySem.W.Frag} {E : WS} {v w : V} (h : RS.putK kvs k d = some kvs') (rK : RepK K E kvs ks) (rk : RepX K E k w) (r : Rep K E d v) :
    ∃ k', w = kV k' ∧ ks.length < sizeLine ∧ RepK K E kvs' (L2.putK ks k' v) := by
  unfold RS.putK at h
  split at h
  · rename_i hk
    cases h
    rw [Bool.and_eq_true, decide_eq_true_eq] at hk
    obtain ⟨k', hk'⟩ := isKey_of hk.1
    have hm : isMut k = false := by cases k <;> first | rfl | (simp [isKey] at hk)
    have rp := rep_notmut hm rk
    have e := rep_key hk' rp.c
    subst e
    exact ⟨k', rfl, by rw [← rK.length, ← line_eq]; exact hk.2, rK.put hk' rp r⟩
  · cases h
/-- the frame, the store behind a thing of one's own that is written -/
theorem wr_own {i : Nat} {d d' : D} {a : Addr} {o' : HO} (w : G.WO E st) (f : G.Fr E σ ρ) (hi : ρ[i]? = some (some (d, true))) (hs : σ[i]? = some (some (.ref a))) (fr : Fresh G.X.K G.E₀ E d a) (ow : Own G.X.K (E.put a o') d' a) :
    G.WO (E.put a o') st ∧ G.Fr (E.put a o') σ (ρ.set i (some (d', true))) ∧ Last E (E.put a o') := by
  obtain ⟨o, ho, ld⟩ := fr.own.ld
  exact ⟨w.over ho ld fr.nfz fr.nmu, f.write hi hs fr ow, last_over ho ld fr.nfz⟩
theorem own_last {K : PySem.W.Frag} {o' : HO} {a : Addr} {d : D} (fr : Fresh K G.E₀ E d a) : Last E (E.put a o') := by
  obtain ⟨o, ho, ld⟩ := fr.own.ld
  exact last_over ho ld fr.nfz
theorem own_slot {i : Nat} {d : D} (f : G.Fr E σ ρ) (hi : ρ[i]? = some (some (d, true))) : ∃ a, σ[i]? = some (some (.ref a)) ∧ Fresh G.X.K G.E₀ E d a := by
  obtain ⟨v, e, _, q⟩ := f.slot i d true hi
  obtain ⟨a, ea, fr⟩ := q rfl
  subst ea
  exact ⟨a, e, fr⟩
theorem name_own {i : Nat} {x : Str} {p : Pos} {a : Addr} {Q : Value → Shared → Prop} (hN : G.X.N[i]? = some x) (hv : Vis G.X.env.scope x) (hd : (x == ("__debug__" : Str)) = false) (hcd : (x == ("__classdict__" : Str)) = false)
    (I : Inv G.X pins σ E.H s) (ea : σ[i]? = some (some (.ref a))) (tk : G.Tk s) (k : ∀ s2, Inv G.X pins σ E.H s2 → G.Tk s2 → Q (.ref a) s2) : wpAny G.M G.X.A (eval (.Name x p) G.X.env) Q G.X.xe s := by
  refine G.wtk tk (L2.thn ((pe_var (pos := p) hN hv hd hcd).run pins s σ E.H (fun v' H' => v' = .ref a ∧ H' = E.H) I ⟨.ref a, ea, rfl, rfl⟩) fun u s2 ⟨v', H1, I2, ru, ev, eH2⟩ t2 => ?_)
  subst ev
  rw [eH2] at I2
  cases ru
  exact k s2 I2 t2
theorem ss_setV {i : Nat} {x : Str} {p pos' pos : Pos} {ie e : Expr} {me mi : Env → Sto → R (D × Kd)} (hu : G.X.A.units + 128 < cLine) (hN : G.X.N[i]? = some x) (hv : Vis G.X.env.scope x) (hd : (x == ("__debug__" : Str)) = false) (hcd : (x == ("__classdict__" : Str)) = false)
    (he : SE G e me) (hi : SE G ie mi) (hs : swapsWith e (some (.Subscript (.Name x p) ie pos')) pos.line G.X.env = pure false) :
    SS G (.Assign [.Subscript (.Name x p) ie pos'] e pos) (fun ρ s => (me ρ s).bind fun y s => (ofO (keep y) s).bind fun d s => match ρ[i]? with
      | some (some (.lst xs, true)) => (mi ρ s).bind fun k s => (ofO (RS.putL xs k.1 d) s).bind fun xs s => .ok (.nx, ρ.set i (some (.lst xs, true))) s
      | some (some (.dct kvs, true)) => (mi ρ s).bind fun k s => (ofO (RS.putK kvs k.1 d) s).bind fun kvs s => .ok (.nx, ρ.set i (some (.dct kvs, true))) s
      | _ => .no) := by
  refine ⟨fun pins s σ E ρ st Q I w f tk hO => wpAny_Assign_Subscript (he.sthn I w f tk hO fun y st1 E1 vy uy s1 x1 w1 r1 I1 ruy t1 h1 => ?_) hs⟩
  obtain ⟨d, hk, h2⟩ := (Out.bind.mp h1).ofO
  obtain ⟨ed, E2, eH, x2, l2, w2, r2⟩ := keep_ok x1 w1 r1 hk
  subst ed
  rw [← eH] at I1
  have f2 := f.mono x2
  split at h2
  · rename_i xs hq
    obtain ⟨a, ea, fr⟩ := own_slot f2 hq
    refine name_own hN hv hd hcd I1 ea t1 fun s2 I2 t2 => ?_
    refine hi.thn' I2 w2 f2 t2 (fun _ _ z => Cfg.erS_er f2 z) h2 fun k st3 E3 vk uk s3 x3 w3 r3 I3 ruk t3 h4 => ?_
    have fr3 := fr.ext x3
    have f3 := f2.mono x3
    have ry := r2.last x3.last
    obtain ⟨xs', hx, hP⟩ := (Out.bind.mp h4).ofO
    obtain ⟨vs, hh, rA⟩ := fr3.own
    obtain ⟨kk, j, ek, hj, rA'⟩ := putL_ok hx rA r3.c ry
    subst ek
    have l4 := own_last (o' := .lst (vs.set j vy)) fr3
    obtain ⟨w4, f4, _⟩ := wr_own (d' := .lst xs') (o' := .lst (vs.set j vy)) w3 f3 hq ea fr3 ⟨_, upd_same, rA'.last l4⟩
    refine G.wtk t3 (L2.thn (set_list pins s3 σ E3.H (.ref a) (.int kk) vy (.ref a) uk uy (fun H' => H' = upd E3.H a (.lst (vs.set j vy))) I3 rfl ruk ruy ⟨a, vs, kk, j, rfl, rfl, hh, hj, rfl⟩) fun _ s4 ⟨H4, I4, eH4⟩ t4 => ?_)
    subst eH4
    exact hP (E3.put a (.lst (vs.set j vy))) σ .next s4 (x2.last.trans (x3.last.trans l4)) w4 f4 I4 trivial t4
  · rename_i kvs hq
    obtain ⟨a, ea, fr⟩ := own_slot f2 hq
    refine name_own hN hv hd hcd I1 ea t1 fun s2 I2 t2 => ?_
    refine hi.thn' I2 w2 f2 t2 (fun _ _ z => Cfg.erS_er f2 z) h2 fun k st3 E3 vk uk s3 x3 w3 r3 I3 ruk t3 h4 => ?_
    have fr3 := fr.ext x3
    have f3 := f2.mono x3
    have ry := r2.last x3.last
    obtain ⟨kvs', hx, hP⟩ := (Out.bind.mp h4).ofO
    obtain ⟨ks, hh, rK⟩ := fr3.own
    obtain ⟨kk, ek, hj, rK'⟩ := putK_ok hx rK r3.x ry
    subst ek
    have l4 := own_last (o' := .dK (L2.putK ks kk vy)) fr3
    obtain ⟨w4, f4, _⟩ := wr_own (d' := .dct kvs') (o' := .dK (L2.putK ks kk vy)) w3 f3 hq ea fr3 ⟨_, upd_same, rK'.last l4⟩
    refine G.wtk t3 (d_setItem (by omega) I3 (DPut.k hh hj) ruk ruy fun s4 I4 t4 => ?_)
    exact hP (E3.put a (.dK (L2.putK ks kk vy))) σ .next s4 (x2.last.trans (x3.last.trans l4)) w4 f4 I4 trivial t4
  · exact h2.elim

/-! ### in the store -/
theorem ext_cell {E₀ : WS} {a : Addr} {o o' : HO} (x : Ext E₀ E) (ha : a ∈ E.μ) (h : E.H a = some o) (hm : IsLD o) (n : ¬ E.Fz a) : Ext E₀ (E.put a o') := by
  have l := last_over (o' := o') h hm n
  refine ⟨fun b u e h1 h2 => ?_, fun b e => ?_, fun b u e => l.tup b u (x.tup b u e), fun b u u' e => l.frz b u u' (x.frz b u u' e), fun b z => ⟨(x.fz b z).1, fun u e => (l.fz b (x.fz b z).1).2 u ((x.fz b z).2 u e)⟩, x.fzn, x.mu⟩
  · have : b ≠ a := fun q => by
      subst q
      rcases x.mem ha with z | z
      · exact h1 z
      · rw [e] at z; cases z
    show upd E.H a o' b = _
    rw [upd_ne this]
    exact x.pres b u e h1 h2
  · have e : upd E.H a o' b = none := e
    by_cases z : b = a
    · rw [z, upd_same] at e; cases e
    · rw [upd_ne z] at e; exact x.up b e
theorem WSOk.cellPut {K : PySem.W.Frag} {J : Inf} {n : Nat} {a : Addr} {c c' : Cell} {o' : HO} (w : WSOk K J E st) (hn : st[n]? = some c) (hm : E.μ[n]? = some a) (hc : CellR K (E.put a o') c' a) : WSOk K J (E.put a o') (st.set n c') ∧ Last E (E.put a o') := by
  have hmem : a ∈ E.μ := List.mem_of_getElem? hm
  have cr := w.cell n c a hn hm
  obtain ⟨o, ho, ld⟩ : ∃ o, E.H a = some o ∧ IsLD o := by
    rcases cr.there with ⟨vs, e⟩ | ⟨ks, e⟩
    · exact ⟨_, e, .inl ⟨_, rfl⟩⟩
    · exact ⟨_, e, .inr ⟨_, rfl⟩⟩
  have nfz := w.nfz a hmem
  have l := last_over (o' := o') ho ld nfz
  have other : ∀ b, b ≠ a → (E.put a o').H b = E.H b := fun b e => upd_ne e
  have neq : ∀ b u, E.H b = some u → (∀ xs, u ≠ .lst xs) → (∀ ks, u ≠ .dK ks) → b ≠ a := fun b u e h1 h2 q => by
    rw [q, ho] at e
    cases e
    rcases ld with ⟨xs, e⟩ | ⟨ks, e⟩
    · exact h1 _ e
    · exact h2 _ e
  refine ⟨⟨by rw [w.len, List.length_set], w.nd, fun k d b h1 h2 => ?_, w.nfz, fun b z => ?_, fun P hP => ?_, fun q hq => ?_⟩, l⟩
  · by_cases e : n = k
    · subst e
      have : n < st.length := (List.getElem?_eq_some_iff.mp hn).1
      rw [set_get this] at h1
      cases h1
      have h2 : E.μ[n]? = some b := h2
      rw [hm] at h2
      cases h2
      exact hc
    · rw [List.getElem?_set_ne e] at h1
      have hb : b ≠ a := fun q => by
        subst q
        have h2 : E.μ[k]? = some b := h2
        exact e ((List.getElem?_inj (List.getElem?_eq_some_iff.mp hm).1 w.nd).mp (hm.trans h2.symm))
      exact (w.cell k d b h1 h2).last l fun u e => (other b hb).trans e
  · obtain ⟨u, e, nt⟩ := w.fzH b z
    have hb : b ≠ a := fun q => by
      subst q
      exact nfz z
    exact ⟨u, (other b hb).trans e, nt⟩
  · obtain ⟨ps, e, t⟩ := w.tg P hP
    exact ⟨ps, (other P (neq P _ e (fun _ z => by cases z) fun _ z => by cases z)).trans e, t⟩
  · obtain ⟨ps, e, t, t2⟩ := w.tl q hq
    refine ⟨ps, (other _ (neq _ _ e (fun _ z => by cases z) fun _ z => by cases z)).trans e, t, fun pos cv hc => ?_⟩
    obtain ⟨c, e1, e2⟩ := t2 pos cv hc
    exact ⟨c, e1, (other _ (neq _ _ e2 (fun _ z => by cases z) fun _ z => by cases z)).trans e2⟩
/-- a cell is written: the frame stays -/
theorem FrR.cell {n : Nat} {a : Addr} {o o' : HO} (f : G.Fr E σ ρ) (ha : a ∈ E.μ) (h : E.H a = some o) (hm : IsLD o) (nf : ¬ E.Fz a) : G.Fr (E.put a o') σ ρ := by
  refine FrR.fz f (last_over h hm nf) (fun i d v b hi hs ev fr => ?_) (ext_cell f.ext ha h hm nf)
  have hb : b ≠ a := fun q => fr.nmu (q ▸ ha)
  exact ⟨fr.own.lastNe (last_over h hm nf) (upd_ne hb), fr.nfz, fr.nmu, fr.new⟩
theorem ss_setI {o ie e : Expr} {pos' pos : Pos} {me mo mi : Env → Sto → R (D × Kd)} (hu : G.X.A.units + 128 < cLine) (he : SE G e me) (ho : SE G o mo) (hi : SE G ie mi) (hs : swapsWith e (some (.Subscript o ie pos')) pos.line G.X.env = pure false) :
    SS G (.Assign [.Subscript o ie pos'] e pos) (fun ρ s => (me ρ s).bind fun y s => (ofO (keep y) s).bind fun d s => (mo ρ s).bind fun x s => (mi ρ s).bind fun k s => match x.1 with
      | .loc n => match s[n]? with
        | some (.lst xs) => (ofO (RS.putL xs k.1 d) s).bind fun xs s => .ok (.nx, ρ) (s.set n (.lst xs))
        | some (.dct kvs) => (ofO (RS.putK kvs k.1 d) s).bind fun kvs s => .ok (.nx, ρ) (s.set n (.dct kvs))
        | _ => .no
      | _ => .no) := by
  refine ⟨fun pins s σ E ρ st Q I w f tk hO => wpAny_Assign_Subscript (he.sthn I w f tk hO fun y st1 E1 vy uy s1 x1 w1 r1 I1 ruy t1 h1 => ?_) hs⟩
  obtain ⟨d, hk, h2⟩ := (Out.bind.mp h1).ofO
  obtain ⟨ed, E2, eH, x2, l2, w2, r2⟩ := keep_ok x1 w1 r1 hk
  subst ed
  rw [← eH] at I1
  have f2 := f.mono x2
  refine ho.thn' I1 w2 f2 t1 (fun _ _ z => Cfg.erS_er f2 z) h2 fun x st3 E3 vx ux s3 x3 w3 r3 I3 rux t3 h4 => ?_
  have f3 := f2.mono x3
  refine hi.thn' I3 w3 f3 t3 (fun _ _ z => Cfg.erS_er f3 z) h4 fun k st4 E4 vk uk s4 x4 w4 r4 I4 ruk t4 h5 => ?_
  have f4 := f3.mono x4
  have ry := r2.last (x3.trans x4).last
  split at h5
  · rename_i n e
    have c := (r3.x.ext x4).c
    rw [e] at c
    obtain ⟨a, ea, hm⟩ := c_loc c
    subst ea
    cases rux
    have hmem : a ∈ E4.μ := List.mem_of_getElem? hm
    split at h5
    · rename_i xs hn
      obtain ⟨xs', hx, hP⟩ := (Out.bind.mp h5).ofO
      obtain ⟨vs, hh, rA⟩ := w4.cell n _ a hn hm
      obtain ⟨kk, j, ek, hj, rA'⟩ := putL_ok hx rA r4.c ry
      subst ek
      have l5 := last_over (o' := .lst (vs.set j vy)) hh (.inl ⟨_, rfl⟩) (w4.nfz a hmem)
      obtain ⟨w5, _⟩ := w4.cellPut (c' := .lst xs') (o' := .lst (vs.set j vy)) hn hm ⟨_, upd_same, rA'.last l5⟩
      have f5 : G.Fr (E4.put a (.lst (vs.set j vy))) σ ρ := FrR.cell (n := n) f4 hmem hh (.inl ⟨_, rfl⟩) (w4.nfz a hmem)
      refine G.wtk t4 (L2.thn (set_list pins s4 σ E4.H (.ref a) (.int kk) vy (.ref a) uk uy (fun H' => H' = upd E4.H a (.lst (vs.set j vy))) I4 rfl ruk ruy ⟨a, vs, kk, j, rfl, rfl, hh, hj, rfl⟩) fun _ s5 ⟨H5, I5, eH5⟩ t5 => ?_)
      subst eH5
      exact hP (E4.put a (.lst (vs.set j vy))) σ .next s5 (x2.last.trans (x3.last.trans (x4.last.trans l5))) w5 f5 I5 trivial t5
    · rename_i kvs hn
      obtain ⟨kvs', hx, hP⟩ := (Out.bind.mp h5).ofO
      obtain ⟨ks, hh, rK⟩ := w4.cell n _ a hn hm
      obtain ⟨kk, ek, hj, rK'⟩ := putK_ok hx rK r4.x ry
      subst ek
      have l5 := last_over (o' := .dK (L2.putK ks kk vy)) hh (.inr ⟨_, rfl⟩) (w4.nfz a hmem)
      obtain ⟨w5, _⟩ := w4.cellPut (c' := .dct kvs') (o' := .dK (L2.putK ks kk vy)) hn hm ⟨_, upd_same, rK'.last l5⟩
      have f5 : G.Fr (E4.put a (.dK (L2.putK ks kk vy))) σ ρ := FrR.cell (n := n) f4 hmem hh (.inr ⟨_, rfl⟩) (w4.nfz a hmem)
      refine G.wtk t4 (d_setItem (by omega) I4 (DPut.k hh hj) ruk ruy fun s5 I5 t5 => ?_)
      exact hP (E4.put a (.dK (L2.putK ks kk vy))) σ .next s5 (x2.last.trans (x3.last.trans (x4.last.trans l5))) w5 f5 I5 trivial t5
    · exact h5.elim
  · exact h5.elim
end
end RS
end S15
section S16
set_option autoImplicit false
set_option linter.all false
set_option maxRecDepth 100000
set_option Elab.async false
/-! B7: append, +=, update, raise. -/
namespace RS
open PySem PySem.Spec PyProof.Rows L2

section
variable {G : Cfg} {pins : List (Addr × Obj)} {s : Shared} {σ : L2.St} {E E₂ : WS} {st : Sto} {v1 v2 : V} {u1 u2 : Value} {ρ : Env}
variable {i : Nat} {x : Str} {e : Expr} {me : Env → Sto → R (D × Kd)} {p apos cpos pos : Pos}
theorem ss_app (hN : G.X.N[i]? = some x) (hv : Vis G.X.env.scope x) (hd : (x == ("__debug__" : Str)) = false) (hcd : (x == ("__classdict__" : Str)) = false) (hp : plainArgs [e] = true) (hl : (apos.endLine == cpos.line) = true)
    (hs : swapsWith (.Call (.Attribute (.Name x p) "append" apos) [e] [] cpos) none pos.line G.X.env = pure false) (he : SE G e me) :
    SS G (.Expr (.Call (.Attribute (.Name x p) "append" apos) [e] [] cpos) pos) (fun ρ s => match ρ[i]? with
      | some (some (.lst xs, true)) => (me ρ s).bind fun y s => (ofO (keep y) s).bind fun d s => if xs.length < line then .ok (.nx, ρ.set i (some (.lst (xs ++ [d]), true))) s else .no
      | _ => .no) := by
  refine ⟨fun pins s σ E ρ st Q I w f tk hO => ?_⟩
  split at hO
  · rename_i xs hq
    obtain ⟨a, ea, fr⟩ := own_slot f hq
    obtain ⟨e1, h2⟩ := star_cons (env := G.X.env) hp
    refine wpAny_Expr_any (wpAny_Call_method_late (base_eq (by rfl)) (by rw [(star_plain (pos := cpos) (env := G.X.env) hp).2]; simp [keywordEach, backToKw]) hl rfl (name_own hN hv hd hcd I ea tk fun s2 I2 t2 => ?_)) I.quiet hs
    obtain ⟨vs0, hh0, _⟩ := fr.own
    obtain ⟨t1', t2'⟩ := tyV_is (x := .ref a) (v := .ref a) I2 (show RelV (.ref a) (.ref a) from rfl) (show tyV G.X.K "list" (.ref a) E.H from .inl ⟨rfl, vs0, .inl (.inl hh0)⟩)
    refine ⟨"list", "list.append", PySem.F.plainAttrs_list, PySem.F.slot_list_append, PySem.F.type_list_append, t1', t2', ?_⟩
    rw [e1]
    refine Calls.callWith_builtin (by show (false || (backTo cpos (starEach [] G.X.env)).any (·.1)) = false; simp [starEach, backTo]) (Calls.evalArgs_plain ?_)
    show wpAny _ _ (spliced ((false, eval e G.X.env) :: backTo cpos (starEach [] G.X.env))) _ _ s2
    refine Calls.spliced_cons (he.thn' I2 w f t2 (fun _ _ z => Cfg.erS_er f z) hO fun y st1 E1 vy uy s1 x1 w1 r1 I1 ruy t1 h1 => Calls.spliced_nil ?_)
    obtain ⟨d, hk, h3⟩ := (Out.bind.mp h1).ofO
    split at h3
    · rename_i hz
      obtain ⟨ed, E3, eH, x3, l3, w3, r3⟩ := keep_ok x1 w1 r1 hk
      subst ed
      rw [← eH] at I1
      have fr3 := fr.ext x3
      have f3 := f.mono x3
      obtain ⟨vs, hh, rA⟩ := fr3.own
      have l4 := own_last (o' := .lst (vs ++ [vy])) fr3
      have rA' : RepA G.X.K (E3.put a (.lst (vs ++ [vy]))) (xs ++ [y.1]) (vs ++ [vy]) := (rA.last l4).append (by rw [RepA]; exact ⟨vy, [], rfl, r3.last l4, by rw [RepA]⟩)
      obtain ⟨w4, f4, _⟩ := wr_own (d' := .lst (xs ++ [y.1])) (o' := .lst (vs ++ [vy])) w3 f3 hq ea fr3 ⟨_, upd_same, rA'⟩
      refine G.wtk t1 (L2.thn (mt_append pins s1 σ E3.H (.ref a) [vy] (.ref a) [uy] (fun v' H' => H' = upd E3.H a (.lst (vs ++ [vy]))) I1 rfl (.cons ruy .nil) ⟨a, vs, vy, rfl, rfl, hh, by rw [← rA.length, ← line_eq]; exact hz, rfl⟩) fun _ s4 ⟨v4, H4, I4, _, eH4⟩ t4 => ?_)
      subst eH4
      exact h3 (E3.put a (.lst (vs ++ [vy]))) σ .next s4 (x3.last.trans l4) w4 f4 I4 trivial t4
    · exact h3.elim
  · exact hO.elim

/-! ### += -/
theorem load_name {v : V} {Q : Value → Shared → Prop} (hN : G.X.N[i]? = some x) (hloc : Loc G.X.env.scope x) (I : Inv G.X pins σ E.H s) (ea : σ[i]? = some (some v)) (k : ∀ u, RelV v u → Q u s) : wpAny G.M G.X.A (loadName G.X.env x) Q G.X.xe s := by
  obtain ⟨m, hn, hl⟩ := I.loc
  have vis : Vis G.X.env.scope x := by rcases hloc with k | k; exact .inl k; exact .inr (.inl k)
  obtain ⟨u, r, l⟩ := hl i x v hN ea vis
  rcases l with ⟨hk, hm⟩ | ⟨hk, c, hc, hcell⟩
  · exact wpAny_loadName_local I.ok.kind hk hn hm (k u r)
  · rcases hk with hk | hk
    · exact wpAny_loadName_cell I.ok.kind hk hc hcell (k u r)
    · rcases hloc with k | k
      · have : G.X.env.scope.names.lookup x = some .free := hk
        rw [k] at this; cases this
      · have : G.X.env.scope.names.lookup x = some .free := hk
        rw [k] at this; cases this
theorem ss_aug {o : Op} {pos' : Pos} (hnd : G.X.N.Nodup) (hn : NameOk G.X i x) (he : SE G e me) :
    SS G (.AugAssign (.Name x pos') (opO o) e pos) (fun ρ s => match ρ[i]? with
      | some (some (.lst xs, true)) => (me ρ s).bind fun y s => match o, view s y.1 with
        | .add, .lst ys => if y.2 ≠ .bo ∧ xs.length + ys.length ≤ line then .ok (.nx, ρ.set i (some (.lst (xs ++ ys), true))) s else .no
        | _, _ => .no
      | some (some (d, false)) => (me ρ s).bind fun y s => match o, d, y.1 with
        | .add, .int i', .int j => .ok (.nx, ρ.set i (some (.int (i' + j), false))) s
        | .sub, .int i', .int j => .ok (.nx, ρ.set i (some (.int (i' - j), false))) s
        | .add, .str a, .str b => if a.length + b.length ≤ line then .ok (.nx, ρ.set i (some (.str (a ++ b), false))) s else .no
        | _, _, _ => .no
      | _ => .no) := by
  refine ⟨fun pins s σ E ρ st Q I w f tk hO => wpAny_AugAssign_Name ?_⟩
  split at hO
  · rename_i xs hq
    obtain ⟨a, ea, fr⟩ := own_slot f hq
    refine load_name hn.at_ hn.loc I ea fun u ru => ?_
    cases ru
    refine he.sthn I w f tk hO fun y st1 E1 vy uy s1 x1 w1 r1 I1 ruy t1 h1 => ?_
    split at h1
    · rename_i ys e
      split at h1
      · rename_i hz
        have fr1 := fr.ext x1
        have f1 := f.mono x1
        have c := view_x w1 r1.x
        rw [e] at c
        obtain ⟨b, zs, eb, hb, rB⟩ := c_lst c
        subst eb
        cases ruy
        obtain ⟨vs, hh, rA⟩ := fr1.own
        have l4 := own_last (o' := .lst (vs ++ zs)) fr1
        have rA' : RepA G.X.K (E1.put a (.lst (vs ++ zs))) (xs ++ ys) (vs ++ zs) := (rA.last l4).append (rB.last l4)
        obtain ⟨w4, f4, _⟩ := wr_own (d' := .lst (xs ++ ys)) (o' := .lst (vs ++ zs)) w1 f1 hq ea fr1 ⟨_, upd_same, rA'⟩
        refine G.wtk t1 (L2.thn (iop_ext pins s1 σ E1.H (.ref a) (.ref b) (.ref a) (.ref b) (fun v' H' => v' = .ref a ∧ H' = upd E1.H a (.lst (vs ++ zs))) I1 rfl rfl ⟨a, b, vs, zs, rfl, rfl, hh, hb, by rw [← rA.length, ← rB.length, ← line_eq]; exact hz.2, rfl, rfl⟩) fun u4 s4 ⟨v4, H4, I4, ru4, ev4, eH4⟩ t4 => ?_)
        subst ev4 eH4
        refine G.wtk t4 (store_ok I4 hnd hn.at_ hn.loc ru4 (fun s5 I5 t5 => ?_) hn.own)
        have es : σ.set i (some (.ref a)) = σ := by
          refine List.ext_getElem? fun j => ?_
          by_cases hj : i = j
          · subst hj
            rw [set_get (List.getElem?_eq_some_iff.mp ea).1, ea]
          · rw [List.getElem?_set_ne hj]
        rw [es] at I5
        exact h1 (E1.put a (.lst (vs ++ zs))) σ .next s5 (x1.last.trans l4) w4 f4 I5 trivial t5
      · exact h1.elim
    · exact h1.elim
  · rename_i d hq
    obtain ⟨v, ea, q, q'⟩ := f.slot i d false hq
    have rd := q rfl
    clear q q'
    refine load_name hn.at_ hn.loc I ea fun u ru => ?_
    refine he.sthn I w f tk hO fun y st1 E1 vy uy s1 x1 w1 r1 I1 ruy t1 h1 => ?_
    have rd1 := rd.last x1.last
    have f1 := f.mono x1
    have fin : ∀ {d' : D} {vz : V} {op : Operator} {r : R2}, OpR G.X (inplaceOp op) r → r v vy E1.H (same vz E1.H) → Rep G.X.K E1 d' vz → G.okS pins E Q (.nx, ρ.set i (some (d', false))) st1 →
        wpAny G.M G.X.A (inplaceOp op u uy) (fun r' s3 => wpAny G.M G.X.A (storeName G.X.env x r') (fun _ => Q .next) G.X.xe s3) G.X.xe s1 := fun {d' vz op r} ho hr rz hP => by
      refine G.wtk t1 (L2.thn (ho pins s1 σ E1.H v vy u uy _ I1 ru ruy hr) fun u4 s4 ⟨v4, H4, I4, ru4, ev4, eH4⟩ t4 => ?_)
      subst ev4 eH4
      exact G.wtk t4 (store_ok I4 hnd hn.at_ hn.loc ru4 (fun s5 I5 t5 => hP E1 _ .next s5 x1.last w1 (f1.set rz) I5 trivial t5) hn.own)
    split at h1
    · rename_i i' j e
      have e1 := c_int rd1.c
      have e2 := r1.c
      rw [e] at e2
      have e2 := c_int e2
      exact fin iop_add ⟨i', j, e1, e2, rfl, rfl⟩ (rep_int.mpr rfl) h1
    · rename_i i' j e
      have e1 := c_int rd1.c
      have e2 := r1.c
      rw [e] at e2
      have e2 := c_int e2
      exact fin iop_sub ⟨i', j, e1, e2, rfl, rfl⟩ (rep_int.mpr rfl) h1
    · rename_i a b e
      split at h1
      · rename_i hz
        obtain ⟨e1, z1⟩ := c_str rd1.c
        have e2 := r1.c
        rw [e] at e2
        obtain ⟨e2, z2⟩ := c_str e2
        exact fin (vz := .str (S_ (a ++ b))) iop_add_str ⟨_, _, e1, e2, by rw [str_len, str_len, ← line_eq]; exact hz, by rw [str_app], rfl⟩ (rep_S (by rw [List.length_append]; exact hz)) h1
      · exact h1.elim
    · exact h1.elim
  · exact hO.elim

/-! ### update -/
theorem length_dputs : ∀ (more kvs : List (D × D)), (dputs kvs more).length ≤ kvs.length + more.length
  | [], kvs => by simp [dputs]
  | (k, v) :: r, kvs => by
    rw [dputs]
    have := length_dputs r (dput kvs k v)
    have h2 : (dput kvs k v).length ≤ kvs.length + 1 := by
      unfold dput
      split <;> simp
    rw [List.length_cons]
    omega
theorem ss_upd (hN : G.X.N[i]? = some x) (hv : Vis G.X.env.scope x) (hd : (x == ("__debug__" : Str)) = false) (hcd : (x == ("__classdict__" : Str)) = false) (hp : plainArgs [e] = true) (hl : (apos.endLine == cpos.line) = true)
    (hs : swapsWith (.Call (.Attribute (.Name x p) "update" apos) [e] [] cpos) none pos.line G.X.env = pure false) (he : SE G e me) :
    SS G (.Expr (.Call (.Attribute (.Name x p) "update" apos) [e] [] cpos) pos) (fun ρ s => match ρ[i]? with
      | some (some (.dct kvs, true)) => (me ρ s).bind fun y s => match y.1 with
        | .dct more => if y.2 = .fr ∧ kvs.length + more.length ≤ line then .ok (.nx, ρ.set i (some (.dct (dputs kvs more), true))) s else .no
        | _ => .no
      | _ => .no) := by
  refine ⟨fun pins s σ E ρ st Q I w f tk hO => ?_⟩
  split at hO
  · rename_i kvs hq
    obtain ⟨a, ea, fr⟩ := own_slot f hq
    obtain ⟨e1, h2⟩ := star_cons (env := G.X.env) hp
    refine wpAny_Expr_any (wpAny_Call_method_late (base_eq (by rfl)) (by rw [(star_plain (pos := cpos) (env := G.X.env) hp).2]; simp [keywordEach, backToKw]) hl rfl (name_own hN hv hd hcd I ea tk fun s2 I2 t2 => ?_)) I.quiet hs
    obtain ⟨ks0, hh0, _⟩ := fr.own
    obtain ⟨t1', t2'⟩ := tyV_is (x := .ref a) (v := .ref a) I2 (show RelV (.ref a) (.ref a) from rfl) (show tyV G.X.K "dict" (.ref a) E.H from .inr (.inr (.inl ⟨rfl, .inl ⟨ks0, hh0⟩⟩)))
    refine ⟨"dict", "dict.update", PySem.F.plainAttrs_dict, PySem.F.slot_dict_update, PySem.F.type_dict_update, t1', t2', ?_⟩
    rw [e1]
    refine Calls.callWith_builtin (by show (false || (backTo cpos (starEach [] G.X.env)).any (·.1)) = false; simp [starEach, backTo]) (Calls.evalArgs_plain ?_)
    show wpAny _ _ (spliced ((false, eval e G.X.env) :: backTo cpos (starEach [] G.X.env))) _ _ s2
    refine Calls.spliced_cons (he.thn' I2 w f t2 (fun _ _ z => Cfg.erS_er f z) hO fun y st1 E1 vy uy s1 x1 w1 r1 I1 ruy t1 h1 => Calls.spliced_nil ?_)
    split at h1
    · rename_i more ey
      split at h1
      · rename_i hz
        rw [ey, hz.1] at r1
        have r1 : ∃ b, vy = .ref b ∧ Fresh G.X.K E E1 (.dct more) b := r1
        obtain ⟨b, eb, frb⟩ := r1
        subst eb
        cases ruy
        have fr1 := fr.ext x1
        have f1 := f.mono x1
        obtain ⟨ks, hh, rK⟩ := fr1.own
        obtain ⟨ms, hb, rM⟩ := frb.own
        have hne : a ≠ b := fun q => by
          have := frb.new
          rw [← q, hh0] at this
          cases this
        have l4 := own_last (o' := .dK (mergeK ks ms)) fr1
        have rK' : RepK G.X.K (E1.put a (.dK (mergeK ks ms))) (dputs kvs more) (mergeK ks ms) := RepK.merge (rM.last l4) (rK.last l4)
        obtain ⟨w4, f4, _⟩ := wr_own (d' := .dct (dputs kvs more)) (o' := .dK (mergeK ks ms)) w1 f1 hq ea fr1 ⟨_, upd_same, rK'⟩
        obtain ⟨z1, hs1, vs1, rel1, dd1⟩ := dk_of I1.hok hh
        obtain ⟨z2, hs2, vs2, rel2, dd2⟩ := dk_of I1.hok hb
        have hsz : vs1.length + vs2.length ≤ sizeLine := by
          rw [← rel1.length, ← rel2.length, ← rK.length, ← rM.length, ← line_eq]
          exact hz.2
        refine G.wtk t1 (call_meetsIn PySem.F.slot_dict_update dd1.typeIs PySem.F.entry_dict_update (PySem.F.args_dict_update_2 _ _) (meets_dict_update (mixKind G.X.prog G.X.w) a b hne hs2)
          ⟨vs1, vs2, dd1, dd2, hsz, fun h' d1 d2 sb t4 => ?_⟩)
        have hlen : (mergeK ks ms).length ≤ sizeLine := by
          refine Nat.le_trans (length_mergeK ms ks) ?_
          rw [rel1.length, rel2.length]
          exact hsz
        have he' : ∃ q, h'.get? a = some q := let ⟨q, _, _, hq, _⟩ := d1; ⟨q, hq⟩
        have I4 := d_write (t' := s1.toks) I1 (by rw [hh]; exact True.intro) sb he' (dk_new hlen hs1 (rel2.merge rel1) d1)
        exact h1 (E1.put a (.dK (mergeK ks ms))) σ .next _ (x1.last.trans l4) w4 f4 I4 trivial t4
      · exact h1.elim
    · exact h1.elim
  · exact hO.elim

/-! ### raise -/
theorem ss_raise {c : Nat} (hc : G.X.calm = true) (tk : Takes G.X (fun cls d _ H => G.W cls d H)) (hp : PMk G.X e (fun _ H Q => Q (.ref (G.J.ca c)) none H)) : SS G (.Raise (some e) none pos) (fun _ s => .err c s) := by
  refine ⟨fun pins s σ E ρ st Q I w f tk' hO => ?_⟩
  refine wpAny_mono ((ps_raise (pos := pos) hc tk hp).run pins s σ E.H ⟨fun _ _ => False, fun _ _ => False, fun _ _ => False, fun _ _ => False⟩ I (hO E f.ext w)) (fun fl s' h => ?_) fun _ _ z => z
  cases fl with
  | next => obtain ⟨_, _, _, z⟩ := h; exact z.elim
  | brk => obtain ⟨_, _, _, z⟩ := h; exact z.elim
  | cont => obtain ⟨_, _, _, z⟩ := h; exact z.elim
  | ret u => obtain ⟨_, _, _, _, _, z⟩ := h; exact z.elim
end
end RS
end S16
section S17
set_option autoImplicit false
set_option linter.all false
set_option maxRecDepth 100000
set_option Elab.async false
/-! B8: what is walked; for; while. -/
namespace RS
open PySem PySem.Spec PyProof.Rows L2

mutual
theorem beqD_eq : ∀ {a b : D}, beqD a b = true → a = b
  | .non, b, h => by cases b <;> simp [beqD] at h <;> rfl
  | .bl x, b, h => by cases b <;> simp [beqD] at h; rw [h]
  | .int x, b, h => by cases b <;> simp [beqD] at h; rw [h]
  | .str x, b, h => by cases b <;> simp [beqD] at h; rw [h]
  | .loc x, b, h => by cases b <;> simp [beqD] at h; rw [h]
  | .lam x, b, h => by cases b <;> simp [beqD] at h; rw [h]
  | .scr x, b, h => by cases b <;> simp [beqD] at h
  | .tup xs, b, h => by cases b <;> simp [beqD] at h; rw [beqA_eq h]
  | .lst xs, b, h => by cases b <;> simp [beqD] at h; rw [beqA_eq h]
  | .dct xs, b, h => by cases b <;> simp [beqD] at h; rw [beqK_eq h]
theorem beqA_eq : ∀ {a b : List D}, beqA a b = true → a = b
  | [], b, h => by cases b <;> simp [beqA] at h; rfl
  | x :: xs, b, h => by
    cases b with
    | nil => simp [beqA] at h
    | cons y ys =>
      rw [beqA, Bool.and_eq_true] at h
      rw [beqD_eq h.1, beqA_eq h.2]
theorem beqK_eq : ∀ {a b : List (D × D)}, beqK a b = true → a = b
  | [], b, h => by cases b <;> simp [beqK] at h; rfl
  | (k, x) :: xs, b, h => by
    cases b with
    | nil => simp [beqK] at h
    | cons y ys =>
      obtain ⟨j, y⟩ := y
      rw [beqK, Bool.and_eq_true, Bool.and_eq_true] at h
      rw [beqD_eq h.1.1, beqD_eq h.1.2, beqK_eq h.2]
end
theorem beqC_eq {a b : Cell} (h : beqC a b = true) : a = b := by
  cases a <;> cases b <;> simp [beqC] at h
  · rw [beqA_eq h]
  · rw [beqK_eq h]
theorem still1_view {s₀ s : Sto} {d : D} (h : still1 s₀ s d = true) : view s d = view s₀ d := by
  cases d <;> first | rfl | skip
  rename_i n
  simp only [still1] at h
  split at h
  · rename_i a b e1 e2
    have := beqC_eq h
    subst this
    simp only [view, e1, e2]
  · cases h

/-! ### the sources -/
def SrcC (K : PySem.W.Frag) (E : WS) (st : Sto) : List (D × Kd) → List V → Prop
  | [], vs => vs = []
  | x :: xs, vs => ∃ v r, vs = v :: r ∧ RepC K E (view st x.1) v ∧ SrcC K E st xs r
def SrcR (K : PySem.W.Frag) (E E' : WS) : List (D × Kd) → List V → Prop
  | [], vs => vs = []
  | x :: xs, vs => ∃ v r, vs = v :: r ∧ RepR K E E' x.1 x.2 v ∧ SrcR K E E' xs r
def SrcX (K : PySem.W.Frag) (E : WS) : List (D × Kd) → List V → Prop
  | [], vs => vs = []
  | x :: xs, vs => ∃ v r, vs = v :: r ∧ RepX K E x.1 v ∧ SrcX K E xs r
def SrcF (K : PySem.W.Frag) (E : WS) : List (D × Kd) → List V → Prop
  | [], vs => vs = []
  | x :: xs, vs => ∃ v r, vs = v :: r ∧ Rep K E x.1 v ∧ SrcF K E xs r
section
variable {K : PySem.W.Frag} {J : Inf} {E E' E₁ : WS} {st : Sto}
theorem SrcF.last (l : Last E E') : ∀ {xs : List (D × Kd)} {vs : List V}, SrcF K E xs vs → SrcF K E' xs vs
  | [], _, h => h
  | x :: xs, _, ⟨v, r, e, h, t⟩ => ⟨v, r, e, h.last l, SrcF.last l t⟩
theorem SrcX.ext (x : Ext E E') : ∀ {xs : List (D × Kd)} {vs : List V}, SrcX K E xs vs → SrcX K E' xs vs
  | [], _, h => h
  | _ :: xs, _, ⟨v, r, e, h, t⟩ => ⟨v, r, e, h.ext x, SrcX.ext x t⟩
theorem SrcF.x : ∀ {xs : List (D × Kd)} {vs : List V}, SrcF K E xs vs → SrcX K E xs vs
  | [], _, h => h
  | x :: xs, _, ⟨v, r, e, h, t⟩ => ⟨v, r, e, .inr h, SrcF.x t⟩
theorem SrcR.x {E₀ : WS} : ∀ {xs : List (D × Kd)} {vs : List V}, SrcR K E₀ E xs vs → SrcX K E xs vs
  | [], _, h => h
  | x :: xs, _, ⟨v, r, e, h, t⟩ => ⟨v, r, e, RepR.x h, SrcR.x t⟩
theorem SrcX.c (w : WSOk K J E st) : ∀ {xs : List (D × Kd)} {vs : List V}, SrcX K E xs vs → SrcC K E st xs vs
  | [], _, h => h
  | x :: xs, _, ⟨v, r, e, h, t⟩ => ⟨v, r, e, view_x w h, SrcX.c w t⟩
/-- frozen, or to be -/
def SrcW (K : PySem.W.Frag) (E E' : WS) : List (D × Kd) → List V → Prop
  | [], vs => vs = []
  | x :: xs, vs => ∃ v r, vs = v :: r ∧ (Rep K E' x.1 v ∨ ∃ a, v = .ref a ∧ Own K E' x.1 a ∧ a ∉ E'.μ ∧ E.H a = none) ∧ SrcW K E E' xs r
theorem SrcR.w {E₁ : WS} : ∀ {xs : List (D × Kd)} {vs : List V}, SrcR K E E₁ xs vs → (xs.all fun x => decide (x.2 ≠ .bo)) = true → SrcW K E E₁ xs vs
  | [], vs, h, _ => h
  | y :: ys, vs, ⟨v, r, e, h, t⟩, hb => by
    rw [List.all_cons, Bool.and_eq_true, decide_eq_true_eq] at hb
    refine ⟨v, r, e, ?_, SrcR.w t hb.2⟩
    cases hy : y.2 with
    | bo => exact absurd hy hb.1
    | fz => rw [hy] at h; exact .inl h
    | fr =>
      rw [hy] at h
      have h : if isMut y.1 = true then ∃ a, v = .ref a ∧ Fresh K E E₁ y.1 a else Rep K E₁ y.1 v := h
      split at h
      · obtain ⟨a, ea, fr⟩ := h
        exact .inr ⟨a, ea, fr.own, fr.nmu, fr.new⟩
      · exact .inl h
theorem SrcW.step {a : Addr} {E₁ : WS} : ∀ {xs : List (D × Kd)} {vs : List V}, SrcW K E E₁ xs vs → SrcW K E (E₁.frz a) xs vs
  | [], vs, h => h
  | y :: ys, vs, ⟨v, r, e, h, t⟩ => ⟨v, r, e, h.imp (fun h => h.last last_frz) fun ⟨b, eb, ho, hm, hn⟩ => ⟨b, eb, ho.lastNe last_frz rfl, hm, hn⟩, t.step⟩
/-- what is walked by a statement is frozen -/
theorem SrcW.frz : ∀ {xs : List (D × Kd)} {vs : List V} {E₁ : WS}, Ext E E₁ → WSOk K J E₁ st → SrcW K E E₁ xs vs → ∃ E', E'.H = E₁.H ∧ Ext E E' ∧ Last E₁ E' ∧ WSOk K J E' st ∧ SrcF K E' xs vs
  | [], vs, E₁, x, w, h => ⟨E₁, rfl, x, Last.refl _, w, h⟩
  | y :: ys, vs, E₁, x, w, ⟨v, r, e, h, t⟩ => by
    rcases h with h | ⟨a, ea, ho, hm, hn⟩
    · obtain ⟨E3, eH3, x3, l3, w3, t3⟩ := SrcW.frz x w t
      exact ⟨E3, eH3, x3, l3, w3, v, r, e, h.last l3, t3⟩
    · have w2 := w.frz hm ho.nt
      have x2 := ext_frz x hn
      obtain ⟨E3, eH3, x3, l3, w3, t3⟩ := SrcW.frz x2 w2 t.step
      subst ea
      exact ⟨E3, eH3, x3, last_frz.trans l3, w3, _, r, e, ho.rep.last l3, t3⟩
end

/-! ### iterators by values -/
section
variable {X : Cx} {pins : List (Addr × Obj)} {s : Shared} {σ : L2.St} {H : Hp} {tg : Expr} {Ex : Value → Shared → Prop} {R : It → Hp → Prop}
theorem it_list {a : Addr} {vs : List V} (I : Inv X pins σ H s) (hq : SqL X.K H a vs) (q : R (Itl X.K a) H) : wpAny (model X.prog X.w) X.A (pyIter (.ref a)) (PIE X pins σ tg R) Ex s := by
  obtain ⟨its, rv, p, hz⟩ := I.list hq
  refine wpAny_pyIter_list p.isList ?_
  refine ⟨s.heap.objs.size, [s.heap.objs.size], _, _, H, rfl, I.kept (t' := s.toks) fun b o e => Heap.get?_push_of_some _ e, turn_list a _, ⟨_, Heap.get?_push_size _ rfl, rfl, rfl⟩, fun b hb => ?_, q⟩
  have e : b = s.heap.objs.size := by simpa using hb
  subst e
  exact I.fpOk (Nat.le_refl _) (I.hok.fresh (Nat.le_refl _))
theorem it_tup {a : Addr} {vs : List V} (I : Inv X pins σ H s) (hq : SqT X.K H a vs) (q : R (Itt X.K a) H) : wpAny (model X.prog X.w) X.A (pyIter (.ref a)) (PIE X pins σ tg R) Ex s := by
  obtain ⟨its, rv, p, hz⟩ := I.tuple hq
  refine wpAny_pyIter_tuple (show s.heap.IsTuple a its.toArray from p) ?_
  refine ⟨s.heap.objs.size, [s.heap.objs.size], _, _, H, rfl, I.kept (t' := s.toks) fun b o e => Heap.get?_push_of_some _ e, turn_tuple a _, ⟨_, Heap.get?_push_size _ rfl, rfl, rfl⟩, fun b hb => ?_, q⟩
  have e : b = s.heap.objs.size := by simpa using hb
  subst e
  exact I.fpOk (Nat.le_refl _) (I.hok.fresh (Nat.le_refl _))
theorem it_str {x : Str} {t : Tok} (I : Inv X pins σ H s) (q : R (Its x) H) : wpAny (model X.prog X.w) X.A (pyIter (.str x t)) (PIE X pins σ tg R) Ex s := by
  cases ha : x.cps.all (· < 128)
  · exact wpAny_pyIter_wide ha (pi_one (tk := s.toks) I _ (turn_str _ x t "str_iterator" (.inr rfl)) ⟨_, Heap.get?_push_size _ rfl, rfl, rfl⟩ q)
  · exact wpAny_pyIter_ascii ha (pi_one (tk := s.toks) I _ (turn_str _ x t "str_ascii_iterator" (.inl rfl)) ⟨_, Heap.get?_push_size _ rfl, rfl, rfl⟩ q)
end

section
variable {G : Cfg} {pins : List (Addr × Obj)} {s : Shared} {σ : L2.St} {E : WS} {st : Sto} {ρ : Env}
/-- J walks the data xs as long as the sources are what they are -/
def Wk (G : Cfg) (J : It) (xs : List D) (srcs : List (D × Kd)) (vs : List V) (st₀ : Sto) : Prop :=
  ∀ E st, G.WO E st → SrcC G.X.K E st srcs vs → (∀ x ∈ srcs, view st x.1 = view st₀ x.1) →
    (∀ (i : Nat) x, xs[i]? = some x → J.go i E.H ∧ ∀ v H', J.yld i E.H v H' → ∃ E', E'.H = H' ∧ Ext E E' ∧ G.WO E' st ∧ Rep G.X.K E' x v) ∧ J.stop xs.length E.H
structure SI (G : Cfg) (tg iter : Expr) (m : Env → Sto → R (List D × List (D × Kd))) : Prop where
  run : ∀ (pins : List (Addr × Obj)) (s : Shared) (σ : L2.St) (E : WS) (ρ : Env) (st : Sto) (Q : Value → Shared → Prop), Inv G.X pins σ E.H s → G.WO E st → G.Fr E σ ρ → G.Tk s →
    Out (m ρ st) (fun xs st' => ∀ E' vs itv s2, Ext E E' → G.WO E' st' → SrcR G.X.K E E' xs.2 vs → G.Tk s2 → PIE G.X pins σ tg (fun J H' => H' = E'.H ∧ Wk G J xs.1 xs.2 vs st') itv s2 → Q itv s2) (G.er E σ) →
    wpAny G.M G.X.A (eval iter G.X.env) (fun v s1 => wpAny G.M G.X.A (pyIter v) Q G.X.xe s1) G.X.xe s
theorem srcC1 {K : PySem.W.Frag} {x : D × Kd} {v : V} (h : SrcC K E st [x] [v]) : RepC K E (view st x.1) v := by
  obtain ⟨v', r, e, h, _⟩ := h
  cases e
  exact h
theorem it_after {tg : Expr} {P : List D × List (D × Kd) → Sto → Prop} {Pe : Nat → Sto → Prop} {x : D × Kd} {st1 : Sto} {E1 : WS} {v : V} {u : Value} {s1 : Shared} {Q : Value → Shared → Prop}
    (x1 : Ext E E1) (w1 : G.WO E1 st1) (r1 : RepR G.X.K E E1 x.1 x.2 v) (I1 : Inv G.X pins σ E1.H s1) (ru : RelV v u) (t1 : G.Tk s1)
    (h1 : Out ((ofO (items st1 x.1) st1).bind fun xs s => .ok (xs, [x]) s) P Pe)
    (hPQ : ∀ xs st', P xs st' → ∀ E' vs itv s2, Ext E E' → G.WO E' st' → SrcR G.X.K E E' xs.2 vs → G.Tk s2 → PIE G.X pins σ tg (fun J H' => H' = E'.H ∧ Wk G J xs.1 xs.2 vs st') itv s2 → Q itv s2) :
    wpAny G.M G.X.A (pyIter u) Q G.X.xe s1 := by
  obtain ⟨xs, hx, hP0⟩ := (Out.bind.mp h1).ofO
  have hP := hPQ _ _ hP0
  have c := view_x w1 r1.x
  have fin : ∀ {tT : Prop} (_ : tT), wpAny G.M G.X.A (pyIter u) (PIE G.X pins σ tg (fun J H' => H' = E1.H ∧ Wk G J xs [x] [v] st1)) G.X.xe s1 → wpAny G.M G.X.A (pyIter u) Q G.X.xe s1 := fun {_} _ h =>
    G.wtk t1 (L2.thn h fun itv s2 h2 t2 => hP E1 [v] itv s2 x1 w1 ⟨v, [], rfl, r1, rfl⟩ t2 h2)
  unfold items at hx
  split at hx
  · rename_i ds e
    cases hx
    rw [e] at c
    obtain ⟨a, vs, rfl, hq, rA⟩ := c_tup c
    cases ru
    refine fin True.intro (it_tup I1 hq ⟨rfl, fun E2 st2 w2 hs hv => ?_⟩)
    have c2 := srcC1 hs
    rw [hv x (List.mem_singleton.mpr rfl), e] at c2
    obtain ⟨a', vs', e', hq', rA'⟩ := c_tup c2
    cases e'
    refine ⟨fun i d hd => ?_, vs', hq', by rw [rA'.length]; exact Nat.le_refl _⟩
    obtain ⟨y, hy, ry⟩ := rA'.at hd
    exact ⟨⟨vs', y, hq', hy⟩, fun z H' ⟨eH, hz⟩ => ⟨E2, eH.symm, Ext.refl E2, w2, by have := hz vs' hq'; rw [hy] at this; cases this; exact ry⟩⟩
  · rename_i ds e
    cases hx
    rw [e] at c
    obtain ⟨a, vs, rfl, hq, rA⟩ := c_sqL c
    cases ru
    refine fin True.intro (it_list I1 hq ⟨rfl, fun E2 st2 w2 hs hv => ?_⟩)
    have c2 := srcC1 hs
    rw [hv x (List.mem_singleton.mpr rfl), e] at c2
    obtain ⟨a', vs', e', hq', rA'⟩ := c_sqL c2
    cases e'
    refine ⟨fun i d hd => ?_, vs', hq', by rw [rA'.length]; exact Nat.le_refl _⟩
    obtain ⟨y, hy, ry⟩ := rA'.at hd
    exact ⟨⟨vs', y, hq', hy⟩, fun z H' ⟨eH, hz⟩ => ⟨E2, eH.symm, Ext.refl E2, w2, by have := hz vs' hq'; rw [hy] at this; cases this; exact ry⟩⟩
  · rename_i z e
    cases hx
    rw [e] at c
    obtain ⟨rfl, hl⟩ := c_str c
    obtain ⟨t, rfl⟩ := ru
    refine fin True.intro (it_str I1 ⟨rfl, fun E2 st2 w2 hs hv => ?_⟩)
    have esz : (S_ z).cps.size = z.length := by simp
    refine ⟨fun i d hd => ?_, by show (S_ z).cps.size ≤ _; rw [esz, List.length_map]; exact Nat.le_refl _⟩
    rw [List.getElem?_map] at hd
    obtain ⟨c, hc, e3⟩ := Option.map_eq_some_iff.mp hd
    subst e3
    have hi : i < z.length := (List.getElem?_eq_some_iff.mp hc).1
    refine ⟨by show i < (S_ z).cps.size; rw [esz]; exact hi, fun y H' ⟨eH, c', hc', ey⟩ => ⟨E2, eH.symm, Ext.refl E2, w2, ?_⟩⟩
    have e4 : z[i]? = some c' := by simpa using hc'
    rw [hc] at e4
    cases e4
    subst ey
    exact rep_str.mpr ⟨rfl, by unfold line; simp⟩
  · cases hx

/-! ### range -/
theorem si_it {tg e : Expr} {m : Env → Sto → R (D × Kd)} (he : SE G e m) : SI G tg e (fun ρ s => (m ρ s).bind fun x s => (ofO (items s x.1) s).bind fun xs s => .ok (xs, [x]) s) :=
  ⟨fun pins s σ E ρ st Q I w f tk hO => he.thn I w f tk hO fun x st1 E1 v u s1 x1 w1 r1 I1 ru t1 h1 => it_after x1 w1 r1 I1 ru t1 h1 fun _ _ h => h⟩
theorem upto_get : ∀ (n : Nat) (lo : Int) (i : Nat) (d : D), (upto lo n)[i]? = some d → i < n ∧ d = .int (lo + i)
  | 0, _, i, d, h => by simp [upto] at h
  | n + 1, lo, 0, d, h => by
    simp only [upto, List.getElem?_cons_zero] at h
    cases h
    exact ⟨Nat.zero_lt_succ _, by simp⟩
  | n + 1, lo, i + 1, d, h => by
    simp only [upto, List.getElem?_cons_succ] at h
    obtain ⟨h1, h2⟩ := upto_get n (lo + 1) i d h
    refine ⟨by omega, ?_⟩
    rw [h2]
    congr 1
    omega
theorem upto_len : ∀ (n : Nat) (lo : Int), (upto lo n).length = n
  | 0, _ => rfl
  | n + 1, lo => by simp [upto, upto_len n]
theorem wk_rng {lo : Int} {n : Nat} : Wk G (Itr lo n) (upto lo n) [] [] st := fun E st w _ _ =>
  ⟨fun i d hd => by
    obtain ⟨h1, h2⟩ := upto_get n lo i d hd
    subst h2
    exact ⟨h1, fun v H' ⟨eH, ev⟩ => ⟨E, eH.symm, Ext.refl E, w, by subst ev; exact rep_int.mpr rfl⟩⟩, by rw [upto_len]; exact Nat.le_refl n⟩
theorem si_rng {tg : Expr} {es : List Expr} {p pos : Pos} {m : Env → Sto → R (List D)} (hg : Gl G.X "range") (hm : G.X.mg "range" = none) (hp : plainArgs es = true) (h0 : es ≠ []) (h : SO G es m) :
    SI G tg (.Call (.Name "range" p) es [] pos) (fun ρ s => (m ρ s).bind fun ds s => match ds with
      | [.int n] => if n.natAbs < 2 ^ 60 then .ok (upto 0 n.toNat, []) s else .no
      | [.int a, .int b] => if a.natAbs < 2 ^ 60 ∧ b.natAbs < 2 ^ 60 then .ok (upto a (b - a).toNat, []) s else .no
      | _ => .no) := by
  refine ⟨fun pins s σ E ρ st Q I w f tk hO => ?_⟩
  cases es with
  | nil => exact absurd rfl h0
  | cons e es =>
    obtain ⟨e1, h2⟩ := star_cons (env := G.X.env) hp
    obtain ⟨e2, _⟩ := star_plain (pos := pos) (env := G.X.env) h2
    have key : wpAny G.M G.X.A (spliced (backTo pos (starEach (e :: es) G.X.env))) (fun us s1 => wpAny G.M G.X.A (call (.type "range") us) (fun v s1 => wpAny G.M G.X.A (pyIter v) Q G.X.xe s1) G.X.xe s1) G.X.xe s := by
      refine h.thn' I w f tk (fun _ _ z => z) hO fun ds st1 E1 vs us s1 x1 w1 r1 I1 rv t1 h1 => ?_
      split at h1
      · rename_i n
        split at h1
        · rename_i hn
          obtain ⟨v, u, e1, e2, r2, ru⟩ := rO1 r1 rv
          have e3 := c_int r2.c
          subst e1 e2 e3
          obtain ⟨t, rfl⟩ := ru
          have hz : (n - 0).toNat = n.toNat := by simp
          refine call_range_1 (G.wtk (s := { s1 with heap := s1.heap.push _, toks := _ }) (fun q => Nat.le_trans (t1 q) (by dsimp only; omega)) (L2.thn (range_it (tg := tg) (R := fun J H' => H' = E1.H ∧ Wk G J (upto 0 n.toNat) [] [] st1) I1 (by omega) (by omega) (by omega) (by omega) ⟨rfl, by rw [hz]; exact wk_rng⟩) fun itv s2 h2 t2 => ?_))
          exact h1 E1 [] itv s2 x1 w1 rfl t2 h2
        · exact h1.elim
      · rename_i a b
        split at h1
        · rename_i hn
          obtain ⟨v, u, v', u', e1, e2, r2, ru, r3, ru3⟩ := rO2 r1 rv
          have e3 := c_int r2.c
          have e4 := c_int r3.c
          subst e1 e2 e3 e4
          obtain ⟨t, rfl⟩ := ru
          obtain ⟨t', rfl⟩ := ru3
          refine call_range_2 (G.wtk (s := { s1 with heap := s1.heap.push _, toks := _ }) (fun q => Nat.le_trans (t1 q) (by dsimp only; omega)) (L2.thn (range_it (tg := tg) (R := fun J H' => H' = E1.H ∧ Wk G J (upto a (b - a).toNat) [] [] st1) I1 (by omega) (by omega) (by omega) (by omega) ⟨rfl, wk_rng⟩) fun itv s2 h2 t2 => ?_))
          exact h1 E1 [] itv s2 x1 w1 rfl t2 h2
        · exact h1.elim
      · exact h1.elim
    exact Call_ (ld_blt I hg hm boot_range (PyProof.Rows.callWith_type1 key e1 e2))

/-! ### for -/
theorem still_view {s₀ s : Sto} {srcs : List (D × Kd)} (h : still s₀ srcs s = true) : ∀ x ∈ srcs, view s x.1 = view s₀ x.1 := fun x hx => still1_view (List.all_eq_true.mp h x hx)
theorem Fr.tk {s' : Shared} (t : G.Tk s) (h : s.toks ≤ s'.toks) : G.Tk s' := fun q => Nat.le_trans (t q) h
theorem for_after {tg iter : Expr} {body : List Stmt} {t : Tg} {mb : Env → Sto → R (Fl × Env)} (hp : PassesOwn (model G.X.prog G.X.w) G.X.A G.X.env G.X.xe) (hc : G.X.calm = true)
    (hg : SG G tg t) (hb : SSs G body mb) {Q : Flow → Shared → Prop} {xs : List D × List (D × Kd)} {st1 : Sto} {E1 : WS} {vs : List V} {itv : Value} {s2 : Shared} (f : G.Fr E σ ρ) (x1 : Ext E E1) (w1 : G.WO E1 st1) (r1 : SrcR G.X.K E E1 xs.2 vs) (t2 : G.Tk s2)
    (h2 : PIE G.X pins σ tg (fun J H' => H' = E1.H ∧ Wk G J xs.1 xs.2 vs st1) itv s2)
    (h1 : Out (if xs.2.all (fun x => decide (x.2 ≠ .bo)) then forTurns (still st1 xs.2) (fun x ρ s => bindTg s ρ x t) mb xs.1 ρ st1 else .no) (G.okS pins E Q) G.erS) :
    codeAny G.M G.X.A (.forLoop tg itv body [] G.X.env) (fun r s' => match r with | .ok f => Q f s' | .error e => cameBackBy G.M G.X.A G.X.env G.X.xe e s') s2 := by
  split at h1
  · rename_i hb1
    obtain ⟨it, fp, tn, J, H2, e, I2, T, st2, f2, eH2, wk⟩ := h2
    subst e eH2
    obtain ⟨E2, eH3, x3, l3, w3, sf⟩ := (r1.w hb1).frz x1 w1
    rw [← eH3] at I2 f2
    have fr2 := f.mono x3
    -- the state at a turn
    let Inn : Nat → Shared → Prop := fun n s' => ∃ (i : Nat) (σ' : L2.St) (E' : WS) (ρ' : Env) (st' : Sto), n = xs.1.length - i ∧ i ≤ xs.1.length ∧ Inv G.X pins σ' E'.H s' ∧ tn i s'.heap ∧ (∀ b ∈ fp, E'.H b = none) ∧ G.WO E' st' ∧ G.Fr E' σ' ρ' ∧
      Last E2 E' ∧ G.Tk s' ∧ Out (forTurns (still st1 xs.2) (fun x ρ s => bindTg s ρ x t) mb (xs.1.drop i) ρ' st') (G.okS pins E Q) G.erS
    refine codeAny_forLoop_any Inn ?_ xs.1.length ⟨0, σ, E2, ρ, st1, by simp, Nat.zero_le _, I2, st2, fun b hb => (f2 b hb).1, w3, fr2, Last.refl _, t2, by simpa using h1⟩
    rintro n s3 ⟨i, σ3, E3, ρ3, st3, en, hle, I3, tn3, fn3, w3', fr3, l3', t3, h3⟩
    have stat : ∀ {H' : Hp}, (∀ b ∈ fp, H' b = none) → ∀ b ∈ fp, FpOk G.X pins H' b := fun hn b hb => ⟨hn b hb, (f2 b hb).2⟩
    have sc3 : SrcC G.X.K E3 st3 xs.2 vs := (sf.last l3').x.c w3'
    by_cases hlt : i < xs.1.length
    · have hx : xs.1[i]? = some xs.1[i] := List.getElem?_eq_getElem hlt
      rw [List.drop_eq_getElem_cons hlt] at h3
      simp only [forTurns] at h3
      split at h3
      · rename_i hch
        obtain ⟨g1, g2⟩ := (wk E3 st3 w3' sc3 (still_view hch)).1 i _ hx
        refine wpAny_passesOwn hp (G.wtk t3 (L2.thn (T.item G.X rfl rfl rfl hc i pins s3 σ3 E3.H G.X.xe I3 (stat fn3) tn3 g1) fun r s4 ⟨u, hr, h4⟩ t4 => ?_))
        subst hr
        refine wpAny_passesOwn hp (G.wtk t4 (L2.thn h4 fun _ s5 ⟨x, H5, I5, r5, y5, st5, fr5⟩ t5 => ?_))
        obtain ⟨E5, eH5, x5, w5, rx⟩ := g2 x H5 y5
        subst eH5
        have I5' := I5.pinned (stat fr5) (T.obj _ _ st5)
        obtain ⟨ρ5, hb5, h5⟩ := (Out.bind.mp h3).ofO
        refine wpAny_passesOwn hp (G.wtk t5 (hg.run _ s5 σ3 E5 ρ3 ρ5 st3 _ x u _ I5' w5 (fr3.mono x5) (.inr rx) (fun _ => rx) r5 (by
          have e : view st3 xs.1[i] = view st3 xs.1[i] := rfl
          exact hb5) fun σ6 s6 I6 f6 _ t6 => ?_))
        have again : ∀ {σ7 : L2.St} {E7 : WS} {ρ7 : Env} {st7 : Sto} {s7 : Shared}, Inv G.X (pins ++ pinsAt fp s5.heap) σ7 E7.H s7 → G.WO E7 st7 → G.Fr E7 σ7 ρ7 → Last E2 E7 → G.Tk s7 →
            Out (forTurns (still st1 xs.2) (fun x ρ s => bindTg s ρ x t) mb (xs.1.drop (i + 1)) ρ7 st7) (G.okS pins E Q) G.erS → ∃ m, m < n ∧ Inn m s7 := fun {σ7 E7 ρ7 st7 s7} I7 w7 f7 l7 t7 h7 => by
          refine ⟨xs.1.length - (i + 1), by omega, i + 1, σ7, E7, ρ7, st7, rfl, hlt, I7.unpinned, T.keep _ _ _ st5 fun b hb o e => (I7.pin (b, o) (List.mem_append_right _ (List.mem_append_right _ (mem_pinsAt hb e)))).1, fun b hb => ?_, w7, f7, l7, t7, h7⟩
          obtain ⟨o, e, d⟩ := T.obj _ _ st5 b hb
          exact (I7.pin (b, o) (List.mem_append_right _ (List.mem_append_right _ (mem_pinsAt hb e)))).2.1
        refine wpAny_passesOwn hp (hb.run _ s6 σ6 E5 ρ5 st3 _ I6 w5 f6 t6 ((Out.bind.mp h5).mono (fun fx st7 h7 E7 σ7 fl s7 l7 w7 f7 I7 q7 t7 => ?_) fun _ _ z => z))
        have l27 : Last E2 E7 := l3'.trans (x5.last.trans l7)
        obtain ⟨xf, ρ7⟩ := fx
        cases xf with
        | nx => cases fl <;> first | exact q7.elim | exact again I7 w7 f7 l27 t7 h7
        | ct => cases fl <;> first | exact q7.elim | exact again I7 w7 f7 l27 t7 h7
        | bk => cases fl <;> first | exact q7.elim | exact h7 E7 σ7 .next s7 (x3.last.trans l27) w7 f7 I7.unpinned trivial t7
        | rt d k => cases fl <;> first | exact q7.elim | exact h7 E7 σ7 _ s7 (x3.last.trans l27) w7 f7 I7.unpinned q7 t7
      · exact h3.elim
    · have ei : i = xs.1.length := by omega
      subst ei
      rw [List.drop_length] at h3
      simp only [forTurns] at h3
      split at h3
      · rename_i hch
        have stop := (wk E3 st3 w3' sc3 (still_view hch)).2
        refine wpAny_passesOwn hp (G.wtk t3 (L2.thn (T.done G.X rfl rfl rfl hc _ pins s3 σ3 E3.H G.X.xe I3 (stat fn3) tn3 stop) fun r s4 ⟨hr, I4⟩ t4 => ?_))
        subst hr
        exact wpAny_execs_nil (h3 E3 σ3 .next s4 (x3.last.trans l3') w3' fr3 I4 trivial t4)
      · exact h3.elim
  · exact h1.elim

theorem ss_for {tg iter : Expr} {body : List Stmt} {pos : Pos} {t : Tg} {mi : Env → Sto → R (List D × List (D × Kd))} {mb : Env → Sto → R (Fl × Env)} (hp : PassesOwn (model G.X.prog G.X.w) G.X.A G.X.env G.X.xe) (hc : G.X.calm = true)
    (hi : SI G tg iter mi) (hg : SG G tg t) (hb : SSs G body mb) (hs : ∀ x, foldedSetIterable iter G.X.env x = pure x) :
    SS G (.For tg iter body [] pos) (fun ρ s => (mi ρ s).bind fun xs s => if xs.2.all (fun x => decide (x.2 ≠ .bo)) then forTurns (still s xs.2) (fun x ρ s => bindTg s ρ x t) mb xs.1 ρ s else .no) :=
  ⟨fun pins s σ E ρ st Q I w f tk hO => wpAny_For (hi.run pins s σ E ρ st _ I w f tk ((Out.bind.mp hO).mono (fun xs st1 h1 E1 vs itv s2 x1 w1 r1 t2 h2 => for_after (iter := iter) hp hc hg hb f x1 w1 r1 t2 h2 h1) fun _ _ z => Cfg.erS_er f z)) hs⟩

/-! ### while -/
theorem ss_whl {c : Expr} {body : List Stmt} {pos : Pos} {n : Nat} {mc : Env → Sto → R Bool} {mb : Env → Sto → R (Fl × Env)} (hp : PassesOwn (model G.X.prog G.X.w) G.X.A G.X.env G.X.xe) (hc : ST G c mc) (hb : SSs G body mb) :
    SS G (.While c body [] pos) (fun ρ s => whlTurns mc mb n ρ s) := by
  refine ⟨fun pins s σ E ρ st Q I w f tk hO => ?_⟩
  let Inn : Nat → Shared → Prop := fun k s' => ∃ (σ' : L2.St) (E' : WS) (ρ' : Env) (st' : Sto), Inv G.X pins σ' E'.H s' ∧ G.WO E' st' ∧ G.Fr E' σ' ρ' ∧ Last E E' ∧ G.Tk s' ∧ Out (whlTurns mc mb k ρ' st') (G.okS pins E Q) G.erS
  refine wpAny_While (codeAny_whileLoop Inn ?_ n ⟨σ, E, ρ, st, I, w, f, Last.refl _, tk, hO⟩)
  rintro k s1 ⟨σ1, E1, ρ1, st1, I1, w1, f1, l1, t1, h1⟩
  cases k with
  | zero => exact h1.elim
  | succ k =>
    simp only [whlTurns] at h1
    refine wpAny_passesOwn hp (hc.thn' I1 w1 f1 t1 (fun _ _ z => Cfg.erS_er f1 z) h1 fun b st2 E2 s2 x2 w2 I2 t2 h2 => ?_)
    have f2 := f1.mono x2
    cases b with
    | true =>
      rw [if_pos rfl] at h2 ⊢
      refine wpAny_passesOwn hp (hb.run pins s2 σ1 E2 ρ1 st2 _ I2 w2 f2 t2 ((Out.bind.mp h2).mono (fun fx st3 h3 E3 σ3 fl s3 l3 w3 f3 I3 q3 t3 => ?_) fun _ _ z => z))
      have l := l1.trans (x2.last.trans l3)
      obtain ⟨xf, ρ3⟩ := fx
      cases xf with
      | nx => cases fl <;> first | exact q3.elim | exact ⟨k, Nat.lt_succ_self _, σ3, E3, ρ3, st3, I3, w3, f3, l, t3, h3⟩
      | ct => cases fl <;> first | exact q3.elim | exact ⟨k, Nat.lt_succ_self _, σ3, E3, ρ3, st3, I3, w3, f3, l, t3, h3⟩
      | bk => cases fl <;> first | exact q3.elim | exact h3 E3 σ3 .next s3 l w3 f3 I3 trivial t3
      | rt d kk => cases fl <;> first | exact q3.elim | exact h3 E3 σ3 _ s3 l w3 f3 I3 q3 t3
    | false =>
      rw [if_neg Bool.false_ne_true] at h2 ⊢
      exact wpAny_execs_nil (h2 E2 σ1 .next s2 (l1.trans x2.last) w2 f2 I2 trivial t2)
end
end RS
end S17
section S18
set_option autoImplicit false
set_option linter.all false
set_option maxRecDepth 100000
set_option Elab.async false
/-! B9: exceptions out of a comprehension's block. -/
namespace RS
open PySem PySem.Spec PyProof.Rows L2

/-- an exception in the air of X, the frame at L -/
def XF (X : Cx) (L : Addr) (W : XK) (u : Value) (s' : Shared) : Prop :=
  ∃ (a : Addr) (B : Heap) (sI : Shared) (pins : List (Addr × Obj)) (σ : L2.St) (H : Hp) (cls : Value) (d : Option Addr),
    u = .ref a ∧ Inv X pins σ H sI ∧ (∀ b o, sI.heap.get? b = some o → b ∉ frs X.stack → B.get? b = some o) ∧ sI.heap.UpToSlots s'.heap ∧
      Sky B X.stack a (Zc cls d) L s'.heap ∧ H a = none ∧ s'.os = sI.os ∧ AllBare s'.gens ∧ W cls d H
theorem XF.xe {X : Cx} {W : XK} {u : Value} {s' : Shared} (x : XF X X.env.locals W u s') : XE X (fun cls d _ H => W cls d H) u s' := x
/-- what stands for all of a frame's proof -/
structure GOk (G : Cfg) (L : Addr) : Prop where
  calm : G.X.calm = true
  nd : G.X.N.Nodup
  units : G.X.A.units + 128 < cLine
  frame : G.X.env.frame = some L
  stack : ∃ e outer, G.X.stack = e :: outer ∧ e.frame = some L
  takes : ∀ u s', XF G.X L G.W u s' → G.X.xe u s'

section
variable {X : Cx} {pins : List (Addr × Obj)} {σ : L2.St} {H H3 : Hp} {s s3 : Shared} {L : Addr} {W : XK} {scope : Scope} {ce : PySem.Env} {fp : List Addr}
theorem tracedZ_sameBut {h h' B : Heap} {a C : Addr} {Z : Obj → Prop} {fl : Value} {m : Str → Option Value} (x : HandSPX.TracedZ h B a Z fl) (hn : h.Ns C m) (hs : Heap.SameBut C h h') : HandSPX.TracedZ h' B a Z fl := by
  obtain ⟨oe, vs, T, oT, ts, he, hz, hd, h1, hnT, hTe, hT, hdT, h3⟩ := x
  obtain ⟨oL, es, ep, hoL, hdL, _⟩ := hn
  have n1 : a ≠ C := fun q => by
    rw [q, hoL] at he
    cases he
    rw [hdL] at hd
    cases hd
  have n2 : T ≠ C := fun q => by
    rw [q, hoL] at hT
    cases hT
    rw [hdL] at hdT
    cases hdT
  exact ⟨oe, vs, T, oT, ts, (hs.2 a n1).trans he, hz, hd, h1, hnT, hTe, (hs.2 T n2).trans hT, hdT, h3⟩
theorem tracedZ_less {h B B' : Heap} {a : Addr} {Z : Obj → Prop} {fl : Value} (x : HandSPX.TracedZ h B a Z fl) (hb : ∀ b, B.get? b = none → B'.get? b = none) : HandSPX.TracedZ h B' a Z fl := by
  obtain ⟨oe, vs, T, oT, ts, he, hz, hd, h1, hnT, r⟩ := x
  exact ⟨oe, vs, T, oT, ts, he, hz, hd, h1, hb T hnT, r⟩
theorem funFrames_less {h B B' : Heap} (hb : ∀ b, B.get? b = none → B'.get? b = none) : ∀ {l : List PySem.Env}, h.FunFrames B l → h.FunFrames B' l
  | [], _ => trivial
  | env :: l, ⟨hk, ⟨L, o, hf, hn, r⟩, t⟩ => ⟨hk, ⟨L, o, hf, hb L hn, r⟩, funFrames_less hb t⟩
/-- an exception leaves a comprehension's block -/
theorem blk_takes (I3 : Inv X pins σ H3 s3) (f3 : ∀ b ∈ fp, FpOk X pins H3 b) (hC : ce.locals = s3.heap.objs.size) (hcf : ce.frame = some L) (hst : ∃ e outer, X.stack = e :: outer ∧ e.frame = some L)
    (tk : ∀ u s', XF X L W u s' → X.xe u s') (xe : Value → Shared → Prop) (u : Value) (s' : Shared) (x : XF ((X.blk s3 H3 scope ce fp).wish xe) L W u s') :
    notedBy (model X.prog X.w) X.A ce (CompFails (model X.prog X.w) X.A X.xe ce) u s' := by
  obtain ⟨a, B, sI, pins', σ', H', cls, d, eu, I', nb, up, sky, na, os, ag, w⟩ := x
  subst eu
  obtain ⟨e, outer, hs, hf⟩ := hst
  have hfr : X.A.frames = some (e :: outer) := by
    have := I3.ok.frames
    rw [hs] at this
    exact this
  have nC : H' ce.locals = none := I'.free
  have sky : Sky B (e :: outer) a (Zc cls d) L s'.heap := by
    have z : Sky B X.stack a (Zc cls d) L s'.heap := sky
    rw [hs] at z
    exact z
  have nb : ∀ b o, sI.heap.get? b = some o → b ∉ frs X.stack → B.get? b = some o := nb
  -- behind the note
  have go : ∀ h1, HandSPX.HeldZ B (e :: outer) a (Zc cls d) L h1 → s'.heap.UpToSlots h1 → CompFails (model X.prog X.w) X.A X.xe ce (.ref a) { s' with heap := h1 } := fun h1 hh up1 => by
    obtain ⟨m, hn, _⟩ := I'.loc
    have hn : sI.heap.Ns ce.locals m := hn
    have hn1 : h1.Ns ce.locals m := up1.ns (up.ns hn)
    refine ⟨m, hn1, fun h2 m2 hn2 hs2 => ?_⟩
    obtain ⟨B', b1, b2⟩ := restrict B fun b => decide (b ≠ ce.locals)
    have lt : ∀ b o, B'.get? b = some o → b ≠ ce.locals ∧ B.get? b = some o := fun b o q => by
      by_cases hb : b = ce.locals
      · rw [b2 b (by simp [hb])] at q; cases q
      · exact ⟨hb, by rw [← b1 b (by simp [hb])]; exact q⟩
    have less : ∀ b, B.get? b = none → B'.get? b = none := fun b q => by
      cases z : B'.get? b with
      | none => rfl
      | some o => rw [(lt b o z).2] at q; cases q
    obtain ⟨k1, k0, k2, k3⟩ := hh
    have s1 : B'.StaysIn h2 := fun b o q => by
      obtain ⟨n, q⟩ := lt b o q
      exact (hs2.2 b n).trans (k1 b o q)
    have s2 : h2.FunFrames B' (e :: outer) := funFrames_less less (Heap.FunFrames.sameBut hs2 hn2 k2)
    have s3' : HandSPX.TracedZ h2 B' a (Zc cls d) (rawInt L) := tracedZ_less (tracedZ_sameBut k3 hn1 hs2) less
    unfold PySem.passOn
    obtain ⟨oe, vs, T, oT, ts, he, hz, hd, q1, r⟩ := id s3'
    refine wpAny_bind (wpAny_field he hd q1 ?_)
    rw [if_neg (show ¬ ((Value.ref T == Value.none) = true) from by simp)]
    rw [hcf]
    refine wpAny_bind (HandSPX.setFlight_anyZ (fr := some L) s1 s2 s3' fun h3 g1 g2 g3 g4 => ?_)
    refine wpAny_throw (tk _ _ ?_)
    have J : Inv X pins σ H' sI := I3.call' (ch := fp) I'.os I'.base I'.hok I'.bare fun b hb => ⟨(f3 b hb).2.2.2.1, (f3 b hb).2.1, (f3 b hb).2.2.2.2.1, (f3 b hb).2.2.2.2.2⟩
    have fC : FpOk X pins H' ce.locals := I3.fpOk (Nat.le_of_eq hC.symm) nC
    obtain ⟨G, c1, c2⟩ := restrict sI.heap fun b => decide (b ≠ ce.locals)
    have gt : ∀ b o, G.get? b = some o → b ≠ ce.locals ∧ sI.heap.get? b = some o := fun b o q => by
      by_cases hb : b = ce.locals
      · rw [c2 b (by simp [hb])] at q; cases q
      · exact ⟨hb, by rw [← c1 b (by simp [hb])]; exact q⟩
    have J' : Inv X pins σ H' { sI with heap := G, toks := sI.toks } := J.turned (fun b o hb q => by rw [c1 b (by simp [hb])]; exact q) fC.1 fC.2.1 fC.2.2.2.1 fC.2.2.2.2.1 fC.2.2.2.2.2
    refine ⟨a, B', _, pins, σ, H', cls, d, rfl, J', fun b o q hb => ?_, fun b o q hnf => ?_, ?_, na, os, ag, w⟩
    · obtain ⟨n, q⟩ := gt b o q
      rw [b1 b (by simp [n])]
      exact nb b o q hb
    · obtain ⟨n, q⟩ := gt b o q
      obtain ⟨sl, q⟩ := up b o q hnf
      obtain ⟨sl2, q⟩ := up1 b { o with slots := sl } q hnf
      have q : h2.get? b = some { o with slots := sl2 } := (hs2.2 b n).trans q
      obtain ⟨sl3, q⟩ := g4 b { o with slots := sl2 } q hnf
      exact ⟨sl3, q⟩
    · rw [hs]
      exact .inr (.inr ⟨g1, less a k0, g2, g3⟩)
  show wpAny (model X.prog X.w) X.A (noteFrame (.ref a) ce) (fun _ s'' => CompFails (model X.prog X.w) X.A X.xe ce (.ref a) s'') (CompFails (model X.prog X.w) X.A X.xe ce) s'
  rw [noteFrame_env _ (hcf.trans hf.symm)]
  rcases sky with ⟨hB, hn, hl, oe, vs, he, hz, hd, h1⟩ | fl | hh
  · exact HandSPX.look_newZ Zc.steady hfr hl hf he hB hn hd h1 hz go
  · exact HandSPX.looks_onZ Zc.steady hfr hf fl go
  · exact HandSPX.againZ hf hh.2.2.2 (go s'.heap hh (Heap.UpToSlots.refl _))
end
end RS
end S18
section S19
set_option autoImplicit false
set_option linter.all false
set_option maxRecDepth 100000
set_option Elab.async false
/-! C1: list comprehensions. -/
namespace RS
open PySem PySem.Spec PyProof.Rows L2

section
variable {K : PySem.W.Frag} {E₀ E : WS}
theorem FrR.wipe {σ : L2.St} {ρ : Env} (f : FrR K E₀ E σ ρ) : ∀ vs : List Nat, FrR K E₀ E (L2.wipe σ vs) (wipeE ρ vs)
  | [] => f
  | v :: vs => (f.wipe vs).drop none
end
section
variable {G : Cfg} {L : Addr} {pins : List (Addr × Obj)} {s : Shared} {σ : L2.St} {E : WS} {st : Sto} {ρ : Env}
/-- a clause's tests -/
structure STs (G : Cfg) (ifs : List Expr) (m : Env → Sto → R Bool) : Prop where
  run : ∀ (pins : List (Addr × Obj)) (s : Shared) (σ : L2.St) (E : WS) (ρ : Env) (st : Sto) (Q : Bool → Shared → Prop), Inv G.X pins σ E.H s → G.WO E st → G.Fr E σ ρ → G.Tk s →
    Out (m ρ st) (G.okT pins σ E Q) (G.er E σ) → wpAny G.M G.X.A (forIn ifs true fun c r => if r = true then do let ok ← isTrue c G.X.env (eval c G.X.env); pure (ForInStep.yield ok) else pure (ForInStep.yield r)) Q G.X.xe s
theorem sts_nil : STs G [] (fun _ s => .ok true s) := ⟨fun pins s σ E ρ st Q I w f tk h => wpAny_tests_nil (h E s (Ext.refl E) w I)⟩
theorem sts_one {c : Expr} {m : Env → Sto → R Bool} (h : ST G c m) : STs G [c] (fun ρ s => (m ρ s).bind fun b s => if b then .ok true s else .ok false s) := by
  refine ⟨fun pins s σ E ρ st Q I w f tk hO => wpAny_tests_one (h.thn I w f tk hO fun b st1 E1 s1 x1 w1 I1 t1 h1 => ?_)⟩
  cases b <;> exact h1 E1 s1 x1 w1 I1
theorem STs.thn' {ifs : List Expr} {m : Env → Sto → R Bool} (h : STs G ifs m) (I : Inv G.X pins σ E.H s) (w : G.WO E st) (f : G.Fr E σ ρ) (tk : G.Tk s) {β : Type} {F : Bool → Sto → R β} {P : β → Sto → Prop} {Pe : Nat → Sto → Prop} (hE : ∀ c t, Pe c t → G.er E σ c t)
    (hO : Out ((m ρ st).bind F) P Pe) {Q : Bool → Shared → Prop}
    (k : ∀ x st1 E1 s1, Ext E E1 → G.WO E1 st1 → Inv G.X pins σ E1.H s1 → G.Tk s1 → Out (F x st1) P Pe → Q x s1) : wpAny G.M G.X.A (forIn ifs true fun c r => if r = true then do let ok ← isTrue c G.X.env (eval c G.X.env); pure (ForInStep.yield ok) else pure (ForInStep.yield r)) Q G.X.xe s :=
  G.wtk tk (h.run pins s σ E ρ st _ I w f tk ((Out.bind.mp hO).mono (fun x st1 hx E1 s1 x1 w1 I1 t1 => k x st1 E1 s1 x1 w1 I1 t1 hx) hE))

/-- the block of a comprehension -/
abbrev Cfg.blk (G : Cfg) (s3 : Shared) (H3 : Hp) (scope : Scope) (ce : PySem.Env) (fp : List Addr) : Cfg :=
  { G with X := (G.X.blk s3 H3 scope ce fp).wish (notedBy (model G.X.prog G.X.w) G.X.A ce (CompFails (model G.X.prog G.X.w) G.X.A G.X.xe ce)) }
theorem GOk.blk (ok : GOk G L) {s3 : Shared} {H3 : Hp} {scope : Scope} {cl : List (Str × Addr)} {fp : List Addr} (I3 : Inv G.X pins σ H3 s3) (f3 : ∀ b ∈ fp, FpOk G.X pins H3 b) : GOk (G.blk s3 H3 scope (compEnvC scope cl s3.heap.objs.size G.X.env) fp) L where
  calm := ok.calm
  nd := ok.nd
  units := ok.units
  frame := ok.frame
  stack := ok.stack
  takes := fun u s' x => blk_takes (scope := scope) (ce := compEnvC scope cl s3.heap.objs.size G.X.env) I3 f3 rfl ok.frame ok.stack ok.takes _ u s' x
/-- a judgement of every block of this comprehension -/
abbrev Cfg.every (G : Cfg) (L : Addr) (scope : Scope) (P : Cfg → Prop) : Prop := ∀ (s3 : Shared) (H3 : Hp) (C : Addr) (cl : List (Str × Addr)) (fp : List Addr), GOk (G.blk s3 H3 scope (compEnvC scope cl C G.X.env) fp) L → P (G.blk s3 H3 scope (compEnvC scope cl C G.X.env) fp)

theorem lc_run {elt tg iter : Expr} {ifs : List Expr} {scope : Scope} {own : List (Str × Nat)} {t : Tg} {pos pos' : Pos} {mi : Env → Sto → R (List D × List (D × Kd))} {mt : Env → Sto → R Bool} {me : Env → Sto → R (D × Kd)} {use : Option (Value → Sem Unit)} {Qf : Value → Shared → Prop}
    {P : D × Kd → Sto → Prop} (ok : GOk G L) (hi : SI G tg iter mi) (bok : BlkOk G.X.N G.X.env.scope scope own) (hnm : own.map (·.2) = tgNames t)
    (hg : G.every L scope fun G' => SG G' tg t) (ht : G.every L scope fun G' => STs G' ifs mt) (he : G.every L scope fun G' => SE G' elt me) (hs : ∀ x, foldedSetIterable iter G.X.env x = pure x)
    (I : Inv G.X pins σ E.H s) (w : G.WO E st) (f : G.Fr E σ ρ) (tk : G.Tk s)
    (hO : Out ((mi ρ st).bind fun xs s => (lcTurns (still s xs.2) (fun x s => (ofO (bindTg s (wipeE ρ (tgNames t)) x t) s).bind fun ρ' s => (mt ρ' s).bind fun b s =>
        if b then (me ρ' s).bind fun y s => (ofO (keep y) s).bind fun d s => .ok (some d) s else .ok none s) xs.1 [] s).bind fun ds s => .ok (.lst ds, .fr) s) P (G.er E σ))
    (hRR : ∀ Ad s' m E' ds st' ce, Ext E E' → G.WO E' st' → Fresh G.X.K E E' (.lst ds) Ad → Inv G.X pins σ E'.H s' → s'.heap.Ns ce.locals m → FpOk G.X pins E'.H ce.locals → G.Tk s' → P (.lst ds, .fr) st' →
      compEnds (model G.X.prog G.X.w) G.X.A G.X.xe use Qf (.ref Ad) ce (.ok .next) s') :
    wpAny G.M G.X.A (comprehension (.ListComp elt [⟨tg, iter, ifs, 0⟩] scope pos) scope G.X.env pos' (newList []) false (eval iter G.X.env) use) Qf G.X.xe s := by
  have hfree : ∀ y ∈ scope.names, y.2 = .free → ∃ c, G.X.env.cells.lookup y.1 = some c := fun y hy e => by
    rcases bok.free y hy e with k | k
    · exact I.ok.has _ (.inl k)
    · exact I.ok.has _ (.inr k)
  refine comprehension_at (use := use) rfl hs (closure_ok hfree) bok.kind (fun y hy e => by rw [bok.uniq y hy, e])
    (hi.run pins s σ E ρ st _ I w f tk ((Out.bind.mp hO).mono (fun xs st1 h1 E2 vs itv s2 x2 w2 r2 t2 h2 => ?_) fun _ _ z => z))
  obtain ⟨it, fp, tn, J, H2, e, I2, T, st2, f2, eH2, wk⟩ := h2
  subst e eH2
  refine wpAny_newObj_type (newEnv_comp ?_) (by show 0 ≤ sizeLine; decide)
  generalize hD : s2.heap.objs.size = Ad
  have hDn : E2.H Ad = none := I2.hok.fresh (Nat.le_of_eq hD)
  -- the new list
  generalize hs3 : ({ s2 with heap := s2.heap.push { cls := .type "list", data := .seq ([] : List Value).toArray } } : Shared) = s3
  have I3 : Inv G.X pins σ (E2.put Ad (.lst [])).H s3 := by
    rw [← hs3]
    refine I2.laid (t' := s2.toks) (fun b o e => Heap.get?_push_of_some _ e) (Nat.le_of_eq hD) ⟨Nat.zero_le _, [], 0, .nil, ?_⟩
    rw [← hD]
    exact Heap.get?_push_size _ rfl
  have h3 : s3.heap = s2.heap.push { cls := .type "list", data := .seq ([] : List Value).toArray } := by rw [← hs3]
  have t3 : G.Tk s3 := by rw [← hs3]; exact t2
  have sz : ∀ b ∈ fp, b < s2.heap.objs.size := fun b hb => by
    obtain ⟨o, e, _⟩ := T.obj _ _ st2 b hb
    exact Heap.lt_size e
  have f3 : ∀ b ∈ fp, FpOk G.X pins (E2.put Ad (.lst [])).H b ∧ b < s3.heap.objs.size := fun b hb => by
    have hlt := sz b hb
    refine ⟨⟨?_, (f2 b hb).2⟩, by rw [h3, Heap.size_push]; exact Nat.lt_succ_of_lt hlt⟩
    show upd E2.H Ad _ b = none
    rw [upd_ne (by rw [← hD]; exact Nat.ne_of_lt hlt)]
    exact (f2 b hb).1
  have st3 : tn 0 s3.heap := T.keep _ _ _ st2 fun b _ o e => by rw [h3]; exact Heap.get?_push_of_some _ e
  have x3 : Ext E2 (E2.put Ad (.lst [])) := ext_put hDn
  have w3 : G.WO (E2.put Ad (.lst [])) st1 := w2.put hDn
  have nD : Ad ∉ E2.μ := fun z => by
    rcases w2.muH z with ⟨_, e⟩ | ⟨_, e⟩ <;> (rw [hDn] at e; cases e)
  have nF : ¬ E2.Fz Ad := fun z => by
    obtain ⟨o, e, _⟩ := w2.fzH Ad z
    rw [hDn] at e; cases e
  generalize hE3 : E2.put Ad (.lst []) = E3 at I3 f3 x3 w3
  have D3 : E3.H Ad = some (.lst []) := by rw [← hE3]; exact upd_same
  have nD3 : Ad ∉ E3.μ := by rw [← hE3]; exact nD
  have nF3 : ¬ E3.Fz Ad := by rw [← hE3]; exact nF
  clear hE3
  have I4 := (block_start I3 bok ok.nd f3).wish (notedBy (model G.X.prog G.X.w) G.X.A (compEnvC scope (cellsFrom (s3.heap.objs.size + 1) scope.names (cloFrom G.X.env.cells scope.names [])) s3.heap.objs.size G.X.env)
    (CompFails (model G.X.prog G.X.w) G.X.A G.X.xe (compEnvC scope (cellsFrom (s3.heap.objs.size + 1) scope.names (cloFrom G.X.env.cells scope.names [])) s3.heap.objs.size G.X.env)))
  have okB : GOk (G.blk s3 E3.H scope (compEnvC scope (cellsFrom (s3.heap.objs.size + 1) scope.names (cloFrom G.X.env.cells scope.names [])) s3.heap.objs.size G.X.env) fp) L := ok.blk I3 fun b hb => (f3 b hb).1
  have pg := hg s3 E3.H s3.heap.objs.size (cellsFrom (s3.heap.objs.size + 1) scope.names (cloFrom G.X.env.cells scope.names [])) fp okB
  have pt := ht s3 E3.H s3.heap.objs.size (cellsFrom (s3.heap.objs.size + 1) scope.names (cloFrom G.X.env.cells scope.names [])) fp okB
  have pe := he s3 E3.H s3.heap.objs.size (cellsFrom (s3.heap.objs.size + 1) scope.names (cloFrom G.X.env.cells scope.names [])) fp okB
  show codeAny _ _ (.compStart (.ListComp elt [⟨tg, iter, ifs, 0⟩] scope pos) 0 (.ref it) (.ref Ad) (compEnvC scope (cellsFrom (s3.heap.objs.size + 1) scope.names (cloFrom G.X.env.cells scope.names [])) s3.heap.objs.size G.X.env))
    (compEnds (model G.X.prog G.X.w) G.X.A G.X.xe use Qf (.ref Ad) (compEnvC scope (cellsFrom (s3.heap.objs.size + 1) scope.names (cloFrom G.X.env.cells scope.names [])) s3.heap.objs.size G.X.env)) { s3 with heap := pushCells (s3.heap.push { cls := .type "dict", data := .dict #[] }) scope.names }
  have nfp : ∀ b ∈ fp, E3.H b = none := fun b hb => (f3 b hb).1.1
  generalize hce : compEnvC scope (cellsFrom (s3.heap.objs.size + 1) scope.names (cloFrom G.X.env.cells scope.names [])) s3.heap.objs.size G.X.env = ce at I4 pg pt pe okB ⊢
  have cL : ce.locals = s3.heap.objs.size := by subst hce; rfl
  generalize hs4 : ({ s3 with heap := pushCells (s3.heap.push { cls := .type "dict", data := .dict #[] }) scope.names } : Shared) = s4 at I4 ⊢
  have t4 : G.Tk s4 := by rw [← hs4]; exact t3
  have st4 : tn 0 s4.heap := T.keep _ _ _ st3 fun b _ o e => by rw [← hs4]; exact pushCells_keeps _ _ _ _ (Heap.get?_push_of_some _ e)
  rw [hnm] at I4
  have stat : ∀ {σ' : L2.St} {H' : Hp} {s' : Shared}, Inv (G.blk s3 E3.H scope ce fp).X [] σ' H' s' → (∀ b ∈ fp, H' b = none) → ∀ b ∈ fp, FpOk (G.blk s3 E3.H scope ce fp).X [] H' b := fun {σ' H' s'} I' hn b hb =>
    ⟨hn b hb, (I'.ok.exf b hb).1, I'.ok.exfs b hb, .inl hb, fun x c e => (I'.ok.exf b hb).2 x c e, fun p hp => absurd (show p ∈ ([] : List (Addr × Obj)) ++ [] from hp) (by simp)⟩
  -- the state at a turn
  let turn : D → Sto → R (Option D) := fun x s => (ofO (bindTg s (wipeE ρ (tgNames t)) x t) s).bind fun ρ' s => (mt ρ' s).bind fun b s =>
        if b then (me ρ' s).bind fun y s => (ofO (keep y) s).bind fun d s => .ok (some d) s else .ok none s
  have h1 : Out ((lcTurns (still st1 xs.2) turn xs.1 [] st1).bind fun ds s => .ok (D.lst ds, Kd.fr) s) P (G.er E σ) := h1
  let Inn : Nat → Shared → Prop := fun n s' => ∃ (i : Nat) (E' : WS) (st' : Sto) (ds : List D) (us : List V), n = xs.1.length - i ∧ i ≤ xs.1.length ∧ Inv (G.blk s3 E3.H scope ce fp).X [] (L2.wipe σ (tgNames t)) E'.H s' ∧ tn i s'.heap ∧ (∀ b ∈ fp, E'.H b = none) ∧
    G.WO E' st' ∧ Ext E2 E' ∧ (E'.H Ad = some (.lst us) ∧ RepA G.X.K E' ds us ∧ Ad ∉ E'.μ ∧ ¬ E'.Fz Ad) ∧ G.Tk s' ∧ Out ((lcTurns (still st1 xs.2) turn (xs.1.drop i) ds st').bind fun ds s => .ok (D.lst ds, Kd.fr) s) P (G.er E σ)
  have loop : codeAny (model G.X.prog G.X.w) G.X.A (.compLoop (.ListComp elt [⟨tg, iter, ifs, 0⟩] scope pos) 0 (.ref it) (.ref Ad) ce) (compEnds (model G.X.prog G.X.w) G.X.A G.X.xe use Qf (.ref Ad) ce) s4 := by
    refine compLoop_any Inn ?_ xs.1.length ⟨0, E3, st1, [], [], by simp, Nat.zero_le _, I4, st4, nfp, w3, x3, ⟨D3, by rw [RepA], nD3, nF3⟩, t4, by simpa using h1⟩
    rintro n s5 ⟨i, E5, st5, ds, us, en, hle, I5, tn5, n5, w5, x5, ⟨hD5, rA5, nm5, nf5⟩, t5, h5⟩
    have sc : SrcC G.X.K E5 st5 xs.2 vs := ((r2.x).ext x5).c w5
    have x05 : Ext E E5 := x2.trans x5
    have f5 : G.Fr E5 (L2.wipe σ (tgNames t)) (wipeE ρ (tgNames t)) := (f.mono x05).wipe _
    by_cases hlt : i < xs.1.length
    · have hx : xs.1[i]? = some xs.1[i] := List.getElem?_eq_getElem hlt
      rw [List.drop_eq_getElem_cons hlt] at h5
      simp only [lcTurns] at h5
      split at h5
      · rename_i hch
        obtain ⟨g1, g2⟩ := (wk E5 st5 w5 sc (still_view hch)).1 i _ hx
        have ti := T.item (G.blk s3 E3.H scope ce fp).X rfl rfl rfl ok.calm i [] s5 _ E5.H (G.blk s3 E3.H scope ce fp).X.xe I5 (stat I5 n5) tn5 g1
        refine (G.blk s3 E3.H scope ce fp).wtk t5 (L2.thn ti fun r s6 ⟨u, hr, h6⟩ t6 => ?_)
        subst hr
        refine (G.blk s3 E3.H scope ce fp).wtk t6 (L2.thn h6 fun _ s7 ⟨x, H7, I7, r7, y7, st7, n7⟩ t7 => ?_)
        obtain ⟨E7, eH7, x7, w7, rx⟩ := g2 x H7 y7
        subst eH7
        have I7' := I7.pinned (stat I7 n7) (T.obj _ _ st7)
        have h6 := Out.bind.mp (Out.bind.mp h5)
        obtain ⟨ρ8, hb8, h8⟩ := (Out.bind.mp h6).ofO
        have f7 : (G.blk s3 E3.H scope ce fp).Fr E7 (L2.wipe σ (tgNames t)) (wipeE ρ (tgNames t)) := f5.mono x7
        refine (G.blk s3 E3.H scope ce fp).wtk t7 (pg.run _ s7 _ E7 _ ρ8 st5 _ x u _ I7' w7 f7 (.inr rx) (fun _ => rx) r7 hb8 fun σ8 s8 I8 f8 hσ8 t8 => ?_)
        have x07 := x05.trans x7
        have e07 : ∀ c t, G.er E σ c t → (G.blk s3 E3.H scope ce fp).er E7 σ8 c t := fun c t z => Cfg.er_ext (G := G) (σ := σ) x07 z
        refine pt.thn' I8 w7 f8 t8 e07 h8 fun b st9 E9 s9 x9 w9 I9 t9 h9 => ?_
        have x79 := x7.trans x9
        -- the turn's end
        have fin : ∀ {s' : Shared} {E' : WS} {st' : Sto} {ds' : List D} {us' : List V}, Inv (G.blk s3 E3.H scope ce fp).X ([] ++ pinsAt fp s7.heap) σ8 E'.H s' → G.WO E' st' → Ext E2 E' → (E'.H Ad = some (.lst us') ∧ RepA G.X.K E' ds' us' ∧ Ad ∉ E'.μ ∧ ¬ E'.Fz Ad) → G.Tk s' →
            Out ((lcTurns (still st1 xs.2) turn (xs.1.drop (i + 1)) ds' st').bind fun ds s => .ok (D.lst ds, Kd.fr) s) P (G.er E σ) → ∃ m, m < n ∧ Inn m s' := fun {s' E' st' ds' us'} I' w' x' hD' t' h' => by
          have pin' : ∀ b ∈ fp, ∀ o, s7.heap.get? b = some o → s'.heap.get? b = some o ∧ E'.H b = none := fun b hb o e =>
            let z := I'.pin (b, o) (List.mem_append_right _ (List.mem_append_right _ (mem_pinsAt hb e)))
            ⟨z.1, z.2.1⟩
          have hl : (L2.wipe σ (tgNames t)).length = σ8.length := by rw [I'.len]; exact I5.len
          refine ⟨xs.1.length - (i + 1), by omega, i + 1, E', st', ds', us', rfl, hlt, (I'.unpinned (pins := [])).weak hl (fun j v e => ?_), T.keep _ _ _ st7 fun b hb o e => (pin' b hb o e).1, fun b hb => ?_, w', x', hD', t', h'⟩
          · obtain ⟨_, hj⟩ := wipe_some e
            rw [hσ8 j hj]
            exact e
          · obtain ⟨o, e, _⟩ := T.obj _ _ st7 b hb
            exact (pin' b hb o e).2
        have hD9 : E9.H Ad = some (.lst us) := x79.pres Ad _ hD5 nm5 nt_lst
        have nm9 := x79.there hD5 nm5
        have nf9 : ¬ E9.Fz Ad := fun z => by
          rcases x79.fzn Ad z with z | z
          · exact nf5 z
          · rw [hD5] at z; cases z
        cases b with
        | false =>
          simp only [Bool.false_eq_true, if_false] at h9 ⊢
          exact fin I9 w9 (x5.trans x79) ⟨hD9, rA5.last x79.last, nm9, nf9⟩ t9 (Out.bind.mpr h9)
        | true =>
          simp only [if_true] at h9 ⊢
          have f9 : (G.blk s3 E3.H scope ce fp).Fr E9 σ8 ρ8 := f8.mono x9
          refine pe.thn' I9 w9 f9 t9 (fun c t z => Cfg.er_ext (G := G) (σ := σ) (x07.trans x9) z) (Out.bind.mpr (Out.bind.mp h9)) fun y st10 E10 vy uy s10 x10 w10 r10 I10 ruy t10 h10 => ?_
          obtain ⟨d, hk, h11⟩ := (Out.bind.mp h10).ofO
          obtain ⟨ed, E11, eH11, x11, l11, w11, r11⟩ := keep_ok x10 w10 r10 hk
          subst ed
          have hD11 : E11.H Ad = some (.lst us) := x11.pres Ad _ hD9 nm9 nt_lst
          have nm11 := x11.there hD9 nm9
          have nf11 : ¬ E11.Fz Ad := fun z => by
            rcases x11.fzn Ad z with z | z
            · exact nf9 z
            · rw [hD9] at z; cases z
          rw [← eH11] at I10
          have h11 : Out ((if ds.length < line then lcTurns (still st1 xs.2) turn (xs.1.drop (i + 1)) (ds ++ [y.1]) st10 else .no).bind fun ds s => .ok (D.lst ds, Kd.fr) s) P (G.er E σ) := Out.bind.mpr h11
          split at h11
          · rename_i hln
            have rA11 : RepA G.X.K E11 ds us := rA5.last (x79.trans x11).last
            have lo := last_over (o' := .lst (us ++ [vy])) hD11 (.inl ⟨_, rfl⟩) nf11
            have xo : Ext E2 (E11.put Ad (.lst (us ++ [vy]))) := ext_over (x5.trans (x79.trans x11)) hDn hD11 (.inl ⟨_, rfl⟩) nf11
            have wo : G.WO (E11.put Ad (.lst (us ++ [vy]))) st10 := w11.over hD11 (.inl ⟨_, rfl⟩) nf11 nm11
            have rAo : RepA G.X.K (E11.put Ad (.lst (us ++ [vy]))) (ds ++ [y.1]) (us ++ [vy]) := (rA11.last lo).append (by rw [RepA]; exact ⟨vy, [], rfl, r11.last lo, by rw [RepA]⟩)
            exact (G.blk s3 E3.H scope ce fp).wtk t10 (app_ok (X := (G.blk s3 E3.H scope ce fp).X) I10 hD11 (by rw [← rA11.length, ← line_eq]; exact hln) ruy fun s11 I11 t11 => fin I11 wo xo ⟨upd_same, rAo, nm11, nf11⟩ t11 h11)
          · exact h11.elim
      · exact h5.elim
    · have ei : i = xs.1.length := by omega
      subst ei
      rw [List.drop_length] at h5
      simp only [lcTurns] at h5
      split at h5
      · rename_i hch
        have stop := (wk E5 st5 w5 sc (still_view hch)).2
        have td := T.done (G.blk s3 E3.H scope ce fp).X rfl rfl rfl ok.calm _ [] s5 _ E5.H (G.blk s3 E3.H scope ce fp).X.xe I5 (stat I5 n5) tn5 stop
        refine (G.blk s3 E3.H scope ce fp).wtk t5 (L2.thn td fun r s6 ⟨hr, I6⟩ t6 => ?_)
        subst hr
        have I7 : Inv G.X pins σ E5.H s6 := I3.call' (ch := fp) I6.os I6.base I6.hok I6.bare fun b hb => ⟨(f3 b hb).1.2.2.2.1, (f3 b hb).1.2.1, (f3 b hb).1.2.2.2.2.1, (f3 b hb).1.2.2.2.2.2⟩
        have nC : E5.H ce.locals = none := I6.free
        obtain ⟨m, hn, _⟩ := I6.loc
        have hn : s6.heap.Ns ce.locals m := hn
        have hDe : E.H Ad = none := x2.up Ad hDn
        exact hRR Ad s6 m E5 ds st5 ce x05 w5 ⟨⟨us, hD5, rA5⟩, nf5, nm5, hDe⟩ I7 hn (I3.fpOk (Nat.le_of_eq cL.symm) nC) t6 h5
      · exact h5.elim
  exact codeAny_compStart_list loop (T.self G.X.A 0 _ _ _ st4 loop)
/-- as a value -/
theorem se_lc {elt tg iter : Expr} {ifs : List Expr} {scope : Scope} {own : List (Str × Nat)} {t : Tg} {pos : Pos} {mi : Env → Sto → R (List D × List (D × Kd))} {mt : Env → Sto → R Bool} {me : Env → Sto → R (D × Kd)} (ok : GOk G L) (hi : SI G tg iter mi) (bok : BlkOk G.X.N G.X.env.scope scope own) (hnm : own.map (·.2) = tgNames t)
    (hg : G.every L scope fun G' => SG G' tg t) (ht : G.every L scope fun G' => STs G' ifs mt) (he : G.every L scope fun G' => SE G' elt me) (hs : ∀ x, foldedSetIterable iter G.X.env x = pure x) :
    SE G (.ListComp elt [⟨tg, iter, ifs, 0⟩] scope pos) (fun ρ s => (mi ρ s).bind fun xs s => (lcTurns (still s xs.2) (fun x s => (ofO (bindTg s (wipeE ρ (tgNames t)) x t) s).bind fun ρ' s => (mt ρ' s).bind fun b s =>
        if b then (me ρ' s).bind fun y s => (ofO (keep y) s).bind fun d s => .ok (some d) s else .ok none s) xs.1 [] s).bind fun ds s => .ok (.lst ds, .fr) s) := by
  refine ⟨fun pins s σ E ρ st Q I w f tk hO => ?_⟩
  rw [eval_ListComp]
  refine lc_run (use := none) (P := G.okP pins σ E Q) ok hi bok hnm hg ht he hs I w f tk hO fun Ad s' m E' ds st' ce x' w' fr I' hn fp t' hP => ⟨m, hn, fun h'' sb => ?_⟩
  obtain ⟨f0, f1, f2, f3, f4, f5⟩ := fp
  exact hP E' (.ref Ad) _ _ x' w' ⟨Ad, rfl, fr⟩ (I'.turned (t' := s'.toks) (fun b o hb e => (sb.2 b hb).trans e) f0 f1 f3 f4 f5) rfl
/-- name = [..] on one line, the name a local -/
theorem ss_setLc {i : Nat} {y : Str} {py spos : Pos} {elt tg iter : Expr} {ifs : List Expr} {scope : Scope} {own : List (Str × Nat)} {t : Tg} {pos : Pos} {mi : Env → Sto → R (List D × List (D × Kd))} {mt : Env → Sto → R Bool} {me : Env → Sto → R (D × Kd)} (ok : GOk G L) (hy : G.X.N[i]? = some y) (hyl : G.X.env.scope.names.lookup y = some .local)
    (hsw : swapsWith (.ListComp elt [⟨tg, iter, ifs, 0⟩] scope pos) (some (.Name y py)) spos.line G.X.env = pure true) (hi : SI G tg iter mi) (bok : BlkOk G.X.N G.X.env.scope scope own) (hnm : own.map (·.2) = tgNames t)
    (hg : G.every L scope fun G' => SG G' tg t) (ht : G.every L scope fun G' => STs G' ifs mt) (he : G.every L scope fun G' => SE G' elt me) (hs : ∀ x, foldedSetIterable iter G.X.env x = pure x) :
    SS G (.Assign [.Name y py] (.ListComp elt [⟨tg, iter, ifs, 0⟩] scope pos) spos) (fun ρ s => ((mi ρ s).bind fun xs s => (lcTurns (still s xs.2) (fun x s => (ofO (bindTg s (wipeE ρ (tgNames t)) x t) s).bind fun ρ' s => (mt ρ' s).bind fun b s =>
        if b then (me ρ' s).bind fun y s => (ofO (keep y) s).bind fun d s => .ok (some d) s else .ok none s) xs.1 [] s).bind fun ds s => .ok (.lst ds, .fr) s).bind fun x s => (ofO (RS.setOwn ρ i x) s).bind fun ρ s => .ok (.nx, ρ) s) := by
  refine ⟨fun pins s σ E ρ st Q I w f tk hO => ?_⟩
  rw [exec_Assign_Name_used _ _ _ _ hsw]
  refine wpAny_bind (wpAny_standAt (wpAny_bind ?_))
  show wpAny _ G.X.A (do let _ ← comprehension (.ListComp elt [⟨tg, iter, ifs, 0⟩] scope pos) scope G.X.env (firstIterPos [⟨tg, iter, ifs, 0⟩] pos) (newList []) false (eval iter G.X.env) (some (assign (.Name y py) G.X.env))) _ _ s
  refine wpAny_bind (L2.thn (lc_run (Qf := fun _ s' => Q .next s') (use := some (assign (.Name y py) G.X.env)) (P := fun x st' => Out ((ofO (RS.setOwn ρ i x) st').bind fun ρ s => R.ok (Fl.nx, ρ) s) (G.okS pins E Q) G.erS) ok hi bok hnm hg ht he hs I w f tk
    ((Out.bind.mp hO).mono (fun _ _ z => z) fun _ _ z => Cfg.erS_er f z) fun Ad s' m E' ds st' ce x' w' fr I' hn fp t' hP => ?_) fun _ s' hq => wpAny_pure (wpAny_pure hq))
  obtain ⟨ρ', hρ, hQ⟩ := (Out.bind.mp hP).ofO
  obtain ⟨E2, eH, l, w2, f2⟩ := f.put (v := .ref Ad) w' x' (show RepR G.X.K E E' (D.lst ds) .fr (.ref Ad) from ⟨Ad, rfl, fr⟩) hρ
  rw [← eH] at I'
  show wpAny _ _ (assign (.Name y py) G.X.env (.ref Ad)) _ _ _
  obtain ⟨q0, q1, q2, q3, q4, q5⟩ := fp
  refine G.wtk t' (wpAny_assign_Name (store_ok2 (v := V.ref Ad) I' ok.nd hy (.inl hyl) rfl (fun s2 I2 ⟨a, sb, ha⟩ t2 => ?_) (.inr hyl)))
  have haC : ce.locals ≠ a := by
    rcases ha with z | z
    · rw [z]; exact q1
    · exact fun e => q4 y a z e.symm
  refine ⟨m, hn.sameBut sb haC, fun h3 sb3 => ?_⟩
  exact hQ E2 _ .next _ (x'.last.trans l) w2 f2 (I2.turned (t' := s2.toks) (fun b o hb e => (sb3.2 b hb).trans e) (by rw [eH]; exact q0) q1 q3 q4 q5) trivial t2
end
end RS
end S19
section S20
set_option autoImplicit false
set_option linter.all false
set_option maxRecDepth 100000
set_option Elab.async false
/-! C2: dict comprehensions. -/
namespace RS
open PySem PySem.Spec PyProof.Rows L2
section
variable {G : Cfg} {L : Addr} {pins : List (Addr × Obj)} {s : Shared} {σ : L2.St} {E : WS} {st : Sto} {ρ : Env}
theorem dc_run {kx vx tg iter : Expr} {ifs : List Expr} {scope : Scope} {own : List (Str × Nat)} {t : Tg} {pos pos' : Pos} {mi : Env → Sto → R (List D × List (D × Kd))} {mt : Env → Sto → R Bool} {mk mv : Env → Sto → R (D × Kd)} {use : Option (Value → Sem Unit)} {Qf : Value → Shared → Prop}
    {P : D × Kd → Sto → Prop} (ok : GOk G L) (hi : SI G tg iter mi) (bok : BlkOk G.X.N G.X.env.scope scope own) (hnm : own.map (·.2) = tgNames t)
    (hg : G.every L scope fun G' => SG G' tg t) (ht : G.every L scope fun G' => STs G' ifs mt) (hk : G.every L scope fun G' => SE G' kx mk) (he : G.every L scope fun G' => SE G' vx mv) (hs : ∀ x, foldedSetIterable iter G.X.env x = pure x)
    (I : Inv G.X pins σ E.H s) (w : G.WO E st) (f : G.Fr E σ ρ) (tk : G.Tk s)
    (hO : Out ((mi ρ st).bind fun xs s => (dcTurns (still s xs.2) (fun x s => (ofO (bindTg s (wipeE ρ (tgNames t)) x t) s).bind fun ρ' s => (mt ρ' s).bind fun b s =>
        if b then (mk ρ' s).bind fun y s => (mv ρ' s).bind fun z s => (ofO (keep z) s).bind fun d s => .ok (some (y.1, d)) s else .ok none s) xs.1 [] s).bind fun ds s => .ok (.dct ds, .fr) s) P (G.er E σ))
    (hRR : ∀ Ad s' m E' ds st' ce, Ext E E' → G.WO E' st' → Fresh G.X.K E E' (.dct ds) Ad → Inv G.X pins σ E'.H s' → s'.heap.Ns ce.locals m → FpOk G.X pins E'.H ce.locals → G.Tk s' → P (.dct ds, .fr) st' →
      compEnds (model G.X.prog G.X.w) G.X.A G.X.xe use Qf (.ref Ad) ce (.ok .next) s') :
    wpAny G.M G.X.A (comprehension (.DictComp kx vx [⟨tg, iter, ifs, 0⟩] scope pos) scope G.X.env pos' newDict false (eval iter G.X.env) use) Qf G.X.xe s := by
  have hfree : ∀ y ∈ scope.names, y.2 = .free → ∃ c, G.X.env.cells.lookup y.1 = some c := fun y hy e => by
    rcases bok.free y hy e with k | k
    · exact I.ok.has _ (.inl k)
    · exact I.ok.has _ (.inr k)
  refine comprehension_at (use := use) rfl hs (closure_ok hfree) bok.kind (fun y hy e => by rw [bok.uniq y hy, e])
    (hi.run pins s σ E ρ st _ I w f tk ((Out.bind.mp hO).mono (fun xs st1 h1 E2 vs itv s2 x2 w2 r2 t2 h2 => ?_) fun _ _ z => z))
  obtain ⟨it, fp, tn, J, H2, e, I2, T, st2, f2, eH2, wk⟩ := h2
  subst e eH2
  refine wpAny_newObj_type (newEnv_comp ?_)
  generalize hD : s2.heap.objs.size = Ad
  have hDn : E2.H Ad = none := I2.hok.fresh (Nat.le_of_eq hD)
  -- the new list
  generalize hs3 : ({ s2 with heap := s2.heap.push { cls := .type "dict", data := .dict #[] } } : Shared) = s3
  have I3 : Inv G.X pins σ (E2.put Ad (.dK [])).H s3 := by
    rw [← hs3]
    refine I2.laid (t' := s2.toks) (fun b o e => Heap.get?_push_of_some _ e) (Nat.le_of_eq hD) ?_
    rw [← hD]
    exact dk_empty s2.heap I2.big
  have h3 : s3.heap = s2.heap.push { cls := .type "dict", data := .dict #[] } := by rw [← hs3]
  have t3 : G.Tk s3 := by rw [← hs3]; exact t2
  have sz : ∀ b ∈ fp, b < s2.heap.objs.size := fun b hb => by
    obtain ⟨o, e, _⟩ := T.obj _ _ st2 b hb
    exact Heap.lt_size e
  have f3 : ∀ b ∈ fp, FpOk G.X pins (E2.put Ad (.dK [])).H b ∧ b < s3.heap.objs.size := fun b hb => by
    have hlt := sz b hb
    refine ⟨⟨?_, (f2 b hb).2⟩, by rw [h3, Heap.size_push]; exact Nat.lt_succ_of_lt hlt⟩
    show upd E2.H Ad _ b = none
    rw [upd_ne (by rw [← hD]; exact Nat.ne_of_lt hlt)]
    exact (f2 b hb).1
  have st3 : tn 0 s3.heap := T.keep _ _ _ st2 fun b _ o e => by rw [h3]; exact Heap.get?_push_of_some _ e
  have x3 : Ext E2 (E2.put Ad (.dK [])) := ext_put hDn
  have w3 : G.WO (E2.put Ad (.dK [])) st1 := w2.put hDn
  have nD : Ad ∉ E2.μ := fun z => by
    rcases w2.muH z with ⟨_, e⟩ | ⟨_, e⟩ <;> (rw [hDn] at e; cases e)
  have nF : ¬ E2.Fz Ad := fun z => by
    obtain ⟨o, e, _⟩ := w2.fzH Ad z
    rw [hDn] at e; cases e
  generalize hE3 : E2.put Ad (.dK []) = E3 at I3 f3 x3 w3
  have D3 : E3.H Ad = some (.dK []) := by rw [← hE3]; exact upd_same
  have nD3 : Ad ∉ E3.μ := by rw [← hE3]; exact nD
  have nF3 : ¬ E3.Fz Ad := by rw [← hE3]; exact nF
  clear hE3
  have I4 := (block_start I3 bok ok.nd f3).wish (notedBy (model G.X.prog G.X.w) G.X.A (compEnvC scope (cellsFrom (s3.heap.objs.size + 1) scope.names (cloFrom G.X.env.cells scope.names [])) s3.heap.objs.size G.X.env)
    (CompFails (model G.X.prog G.X.w) G.X.A G.X.xe (compEnvC scope (cellsFrom (s3.heap.objs.size + 1) scope.names (cloFrom G.X.env.cells scope.names [])) s3.heap.objs.size G.X.env)))
  have okB : GOk (G.blk s3 E3.H scope (compEnvC scope (cellsFrom (s3.heap.objs.size + 1) scope.names (cloFrom G.X.env.cells scope.names [])) s3.heap.objs.size G.X.env) fp) L := ok.blk I3 fun b hb => (f3 b hb).1
  have pg := hg s3 E3.H s3.heap.objs.size (cellsFrom (s3.heap.objs.size + 1) scope.names (cloFrom G.X.env.cells scope.names [])) fp okB
  have pt := ht s3 E3.H s3.heap.objs.size (cellsFrom (s3.heap.objs.size + 1) scope.names (cloFrom G.X.env.cells scope.names [])) fp okB
  have pk := hk s3 E3.H s3.heap.objs.size (cellsFrom (s3.heap.objs.size + 1) scope.names (cloFrom G.X.env.cells scope.names [])) fp okB
  have pe := he s3 E3.H s3.heap.objs.size (cellsFrom (s3.heap.objs.size + 1) scope.names (cloFrom G.X.env.cells scope.names [])) fp okB
  show codeAny _ _ (.compStart (.DictComp kx vx [⟨tg, iter, ifs, 0⟩] scope pos) 0 (.ref it) (.ref Ad) (compEnvC scope (cellsFrom (s3.heap.objs.size + 1) scope.names (cloFrom G.X.env.cells scope.names [])) s3.heap.objs.size G.X.env))
    (compEnds (model G.X.prog G.X.w) G.X.A G.X.xe use Qf (.ref Ad) (compEnvC scope (cellsFrom (s3.heap.objs.size + 1) scope.names (cloFrom G.X.env.cells scope.names [])) s3.heap.objs.size G.X.env)) { s3 with heap := pushCells (s3.heap.push { cls := .type "dict", data := .dict #[] }) scope.names }
  have nfp : ∀ b ∈ fp, E3.H b = none := fun b hb => (f3 b hb).1.1
  generalize hce : compEnvC scope (cellsFrom (s3.heap.objs.size + 1) scope.names (cloFrom G.X.env.cells scope.names [])) s3.heap.objs.size G.X.env = ce at I4 pg pt pk pe okB ⊢
  have cL : ce.locals = s3.heap.objs.size := by subst hce; rfl
  generalize hs4 : ({ s3 with heap := pushCells (s3.heap.push { cls := .type "dict", data := .dict #[] }) scope.names } : Shared) = s4 at I4 ⊢
  have t4 : G.Tk s4 := by rw [← hs4]; exact t3
  have st4 : tn 0 s4.heap := T.keep _ _ _ st3 fun b _ o e => by rw [← hs4]; exact pushCells_keeps _ _ _ _ (Heap.get?_push_of_some _ e)
  rw [hnm] at I4
  have stat : ∀ {σ' : L2.St} {H' : Hp} {s' : Shared}, Inv (G.blk s3 E3.H scope ce fp).X [] σ' H' s' → (∀ b ∈ fp, H' b = none) → ∀ b ∈ fp, FpOk (G.blk s3 E3.H scope ce fp).X [] H' b := fun {σ' H' s'} I' hn b hb =>
    ⟨hn b hb, (I'.ok.exf b hb).1, I'.ok.exfs b hb, .inl hb, fun x c e => (I'.ok.exf b hb).2 x c e, fun p hp => absurd (show p ∈ ([] : List (Addr × Obj)) ++ [] from hp) (by simp)⟩
  -- the state at a turn
  let turn : D → Sto → R (Option (D × D)) := fun x s => (ofO (bindTg s (wipeE ρ (tgNames t)) x t) s).bind fun ρ' s => (mt ρ' s).bind fun b s =>
        if b then (mk ρ' s).bind fun y s => (mv ρ' s).bind fun z s => (ofO (keep z) s).bind fun d s => .ok (some (y.1, d)) s else .ok none s
  have h1 : Out ((dcTurns (still st1 xs.2) turn xs.1 [] st1).bind fun ds s => .ok (D.dct ds, Kd.fr) s) P (G.er E σ) := h1
  let Inn : Nat → Shared → Prop := fun n s' => ∃ (i : Nat) (E' : WS) (st' : Sto) (ds : List (D × D)) (us : List (Key × V)), n = xs.1.length - i ∧ i ≤ xs.1.length ∧ Inv (G.blk s3 E3.H scope ce fp).X [] (L2.wipe σ (tgNames t)) E'.H s' ∧ tn i s'.heap ∧ (∀ b ∈ fp, E'.H b = none) ∧
    G.WO E' st' ∧ Ext E2 E' ∧ (E'.H Ad = some (.dK us) ∧ RepK G.X.K E' ds us ∧ Ad ∉ E'.μ ∧ ¬ E'.Fz Ad) ∧ G.Tk s' ∧ Out ((dcTurns (still st1 xs.2) turn (xs.1.drop i) ds st').bind fun ds s => .ok (D.dct ds, Kd.fr) s) P (G.er E σ)
  have loop : codeAny (model G.X.prog G.X.w) G.X.A (.compLoop (.DictComp kx vx [⟨tg, iter, ifs, 0⟩] scope pos) 0 (.ref it) (.ref Ad) ce) (compEnds (model G.X.prog G.X.w) G.X.A G.X.xe use Qf (.ref Ad) ce) s4 := by
    refine compLoop_anyD Inn ?_ xs.1.length ⟨0, E3, st1, [], [], by simp, Nat.zero_le _, I4, st4, nfp, w3, x3, ⟨D3, by rw [RepK], nD3, nF3⟩, t4, by simpa using h1⟩
    rintro n s5 ⟨i, E5, st5, ds, us, en, hle, I5, tn5, n5, w5, x5, ⟨hD5, rA5, nm5, nf5⟩, t5, h5⟩
    have sc : SrcC G.X.K E5 st5 xs.2 vs := ((r2.x).ext x5).c w5
    have x05 : Ext E E5 := x2.trans x5
    have f5 : G.Fr E5 (L2.wipe σ (tgNames t)) (wipeE ρ (tgNames t)) := (f.mono x05).wipe _
    by_cases hlt : i < xs.1.length
    · have hx : xs.1[i]? = some xs.1[i] := List.getElem?_eq_getElem hlt
      rw [List.drop_eq_getElem_cons hlt] at h5
      simp only [dcTurns] at h5
      split at h5
      · rename_i hch
        obtain ⟨g1, g2⟩ := (wk E5 st5 w5 sc (still_view hch)).1 i _ hx
        have ti := T.item (G.blk s3 E3.H scope ce fp).X rfl rfl rfl ok.calm i [] s5 _ E5.H (G.blk s3 E3.H scope ce fp).X.xe I5 (stat I5 n5) tn5 g1
        refine (G.blk s3 E3.H scope ce fp).wtk t5 (L2.thn ti fun r s6 ⟨u, hr, h6⟩ t6 => ?_)
        subst hr
        refine (G.blk s3 E3.H scope ce fp).wtk t6 (L2.thn h6 fun _ s7 ⟨x, H7, I7, r7, y7, st7, n7⟩ t7 => ?_)
        obtain ⟨E7, eH7, x7, w7, rx⟩ := g2 x H7 y7
        subst eH7
        have I7' := I7.pinned (stat I7 n7) (T.obj _ _ st7)
        have h6 := Out.bind.mp (Out.bind.mp h5)
        obtain ⟨ρ8, hb8, h8⟩ := (Out.bind.mp h6).ofO
        have f7 : (G.blk s3 E3.H scope ce fp).Fr E7 (L2.wipe σ (tgNames t)) (wipeE ρ (tgNames t)) := f5.mono x7
        refine (G.blk s3 E3.H scope ce fp).wtk t7 (pg.run _ s7 _ E7 _ ρ8 st5 _ x u _ I7' w7 f7 (.inr rx) (fun _ => rx) r7 hb8 fun σ8 s8 I8 f8 hσ8 t8 => ?_)
        have x07 := x05.trans x7
        have e07 : ∀ c t, G.er E σ c t → (G.blk s3 E3.H scope ce fp).er E7 σ8 c t := fun c t z => Cfg.er_ext (G := G) (σ := σ) x07 z
        refine pt.thn' I8 w7 f8 t8 e07 h8 fun b st9 E9 s9 x9 w9 I9 t9 h9 => ?_
        have x79 := x7.trans x9
        -- the turn's end
        have fin : ∀ {s' : Shared} {E' : WS} {st' : Sto} {ds' : List (D × D)} {us' : List (Key × V)}, Inv (G.blk s3 E3.H scope ce fp).X ([] ++ pinsAt fp s7.heap) σ8 E'.H s' → G.WO E' st' → Ext E2 E' → (E'.H Ad = some (.dK us') ∧ RepK G.X.K E' ds' us' ∧ Ad ∉ E'.μ ∧ ¬ E'.Fz Ad) → G.Tk s' →
            Out ((dcTurns (still st1 xs.2) turn (xs.1.drop (i + 1)) ds' st').bind fun ds s => .ok (D.dct ds, Kd.fr) s) P (G.er E σ) → ∃ m, m < n ∧ Inn m s' := fun {s' E' st' ds' us'} I' w' x' hD' t' h' => by
          have pin' : ∀ b ∈ fp, ∀ o, s7.heap.get? b = some o → s'.heap.get? b = some o ∧ E'.H b = none := fun b hb o e =>
            let z := I'.pin (b, o) (List.mem_append_right _ (List.mem_append_right _ (mem_pinsAt hb e)))
            ⟨z.1, z.2.1⟩
          have hl : (L2.wipe σ (tgNames t)).length = σ8.length := by rw [I'.len]; exact I5.len
          refine ⟨xs.1.length - (i + 1), by omega, i + 1, E', st', ds', us', rfl, hlt, (I'.unpinned (pins := [])).weak hl (fun j v e => ?_), T.keep _ _ _ st7 fun b hb o e => (pin' b hb o e).1, fun b hb => ?_, w', x', hD', t', h'⟩
          · obtain ⟨_, hj⟩ := wipe_some e
            rw [hσ8 j hj]
            exact e
          · obtain ⟨o, e, _⟩ := T.obj _ _ st7 b hb
            exact (pin' b hb o e).2
        have hD9 : E9.H Ad = some (.dK us) := x79.pres Ad _ hD5 nm5 nt_dK
        have nm9 := x79.there hD5 nm5
        have nf9 : ¬ E9.Fz Ad := fun z => by
          rcases x79.fzn Ad z with z | z
          · exact nf5 z
          · rw [hD5] at z; cases z
        cases b with
        | false =>
          simp only [Bool.false_eq_true, if_false] at h9 ⊢
          exact fin I9 w9 (x5.trans x79) ⟨hD9, rA5.last x79.last, nm9, nf9⟩ t9 (Out.bind.mpr h9)
        | true =>
          simp only [if_true] at h9 ⊢
          have f9 : (G.blk s3 E3.H scope ce fp).Fr E9 σ8 ρ8 := f8.mono x9
          refine pk.thn' I9 w9 f9 t9 (fun c t z => Cfg.er_ext (G := G) (σ := σ) (x07.trans x9) z) (Out.bind.mpr (Out.bind.mp h9)) fun y st10 E10 vk uk s10 x10 w10 r10 I10 ruk t10 h10 => ?_
          refine pe.thn' I10 w10 (f9.mono x10) t10 (fun c t z => Cfg.er_ext (G := G) (σ := σ) (x07.trans (x9.trans x10)) z) h10 fun z st11 E11 vz uz s11 x11 w11 r11 I11 ruz t11 h11 => ?_
          obtain ⟨d, hkp, h12⟩ := (Out.bind.mp h11).ofO
          obtain ⟨ed, E12, eH12, x12, l12, w12, r12⟩ := keep_ok x11 w11 r11 hkp
          subst ed
          have x912 := x10.trans x12
          have hD12 : E12.H Ad = some (.dK us) := x912.pres Ad _ hD9 nm9 nt_dK
          have nm12 := x912.there hD9 nm9
          have nf12 : ¬ E12.Fz Ad := fun z => by
            rcases x912.fzn Ad z with z | z
            · exact nf9 z
            · rw [hD9] at z; cases z
          rw [← eH12] at I11
          have h12 : Out ((if isKey y.1 && decide (ds.length < line) then dcTurns (still st1 xs.2) turn (xs.1.drop (i + 1)) (dput ds y.1 z.1) st11 else .no).bind fun ds s => .ok (D.dct ds, Kd.fr) s) P (G.er E σ) := Out.bind.mpr h12
          split at h12
          · rename_i hkl
            rw [Bool.and_eq_true, decide_eq_true_eq] at hkl
            obtain ⟨k', hk'⟩ := isKey_of hkl.1
            have hm : isMut y.1 = false := by cases h : y.1 <;> rw [h] at hkl <;> first | rfl | (simp [isKey] at hkl)
            have rk := rep_notmut hm (r10.x.ext x12)
            have e := rep_key hk' rk.c
            subst e
            have rK12 : RepK G.X.K E12 ds us := rA5.last (x79.trans x912).last
            have lo := last_over (o' := .dK (L2.putK us k' vz)) hD12 (.inr ⟨_, rfl⟩) nf12
            have xo : Ext E2 (E12.put Ad (.dK (L2.putK us k' vz))) := ext_over (x5.trans (x79.trans x912)) hDn hD12 (.inr ⟨_, rfl⟩) nf12
            have wo : G.WO (E12.put Ad (.dK (L2.putK us k' vz))) st11 := w12.over hD12 (.inr ⟨_, rfl⟩) nf12 nm12
            have rKo : RepK G.X.K (E12.put Ad (.dK (L2.putK us k' vz))) (dput ds y.1 z.1) (L2.putK us k' vz) := (rK12.last lo).put hk' (rk.last lo) (r12.last lo)
            exact (G.blk s3 E3.H scope ce fp).wtk t11 (d_dictSet (X := (G.blk s3 E3.H scope ce fp).X) I11 hD12 (by rw [← rK12.length, ← line_eq]; exact hkl.2) ruk ruz fun s12 I12 t12 => fin I12 wo xo ⟨upd_same, rKo, nm12, nf12⟩ t12 h12)
          · exact h12.elim
      · exact h5.elim
    · have ei : i = xs.1.length := by omega
      subst ei
      rw [List.drop_length] at h5
      simp only [dcTurns] at h5
      split at h5
      · rename_i hch
        have stop := (wk E5 st5 w5 sc (still_view hch)).2
        have td := T.done (G.blk s3 E3.H scope ce fp).X rfl rfl rfl ok.calm _ [] s5 _ E5.H (G.blk s3 E3.H scope ce fp).X.xe I5 (stat I5 n5) tn5 stop
        refine (G.blk s3 E3.H scope ce fp).wtk t5 (L2.thn td fun r s6 ⟨hr, I6⟩ t6 => ?_)
        subst hr
        have I7 : Inv G.X pins σ E5.H s6 := I3.call' (ch := fp) I6.os I6.base I6.hok I6.bare fun b hb => ⟨(f3 b hb).1.2.2.2.1, (f3 b hb).1.2.1, (f3 b hb).1.2.2.2.2.1, (f3 b hb).1.2.2.2.2.2⟩
        have nC : E5.H ce.locals = none := I6.free
        obtain ⟨m, hn, _⟩ := I6.loc
        have hn : s6.heap.Ns ce.locals m := hn
        have hDe : E.H Ad = none := x2.up Ad hDn
        exact hRR Ad s6 m E5 ds st5 ce x05 w5 ⟨⟨us, hD5, rA5⟩, nf5, nm5, hDe⟩ I7 hn (I3.fpOk (Nat.le_of_eq cL.symm) nC) t6 h5
      · exact h5.elim
  exact codeAny_compStart_dict loop (T.self G.X.A 0 _ _ _ st4 loop)
/-- as a value -/
theorem se_dc {kx vx tg iter : Expr} {ifs : List Expr} {scope : Scope} {own : List (Str × Nat)} {t : Tg} {pos : Pos} {mi : Env → Sto → R (List D × List (D × Kd))} {mt : Env → Sto → R Bool} {mk mv : Env → Sto → R (D × Kd)} (ok : GOk G L) (hi : SI G tg iter mi) (bok : BlkOk G.X.N G.X.env.scope scope own) (hnm : own.map (·.2) = tgNames t)
    (hg : G.every L scope fun G' => SG G' tg t) (ht : G.every L scope fun G' => STs G' ifs mt) (hk : G.every L scope fun G' => SE G' kx mk) (he : G.every L scope fun G' => SE G' vx mv) (hs : ∀ x, foldedSetIterable iter G.X.env x = pure x) :
    SE G (.DictComp kx vx [⟨tg, iter, ifs, 0⟩] scope pos) (fun ρ s => (mi ρ s).bind fun xs s => (dcTurns (still s xs.2) (fun x s => (ofO (bindTg s (wipeE ρ (tgNames t)) x t) s).bind fun ρ' s => (mt ρ' s).bind fun b s =>
        if b then (mk ρ' s).bind fun y s => (mv ρ' s).bind fun z s => (ofO (keep z) s).bind fun d s => .ok (some (y.1, d)) s else .ok none s) xs.1 [] s).bind fun ds s => .ok (.dct ds, .fr) s) := by
  refine ⟨fun pins s σ E ρ st Q I w f tk hO => ?_⟩
  rw [arm_eval_DictComp]
  refine dc_run (use := none) (P := G.okP pins σ E Q) ok hi bok hnm hg ht hk he hs I w f tk hO fun Ad s' m E' ds st' ce x' w' fr I' hn fp t' hP => ⟨m, hn, fun h'' sb => ?_⟩
  obtain ⟨f0, f1, f2, f3, f4, f5⟩ := fp
  exact hP E' (.ref Ad) _ _ x' w' ⟨Ad, rfl, fr⟩ (I'.turned (t' := s'.toks) (fun b o hb e => (sb.2 b hb).trans e) f0 f1 f3 f4 f5) rfl
end
end RS
end S20
section S21
set_option autoImplicit false
set_option linter.all false
set_option maxRecDepth 100000
set_option Elab.async false
/-! C3: calls of defs. -/
namespace RS
open PySem PySem.Spec PyProof.Rows L2

section
variable {X : Cx} {pins : List (Addr × Obj)} {σ : L2.St} {H : Hp} {s s' : Shared} {L : Addr} {W : XK}
/-- a call's exception: it flies -/
theorem XF.of_call (I : Inv X pins σ H s) {u : Value} (c : L2.CX X.prog X.w X.stack H s W u s') : XF X L W u s' := by
  obtain ⟨a, B, sI, pins', σ', H', cls, d, eu, I', nb, up, sky, na, os, ag, w⟩ := XE.of_call (W := fun cls d _ H => W cls d H) I (fun _ _ _ h => h) c
  obtain ⟨a2, B2, H2, cls2, d2, eu2, fl2, _⟩ := c
  subst eu
  cases eu2
  obtain ⟨_, _, _, oe, vs, T, oT, ts, he, _, hd, h1, _, _, hT, hdT, h3⟩ := fl2
  refine ⟨a, B, sI, pins', σ', H', cls, d, rfl, I', nb, up, .inr (.inl ?_), na, os, ag, w⟩
  rcases sky with ⟨_, _, _, oe', vs', he', _, hd', h1'⟩ | fl | ⟨_, _, _, oe', vs', T', oT', ts', he', _, hd', h1', _, _, hT', hdT', h3'⟩
  · rw [he] at he'; cases he'
    rw [hd] at hd'; cases hd'
    rw [h1] at h1'; cases h1'
  · exact fl
  · rw [he] at he'; cases he'
    rw [hd] at hd'; cases hd'
    rw [h1] at h1'; cases h1'
    rw [hT] at hT'; cases hT'
    rw [hdT] at hdT'; cases hdT'
    rw [h3] at h3'
    cases h3'
end

/-- what a def promises -/
def spF (K : PySem.W.Frag) (J : Inf) (np : Nat) (mc : List D → Sto → R (D × Kd)) : Sp := fun vs H Q E =>
  vs.length = np ∧ ∃ (E₀ : WS) (ds : List D) (st : Sto), E₀.H = H ∧ WSOk K J E₀ st ∧ RepA K E₀ ds vs ∧
    Out (mc ds st) (fun x st' => ∀ E' v, Ext E₀ E' → WSOk K J E' st' → RepR K E₀ E' x.1 x.2 v → Q v E'.H) (fun c st' => ∀ E', Ext E₀ E' → WSOk K J E' st' → E (.ref (J.ca c)) none E'.H)

section
variable {G : Cfg} {L : Addr}
theorem GOk.passes (ok : GOk G L) : Passes (L2.CX G.X.prog G.X.w) G.X G.W := fun pins σ H s e s' I c => ok.takes e s' (XF.of_call I c)
variable {k np : Nat} {f : Addr} {fd : FuncData} {ps : List Str} {mc : List D → Sto → R (D × Kd)} {x : Str} {p pos : Pos} {e : Expr} {es : List Expr} {ms : Env → Sto → R (List D)}
theorem se_call (ok : GOk G L) (F : FnOk G.X.prog G.X.w G.X.K G.X.mg G.X.base (L2.CX G.X.prog G.X.w) k f fd ps (spF G.X.K G.J np mc)) (hr : Room k G.X.A) (hg : Gl G.X x) (hm : G.X.mg x = some (.ref f)) (hk : PySem.W.keepIn G.X.K (.ref f) = true) (hb : Binds G.X.K fd ps [])
    (hlen : ∀ ds s, ds.length ≠ np → mc ds s = .no) (ha : SA G (e :: es) ms) (hdb : (x == ("__debug__" : Str)) = false) (he : starEach (e :: es) G.X.env = (false, eval e G.X.env) :: starEach es G.X.env) (hpl : (backTo pos (starEach es G.X.env)).any (·.1) = false) :
    SE G (.Call (.Name x p) (e :: es) [] pos) (fun ρ s => (ms ρ s).bind fun ds s => mc ds s) := by
  refine ⟨fun pins s σ E ρ st Q I w f0 tk hO => ?_⟩
  refine wpAny_Call_Name_kw (ld_glob I hg hm ?_ hdb)
  refine PySem.W.callWith_K (h₀ := G.X.base) I.ok.mod.kin hk (ha.run pos pins s σ E ρ st _ I w f0 tk ((Out.bind.mp hO).mono (fun ds st1 h1 E1 vs us s1 x1 w1 r1 I1 rv => ⟨I1.kIn, ?_⟩) fun _ _ z => z)) he hpl
  have hl : ds.length = np := by
    by_cases q : ds.length = np
    · exact q
    · rw [hlen ds st1 q] at h1; exact h1.elim
  refine L2.thn (run_fn (Q := fun v H2 => ∃ (x : D × Kd) (st2 : Sto) (E2 : WS), E2.H = H2 ∧ Ext E1 E2 ∧ G.WO E2 st2 ∧ RepR G.X.K E1 E2 x.1 x.2 v ∧ G.okP pins σ E Q x st2) F hr hb .nil ok.passes I1 rv ?_) fun u s2 ⟨v, H2, I2, ru, x, st2, E2, eH, x2, w2, r2, h2⟩ => ?_
  · rw [List.append_nil]
    refine ⟨by rw [← r1.length]; exact hl, E1, ds, st1, rfl, w1, r1, h1.mono (fun x st2 h2 E2 v x2 w2 r2 => ⟨x, st2, E2, rfl, x2, w2, r2, h2⟩) fun c st2 h2 E2 x2 w2 => h2 E2 (x1.trans x2) w2⟩
  · subst eH
    exact h2 E2 v u s2 (x1.trans x2) w2 (r2.from x1) I2 ru
theorem se_call0 (ok : GOk G L) (F : FnOk G.X.prog G.X.w G.X.K G.X.mg G.X.base (L2.CX G.X.prog G.X.w) k f fd ps (spF G.X.K G.J np mc)) (hr : Room k G.X.A) (hg : Gl G.X x) (hm : G.X.mg x = some (.ref f)) (hk : PySem.W.keepIn G.X.K (.ref f) = true) (hb : Binds G.X.K fd ps [])
    (hnp : np = 0) (hdb : (x == ("__debug__" : Str)) = false) :
    SE G (.Call (.Name x p) [] [] pos) (fun ρ s => mc [] s) := by
  refine ⟨fun pins s σ E ρ st Q I w f0 tk hO => ?_⟩
  refine wpAny_Call_Name_kw (ld_glob I hg hm ?_ hdb)
  refine PySem.W.callWith_K0 I.kIn hk ?_
  refine L2.thn (run_fn (us := []) (vs := []) (Q := fun v H2 => ∃ (x : D × Kd) (st2 : Sto) (E2 : WS), E2.H = H2 ∧ Ext E E2 ∧ G.WO E2 st2 ∧ RepR G.X.K E E2 x.1 x.2 v ∧ G.okP pins σ E Q x st2) F hr hb .nil ok.passes I .nil ?_) fun u s2 ⟨v, H2, I2, ru, x, st2, E2, eH, x2, w2, r2, h2⟩ => ?_
  · refine ⟨by rw [hnp]; rfl, E, [], st, rfl, w, by rw [RepA]; rfl, hO.mono (fun x st2 h2 E2 v x2 w2 r2 => ⟨x, st2, E2, rfl, x2, w2, r2, h2⟩) fun c st2 h2 E2 x2 w2 => h2 E2 x2 w2⟩
  · subst eH
    exact h2 E2 v u s2 x2 w2 r2 I2 ru
end

/-! ### a def by its body -/
section
variable {P : Program} {w : World} {K : PySem.W.Frag} {mg : Str → Option Value} {base : Heap} {J : Inf} {N ps : List Str} {qual : Str} {scope : Scope} {f : Addr} {cdv : Value}
/-- the frame's configuration -/
abbrev cfgOf (P : Program) (w : World) (K : PySem.W.Frag) (mg : Str → Option Value) (base : Heap) (J : Inf) (N : List Str) (qual : Str) (scope : Scope) (f : Addr) (cdv : Value) (tk : Bool) (A : Around) (outer : List PySem.Env) (s : Shared) (E₀ : WS) (E : XK) : Cfg :=
  { J := J, X := cxOf (L2.CX P w) P w K mg base N qual scope f cdv A outer s E₀.H E, E₀ := E₀, W := E, tk := tk }
theorem gok_of {k : Nat} {tk : Bool} {A : Around} {outer : List PySem.Env} {s : Shared} {E₀ : WS} {E : XK} (nd : N.Nodup) (hr : Room k (A.deeper (envOfC qual scope s.heap.objs.size f cdv))) : GOk (cfgOf P w K mg base J N qual scope f cdv tk A outer s E₀ E) s.heap.objs.size where
  calm := rfl
  nd := nd
  units := by have := hr.un; show (A.deeper _).units + 128 < _; omega
  frame := rfl
  stack := ⟨_, _, rfl, rfl⟩
  takes := fun u s' x => takes_of (X := cxOf (L2.CX P w) P w K mg base N qual scope f cdv A outer s E₀.H E) (E := E) rfl rfl rfl rfl u s' (XF.xe (X := cxOf (L2.CX P w) P w K mg base N qual scope f cdv A outer s E₀.H E) x)
theorem start_fr {E₀ : WS} {ds : List D} {vs : List V} (hl : ds.length ≤ N.length) (r : RepA K E₀ ds vs) : FrR K E₀ E₀ (L2.start N vs) (ds.map (fun d => some (d, false)) ++ List.replicate (N.length - ds.length) none) := by
  have hlen := r.length
  refine ⟨by simp [L2.start, hlen], fun i d own h => ?_, fun i j d d' a _ h _ _ _ => ?_, Ext.refl E₀⟩
  · have hi : i < ds.length := by
      by_cases hi : i < ds.length
      · exact hi
      · rw [List.getElem?_append_right (by simpa using hi), List.getElem?_replicate] at h
        split at h <;> cases h
    rw [List.getElem?_append_left (by simpa using hi), List.getElem?_map] at h
    cases q : ds[i]? with
    | none => rw [q] at h; cases h
    | some d' =>
      rw [q] at h
      cases h
      obtain ⟨v, hv, rv⟩ := r.at q
      refine ⟨v, ?_, fun _ => rv, fun z => by cases z⟩
      unfold L2.start
      rw [List.getElem?_append_left (by rw [List.length_map, ← hlen]; exact hi), List.getElem?_map, hv]
      rfl
  · have hi : i < ds.length := by
      by_cases hi : i < ds.length
      · exact hi
      · rw [List.getElem?_append_right (by simpa using hi), List.getElem?_replicate] at h
        split at h <;> cases h
    rw [List.getElem?_append_left (by simpa using hi), List.getElem?_map] at h
    cases q : ds[i]? with
    | none => rw [q] at h; cases h
    | some d' => rw [q] at h; cases h
/-- what the body does, as HandS reads it -/
def tBody (K : PySem.W.Frag) (J : Inf) (E₀ : WS) (E : XK) (m : Env → Sto → R (Fl × Env)) : TS := fun D σ H => ∃ (E1 : WS) (ρ : Env) (st : Sto), E1.H = H ∧ WSOk K J E1 st ∧ FrR K E₀ E1 σ ρ ∧
  Out (m ρ st) (fun x st' => ∀ E' σ', WSOk K J E' st' → FrR K E₀ E' σ' x.2 → match x.1 with
    | .nx => D.nx σ' E'.H
    | .bk => False
    | .ct => False
    | .rt d k => ∀ v, RepR K E₀ E' d k v → D.rt v E'.H) (fun c st' => ∀ E', Ext E₀ E' → WSOk K J E' st' → E (.ref (J.ca c)) none E'.H)
theorem pss_body {tk : Bool} {A : Around} {outer : List PySem.Env} {s : Shared} {E₀ : WS} {E : XK} {body : List Stmt} {m : Env → Sto → R (Fl × Env)} (h : SSs (cfgOf P w K mg base J N qual scope f cdv false A outer s E₀ E) body m) :
    PSs (cxOf (L2.CX P w) P w K mg base N qual scope f cdv A outer s E₀.H E) body (tBody K J E₀ E m) := by
  refine ⟨fun pins s1 σ H D I ⟨E1, ρ, st, eH, w1, f1, hO⟩ => ?_⟩
  subst eH
  refine h.run pins s1 σ E1 ρ st _ I w1 f1 (fun e => by cases e) (hO.mono (fun x st' h' E' σ' fl s' l' w' f' I' r' t' => ?_) fun _ _ z => z)
  have h2 := h' E' σ' w' f'
  obtain ⟨xf, ρ'⟩ := x
  cases xf with
  | nx => cases fl <;> first | exact r'.elim | exact ⟨σ', E'.H, I', h2⟩
  | bk => exact h2.elim
  | ct => exact h2.elim
  | rt d k =>
    cases fl <;> first | exact r'.elim | skip
    obtain ⟨v, ru, rr⟩ := r'
    exact ⟨v, σ', E'.H, I', ru, h2 v rr⟩
theorem body_start {p : Prg} {call : Call} {fd : Fn} {E₀ : WS} {vs : List V} {ds : List D} {st : Sto} {Q : VK} {E : XK} (hns : fd.ns = N.length) (hnp : fd.np ≤ N.length) (w1 : WSOk K J E₀ st) (r : RepA K E₀ ds vs)
    (hO : Out (body0 p call fd ds st) (fun x st' => ∀ E' v, Ext E₀ E' → WSOk K J E' st' → RepR K E₀ E' x.1 x.2 v → Q v E'.H) (fun c st' => ∀ E', Ext E₀ E' → WSOk K J E' st' → E (.ref (J.ca c)) none E'.H)) :
    tBody K J E₀ E (execs p call fd.body) { nx := fun _ H' => Q .non H', rt := Q } (L2.start N vs) E₀.H := by
  unfold body0 at hO
  split at hO
  · rename_i hl
    refine ⟨E₀, _, st, rfl, w1, start_fr (N := N) (by rw [hl]; exact hnp) r, ?_⟩
    rw [hns, ← hl] at hO
    refine (Out.bind.mp hO).mono (fun x st' h' E' σ' w' f' => ?_) fun _ _ z => z
    obtain ⟨xf, ρ'⟩ := x
    cases xf with
    | nx => exact h' E' .non f'.ext w' ((rep_non (K := K) (E := E')).mpr rfl)
    | bk => exact h'.elim
    | ct => exact h'.elim
    | rt d k => exact fun v rr => h' E' v f'.ext w' rr
  · exact hO.elim
/-- a def of the text -/
theorem fn_body {p : Prg} {call : Call} {fd : Fn} {k : Nat} {name : Str} {params : Arguments} {body : List Stmt} {dV kV doc pm ct oc : Value} {an od : Option Addr} {osl : Array (Option Value)}
    (lk : K.lookup f = some ⟨oc, od, .func (PySem.W.fnOf name qual params body scope dV kV doc pm an cdv ct), osl⟩) (hcd : PySem.W.codeIn K cdv qual = true) (S : FnScope N ps scope)
    (hns : fd.ns = N.length) (hnp : fd.np = ps.length)
    (hbody : ∀ (A : Around) (outer : List PySem.Env) (s : Shared) (E₀ : WS) (E : XK), Room k (A.deeper (envOfC qual scope s.heap.objs.size f cdv)) → GOk (cfgOf P w K mg base J N qual scope f cdv false A outer s E₀ E) s.heap.objs.size →
      SSs (cfgOf P w K mg base J N qual scope f cdv false A outer s E₀ E) body (execs p call fd.body)) :
    FnOk P w K mg base (L2.CX P w) (k + 1) f (PySem.W.fnOf name qual params body scope dV kV doc pm an cdv ct) ps (spF K J fd.np (body0 p call fd)) := by
  have hpl : ps.length ≤ N.length := by have := congrArg List.length S.pre; rw [List.length_take] at this; omega
  refine fn_of lk hcd S (fun vs H Q E h => h.1.trans hnp) fun A outer s H vs Q E hr hsp => ?_
  obtain ⟨hl, E₀, ds, st, eH, w1, r1, hO⟩ := hsp
  subst eH
  exact ⟨_, pss_body (tk := false) (hbody A outer s E₀ E hr (gok_of S.nd hr)), body_start hns (by rw [hnp]; exact hpl) w1 r1 hO⟩
/-- .. a token is out as it begins -/
theorem fn_bodyT {p : Prg} {call : Call} {fd : Fn} {k : Nat} {name : Str} {params : Arguments} {body : List Stmt} {dV kV doc pm ct oc : Value} {an od : Option Addr} {osl : Array (Option Value)}
    (lk : K.lookup f = some ⟨oc, od, .func (PySem.W.fnOf name qual params body scope dV kV doc pm an cdv ct), osl⟩) (hcd : PySem.W.codeIn K cdv qual = true) (S : FnScope N ps scope) (hnc : ∀ y ∈ scope.names, y.2 ≠ .cell) (hps : 1 ≤ ps.length)
    (hns : fd.ns = N.length) (hnp : fd.np = ps.length)
    (hbody : ∀ (A : Around) (outer : List PySem.Env) (s : Shared) (E₀ : WS) (E : XK), Room k (A.deeper (envOfC qual scope s.heap.objs.size f cdv)) → GOk (cfgOf P w K mg base J N qual scope f cdv true A outer s E₀ E) s.heap.objs.size →
      SSs (cfgOf P w K mg base J N qual scope f cdv true A outer s E₀ E) body (execs p call fd.body)) :
    FnOk P w K mg base (L2.CX P w) (k + 1) f (PySem.W.fnOf name qual params body scope dV kV doc pm an cdv ct) ps (spF K J fd.np (body0 p call fd)) := by
  have hpl : ps.length ≤ N.length := by have := congrArg List.length S.pre; rw [List.length_take] at this; omega
  refine fn_ofT lk hcd S hnc hps (fun vs H Q E h => h.1.trans hnp) fun A outer s H vs Q E hr hsp => ?_
  obtain ⟨hl, E₀, ds, st, eH, w1, r1, hO⟩ := hsp
  subst eH
  refine ⟨tBody K J E₀ E (execs p call fd.body), fun pins s1 σ H D t1 I ⟨E1, ρ, st, eH, w1, f1, hO⟩ => ?_, body_start hns (by rw [hnp]; exact hpl) w1 r1 hO⟩
  subst eH
  refine (hbody A outer s E₀ E hr (gok_of S.nd hr)).run pins s1 σ E1 ρ st _ I w1 f1 (fun _ => t1) (hO.mono (fun x st' h' E' σ' fl s' l' w' f' I' r' t' => ?_) fun _ _ z => z)
  have h2 := h' E' σ' w' f'
  obtain ⟨xf, ρ'⟩ := x
  cases xf with
  | nx => cases fl <;> first | exact r'.elim | exact ⟨σ', E'.H, I', h2⟩
  | bk => exact h2.elim
  | ct => exact h2.elim
  | rt d k =>
    cases fl <;> first | exact r'.elim | skip
    obtain ⟨v, ru, rr⟩ := r'
    exact ⟨v, σ', E'.H, I', ru, h2 v rr⟩
end
end RS
end S21
section S22
set_option autoImplicit false
set_option linter.all false
set_option maxRecDepth 100000
set_option Elab.async false
/-! C4: a generator expression's own frame. -/
namespace RS
open PySem PySem.Spec PyProof.Rows L2

/-- the context of a generator's turns: it was made at s, its iterator's objects at fp -/
abbrev genX (X : Cx) (s : Shared) (H : Hp) (cenv : PySem.Env) (A' : Around) (fp : List Addr) : Cx :=
  { X with A := A', s_0 := s, H_0 := H, env := cenv, outer := X.stack, stack := cenv :: X.stack, ex := fp, fn := fun _ => false, pn := [], xe := fun _ _ => False }
section
variable {X : Cx} {pins : List (Addr × Obj)} {σ : L2.St} {H : Hp} {s : Shared}
theorem gen_start {scope : Scope} {own : List (Str × Nat)} {fp : List Addr} {code : Value} {A' : Around} {h : Heap} {gs : Array GenState} {tk : Nat} (I : Inv X pins σ H s) (ok : BlkOk X.N X.env.scope scope own) (hN : X.N.Nodup) (hnc : ∀ y ∈ scope.names, y.2 ≠ .cell)
    (hfp : ∀ b ∈ fp, FpOk X pins H b ∧ b < s.heap.objs.size) (hA : A'.frames = some (genEnv scope (cloFrom X.env.cells scope.names []) s.heap.objs.size code builtinsNs X.env :: X.stack)) (hh : A'.handled = none)
    (kp : ∀ b o, s.heap.get? b = some o → h.get? b = some o) (hns : ∃ m, h.Ns s.heap.objs.size m) (hg : AllBare gs) :
    Inv (genX X s H (genEnv scope (cloFrom X.env.cells scope.names []) s.heap.objs.size code builtinsNs X.env) A' fp) [] (L2.wipe σ (own.map (·.2))) H { s with heap := h, gens := gs, toks := tk } := by
  have hfree : ∀ y ∈ scope.names, y.2 = .free → ∃ c, X.env.cells.lookup y.1 = some c := fun y hy e => by
    rcases ok.free y hy e with k | k
    · exact I.ok.has _ (.inl k)
    · exact I.ok.has _ (.inr k)
  generalize hcenv : genEnv scope (cloFrom X.env.cells scope.names []) s.heap.objs.size code builtinsNs X.env = cenv at hA
  have hL : cenv.locals = s.heap.objs.size := by rw [← hcenv]; rfl
  have hcl : cenv.cells = cloFrom X.env.cells scope.names [] := by rw [← hcenv]; rfl
  have hsc : cenv.scope = scope := by rw [← hcenv]; rfl
  have mem : ∀ {y c}, cenv.cells.lookup y = some c → X.env.cells.lookup y = some c ∧ c < s.heap.objs.size ∧ (y, NameKind.free) ∈ scope.names := fun {y c} e => by
    rw [hcl] at e
    rcases cloFrom_mem (PySem.mem_of_lookup e) with hm | ⟨h1, rfl⟩
    · cases hm
    · obtain ⟨c, hc⟩ := hfree _ h1 rfl
      rw [hc]
      obtain ⟨w, z⟩ := I.cell _ _ hc
      exact ⟨rfl, z.lt, h1⟩
  have look : ∀ {y}, scope.names.lookup y = some .free → ∃ c, cenv.cells.lookup y = some c ∧ X.env.cells.lookup y = some c := fun {y} hl => by
    have hy : (y, NameKind.free) ∈ scope.names := PySem.mem_of_lookup hl
    obtain ⟨c', e'⟩ := mem_lookup (cloFrom_has (cells := X.env.cells) (acc := []) hy)
    rw [← hcl] at e'
    exact ⟨c', e', (mem e').1⟩
  have okB : (genX X s H cenv A' fp).Ok := by
    refine ⟨I.ok.mod, by show cenv.scope.kind = _; rw [hsc]; exact ok.kind, by show cenv.globals = _; rw [← hcenv]; exact I.ok.glob, by show cenv.builtins = _; rw [← hcenv]; rfl, by show s.heap.objs.size ≤ cenv.locals; rw [hL]; exact Nat.le_refl _,
      fun y z c e1 e2 => I.ok.inj y z c (mem e1).1 (mem e2).1, fun y hy => ?_, fun y c z e => (by cases z), fun _ => hh, hA, .inr ⟨rfl, by show cenv.frame = _; rw [hL, ← hcenv]; rfl⟩, fun b hb => ⟨?_, fun y c e z => ?_⟩, I.bs, Nat.le_trans I.ok.bsz I.sz, fun b o e hb => ?_, fun b hb z => ?_, I.stack, I.stkFree⟩
    · show ∃ c, cenv.cells.lookup y = some c
      have key : ∀ k, cenv.kindOf y = some k → (k = .cell ∨ k = .free) → ∃ c, cenv.cells.lookup y = some c := fun k hk hk' => by
        unfold Env.kindOf at hk
        rw [hsc] at hk
        rcases hk' with rfl | rfl
        · exact absurd rfl (hnc _ (PySem.mem_of_lookup hk))
        · obtain ⟨c, h1, _⟩ := look hk
          exact ⟨c, h1⟩
      rcases hy with hy | hy
      · exact key _ hy (.inl rfl)
      · exact key _ hy (.inr rfl)
    · show b ≠ cenv.locals
      rw [hL]; exact Nat.ne_of_lt (hfp b hb).2
    · exact (hfp b hb).1.2.2.2.2.1 y c (mem e).1 z
    · rcases (hfp b hb).1.2.2.2.1 with z | z
      · exact I.ok.noex b o e z
      · exact absurd (Nat.lt_of_lt_of_le (Heap.lt_size e) (Nat.le_trans I.ok.bsz z)) (Nat.lt_irrefl _)
    · rcases List.mem_cons.mp (I.stkSub b z) with z | z
      · exact (hfp b hb).1.2.1 z
      · exact (hfp b hb).1.2.2.1 z
  obtain ⟨m, hm⟩ := hns
  refine ⟨okB, rfl, hg, Un.kept kp, ⟨m, by show Heap.Ns _ cenv.locals _; rw [hL]; exact hm, fun i y av e1 e2 e3 => ?_⟩, fun y c e => ?_, ?_, fun y c e => ?_, fun p hp => absurd (show p ∈ ([] : List (Addr × Obj)) from hp) (by simp), I.hok.kept kp, by rw [wipe_length]; exact I.len⟩
  · obtain ⟨e2, hne⟩ := wipe_some e2
    have hfr : scope.names.lookup y = some .free := by
      have no : ∀ k, scope.names.lookup y = some k → ¬ (k = .local ∨ k = .cell) := fun k e hh => by
        rcases ok.own _ (PySem.mem_of_lookup e) hh with e' | e'
        · obtain ⟨p, hp, hpy⟩ := List.mem_map.mp e'
          have e3 := ok.ix p hp
          have : p.1 = y := hpy
          rw [this] at e3
          exact hne (List.mem_map.mpr ⟨p, hp, nodup_ix hN e3 e1⟩)
        · exact e' (List.mem_of_getElem? e1)
      have e3 : Vis cenv.scope y := e3
      rw [hsc] at e3
      rcases e3 with e3 | e3 | e3
      · exact absurd (.inl rfl) (no _ e3)
      · exact absurd (.inr rfl) (no _ e3)
      · exact e3
    obtain ⟨m', hn, hl⟩ := I.loc
    have hvis : Vis X.env.scope y := (ok.free _ (PySem.mem_of_lookup hfr) rfl).elim (fun k => .inr (.inl k)) (fun k => .inr (.inr k))
    obtain ⟨w, r, q⟩ := hl i y av e1 e2 hvis
    refine ⟨w, r, .inr ⟨.inr (by show cenv.scope.names.lookup y = _; rw [hsc]; exact hfr), ?_⟩⟩
    obtain ⟨c, h1, h2⟩ := look hfr
    rcases q with ⟨k, _⟩ | ⟨_, c', e', z⟩
    · have k : X.env.scope.names.lookup y = some .local := k
      rcases ok.free _ (PySem.mem_of_lookup hfr) rfl with k' | k' <;> rw [show X.env.scope.names.lookup y = _ from k'] at k <;> cases k
    · rw [h2] at e'; cases e'
      exact ⟨c, h1, z.keeps kp⟩
  · have e : cenv.cells.lookup y = some c := e
    obtain ⟨v, z⟩ := I.cell y c (mem e).1
    exact ⟨v, z.keeps kp⟩
  · show H cenv.locals = none
    rw [hL]
    exact I.hok.fresh (Nat.le_refl _)
  · exact I.freeC y c (mem e).1
end
end RS
end S22
section S23
set_option autoImplicit false
set_option linter.all false
set_option maxRecDepth 100000
set_option Elab.async false
/-! C5: a generator's turns. -/
namespace RS
open PySem PySem.Spec PyProof.Rows L2

section
variable {X : Cx} {pins : List (Addr × Obj)} {σ : L2.St} {H : Hp} {s s' : Shared}
/-- somebody else wrote what is not held -/
theorem inv_hand {ch : List Addr} (I : Inv X pins σ H s) (hch : ∀ b ∈ ch, (b ∈ X.ex ∨ X.s_0.heap.objs.size ≤ b) ∧ b ≠ X.env.locals ∧ (∀ x c, X.env.cells.lookup x = some c → c ≠ b) ∧ ∀ p ∈ X.pn ++ pins, p.1 ≠ b)
    (hH : ∀ b ∈ ch, H b = none) (os : s'.os = s.os) (hg : AllBare s'.gens) (k : ∀ b o, b ∉ ch → s.heap.get? b = some o → s'.heap.get? b = some o) : Inv X pins σ H s' := by
  have nt : ∀ b u, H b = some u → b ∉ ch := fun b u q hb => by rw [hH b hb] at q; cases q
  refine I.call' (ch := ch) os ⟨fun b o e _ _ hc => k b o hc e, fun b o e _ _ hc => ⟨o.slots, k b o hc e⟩, fun _ _ _ n _ => n, fun b o e hc => ⟨o, k b o hc e⟩, fun _ _ e => e, fun _ _ _ e => e, fun b ps e => ⟨#[], by rw [e]; simp⟩⟩ (fun b u q => ?_) hg hch
  refine (I.hok b u q).stay (fun c v hc y => k c v ?_ y) (fun _ y => y) fun _ _ y => y
  rcases hc with y | y
  · rw [y]; exact nt b u q
  · exact nt c _ y
end

/-- the configuration of a generator's turns -/
abbrev Cfg.gen (G : Cfg) (s : Shared) (H : Hp) (cenv : PySem.Env) (A' : Around) (fp : List Addr) : Cfg := { G with X := genX G.X s H cenv A' fp, W := fun _ _ _ => False, tk := false }
theorem GOk.gen {G : Cfg} {L : Addr} (ok : GOk G L) {s : Shared} {H : Hp} {scope : Scope} {cl : List (Str × Addr)} {C bi : Addr} {code : Value} {A' : Around} {fp : List Addr} (hu : A'.units + 128 < cLine) : GOk (G.gen s H (genEnv scope cl C code bi G.X.env) A' fp) C where
  calm := ok.calm
  nd := ok.nd
  units := hu
  frame := rfl
  stack := ⟨_, _, rfl, rfl⟩
  takes := fun u s' ⟨_, _, _, _, _, _, _, _, _, _, _, _, _, _, _, _, w⟩ => w

/-- what a generator and its consumer agree upon -/
structure GenP where
  G : Cfg
  pins : List (Addr × Obj)
  σ : L2.St
  E₄ : WS
  a : Addr
  g : Nat
  ks : List Addr
  own : List D → List V → List (Addr × Obj) → Prop
  Pre : Nat → List D → List D → Sto → Prop
  Itm : Nat → List D → D → List D → Sto → Prop
  Dn : List D → Sto → Prop
/-- what stands when it sleeps -/
structure GenP.At (p : GenP) (ds : List D) (us : List V) (kp : List (Addr × Obj)) (E : WS) (st : Sto) (s : Shared) : Prop where
  own : p.own ds us kp
  ks : kp.map (·.1) = p.ks
  rep : RepA p.G.X.K E ds us
  ext : Ext p.E₄ E
  wo : p.G.WO E st
  inv : Inv p.G.X p.pins p.σ E.H s
  kp : ∀ q ∈ kp, s.heap.get? q.1 = some q.2 ∧ E.H q.1 = none
def GenP.Yl (p : GenP) (n : Nat) (v : Value) (s : Shared) (kap : Resume → Shared → Prop) : Prop :=
  ∃ ds us d x E st rem kp, p.At ds us kp E st s ∧ Rep p.G.X.K E d x ∧ RelV x v ∧ s.heap.IsGen p.a p.g ∧ p.Itm n ds d rem st ∧
    ∀ s' kp', s'.os = s.os → AllBare s'.gens → (∀ b o, b ∉ p.ks → s.heap.get? b = some o → s'.heap.get? b = some o) → p.own (ds ++ [d]) (us ++ [x]) kp' → kp'.map (·.1) = p.ks →
      (∀ q ∈ kp', s'.heap.get? q.1 = some q.2 ∧ ∀ v, q.2.data ≠ .cell v) → p.Pre n (ds ++ [d]) rem st → kap (.send .none) s'
def GenP.En (p : GenP) (s : Shared) : Prop := ∃ ds us E st kp, p.At ds us kp E st s ∧ p.Dn ds st
/-- (the count of a segment is by one more than the agreement's) -/
abbrev GenP.Y (p : GenP) : Protocol := fun n _ v s kap => ∃ m, n = m + 1 ∧ p.Yl m v s kap
abbrev GenP.R (p : GenP) : GenEnd := fun _ _ r s => r = .ok .next ∧ p.En s

theorem over_genL {A : Around} {elt : Expr} {gens : List Comprehension} {scope : Scope} {pos : Pos} {it acc : Value} {env : PySem.Env} : A.over (.compLoop (.GeneratorExp elt gens scope pos) 0 it acc env) [] = A.deeper env := by
  first
    | rfl
    | (obtain ⟨hd, d, fr, gs, u⟩ := A; simp [Around.over, Around.deeper, marksOver, frameCount, unitsOf, envsOf, guardsOf, pushEnvs, pushGuards, Code.envs, Code.env?, Code.isFrame, Code.guards, Code.isGuard, Code.weight, Code.frames, Code.isCreation, Code.isCaller, Code.cUnits])
theorem over_genS {A : Around} {elt : Expr} {gens : List Comprehension} {scope : Scope} {pos : Pos} {it acc : Value} {env : PySem.Env} : A.over (.compStart (.GeneratorExp elt gens scope pos) 0 it acc env) [] = A.deeper env := by
  first
    | rfl
    | (obtain ⟨hd, d, fr, gs, u⟩ := A; simp [Around.over, Around.deeper, marksOver, frameCount, unitsOf, envsOf, guardsOf, pushEnvs, pushGuards, Code.envs, Code.env?, Code.isFrame, Code.guards, Code.isGuard, Code.weight, Code.frames, Code.isCreation, Code.isCaller, Code.cUnits])

section
variable {p : GenP} {L : Addr} {s₄ : Shared} {cenv : PySem.Env} {A : Around} {fp : List Addr} {go : Obj} {own : List (Str × Nat)}
variable {elt tg iter : Expr} {ifs : List Expr} {scope : Scope} {t : Tg} {pos : Pos} {it : Addr} {tn : Nat → Heap → Prop} {J : It} {xs : List D × List (D × Kd)} {vs : List V} {st₁ : Sto} {mt : Env → Sto → R Bool} {me : Env → Sto → R (D × Kd)} {ρ : Env}
/-- a turn of the model -/
def genTurn (ρ : Env) (t : Tg) (mt : Env → Sto → R Bool) (me : Env → Sto → R (D × Kd)) (x : D) (s : Sto) : R (Option D) :=
  (ofO (bindTg s (wipeE ρ (tgNames t)) x t) s).bind fun ρ' s => (mt ρ' s).bind fun b s => if b then (me ρ' s).bind fun y s => (ofO (keep y) s).bind fun d s => .ok (some d) s else .ok none s
/-- the agreement fits the turns -/
structure GenFits (p : GenP) (chk : Sto → Bool) (turn : D → Sto → R (Option D)) : Prop where
  step : ∀ n ds x rem st, p.Pre n ds (x :: rem) st → chk st = true ∧ Out (turn x st) (fun o st' => match o with | some d => ∃ m, n = m + 1 ∧ p.Itm m ds d rem st' | none => p.Pre n ds rem st') (fun _ _ => False)
  stop : ∀ n ds st, p.Pre n ds [] st → chk st = true ∧ p.Dn ds st
/-- the frame of a generator and what stands about it -/
structure GenF (p : GenP) (s₄ : Shared) (cenv : PySem.Env) (fp : List Addr) (go : Obj) (tn : Nat → Heap → Prop) : Prop where
  inv : Inv p.G.X p.pins p.σ p.E₄.H s₄
  loc : cenv.locals = s₄.heap.objs.size
  fpo : ∀ b ∈ fp, FpOk p.G.X p.pins p.E₄.H b ∧ b < s₄.heap.objs.size
  cls : go.cls = .type "generator"
  dat : ∃ nm qn, go.data = .fields #[.int p.g 0, nm, qn]
  slo : go.slots = #[]
  new : s₄.heap.objs.size < p.a
  ksn : ∀ b ∈ p.ks, s₄.heap.objs.size < b ∧ b ≠ p.a
  cel : ∀ x c, cenv.cells.lookup x = some c → c < s₄.heap.objs.size
theorem GenF.cell {tn} (F : GenF p s₄ cenv fp go tn) : ∀ v, go.data ≠ .cell v := fun v z => by
  obtain ⟨nm, qn, e⟩ := F.dat
  rw [e] at z
  cases z
theorem gen_loop (F : GenF p s₄ cenv fp go tn) (ok : GOk (p.G.gen s₄ p.E₄.H cenv (A.deeper cenv) fp) L) (T : Turn p.G.X.prog p.G.X.w p.G.X.K tg J fp it tn) (hcm : p.G.X.calm = true)
    (wk : Wk p.G J xs.1 xs.2 vs st₁) (hsrc : SrcX p.G.X.K p.E₄ xs.2 vs) (hco : cenv.scope.isCoroutine = false) (f : p.G.Fr p.E₄ p.σ ρ)
    (fit : GenFits p (still st₁ xs.2) (genTurn ρ t mt me))
    (pg : SG (p.G.gen s₄ p.E₄.H cenv (A.deeper cenv) fp) tg t) (pt : STs (p.G.gen s₄ p.E₄.H cenv (A.deeper cenv) fp) ifs mt) (pe : SE (p.G.gen s₄ p.E₄.H cenv (A.deeper cenv) fp) elt me) :
    ∀ (k i n : Nat) (s₀ s : Shared) (E : WS) (st : Sto) (ds : List D) (us : List V) (kp : List (Addr × Obj)), xs.1.length - i = k → i ≤ xs.1.length →
      Inv (p.G.gen s₄ p.E₄.H cenv (A.deeper cenv) fp).X ((p.a, go) :: kp) (L2.wipe p.σ (tgNames t)) E.H s → tn i s.heap → (∀ b ∈ fp, E.H b = none) → p.G.WO E st → Ext p.E₄ E → p.own ds us kp → kp.map (·.1) = p.ks → RepA p.G.X.K E ds us →
      p.Pre n ds (xs.1.drop i) st →
      Seg p.G.M A p.R p.Y (n + 1) s₀ (.compLoop (.GeneratorExp elt [⟨tg, iter, ifs, 0⟩] scope pos) 0 (.ref it) .none cenv) (p.G.M.den (.compLoop (.GeneratorExp elt [⟨tg, iter, ifs, 0⟩] scope pos) 0 (.ref it) .none cenv)) [] s := by
  have outer : ∀ {ps : List (Addr × Obj)} {σ' : L2.St} {E' : WS} {s' : Shared}, Inv (p.G.gen s₄ p.E₄.H cenv (A.deeper cenv) fp).X ps σ' E'.H s' → Inv p.G.X p.pins p.σ E'.H s' := fun {ps σ' E' s'} I' =>
    F.inv.call' (ch := fp) I'.os I'.base I'.hok I'.bare fun b hb => ⟨(F.fpo b hb).1.2.2.2.1, (F.fpo b hb).1.2.1, (F.fpo b hb).1.2.2.2.2.1, (F.fpo b hb).1.2.2.2.2.2⟩
  have ksA : ∀ {kp : List (Addr × Obj)}, kp.map (·.1) = p.ks → ∀ q ∈ kp, s₄.heap.objs.size < q.1 ∧ q.1 ≠ p.a := fun {kp} e q hq => F.ksn q.1 (by rw [← e]; exact List.mem_map.mpr ⟨q, hq, rfl⟩)
  have stat : ∀ {kp : List (Addr × Obj)} {σ' : L2.St} {H' : Hp} {s' : Shared}, kp.map (·.1) = p.ks → Inv (p.G.gen s₄ p.E₄.H cenv (A.deeper cenv) fp).X ((p.a, go) :: kp) σ' H' s' → (∀ b ∈ fp, H' b = none) → ∀ b ∈ fp, FpOk (p.G.gen s₄ p.E₄.H cenv (A.deeper cenv) fp).X ((p.a, go) :: kp) H' b := fun {kp σ' H' s'} ek I' hn b hb =>
    ⟨hn b hb, (I'.ok.exf b hb).1, I'.ok.exfs b hb, .inl hb, fun x c e => (I'.ok.exf b hb).2 x c e, fun q hq => by
      have hlt := (F.fpo b hb).2
      rcases List.mem_cons.mp (show q ∈ (p.a, go) :: kp from hq) with z | z
      · rw [z]; exact Nat.ne_of_gt (Nat.lt_trans hlt F.new)
      · exact Nat.ne_of_gt (Nat.lt_trans hlt (ksA ek q z).1)⟩
  intro k
  induction k with
  | zero =>
    intro i n s₀ s E st ds us kp hk hi I5 tn5 n5 w5 x5 ow ek rA pre
    have ei : i = xs.1.length := by omega
    subst ei
    rw [List.drop_length] at pre
    obtain ⟨hch, hdn⟩ := fit.stop n ds st pre
    have sc : SrcC p.G.X.K E st xs.2 vs := (hsrc.ext x5).c w5
    have stop := (wk E st w5 sc (still_view hch)).2
    show Seg _ A _ _ _ s₀ _ ((compTurn (.GeneratorExp elt [⟨tg, iter, ifs, 0⟩] scope pos) 0 (.ref it) .none cenv).onRaise (leaving cenv)) [] s
    rw [compTurn_gen, Sem.onRaise_eq_wrap]
    refine seg_bind_wrap (wpAny_standAt ?_)
    refine seg_bind_wrap ?_
    rw [over_genL]
    refine wpAny_mono (T.done (p.G.gen s₄ p.E₄.H cenv (A.deeper cenv) fp).X rfl rfl rfl ok.calm _ _ s _ E.H (fun _ _ => False) I5 (stat ek I5 n5) tn5 stop) (fun r s6 ⟨hr, I6⟩ => ?_) fun _ _ z => z.elim
    subst hr
    refine seg_end (.ok .next) ⟨rfl, ds, us, E, st, kp, ⟨ow, ek, rA, x5, w5, outer I6, fun q hq => ?_⟩, hdn⟩
    obtain ⟨h1, h2, _⟩ := I6.pin q (List.mem_append_right _ (List.mem_cons_of_mem _ hq))
    exact ⟨h1, h2⟩
  | succ k ih =>
    intro i n s₀ s E st ds us kp hk hi I5 tn5 n5 w5 x5 ow ek rA pre
    have hlt : i < xs.1.length := by omega
    have hx : xs.1[i]? = some xs.1[i] := List.getElem?_eq_getElem hlt
    rw [List.drop_eq_getElem_cons hlt] at pre
    obtain ⟨hch, h5⟩ := fit.step n ds _ _ st pre
    have sc : SrcC p.G.X.K E st xs.2 vs := (hsrc.ext x5).c w5
    have f5 : p.G.Fr E (L2.wipe p.σ (tgNames t)) (wipeE ρ (tgNames t)) := (f.mono x5).wipe _
    obtain ⟨g1, g2⟩ := (wk E st w5 sc (still_view hch)).1 i _ hx
    show Seg _ A _ _ _ s₀ _ ((compTurn (.GeneratorExp elt [⟨tg, iter, ifs, 0⟩] scope pos) 0 (.ref it) .none cenv).onRaise (leaving cenv)) [] s
    rw [compTurn_gen, Sem.onRaise_eq_wrap]
    refine seg_bind_wrap (wpAny_standAt ?_)
    refine seg_bind_wrap ?_
    rw [over_genL]
    refine wpAny_mono (T.item (p.G.gen s₄ p.E₄.H cenv (A.deeper cenv) fp).X rfl rfl rfl ok.calm i _ s _ E.H (fun _ _ => False) I5 (stat ek I5 n5) tn5 g1) (fun r s6 ⟨u, hr, h6⟩ => ?_) fun _ _ z => z.elim
    subst hr
    refine seg_bind_wrap ?_
    rw [over_genL]
    refine wpAny_mono h6 (fun _ s7 ⟨x, H7, I7, r7, y7, st7, n7⟩ => ?_) fun _ _ z => z.elim
    obtain ⟨E7, eH7, x7, w7, rx⟩ := g2 x H7 y7
    subst eH7
    have I7' := I7.pinned (stat ek I7 n7) (T.obj _ _ st7)
    unfold genTurn at h5
    obtain ⟨ρ8, hb8, h8⟩ := (Out.bind.mp h5).ofO
    have f7 : (p.G.gen s₄ p.E₄.H cenv (A.deeper cenv) fp).Fr E7 (L2.wipe p.σ (tgNames t)) (wipeE ρ (tgNames t)) := f5.mono x7
    refine seg_bind_wrap ?_
    rw [over_genL]
    refine wpAny_mono (pg.run _ s7 _ E7 _ ρ8 st _ x u (fun _ s8 => ∃ σ8, Inv (p.G.gen s₄ p.E₄.H cenv (A.deeper cenv) fp).X ((p.a, go) :: kp ++ pinsAt fp s7.heap) σ8 E7.H s8 ∧ (p.G.gen s₄ p.E₄.H cenv (A.deeper cenv) fp).Fr E7 σ8 ρ8 ∧ ∀ j, j ∉ tgNames t → σ8[j]? = (L2.wipe p.σ (tgNames t))[j]?)
      I7' w7 f7 (.inr rx) (fun _ => rx) r7 hb8 fun σ8 s8 I8 f8 hσ8 => ⟨σ8, I8, f8, hσ8⟩) (fun _ s8 ⟨σ8, I8, f8, hσ8⟩ => ?_) fun _ _ z => z.elim
    have x07 := x5.trans x7
    refine seg_bind_wrap ?_
    rw [over_genL]
    refine wpAny_mono (pt.thn' (Q := fun b s9 => ∃ st9 E9, Ext E7 E9 ∧ p.G.WO E9 st9 ∧ Inv (p.G.gen s₄ p.E₄.H cenv (A.deeper cenv) fp).X ((p.a, go) :: kp ++ pinsAt fp s7.heap) σ8 E9.H s9 ∧
        Out (if b then (me ρ8 st9).bind fun y s => (ofO (keep y) s).bind fun d s => .ok (some d) s else .ok none st9) (fun o st' => match o with | some d => ∃ m, n = m + 1 ∧ p.Itm m ds d (xs.1.drop (i + 1)) st' | none => p.Pre n ds (xs.1.drop (i + 1)) st') (fun _ _ => False))
      I8 w7 f8 (fun e => by cases e) (fun _ _ z => z.elim) h8 fun b st9 E9 s9 x9 w9 I9 t9 h9 => ⟨st9, E9, x9, w9, I9, h9⟩) (fun b s9 ⟨st9, E9, x9, w9, I9, h9⟩ => ?_) fun _ _ z => z.elim
    have x79 := x7.trans x9
    -- asleep or not, the turn's end
    have fin : ∀ {s' : Shared} {E' : WS} {kp' : List (Addr × Obj)}, kp'.map (·.1) = p.ks → Inv (p.G.gen s₄ p.E₄.H cenv (A.deeper cenv) fp).X (((p.a, go) :: kp') ++ pinsAt fp s7.heap) σ8 E'.H s' →
        Inv (p.G.gen s₄ p.E₄.H cenv (A.deeper cenv) fp).X ((p.a, go) :: kp') (L2.wipe p.σ (tgNames t)) E'.H s' ∧ tn (i + 1) s'.heap ∧ ∀ b ∈ fp, E'.H b = none := fun {s' E' kp'} ek' I' => by
      have pin' : ∀ b ∈ fp, ∀ o, s7.heap.get? b = some o → s'.heap.get? b = some o ∧ E'.H b = none := fun b hb o e =>
        let z := I'.pin (b, o) (List.mem_append_right _ (List.mem_append_right _ (mem_pinsAt hb e)))
        ⟨z.1, z.2.1⟩
      have hl : (L2.wipe p.σ (tgNames t)).length = σ8.length := by rw [I'.len]; exact I5.len
      refine ⟨I'.unpinned.weak hl (fun j v e => ?_), T.keep _ _ _ st7 fun b hb o e => (pin' b hb o e).1, fun b hb => ?_⟩
      · obtain ⟨_, hj⟩ := wipe_some e
        rw [hσ8 j hj]
        exact e
      · obtain ⟨o, e, _⟩ := T.obj _ _ st7 b hb
        exact (pin' b hb o e).2
    cases b with
    | false =>
      simp only [Bool.false_eq_true, if_false] at h9 ⊢
      obtain ⟨q1, q2, q3⟩ := fin ek I9
      exact seg_again rfl (ih (i + 1) n s₀ s9 E9 st9 ds us kp (by omega) hlt q1 q2 q3 w9 (x5.trans x79) ow ek (rA.last x79.last) h9)
    | true =>
      simp only [if_true] at h9 ⊢
      have f9 : (p.G.gen s₄ p.E₄.H cenv (A.deeper cenv) fp).Fr E9 σ8 ρ8 := f8.mono x9
      have hy : ∀ v, yieldOut cenv v = yieldValue v := fun v => by simp only [yieldOut, hco, Bool.false_eq_true, if_false]
      simp only [hy]
      rw [Sem.bind_eq_wrap', Sem.bind_eq_wrap', Sem.wrap_wrap, Sem.wrap_wrap]
      refine seg_wrap ?_
      rw [over_genL]
      refine wpAny_mono (pe.thn' (Q := fun uy s10 => ∃ y st10 E10 vy, Ext E9 E10 ∧ p.G.WO E10 st10 ∧ RepR p.G.X.K E9 E10 y.1 y.2 vy ∧ Inv (p.G.gen s₄ p.E₄.H cenv (A.deeper cenv) fp).X ((p.a, go) :: kp ++ pinsAt fp s7.heap) σ8 E10.H s10 ∧ RelV vy uy ∧
          Out ((ofO (keep y) st10).bind fun d s => .ok (some d) s) (fun o st' => match o with | some d => ∃ m, n = m + 1 ∧ p.Itm m ds d (xs.1.drop (i + 1)) st' | none => p.Pre n ds (xs.1.drop (i + 1)) st') (fun _ _ => False))
        I9 w9 f9 (fun e => by cases e) (fun _ _ z => z.elim) h9 fun y st10 E10 vy uy s10 x10 w10 r10 I10 ruy t10 h10 => ⟨y, st10, E10, vy, x10, w10, r10, I10, ruy, h10⟩) (fun uy s10 ⟨y, st10, E10, vy, x10, w10, r10, I10, ruy, h10⟩ => ?_) fun _ _ z => z.elim
      obtain ⟨d, hk', m, en, hI⟩ := (Out.bind.mp h10).ofO
      obtain ⟨ed, E11, eH11, x11, l11, w11, r11⟩ := keep_ok x10 w10 r10 hk'
      subst ed en
      rw [← eH11] at I10
      have x911 := x79.trans x11
      have hgen : ∀ {h : Heap}, h.get? p.a = some go → h.IsGen p.a p.g := fun {h} e => by
        obtain ⟨nm, qn, ed⟩ := F.dat
        exact ⟨go, nm, qn, e, F.cls, ed, F.slo⟩
      have pa := I10.pin (p.a, go) (List.mem_append_right _ (List.mem_append_left _ List.mem_cons_self))
      have pk : ∀ q ∈ kp, _ := fun q hq => I10.pin q (List.mem_append_right _ (List.mem_append_left _ (List.mem_cons_of_mem _ hq)))
      refine seg_at (seg_yield rfl rfl rfl ⟨m, rfl, ds, us, y.1, vy, E11, st10, xs.1.drop (i + 1), kp, ⟨ow, ek, rA.last x911.last, x5.trans x911, w11, outer I10, fun q hq => ⟨(pk q hq).1, (pk q hq).2.1⟩⟩, r11, ruy, hgen pa.1, hI, fun s' kp' os' hg' hkeep ow' ek' hkp' pre' => ?_⟩)
      -- woken
      have kH : ∀ b ∈ p.ks, E11.H b = none := fun b hb => by
        rw [← ek] at hb
        obtain ⟨q, hq, e⟩ := List.mem_map.mp hb
        rw [← e]
        exact (pk q hq).2.1
      have I0 : Inv (p.G.gen s₄ p.E₄.H cenv (A.deeper cenv) fp).X ([(p.a, go)] ++ pinsAt fp s7.heap) σ8 E11.H s10 := I10.pins_of fun q hq => by
        rcases List.mem_append.mp hq with z | z
        · rw [List.mem_singleton.mp z]; exact pa
        · exact I10.pin q (List.mem_append_right _ (List.mem_append_right _ z))
      have I1 : Inv (p.G.gen s₄ p.E₄.H cenv (A.deeper cenv) fp).X ([(p.a, go)] ++ pinsAt fp s7.heap) σ8 E11.H s' := inv_hand I0 (ch := p.ks) (fun b hb => by
        have hb' := F.ksn b hb
        refine ⟨.inr (Nat.le_of_lt hb'.1), by show b ≠ cenv.locals; rw [F.loc]; exact Nat.ne_of_gt hb'.1, fun x c e z => ?_, fun q hq => ?_⟩
        · exact absurd (Nat.lt_trans (by rw [← z]; exact F.cel x c e) hb'.1) (Nat.lt_irrefl _)
        · rcases List.mem_append.mp (show q ∈ [(p.a, go)] ++ pinsAt fp s7.heap from hq) with z | z
          · rw [List.mem_singleton.mp z]; exact fun e => hb'.2 e.symm
          · exact Nat.ne_of_lt (Nat.lt_trans (F.fpo q.1 (of_pinsAt z).1).2 hb'.1)) kH os' hg' hkeep
      have I2 : Inv (p.G.gen s₄ p.E₄.H cenv (A.deeper cenv) fp).X (((p.a, go) :: kp') ++ pinsAt fp s7.heap) σ8 E11.H s' := I1.pins_of fun q hq => by
        rcases List.mem_append.mp hq with z | z
        · rcases List.mem_cons.mp z with z | z
          · rw [z]; exact I1.pin (p.a, go) (List.mem_append_right _ (List.mem_append_left _ (List.mem_singleton.mpr rfl)))
          · have hb : q.1 ∈ p.ks := by rw [← ek']; exact List.mem_map.mpr ⟨q, z, rfl⟩
            have hb' := F.ksn q.1 hb
            refine ⟨(hkp' q z).1, kH q.1 hb, by show q.1 ≠ cenv.locals; rw [F.loc]; exact Nat.ne_of_gt hb'.1, fun hm => ?_, (hkp' q z).2⟩
            obtain ⟨_, o, ho, _⟩ := F.inv.stack.mem hm
            exact absurd (Nat.lt_trans (Heap.lt_size ho) hb'.1) (Nat.lt_irrefl _)
        · exact I1.pin q (List.mem_append_right _ (List.mem_append_right _ z))
      obtain ⟨q1, q2, q3⟩ := fin ek' I2
      exact seg_again rfl (ih (i + 1) m s' s' E11 st10 (ds ++ [y.1]) (us ++ [vy]) kp' (by omega) hlt q1 q2 q3 w11 (x5.trans x911) ow' ek' ((rA.last x911.last).append (by rw [RepA]; exact ⟨vy, [], rfl, r11, by rw [RepA]⟩)) pre')
end
end RS
end S23
section S24
set_option autoImplicit false
set_option linter.all false
set_option maxRecDepth 100000
set_option Elab.async false
/-! C6: generator expressions: made, woken. -/
namespace RS
open PySem PySem.Spec PyProof.Rows L2 GenW

/-! ### a table of code grows -/
section
variable {K : PySem.W.Frag} {J : Inf} {E : WS} {st : Sto} {P : Addr} {ps more : Array Value}
theorem WSOk.nfzT (w : WSOk K J E st) (h : E.H P = some (.tbl ps)) : ¬ E.Fz P := fun z => by
  obtain ⟨o, e, n⟩ := w.fzH P z
  rw [h] at e
  cases e
  exact n ps rfl
theorem ext_tab (h : E.H P = some (.tbl ps)) (nf : ¬ E.Fz P) : Ext E (E.put P (.tbl (ps ++ more))) where
  pres := fun a u e _ t => by
    show upd E.H P _ a = _
    rw [upd_ne (fun z => by rw [z, h] at e; cases e; exact t ps rfl)]; exact e
  up := fun a e => by
    have e : upd E.H P _ a = none := e
    by_cases z : a = P
    · rw [z, upd_same] at e; cases e
    · rw [upd_ne z] at e; exact e
  tup := fun a u e => by
    show upd E.H P _ a = _
    rw [upd_ne (fun z => by rw [z, h] at e; cases e)]; exact e
  frz := fun a u u' e => by
    show upd E.H P _ a = _
    rw [upd_ne (fun z => by rw [z, h] at e; cases e)]; exact e
  fz := fun a z => ⟨z, fun u e => by
    show upd E.H P _ a = _
    rw [upd_ne (show a ≠ P from fun q => nf (by rw [← q]; exact z))]; exact e⟩
  fzn := fun _ z => .inl z
  mu := ⟨[], by simp, by simp⟩
theorem WSOk.tab (w : WSOk K J E st) (h : E.H P = some (.tbl ps)) (ht : TriplesOk (ps ++ more).toList) (hd : ∀ q ∈ J.TL, q.1 ≠ P) : WSOk K J (E.put P (.tbl (ps ++ more))) st := by
  have nf := w.nfzT h
  have keep : ∀ a u, a ≠ P → E.H a = some u → (E.put P (.tbl (ps ++ more))).H a = some u := fun a u n e => by show upd E.H P _ a = _; rw [upd_ne n]; exact e
  refine ⟨w.len, w.nd, fun n c a h1 h2 => ?_, w.nfz, fun a z => ?_, fun P' hP => ?_, fun q hq => ?_⟩
  · have r := w.cell n c a h1 h2
    refine r.last (ext_tab h nf).last fun u e => keep a u (fun z => ?_) e
    rcases r.there with ⟨_, e⟩ | ⟨_, e⟩ <;> (rw [z, h] at e; cases e)
  · obtain ⟨u, e, n⟩ := w.fzH a z
    exact ⟨u, keep a u (fun q => nf (by rw [← q]; exact z)) e, n⟩
  · obtain ⟨ps', e, t⟩ := w.tg P' hP
    by_cases z : P' = P
    · rw [z]; exact ⟨_, upd_same, ht⟩
    · exact ⟨ps', keep _ _ z e, t⟩
  · obtain ⟨ps', e, t, hc⟩ := w.tl q hq
    refine ⟨ps', keep _ _ (hd q hq) e, t, fun pos cv hcv => ?_⟩
    obtain ⟨c, e1, e2⟩ := hc pos cv hcv
    exact ⟨c, e1, keep _ _ (fun z => by rw [z, h] at e2; cases e2) e2⟩
end

/-! ### woken -/
/-- at most n more come, m of them by the agreement -/
def GenP.Zz (p : GenP) (A : Around) (n : Nat) (s : Shared) : Prop :=
  s.heap.IsGen p.a p.g ∧ s.heap.NoLimit ∧ ∃ gs, s.gens[p.g]? = some gs ∧ gs.Goes p.G.M A.in1 p.R p.Y (n + 1) (.send .none) (s.setGen p.g .running)
section
variable {p : GenP}
theorem GenP.At.gens {ds : List D} {us : List V} {kp : List (Addr × Obj)} {E : WS} {st : Sto} {s s' : Shared} (h : p.At ds us kp E st s) (os : s'.os = s.os) (hg : AllBare s'.gens) (k : ∀ b o, s.heap.get? b = some o → s'.heap.get? b = some o) : p.At ds us kp E st s' :=
  ⟨h.own, h.ks, h.rep, h.ext, h.wo, inv_hand h.inv (ch := []) (by simp) (by simp) os hg fun b o _ e => k b o e, fun q hq => ⟨k _ _ (h.kp q hq).1, (h.kp q hq).2⟩⟩
/-- the next item -/
theorem gen_next {A : Around} {n : Nat} {s : Shared} {Q : Option Value → Shared → Prop} {E : Value → Shared → Prop} (hh : A.handled = none) (hroom : A.depth < recursionLimit) (z : p.Zz A n s)
    (hY : ∀ m v s1 ds us d x E st rem kp, n = m + 1 → p.At ds us kp E st s1 → Rep p.G.X.K E d x → RelV x v → p.Itm m ds d rem st →
      (∀ s2 kp', s2.os = s1.os → AllBare s2.gens → s2.heap.IsGen p.a p.g → s2.heap.NoLimit → s2.gens[p.g]? = s1.gens[p.g]? → (∀ b o, b ∉ p.ks → s1.heap.get? b = some o → s2.heap.get? b = some o) → p.own (ds ++ [d]) (us ++ [x]) kp' → kp'.map (·.1) = p.ks →
        (∀ q ∈ kp', s2.heap.get? q.1 = some q.2 ∧ ∀ v, q.2.data ≠ .cell v) → p.Pre m (ds ++ [d]) rem st → p.Zz A m s2) → s1.heap.IsGen p.a p.g → Q (some v) s1)
    (hE : ∀ s1, p.En s1 → Q none s1) : wpAny p.G.M A (pyNext (.ref p.a)) Q E s := by
  obtain ⟨hg, hl, gs, hgs, hgo⟩ := z
  have hlt : p.g < s.gens.size := (Array.getElem?_eq_some_iff.mp hgs).1
  refine wpAny_gsz (n := p.g + 1) hlt (wpAny_pyNext_genexpQ (P := fun _ _ s1 => p.En s1) hh hl hroom hg hgs hgo (fun v s1 gs' hb hy hsz => ?_) fun s1 hen h' hk hsz => ?_)
  · obtain ⟨m, em, ds, us, d, x, E, st, rem, kp, at1, rd, rv, ig, itm, back⟩ := hy
    have en : n = m + 1 := by omega
    subst en
    have hsz1 : p.g < s1.gens.size := by
      have q : (s1.setGen p.g gs').gens.size = s1.gens.size := setGen_size _ _ _
      have hsz' : p.g + 1 ≤ (s1.setGen p.g gs').gens.size := hsz
      omega
    have bare : AllBare (s1.setGen p.g gs').gens := allBare_setGen at1.inv.bare hb
    refine hY m v _ ds us d x E st rem kp rfl (at1.gens rfl bare fun _ _ e => e) rd rv itm (fun s2 kp' os2 hg2 ig2 nl2 gk hk ow' ek' hkp' pre' => ⟨ig2, nl2, gs', ?_, ?_⟩) ig
    · rw [gk]; exact setGen_at hsz1
    · exact back (s2.setGen p.g .running) kp' os2 (allBare_setGen hg2 rfl) hk ow' ek' hkp' pre'
  · obtain ⟨ds, us, E, st, kp, at1, dn⟩ := hen
    exact hE _ ⟨ds, us, E, st, kp, at1.gens rfl (allBare_setGen at1.inv.bare rfl) hk, dn⟩
end
end RS
end S24
section S25
set_option autoImplicit false
set_option linter.all false
set_option maxRecDepth 100000
set_option Elab.async false
/-! C7: a generator expression is made. -/
namespace RS
open PySem PySem.Spec PyProof.Rows L2 GenW

/-- where a consumer stands -/
structure Near (A : Around) (X : Cx) : Prop where
  frames : A.frames = some X.stack
  hd : A.handled = none
  dp : A.depth = X.A.depth
  un : A.units ≤ X.A.units + 8
theorem Near.in1 {A : Around} {X : Cx} (h : Near A X) : A.in1.frames = some X.stack ∧ A.in1.handled = none ∧ A.in1.depth = X.A.depth ∧ A.in1.units ≤ X.A.units + 9 := ⟨h.frames, h.hd, h.dp, Nat.succ_le_succ h.un⟩
theorem Near.room {A : Around} {X : Cx} {k : Nat} {cenv : PySem.Env} (h : Near A X) (r : Room (k + 1) X.A) : Room k (A.in1.deeper cenv) :=
  ⟨h.hd, by have := r.dp; have := h.in1.2.2.1; show A.in1.depth + 1 + 3 * k + 5 < _; omega, by have := r.un; have := h.in1.2.2.2; show A.in1.units + 3 + 16 * k + 200 < _; omega⟩

/-- a judgement of every frame of this generator -/
abbrev Cfg.everyG (G : Cfg) (k : Nat) (scope : Scope) (P : Cfg → Prop) : Prop := ∀ (s₄ : Shared) (H : Hp) (C : Addr) (code : Value) (A' : Around) (fp : List Addr),
  GOk (G.gen s₄ H (genEnv scope (cloFrom G.X.env.cells scope.names []) C code builtinsNs G.X.env) A' fp) C → Room k A' → P (G.gen s₄ H (genEnv scope (cloFrom G.X.env.cells scope.names []) C code builtinsNs G.X.env) A' fp)
/-- the generator expression's own names -/
structure GenOk (X : Cx) (scope : Scope) (own : List (Str × Nat)) : Prop where
  blk : BlkOk X.N X.env.scope scope own
  co : scope.isCoroutine = false
  cell : ∀ y ∈ scope.names, y.2 ≠ .cell
  dot : scope.names.lookup (".0" : Str) = some NameKind.local
/-- the def's code object, its table -/
structure CodeOk (G : Cfg) (c P : Addr) : Prop where
  tab : GxR.TabB G.X.base G.X.mg c P
  code : G.X.env.code = .ref c
  tg : P ∈ G.J.TG
  tl : ∀ q ∈ G.J.TL, q.1 ≠ P

/-- a generator that has not begun -/
def GenMade (G : Cfg) (pins : List (Addr × Obj)) (σ : L2.St) (E₄ : WS) (chk : Sto → Bool) (turn : D → Sto → R (Option D)) (xs : List D) (st₁ : Sto) (a : Addr) (s5 : Shared) : Prop :=
  ∃ g c, s5.heap.IsGen a g ∧ s5.gens[g]? = some (.fresh c) ∧ s5.heap.NoLimit ∧ a < s5.heap.objs.size ∧ Inv G.X pins σ E₄.H s5 ∧ E₄.H a = none ∧
    ∀ (ks : List Addr) (own : List D → List V → List (Addr × Obj) → Prop) (Pre : Nat → List D → List D → Sto → Prop) (Itm : Nat → List D → D → List D → Sto → Prop) (Dn : List D → Sto → Prop) (A : Around) (n : Nat) (s6 : Shared) (kp : List (Addr × Obj)),
      Near A G.X → GenFits ⟨G, pins, σ, E₄, a, g, ks, own, Pre, Itm, Dn⟩ chk turn → (∀ b ∈ ks, s5.heap.objs.size ≤ b) → own [] [] kp → kp.map (·.1) = ks → (∀ q ∈ kp, s6.heap.get? q.1 = some q.2 ∧ ∀ v, q.2.data ≠ .cell v) →
      (∀ b o, s5.heap.get? b = some o → s6.heap.get? b = some o) → s6.os = s5.os → AllBare s6.gens → s6.gens[g]? = s5.gens[g]? → s6.heap.NoLimit → Pre n [] xs st₁ → GenP.Zz ⟨G, pins, σ, E₄, a, g, ks, own, Pre, Itm, Dn⟩ A n s6

section
variable {G : Cfg} {L : Addr} {pins : List (Addr × Obj)} {s : Shared} {σ : L2.St} {E : WS} {st : Sto} {ρ : Env}
variable {elt tg iter : Expr} {ifs : List Expr} {scope : Scope} {own : List (Str × Nat)} {t : Tg} {gpos : Pos} {mi : Env → Sto → R (List D × List (D × Kd))} {mt : Env → Sto → R Bool} {me : Env → Sto → R (D × Kd)} {c P : Addr} {k : Nat}
theorem gen_make (ok : GOk G L) (hr : Room (k + 1) G.X.A) (co : CodeOk G c P) (gk : GenOk G.X scope own) (hnm : own.map (·.2) = tgNames t) (hi : SI G tg iter mi)
    (hg : G.everyG k scope fun G' => SG G' tg t) (ht : G.everyG k scope fun G' => STs G' ifs mt) (he : G.everyG k scope fun G' => SE G' elt me) (hs : ∀ x, genFold iter G.X.env x = pure x)
    (I : Inv G.X pins σ E.H s) (w : G.WO E st) (f : G.Fr E σ ρ) (tk : G.Tk s) {β : Type} {F : List D × List (D × Kd) → Sto → R β} {Pr : β → Sto → Prop} (hO : Out ((mi ρ st).bind F) Pr (G.er E σ)) {Q : Value → Shared → Prop}
    (hQ : ∀ xs st1 E1 a s5, Ext E E1 → G.WO E1 st1 → GenMade G pins σ E1 (still st1 xs.2) (genTurn ρ t mt me) xs.1 st1 a s5 → G.Tk s5 → Out (F xs st1) Pr (G.er E σ) → Q (.ref a) s5) :
    wpAny G.M G.X.A (eval (.GeneratorExp elt [⟨tg, iter, ifs, 0⟩] scope gpos) G.X.env) Q G.X.xe s := by
  have hfree : ∀ y ∈ scope.names, y.2 = .free → ∃ c, G.X.env.cells.lookup y.1 = some c := fun y hy e => by
    rcases gk.blk.free y hy e with k | k
    · exact I.ok.has _ (.inl k)
    · exact I.ok.has _ (.inr k)
  refine wpAny_GeneratorExp_make gk.co (closure_ok hfree) gk.cell gk.dot gk.blk.kind (by have := hr.dp; omega) ?_ hs
  refine hi.run pins s σ E ρ st _ I w f tk ((Out.bind.mp hO).mono (fun xs st1 h1 E2 vs itv s2 x2 w2 r2 t2 h2 => ?_) fun _ _ z => z)
  obtain ⟨it, fp, tn, J, H2, e, I2, T, st2, f2, eH2, wk⟩ := h2
  subst e eH2
  refine ⟨I2.nolimit, ?_⟩
  obtain ⟨ps, hP, hT⟩ := w2.tg P co.tg
  have nf := w2.nfzT hP
  have hPs : s2.heap.get? P = some { cls := .none, data := .fields ps } := I2.hok P _ hP
  have cd : PySem.W.CodeHd s2.heap c P := co.tab.code.keeps fun b u e => I2.bk b u e
  -- behind the code object
  have cont : ∀ (code : Value) (h3 : Heap) (tk3 : Nat) (more : Array Value), Heap.ExtBut P s2.heap h3 → s2.heap.objs.size ≤ h3.objs.size → h3.get? P = some { cls := .none, data := .fields (ps ++ more) } → TriplesOk (ps ++ more).toList → (G.Tk s2 → G.Tk { s2 with heap := h3, toks := tk3 }) →
      wpAny G.M G.X.A (builtinsFor G.X.env.globals G.X.env.builtins) (fun bi s₄ => ∀ h', h'.Ns s₄.heap.objs.size (fun y => if y = ".0" then some (.ref it) else none) → Heap.SameBut s₄.heap.objs.size (s₄.heap.push { cls := .type "frame", data := .dict #[] }) h' →
          Q (.ref h'.objs.size) { s₄ with
            gens := s₄.gens.push (.fresh (.compStart (.GeneratorExp elt [⟨tg, iter, ifs, 0⟩] scope gpos) 0 (.ref it) .none (genEnv scope (cloFrom G.X.env.cells scope.names []) s₄.heap.objs.size code bi G.X.env))),
            toks := s₄.toks + 1 + 1 + 1,
            heap := h'.push { cls := .type "generator", data := .fields #[.int s₄.gens.size 0, .str "<genexpr>" (s₄.toks + 1), .str (G.X.env.qual ++ "<genexpr>") (s₄.toks + 1 + 1)] } }) G.X.xe { s2 with heap := h3, toks := tk3 } := by
    intro code h3 tk3 more hx hsz hP3 ht3 htk
    obtain ⟨bm, ob, e1, e2, e3, e4, e5, e6, e7, e8⟩ := co.tab.bm
    have keep3 : ∀ b u, b ≠ P → s2.heap.get? b = some u → h3.get? b = some u := fun b u hb e => hx b u hb e
    refine wpAny_builtinsFor (m := G.X.mg) (by rw [I2.ok.glob]; exact (I2.mod.glob.keeps I2.bk).extBut hx co.tab.gP) e1 e2 (keep3 _ _ e4 (I2.bk _ _ e5)) e6 e7 e8 ?_
    have I4 : Inv G.X pins σ (E2.put P (.tbl (ps ++ more))).H { s2 with heap := h3, toks := tk3 } := GxR.inv_tab (g' := s2.gens) (d' := s2.drawn) I2 hP keep3 hP3 I2.bare
    have x4 : Ext E2 (E2.put P (.tbl (ps ++ more))) := ext_tab hP nf
    have w4 : G.WO (E2.put P (.tbl (ps ++ more))) st1 := w2.tab hP ht3 co.tl
    have t4 := htk t2
    have hfpP : ∀ b ∈ fp, b ≠ P := fun b hb z => by
      have := (f2 b hb).1
      rw [z, hP] at this
      cases this
    have st4 : tn 0 h3 := T.keep _ _ _ st2 fun b hb o e => keep3 b o (hfpP b hb) e
    have f4 : ∀ b ∈ fp, FpOk G.X pins (E2.put P (.tbl (ps ++ more))).H b ∧ b < h3.objs.size := fun b hb => by
      refine ⟨⟨?_, (f2 b hb).2⟩, ?_⟩
      · show upd E2.H P _ b = none
        rw [upd_ne (hfpP b hb)]
        exact (f2 b hb).1
      · obtain ⟨o, e, _⟩ := T.obj _ _ st4 b hb
        exact Heap.lt_size e
    generalize hs4 : ({ s2 with heap := h3, toks := tk3 } : Shared) = s4 at I4 t4
    have hh4 : h3 = s4.heap := by rw [← hs4]
    have hk4 : tk3 = s4.toks := by rw [← hs4]
    clear hs4
    subst hh4
    intro h' hn' hs'
    have hsz' : h'.objs.size = s4.heap.objs.size + 1 := by rw [hs'.1, Heap.size_push]
    have keep' : ∀ b o, s4.heap.get? b = some o → h'.get? b = some o := fun b o e => hs'.extBut b o (Nat.ne_of_lt (Heap.lt_size e)) (Heap.get?_push_of_some _ e)
    generalize hgo : ({ cls := .type "generator", data := .fields #[.int s4.gens.size 0, .str "<genexpr>" (s4.toks + 1), .str (G.X.env.qual ++ "<genexpr>") (s4.toks + 1 + 1)] } : Obj) = go
    have keep5 : ∀ b o, s4.heap.get? b = some o → (h'.push go).get? b = some o := fun b o e => Heap.get?_push_of_some _ (keep' b o e)
    have goat : (h'.push go).get? h'.objs.size = some go := by rw [← hgo]; exact Heap.get?_push_size _ rfl
    have bare5 : AllBare (s4.gens.push (.fresh (.compStart (.GeneratorExp elt [⟨tg, iter, ifs, 0⟩] scope gpos) 0 (.ref it) .none (genEnv scope (cloFrom G.X.env.cells scope.names []) s4.heap.objs.size code builtinsNs G.X.env)))) := AllBare.push I4.bare rfl
    refine hQ xs st1 _ _ _ (x2.trans x4) w4 ⟨s4.gens.size, _, ⟨go, _, _, goat, by rw [← hgo], by rw [← hgo], by rw [← hgo]⟩, Array.getElem?_push_size .., I4.nolimit.keeps keep5, ?_, ?_, ?_, ?_⟩ ?_ h1
    · show h'.objs.size < (h'.push go).objs.size
      rw [Heap.size_push]; exact Nat.lt_succ_self _
    · exact inv_hand I4 (ch := []) (by simp) (by simp) rfl bare5 fun b o _ e => keep5 b o e
    · exact I4.hok.fresh (by omega)
    · intro ks ow Pre Itm Dn A n s6 kp near fit hks ow0 ek hkp k56 os6 bare6 g6 lim6 pre
      have hA : A.in1.frames = some G.X.stack := near.in1.1
      generalize hce : genEnv scope (cloFrom G.X.env.cells scope.names []) s4.heap.objs.size code builtinsNs G.X.env = cenv
      have hloc : cenv.locals = s4.heap.objs.size := by rw [← hce]; rfl
      have hcc : cenv.cells = cloFrom G.X.env.cells scope.names [] := by rw [← hce]; rfl
      have hcs : cenv.scope = scope := by rw [← hce]; rfl
      have k46 : ∀ b o, s4.heap.get? b = some o → s6.heap.get? b = some o := fun b o e => k56 b o (keep5 b o e)
      have ksz : ∀ b ∈ ks, h'.objs.size < b := fun b hb => by
        have := hks b hb
        have e9 : (h'.push go).objs.size ≤ b := this
        rw [Heap.size_push] at e9
        exact e9
      have F : GenF ⟨G, pins, σ, E2.put P (.tbl (ps ++ more)), h'.objs.size, s4.gens.size, ks, ow, Pre, Itm, Dn⟩ s4 cenv fp go tn := by
        refine ⟨I4, hloc, f4, by rw [← hgo], ⟨.str "<genexpr>" (s4.toks + 1), .str (G.X.env.qual ++ "<genexpr>") (s4.toks + 1 + 1), by rw [← hgo]⟩, by rw [← hgo], by show _ < h'.objs.size; omega, fun b hb => ⟨by have := ksz b hb; omega, Nat.ne_of_gt (ksz b hb)⟩, fun y c' e => ?_⟩
        rw [hcc] at e
        rcases cloFrom_mem (PySem.mem_of_lookup e) with hm | ⟨q1, rfl⟩
        · cases hm
        · obtain ⟨c2, hc2⟩ := hfree _ q1 rfl
          rw [hc2]
          obtain ⟨v, z⟩ := I4.cell _ _ hc2
          exact z.lt
      have hA2 : (A.in1.deeper cenv).frames = some (cenv :: G.X.stack) := by
        exact Around.frames_deeper hA
      have okG : GOk (G.gen s4 (E2.put P (.tbl (ps ++ more))).H cenv (A.in1.deeper cenv) fp) s4.heap.objs.size := by
        rw [← hce]
        exact ok.gen (by have := (near.room (cenv := genEnv scope (cloFrom G.X.env.cells scope.names []) s4.heap.objs.size code builtinsNs G.X.env) hr).un; omega)
      have rmG : Room k (A.in1.deeper cenv) := near.room hr
      have pg := hg s4 (E2.put P (.tbl (ps ++ more))).H s4.heap.objs.size code (A.in1.deeper cenv) fp (by rw [hce]; exact okG) rmG
      have pt := ht s4 (E2.put P (.tbl (ps ++ more))).H s4.heap.objs.size code (A.in1.deeper cenv) fp (by rw [hce]; exact okG) rmG
      have pe := he s4 (E2.put P (.tbl (ps ++ more))).H s4.heap.objs.size code (A.in1.deeper cenv) fp (by rw [hce]; exact okG) rmG
      rw [hce] at pg pt pe
      -- the frame, now
      have I5 : Inv (G.gen s4 (E2.put P (.tbl (ps ++ more))).H cenv (A.in1.deeper cenv) fp).X [] (L2.wipe σ (tgNames t)) (E2.put P (.tbl (ps ++ more))).H { s4 with heap := h'.push go, gens := s4.gens, toks := s4.toks } := by
        have := gen_start (code := code) (A' := A.in1.deeper cenv) (gs := s4.gens) (tk := s4.toks) I4 gk.blk ok.nd gk.cell f4 (by rw [hce]; exact hA2) near.in1.2.1 keep5 ⟨_, hn'.push _⟩ I4.bare
        rw [hce, hnm] at this
        exact this
      have nfr : ∀ b, s4.heap.objs.size ≤ b → b ∉ frs G.X.stack := fun b hb hm => by
        obtain ⟨_, o, ho, _⟩ := I4.stack.mem hm
        exact absurd (Nat.lt_of_lt_of_le (Heap.lt_size ho) hb) (Nat.lt_irrefl _)
      have bare6' : AllBare (s6.setGen s4.gens.size .running).gens := allBare_setGen bare6 rfl
      have I6 : Inv (G.gen s4 (E2.put P (.tbl (ps ++ more))).H cenv (A.in1.deeper cenv) fp).X ((h'.objs.size, go) :: kp) (L2.wipe σ (tgNames t)) (E2.put P (.tbl (ps ++ more))).H (s6.setGen s4.gens.size .running) := by
        refine Inv.pins_of (inv_hand I5 (ch := []) (by simp) (by simp) os6 bare6' fun b o _ e => k56 b o e) fun q hq => ?_
        rcases List.mem_cons.mp hq with z | z
        · rw [z]
          exact ⟨k56 _ _ goat, I4.hok.fresh (by show s4.heap.objs.size ≤ h'.objs.size; omega), by show h'.objs.size ≠ cenv.locals; rw [hloc]; omega, nfr _ (by show s4.heap.objs.size ≤ h'.objs.size; omega), F.cell⟩
        · have hb := ksz q.1 (by rw [← ek]; exact List.mem_map.mpr ⟨q, z, rfl⟩)
          exact ⟨(hkp q z).1, I4.hok.fresh (by omega), by show q.1 ≠ cenv.locals; rw [hloc]; exact Nat.ne_of_gt (by omega), nfr q.1 (by omega), (hkp q z).2⟩
      have st6 : tn 0 (s6.setGen s4.gens.size .running).heap := T.keep _ _ _ st4 fun b _ o e => k46 b o e
      have loop := gen_loop (elt := elt) (tg := tg) (iter := iter) (ifs := ifs) (scope := scope) (pos := gpos) (A := A.in1) (p := ⟨G, pins, σ, E2.put P (.tbl (ps ++ more)), h'.objs.size, s4.gens.size, ks, ow, Pre, Itm, Dn⟩) (t := t) (mt := mt) (me := me) (ρ := ρ) (xs := xs) (vs := vs) (st₁ := st1) F okG T ok.calm
        (fun E' st' a b c => wk E' st' a b c) ((r2.x).ext x4) (by rw [hcs]; exact gk.co) ((f.mono x2).mono x4) fit pg pt pe xs.1.length 0 n (s6.setGen s4.gens.size .running) (s6.setGen s4.gens.size .running) (E2.put P (.tbl (ps ++ more))) st1 [] [] kp (Nat.sub_zero _) (Nat.zero_le _) I6 st6 (fun b hb => (f4 b hb).1.1) w4 (Ext.refl _) ow0 ek (by rw [RepA]) (by simpa using pre)
      refine ⟨⟨go, .str "<genexpr>" (s4.toks + 1), .str (G.X.env.qual ++ "<genexpr>") (s4.toks + 1 + 1), k56 _ _ goat, by rw [← hgo], by rw [← hgo], by rw [← hgo]⟩, lim6, _, by rw [g6]; exact Array.getElem?_push_size .., ?_⟩
      rw [hce]
      refine ⟨rfl, ?_⟩
      show Seg _ A.in1 _ _ _ _ _ ((compStart (.GeneratorExp elt [⟨tg, iter, ifs, 0⟩] scope gpos) 0 (.ref it) .none cenv).onRaise (leaving cenv)) [] _
      unfold compStart
      rw [Sem.onRaise_eq_wrap]
      show Seg _ A.in1 _ _ _ _ _ ((ask >>= _).wrap _ _ _ _) [] _
      refine seg_bind_wrap (wpAny_askSetting ?_)
      split
      · exact seg_again rfl loop
      · first
          | exact seg_bind_wrap (wpAny_rule (seg_bind_wrap (wpAny_standAt (seg_bind_wrap (T.self _ 0 _ _ _ st6 (seg_again rfl loop))))))
          | (refine seg_bind_wrap (wpAny_rule ?_); show Seg _ A.in1 _ _ _ _ _ ((standAt iter.pos >>= _).wrap _ _ _ _) [] _; exact seg_bind_wrap (wpAny_standAt (seg_bind_wrap (T.self _ 0 _ _ _ st6 (seg_again rfl loop)))))
    · intro e
      have := t4 e
      show 1 ≤ s4.toks + 1 + 1 + 1
      omega
  cases hf : codeAmong gpos ps.toList with
  | none =>
    refine G.wtk t2 (wpAny_genexprCodeX co.code (cd.code hPs hT) (cd.tab hPs) hf fun c' h' tk' hx hge hlt hco' _ htab' _ htk => ?_)
    obtain ⟨o1, vs1, f1, tf, fl, tg1, inF, tx, tt, op, _, _, _, _, _, _, _, _, _, htr, _⟩ := hco'
    exact cont _ h' tk' _ hx (Nat.le_trans hge (Nat.le_of_lt hlt)) htab'.2 htr fun _ => htk
  | some cv =>
    refine wpAny_genexprCode_hit co.code (cd.code hPs hT) hf ?_
    exact cont cv s2.heap s2.toks #[] (Heap.ExtBut.refl _ _) (Nat.le_refl _) (by simpa using hPs) (by simpa using hT) fun z => z
end
end RS
end S25
section S26
set_option autoImplicit false
set_option linter.all false
set_option maxRecDepth 100000
set_option Elab.async false
/-! C8: any, all of a generator expression. -/
namespace RS
open PySem PySem.Spec PyProof.Rows L2 GenW

section
variable {prog : Program} {w : World} {A : Around} {R : Result → Shared → Prop} {a : Addr} {Z : Nat → Shared → Prop}
theorem any_loopZ (hn : ∀ (n : Nat) (s : Shared) (Q : Option Value → Shared → Prop), Z n s → (∀ v s', (∃ b, v = .bool b ∧ (if b = true then R (.ok (.ret (.bool true))) s' else ∃ m, m < n ∧ Z m s')) → Q (some v) s') → (∀ s', R (.ok (.ret (.bool false))) s' → Q none s') →
    wpAny (model prog w) A.in1 (pyNext (.ref a)) Q (fun e s' => R (.error e) s') s) : ∀ (n : Nat) (s : Shared), Z n s → codeAny (model prog w) A (.builtin "any.loop" ⟨[.ref a], []⟩) R s := by
  intro n
  induction n using Nat.strongRecOn with
  | ind n ih =>
    intro s z
    refine codeAny_builtin F.entry_any_loop ?_
    rw [Around.under_plainId F.plain_any_loop _]
    show wpAny _ A.in1 (pyNext (.ref a) >>= _) _ _ s
    refine wpAny_bind (hn n s _ z (fun v s' hv => ?_) fun s' h => ?_)
    · obtain ⟨b, rfl, h⟩ := hv
      refine wpAny_bind (wpAny_holding (wpAny_truthy_bool ?_))
      refine wpAny_bind (wpAny_letGo ?_)
      cases b with
      | false =>
        simp only [Bool.false_eq_true, if_false] at h ⊢
        obtain ⟨m, hm, z'⟩ := h
        exact wpAny_pure ⟨plainId_quiet F.plain_any_loop _, ih m hm s' z'⟩
      | true =>
        simp only [if_true] at h ⊢
        exact wpAny_bind (wpAny_rule (wpAny_pure h))
    · exact wpAny_bind (wpAny_rule (wpAny_pure h))
theorem all_loopZ (hn : ∀ (n : Nat) (s : Shared) (Q : Option Value → Shared → Prop), Z n s → (∀ v s', (∃ b, v = .bool b ∧ (if b = false then R (.ok (.ret (.bool false))) s' else ∃ m, m < n ∧ Z m s')) → Q (some v) s') → (∀ s', R (.ok (.ret (.bool true))) s' → Q none s') →
    wpAny (model prog w) A.in1 (pyNext (.ref a)) Q (fun e s' => R (.error e) s') s) : ∀ (n : Nat) (s : Shared), Z n s → codeAny (model prog w) A (.builtin "all.loop" ⟨[.ref a], []⟩) R s := by
  intro n
  induction n using Nat.strongRecOn with
  | ind n ih =>
    intro s z
    refine codeAny_builtin F.entry_all_loop ?_
    rw [Around.under_plainId F.plain_all_loop _]
    show wpAny _ A.in1 (pyNext (.ref a) >>= _) _ _ s
    refine wpAny_bind (hn n s _ z (fun v s' hv => ?_) fun s' h => ?_)
    · obtain ⟨b, rfl, h⟩ := hv
      refine wpAny_bind (wpAny_holding (wpAny_truthy_bool ?_))
      refine wpAny_bind (wpAny_letGo ?_)
      cases b with
      | true =>
        simp only [Bool.true_eq_false, if_false, if_true] at h ⊢
        obtain ⟨m, hm, z'⟩ := h
        exact wpAny_pure ⟨plainId_quiet F.plain_all_loop _, ih m hm s' z'⟩
      | false =>
        simp only [if_true, Bool.false_eq_true, if_false] at h ⊢
        exact wpAny_bind (wpAny_rule (wpAny_pure h))
    · exact wpAny_bind (wpAny_rule (wpAny_pure h))
end

section
variable {G : Cfg} {L : Addr} {pins : List (Addr × Obj)} {s : Shared} {σ : L2.St} {E : WS} {st : Sto} {ρ : Env}
/-- what any, all agree upon with the generator -/
abbrev anyP (G : Cfg) (pins : List (Addr × Obj)) (σ : L2.St) (E : WS) (a : Addr) (g : Nat) (chk : Sto → Bool) (stop : Bool) (turn : D → Sto → R (Option D)) (PB : Bool → Sto → Prop) (Pe : Nat → Sto → Prop) : GenP where
  G := G
  pins := pins
  σ := σ
  E₄ := E
  a := a
  g := g
  ks := []
  own := fun _ _ kp => kp = []
  Pre := fun n _ rem st => rem.length ≤ n ∧ Out (anyTurns chk stop turn rem st) PB Pe
  Itm := fun m _ d rem st => ∃ b, d = .bl b ∧ rem.length ≤ m ∧ (if b = stop then PB stop st else Out (anyTurns chk stop turn rem st) PB Pe)
  Dn := fun _ st => PB (!stop) st
theorem anyP_fits {a : Addr} {g : Nat} {chk : Sto → Bool} {stop : Bool} {turn : D → Sto → R (Option D)} {PB : Bool → Sto → Prop} {Pe : Nat → Sto → Prop} : GenFits (anyP G pins σ E a g chk stop turn PB Pe) chk turn where
  step := fun n ds x rem st ⟨hl, hO⟩ => by
    simp only [anyTurns] at hO
    split at hO
    · rename_i hc
      refine ⟨hc, ?_⟩
      cases q : turn x st with
      | err c s' => rw [q] at hO; exact hO.elim
      | no => rw [q] at hO; exact hO.elim
      | ok o s' =>
        rw [q] at hO
        have hO : Out (match o with
          | some (.bl b) => if b = stop then .ok stop s' else anyTurns chk stop turn rem s'
          | some _ => .no
          | none => anyTurns chk stop turn rem s') PB Pe := hO
        have hl : rem.length + 1 ≤ n := hl
        cases o with
        | none => exact ⟨by omega, hO⟩
        | some d =>
          show ∃ m, n = m + 1 ∧ _
          refine ⟨n - 1, by omega, ?_⟩
          cases d with
          | bl b =>
            refine ⟨b, rfl, by omega, ?_⟩
            have hO : Out (if b = stop then R.ok stop s' else anyTurns chk stop turn rem s') PB Pe := hO
            split at hO
            · rename_i e; rw [if_pos e]; exact hO
            · rename_i e; rw [if_neg e]; exact hO
          | _ => exact hO.elim
    · exact hO.elim
  stop := fun n ds st ⟨_, hO⟩ => by
    simp only [anyTurns] at hO
    split at hO
    · rename_i hc; exact ⟨hc, hO⟩
    · exact hO.elim
variable {elt tg iter : Expr} {ifs : List Expr} {scope : Scope} {own : List (Str × Nat)} {t : Tg} {p gpos pos : Pos} {mi : Env → Sto → R (List D × List (D × Kd))} {mt : Env → Sto → R Bool} {me : Env → Sto → R (D × Kd)} {c P : Addr} {k : Nat}
/-- the generator in the hands of any, all -/
theorem any_feed {xs : List D} {chk : Sto → Bool} {stop : Bool} {turn : D → Sto → R (Option D)} {a : Addr} {s5 : Shared} {PB : Bool → Sto → Prop} {Pe : Nat → Sto → Prop} {A : Around} (near : Near A G.X) (hd : A.depth < recursionLimit) (h : GenMade G pins σ E chk turn xs st a s5)
    (hO : Out (anyTurns chk stop turn xs st) PB Pe) : ∃ (Z : Nat → Shared → Prop) (n : Nat), (∃ g, s5.heap.IsGen a g) ∧ Z n s5 ∧ ∀ (R : Bool → Shared → Prop), (∀ b s1 E1 st1, Ext E E1 → G.WO E1 st1 → Inv G.X pins σ E1.H s1 → PB b st1 → R b s1) →
      ∀ (n : Nat) (s : Shared) (Q : Option Value → Shared → Prop) (Ex : Value → Shared → Prop), Z n s → (∀ v s', (∃ b, v = .bool b ∧ (if b = stop then R stop s' else ∃ m, m < n ∧ Z m s')) → Q (some v) s') → (∀ s', R (!stop) s' → Q none s') → wpAny G.M A (pyNext (.ref a)) Q Ex s := by
  obtain ⟨g, c, ig, hg, nl, hlt, I5, hn, wake⟩ := h
  refine ⟨GenP.Zz (anyP G pins σ E a g chk stop turn PB Pe) A, xs.length, ⟨g, ig⟩, wake [] _ _ _ _ A xs.length s5 [] near anyP_fits (by simp) rfl rfl (by simp) (fun _ _ e => e) rfl I5.bare rfl nl ⟨Nat.le_refl _, hO⟩, fun R hR n s Q Ex z hY hE => ?_⟩
  refine gen_next (p := anyP G pins σ E a g chk stop turn PB Pe) near.hd hd z (fun m v s1 ds us d x E1 st1 rem kp en at1 rd rv itm back ig1 => ?_) fun s1 ⟨ds, us, E1, st1, kp, at1, dn⟩ => hE s1 (hR _ s1 E1 st1 at1.ext at1.wo at1.inv dn)
  obtain ⟨b, rfl, hl, hb⟩ := itm
  have ex : x = .bl b := (rep_bl (K := G.X.K) (E := E1)).mp rd
  subst ex
  obtain rfl : v = .bool b := rv
  refine hY _ s1 ⟨b, rfl, ?_⟩
  split at hb
  · rename_i e; rw [if_pos e]; exact hR _ s1 E1 st1 at1.ext at1.wo at1.inv hb
  · rename_i e
    rw [if_neg e]
    have ek : kp = [] := at1.own
    exact ⟨m, by omega, back s1 [] rfl at1.inv.bare ig1 at1.inv.nolimit rfl (fun _ _ _ e => e) rfl rfl (by simp) ⟨hl, hb⟩⟩
theorem near_in1 {X : Cx} (h1 : X.A.frames = some X.stack) (h2 : X.A.handled = none) : Near X.A.in1 X := ⟨h1, h2, rfl, by show X.A.units + 1 ≤ _; omega⟩
theorem se_any (ok : GOk G L) (hr : Room (k + 1) G.X.A) (co : CodeOk G c P) (gk : GenOk G.X scope own) (hnm : own.map (·.2) = tgNames t) (hi : SI G tg iter mi)
    (hg : G.everyG k scope fun G' => SG G' tg t) (ht : G.everyG k scope fun G' => STs G' ifs mt) (he : G.everyG k scope fun G' => SE G' elt me) (hs : ∀ x, genFold iter G.X.env x = pure x) (hgl : Gl G.X "any") (hm : G.X.mg "any" = none)
    (hst : starEach [.GeneratorExp elt [⟨tg, iter, ifs, 0⟩] scope gpos] G.X.env = (false, eval (.GeneratorExp elt [⟨tg, iter, ifs, 0⟩] scope gpos) G.X.env) :: starEach [] G.X.env) :
    SE G (.Call (.Name "any" p) [.GeneratorExp elt [⟨tg, iter, ifs, 0⟩] scope gpos] [] pos) (fun ρ s => (mi ρ s).bind fun xs s => (anyTurns (still s xs.2) true (genTurn ρ t mt me) xs.1 s).bind fun b s => .ok (.bl b, .fz) s) := by
  refine ⟨fun pins s σ E ρ st Q I w f tk hO => ?_⟩
  refine wpAny_Call_Name_kw (ld_blt I hgl hm boot_any ?_)
  refine PyProof.Rows.callWith_builtin1 ?_ hst rfl
  rw [hst]
  show wpAny _ _ (spliced ((false, eval (.GeneratorExp elt [⟨tg, iter, ifs, 0⟩] scope gpos) G.X.env) :: backTo pos (starEach [] G.X.env))) _ _ s
  refine Calls.spliced_cons (gen_make ok hr co gk hnm hi hg ht he hs I w f tk hO fun xs st1 E1 a s5 x1 w1 made t5 h1 => ?_)
  refine Calls.spliced_nil ?_
  have fr : G.X.A.frames = some G.X.stack := I.ok.frames
  have dp := hr.dp
  obtain ⟨Z, n, ⟨g, ig⟩, z, step⟩ := any_feed (near_in1 fr (I.ok.hd ok.calm)) (by show G.X.A.depth < _; omega) made (Out.bind.mp h1)
  refine call_function_tree F.kind_any F.plain_any F.entry_any (F.args_any1 _) ?_
  unfold Builtin.«any»
  refine wpAny_bind (m := oneArg "any" _) (wpAny_pure ?_)
  refine wpAny_bind (wpAny_pyIter_gen ig ?_)
  refine wpAny_pure ⟨plainId_quiet F.plain_any_loop _, any_loopZ (Z := Z) (fun n s Q' z hY hE => ?_) n s5 z⟩
  refine step (fun b s1 => Q (.bool b) s1) (fun b s1 E2 st2 x2 w2 I2 h2 => ?_) n s Q' _ z (fun v s' ⟨b, ev, h⟩ => hY v s' ⟨b, ev, ?_⟩) hE
  · exact h2 E2 (.bl b) _ s1 (x1.trans x2) w2 ((rep_bl (K := G.X.K) (E := E2)).mpr rfl) I2 rfl
  · cases b <;> exact h
theorem se_all (ok : GOk G L) (hr : Room (k + 1) G.X.A) (co : CodeOk G c P) (gk : GenOk G.X scope own) (hnm : own.map (·.2) = tgNames t) (hi : SI G tg iter mi)
    (hg : G.everyG k scope fun G' => SG G' tg t) (ht : G.everyG k scope fun G' => STs G' ifs mt) (he : G.everyG k scope fun G' => SE G' elt me) (hs : ∀ x, genFold iter G.X.env x = pure x) (hgl : Gl G.X "all") (hm : G.X.mg "all" = none)
    (hst : starEach [.GeneratorExp elt [⟨tg, iter, ifs, 0⟩] scope gpos] G.X.env = (false, eval (.GeneratorExp elt [⟨tg, iter, ifs, 0⟩] scope gpos) G.X.env) :: starEach [] G.X.env) :
    SE G (.Call (.Name "all" p) [.GeneratorExp elt [⟨tg, iter, ifs, 0⟩] scope gpos] [] pos) (fun ρ s => (mi ρ s).bind fun xs s => (anyTurns (still s xs.2) false (genTurn ρ t mt me) xs.1 s).bind fun b s => .ok (.bl b, .fz) s) := by
  refine ⟨fun pins s σ E ρ st Q I w f tk hO => ?_⟩
  refine wpAny_Call_Name_kw (ld_blt I hgl hm boot_all ?_)
  refine PyProof.Rows.callWith_builtin1 ?_ hst rfl
  rw [hst]
  show wpAny _ _ (spliced ((false, eval (.GeneratorExp elt [⟨tg, iter, ifs, 0⟩] scope gpos) G.X.env) :: backTo pos (starEach [] G.X.env))) _ _ s
  refine Calls.spliced_cons (gen_make ok hr co gk hnm hi hg ht he hs I w f tk hO fun xs st1 E1 a s5 x1 w1 made t5 h1 => ?_)
  refine Calls.spliced_nil ?_
  have fr : G.X.A.frames = some G.X.stack := I.ok.frames
  have dp := hr.dp
  obtain ⟨Z, n, ⟨g, ig⟩, z, step⟩ := any_feed (near_in1 fr (I.ok.hd ok.calm)) (by show G.X.A.depth < _; omega) made (Out.bind.mp h1)
  refine call_function_tree F.kind_all F.plain_all F.entry_all (F.args_all1 _) ?_
  unfold Builtin.«all»
  refine wpAny_bind (m := oneArg "all" _) (wpAny_pure ?_)
  refine wpAny_bind (wpAny_pyIter_gen ig ?_)
  refine wpAny_pure ⟨plainId_quiet F.plain_all_loop _, all_loopZ (Z := Z) (fun n s Q' z hY hE => ?_) n s5 z⟩
  refine step (fun b s1 => Q (.bool b) s1) (fun b s1 E2 st2 x2 w2 I2 h2 => ?_) n s Q' _ z (fun v s' ⟨b, ev, h⟩ => hY v s' ⟨b, ev, ?_⟩) hE
  · exact h2 E2 (.bl b) _ s1 (x1.trans x2) w2 ((rep_bl (K := G.X.K) (E := E2)).mpr rfl) I2 rfl
  · cases b <;> exact h
end
end RS
end S26
section S27
set_option autoImplicit false
set_option linter.all false
set_option maxRecDepth 100000
set_option Elab.async false
/-! D1: lambdas: made, kept, told. -/
namespace RS
open PySem PySem.Spec PyProof.Rows L2

/-! ### a code object is new in a table of lambdas -/
section
variable {K : PySem.W.Frag} {J : Inf} {E : WS} {st : Sto} {P c : Addr} {ps more : Array Value} {q : Str}
theorem WSOk.lamTab (w : WSOk K J E st) (h : E.H P = some (.tbl ps)) (hc : E.H c = none) (hm : (P, q) ∈ J.TL) (hu : ∀ p ∈ J.TL, p.1 = P → p.2 = q) (ht : TriplesOk (ps ++ more).toList)
    (ha : ∀ (pos : Pos) (cv : Value), codeAmong pos (ps ++ more).toList = some cv → codeAmong pos ps.toList = some cv ∨ cv = .ref c) :
    Ext E ((E.put P (.tbl (ps ++ more))).put c (LamX.CodeO c q)) ∧ WSOk K J ((E.put P (.tbl (ps ++ more))).put c (LamX.CodeO c q)) st := by
  have nf := w.nfzT h
  have nPc : P ≠ c := ne_of_none h hc
  have hc1 : (E.put P (.tbl (ps ++ more))).H c = none := by show upd E.H P _ c = none; rw [upd_ne (Ne.symm nPc)]; exact hc
  have x : Ext E ((E.put P (.tbl (ps ++ more))).put c (LamX.CodeO c q)) := (ext_tab h nf).trans (ext_put hc1)
  have keep : ∀ a u, a ≠ P → E.H a = some u → ((E.put P (.tbl (ps ++ more))).put c (LamX.CodeO c q)).H a = some u := fun a u n e => by
    show upd (upd E.H P _) c _ a = _
    rw [upd_ne (ne_of_none e hc), upd_ne n]; exact e
  have atP : ((E.put P (.tbl (ps ++ more))).put c (LamX.CodeO c q)).H P = some (.tbl (ps ++ more)) := by
    show upd (upd E.H P _) c _ P = _
    rw [upd_ne nPc, upd_same]
  refine ⟨x, w.len, w.nd, fun n k a h1 h2 => ?_, w.nfz, fun a z => ?_, fun P' hP => ?_, fun p hp => ?_⟩
  · have r := w.cell n k a h1 h2
    refine r.last x.last fun u e => keep a u (fun z => ?_) e
    rcases r.there with ⟨_, e⟩ | ⟨_, e⟩ <;> (rw [z, h] at e; cases e)
  · obtain ⟨u, e, n⟩ := w.fzH a z
    exact ⟨u, keep a u (fun q => nf (by rw [← q]; exact z)) e, n⟩
  · obtain ⟨ps', e, t⟩ := w.tg P' hP
    by_cases z : P' = P
    · rw [z]; exact ⟨_, atP, ht⟩
    · exact ⟨ps', keep _ _ z e, t⟩
  · by_cases z : p.1 = P
    · rw [z, hu p hp z]
      obtain ⟨ps', e, t, hcc⟩ := w.tl _ hm
      rw [h] at e
      cases e
      refine ⟨_, atP, ht, fun pos cv hcv => ?_⟩
      rcases ha pos cv hcv with hcv | rfl
      · obtain ⟨c0, e1, e2⟩ := hcc pos cv hcv
        exact ⟨c0, e1, keep _ _ (fun z => by have e2 : E.H c0 = some (LamX.CodeO c0 q) := e2; rw [z, h] at e2; exact LamX.codeO_ne ps (Option.some.inj e2).symm) e2⟩
      · exact ⟨c, rfl, upd_same⟩
    · obtain ⟨ps', e, t, hcc⟩ := w.tl p hp
      refine ⟨ps', keep _ _ z e, t, fun pos cv hcv => ?_⟩
      obtain ⟨c0, e1, e2⟩ := hcc pos cv hcv
      exact ⟨c0, e1, keep _ _ (fun z => by rw [z, h] at e2; exact LamX.codeO_ne ps (Option.some.inj e2).symm) e2⟩
end

/-! ### a lambda's object -/
/-- the function object of a lambda of X at f -/
structure LamAt (X : Cx) (params : Arguments) (body : Expr) (scope : Scope) (f : Addr) (o : Obj) (H : Hp) (c' : Addr) : Prop where
  obj : ∃ pm ctv, o = PySem.W.kla_obj "<lambda>" (X.env.qual ++ "<lambda>") params body scope (cloFrom X.env.cells scope.names []) pm c' ctv
  non : H f = none
  nfr : f ∉ frs X.stack
  code : H c' = some (LamX.CodeO c' (X.env.qual ++ "<lambda>"))
/-- the tables for lambdas of X -/
structure LamTab (G : Cfg) (c P : Addr) : Prop where
  tab : LamX.TabB G.X.base G.X.mg c P
  code : G.X.env.code = .ref c
  tl : (P, G.X.env.qual ++ "<lambda>") ∈ G.J.TL
  tlu : ∀ p ∈ G.J.TL, p.1 = P → p.2 = G.X.env.qual ++ "<lambda>"
section
variable {G : Cfg} {pins : List (Addr × Obj)} {s : Shared} {σ : L2.St} {E : WS} {st : Sto} {c P : Addr} {params : Arguments} {body : Expr} {scope : Scope} {pos : Pos}
theorem lam_mk (I : Inv G.X pins σ E.H s) (w : G.WO E st) (T : LamTab G c P) (hdef : defaultsOf params G.X.env = ([], [])) (hfree : ∀ y ∈ scope.names, y.2 = .free → ∃ c, G.X.env.cells.lookup y.1 = some c) {Ex : Value → Shared → Prop} {Q : Value → Shared → Prop}
    (h : ∀ f o c' E1 s', Ext E E1 → G.WO E1 st → Inv G.X (pins ++ [(f, o)]) σ E1.H s' → LamAt G.X params body scope f o E1.H c' → s.heap.objs.size ≤ f → Q (.ref f) s') :
    wpAny G.M G.X.A (eval (.Lambda params body scope pos) G.X.env) Q Ex s := by
  obtain ⟨ps, hP, ht, ha⟩ := w.tl _ T.tl
  refine PySem.W.kla_eval hdef ?_
  have bP : s.heap.BuiltinsAt G.X.mg P := T.tab.bm.keeps I.bk
  have hP' : s.heap.get? P = some { cls := .none, data := .fields ps } := I.hok P _ hP
  have nofr : ∀ f, s.heap.objs.size ≤ f → f ∉ frs G.X.stack := fun f hf z => by
    obtain ⟨_, o, ho, _⟩ := I.stack.mem z
    exact absurd (Nat.lt_of_lt_of_le (Heap.lt_size ho) hf) (Nat.lt_irrefl _)
  have pin : ∀ {f : Addr} {o : Obj} {E1 : WS} {s' : Shared}, Inv G.X pins σ E1.H s' → s.heap.objs.size ≤ f → s'.heap.get? f = some o → (∀ v, o.data ≠ .cell v) → E1.H f = none → Inv G.X (pins ++ [(f, o)]) σ E1.H s' := fun {f o E1 s'} I' hf e hd hn =>
    I'.pins_of fun p hp => by
      rcases List.mem_append.mp hp with z | z
      · exact I'.pin p (List.mem_append_right _ z)
      · rw [List.mem_singleton.mp z]
        exact ⟨e, hn, Nat.ne_of_gt (Nat.lt_of_lt_of_le I.lt hf), I.nofs hf, hd⟩
  cases hc : codeAmong pos ps.toList with
  | none =>
    refine PySem.W.kla_makeFunction (mg := G.X.mg) (c := c) (P := P) (ps := ps) (closure_ok hfree) I.ok.glob (I.mod.glob.keeps I.bk) T.code (T.tab.code.keeps I.bk) hP' ht hc T.tab.gP bP fun c' ctv h' tk hx hge hlt hrec htb => ?_
    obtain ⟨c2, oc, vs, t, e2, hoc, hd, hv⟩ := hrec
    cases e2
    have hsz : s.heap.objs.size ≤ h'.objs.size := Nat.le_trans hge (Nat.le_of_lt hlt)
    have nC : E.H c' = none := I.hok.fresh hge
    have eL : (ps ++ #[rawInt pos.line, rawInt pos.col, .ref c']).toList = ps.toList ++ [rawInt pos.line, rawInt pos.col, .ref c'] := by simp
    generalize ho : PySem.W.kla_obj "<lambda>" (G.X.env.qual ++ "<lambda>") params body scope (cloFrom G.X.env.cells scope.names []) ((G.X.mg "__name__").getD .none) c' ctv = o
    have I1 := LamX.inv_table (t' := tk) (q := G.X.env.qual ++ "<lambda>") (more := #[rawInt pos.line, rawInt pos.col, .ref c']) (h' := h'.push o) I hP
      (fun b o hb e => Heap.get?_push_of_some _ (hx b o hb e)) (Heap.get?_push_of_some _ htb) hge ⟨oc, vs, t, Heap.get?_push_of_some _ hoc, hd, hv⟩
    obtain ⟨x1, w1⟩ := w.lamTab (more := #[rawInt pos.line, rawInt pos.col, .ref c']) hP nC T.tl T.tlu (by rw [eL]; exact PySem.TriplesOk_snoc _ _ _ _ ht) fun p' cv hcv => by
      rw [eL] at hcv
      exact LamX.among_app _ ht hcv
    have hn : ((E.put P (.tbl (ps ++ #[rawInt pos.line, rawInt pos.col, .ref c']))).put c' (LamX.CodeO c' (G.X.env.qual ++ "<lambda>"))).H h'.objs.size = none := by
      have n1 : h'.objs.size ≠ c' := Nat.ne_of_gt hlt
      have n2 : h'.objs.size ≠ P := Nat.ne_of_gt (Nat.lt_of_lt_of_le (Heap.lt_size hP') hsz)
      show upd (upd E.H P _) c' _ h'.objs.size = none
      rw [upd_ne n1, upd_ne n2]
      exact I.hok.fresh hsz
    exact h h'.objs.size o c' _ _ x1 w1 (pin I1 hsz (Heap.get?_push_size _ (by rw [← ho]; rfl)) (fun v e => by rw [← ho] at e; cases e) hn) ⟨⟨_, _, ho.symm⟩, hn, nofr _ hsz, upd_same⟩ hsz
  | some cv =>
    obtain ⟨c', e, hco⟩ := ha pos cv hc
    subst e
    refine PySem.W.kla_makeFunctionHit (mg := G.X.mg) (c := c) (P := P) (ps := ps) (closure_ok hfree) I.ok.glob (I.mod.glob.keeps I.bk) T.code (T.tab.code.keeps I.bk) hP' ht hc bP fun ctv h' tk hx hsz => ?_
    have I1 : Inv G.X pins σ E.H { s with heap := h'.push (PySem.W.kla_obj "<lambda>" (G.X.env.qual ++ "<lambda>") params body scope (cloFrom G.X.env.cells scope.names []) ((G.X.mg "__name__").getD .none) c' ctv), toks := tk } := I.kept fun b o e => Heap.get?_push_of_some _ (hx b o e)
    exact h h'.objs.size _ c' E _ (Ext.refl E) w (pin I1 hsz (Heap.get?_push_size _ rfl) (fun v e => by cases e) (I.hok.fresh hsz)) ⟨⟨_, _, rfl⟩, I.hok.fresh hsz, nofr _ hsz, hco⟩ hsz
end
end RS
end S27
section S28
set_option autoImplicit false
set_option linter.all false
set_option maxRecDepth 100000
set_option Elab.async false
/-! D2: a lambda told of. -/
namespace RS
open PySem PySem.Spec PyProof.Rows L2

/-- the configuration of a lambda's body -/
abbrev Cfg.lam (G : Cfg) (A : Around) (outer : List PySem.Env) (s : Shared) (H : Hp) (E : XK) (scope : Scope) (f c' : Addr) : Cfg := { J := G.J, X := LamX.lamCx G.X A outer s H E scope f c', E₀ := G.E₀, W := E, tk := false }
theorem GOk.lam {G : Cfg} {L : Addr} (ok : GOk G L) {A : Around} {outer : List PySem.Env} {s : Shared} {H : Hp} {E : XK} {scope : Scope} {f c' : Addr} {k : Nat} (hr : Room k (A.deeper (LamX.lamEnv G.X scope s.heap.objs.size f c'))) : GOk (G.lam A outer s H E scope f c') s.heap.objs.size where
  calm := rfl
  nd := ok.nd
  units := by have := hr.un; show (A.deeper _).units + 128 < _; omega
  frame := rfl
  stack := ⟨_, _, rfl, rfl⟩
  takes := fun u s' x => takes_of (X := LamX.lamCx G.X A outer s H E scope f c') (E := E) rfl rfl rfl rfl u s' (XF.xe (X := LamX.lamCx G.X A outer s H E scope f c') x)
abbrev Cfg.everyL (G : Cfg) (k : Nat) (scope : Scope) (P : Cfg → Prop) : Prop := ∀ (A : Around) (outer : List PySem.Env) (s : Shared) (H : Hp) (E : XK) (f c' : Addr), GOk (G.lam A outer s H E scope f c') s.heap.objs.size → Room k (A.deeper (LamX.lamEnv G.X scope s.heap.objs.size f c')) → P (G.lam A outer s H E scope f c')

/-- the body of a def that tells -/
abbrev toldBody (a e ret : Str) (j : Nat) (p1 p2 p3 p4 p5 p6 p7 p8 : Pos) : List Stmt :=
  [.Try [.Return (some (.Call (.Name a p1) [] [] p2)) p3] [.ExceptHandler (some (.Name e p4)) none [.Return (some (.Constant (.str ret) j p5)) p6] p7] [] [] p8]
/-- x is a def that calls what it gets, and tells ret of an exception of the class cc -/
structure Told (K : PySem.W.Frag) (mg : Str → Option Value) (J : Inf) (x : Str) (cc : Nat) (ret : Str) (g : Addr) : Prop where
  mgx : mg x = some (.ref g)
  keep : PySem.W.keepIn K (.ref g) = true
  fn : ∃ (oc : Value) (od : Option Addr) (pg : Arguments) (sg : Scope) (dV kV doc pm cdv ct : Value) (an : Option Addr) (osl : Array (Option Value)) (Ng : List Str) (a e : Str) (j : Nat) (p1 p2 p3 p4 p5 p6 p7 p8 : Pos),
    K.lookup g = some ⟨oc, od, .func (PySem.W.fnOf x x pg (toldBody a e ret j p1 p2 p3 p4 p5 p6 p7 p8) sg dV kV doc pm an cdv ct), osl⟩ ∧ PySem.W.codeIn K cdv x = true ∧
      L2.Binds K (PySem.W.fnOf x x pg (toldBody a e ret j p1 p2 p3 p4 p5 p6 p7 p8) sg dV kV doc pm an cdv ct) [a] [] ∧ FnScope Ng [a] sg ∧ Ng[0]? = some a ∧ Vis sg a ∧ sg.names.lookup e = some .globalImplicit ∧ mg e = some (.ref (J.ca cc)) ∧
      (e == ("__debug__" : Str)) = false ∧ (a == ("__debug__" : Str)) = false ∧ (a == ("__classdict__" : Str)) = false
  exm : PySem.W.exmOne K (.ref (J.ca cc)) (.ref (J.ca cc)) = some true

section
variable {G : Cfg} {L : Addr} {pins : List (Addr × Obj)} {s : Shared} {σ : L2.St} {E : WS} {st : Sto} {ρ : Env} {params : Arguments} {body : Expr} {scope : Scope} {m : Env → Sto → R (D × Kd)} {k : Nat}
/-- what the body of a lambda does, as HandS reads it -/
def tLm (G : Cfg) (m : Env → Sto → R (D × Kd)) (W : XK) : TE := fun σ H Q => ∃ (E1 : WS) (ρ : Env) (st : Sto), E1.H = H ∧ G.WO E1 st ∧ FrR G.X.K G.E₀ E1 σ ρ ∧
  Out (m ρ st) (fun x st' => ∀ E' v, Ext E1 E' → G.WO E' st' → RepR G.X.K E1 E' x.1 x.2 v → Q v E'.H) (fun c st' => ∀ E', Ext E1 E' → G.WO E' st' → W (.ref (G.J.ca c)) none E'.H)
theorem pe_lam {A : Around} {outer : List PySem.Env} {s0 : Shared} {H : Hp} {W : XK} {f c' : Addr} (h : SE (G.lam A outer s0 H W scope f c') body m) : PE (LamX.lamCx G.X A outer s0 H W scope f c') body (tLm G m W) := by
  refine ⟨fun pins s σ H1 Q I ⟨E1, ρ, st, eH, w1, f1, hO⟩ => ?_⟩
  subst eH
  exact h.run pins s σ E1 ρ st _ I w1 f1 (fun e => by cases e) (hO.mono (fun x st' h' E' v u s' x' w' r' I' ru => ⟨v, E'.H, I', ru, h' E' v x' w' r'⟩) fun _ _ z => z)
theorem told_run {x ret : Str} {cc : Nat} {g f c' : Addr} {o : Obj} {PB : Sto → Prop} (ok : GOk G L) (T : Told G.X.K G.X.mg G.J x cc ret g) (hr : Room (k + 2) G.X.A) (hL : LamX.LamS G.X.env.scope scope)
    (hbind : ∀ (q : Str) (cl : List (Str × Addr)) (pm cv ctv : Value), bindArgs (PySem.W.kla_fn "<lambda>" q params body scope cl pm cv ctv) ⟨[], []⟩ = pure []) (hbody : G.everyL k scope fun G' => SE G' body m)
    (I : Inv G.X pins σ E.H s) (w : G.WO E st) (fr : G.Fr E σ ρ) (hf : (f, o) ∈ pins) (la : LamAt G.X params body scope f o E.H c') (hO : Out (m ρ st) (fun _ _ => False) (fun c st' => c = cc ∧ PB st')) :
    codeAny G.M G.X.A (.call (.ref g) ⟨[.ref f], []⟩) (CR C8.CX0 G.X.stack G.X.prog G.X.w E.H s (fun v H' => v = .str ret ∧ ∃ E' st', E'.H = H' ∧ Ext E E' ∧ G.WO E' st' ∧ PB st') C8.E0) s := by
  obtain ⟨pm', ctv, eo⟩ := la.obj
  have hget := (I.pin (f, o) (List.mem_append_right _ hf)).1
  have hget : s.heap.get? f = some o := hget
  rw [eo] at hget
  obtain ⟨oc, od, pg, sg, dV, kV, doc, pm, cdv, ct, an, osl, Ng, a, e, j, p1, p2, p3, p4, p5, p6, p7, p8, lk, hcg, hb, Sg, hNg, hva, hge, hme, hde, hda, hca⟩ := T.fn
  have hG : LamX.GivesTo G.X Ng x sg g cdv (toldBody a e ret j p1 p2 p3 p4 p5 p6 p7 p8) a (G.X.env.qual ++ "<lambda>") (LamX.TTold G.X.K (G.J.ca cc) ret) := LamX.told_gives hge hme hde fun f => by
    unfold L2.start
    rfl
  refine LamX.run_ofS (N := Ng) (ps := [a]) (us := [.ref f]) (vs := [.ref f]) lk hcg Sg hr I.env0 (hb s [.ref f] I.kIn rfl) (.cons rfl .nil) rfl fun hr' => ?_
  have hTT : LamX.TTold G.X.K (G.J.ca cc) ret (fun W H' Q' => tLm G m W σ H' Q') E.H (fun v H' => v = .str ret ∧ ∃ E' st', E'.H = H' ∧ Ext E E' ∧ G.WO E' st' ∧ PB st') := by
    refine ⟨E, ρ, st, rfl, w, fr, hO.mono (fun _ _ z => z.elim) fun c st' ⟨ec, hp⟩ E' x' w' => ?_⟩
    subst ec
    exact ⟨true, T.exm, fun _ => ⟨rfl, E', st', rfl, x', w', hp⟩, fun z => by cases z⟩
  obtain ⟨t', ht', hq'⟩ := hG f c' s E.H (fun v H' => v = .str ret ∧ ∃ E' st', E'.H = H' ∧ Ext E E' ∧ G.WO E' st' ∧ PB st') (fun W H' Q' => tLm G m W σ H' Q')
    (fun W pn xe W' p1 p2 tk hW => LamX.pe_act (i := 0) I hL hget la.non la.nfr (hbind _ _ _ _ _) tk hW hr' (fun A outer s H hr2 => pe_lam (hbody A outer s H W' f c' (ok.lam hr2) hr2)) hNg hva hda hca) la.code hTT
  exact ⟨t', ht'.nox, hq'⟩
end
end RS
end S28
section S29
set_option autoImplicit false
set_option linter.all false
set_option maxRecDepth 100000
set_option Elab.async false
/-! D3: a list of lambdas; each is told of. -/
namespace RS
open PySem PySem.Spec PyProof.Rows L2

section
variable {G : Cfg} {L : Addr} {k : Nat}
/-- a lambda without parameters, its body's reading -/
def LamX1 (G : Cfg) (k : Nat) (e : Expr) (m : Env → Sto → R (D × Kd)) : Prop := ∃ params body scope pos, e = .Lambda params body scope pos ∧ LamX.LamS G.X.env.scope scope ∧ defaultsOf params G.X.env = ([], []) ∧
  (∀ (q : Str) (cl : List (Str × Addr)) (pm cv ctv : Value), bindArgs (PySem.W.kla_fn "<lambda>" q params body scope cl pm cv ctv) ⟨[], []⟩ = pure []) ∧ G.everyL k scope fun G' => SE G' body m
def LamsX (G : Cfg) (k : Nat) : List Expr → List (Env → Sto → R (D × Kd)) → Prop
  | [], ms => ms = []
  | e :: es, ms => ∃ m r, ms = m :: r ∧ LamX1 G k e m ∧ LamsX G k es r
/-- the objects of lambdas -/
def LamF1 (G : Cfg) (k : Nat) (H : Hp) (m : Env → Sto → R (D × Kd)) (f : Addr) (o : Obj) : Prop := ∃ params body scope c', LamX.LamS G.X.env.scope scope ∧
  (∀ (q : Str) (cl : List (Str × Addr)) (pm cv ctv : Value), bindArgs (PySem.W.kla_fn "<lambda>" q params body scope cl pm cv ctv) ⟨[], []⟩ = pure []) ∧ (G.everyL k scope fun G' => SE G' body m) ∧ LamAt G.X params body scope f o H c'
def LamFs (G : Cfg) (k : Nat) (H : Hp) : List (Env → Sto → R (D × Kd)) → List (Addr × Obj) → Prop
  | [], fs => fs = []
  | m :: ms, fs => ∃ f o r, fs = (f, o) :: r ∧ LamF1 G k H m f o ∧ LamFs G k H ms r
theorem codeO_last {E E' : WS} {st : Sto} {c : Addr} {q : Str} (w : G.WO E st) (x : Ext E E') (h : E.H c = some (LamX.CodeO c q)) : E'.H c = some (LamX.CodeO c q) :=
  x.pres c _ h (w.muN h (fun vs z => by unfold LamX.CodeO at z; cases z) fun ks z => by unfold LamX.CodeO at z; cases z) fun ps z => LamX.codeO_ne ps z
theorem LamF1.ext {E E' : WS} {st : Sto} {m : Env → Sto → R (D × Kd)} {f : Addr} {o : Obj} (w : G.WO E st) (x : Ext E E') (h : LamF1 G k E.H m f o) (hn : E'.H f = none) : LamF1 G k E'.H m f o := by
  obtain ⟨params, body, scope, c', h1, h2, h3, la⟩ := h
  exact ⟨params, body, scope, c', h1, h2, h3, ⟨la.obj, hn, la.nfr, codeO_last w x la.code⟩⟩
theorem LamFs.ext {E E' : WS} {st : Sto} (w : G.WO E st) (x : Ext E E') : ∀ {ms : List (Env → Sto → R (D × Kd))} {fs : List (Addr × Obj)}, LamFs G k E.H ms fs → (∀ p ∈ fs, E'.H p.1 = none) → LamFs G k E'.H ms fs
  | [], _, h, _ => h
  | m :: ms, _, ⟨f, o, r, e, h, t⟩, hn => ⟨f, o, r, e, h.ext w x (hn (f, o) (by rw [e]; exact List.mem_cons_self)), t.ext w x fun p hp => hn p (by rw [e]; exact List.mem_cons_of_mem _ hp)⟩
theorem LamFs.len {H : Hp} : ∀ {ms : List (Env → Sto → R (D × Kd))} {fs : List (Addr × Obj)}, LamFs G k H ms fs → fs.length = ms.length
  | [], _, h => by rw [show _ = [] from h]; rfl
  | m :: ms, _, ⟨f, o, r, e, h, t⟩ => by rw [e, List.length_cons, List.length_cons, t.len]
theorem LamFs.at {H : Hp} : ∀ {ms : List (Env → Sto → R (D × Kd))} {fs : List (Addr × Obj)} {i : Nat} {m : Env → Sto → R (D × Kd)}, LamFs G k H ms fs → ms[i]? = some m → ∃ f o, fs[i]? = some (f, o) ∧ LamF1 G k H m f o
  | m :: ms, _, 0, m', ⟨f, o, r, e, h, t⟩, hm => by cases hm; exact ⟨f, o, by rw [e]; rfl, h⟩
  | m :: ms, _, i + 1, m', ⟨f, o, r, e, h, t⟩, hm => by
    obtain ⟨f', o', e', h'⟩ := t.at (i := i) (by simpa using hm)
    exact ⟨f', o', by rw [e]; simpa using e', h'⟩
variable {pins : List (Addr × Obj)} {s : Shared} {σ : L2.St} {E : WS} {st : Sto} {ρ : Env} {c P : Addr}
/-- lambdas in a row -/
theorem lams_spl (T : LamTab G c P) (pos : Pos) : ∀ {es : List Expr} {ms : List (Env → Sto → R (D × Kd))}, LamsX G k es ms → ∀ {pins : List (Addr × Obj)} {s : Shared} {E : WS} {Ex : Value → Shared → Prop} {Q : List Value → Shared → Prop}, Inv G.X pins σ E.H s → G.WO E st →
    (∀ fs E1 s1, Ext E E1 → G.WO E1 st → Inv G.X (pins ++ fs) σ E1.H s1 → LamFs G k E1.H ms fs → Q (fs.map fun p => .ref p.1) s1) → wpAny G.M G.X.A (spliced (backTo pos (starEach es G.X.env))) Q Ex s
  | [], ms, h, pins, s, E, Ex, Q, I, w, hQ => by
    have e : ms = [] := h
    subst e
    exact Calls.spliced_nil (hQ [] E s (Ext.refl E) w (by rw [List.append_nil]; exact I) rfl)
  | e :: es, ms, ⟨m, r, em, ⟨params, body, scope, lp, ee, hL, hdef, hbind, hb⟩, hr⟩, pins, s, E, Ex, Q, I, w, hQ => by
    subst em ee
    have est : starEach (.Lambda params body scope lp :: es) G.X.env = (false, eval (.Lambda params body scope lp) G.X.env) :: starEach es G.X.env := by simp [starEach]
    rw [est]
    show wpAny _ _ (spliced ((false, eval (.Lambda params body scope lp) G.X.env) :: backTo pos (starEach es G.X.env))) _ _ s
    refine Calls.spliced_cons (lam_mk I w T hdef (hL.has I.ok) fun f o c' E1 s1 x1 w1 I1 la _ => ?_)
    refine lams_spl T pos hr I1 w1 fun fs E2 s2 x2 w2 I2 hf => ?_
    rw [List.append_assoc] at I2
    refine hQ ((f, o) :: fs) E2 s2 (x1.trans x2) w2 I2 ⟨f, o, fs, rfl, LamF1.ext w1 x2 ⟨params, body, scope, c', hL, hbind, hb, la⟩ ?_, hf⟩
    exact (I2.pin (f, o) (List.mem_append_right _ (List.mem_append_right _ List.mem_cons_self))).2.1
/-- each raises c -/
def badM (c : Nat) : List (Env → Sto → R (D × Kd)) → Env → Sto → R Unit
  | [], _, s => .ok () s
  | m :: ms, ρ, s => match m ρ s with
    | .err c' s => if c' = c then badM c ms ρ s else .no
    | _ => .no
end
section
variable {G : Cfg} {L : Addr} {k : Nat} {pins : List (Addr × Obj)} {s : Shared} {σ : L2.St} {E : WS} {st : Sto} {ρ : Env}
theorem badM_drop {c : Nat} {ms : List (Env → Sto → R (D × Kd))} {i : Nat} {m : Env → Sto → R (D × Kd)} {PB : Unit → Sto → Prop} {Pe : Nat → Sto → Prop} (hm : ms[i]? = some m) (h : Out (badM c (ms.drop i) ρ st) PB Pe) : Out (m ρ st) (fun _ _ => False) (fun c' st' => c' = c ∧ Out (badM c (ms.drop (i + 1)) ρ st') PB Pe) := by
  obtain ⟨hi, e⟩ := List.getElem?_eq_some_iff.mp hm
  rw [List.drop_eq_getElem_cons hi, e] at h
  simp only [badM] at h
  cases q : m ρ st with
  | ok x s' => rw [q] at h; exact h.elim
  | no => rw [q] at h; exact h.elim
  | err c' s' =>
    rw [q] at h
    have h : Out (if c' = c then badM c (ms.drop (i + 1)) ρ s' else .no) PB Pe := h
    split at h
    · rename_i ec; exact ⟨ec, h⟩
    · exact h.elim
/-- [1 for f in bad if told(f) != ret]: nobody stays -/
theorem bt_run {x f bad ret : Str} {cc fi v : Nat} {g : Addr} {scope : Scope} {elt : Expr} {j2 : Nat} {q1 q2 q3 q4 q5 q6 q7 q8 : Pos} {ms : List (Env → Sto → R (D × Kd))} {fs : List (Addr × Obj)} {Lb : Addr} {PB : Unit → Sto → Prop} {Pe : Nat → Sto → Prop}
    (ok : GOk G L) (T : Told G.X.K G.X.mg G.J x cc ret g) (hr : Room (k + 2) G.X.A) (hret : ret.cps.toList.length ≤ line) (bok : BlkOk G.X.N G.X.env.scope scope [(f, fi)]) (hbad : G.X.N[v]? = some bad) (hvb : Vis G.X.env.scope bad)
    (hfl : scope.names.lookup f = some .local) (hgx : scope.names.lookup x = some .globalImplicit) (hdx : (x == ("__debug__" : Str)) = false) (hdb : (bad == ("__debug__" : Str)) = false) (hcb : (bad == ("__classdict__" : Str)) = false) (hdf : (f == ("__debug__" : Str)) = false) (hcf : (f == ("__classdict__" : Str)) = false)
    (I : Inv G.X (pins ++ fs) σ E.H s) (w : G.WO E st) (fr : G.Fr E σ ρ) (hσ : σ[v]? = some (some (.ref Lb))) (hLb : E.H Lb = some (.lst (fs.map fun p => V.ref p.1))) (nLb : Lb ∉ E.μ) (hf : LamFs G k E.H ms fs)
    (hO : Out (badM cc ms ρ st) PB Pe) {Q : Value → Shared → Prop}
    (hQ : ∀ Ad E' st' s', Ext E E' → G.WO E' st' → Fresh G.X.K E E' (.lst []) Ad → Inv G.X (pins ++ fs) σ E'.H s' → PB () st' → Q (.ref Ad) s') :
    wpAny G.M G.X.A (eval (.ListComp elt [⟨.Name f q1, .Name bad q2, [.Compare (.Call (.Name x q3) [.Name f q4] [] q5) [.NotEq] [.Constant (.str ret) j2 q6] q7], 0⟩] scope q8) G.X.env) Q G.X.xe s := by
  rw [eval_ListComp]
  have hfree : ∀ y ∈ scope.names, y.2 = .free → ∃ c, G.X.env.cells.lookup y.1 = some c := fun y hy e => by
    rcases bok.free y hy e with k | k
    · exact I.ok.has _ (.inl k)
    · exact I.ok.has _ (.inr k)
  refine comprehension_at (use := none) rfl (fun _ => rfl) (closure_ok hfree) bok.kind (fun y hy e => by rw [bok.uniq y hy, e]) ?_
  refine L2.thn ((pe_var (pos := q2) hbad hvb hdb hcb).run (pins ++ fs) s σ E.H (fun v' H' => v' = .ref Lb ∧ H' = E.H) I ⟨.ref Lb, hσ, rfl, rfl⟩) fun u s1 ⟨v', H1, I1, r1, ev, eH⟩ => ?_
  subst ev
  rw [eH] at I1
  obtain rfl : u = Value.ref Lb := r1
  refine L2.thn (it_list (tg := .Name f q1) (R := fun J H' => J = Itl G.X.K Lb ∧ H' = E.H) I1 (.inl (.inl hLb)) ⟨rfl, rfl⟩) fun itv s2 h2 => ?_
  obtain ⟨it, fp, tn, J, H2, e, I2, Tn, st2, f2, eJ, eH2⟩ := h2
  subst e eJ
  rw [eH2] at I2 f2
  clear eH2
  refine wpAny_newObj_type (newEnv_comp ?_) (by show 0 ≤ sizeLine; decide)
  generalize hD : s2.heap.objs.size = Ad
  have hDn : E.H Ad = none := I2.hok.fresh (Nat.le_of_eq hD)
  generalize hs3 : ({ s2 with heap := s2.heap.push { cls := .type "list", data := .seq ([] : List Value).toArray } } : Shared) = s3
  have I3 : Inv G.X (pins ++ fs) σ (E.put Ad (.lst [])).H s3 := by
    rw [← hs3]
    refine I2.laid (t' := s2.toks) (fun b o e => Heap.get?_push_of_some _ e) (Nat.le_of_eq hD) ⟨Nat.zero_le _, [], 0, .nil, ?_⟩
    rw [← hD]
    exact Heap.get?_push_size _ rfl
  have h3 : s3.heap = s2.heap.push { cls := .type "list", data := .seq ([] : List Value).toArray } := by rw [← hs3]
  have sz : ∀ b ∈ fp, b < s2.heap.objs.size := fun b hb => by
    obtain ⟨o, e, _⟩ := Tn.obj _ _ st2 b hb
    exact Heap.lt_size e
  have f3 : ∀ b ∈ fp, FpOk G.X (pins ++ fs) (E.put Ad (.lst [])).H b ∧ b < s3.heap.objs.size := fun b hb => by
    have hlt := sz b hb
    refine ⟨⟨?_, (f2 b hb).2⟩, by rw [h3, Heap.size_push]; exact Nat.lt_succ_of_lt hlt⟩
    show upd E.H Ad _ b = none
    rw [upd_ne (by rw [← hD]; exact Nat.ne_of_lt hlt)]
    exact (f2 b hb).1
  have st3 : tn 0 s3.heap := Tn.keep _ _ _ st2 fun b _ o e => by rw [h3]; exact Heap.get?_push_of_some _ e
  have x3 : Ext E (E.put Ad (.lst [])) := ext_put hDn
  have w3 : G.WO (E.put Ad (.lst [])) st := w.put hDn
  have nD : Ad ∉ E.μ := fun z => by
    rcases w.muH z with ⟨_, e⟩ | ⟨_, e⟩ <;> (rw [hDn] at e; cases e)
  have nF : ¬ E.Fz Ad := fun z => by
    obtain ⟨o, e, _⟩ := w.fzH Ad z
    rw [hDn] at e; cases e
  generalize hE3 : E.put Ad (.lst []) = E3 at I3 f3 x3 w3
  have D3 : E3.H Ad = some (.lst []) := by rw [← hE3]; exact upd_same
  have nD3 : Ad ∉ E3.μ := by rw [← hE3]; exact nD
  have nF3 : ¬ E3.Fz Ad := by rw [← hE3]; exact nF
  clear hE3
  have I4 := (block_start I3 bok ok.nd f3).wish (notedBy (model G.X.prog G.X.w) G.X.A (compEnvC scope (cellsFrom (s3.heap.objs.size + 1) scope.names (cloFrom G.X.env.cells scope.names [])) s3.heap.objs.size G.X.env)
    (CompFails (model G.X.prog G.X.w) G.X.A G.X.xe (compEnvC scope (cellsFrom (s3.heap.objs.size + 1) scope.names (cloFrom G.X.env.cells scope.names [])) s3.heap.objs.size G.X.env)))
  have okB : GOk (G.blk s3 E3.H scope (compEnvC scope (cellsFrom (s3.heap.objs.size + 1) scope.names (cloFrom G.X.env.cells scope.names [])) s3.heap.objs.size G.X.env) fp) L := ok.blk I3 fun b hb => (f3 b hb).1
  show codeAny _ _ (.compStart (.ListComp elt [⟨.Name f q1, .Name bad q2, [.Compare (.Call (.Name x q3) [.Name f q4] [] q5) [.NotEq] [.Constant (.str ret) j2 q6] q7], 0⟩] scope q8) 0 (.ref it) (.ref Ad) (compEnvC scope (cellsFrom (s3.heap.objs.size + 1) scope.names (cloFrom G.X.env.cells scope.names [])) s3.heap.objs.size G.X.env))
    (compEnds (model G.X.prog G.X.w) G.X.A G.X.xe none Q (.ref Ad) (compEnvC scope (cellsFrom (s3.heap.objs.size + 1) scope.names (cloFrom G.X.env.cells scope.names [])) s3.heap.objs.size G.X.env)) { s3 with heap := pushCells (s3.heap.push { cls := .type "dict", data := .dict #[] }) scope.names }
  have nfp : ∀ b ∈ fp, E3.H b = none := fun b hb => (f3 b hb).1.1
  have hkf : ∀ {C : Addr} {cl : List (Str × Addr)}, (compEnvC scope cl C G.X.env).scope = relS scope G.X.env.scope := rfl
  generalize hce : compEnvC scope (cellsFrom (s3.heap.objs.size + 1) scope.names (cloFrom G.X.env.cells scope.names [])) s3.heap.objs.size G.X.env = ce at I4 okB ⊢
  have cL : ce.locals = s3.heap.objs.size := by rw [← hce]; rfl
  have cS : ce.scope = relS scope G.X.env.scope := by rw [← hce]; rfl
  have lf : ce.scope.names.lookup f = some .local := by rw [cS]; exact lookup_relS_keep (by simp) hfl
  have lx : ce.scope.names.lookup x = some .globalImplicit := by rw [cS]; exact lookup_relS_keep (by simp) hgx
  generalize hs4 : ({ s3 with heap := pushCells (s3.heap.push { cls := .type "dict", data := .dict #[] }) scope.names } : Shared) = s4 at I4 ⊢
  have st4 : tn 0 s4.heap := Tn.keep _ _ _ st3 fun b _ o e => by rw [← hs4]; exact pushCells_keeps _ _ _ _ (Heap.get?_push_of_some _ e)
  rw [show ([(f, fi)].map (·.2)) = [fi] from rfl] at I4
  have hNf : G.X.N[fi]? = some f := bok.ix (f, fi) (List.mem_singleton.mpr rfl)
  have stat : ∀ {σ' : L2.St} {H' : Hp} {s' : Shared}, Inv (G.blk s3 E3.H scope ce fp).X fs σ' H' s' → (∀ b ∈ fp, H' b = none) → ∀ b ∈ fp, FpOk (G.blk s3 E3.H scope ce fp).X fs H' b := fun {σ' H' s'} I' hn b hb =>
    ⟨hn b hb, (I'.ok.exf b hb).1, I'.ok.exfs b hb, .inl hb, fun x c e => (I'.ok.exf b hb).2 x c e, fun p hp => (f3 b hb).1.2.2.2.2.2 p (List.mem_append_right _ (List.mem_append_right _ (show p ∈ fs from hp)))⟩
  have outer : ∀ {ps : List (Addr × Obj)} {σ' : L2.St} {E' : WS} {s' : Shared}, Inv (G.blk s3 E3.H scope ce fp).X ps σ' E'.H s' → Inv G.X (pins ++ fs) σ E'.H s' := fun {ps σ' E' s'} I' =>
    I3.call' (ch := fp) I'.os I'.base I'.hok I'.bare fun b hb => ⟨(f3 b hb).1.2.2.2.1, (f3 b hb).1.2.1, (f3 b hb).1.2.2.2.2.1, (f3 b hb).1.2.2.2.2.2⟩
  have pin3 : ∀ p ∈ fs, s3.heap.get? p.1 = some p.2 ∧ E3.H p.1 = none ∧ p.1 ≠ ce.locals ∧ p.1 ∉ frs G.X.stack ∧ ∀ v, p.2.data ≠ .cell v := fun p hp => by
    obtain ⟨a1, a2, a3, a4, a5⟩ := I3.pin p (List.mem_append_right _ (List.mem_append_right _ hp))
    refine ⟨a1, a2, by rw [cL]; exact Nat.ne_of_lt (Heap.lt_size a1), fun hm => ?_, a5⟩
    rcases List.mem_cons.mp (I3.stkSub _ hm) with z | z
    · exact a3 z
    · exact a4 z
  have I4' : Inv (G.blk s3 E3.H scope ce fp).X fs (L2.wipe σ [fi]) E3.H s4 := I4.pins_of fun p hp => by
    obtain ⟨a1, a2, a3, a4, a5⟩ := pin3 p hp
    exact ⟨by rw [← hs4]; exact pushCells_keeps _ _ _ _ (Heap.get?_push_of_some _ a1), a2, a3, a4, a5⟩
  let Inn : Nat → Shared → Prop := fun n s' => ∃ (i : Nat) (E' : WS) (st' : Sto), n = ms.length - i ∧ i ≤ ms.length ∧ Inv (G.blk s3 E3.H scope ce fp).X fs (L2.wipe σ [fi]) E'.H s' ∧ tn i s'.heap ∧ (∀ b ∈ fp, E'.H b = none) ∧
    G.WO E' st' ∧ Ext E E' ∧ (E'.H Ad = some (.lst []) ∧ Ad ∉ E'.μ ∧ ¬ E'.Fz Ad) ∧ Out (badM cc (ms.drop i) ρ st') PB Pe
  have hlen := hf.len
  have loop : codeAny (model G.X.prog G.X.w) G.X.A (.compLoop (.ListComp elt [⟨.Name f q1, .Name bad q2, [.Compare (.Call (.Name x q3) [.Name f q4] [] q5) [.NotEq] [.Constant (.str ret) j2 q6] q7], 0⟩] scope q8) 0 (.ref it) (.ref Ad) ce) (compEnds (model G.X.prog G.X.w) G.X.A G.X.xe none Q (.ref Ad) ce) s4 := by
    refine compLoop_any Inn ?_ ms.length ⟨0, E3, st, by simp, Nat.zero_le _, I4', st4, nfp, w3, x3, ⟨D3, nD3, nF3⟩, by simpa using hO⟩
    rintro n s5 ⟨i, E5, st5, en, hle, I5, tn5, n5, w5, x5, ⟨hD5, nm5, nf5⟩, h5⟩
    have hLb5 : E5.H Lb = some (.lst (fs.map fun p => V.ref p.1)) := x5.pres Lb _ hLb nLb nt_lst
    by_cases hlt : i < ms.length
    · have hm : ms[i]? = some ms[i] := List.getElem?_eq_getElem hlt
      have hfE : LamFs G k E5.H ms fs := hf.ext w x5 fun p hp => (I5.pin p (List.mem_append_right _ hp)).2.1
      obtain ⟨fa, o, hfo, params, body, lsc, c', hL, hbind, hb, la⟩ := hfE.at hm
      have hmem : (fa, o) ∈ fs := List.mem_of_getElem? hfo
      have hvs : (fs.map fun p => V.ref p.1)[i]? = some (.ref fa) := by rw [List.getElem?_map, hfo]; rfl
      have ti := Tn.item (G.blk s3 E3.H scope ce fp).X rfl rfl rfl ok.calm i _ s5 _ E5.H (G.blk s3 E3.H scope ce fp).X.xe I5 (stat I5 n5) tn5 ⟨_, _, .inl (.inl hLb5), hvs⟩
      refine L2.thn ti fun r s6 ⟨u, hr', h6⟩ => ?_
      subst hr'
      refine L2.thn h6 fun _ s7 ⟨y, H7, I7, r7, y7, st7, n7⟩ => ?_
      obtain ⟨eH7, ey⟩ := y7
      rw [eH7] at I7 n7
      have ey := ey _ (.inl (.inl hLb5))
      rw [hvs] at ey
      cases ey
      obtain rfl : u = Value.ref fa := r7
      have I7' := I7.pinned (stat I7 n7) (Tn.obj _ _ st7)
      refine wpAny_assign_Name (store_ok (X := (G.blk s3 E3.H scope ce fp).X) (v := V.ref fa) I7' ok.nd hNf (.inl lf) rfl (fun s8 I8 => ?_) (.inr lf))
      -- the turn's end
      have fin : ∀ {s' : Shared} {E' : WS} {st' : Sto}, Inv (G.blk s3 E3.H scope ce fp).X (fs ++ pinsAt fp s7.heap) ((L2.wipe σ [fi]).set fi (some (V.ref fa))) E'.H s' → G.WO E' st' → Ext E5 E' → Out (badM cc (ms.drop (i + 1)) ρ st') PB Pe → ∃ m, m < n ∧ Inn m s' := fun {s' E' st'} I' w' x' h' => by
        have pin' : ∀ b ∈ fp, ∀ o, s7.heap.get? b = some o → s'.heap.get? b = some o ∧ E'.H b = none := fun b hb o e =>
          let z := I'.pin (b, o) (List.mem_append_right _ (List.mem_append_right _ (mem_pinsAt hb e)))
          ⟨z.1, z.2.1⟩
        refine ⟨ms.length - (i + 1), by omega, i + 1, E', st', rfl, hlt, (I'.unpinned).weak (by simp) (fun j v e => ?_), Tn.keep _ _ _ st7 fun b hb o e => (pin' b hb o e).1, fun b hb => ?_, w', x5.trans x', ⟨x'.pres Ad _ hD5 nm5 nt_lst, x'.there hD5 nm5, fun z => ?_⟩, h'⟩
        · obtain ⟨_, hj⟩ := wipe_some e
          rw [List.getElem?_set_ne (fun z => hj (by rw [z]; exact List.mem_singleton.mpr rfl))]
          exact e
        · obtain ⟨o, e, _⟩ := Tn.obj _ _ st7 b hb
          exact (pin' b hb o e).2
        · rcases x'.fzn Ad z with z | z
          · exact nf5 z
          · rw [hD5] at z; cases z
      refine wpAny_tests_one (wpAny_isTrue_Compare1 ?_ rfl)
      have hgl : Gl (G.blk s3 E3.H scope ce fp).X x := lx
      refine wpAny_Call_Name_kw (ld_glob (X := (G.blk s3 E3.H scope ce fp).X) I8 hgl T.mgx ?_ hdx)
      refine PySem.W.callWith_K (h₀ := G.X.base) I8.ok.mod.kin T.keep ?_ (by simp [starEach]) (by simp [starEach, backTo])
      rw [show starEach [.Name f q4] ce = (false, eval (.Name f q4) ce) :: starEach [] ce by simp [starEach]]
      show wpAny _ _ (spliced ((false, eval (.Name f q4) ce) :: backTo q5 (starEach [] ce))) _ _ s8
      refine Calls.spliced_cons (L2.thn ((pe_var (X := (G.blk s3 E3.H scope ce fp).X) (pos := q4) hNf (.inl lf) hdf hcf).run _ s8 _ E5.H (fun v' H' => v' = .ref fa ∧ H' = E5.H) I8 ⟨.ref fa, ?_, rfl, rfl⟩) fun u9 s9 ⟨v9, H9, I9, r9, ev9, eH9⟩ => ?_)
      · refine List.getElem?_set_self ?_
        rw [wipe_length, I3.len]
        exact (List.getElem?_eq_some_iff.mp hNf).1
      subst ev9
      rw [eH9] at I9
      obtain rfl : u9 = Value.ref fa := r9
      refine Calls.spliced_nil ⟨I9.kIn, ?_⟩
      have rc := told_run (E := E5) (PB := fun st' => Out (badM cc (ms.drop (i + 1)) ρ st') PB Pe) ok T hr hL hbind hb (outer I9) w5 (fr.mono x5) (List.mem_append_right _ hmem) la (badM_drop hm h5)
      refine wpAny_call (codeAny_mono rc fun r s' hq => ?_)
      cases r with
      | error e => exact (show False from hq).elim
      | ok fl =>
        cases fl with
        | next => exact False.elim hq
        | brk => exact False.elim hq
        | cont => exact False.elim hq
        | ret u =>
          obtain ⟨v, H10, I10, rv, ev, E10, st10, eH10, x10, w10, h10⟩ := I9.after hq
          subst ev
          rw [← eH10] at I10
          refine L2.thn ((pe_str (X := (G.blk s3 E3.H scope ce fp).X) (x := ret) (j := j2) (pos := q6)).run _ s' _ E10.H (fun v' H' => v' = .str ret ∧ H' = E10.H) I10 ⟨rfl, rfl⟩) fun u11 s11 ⟨v11, H11, I11, r11, ev11, eH11⟩ => ?_
          subst ev11
          rw [eH11] at I11
          have hS : Rep G.X.K E10 (.str ret.cps.toList) (V.str ret) := rep_str.mpr ⟨by simp, hret⟩
          refine cmpop_ok (G := G.blk s3 E3.H scope ce fp) (o := .ne) (x := .str ret.cps.toList) (y := .str ret.cps.toList) (b := false) ok.units I11 w10 (.inr hS) (.inr hS) rv r11 (by simp [cmpop, view, cmpOk, plainD, dep, deq]) fun s12 I12 => ?_
          exact wpAny_truthy_bool (fin I12 w10 x10 h10)
    · have ei : i = ms.length := by omega
      subst ei
      rw [List.drop_length] at h5
      have td := Tn.done (G.blk s3 E3.H scope ce fp).X rfl rfl rfl ok.calm _ _ s5 _ E5.H (G.blk s3 E3.H scope ce fp).X.xe I5 (stat I5 n5) tn5 ⟨_, .inl (.inl hLb5), by rw [List.length_map, hlen]; exact Nat.le_refl _⟩
      refine L2.thn td fun r s6 ⟨hr', I6⟩ => ?_
      subst hr'
      obtain ⟨m, hn, _⟩ := I6.loc
      have hn : s6.heap.Ns ce.locals m := hn
      have nC : E5.H ce.locals = none := I6.free
      obtain ⟨p0, p1, p2, p3, p4, p5⟩ := I3.fpOk (Nat.le_of_eq cL.symm) nC
      refine ⟨m, hn, fun h'' sb => ?_⟩
      exact hQ Ad E5 st5 _ x5 w5 ⟨⟨[], hD5, by rw [RepA]⟩, nf5, nm5, hDn⟩ ((outer I6).turned (t' := s6.toks) (fun b o hb e => (sb.2 b hb).trans e) p0 p1 p3 p4 p5) h5
  exact codeAny_compStart_list loop (Tn.self G.X.A 0 _ _ _ st4 loop)
end
end RS
end S29
section S30
set_option autoImplicit false
set_option linter.all false
set_option maxRecDepth 100000
set_option Elab.async false
/-! D4: the statement of bad ones. -/
namespace RS
open PySem PySem.Spec PyProof.Rows L2

section
variable {G : Cfg} {L : Addr} {k : Nat} {pins : List (Addr × Obj)} {s : Shared} {σ : L2.St} {E : WS} {st : Sto} {ρ : Env}
/-- [1 for f in bad if told(f) != ret] != [] -/
abbrev badTest (x f bad ret : Str) (scope : Scope) (elt : Expr) (j2 : Nat) (q1 q2 q3 q4 q5 q6 q7 q8 q9 q10 : Pos) : Expr :=
  .Compare (.ListComp elt [⟨.Name f q1, .Name bad q2, [.Compare (.Call (.Name x q3) [.Name f q4] [] q5) [.NotEq] [.Constant (.str ret) j2 q6] q7], 0⟩] scope q8) [.NotEq] [.List [] q9] q10
/-- what is asked of the text -/
structure BadOk (G : Cfg) (k : Nat) (x f bad ret : Str) (cc fi v : Nat) (scope : Scope) : Prop where
  told : ∃ g, Told G.X.K G.X.mg G.J x cc ret g
  room : Room (k + 2) G.X.A
  ret : ret.cps.toList.length ≤ line
  blk : BlkOk G.X.N G.X.env.scope scope [(f, fi)]
  nam : NameOk G.X v bad
  fl : scope.names.lookup f = some .local
  gx : scope.names.lookup x = some .globalImplicit
  dx : (x == ("__debug__" : Str)) = false
  db : (bad == ("__debug__" : Str)) = false
  cb : (bad == ("__classdict__" : Str)) = false
  df : (f == ("__debug__" : Str)) = false
  cf : (f == ("__classdict__" : Str)) = false
  tab : ∃ c P, LamTab G c P
theorem bt_test {x f bad ret : Str} {cc fi v : Nat} {scope : Scope} {elt : Expr} {j2 : Nat} {q1 q2 q3 q4 q5 q6 q7 q8 q9 q10 : Pos} {ms : List (Env → Sto → R (D × Kd))} {fs : List (Addr × Obj)} {Lb : Addr} {PB : Unit → Sto → Prop} {Pe : Nat → Sto → Prop}
    (ok : GOk G L) (B : BadOk G k x f bad ret cc fi v scope) (I : Inv G.X (pins ++ fs) σ E.H s) (w : G.WO E st) (fr : G.Fr E σ ρ) (tk : G.Tk s) (hσ : σ[v]? = some (some (.ref Lb))) (hLb : E.H Lb = some (.lst (fs.map fun p => V.ref p.1))) (nLb : Lb ∉ E.μ) (hf : LamFs G k E.H ms fs)
    (hO : Out (badM cc ms ρ st) PB Pe) {Q : Bool → Shared → Prop} (hQ : ∀ E' st' s', Ext E E' → G.WO E' st' → Inv G.X (pins ++ fs) σ E'.H s' → G.Tk s' → PB () st' → Q false s') :
    wpAny G.M G.X.A (isTrue (badTest x f bad ret scope elt j2 q1 q2 q3 q4 q5 q6 q7 q8 q9 q10) G.X.env (eval (badTest x f bad ret scope elt j2 q1 q2 q3 q4 q5 q6 q7 q8 q9 q10) G.X.env)) Q G.X.xe s := by
  obtain ⟨g, T⟩ := B.told
  refine wpAny_isTrue_Compare1 ?_ rfl
  have hvb : Vis G.X.env.scope bad := B.nam.loc.elim .inl fun z => .inr (.inl z)
  refine G.wtk tk (bt_run ok T B.room B.ret B.blk B.nam.at_ hvb B.fl B.gx B.dx B.db B.cb B.df B.cf I w fr hσ hLb nLb hf hO fun Ad E1 st1 s1 x1 w1 fa I1 hp t1 => ?_)
  have sl : SE G (.List [] q9) (fun ρ s => (R.ok ([] : List D) s).bind fun ds s => .ok (.lst ds, .fr) s) := se_lst (m := fun _ s => .ok [] s) sa_nil fun _ _ _ _ e => by cases e; exact Nat.zero_le _
  refine G.wtk t1 (sl.run (pins ++ fs) s1 σ E1 ρ st1 _ I1 w1 (fr.mono x1) t1 (fun E2 v2 u2 s2 x2 w2 r2 I2 ru2 t2 => ?_))
  have r1 : RepX G.X.K E2 (.lst []) (.ref Ad) := by
    refine RepX.ext x2 (.inl ⟨Ad, rfl, fa.own, fa.nmu⟩)
  refine G.wtk t2 (cmpop_ok (o := .ne) (x := .lst []) (y := .lst []) (b := false) ok.units I2 w2 r1 r2.x rfl ru2 (by simp [cmpop, view, cmpOk, plainD, plainA, dep, depA, deq, deqA]) fun s3 I3 t3 => ?_)
  exact wpAny_truthy_bool (hQ E2 st1 s3 (x1.trans x2) w2 I3 t3 hp)
/-- bad = [lambda: .., ..] and the state behind it -/
theorem bad_set {x f bad ret : Str} {cc fi v : Nat} {scope : Scope} {es : List Expr} {ms : List (Env → Sto → R (D × Kd))} {p1 p2 p3 : Pos} (ok : GOk G L) (B : BadOk G k x f bad ret cc fi v scope) (hes : LamsX G k es ms) (hlen : es.length ≤ line)
    (hs : swapsWith (.List es p2) (some (.Name bad p1)) p3.line G.X.env = pure false) (I : Inv G.X pins σ E.H s) (w : G.WO E st) (fr : G.Fr E σ ρ) (tk : G.Tk s) {Q : Flow → Shared → Prop}
    (hQ : ∀ fs Lb E1 s1, Ext E E1 → G.WO E1 st → Inv G.X (pins ++ fs) (σ.set v (some (.ref Lb))) E1.H s1 → G.Tk s1 → E1.H Lb = some (.lst (fs.map fun p => V.ref p.1)) → Lb ∉ E1.μ → LamFs G k E1.H ms fs → G.Fr E1 (σ.set v (some (.ref Lb))) (ρ.set v none) → Q .next s1) :
    wpAny G.M G.X.A (PySem.exec (.Assign [.Name bad p1] (.List es p2) p3) G.X.env) Q G.X.xe s := by
  obtain ⟨c, P, T⟩ := B.tab
  refine wpAny_Assign_Name (G.wtk tk (wpAny_List_spliced (lams_spl T p2 hes I w fun fs E1 s1 x1 w1 I1 hf => ?_))) hs
  have hfl : fs.length = es.length := by
    rw [hf.len]
    clear hf I1 hs hQ
    revert ms
    induction es with
    | nil => intro ms h; rw [show ms = [] from h]; rfl
    | cons e es ih =>
      intro ms ⟨m, r, em, _, hr⟩
      rw [em, List.length_cons, List.length_cons, ih (by have : (e :: es).length = es.length + 1 := rfl; omega) hr]
  have rv : Vals (fs.map fun p => V.ref p.1) (fs.map fun p => Value.ref p.1) := by
    clear hf I1 hQ hfl
    induction fs with
    | nil => exact .nil
    | cons p r ih => exact .cons rfl ih
  have hz : (fs.map fun p => V.ref p.1).length ≤ sizeLine := by rw [List.length_map, hfl, ← line_eq]; exact hlen
  have hfn : E1.H s1.heap.objs.size = none := I1.hok.fresh (Nat.le_refl _)
  have nmu : s1.heap.objs.size ∉ E1.μ := fun z => by
    rcases w1.muH z with ⟨_, e⟩ | ⟨_, e⟩ <;> (rw [hfn] at e; cases e)
  refine ⟨by rw [← rv.length]; exact hz, fun t2 => ?_⟩
  have I2 := laid_lst I1 rv hz
  have x2 : Ext E1 (E1.put s1.heap.objs.size (.lst (fs.map fun p => V.ref p.1))) := ext_put hfn
  have w2 : G.WO (E1.put s1.heap.objs.size (.lst (fs.map fun p => V.ref p.1))) st := w1.put hfn
  refine G.wtk t2 (store_ok (v := V.ref s1.heap.objs.size) I2 ok.nd B.nam.at_ B.nam.loc rfl (fun s3 I3 t3 => ?_) B.nam.own)
  refine hQ fs s1.heap.objs.size _ s3 (x1.trans x2) w2 I3 t3 upd_same nmu (hf.ext w1 x2 fun p hp => ?_) (((fr.mono x1).mono x2).drop _)
  exact (I3.pin p (List.mem_append_right _ (List.mem_append_right _ hp))).2.1
variable {x f bad ret : Str} {cc fi v : Nat} {scope : Scope} {es : List Expr} {ms : List (Env → Sto → R (D × Kd))} {p1 p2 p3 p4 pb : Pos} {elt : Expr} {j2 : Nat} {q1 q2 q3 q4 q5 q6 q7 q8 q9 q10 : Pos} {rest body orelse : List Stmt} {mr ma mb : Env → Sto → R (Fl × Env)}
theorem sss_bads (ok : GOk G L) (B : BadOk G k x f bad ret cc fi v scope) (hes : LamsX G k es ms) (hlen : es.length ≤ line) (hs : swapsWith (.List es p2) (some (.Name bad p1)) p3.line G.X.env = pure false) (hr : SSs G rest mr) :
    SSs G (.Assign [.Name bad p1] (.List es p2) p3 :: .If (badTest x f bad ret scope elt j2 q1 q2 q3 q4 q5 q6 q7 q8 q9 q10) body [] p4 :: rest)
      (fun ρ s => (if v < ρ.length then (badM cc ms (ρ.set v none) s).bind fun _ s => .ok (Fl.nx, ρ.set v none) s else .no).bind fun f s => match f with | (.nx, ρ) => mr ρ s | f => .ok f s) := by
  refine ⟨fun pins s σ E ρ st Q I w fr tk hO => wpAny_execs_cons (bad_set ok B hes hlen hs I w fr tk fun fs Lb E1 s1 x1 w1 I1 t1 hLb nLb hf f1 => wpAny_execs_cons (wpAny_If ?_))⟩
  split at hO
  · rename_i hv
    have hσ : (σ.set v (some (V.ref Lb)))[v]? = some (some (.ref Lb)) := List.getElem?_set_self (by rw [← fr.len]; exact hv)
    refine bt_test ok B I1 w1 f1 t1 hσ hLb nLb hf (Out.bind.mp (Out.bind.mp hO)) fun E2 st2 s2 x2 w2 I2 t2 hp => ?_
    refine wpAny_execs_nil ?_
    have hp : Out (mr (ρ.set v none) st2) (G.okS pins E Q) G.erS := hp
    exact hr.run pins s2 _ E2 _ st2 Q I2.unpinned w2 (f1.mono x2) t2 (hp.mono (fun _ _ z => Cfg.okS_from (x1.trans x2).last z) fun _ _ z => z)
  · exact hO.elim
theorem sss_badsOr {b : Expr} {more : List Expr} {mt : Env → Sto → R Bool} (ok : GOk G L) (B : BadOk G k x f bad ret cc fi v scope) (hes : LamsX G k es ms) (hlen : es.length ≤ line) (hs : swapsWith (.List es p2) (some (.Name bad p1)) p3.line G.X.env = pure false)
    (ht : SW G (.BoolOp .Or (b :: more) pb) mt) (ha : SSs G body ma) (hb : SSs G orelse mb) (hr : SSs G rest mr) :
    SSs G (.Assign [.Name bad p1] (.List es p2) p3 :: .If (.BoolOp .Or (badTest x f bad ret scope elt j2 q1 q2 q3 q4 q5 q6 q7 q8 q9 q10 :: b :: more) pb) body orelse p4 :: rest)
      (fun ρ s => (if v < ρ.length then (badM cc ms (ρ.set v none) s).bind fun _ s => .ok (Fl.nx, ρ.set v none) s else .no).bind fun f s => match f with
        | (.nx, ρ) => ((mt ρ s).bind fun t s => if t then ma ρ s else mb ρ s).bind fun f s => match f with | (.nx, ρ) => mr ρ s | f => .ok f s
        | f => .ok f s) := by
  refine ⟨fun pins s σ E ρ st Q I w fr tk hO => wpAny_execs_cons (bad_set ok B hes hlen hs I w fr tk fun fs Lb E1 s1 x1 w1 I1 t1 hLb nLb hf f1 => wpAny_execs_cons (wpAny_If (isTrue_or ?_)))⟩
  split at hO
  · rename_i hv
    have hσ : (σ.set v (some (V.ref Lb)))[v]? = some (some (.ref Lb)) := List.getElem?_set_self (by rw [← fr.len]; exact hv)
    refine bt_test ok B I1 w1 f1 t1 hσ hLb nLb hf (Out.bind.mp (Out.bind.mp hO)) fun E2 st2 s2 x2 w2 I2 t2 hp => ?_
    have I3 := I2.unpinned
    have hp' : Out (mt (ρ.set v none) st2) (fun t s => Out (if t then ma (ρ.set v none) s else mb (ρ.set v none) s) (fun f s => Out (match f with | (.nx, ρ) => mr ρ s | f => .ok f s) (G.okS pins E Q) G.erS) G.erS) G.erS := Out.bind.mp (Out.bind.mp hp)
    refine G.wtk t2 (ht.run _ pins s2 _ E2 _ st2 _ I3 w2 (f1.mono x2) t2 (hp'.mono (fun t st3 h3 E3 s3 x3 w3 I4 t3 => ?_) fun _ _ z => Cfg.erS_er (f1.mono x2) z))
    have fin : ∀ {m : Env → Sto → R (Fl × Env)} {as : List Stmt}, SSs G as m → Out (m (ρ.set v none) st3) (fun f s => Out (match f with | (.nx, ρ) => mr ρ s | f => .ok f s) (G.okS pins E Q) G.erS) G.erS →
        wpAny G.M G.X.A (PySem.execs as G.X.env) (fun fl s' => match fl with | .next => wpAny G.M G.X.A (PySem.execs rest G.X.env) Q G.X.xe s' | fl => Q fl s') G.X.xe s3 := fun {m as} hm hO' => by
      refine hm.run pins s3 _ E3 _ st3 _ I4 w3 ((f1.mono x2).mono x3) t3 (hO'.mono (fun fl st4 h4 E4 σ4 fw s4 l4 w4 f4 I5 r4 t4 => ?_) fun _ _ z => z)
      obtain ⟨xf, ρ4⟩ := fl
      cases xf with
      | nx =>
        cases fw <;> first | exact r4.elim | skip
        exact hr.run pins s4 σ4 E4 ρ4 st4 Q I5 w4 f4 t4 (h4.mono (fun _ _ z => Cfg.okS_from (((x1.trans x2).trans x3).last.trans l4) z) fun _ _ z => z)
      | bk => cases fw <;> first | exact r4.elim | exact h4 E4 σ4 _ s4 (((x1.trans x2).trans x3).last.trans l4) w4 f4 I5 r4 t4
      | ct => cases fw <;> first | exact r4.elim | exact h4 E4 σ4 _ s4 (((x1.trans x2).trans x3).last.trans l4) w4 f4 I5 r4 t4
      | rt d kk => cases fw <;> first | exact r4.elim | exact h4 E4 σ4 _ s4 (((x1.trans x2).trans x3).last.trans l4) w4 f4 I5 r4 t4
    cases t with
    | true => exact fin ha h3
    | false => exact fin hb h3
  · exact hO.elim
end
end RS
end S30
section S31
set_option autoImplicit false
set_option linter.all false
set_option maxRecDepth 100000
set_option Elab.async false
/-! E1: side conditions, decided. -/
namespace RS
open PySem PySem.Spec PyProof.Rows L2

/-- an expression's value is its test -/
def valTest : Expr → Bool
  | .Name .. | .Call .. | .Subscript .. | .Constant .. | .Attribute .. | .BinOp .. | .ListComp .. | .List .. | .Tuple .. | .Dict .. | .JoinedStr .. => true
  | _ => false
theorem valTest_ok {e : Expr} {env : PySem.Env} (h : valTest e = true) : ∀ whole, isTrue e env whole = (do let v ← whole; standAt e.pos; holding [v] (truthy v)) := by
  cases e <;> first | (simp [valTest] at h; done) | (intro whole; rfl)
def notSet : Expr → Bool
  | .Set .. => false
  | _ => true
theorem notSet_ok {e : Expr} {env : PySem.Env} (h : notSet e = true) : ∀ x, foldedSetIterable e env x = pure x := by
  cases e <;> first | (simp [notSet] at h; done) | (intro x; rfl)
def notSL : Expr → Bool
  | .Set .. | .List .. => false
  | _ => true
theorem notSL_ok {e : Expr} {env : PySem.Env} (h : notSL e = true) : ∀ x, genFold e env x = pure x := by
  cases e <;> first | (simp [notSL] at h; done) | (intro x; rfl)
def plainIxB : Expr → Bool
  | .Slice .. => false
  | .Tuple .. => false
  | .Constant .. | .Name .. | .UnaryOp .. | .BinOp .. | .Call .. | .Subscript .. | .IfExp .. | .Attribute .. => true
  | _ => false
theorem plainIx_ok {b : Expr} (h : plainIxB b = true) : PlainIx b := by
  cases b <;> first | (simp [plainIxB] at h; done) | (intro o i; rfl) | (intro o i; simp [subscripted])
def notComp : Expr → Bool
  | .ListComp .. | .SetComp .. | .DictComp .. => false
  | _ => true
theorem swaps_plain {e : Expr} {t : Option Expr} {l : Nat} {env : PySem.Env} (h : notComp e = true) : swapsWith e t l env = pure false := by
  cases e <;> first | (simp [notComp] at h; done) | rfl
/-- name = [..]: is the result stored by the comprehension itself? -/
def swapsB (bk : Bool) (scope : Scope) (lnV : Nat) (value : Expr) (t : Str) (pos : Pos) (loc : Bool) : Bool :=
  bk && loc && pos.line == lnV && !(scope.names.any fun (n, k) => n == t && (k == .local || k == .cell))
theorem swaps_lc {elt : Expr} {gens : List Comprehension} {scope : Scope} {cpos pos : Pos} {t : Str} {l : Nat} {env : PySem.Env} :
    swapsWith (.ListComp elt gens scope cpos) (some (.Name t pos)) l env = pure (env.blockKind == .function && env.kindOf t == some .local && pos.line == cpos.line && !(scope.names.any fun (n, k) => n == t && (k == .local || k == .cell))) := rfl
theorem swaps_dc {k v : Expr} {gens : List Comprehension} {scope : Scope} {cpos pos : Pos} {t : Str} {l : Nat} {env : PySem.Env} :
    swapsWith (.DictComp k v gens scope cpos) (some (.Name t pos)) l env = pure (env.blockKind == .function && env.kindOf t == some .local && pos.line == cpos.line && !(scope.names.any fun (n, k) => n == t && (k == .local || k == .cell))) := rfl
theorem swaps_other {e : Expr} {o i : Expr} {p : Pos} {l : Nat} {env : PySem.Env} : swapsWith e (some (.Subscript o i p)) l env = pure false := by
  cases e <;> rfl
theorem swaps_tup {e : Expr} {ts : List Expr} {k : Nat} {p : Pos} {l : Nat} {env : PySem.Env} : swapsWith e (some (.Tuple ts k p)) l env = pure false := by
  cases e <;> rfl
theorem swaps_call {f : Expr} {es : List Expr} {ks : List Keyword} {p : Pos} {t : Option Expr} {l : Nat} {env : PySem.Env} : swapsWith (.Call f es ks p) t l env = pure false := rfl
end RS
end S31
section S32
set_option autoImplicit false
set_option linter.all false
set_option maxRecDepth 100000
set_option Elab.async false
/-! E2: the order of a tuple's stores, decided. -/
namespace RS
open PySem PySem.Spec PyProof.Rows L2

def starred : Expr → Bool
  | .Starred .. => true
  | _ => false
def locName (loc : Str → Bool) (line : Nat) : Expr → Option Str
  | .Name id pos => if loc id && pos.line == line then some id else none
  | _ => none
/-- what swappedStores gives of a tuple to a tuple in a function, by the kinds of its names (none: it is not spoken of) -/
def swB (loc : Str → Bool) (ts vs : List Expr) : Option (Option (List Str)) :=
  if !(ts.length == 2 || ts.length == 3) || vs.length != ts.length then some none
  else if vs.any starred then some none
  else if (ts.filterMap (locName loc ((ts.head?.map (·.pos.line)).getD 0))).length != ts.length || (ts.filterMap (locName loc ((ts.head?.map (·.pos.line)).getD 0))).eraseDups.length != (ts.filterMap (locName loc ((ts.head?.map (·.pos.line)).getD 0))).length then some none
  else if vs.all (foldedForSure 8) then some none
  else if vs.all (constantsAlone 8) then none
  else some (some (ts.filterMap (locName loc ((ts.head?.map (·.pos.line)).getD 0))))
theorem swB_ok {loc : Str → Bool} {ts vs : List Expr} {k k2 : Nat} {p p2 : Pos} {env : PySem.Env} {r : Option (List Str)} (hb : env.blockKind = .function) (hl : ∀ x, (env.kindOf x == some .local) = loc x) (h : swB loc ts vs = some r) :
    swappedStores [.Tuple ts k p] (.Tuple vs k2 p2) env = pure r := by
  have el : loc = fun x => env.kindOf x == some .local := funext fun x => (hl x).symm
  subst el
  have hb2 : (env.blockKind != ScopeKind.function) = false := by rw [hb]; rfl
  unfold swB at h
  show (if (!(ts.length == 2 || ts.length == 3) || vs.length != ts.length || env.blockKind != .function) = true then pure none
    else if vs.any starred = true then pure none
    else if ((ts.filterMap (locName (fun x => env.kindOf x == some .local) ((ts.head?.map (·.pos.line)).getD 0))).length != ts.length || (ts.filterMap (locName (fun x => env.kindOf x == some .local) ((ts.head?.map (·.pos.line)).getD 0))).eraseDups.length != (ts.filterMap (locName (fun x => env.kindOf x == some .local) ((ts.head?.map (·.pos.line)).getD 0))).length) = true then pure none
    else if vs.all (foldedForSure 8) = true then pure none
    else if vs.all (constantsAlone 8) = true then (unsupported "assign.tuple-of-constant-expressions:order-of-the-stores" >>= fun (_ : PUnit) => pure (some (ts.filterMap (locName (fun x => env.kindOf x == some .local) ((ts.head?.map (·.pos.line)).getD 0))))) else pure (some (ts.filterMap (locName (fun x => env.kindOf x == some .local) ((ts.head?.map (·.pos.line)).getD 0))))) = (pure r : Sem (Option (List Str)))
  rw [hb2, Bool.or_false]
  split at h
  · rename_i c; cases h; rw [if_pos c]
  · rename_i c
    rw [if_neg c]
    split at h
    · rename_i c2; cases h; rw [if_pos c2]
    · rename_i c2
      rw [if_neg c2]
      split at h
      · rename_i c3; cases h; rw [if_pos c3]
      · rename_i c3
        rw [if_neg c3]
        split at h
        · rename_i c4; cases h; rw [if_pos c4]
        · rename_i c4
          rw [if_neg c4]
          split at h
          · cases h
          · rename_i c5
            cases h
            rw [if_neg c5]
theorem sw_one {ts : List Expr} {k : Nat} {p : Pos} {e : Expr} {env : PySem.Env} (h : ∀ vs k2 p2, e ≠ .Tuple vs k2 p2) : swappedStores [.Tuple ts k p] e env = pure none := by
  cases e <;> first | rfl | (rename_i a b c; exact absurd rfl (h a b c))
end RS
end S32
section S33
set_option autoImplicit false
set_option linter.all false
set_option maxRecDepth 100000
set_option Elab.async false
/-! E3: is this the text's meaning? (a text against a term of the little language, decided) -/
namespace RS
open PySem PySem.Spec PyProof.Rows L2

/-- a text's own names: defs (their numbers, how many parameters), constants, exceptions, the def that tells -/
structure Tb where
  fns : List (Str × Nat × Nat)
  gls : List (Str × Nat)
  cls : List (Str × Nat)
  told : Str
  tcls : Nat
  tret : List Nat
/-- where a text stands -/
structure CC where
  N : List Str
  sc : Scope
  /-- the names that may be stored -/
  fn : Str → Bool
  lv : Nat
  tk : Bool
  gen : Bool
  lam : Bool
def visB (sc : Scope) (x : Str) : Bool := match sc.names.lookup x with
  | some .local | some .cell | some .free => true
  | _ => false
def locB (sc : Scope) (x : Str) : Bool := match sc.names.lookup x with
  | some .local | some .cell => true
  | _ => false
def glB (c : CC) (x : Str) : Bool := c.sc.names.lookup x == some NameKind.globalImplicit
def ndB (x : Str) : Bool := !(x == ("__debug__" : Str)) && !(x == ("__classdict__" : Str))
def nmB (c : CC) (i : Nat) (x : Str) : Bool := c.N[i]? == some x && visB c.sc x && ndB x
def stB (c : CC) (i : Nat) (x : Str) : Bool := c.N[i]? == some x && locB c.sc x && (c.fn x || c.sc.names.lookup x == some NameKind.local)
def strB (t : List Nat) (s : Str) : Bool := s.cps.toList == t && decide (t.length ≤ line)
def conB : D → Const → Bool
  | .non, .none => true
  | .bl b, .bool c => b == c
  | .int i, .int j => i == j
  | .str t, .str s => strB t s
  | _, _ => false
/-- the names of a block -/
def CC.blk (c : CC) (scope : Scope) : CC := { c with sc := relS scope c.sc, fn := fun x => scope.names.lookup x == some NameKind.cell }
def CC.gn (c : CC) (scope : Scope) : CC := { c with sc := scope, fn := fun _ => false, lv := c.lv - 1, tk := false, gen := false, lam := false }
def ownOf (N : List Str) (is : List Nat) : List (Str × Nat) := is.filterMap fun i => (N[i]?).map fun x => (x, i)
def blkB (c : CC) (scope : Scope) (t : Tg) : Bool := L2.blkC c.N c.sc scope (ownOf c.N (tgNames t)) && (ownOf c.N (tgNames t)).map (·.2) == tgNames t
def genB (c : CC) (scope : Scope) (t : Tg) : Bool := blkB c scope t && !scope.isCoroutine && scope.names.all (fun y => !(y.2 == NameKind.cell)) && scope.names.lookup (".0" : Str) == some NameKind.local && decide (1 ≤ c.lv) && c.gen
def ckTs (c : CC) : List Nat → List Expr → Bool
  | [], [] => true
  | i :: is, .Name x _ :: es => stB c i x && ckTs c is es
  | _, _ => false
def ckTg (c : CC) : Tg → Expr → Bool
  | .nm i, .Name x _ => stB c i x
  | .tp is, .Tuple es _ _ => ckTs c is es
  | _, _ => false
def bnB (c : CC) (x : Str) (y : Str) : Bool := x == y && glB c y
def conNon : IE → Bool
  | .con .non => true
  | _ => false
section
variable (T : Tb)
mutual
def ckE : IE → CC → Expr → Bool
  | .var i, c, e => match e with
    | .Name x _ => nmB c i x
    | _ => false
  | .con d, c, e => match e with
    | .Constant k _ _ => conB d k
    | _ => false
  | .glo g, c, e => match e with
    | .Name x _ => T.gls.lookup x == some g && glB c x && ndB x
    | _ => false
  | .tup es, c, e => match e with
    | .Tuple xs _ _ => ckEs es c xs && plainArgs xs && decide (xs.length ≤ line)
    | _ => false
  | .lst es, c, e => match e with
    | .List xs _ => ckEs es c xs && plainArgs xs && decide (xs.length ≤ line)
    | _ => false
  | .box es, c, e => match e with
    | .List xs _ => ckEs es c xs && plainArgs xs && decide (xs.length ≤ line)
    | _ => false
  | .dct kvs, c, e => match e with
    | .Dict ks vs _ => ckKV kvs c ks vs && decide (ks.length ≤ 15)
    | _ => false
  | .kv _ _, _, _ => false
  | .bin o a b, c, e => match e with
    | .BinOp x op y _ => op == opO o && ckE a c x && ckE b c y
    | _ => false
  | .neg a, c, e => match e with
    | .UnaryOp .USub x _ => ckE a c x
    | _ => false
  | .not a, c, e => match a, e with
    | .tv a, .UnaryOp .Not x _ => ckE a c x
    | _, _ => false
  | .and es, c, e => match e with
    | .BoolOp .And xs _ => ckEs es c xs && !es.isEmpty
    | _ => false
  | .or es, c, e => match e with
    | .BoolOp .Or xs _ => ckEs es c xs && !es.isEmpty
    | _ => false
  | .ifx t a b, c, e => match e with
    | .IfExp z x y _ => ckT t c z && ckE a c x && ckE b c y
    | _ => false
  | .cmp o a b, c, e => match e with
    | .Compare x [op] [y] _ => op == cpO o && !behindInMarks op y && ckE a c x && ckE b c y
    | _ => false
  | .chain o₁ o₂ a b d, c, e => match e with
    | .Compare x [p, q] [y, z] _ => p == cpO o₁ && q == cpO o₂ && !lastMarks [p, q] [y, z] && ckE a c x && ckE b c y && ckE d c z
    | _ => false
  | .sub a i, c, e => match e with
    | .Subscript x y _ => plainIxB y && ckE a c x && ckE i c y
    | _ => false
  | .slc a lo hi, c, e => match e with
    | .Subscript x (.Slice l h none _) _ => ckE a c x && (match l with
      | some y => ckE lo c y
      | none => conNon lo) && (match h with
      | some y => ckE hi c y
      | none => conNon hi)
    | _ => false
  | .call f es, c, e => match e with
    | .Call (.Name x _) xs [] _ => T.fns.lookup x == some (f, xs.length) && glB c x && ndB x && ckEs es c xs && plainArgs xs
    | _ => false
  | .bi b es, c, e => match e with
    | .Call (.Name x _) xs [] _ => bnB c x (biName b) && ckEs es c xs && plainArgs xs && !xs.isEmpty
    | _ => false
  | .mt m o es, c, e => match e with
    | .Call (.Attribute x n apos) xs [] pos => n == mtN m && plainBase x && plainArgs xs && !xs.isEmpty && apos.endLine == pos.line && decide (xs.length < 20) && ckE o c x && ckEs es c xs &&
        (match m with
          | .replace => c.tk && (match es, xs with
            | [.con (.str _), .con (.str _)], [.Constant _ _ _, .Constant _ _ _] => true
            | _, _ => false)
          | _ => true)
    | _ => false
  | .lc elt tg it ifs, c, e => match e with
    | .ListComp x [⟨t, i, fs, 0⟩] scope _ => ckI it c i && notSet i && blkB c scope tg && ckTg (c.blk scope) tg t && (ckFs ifs (c.blk scope) fs && decide (ifs.length ≤ 1)) && ckE elt (c.blk scope) x
    | _ => false
  | .dc k v tg it ifs, c, e => match e with
    | .DictComp x y [⟨t, i, fs, 0⟩] scope _ => ckI it c i && notSet i && blkB c scope tg && ckTg (c.blk scope) tg t && (ckFs ifs (c.blk scope) fs && decide (ifs.length ≤ 1)) && ckE k (c.blk scope) x && ckE v (c.blk scope) y
    | _ => false
  | .gen g elt tg it ifs, c, e => match e with
    | .Call (.Name n _) [.GeneratorExp x [⟨t, i, fs, 0⟩] scope _] [] _ => (match g with
        | .any => bnB c n "any"
        | .all => bnB c n "all"
        | .bi _ => false) && ckI it c i && notSL i && genB c scope tg && ckTg (c.gn scope) tg t && (ckFs ifs (c.gn scope) fs && decide (ifs.length ≤ 1)) && ckE elt (c.gn scope) x
    | _ => false
  | .fstr es, c, e => match e with
    | .JoinedStr xs _ => ckF es c xs && decide (2 ≤ xs.length)
    | _ => false
  | .told _ _ _, _, _ => false
  | .rng _, _, _ => false
  | .enum _, _, _ => false
  | .zip _ _, _, _ => false
  | .tv _, _, _ => false
  | .it _, _, _ => false
def ckEs : List IE → CC → List Expr → Bool
  | [], _, xs => xs.isEmpty
  | e :: es, c, xs => match xs with
    | x :: xs => ckE e c x && ckEs es c xs
    | [] => false
def ckKV : List IE → CC → List (Option Expr) → List Expr → Bool
  | [], _, ks, vs => ks.isEmpty && vs.isEmpty
  | .kv k v :: r, c, ks, vs => match ks, vs with
    | some x :: ks, y :: vs => ckE k c x && ckE v c y && ckKV r c ks vs
    | _, _ => false
  | _ :: _, _, _, _ => false
/-- the parts of an f-string -/
def ckF : List IE → CC → List Expr → Bool
  | [], _, xs => xs.isEmpty
  | e :: es, c, xs => match xs with
    | .FormattedValue x k none _ :: xs => k == -1 && ckE e c x && ckF es c xs
    | .Constant k j p :: xs => (match e with
      | .con (.str t) => conB (.str t) k
      | _ => false) && ckF es c xs
    | _ => false
/-- a test -/
def ckT : IE → CC → Expr → Bool
  | .and es, c, e => match e with
    | .BoolOp .And xs _ => ckFs es c xs && !es.isEmpty
    | _ => false
  | .or es, c, e => match e with
    | .BoolOp .Or xs _ => ckFs es c xs && !es.isEmpty
    | _ => false
  | .not a, c, e => match e with
    | .UnaryOp .Not x _ => ckT a c x
    | _ => false
  | .tv a, c, e => match e with
    | .Compare x ops ys p => ckE a c (.Compare x ops ys p)
    | e => valTest e && ckE a c e
  | _, _, _ => false
/-- tests in a row -/
def ckFs : List IE → CC → List Expr → Bool
  | [], _, xs => xs.isEmpty
  | e :: es, c, xs => match xs with
    | x :: xs => ckT e c x && ckFs es c xs
    | [] => false
/-- what is walked -/
def ckI : IE → CC → Expr → Bool
  | .rng es, c, e => match e with
    | .Call (.Name x _) xs [] _ => bnB c x "range" && ckEs es c xs && plainArgs xs && !xs.isEmpty
    | _ => false
  | .it a, c, e => ckE a c e
  | _, _, _ => false
end
/-- a bound of a slice -/
def ckO (i : IE) (c : CC) : Option Expr → Bool
  | some x => ckE T i c x
  | none => conNon i
end
end RS
end S33
section S34
set_option autoImplicit false
set_option linter.all false
set_option maxRecDepth 100000
set_option Elab.async false
/-! E4: the checker of expressions is right. -/
namespace RS
open PySem PySem.Spec PyProof.Rows L2

/-- what the text's names are -/
structure Lk (P : Program) (w : World) (K : PySem.W.Frag) (mg : Str → Option Value) (base : Heap) (J : Inf) (T : Tb) (n : Nat) (p : Prg) (call : Call) : Prop where
  fns : ∀ x f np, T.fns.lookup x = some (f, np) → ∃ (a : Addr) (fd : FuncData) (ps : List Str), mg x = some (.ref a) ∧ PySem.W.keepIn K (.ref a) = true ∧ Binds K fd ps [] ∧ FnOk P w K mg base (L2.CX P w) (4 * n) a fd ps (spF K J np (call f)) ∧ ∀ ds s, ds.length ≠ np → call f ds s = .no
  gls : ∀ x g, T.gls.lookup x = some g → ∃ (u : Value) (v : V), mg x = some u ∧ RelV v u ∧ ∀ E, Rep K E (p.con g) v
  blt : (∀ b, mg (biName b) = none) ∧ mg "range" = none ∧ mg "any" = none ∧ mg "all" = none
abbrev LkG (G : Cfg) (T : Tb) (n : Nat) (p : Prg) (call : Call) : Prop := Lk G.X.prog G.X.w G.X.K G.X.mg G.X.base G.J T n p call
/-- the frame stands where the checker thinks -/
structure At (G : Cfg) (c : CC) (L : Addr) (n : Nat) : Prop where
  ok : GOk G L
  N : G.X.N = c.N
  sc : G.X.env.scope = c.sc
  fn : ∀ x, c.fn x = true → G.X.fn x = true
  room : Room (4 * n + c.lv) G.X.A
  tk : c.tk = true → G.tk = true
  gen : c.gen = true → ∃ cc P, CodeOk G cc P

section
variable {G : Cfg} {c : CC} {L : Addr} {n : Nat}
theorem visB_ok {sc : Scope} {x : Str} (h : visB sc x = true) : Vis sc x := by
  unfold visB at h
  unfold Vis
  split at h
  · rename_i e; exact .inl e
  · rename_i e; exact .inr (.inl e)
  · rename_i e; exact .inr (.inr e)
  · cases h
theorem locB_ok {sc : Scope} {x : Str} (h : locB sc x = true) : L2.Loc sc x := by
  unfold locB at h
  unfold L2.Loc
  split at h
  · rename_i e; exact .inl e
  · rename_i e; exact .inr e
  · cases h
theorem ndB_ok {x : Str} (h : ndB x = true) : (x == ("__debug__" : Str)) = false ∧ (x == ("__classdict__" : Str)) = false := by
  unfold ndB at h
  simpa [Bool.and_eq_true] using h
theorem At.name (a : At G c L n) {i : Nat} {x : Str} (h : nmB c i x = true) : G.X.N[i]? = some x ∧ Vis G.X.env.scope x ∧ (x == ("__debug__" : Str)) = false ∧ (x == ("__classdict__" : Str)) = false := by
  unfold nmB at h
  simp only [Bool.and_eq_true, beq_iff_eq] at h
  exact ⟨by rw [a.N]; exact h.1.1, by rw [a.sc]; exact visB_ok h.1.2, ndB_ok h.2⟩
theorem At.store (a : At G c L n) {i : Nat} {x : Str} (h : stB c i x = true) : NameOk G.X i x := by
  unfold stB at h
  simp only [Bool.and_eq_true, Bool.or_eq_true, beq_iff_eq] at h
  exact ⟨by rw [a.N]; exact h.1.1, by rw [a.sc]; exact locB_ok h.1.2, h.2.imp (a.fn x) fun e => by rw [a.sc]; exact e⟩
theorem At.gl (a : At G c L n) {x : Str} (h : glB c x = true) : Gl G.X x := by
  unfold glB at h
  simp only [beq_iff_eq] at h
  show G.X.env.scope.names.lookup x = _
  rw [a.sc]; exact h
theorem ST.congr {e : Expr} {m m' : Env → Sto → R Bool} (h : ST G e m) (e1 : ∀ ρ s, m' ρ s = m ρ s) : ST G e m' := by
  have : m' = m := funext fun ρ => funext fun s => e1 ρ s
  rw [this]; exact h
theorem SW.congr {e : Expr} {m m' : Env → Sto → R Bool} (h : SW G e m) (e1 : ∀ ρ s, m' ρ s = m ρ s) : SW G e m' := by
  have : m' = m := funext fun ρ => funext fun s => e1 ρ s
  rw [this]; exact h
theorem SJ.congr {es : List Expr} {m m' : List Nat → Env → Sto → R (List Nat)} (h : SJ G es m) (e1 : ∀ acc ρ s, m' acc ρ s = m acc ρ s) : SJ G es m' := by
  have : m' = m := funext fun acc => funext fun ρ => funext fun s => e1 acc ρ s
  rw [this]; exact h
theorem R.bind_assoc {α β γ : Type} {x : R α} {f : α → Sto → R β} {g : β → Sto → R γ} : (x.bind f).bind g = x.bind fun a s => (f a s).bind g := by cases x <;> rfl
theorem tg_nms (a : At G c L n) : ∀ {is : List Nat} {es : List Expr}, ckTs c is es = true → SGs G es is
  | [], [], _ => sgs_nil
  | [], _ :: _, h => by simp [ckTs] at h
  | i :: is, [], h => by simp [ckTs] at h
  | i :: is, e :: es, h => by
    cases e <;> simp only [ckTs, Bool.and_eq_true, reduceCtorEq] at h <;> try cases h
    rename_i h1 h2
    exact sgs_cons a.ok.nd (a.store h1) (tg_nms a h2)
theorem tg_ok (a : At G c L n) {t : Tg} {e : Expr} (h : ckTg c t e = true) : SG G e t := by
  cases t with
  | nm i =>
    cases e <;> simp only [ckTg, reduceCtorEq] at h <;> try cases h
    exact sg_nm a.ok.nd (a.store h)
  | tp is =>
    cases e <;> simp only [ckTg, reduceCtorEq] at h <;> try cases h
    exact sg_tp a.ok.calm (tg_nms a h)
/-- constants -/
theorem con_ok {d : D} {k : Const} {j : Nat} {pos : Pos} (h : conB d k = true) : SE G (.Constant k j pos) (fun _ s => .ok (d, .fz) s) := by
  cases d <;> cases k <;> simp only [conB, reduceCtorEq] at h <;> try cases h
  · exact se_con pe_non fun E => rep_non.mpr rfl
  · rename_i b b'
    have e : b = b' := by simpa using h
    subst e
    exact se_con pe_bl fun E => rep_bl.mpr rfl
  · rename_i i i'
    have e : i = i' := by simpa using h
    subst e
    exact se_con pe_int fun E => rep_int.mpr rfl
  · rename_i t s
    unfold strB at h
    simp only [Bool.and_eq_true, beq_iff_eq, decide_eq_true_eq] at h
    obtain ⟨e, hl⟩ := h
    refine se_con pe_str fun E => rep_str.mpr ⟨?_, hl⟩
    rw [← e]
end

section
variable {T : Tb} {n : Nat} {p : Prg} {call : Call}
theorem At.hu {G : Cfg} {c : CC} {L : Addr} (a : At G c L n) : G.X.A.units + 128 < cLine := a.ok.units
theorem bind_inv {α β : Type} {r : R α} {f : α → Sto → R β} {b : β} {s : Sto} (h : r.bind f = .ok b s) : ∃ a s', r = .ok a s' ∧ f a s' = .ok b s := by
  cases r with
  | ok a s' => exact ⟨a, s', rfl, h⟩
  | err _ _ => cases h
  | no => cases h
theorem ofO_ok {α : Type} {o : Option α} {s s' : Sto} {a : α} (h : ofO o s = .ok a s') : o = some a ∧ s' = s := by
  cases o with
  | none => cases h
  | some b => cases h; exact ⟨rfl, rfl⟩
theorem evs_len : ∀ (es : List IE) {ρ : Env} {s : Sto} {ds : List D} {s' : Sto}, evs p call es ρ s = .ok ds s' → ds.length = es.length
  | [], ρ, s, ds, s', h => by rw [evs] at h; cases h; rfl
  | e :: es, ρ, s, ds, s', h => by
    rw [evs] at h
    obtain ⟨x, s1, _, h⟩ := bind_inv h
    obtain ⟨d, s2, _, h⟩ := bind_inv h
    obtain ⟨r, s3, hr, h⟩ := bind_inv h
    cases h
    simp [evs_len es hr]
theorem evkv_len : ∀ (es : List IE) {ρ : Env} {s : Sto} {ds : List (D × D)} {s' : Sto}, evkv p call es ρ s = .ok ds s' → ds.length = es.length
  | [], ρ, s, ds, s', h => by rw [evkv] at h; cases h; rfl
  | .kv k v :: es, ρ, s, ds, s', h => by
    rw [evkv] at h
    obtain ⟨x, s1, _, h⟩ := bind_inv h
    obtain ⟨y, s2, _, h⟩ := bind_inv h
    obtain ⟨d, s3, _, h⟩ := bind_inv h
    split at h
    · obtain ⟨r, s4, hr, h⟩ := bind_inv h
      cases h
      simp [evkv_len es hr]
    · cases h
  | e :: es, ρ, s, ds, s', h => by
    cases e <;> simp only [evkv, reduceCtorEq] at h
    all_goals (
      obtain ⟨x, s1, _, h⟩ := bind_inv h
      obtain ⟨y, s2, _, h⟩ := bind_inv h
      obtain ⟨d, s3, _, h⟩ := bind_inv h
      split at h
      · obtain ⟨r, s4, hr, h⟩ := bind_inv h
        cases h
        simp [evkv_len es hr]
      · cases h)
theorem At.blk {G : Cfg} {c : CC} {L : Addr} (a : At G c L n) {scope : Scope} {s3 : Shared} {H3 : Hp} {C : Addr} {cl : List (Str × Addr)} {fp : List Addr} (ok : GOk (G.blk s3 H3 scope (compEnvC scope cl C G.X.env) fp) L) : At (G.blk s3 H3 scope (compEnvC scope cl C G.X.env) fp) (c.blk scope) L n where
  ok := ok
  N := a.N
  sc := by show relS scope G.X.env.scope = relS scope c.sc; rw [a.sc]
  fn := fun x h => h
  room := a.room
  tk := a.tk
  gen := fun h => let ⟨cc, P, co⟩ := a.gen h; ⟨cc, P, ⟨co.tab, co.code, co.tg, co.tl⟩⟩
theorem At.gn {G : Cfg} {c : CC} {L : Addr} (a : At G c L n) {scope : Scope} {s₄ : Shared} {H : Hp} {C : Addr} {code : Value} {A' : Around} {fp : List Addr} (ok : GOk (G.gen s₄ H (genEnv scope (cloFrom G.X.env.cells scope.names []) C code builtinsNs G.X.env) A' fp) C) (hr : Room (4 * n + (c.lv - 1)) A') :
    At (G.gen s₄ H (genEnv scope (cloFrom G.X.env.cells scope.names []) C code builtinsNs G.X.env) A' fp) (c.gn scope) C n where
  ok := ok
  N := a.N
  sc := rfl
  fn := fun x h => by cases h
  room := hr
  tk := fun h => by cases h
  gen := fun h => by cases h
theorem At.blkOk {G : Cfg} {c : CC} {L : Addr} (a : At G c L n) {scope : Scope} {t : Tg} (h : blkB c scope t = true) : BlkOk G.X.N G.X.env.scope scope (ownOf c.N (tgNames t)) ∧ (ownOf c.N (tgNames t)).map (·.2) = tgNames t := by
  unfold blkB at h
  simp only [Bool.and_eq_true, beq_iff_eq] at h
  rw [a.N, a.sc]
  exact ⟨L2.blkOk_by h.1, h.2⟩
theorem At.genOk {G : Cfg} {c : CC} {L : Addr} (a : At G c L n) {scope : Scope} {t : Tg} (h : genB c scope t = true) : GenOk G.X scope (ownOf c.N (tgNames t)) ∧ (ownOf c.N (tgNames t)).map (·.2) = tgNames t ∧ Room (4 * n + (c.lv - 1) + 1) G.X.A ∧ ∃ cc P, CodeOk G cc P := by
  unfold genB at h
  simp only [Bool.and_eq_true, beq_iff_eq, Bool.not_eq_true', decide_eq_true_eq, List.all_eq_true, beq_eq_false_iff_ne] at h
  obtain ⟨⟨⟨⟨⟨h1, h2⟩, h3⟩, h4⟩, h5⟩, h6⟩ := h
  obtain ⟨b1, b2⟩ := a.blkOk h1
  exact ⟨⟨b1, h2, h3, h4⟩, b2, a.room.mono (by omega), a.gen h6⟩
theorem fs_sts {G : Cfg} : ∀ {es : List IE} {xs : List Expr}, es.length ≤ 1 → (es = [] ∧ xs = [] ∨ ∃ i x, es = [i] ∧ xs = [x] ∧ ST G x (evT p call i)) → STs G xs (evTs p call es) := fun {es xs} _ h => by
  rcases h with ⟨rfl, rfl⟩ | ⟨i, x, rfl, rfl, h⟩
  · have e1 : evTs p call [] = fun _ s => R.ok true s := by funext ρ s; rw [evTs]
    rw [e1]; exact sts_nil
  · have e1 : evTs p call [i] = fun ρ s => (evT p call i ρ s).bind fun b s => if b then .ok true s else .ok false s := by funext ρ s; rw [evTs]; congr 1
    rw [e1]; exact sts_one h
set_option maxHeartbeats 2000000 in
mutual
theorem ckE_ok : ∀ (i : IE) {c : CC} {e : Expr} {G : Cfg} {L : Addr}, At G c L n → LkG G T n p call → ckE T i c e = true → SE G e (ev p call i)
  | .var i, c, e, G, L, a, K, h => by
    cases e <;> simp only [ckE, reduceCtorEq] at h <;> try cases h
    obtain ⟨h1, h2, h3, h4⟩ := a.name h
    exact (se_var h1 h2 h3 h4).congr fun ρ s => by rw [ev] <;> rfl
  | .con d, c, e, G, L, a, K, h => by
    cases e <;> simp only [ckE, reduceCtorEq] at h <;> try cases h
    exact (con_ok h).congr fun ρ s => by rw [ev] <;> rfl
  | .glo g, c, e, G, L, a, K, h => by
    cases e <;> simp only [ckE, Bool.and_eq_true, beq_iff_eq, reduceCtorEq] at h <;> try cases h
    rename_i h1 h2
    obtain ⟨u, v, hm, r, hr⟩ := K.gls _ _ h1.1
    exact (se_con (pe_glob (a.gl h1.2) hm r (ndB_ok h2).1) hr).congr fun ρ s => by rw [ev] <;> rfl
  | .tup es, c, e, G, L, a, K, h => by
    cases e <;> simp only [ckE, Bool.and_eq_true, decide_eq_true_eq, reduceCtorEq] at h <;> try cases h
    rename_i h1 h2
    obtain ⟨q1, q2, q3⟩ := ckEs_ok es a K h1.1 h1.2
    exact (se_tup q1 fun ρ s ds s' hh => by rw [evs_len es hh, q3]; exact h2).congr fun ρ s => by rw [ev] <;> rfl
  | .lst es, c, e, G, L, a, K, h => by
    cases e <;> simp only [ckE, Bool.and_eq_true, decide_eq_true_eq, reduceCtorEq] at h <;> try cases h
    rename_i h1 h2
    obtain ⟨q1, q2, q3⟩ := ckEs_ok es a K h1.1 h1.2
    exact (se_lst q1 fun ρ s ds s' hh => by rw [evs_len es hh, q3]; exact h2).congr fun ρ s => by rw [ev] <;> rfl
  | .box es, c, e, G, L, a, K, h => by
    cases e <;> simp only [ckE, Bool.and_eq_true, decide_eq_true_eq, reduceCtorEq] at h <;> try cases h
    rename_i h1 h2
    obtain ⟨q1, q2, q3⟩ := ckEs_ok es a K h1.1 h1.2
    exact (se_box q1 fun ρ s ds s' hh => by rw [evs_len es hh, q3]; exact h2).congr fun ρ s => by rw [ev] <;> rfl
  | .bin o x y, c, e, G, L, a, K, h => by
    cases e <;> simp only [ckE, Bool.and_eq_true, beq_iff_eq, reduceCtorEq] at h <;> try cases h
    rename_i h1 h2
    rw [h1.1]
    exact (se_bin (ckE_ok x a K h1.2) (ckE_ok y a K h2)).congr fun ρ s => by rw [ev] <;> rfl
  | .neg x, c, e, G, L, a, K, h => by
    unfold ckE at h
    split at h
    · exact (se_neg (ckE_ok x a K h)).congr fun ρ s => by rw [ev] <;> rfl
    · cases h
  | .not x, c, e, G, L, a, K, h => by
    unfold ckE at h
    split at h
    · rename_i y z _
      exact (se_not (ckE_ok y a K h)).congr fun ρ s => by rw [ev, evT] <;> rfl
    · cases h
  | .ifx t x y, c, e, G, L, a, K, h => by
    unfold ckE at h
    split at h
    · simp only [Bool.and_eq_true] at h
      exact (se_ifx (ckT_ok t a K h.1.1) (ckE_ok x a K h.1.2) (ckE_ok y a K h.2)).congr fun ρ s => by rw [ev] <;> rfl
    · cases h
  | .cmp o x y, c, e, G, L, a, K, h => by
    unfold ckE at h
    split at h
    · simp only [Bool.and_eq_true, beq_iff_eq, Bool.not_eq_true'] at h
      obtain ⟨⟨⟨e1, hm⟩, h1⟩, h2⟩ := h
      subst e1
      exact (se_cmp a.hu hm (ckE_ok x a K h1) (ckE_ok y a K h2)).congr fun ρ s => by rw [ev] <;> rfl
    · cases h
  | .chain o₁ o₂ x y z, c, e, G, L, a, K, h => by
    unfold ckE at h
    split at h
    · simp only [Bool.and_eq_true, beq_iff_eq, Bool.not_eq_true'] at h
      obtain ⟨⟨⟨⟨⟨e1, e2⟩, hm⟩, h1⟩, h2⟩, h3⟩ := h
      subst e1 e2
      exact (se_chain a.hu hm (ckE_ok x a K h1) (ckE_ok y a K h2) (ckE_ok z a K h3)).congr fun ρ s => by rw [ev] <;> rfl
    · cases h
  | .sub x y, c, e, G, L, a, K, h => by
    unfold ckE at h
    split at h
    · simp only [Bool.and_eq_true] at h
      exact (se_sub a.hu (plainIx_ok h.1.1) (ckE_ok x a K h.1.2) (ckE_ok y a K h.2)).congr fun ρ s => by rw [ev] <;> rfl
    · cases h
  | .slc x lo hi, c, e, G, L, a, K, h => by
    unfold ckE at h
    split at h
    · simp only [Bool.and_eq_true] at h
      exact (se_slc (ckE_ok x a K h.1.1) (ckO_ok lo a K h.1.2) (ckO_ok hi a K h.2)).congr fun ρ s => by rw [ev] <;> rfl
    · cases h
  | .call f es, c, e, G, L, a, K, h => by
    unfold ckE at h
    split at h
    · rename_i x p1 xs p2
      simp only [Bool.and_eq_true, beq_iff_eq] at h
      obtain ⟨⟨⟨⟨h1, h2⟩, h3⟩, h4⟩, h5⟩ := h
      obtain ⟨ad, fd, ps, m1, m2, m3, m4, m5⟩ := K.fns _ _ _ h1
      obtain ⟨q1, q2, q3⟩ := ckEs_ok es a K h4 h5
      have rm : Room (4 * n) G.X.A := a.room.mono (Nat.le_add_right _ _)
      cases xs with
      | nil =>
        have en : es = [] := List.eq_nil_of_length_eq_zero q3
        subst en
        exact (se_call0 a.ok m4 rm (a.gl h2) m1 m2 m3 rfl (ndB_ok h3).1).congr fun ρ s => by rw [ev, evs] <;> rfl
      | cons y ys =>
        obtain ⟨e1, h6⟩ := star_cons (env := G.X.env) h5
        exact (se_call a.ok m4 rm (a.gl h2) m1 m2 m3 m5 q1 (ndB_ok h3).1 e1 (star_plain h6).1).congr fun ρ s => by rw [ev] <;> rfl
    · cases h
  | .bi b es, c, e, G, L, a, K, h => by
    unfold ckE at h
    split at h
    · rename_i x p1 xs p2
      simp only [Bool.and_eq_true, bnB, beq_iff_eq, Bool.not_eq_true'] at h
      obtain ⟨⟨⟨⟨h1, h2⟩, h4⟩, h5⟩, h6⟩ := h
      subst h1
      obtain ⟨q1, q2, q3⟩ := ckEs_ok es a K h4 h5
      cases xs with
      | nil => simp at h6
      | cons y ys => exact (se_bi a.ok.calm a.hu (a.gl h2) (K.blt.1 b) h5 q2).congr fun ρ s => by rw [ev] <;> rfl
    · cases h
  | .and es, c, e, G, L, a, K, h => by
    unfold ckE at h
    split at h
    · simp only [Bool.and_eq_true] at h
      exact (ckAnd_ok es a K h.1 (by simpa using h.2)).congr fun ρ s => by rw [ev]
    · cases h
  | .or es, c, e, G, L, a, K, h => by
    unfold ckE at h
    split at h
    · simp only [Bool.and_eq_true] at h
      exact (ckOr_ok es a K h.1 (by simpa using h.2)).congr fun ρ s => by rw [ev]
    · cases h
  | .lc elt t it ifs, c, e, G, L, a, K, h => by
    unfold ckE at h
    split at h
    · simp only [Bool.and_eq_true, decide_eq_true_eq] at h
      obtain ⟨⟨⟨⟨⟨h1, h2⟩, h3⟩, h4⟩, h5⟩, h6⟩ := h
      obtain ⟨b1, b2⟩ := a.blkOk h3
      exact (se_lc a.ok (ckI_ok it a K h1) b1 b2 (fun s3 H3 C cl fp ok => tg_ok (a.blk ok) h4) (fun s3 H3 C cl fp ok => fs_sts h5.2 (ckF1_ok ifs (a.blk ok) K h5.1 h5.2)) (fun s3 H3 C cl fp ok => ckE_ok elt (a.blk ok) K h6) (notSet_ok h2)).congr fun ρ s => by rw [ev] <;> rfl
    · cases h
  | .dc k v t it ifs, c, e, G, L, a, K, h => by
    unfold ckE at h
    split at h
    · simp only [Bool.and_eq_true, decide_eq_true_eq] at h
      obtain ⟨⟨⟨⟨⟨⟨h1, h2⟩, h3⟩, h4⟩, h5⟩, h6⟩, h7⟩ := h
      obtain ⟨b1, b2⟩ := a.blkOk h3
      exact (se_dc a.ok (ckI_ok it a K h1) b1 b2 (fun s3 H3 C cl fp ok => tg_ok (a.blk ok) h4) (fun s3 H3 C cl fp ok => fs_sts h5.2 (ckF1_ok ifs (a.blk ok) K h5.1 h5.2)) (fun s3 H3 C cl fp ok => ckE_ok k (a.blk ok) K h6) (fun s3 H3 C cl fp ok => ckE_ok v (a.blk ok) K h7) (notSet_ok h2)).congr fun ρ s => by rw [ev] <;> rfl
    · cases h
  | .gen g elt t it ifs, c, e, G, L, a, K, h => by
    unfold ckE at h
    split at h
    · simp only [Bool.and_eq_true, decide_eq_true_eq] at h
      obtain ⟨⟨⟨⟨⟨⟨h0, h1⟩, h2⟩, h3⟩, h4⟩, h5⟩, h6⟩ := h
      obtain ⟨g1, g2, g3, cc, P, g4⟩ := a.genOk h3
      have st : ∀ (x : Expr) (env : PySem.Env), (∀ y p, x ≠ .Starred y p) → starEach [x] env = (false, eval x env) :: starEach [] env := fun x env hx => by
        cases x <;> first | (simp [starEach]; done) | exact absurd rfl (hx _ _)
      cases g with
      | any =>
        simp only [bnB, Bool.and_eq_true, beq_iff_eq] at h0
        obtain ⟨rfl, hgl⟩ := h0
        exact (se_any a.ok g3 g4 g1 g2 (ckI_ok it a K h1) (fun s₄ H C code A' fp ok hr => tg_ok (a.gn ok hr) h4) (fun s₄ H C code A' fp ok hr => fs_sts h5.2 (ckF1_ok ifs (a.gn ok hr) K h5.1 h5.2)) (fun s₄ H C code A' fp ok hr => ckE_ok elt (a.gn ok hr) K h6) (notSL_ok h2) (a.gl hgl) K.blt.2.2.1 (st _ _ fun _ _ z => by cases z)).congr fun ρ s => by rw [ev] <;> rfl
      | all =>
        simp only [bnB, Bool.and_eq_true, beq_iff_eq] at h0
        obtain ⟨rfl, hgl⟩ := h0
        exact (se_all a.ok g3 g4 g1 g2 (ckI_ok it a K h1) (fun s₄ H C code A' fp ok hr => tg_ok (a.gn ok hr) h4) (fun s₄ H C code A' fp ok hr => fs_sts h5.2 (ckF1_ok ifs (a.gn ok hr) K h5.1 h5.2)) (fun s₄ H C code A' fp ok hr => ckE_ok elt (a.gn ok hr) K h6) (notSL_ok h2) (a.gl hgl) K.blt.2.2.2 (st _ _ fun _ _ z => by cases z)).congr fun ρ s => by rw [ev] <;> rfl
      | bi b => cases h0
    · cases h
  | .kv _ _, c, e, G, L, a, K, h => by simp [ckE] at h
  | .told _ _ _, c, e, G, L, a, K, h => by simp [ckE] at h
  | .rng _, c, e, G, L, a, K, h => by simp [ckE] at h
  | .enum _, c, e, G, L, a, K, h => by simp [ckE] at h
  | .zip _ _, c, e, G, L, a, K, h => by simp [ckE] at h
  | .tv _, c, e, G, L, a, K, h => by simp [ckE] at h
  | .it _, c, e, G, L, a, K, h => by simp [ckE] at h
  | .dct kvs, c, e, G, L, a, K, h => by
    unfold ckE at h
    split at h
    · rename_i ks vs pos
      simp only [Bool.and_eq_true, decide_eq_true_eq] at h
      obtain ⟨q1, q2, q3, q4⟩ := ckKV_ok kvs (pos := pos) a K h.1
      by_cases h0 : ks = []
      · subst h0
        have ev0 : vs = [] := List.eq_nil_of_length_eq_zero q3.symm
        have ek0 : kvs = [] := List.eq_nil_of_length_eq_zero q4
        subst ev0 ek0
        exact se_dct0.congr fun ρ s => by rw [ev, evkv]
      · exact (se_dct q1 q2 q3 h0 h.2 fun ρ s ds s' hh => by rw [evkv_len kvs hh, q4]; exact h.2).congr fun ρ s => by rw [ev]
    · cases h
  | .mt m o es, c, e, G, L, a, K, h => by
    unfold ckE at h
    split at h
    · rename_i x nme apos xs pos
      simp only [Bool.and_eq_true, beq_iff_eq, Bool.not_eq_true', decide_eq_true_eq] at h
      obtain ⟨⟨⟨⟨⟨⟨⟨⟨h1, h2⟩, h3⟩, h4⟩, h5⟩, h6⟩, h7⟩, h8⟩, h9⟩ := h
      subst h1
      obtain ⟨q1, q2, q3⟩ := ckEs_ok es a K h8 h3
      by_cases hm : m = .replace
      · subst hm
        simp only [Bool.and_eq_true] at h9
        obtain ⟨htk, h9⟩ := h9
        split at h9
        · rename_i y z k1 j1 p1 k2 j2 p2
          simp only [ckEs, ckE, Bool.and_eq_true] at h8
          obtain ⟨c1, c2, _⟩ := h8
          have kc : ∀ {t : List Nat} {k : Const}, conB (.str t) k = true → k = .str (S_ t) := fun {t k} hk => by
            cases k <;> simp only [conB, reduceCtorEq] at hk <;> try cases hk
            unfold strB at hk
            simp only [Bool.and_eq_true, beq_iff_eq, decide_eq_true_eq] at hk
            rw [← hk.1]
          obtain rfl := kc c1
          obtain rfl := kc c2
          have q := se_replace (y := y) (z := z) (j := j1) (k := j2) (c0 := p1) (c1 := p2) (apos := apos) (pos := pos) (a.tk htk) h2 (by simpa using h5) (ckE_ok o a K h7)
          refine SE.congr q fun ρ s => ?_
          rw [ev]
          congr 1
        · cases h9
      · cases xs with
        | nil => simp at h4
        | cons y ys => exact (se_mt hm a.hu h2 h3 (by simpa using h5) (by have : (y :: ys).length = ys.length + 1 := rfl; omega) (ckE_ok o a K h7) q2).congr fun ρ s => by rw [ev] <;> rfl
    · cases h
  | .fstr es, c, e, G, L, a, K, h => by
    unfold ckE at h
    split at h
    · rename_i xs pos
      simp only [Bool.and_eq_true, decide_eq_true_eq] at h
      have q := ckF_ok es a K h.1
      match xs, h.2, q with
      | x :: y :: r, _, q => exact (se_fstr q).congr fun ρ s => by rw [ev]
    · cases h
theorem ckF_ok : ∀ (es : List IE) {c : CC} {xs : List Expr} {G : Cfg} {L : Addr}, At G c L n → LkG G T n p call → ckF T es c xs = true → SJ G xs (evF p call es)
  | [], c, xs, G, L, a, K, h => by
    have e : xs = [] := by simpa [ckF] using h
    subst e
    exact sj_nil.congr fun acc ρ s => by rw [evF]
  | e :: es, c, xs, G, L, a, K, h => by
    unfold ckF at h
    split at h
    · rename_i x k pos r
      simp only [Bool.and_eq_true, beq_iff_eq] at h
      obtain ⟨⟨h1, h2⟩, h3⟩ := h
      subst h1
      exact (sj_cons (sf_fmt (ckE_ok e a K h2)) (ckF_ok es a K h3)).congr fun acc ρ s => by rw [evF, R.bind_assoc]
    · rename_i k j pos r
      simp only [Bool.and_eq_true] at h
      obtain ⟨h1, h3⟩ := h
      split at h1
      · rename_i t
        exact (sj_cons (sf_con (con_ok h1)) (ckF_ok es a K h3)).congr fun acc ρ s => by
          rw [evF]
          have e1 : ev p call (.con (.str t)) ρ s = .ok (.str t, .fz) s := by rw [ev] <;> rfl
          rw [e1]
          rfl
      · cases h1
    · cases h
theorem ckKV_ok : ∀ (es : List IE) {c : CC} {ks : List (Option Expr)} {vs : List Expr} {G : Cfg} {L : Addr} {pos : Pos}, At G c L n → LkG G T n p call → ckKV T es c ks vs = true → SP G pos ks vs (evkv p call es) ∧ ks.all (·.isSome) = true ∧ ks.length = vs.length ∧ es.length = ks.length
  | [], c, ks, vs, G, L, pos, a, K, h => by
    simp only [ckKV, Bool.and_eq_true, List.isEmpty_iff] at h
    obtain ⟨h1, h2⟩ := h
    subst h1 h2
    have e1 : evkv p call [] = fun _ s => R.ok [] s := by funext ρ s; rw [evkv]
    rw [e1]
    exact ⟨sp_nil, rfl, rfl, rfl⟩
  | .kv k v :: r, c, ks, vs, G, L, pos, a, K, h => by
    unfold ckKV at h
    split at h
    · simp only [Bool.and_eq_true] at h
      obtain ⟨q1, q2, q3, q4⟩ := ckKV_ok r (pos := pos) a K h.2
      have q := sp_cons (pos := pos) (ckE_ok k a K h.1.1) (ckE_ok v a K h.1.2) q1
      have e1 : evkv p call (.kv k v :: r) = fun ρ s => (ev p call k ρ s).bind fun x s => (ev p call v ρ s).bind fun y s => (ofO (keep y) s).bind fun d s => if isKey x.1 then (evkv p call r ρ s).bind fun kvs s => .ok ((x.1, d) :: kvs) s else .no := by funext ρ s; rw [evkv]
      rw [e1]
      exact ⟨q, by simpa using q2, by simp [q3], by simp [q4]⟩
    · cases h
  | .var _ :: _, c, ks, vs, G, L, pos, a, K, h => by simp [ckKV] at h
  | .con _ :: _, c, ks, vs, G, L, pos, a, K, h => by simp [ckKV] at h
  | .glo _ :: _, c, ks, vs, G, L, pos, a, K, h => by simp [ckKV] at h
  | .tup _ :: _, c, ks, vs, G, L, pos, a, K, h => by simp [ckKV] at h
  | .lst _ :: _, c, ks, vs, G, L, pos, a, K, h => by simp [ckKV] at h
  | .box _ :: _, c, ks, vs, G, L, pos, a, K, h => by simp [ckKV] at h
  | .dct _ :: _, c, ks, vs, G, L, pos, a, K, h => by simp [ckKV] at h
  | .bin _ _ _ :: _, c, ks, vs, G, L, pos, a, K, h => by simp [ckKV] at h
  | .neg _ :: _, c, ks, vs, G, L, pos, a, K, h => by simp [ckKV] at h
  | .not _ :: _, c, ks, vs, G, L, pos, a, K, h => by simp [ckKV] at h
  | .and _ :: _, c, ks, vs, G, L, pos, a, K, h => by simp [ckKV] at h
  | .or _ :: _, c, ks, vs, G, L, pos, a, K, h => by simp [ckKV] at h
  | .ifx _ _ _ :: _, c, ks, vs, G, L, pos, a, K, h => by simp [ckKV] at h
  | .cmp _ _ _ :: _, c, ks, vs, G, L, pos, a, K, h => by simp [ckKV] at h
  | .chain _ _ _ _ _ :: _, c, ks, vs, G, L, pos, a, K, h => by simp [ckKV] at h
  | .sub _ _ :: _, c, ks, vs, G, L, pos, a, K, h => by simp [ckKV] at h
  | .slc _ _ _ :: _, c, ks, vs, G, L, pos, a, K, h => by simp [ckKV] at h
  | .call _ _ :: _, c, ks, vs, G, L, pos, a, K, h => by simp [ckKV] at h
  | .bi _ _ :: _, c, ks, vs, G, L, pos, a, K, h => by simp [ckKV] at h
  | .mt _ _ _ :: _, c, ks, vs, G, L, pos, a, K, h => by simp [ckKV] at h
  | .lc _ _ _ _ :: _, c, ks, vs, G, L, pos, a, K, h => by simp [ckKV] at h
  | .dc _ _ _ _ _ :: _, c, ks, vs, G, L, pos, a, K, h => by simp [ckKV] at h
  | .gen _ _ _ _ _ :: _, c, ks, vs, G, L, pos, a, K, h => by simp [ckKV] at h
  | .rng _ :: _, c, ks, vs, G, L, pos, a, K, h => by simp [ckKV] at h
  | .enum _ :: _, c, ks, vs, G, L, pos, a, K, h => by simp [ckKV] at h
  | .zip _ _ :: _, c, ks, vs, G, L, pos, a, K, h => by simp [ckKV] at h
  | .fstr _ :: _, c, ks, vs, G, L, pos, a, K, h => by simp [ckKV] at h
  | .told _ _ _ :: _, c, ks, vs, G, L, pos, a, K, h => by simp [ckKV] at h
  | .it _ :: _, c, ks, vs, G, L, pos, a, K, h => by simp [ckKV] at h
  | .tv _ :: _, c, ks, vs, G, L, pos, a, K, h => by simp [ckKV] at h
theorem ckAnd_ok : ∀ (es : List IE) {c : CC} {xs : List Expr} {G : Cfg} {L : Addr} {pos : Pos}, At G c L n → LkG G T n p call → ckEs T es c xs = true → es ≠ [] → SE G (.BoolOp .And xs pos) (evAnd p call es)
  | [], c, xs, G, L, pos, a, K, h, hn => absurd rfl hn
  | [i], c, xs, G, L, pos, a, K, h, hn => by
    cases xs with
    | nil => simp [ckEs] at h
    | cons x r =>
      simp only [ckEs, Bool.and_eq_true, List.isEmpty_iff] at h
      obtain ⟨h1, h2⟩ := h
      subst h2
      exact (se_one (ckE_ok i a K h1)).congr fun ρ s => by rw [evAnd]
  | i :: j :: es, c, xs, G, L, pos, a, K, h, hn => by
    cases xs with
    | nil => simp [ckEs] at h
    | cons x r =>
      have h : (ckE T i c x && ckEs T (j :: es) c r) = true := by rw [ckEs] at h; exact h
      simp only [Bool.and_eq_true] at h
      cases r with
      | nil => simp [ckEs] at h
      | cons y r => exact (se_and (ckE_ok i a K h.1) (ckAnd_ok (j :: es) a K h.2 (by simp))).congr fun ρ s => by rw [evAnd]
theorem ckOr_ok : ∀ (es : List IE) {c : CC} {xs : List Expr} {G : Cfg} {L : Addr} {pos : Pos}, At G c L n → LkG G T n p call → ckEs T es c xs = true → es ≠ [] → SE G (.BoolOp .Or xs pos) (evOr p call es)
  | [], c, xs, G, L, pos, a, K, h, hn => absurd rfl hn
  | [i], c, xs, G, L, pos, a, K, h, hn => by
    cases xs with
    | nil => simp [ckEs] at h
    | cons x r =>
      simp only [ckEs, Bool.and_eq_true, List.isEmpty_iff] at h
      obtain ⟨h1, h2⟩ := h
      subst h2
      exact (se_one (ckE_ok i a K h1)).congr fun ρ s => by rw [evOr]
  | i :: j :: es, c, xs, G, L, pos, a, K, h, hn => by
    cases xs with
    | nil => simp [ckEs] at h
    | cons x r =>
      have h : (ckE T i c x && ckEs T (j :: es) c r) = true := by rw [ckEs] at h; exact h
      simp only [Bool.and_eq_true] at h
      cases r with
      | nil => simp [ckEs] at h
      | cons y r => exact (se_or (ckE_ok i a K h.1) (ckOr_ok (j :: es) a K h.2 (by simp))).congr fun ρ s => by rw [evOr]
/-- at most one test -/
theorem ckF1_ok : ∀ (es : List IE) {c : CC} {xs : List Expr} {G : Cfg} {L : Addr}, At G c L n → LkG G T n p call → ckFs T es c xs = true → es.length ≤ 1 → es = [] ∧ xs = [] ∨ ∃ i x, es = [i] ∧ xs = [x] ∧ ST G x (evT p call i)
  | [], c, xs, G, L, a, K, h, hl => .inl ⟨rfl, by simpa [ckFs] using h⟩
  | [i], c, xs, G, L, a, K, h, hl => by
    cases xs with
    | nil => simp [ckFs] at h
    | cons x r =>
      simp only [ckFs, Bool.and_eq_true, List.isEmpty_iff] at h
      obtain ⟨h1, h2⟩ := h
      subst h2
      exact .inr ⟨i, x, rfl, rfl, ckT_ok i a K h1⟩
  | _ :: _ :: _, c, xs, G, L, a, K, h, hl => by simp at hl
theorem ckI_ok : ∀ (i : IE) {c : CC} {tg e : Expr} {G : Cfg} {L : Addr}, At G c L n → LkG G T n p call → ckI T i c e = true → SI G tg e (evI p call i)
  | .it x, c, tg, e, G, L, a, K, h => by
    rw [ckI] at h
    have := si_it (tg := tg) (ckE_ok x a K h)
    have e1 : evI p call (.it x) = fun ρ s => (ev p call x ρ s).bind fun x s => (ofO (items s x.1) s).bind fun xs s => .ok (xs, [x]) s := by funext ρ s; rw [evI]
    rw [e1]; exact this
  | .rng es, c, tg, e, G, L, a, K, h => by
    unfold ckI at h
    split at h
    · rename_i x p1 xs p2
      simp only [Bool.and_eq_true, bnB, beq_iff_eq, Bool.not_eq_true'] at h
      obtain ⟨⟨⟨⟨h1, h2⟩, h4⟩, h5⟩, h6⟩ := h
      subst h1
      obtain ⟨q1, q2, q3⟩ := ckEs_ok es a K h4 h5
      have := si_rng (tg := tg) (p := p1) (pos := p2) (a.gl h2) K.blt.2.1 h5 (by intro z; rw [z] at h6; simp at h6) q2
      have e1 : evI p call (.rng es) = fun ρ s => (evo p call es ρ s).bind fun ds s => match ds with
        | [.int n] => if n.natAbs < 2 ^ 60 then .ok (upto 0 n.toNat, []) s else .no
        | [.int a, .int b] => if a.natAbs < 2 ^ 60 ∧ b.natAbs < 2 ^ 60 then .ok (upto a (b - a).toNat, []) s else .no
        | _ => .no := by funext ρ s; rw [evI] <;> rfl
      rw [e1]; exact this
    · cases h
  | .var _, c, tg, e, G, L, a, K, h => by simp [ckI] at h
  | .con _, c, tg, e, G, L, a, K, h => by simp [ckI] at h
  | .glo _, c, tg, e, G, L, a, K, h => by simp [ckI] at h
  | .tup _, c, tg, e, G, L, a, K, h => by simp [ckI] at h
  | .lst _, c, tg, e, G, L, a, K, h => by simp [ckI] at h
  | .box _, c, tg, e, G, L, a, K, h => by simp [ckI] at h
  | .dct _, c, tg, e, G, L, a, K, h => by simp [ckI] at h
  | .kv _ _, c, tg, e, G, L, a, K, h => by simp [ckI] at h
  | .bin _ _ _, c, tg, e, G, L, a, K, h => by simp [ckI] at h
  | .neg _, c, tg, e, G, L, a, K, h => by simp [ckI] at h
  | .not _, c, tg, e, G, L, a, K, h => by simp [ckI] at h
  | .and _, c, tg, e, G, L, a, K, h => by simp [ckI] at h
  | .or _, c, tg, e, G, L, a, K, h => by simp [ckI] at h
  | .ifx _ _ _, c, tg, e, G, L, a, K, h => by simp [ckI] at h
  | .cmp _ _ _, c, tg, e, G, L, a, K, h => by simp [ckI] at h
  | .chain _ _ _ _ _, c, tg, e, G, L, a, K, h => by simp [ckI] at h
  | .sub _ _, c, tg, e, G, L, a, K, h => by simp [ckI] at h
  | .slc _ _ _, c, tg, e, G, L, a, K, h => by simp [ckI] at h
  | .call _ _, c, tg, e, G, L, a, K, h => by simp [ckI] at h
  | .bi _ _, c, tg, e, G, L, a, K, h => by simp [ckI] at h
  | .mt _ _ _, c, tg, e, G, L, a, K, h => by simp [ckI] at h
  | .lc _ _ _ _, c, tg, e, G, L, a, K, h => by simp [ckI] at h
  | .dc _ _ _ _ _, c, tg, e, G, L, a, K, h => by simp [ckI] at h
  | .gen _ _ _ _ _, c, tg, e, G, L, a, K, h => by simp [ckI] at h
  | .enum _, c, tg, e, G, L, a, K, h => by simp [ckI] at h
  | .zip _ _, c, tg, e, G, L, a, K, h => by simp [ckI] at h
  | .fstr _, c, tg, e, G, L, a, K, h => by simp [ckI] at h
  | .told _ _ _, c, tg, e, G, L, a, K, h => by simp [ckI] at h
  | .tv _, c, tg, e, G, L, a, K, h => by simp [ckI] at h
theorem ckO_ok : ∀ (i : IE) {c : CC} {o : Option Expr} {G : Cfg} {L : Addr}, At G c L n → LkG G T n p call → ckO T i c o = true → SB G o (ev p call i)
  | i, c, some x, G, L, a, K, h => by
    rw [ckO] at h
    exact sb_some (ckE_ok i a K h)
  | i, c, none, G, L, a, K, h => by
    cases i with
    | con d =>
      cases d with
      | non =>
        have e1 : ev p call (.con .non) = fun _ s => .ok (.non, .fz) s := by funext ρ s; rw [ev] <;> rfl
        rw [e1]
        exact sb_none
      | _ => simp [ckO, conNon] at h
    | _ => simp [ckO, conNon] at h
theorem ckT_ok : ∀ (i : IE) {c : CC} {e : Expr} {G : Cfg} {L : Addr}, At G c L n → LkG G T n p call → ckT T i c e = true → ST G e (evT p call i)
  | .tv (.cmp o x y), c, e, G, L, a, K, h => by
    cases e with
    | Compare l ops ys p =>
      rw [ckT] at h
      unfold ckE at h
      split at h
      · rename_i e0
        cases e0
        simp only [Bool.and_eq_true, beq_iff_eq, Bool.not_eq_true'] at h
        obtain ⟨⟨⟨e1, hm⟩, h1⟩, h2⟩ := h
        subst e1
        exact (st_cmp a.hu hm (ckE_ok x a K h1) (ckE_ok y a K h2)).congr fun ρ s => by rw [evT, ev] <;> rfl
      · cases h
    | _ => simp [ckT, ckE] at h
  | .tv (.chain o₁ o₂ x y z), c, e, G, L, a, K, h => by
    cases e with
    | Compare l ops ys p =>
      rw [ckT] at h
      unfold ckE at h
      split at h
      · rename_i e0
        cases e0
        simp only [Bool.and_eq_true, beq_iff_eq, Bool.not_eq_true'] at h
        obtain ⟨⟨⟨⟨⟨e1, e2⟩, hm⟩, h1⟩, h2⟩, h3⟩ := h
        subst e1 e2
        exact (st_chain a.hu hm (ckE_ok x a K h1) (ckE_ok y a K h2) (ckE_ok z a K h3)).congr fun ρ s => by rw [evT, ev] <;> rfl
      · cases h
    | _ => simp [ckT, ckE] at h
  | .tv (.var u0), c, e, G, L, a, K, h => by
    have r : (valTest e = true ∧ ckE T (.var u0) c e = true) := by
      cases e <;> first | (simp [ckT, valTest, ckE] at h; done) | (simpa [ckT, valTest] using h)
    exact (st_val (ckE_ok (.var u0) a K r.2) (valTest_ok r.1)).congr fun ρ s => by rw [evT]
  | .tv (.con u0), c, e, G, L, a, K, h => by
    have r : (valTest e = true ∧ ckE T (.con u0) c e = true) := by
      cases e <;> first | (simp [ckT, valTest, ckE] at h; done) | (simpa [ckT, valTest] using h)
    exact (st_val (ckE_ok (.con u0) a K r.2) (valTest_ok r.1)).congr fun ρ s => by rw [evT]
  | .tv (.glo u0), c, e, G, L, a, K, h => by
    have r : (valTest e = true ∧ ckE T (.glo u0) c e = true) := by
      cases e <;> first | (simp [ckT, valTest, ckE] at h; done) | (simpa [ckT, valTest] using h)
    exact (st_val (ckE_ok (.glo u0) a K r.2) (valTest_ok r.1)).congr fun ρ s => by rw [evT]
  | .tv (.tup u0), c, e, G, L, a, K, h => by
    have r : (valTest e = true ∧ ckE T (.tup u0) c e = true) := by
      cases e <;> first | (simp [ckT, valTest, ckE] at h; done) | (simpa [ckT, valTest] using h)
    exact (st_val (ckE_ok (.tup u0) a K r.2) (valTest_ok r.1)).congr fun ρ s => by rw [evT]
  | .tv (.lst u0), c, e, G, L, a, K, h => by
    have r : (valTest e = true ∧ ckE T (.lst u0) c e = true) := by
      cases e <;> first | (simp [ckT, valTest, ckE] at h; done) | (simpa [ckT, valTest] using h)
    exact (st_val (ckE_ok (.lst u0) a K r.2) (valTest_ok r.1)).congr fun ρ s => by rw [evT]
  | .tv (.box u0), c, e, G, L, a, K, h => by
    have r : (valTest e = true ∧ ckE T (.box u0) c e = true) := by
      cases e <;> first | (simp [ckT, valTest, ckE] at h; done) | (simpa [ckT, valTest] using h)
    exact (st_val (ckE_ok (.box u0) a K r.2) (valTest_ok r.1)).congr fun ρ s => by rw [evT]
  | .tv (.dct u0), c, e, G, L, a, K, h => by
    have r : (valTest e = true ∧ ckE T (.dct u0) c e = true) := by
      cases e <;> first | (simp [ckT, valTest, ckE] at h; done) | (simpa [ckT, valTest] using h)
    exact (st_val (ckE_ok (.dct u0) a K r.2) (valTest_ok r.1)).congr fun ρ s => by rw [evT]
  | .tv (.kv u0 u1), c, e, G, L, a, K, h => by
    have r : (valTest e = true ∧ ckE T (.kv u0 u1) c e = true) := by
      cases e <;> first | (simp [ckT, valTest, ckE] at h; done) | (simpa [ckT, valTest] using h)
    exact (st_val (ckE_ok (.kv u0 u1) a K r.2) (valTest_ok r.1)).congr fun ρ s => by rw [evT]
  | .tv (.bin u0 u1 u2), c, e, G, L, a, K, h => by
    have r : (valTest e = true ∧ ckE T (.bin u0 u1 u2) c e = true) := by
      cases e <;> first | (simp [ckT, valTest, ckE] at h; done) | (simpa [ckT, valTest] using h)
    exact (st_val (ckE_ok (.bin u0 u1 u2) a K r.2) (valTest_ok r.1)).congr fun ρ s => by rw [evT]
  | .tv (.neg u0), c, e, G, L, a, K, h => by
    have r : (valTest e = true ∧ ckE T (.neg u0) c e = true) := by
      cases e <;> first | (simp [ckT, valTest, ckE] at h; done) | (simpa [ckT, valTest] using h)
    exact (st_val (ckE_ok (.neg u0) a K r.2) (valTest_ok r.1)).congr fun ρ s => by rw [evT]
  | .tv (.not u0), c, e, G, L, a, K, h => by
    have r : (valTest e = true ∧ ckE T (.not u0) c e = true) := by
      cases e <;> first | (simp [ckT, valTest, ckE] at h; done) | (simpa [ckT, valTest] using h)
    exact (st_val (ckE_ok (.not u0) a K r.2) (valTest_ok r.1)).congr fun ρ s => by rw [evT]
  | .tv (.and u0), c, e, G, L, a, K, h => by
    have r : (valTest e = true ∧ ckE T (.and u0) c e = true) := by
      cases e <;> first | (simp [ckT, valTest, ckE] at h; done) | (simpa [ckT, valTest] using h)
    exact (st_val (ckE_ok (.and u0) a K r.2) (valTest_ok r.1)).congr fun ρ s => by rw [evT]
  | .tv (.or u0), c, e, G, L, a, K, h => by
    have r : (valTest e = true ∧ ckE T (.or u0) c e = true) := by
      cases e <;> first | (simp [ckT, valTest, ckE] at h; done) | (simpa [ckT, valTest] using h)
    exact (st_val (ckE_ok (.or u0) a K r.2) (valTest_ok r.1)).congr fun ρ s => by rw [evT]
  | .tv (.ifx u0 u1 u2), c, e, G, L, a, K, h => by
    have r : (valTest e = true ∧ ckE T (.ifx u0 u1 u2) c e = true) := by
      cases e <;> first | (simp [ckT, valTest, ckE] at h; done) | (simpa [ckT, valTest] using h)
    exact (st_val (ckE_ok (.ifx u0 u1 u2) a K r.2) (valTest_ok r.1)).congr fun ρ s => by rw [evT]
  | .tv (.sub u0 u1), c, e, G, L, a, K, h => by
    have r : (valTest e = true ∧ ckE T (.sub u0 u1) c e = true) := by
      cases e <;> first | (simp [ckT, valTest, ckE] at h; done) | (simpa [ckT, valTest] using h)
    exact (st_val (ckE_ok (.sub u0 u1) a K r.2) (valTest_ok r.1)).congr fun ρ s => by rw [evT]
  | .tv (.slc u0 u1 u2), c, e, G, L, a, K, h => by
    have r : (valTest e = true ∧ ckE T (.slc u0 u1 u2) c e = true) := by
      cases e <;> first | (simp [ckT, valTest, ckE] at h; done) | (simpa [ckT, valTest] using h)
    exact (st_val (ckE_ok (.slc u0 u1 u2) a K r.2) (valTest_ok r.1)).congr fun ρ s => by rw [evT]
  | .tv (.call u0 u1), c, e, G, L, a, K, h => by
    have r : (valTest e = true ∧ ckE T (.call u0 u1) c e = true) := by
      cases e <;> first | (simp [ckT, valTest, ckE] at h; done) | (simpa [ckT, valTest] using h)
    exact (st_val (ckE_ok (.call u0 u1) a K r.2) (valTest_ok r.1)).congr fun ρ s => by rw [evT]
  | .tv (.bi u0 u1), c, e, G, L, a, K, h => by
    have r : (valTest e = true ∧ ckE T (.bi u0 u1) c e = true) := by
      cases e <;> first | (simp [ckT, valTest, ckE] at h; done) | (simpa [ckT, valTest] using h)
    exact (st_val (ckE_ok (.bi u0 u1) a K r.2) (valTest_ok r.1)).congr fun ρ s => by rw [evT]
  | .tv (.mt u0 u1 u2), c, e, G, L, a, K, h => by
    have r : (valTest e = true ∧ ckE T (.mt u0 u1 u2) c e = true) := by
      cases e <;> first | (simp [ckT, valTest, ckE] at h; done) | (simpa [ckT, valTest] using h)
    exact (st_val (ckE_ok (.mt u0 u1 u2) a K r.2) (valTest_ok r.1)).congr fun ρ s => by rw [evT]
  | .tv (.lc u0 u1 u2 u3), c, e, G, L, a, K, h => by
    have r : (valTest e = true ∧ ckE T (.lc u0 u1 u2 u3) c e = true) := by
      cases e <;> first | (simp [ckT, valTest, ckE] at h; done) | (simpa [ckT, valTest] using h)
    exact (st_val (ckE_ok (.lc u0 u1 u2 u3) a K r.2) (valTest_ok r.1)).congr fun ρ s => by rw [evT]
  | .tv (.dc u0 u1 u2 u3 u4), c, e, G, L, a, K, h => by
    have r : (valTest e = true ∧ ckE T (.dc u0 u1 u2 u3 u4) c e = true) := by
      cases e <;> first | (simp [ckT, valTest, ckE] at h; done) | (simpa [ckT, valTest] using h)
    exact (st_val (ckE_ok (.dc u0 u1 u2 u3 u4) a K r.2) (valTest_ok r.1)).congr fun ρ s => by rw [evT]
  | .tv (.gen u0 u1 u2 u3 u4), c, e, G, L, a, K, h => by
    have r : (valTest e = true ∧ ckE T (.gen u0 u1 u2 u3 u4) c e = true) := by
      cases e <;> first | (simp [ckT, valTest, ckE] at h; done) | (simpa [ckT, valTest] using h)
    exact (st_val (ckE_ok (.gen u0 u1 u2 u3 u4) a K r.2) (valTest_ok r.1)).congr fun ρ s => by rw [evT]
  | .tv (.rng u0), c, e, G, L, a, K, h => by
    have r : (valTest e = true ∧ ckE T (.rng u0) c e = true) := by
      cases e <;> first | (simp [ckT, valTest, ckE] at h; done) | (simpa [ckT, valTest] using h)
    exact (st_val (ckE_ok (.rng u0) a K r.2) (valTest_ok r.1)).congr fun ρ s => by rw [evT]
  | .tv (.enum u0), c, e, G, L, a, K, h => by
    have r : (valTest e = true ∧ ckE T (.enum u0) c e = true) := by
      cases e <;> first | (simp [ckT, valTest, ckE] at h; done) | (simpa [ckT, valTest] using h)
    exact (st_val (ckE_ok (.enum u0) a K r.2) (valTest_ok r.1)).congr fun ρ s => by rw [evT]
  | .tv (.zip u0 u1), c, e, G, L, a, K, h => by
    have r : (valTest e = true ∧ ckE T (.zip u0 u1) c e = true) := by
      cases e <;> first | (simp [ckT, valTest, ckE] at h; done) | (simpa [ckT, valTest] using h)
    exact (st_val (ckE_ok (.zip u0 u1) a K r.2) (valTest_ok r.1)).congr fun ρ s => by rw [evT]
  | .tv (.fstr u0), c, e, G, L, a, K, h => by
    have r : (valTest e = true ∧ ckE T (.fstr u0) c e = true) := by
      cases e <;> first | (simp [ckT, valTest, ckE] at h; done) | (simpa [ckT, valTest] using h)
    exact (st_val (ckE_ok (.fstr u0) a K r.2) (valTest_ok r.1)).congr fun ρ s => by rw [evT]
  | .tv (.told u0 u1 u2), c, e, G, L, a, K, h => by
    have r : (valTest e = true ∧ ckE T (.told u0 u1 u2) c e = true) := by
      cases e <;> first | (simp [ckT, valTest, ckE] at h; done) | (simpa [ckT, valTest] using h)
    exact (st_val (ckE_ok (.told u0 u1 u2) a K r.2) (valTest_ok r.1)).congr fun ρ s => by rw [evT]
  | .tv (.tv u0), c, e, G, L, a, K, h => by
    have r : (valTest e = true ∧ ckE T (.tv u0) c e = true) := by
      cases e <;> first | (simp [ckT, valTest, ckE] at h; done) | (simpa [ckT, valTest] using h)
    exact (st_val (ckE_ok (.tv u0) a K r.2) (valTest_ok r.1)).congr fun ρ s => by rw [evT]
  | .tv (.it u0), c, e, G, L, a, K, h => by
    have r : (valTest e = true ∧ ckE T (.it u0) c e = true) := by
      cases e <;> first | (simp [ckT, valTest, ckE] at h; done) | (simpa [ckT, valTest] using h)
    exact (st_val (ckE_ok (.it u0) a K r.2) (valTest_ok r.1)).congr fun ρ s => by rw [evT]
  | .not x, c, e, G, L, a, K, h => by
    unfold ckT at h
    split at h
    · exact (st_not (ckT_ok x a K h)).congr fun ρ s => by rw [evT] <;> rfl
    · cases h
  | .and es, c, e, G, L, a, K, h => by
    unfold ckT at h
    split at h
    · simp only [Bool.and_eq_true] at h
      exact (st_of (ckWAnd_ok es a K h.1 (by simpa using h.2))).congr fun ρ s => by rw [evT]
    · cases h
  | .or es, c, e, G, L, a, K, h => by
    unfold ckT at h
    split at h
    · simp only [Bool.and_eq_true] at h
      exact (st_of (ckWOr_ok es a K h.1 (by simpa using h.2))).congr fun ρ s => by rw [evT]
    · cases h
  | .var _, c, e, G, L, a, K, h => by simp [ckT] at h
  | .con _, c, e, G, L, a, K, h => by simp [ckT] at h
  | .glo _, c, e, G, L, a, K, h => by simp [ckT] at h
  | .tup _, c, e, G, L, a, K, h => by simp [ckT] at h
  | .lst _, c, e, G, L, a, K, h => by simp [ckT] at h
  | .box _, c, e, G, L, a, K, h => by simp [ckT] at h
  | .dct _, c, e, G, L, a, K, h => by simp [ckT] at h
  | .kv _ _, c, e, G, L, a, K, h => by simp [ckT] at h
  | .bin _ _ _, c, e, G, L, a, K, h => by simp [ckT] at h
  | .neg _, c, e, G, L, a, K, h => by simp [ckT] at h
  | .ifx _ _ _, c, e, G, L, a, K, h => by simp [ckT] at h
  | .cmp _ _ _, c, e, G, L, a, K, h => by simp [ckT] at h
  | .chain _ _ _ _ _, c, e, G, L, a, K, h => by simp [ckT] at h
  | .sub _ _, c, e, G, L, a, K, h => by simp [ckT] at h
  | .slc _ _ _, c, e, G, L, a, K, h => by simp [ckT] at h
  | .call _ _, c, e, G, L, a, K, h => by simp [ckT] at h
  | .bi _ _, c, e, G, L, a, K, h => by simp [ckT] at h
  | .mt _ _ _, c, e, G, L, a, K, h => by simp [ckT] at h
  | .lc _ _ _ _, c, e, G, L, a, K, h => by simp [ckT] at h
  | .dc _ _ _ _ _, c, e, G, L, a, K, h => by simp [ckT] at h
  | .gen _ _ _ _ _, c, e, G, L, a, K, h => by simp [ckT] at h
  | .rng _, c, e, G, L, a, K, h => by simp [ckT] at h
  | .enum _, c, e, G, L, a, K, h => by simp [ckT] at h
  | .zip _ _, c, e, G, L, a, K, h => by simp [ckT] at h
  | .fstr _, c, e, G, L, a, K, h => by simp [ckT] at h
  | .told _ _ _, c, e, G, L, a, K, h => by simp [ckT] at h
  | .it _, c, e, G, L, a, K, h => by simp [ckT] at h
theorem ckWAnd_ok : ∀ (es : List IE) {c : CC} {xs : List Expr} {G : Cfg} {L : Addr} {pos : Pos}, At G c L n → LkG G T n p call → ckFs T es c xs = true → es ≠ [] → SW G (.BoolOp .And xs pos) (evTAnd p call es)
  | [], c, xs, G, L, pos, a, K, h, hn => absurd rfl hn
  | [i], c, xs, G, L, pos, a, K, h, hn => by
    cases xs with
    | nil => simp [ckFs] at h
    | cons x r =>
      simp only [ckFs, Bool.and_eq_true, List.isEmpty_iff] at h
      obtain ⟨h1, h2⟩ := h
      subst h2
      exact (sw_and1 (ckT_ok i a K h1)).congr fun ρ s => by rw [evTAnd]; congr 1
  | i :: j :: es, c, xs, G, L, pos, a, K, h, hn => by
    cases xs with
    | nil => simp [ckFs] at h
    | cons x r =>
      have h : (ckT T i c x && ckFs T (j :: es) c r) = true := by rw [ckFs] at h; exact h
      simp only [Bool.and_eq_true] at h
      cases r with
      | nil => simp [ckFs] at h
      | cons y r => exact (sw_and (ckT_ok i a K h.1) (ckWAnd_ok (j :: es) a K h.2 (by simp))).congr fun ρ s => by rw [evTAnd]
theorem ckWOr_ok : ∀ (es : List IE) {c : CC} {xs : List Expr} {G : Cfg} {L : Addr} {pos : Pos}, At G c L n → LkG G T n p call → ckFs T es c xs = true → es ≠ [] → SW G (.BoolOp .Or xs pos) (evTOr p call es)
  | [], c, xs, G, L, pos, a, K, h, hn => absurd rfl hn
  | [i], c, xs, G, L, pos, a, K, h, hn => by
    cases xs with
    | nil => simp [ckFs] at h
    | cons x r =>
      simp only [ckFs, Bool.and_eq_true, List.isEmpty_iff] at h
      obtain ⟨h1, h2⟩ := h
      subst h2
      exact (sw_or1 (ckT_ok i a K h1)).congr fun ρ s => by rw [evTOr]; congr 1
  | i :: j :: es, c, xs, G, L, pos, a, K, h, hn => by
    cases xs with
    | nil => simp [ckFs] at h
    | cons x r =>
      have h : (ckT T i c x && ckFs T (j :: es) c r) = true := by rw [ckFs] at h; exact h
      simp only [Bool.and_eq_true] at h
      cases r with
      | nil => simp [ckFs] at h
      | cons y r => exact (sw_or (ckT_ok i a K h.1) (ckWOr_ok (j :: es) a K h.2 (by simp))).congr fun ρ s => by rw [evTOr]
theorem ckEs_ok : ∀ (es : List IE) {c : CC} {xs : List Expr} {G : Cfg} {L : Addr}, At G c L n → LkG G T n p call → ckEs T es c xs = true → plainArgs xs = true → SA G xs (evs p call es) ∧ SO G xs (evo p call es) ∧ es.length = xs.length
  | [], c, xs, G, L, a, K, h, hp => by
    have e : xs = [] := by simpa [ckEs] using h
    subst e
    refine ⟨?_, ?_, rfl⟩
    · have : evs p call [] = fun _ s => R.ok [] s := by funext ρ s; rw [evs]
      rw [this]; exact sa_nil
    · have : evo p call [] = fun _ s => R.ok [] s := by funext ρ s; rw [evo]
      rw [this]; exact so_nil
  | i :: es, c, [], G, L, a, K, h, hp => by simp [ckEs] at h
  | i :: es, c, x :: xs, G, L, a, K, h, hp => by
    simp only [ckEs, Bool.and_eq_true] at h
    obtain ⟨e1, h2⟩ := star_cons (env := G.X.env) hp
    obtain ⟨r1, r2, r3⟩ := ckEs_ok es a K h.2 h2
    have q := ckE_ok i a K h.1
    refine ⟨?_, ?_, by simp [r3]⟩
    · have := sa_cons q r1 e1
      have e2 : evs p call (i :: es) = fun ρ s => (ev p call i ρ s).bind fun x s => (ofO (keep x) s).bind fun d s => (evs p call es ρ s).bind fun ds s => .ok (d :: ds) s := by funext ρ s; rw [evs]
      rw [e2]; exact this
    · have := so_cons q r2 e1
      have e2 : evo p call (i :: es) = fun ρ s => (ev p call i ρ s).bind fun x s => (evo p call es ρ s).bind fun ds s => .ok (x.1 :: ds) s := by funext ρ s; rw [evo]
      rw [e2]; exact this
end
end
end RS
end S34
section S35
set_option autoImplicit false
set_option linter.all false
set_option maxRecDepth 100000
set_option Elab.async false
/-! E5: the checker of statements. -/
namespace RS
open PySem PySem.Spec PyProof.Rows L2

def CC.lm (c : CC) (scope : Scope) : CC := { c with sc := scope, fn := fun _ => false, lv := c.lv - 2, tk := false, gen := false, lam := false }
def noPar : Arguments → Bool
  | ⟨[], [], none, [], [], none, []⟩ => true
  | _ => false
/-- a call whose last argument is a written number -/
def tokI : Expr → Bool
  | .Call (.Name _ _) xs [] _ => match xs.getLast? with
    | some (.Constant (.int _) _ _) => decide (2 ≤ xs.length)
    | _ => false
  | _ => false
def tokB : IE → Expr → Bool
  | .it (.call _ _), e => tokI e
  | _, _ => false
def tupB (sc : Scope) (ts : List Expr) : Expr → Bool
  | .Tuple vs _ _ => swB (fun z => sc.names.lookup z == some .local) ts vs == some none
  | _ => true
/-- is the comprehension's value stored by itself? -/
def swC (sc : Scope) (x : Str) (ln : Nat) (cln : Nat) (scope : Scope) : Bool :=
  sc.names.lookup x == some NameKind.local && ln == cln && !(scope.names.any fun (n, k) => n == x && (k == .local || k == .cell))
def asgB (c : CC) (x : Str) (px : Pos) : Expr → Bool
  | .DictComp _ _ _ scope cpos => !swC c.sc x px.line cpos.line scope
  | .ListComp .. => true
  | e => notComp e
def ckLs (T : Tb) (c : CC) : List IE → List Expr → Bool
  | [], xs => xs.isEmpty
  | i :: is, .Lambda params body scope _ :: xs => lamSB' c.sc scope && noPar params && ckE T i (c.lm scope) body && ckLs T c is xs
  | _, _ => false
where lamSB' (a b : Scope) : Bool := LamX.lamSB a b
def badB (T : Tb) (c : CC) (v cl : Nat) (bad : Str) (n : Nat) : Expr → Bool
  | .Compare (.ListComp elt [⟨.Name f q1, .Name bad' q2, [.Compare (.Call (.Name x q3) [.Name f' q4] [] q5) [.NotEq] [.Constant (.str ret) j2 q6] q7], 0⟩] scope q8) [.NotEq] [.List [] q9] q10 =>
    f' == f && bad' == bad && x == T.told && strB T.tret ret && cl == T.tcls && c.lam && decide (2 ≤ c.lv) && L2.blkC c.N c.sc scope [(f, c.N.idxOf f)] && stB c v bad && scope.names.lookup f == some .local && scope.names.lookup x == some .globalImplicit &&
      ndB x && ndB bad && ndB f && decide (n ≤ line)
  | _ => false
section
variable (T : Tb)
mutual
def ckS : IS → CC → Stmt → Bool
  | .asg (.nm i) e, c, a => match a with
    | .Assign [.Name x px] v _ => stB c i x && ckE T e c v && asgB c x px v
    | _ => false
  | .asg (.tp is) e, c, a => match a with
    | .Assign [.Tuple es k p] v _ => ckTg c (.tp is) (.Tuple es k p) && ckE T e c v && tupB c.sc es v
    | _ => false
  | .par is es, c, a => match a with
    | .Assign [.Tuple ts k p] (.Tuple vs k2 p2) _ => ckEs T es c vs && plainArgs vs && (match is, ts, vs with
      | [i, j], [.Name x px, .Name y py], [v, w] => c.N[i]? == some x && c.N[j]? == some y && decide (i ≠ j) && c.sc.names.lookup x == some .local && c.sc.names.lookup y == some .local &&
          swB (fun z => c.sc.names.lookup z == some .local) [.Name x px, .Name y py] [v, w] == some (some [x, y])
      | [i, j, l], [.Name x px, .Name y py, .Name z pz], [u, v, w] => c.N[i]? == some x && c.N[j]? == some y && c.N[l]? == some z && decide (i ≠ j) && decide (i ≠ l) && decide (j ≠ l) && c.sc.names.lookup x == some .local && c.sc.names.lookup y == some .local && c.sc.names.lookup z == some .local &&
          swB (fun z => c.sc.names.lookup z == some .local) [.Name x px, .Name y py, .Name z pz] [u, v, w] == some (some [x, y, z])
      | _, _, _ => false)
    | _ => false
  | .setI o i e, c, a => match a with
    | .Assign [.Subscript xo xi _] v _ => ckE T e c v && ckE T o c xo && ckE T i c xi
    | _ => false
  | .setV i ie e, c, a => match a with
    | .Assign [.Subscript (.Name x _) xi _] v _ => nmB c i x && ckE T e c v && ckE T ie c xi
    | _ => false
  | .aug i o e, c, a => match a with
    | .AugAssign (.Name x _) op v _ => stB c i x && op == opO o && ckE T e c v
    | _ => false
  | .app i e, c, a => match a with
    | .Expr (.Call (.Attribute (.Name x _) nme apos) [v] [] cpos) _ => nme == "append" && nmB c i x && plainArgs [v] && apos.endLine == cpos.line && ckE T e c v
    | _ => false
  | .upd i e, c, a => match a with
    | .Expr (.Call (.Attribute (.Name x _) nme apos) [v] [] cpos) _ => nme == "update" && nmB c i x && plainArgs [v] && apos.endLine == cpos.line && ckE T e c v
    | _ => false
  | .expr e, c, a => match a with
    | .Expr v _ => notComp v && ckE T e c v
    | _ => false
  | .ret e, c, a => match a with
    | .Return (some v) _ => ckE T e c v
    | _ => false
  | .retV i, c, a => match a with
    | .Return (some (.Name x _)) _ => nmB c i x
    | _ => false
  | .ret0, c, a => match a with
    | .Return none _ => true
    | _ => false
  | .ite t a b, c, s => match s with
    | .If x y z _ => ckT T t c x && ckSs a c y && ckSs b c z
    | _ => false
  | .for_ tg it body, c, a => match a with
    | .For t i b [] _ => ckI T it c i && notSet i && ckTg c tg t && ckSs body (if tokB it i then { c with tk := true } else c) b
    | _ => false
  | .whl _ t body, c, a => match a with
    | .While x b [] _ => ckT T t c x && ckSs body c b
    | _ => false
  | .raise cl, c, a => match a with
    | .Raise (some (.Call (.Name x _) [.Constant (.str m) _ _] [] _)) none _ => T.cls.lookup x == some cl && glB c x && ndB x
    | _ => false
  | .pass, _, a => match a with
    | .Pass _ => true
    | _ => false
  | .brk, _, a => match a with
    | .Break _ => true
    | _ => false
  | .cont, _, a => match a with
    | .Continue _ => true
    | _ => false
  | .frz _, _, _ => false
  | .bads _ _ _, _, _ => false
def ckSs : List IS → CC → List Stmt → Bool
  | [], _, xs => xs.isEmpty
  | .frz _ :: r, c, xs => ckSs r c xs
  | .bads v cl es :: r, c, xs => match xs with
    | .Assign [.Name bad _] (.List lams _) _ :: .If t _ [] _ :: xs => badB T c v cl bad lams.length t && ckLs T c es lams && ckSs r c xs
    | _ => false
  | i :: r, c, xs => match xs with
    | x :: xs => ckS i c x && ckSs r c xs
    | [] => false
end
end

/-! ### it is right -/
/-- .. and its exceptions, the def that tells -/
structure LkS (P : Program) (w : World) (K : PySem.W.Frag) (mg : Str → Option Value) (base : Heap) (J : Inf) (T : Tb) (n : Nat) (p : Prg) (call : Call) : Prop extends Lk P w K mg base J T n p call where
  exc : ∀ x cl, T.cls.lookup x = some cl → ∃ B newId initId bmB, ExcBaseFacts B newId initId bmB ∧ PySem.W.excIn K (J.ca cl) bmB newId = true ∧ mg x = some (.ref (J.ca cl)) ∧ PySem.W.keepIn K (.ref (J.ca cl)) = true ∧
    PySem.W.subIn K (.ref (J.ca cl)) (.type "BaseException") = some true ∧ PySem.W.typeIn K (.ref (J.ca cl)) = some (.type "type")
  told : ∃ g, Told K mg J T.told T.tcls (S_ T.tret) g
abbrev LkSG (G : Cfg) (T : Tb) (n : Nat) (p : Prg) (call : Call) : Prop := LkS G.X.prog G.X.w G.X.K G.X.mg G.X.base G.J T n p call
/-- a frame of statements -/
structure AtS (G : Cfg) (c : CC) (L : Addr) (n : Nat) : Prop extends At G c L n where
  own : PassesOwn G.M G.X.A G.X.env G.X.xe
  takes : Takes G.X (fun cls d _ H => G.W cls d H)
  kind : c.sc.kind = .function
  lam : c.lam = true → ∃ cc P, LamTab G cc P
section
variable {T : Tb} {n : Nat} {p : Prg} {call : Call}
theorem SS.congr {G : Cfg} {e : Stmt} {m m' : Env → Sto → R (Fl × Env)} (h : SS G e m) (e1 : ∀ ρ s, m' ρ s = m ρ s) : SS G e m' := by
  have : m' = m := funext fun ρ => funext fun s => e1 ρ s
  rw [this]; exact h
theorem SSs.congr {G : Cfg} {e : List Stmt} {m m' : Env → Sto → R (Fl × Env)} (h : SSs G e m) (e1 : ∀ ρ s, m' ρ s = m ρ s) : SSs G e m' := by
  have : m' = m := funext fun ρ => funext fun s => e1 ρ s
  rw [this]; exact h
theorem AtS.bk {G : Cfg} {c : CC} {L : Addr} (a : AtS G c L n) : G.X.env.blockKind = .function := by
  unfold PySem.Env.blockKind
  rw [a.sc, a.kind]
  rfl
theorem AtS.tkd {G : Cfg} {c : CC} {L : Addr} (a : AtS G c L n) : AtS { G with tk := true } { c with tk := true } L n where
  ok := ⟨a.ok.calm, a.ok.nd, a.ok.units, a.ok.frame, a.ok.stack, a.ok.takes⟩
  N := a.N
  sc := a.sc
  fn := a.fn
  room := a.room
  tk := fun _ => rfl
  gen := fun h => let ⟨cc, P, co⟩ := a.gen h; ⟨cc, P, ⟨co.tab, co.code, co.tg, co.tl⟩⟩
  own := a.own
  takes := a.takes
  kind := a.kind
  lam := fun h => let ⟨cc, P, co⟩ := a.lam h; ⟨cc, P, ⟨co.tab, co.code, co.tl, co.tlu⟩⟩
theorem frz_ok {G : Cfg} {as : List Stmt} : ∀ (vs : List Nat) {ms : Env → Sto → R (Fl × Env)}, SSs G as ms → SSs G as (fun ρ s => ms (frzE ρ vs) s)
  | [], ms, h => h
  | v :: vs, ms, h => by
    refine SSs.congr (frz_ok vs (sss_frz (v := v) h)) fun ρ s => ?_
    show ms (match (frzE ρ vs)[v]? with | some (some (d, _)) => (frzE ρ vs).set v (some (d, false)) | _ => frzE ρ vs) s = _
    rcases q : (frzE ρ vs)[v]? with _ | _ | ⟨d, o⟩ <;> simp only
theorem evk_len : ∀ (es : List IE) {ρ : Env} {s : Sto} {ds : List (D × Kd)} {s' : Sto}, evk p call es ρ s = .ok ds s' → ds.length = es.length
  | [], ρ, s, ds, s', h => by rw [evk] at h; cases h; rfl
  | e :: es, ρ, s, ds, s', h => by
    rw [evk] at h
    obtain ⟨x, s1, _, h⟩ := bind_inv h
    obtain ⟨r, s3, hr, h⟩ := bind_inv h
    cases h
    simp [evk_len es hr]
theorem ckK_ok : ∀ (es : List IE) {c : CC} {xs : List Expr} {G : Cfg} {L : Addr}, At G c L n → LkG G T n p call → ckEs T es c xs = true → plainArgs xs = true → SK G xs (evk p call es) ∧ es.length = xs.length
  | [], c, xs, G, L, a, K, h, hp => by
    have e : xs = [] := by simpa [ckEs] using h
    subst e
    have : evk p call [] = fun _ s => R.ok [] s := by funext ρ s; rw [evk]
    rw [this]; exact ⟨sk_nil, rfl⟩
  | i :: es, c, [], G, L, a, K, h, hp => by simp [ckEs] at h
  | i :: es, c, x :: xs, G, L, a, K, h, hp => by
    simp only [ckEs, Bool.and_eq_true] at h
    obtain ⟨e1, h2⟩ := star_cons (env := G.X.env) hp
    obtain ⟨r1, r3⟩ := ckK_ok es a K h.2 h2
    have q := ckE_ok i a K h.1
    have e2 : evk p call (i :: es) = fun ρ s => (ev p call i ρ s).bind fun x s => (evk p call es ρ s).bind fun xs s => .ok (x :: xs) s := by funext ρ s; rw [evk]
    rw [e2]
    exact ⟨sk_cons q r1 hp, by simp [r3]⟩
end
end RS
end S35
section S36
set_option autoImplicit false
set_option linter.all false
set_option maxRecDepth 100000
set_option Elab.async false
/-! E6: a token by a written number; a for over such a call. -/
namespace RS
open PySem PySem.Spec PyProof.Rows L2

section
variable {G : Cfg} {L : Addr}
/-- arguments, a token is out behind them -/
structure SAT (G : Cfg) (es : List Expr) (m : Env → Sto → R (List D)) : Prop where
  run : ∀ (pos : Pos) (pins : List (Addr × Obj)) (s : Shared) (σ : L2.St) (E : WS) (ρ : Env) (st : Sto) (Q : List Value → Shared → Prop), Inv G.X pins σ E.H s → G.WO E st → G.Fr E σ ρ → G.Tk s →
    Out (m ρ st) (fun ds st' => ∀ E' vs us s', Ext E E' → G.WO E' st' → RepA G.X.K E' ds vs → Inv G.X pins σ E'.H s' → Vals vs us → 1 ≤ s'.toks → Q us s') (G.er E σ) → wpAny G.M G.X.A (spliced (backTo pos (starEach es G.X.env))) Q G.X.xe s
theorem sat_last {i : Int} {j : Nat} {p : Pos} {m : Env → Sto → R (List D)} (hm : ∀ ρ s, m ρ s = .ok [.int i] s) : SAT G [.Constant (.int i) j p] m := by
  refine ⟨fun pos pins s σ E ρ st Q I w f tk h => ?_⟩
  rw [hm] at h
  have hst : starEach [.Constant (.int i) j p] G.X.env = (false, eval (.Constant (.int i) j p) G.X.env) :: starEach [] G.X.env := by simp [starEach]
  rw [hst]
  show wpAny _ _ (spliced ((false, eval (.Constant (.int i) j p) G.X.env) :: backTo pos (starEach [] G.X.env))) _ _ s
  refine Calls.spliced_cons (wpAny_Constant_int ?_)
  refine Calls.spliced_nil (h E [.int i] [.int i s.toks] _ (Ext.refl E) w ⟨.int i, [], rfl, (rep_int (K := G.X.K) (E := E)).mpr rfl, rfl⟩ (I.tok _) (.cons ⟨_, rfl⟩ .nil) ?_)
  show 1 ≤ s.toks + 1
  omega
theorem sat_cons {e : Expr} {es : List Expr} {m : Env → Sto → R (D × Kd)} {ms : Env → Sto → R (List D)} (he : SE G e m) (hs : SAT G es ms) (hst : starEach (e :: es) G.X.env = (false, eval e G.X.env) :: starEach es G.X.env) :
    SAT G (e :: es) (fun ρ s => (m ρ s).bind fun x s => (ofO (keep x) s).bind fun d s => (ms ρ s).bind fun ds s => .ok (d :: ds) s) := by
  refine ⟨fun pos pins s σ E ρ st Q I w f tk h => ?_⟩
  rw [hst]
  show wpAny _ _ (spliced ((false, eval e G.X.env) :: backTo pos (starEach es G.X.env))) _ _ s
  refine Calls.spliced_cons (he.thn I w f tk h fun x st1 E1 v u s1 x1 w1 r1 I1 ru t1 h1 => ?_)
  obtain ⟨d, hk, h2⟩ := (Out.bind.mp h1).ofO
  obtain ⟨ed, E', eH, x2, l2, w2, r2⟩ := keep_ok x1 w1 r1 hk
  subst ed
  rw [← eH] at I1
  refine hs.run pos pins s1 σ E' ρ st1 _ I1 w2 (f.mono x2) t1 ((Out.bind.mp h2).mono (fun ds st3 h3 E3 vs us s3 x3 w3 r3 I3 rv t3 => ?_) fun _ _ z => Cfg.er_ext x2 z)
  exact h3 E3 (v :: vs) (u :: us) s3 (x2.trans x3) w3 ⟨v, vs, rfl, r2.last x3.last, r3⟩ I3 (.cons ru rv) t3
def Cfg.okIT (G : Cfg) (pins : List (Addr × Obj)) (σ : L2.St) (E : WS) (tg : Expr) (Q : Value → Shared → Prop) : List D × List (D × Kd) → Sto → Prop := fun xs st' =>
  ∀ E' vs itv s2, Ext E E' → G.WO E' st' → SrcR G.X.K E E' xs.2 vs → 1 ≤ s2.toks → PIE G.X pins σ tg (fun J H' => H' = E'.H ∧ Wk G J xs.1 xs.2 vs st') itv s2 → Q itv s2
/-- a walked call, a token is out behind it -/
structure SIT (G : Cfg) (tg iter : Expr) (m : Env → Sto → R (List D × List (D × Kd))) : Prop where
  run : ∀ (pins : List (Addr × Obj)) (s : Shared) (σ : L2.St) (E : WS) (ρ : Env) (st : Sto) (Q : Value → Shared → Prop), Inv G.X pins σ E.H s → G.WO E st → G.Fr E σ ρ → G.Tk s →
    Out (m ρ st) (G.okIT pins σ E tg Q) (G.er E σ) →
    wpAny G.M G.X.A (eval iter G.X.env) (fun v s1 => wpAny G.M G.X.A (pyIter v) Q G.X.xe s1) G.X.xe s
variable {k np : Nat} {f : Addr} {fd : FuncData} {ps : List Str} {mc : List D → Sto → R (D × Kd)} {x : Str} {p pos : Pos} {e : Expr} {es : List Expr} {ms : Env → Sto → R (List D)}
theorem si_callT {tg : Expr} (ok : GOk G L) (F : FnOk G.X.prog G.X.w G.X.K G.X.mg G.X.base (L2.CX G.X.prog G.X.w) k f fd ps (spF G.X.K G.J np mc)) (hr : Room k G.X.A) (hg : Gl G.X x) (hm : G.X.mg x = some (.ref f)) (hk : PySem.W.keepIn G.X.K (.ref f) = true) (hb : Binds G.X.K fd ps [])
    (hlen : ∀ ds s, ds.length ≠ np → mc ds s = .no) (ha : SAT G (e :: es) ms) (hdb : (x == ("__debug__" : Str)) = false) (he : starEach (e :: es) G.X.env = (false, eval e G.X.env) :: starEach es G.X.env) (hpl : (backTo pos (starEach es G.X.env)).any (·.1) = false) :
    SIT G tg (.Call (.Name x p) (e :: es) [] pos) (fun ρ s => ((ms ρ s).bind fun ds s => mc ds s).bind fun x s => (ofO (items s x.1) s).bind fun xs s => .ok (xs, [x]) s) := by
  refine ⟨fun pins s σ E ρ st Q I w f0 tk hO => ?_⟩
  refine wpAny_Call_Name_kw (ld_glob I hg hm ?_ hdb)
  refine PySem.W.callWith_K (h₀ := G.X.base) I.ok.mod.kin hk (ha.run pos pins s σ E ρ st _ I w f0 tk ((Out.bind.mp (Out.bind.mp hO)).mono (fun ds st1 h1 E1 vs us s1 x1 w1 r1 I1 rv t1 => ⟨I1.kIn, ?_⟩) fun _ _ z => z)) he hpl
  have hl : ds.length = np := by
    by_cases q : ds.length = np
    · exact q
    · rw [hlen ds st1 q] at h1; exact h1.elim
  refine wpAny_with_toks t1 (wpAny_mono (L2.thn (run_fn (Q := fun v H2 => ∃ (x : D × Kd) (st2 : Sto) (E2 : WS), E2.H = H2 ∧ Ext E1 E2 ∧ G.WO E2 st2 ∧ RepR G.X.K E1 E2 x.1 x.2 v ∧ Out ((ofO (items st2 x.1) st2).bind fun xs s => .ok (xs, [x]) s) (G.okIT pins σ E tg Q) (G.er E σ)) F hr hb .nil ok.passes I1 rv ?_) fun u s2 hh => show 1 ≤ s2.toks → wpAny G.M G.X.A (pyIter u) Q G.X.xe s2 from fun t2 => ?_) (fun _ _ z => z) fun _ _ z _ => z)
  · rw [List.append_nil]
    refine ⟨by rw [← r1.length]; exact hl, E1, ds, st1, rfl, w1, r1, h1.mono (fun x st2 h2 E2 v x2 w2 r2 => ⟨x, st2, E2, rfl, x2, w2, r2, h2⟩) fun c st2 h2 E2 x2 w2 => h2 E2 (x1.trans x2) w2⟩
  · obtain ⟨v, H2, I2, ru, x, st2, E2, eH, x2, w2, r2, h2⟩ := hh
    subst eH
    exact it_after (G := { G with tk := true }) (x1.trans x2) w2 (r2.from x1) I2 ru (fun _ => t2) h2 fun xs st' hP E' vs itv s3 x3 w3 r3 t3 p3 => hP E' vs itv s3 x3 w3 r3 (t3 rfl) p3
theorem ss_forT {tg iter : Expr} {body : List Stmt} {t : Tg} {mi : Env → Sto → R (List D × List (D × Kd))} {mb : Env → Sto → R (Fl × Env)} (hp : PassesOwn (model G.X.prog G.X.w) G.X.A G.X.env G.X.xe) (hc : G.X.calm = true)
    (hi : SIT G tg iter mi) (hg : SG { G with tk := true } tg t) (hb : SSs { G with tk := true } body mb) (hs : ∀ x, foldedSetIterable iter G.X.env x = pure x) :
    SS G (.For tg iter body [] pos) (fun ρ s => (mi ρ s).bind fun xs s => if xs.2.all (fun x => decide (x.2 ≠ .bo)) then forTurns (still s xs.2) (fun x ρ s => bindTg s ρ x t) mb xs.1 ρ s else .no) :=
  ⟨fun pins s σ E ρ st Q I w f tk hO => wpAny_For (hi.run pins s σ E ρ st _ I w f tk ((Out.bind.mp hO).mono (fun xs st1 h1 E1 vs itv s2 x1 w1 r1 t2 h2 => for_after (G := { G with tk := true }) (iter := iter) hp hc hg hb f x1 w1 r1 (fun _ => t2) h2 (h1.mono (fun fx st2 h3 E2 σ2 fl s3 l2 w2 f2 I2 r2 t3 => h3 E2 σ2 fl s3 l2 w2 f2 I2 r2 fun _ => t3 rfl) fun _ _ z => z)) fun _ _ z => Cfg.erS_er f z)) hs⟩
end

section
variable {T : Tb} {n : Nat} {p : Prg} {call : Call}
theorem ckET_ok : ∀ (es : List IE) {c : CC} {xs : List Expr} {G : Cfg} {L : Addr} {i : Int} {j : Nat} {q : Pos}, At G c L n → LkG G T n p call → ckEs T es c xs = true → plainArgs xs = true → xs.getLast? = some (.Constant (.int i) j q) → SAT G xs (evs p call es)
  | [], c, xs, G, L, i, j, q, a, K, h, hp, hl => by
    have e : xs = [] := by simpa [ckEs] using h
    subst e
    cases hl
  | _ :: _, c, [], G, L, i, j, q, a, K, h, hp, hl => by cases hl
  | [e], c, [x], G, L, i, j, q, a, K, h, hp, hl => by
    cases hl
    simp only [ckEs, Bool.and_eq_true] at h
    refine sat_last fun ρ s => ?_
    have h1 := h.1
    cases e <;> simp only [ckE, reduceCtorEq] at h1 <;> try cases h1
    rename_i d
    cases d <;> simp only [conB, reduceCtorEq] at h1 <;> try cases h1
    rename_i i2
    have h1 : i2 = i := by simpa using h1
    subst h1
    have e1 : ev p call (.con (.int i2)) ρ s = .ok (.int i2, .fz) s := by rw [ev] <;> rfl
    rw [evs, e1]
    simp only [R.bind_ok, keep_fz, ofO_some]
    rw [evs]
    rfl
  | [e], c, x :: y :: r, G, L, i, j, q, a, K, h, hp, hl => by simp [ckEs] at h
  | e :: e2 :: es, c, x :: xs, G, L, i, j, q, a, K, h, hp, hl => by
    have h : (ckE T e c x && ckEs T (e2 :: es) c xs) = true := by rw [ckEs] at h; exact h
    simp only [Bool.and_eq_true] at h
    cases xs with
    | nil => simp [ckEs] at h
    | cons y r =>
      obtain ⟨e1, h2⟩ := star_cons (env := G.X.env) hp
      have r1 := ckET_ok (e2 :: es) a K h.2 h2 (by rw [List.getLast?_cons_cons] at hl; exact hl)
      have q := ckE_ok e a K h.1
      have e3 : evs p call (e :: e2 :: es) = fun ρ s => (ev p call e ρ s).bind fun x s => (ofO (keep x) s).bind fun d s => (evs p call (e2 :: es) ρ s).bind fun ds s => .ok (d :: ds) s := by funext ρ s; rw [evs]
      rw [e3]
      exact sat_cons q r1 e1
end
end RS
end S36
section S37
set_option autoImplicit false
set_option linter.all false
set_option maxRecDepth 100000
set_option Elab.async false
/-! E7: the checker of statements is right. -/
namespace RS
open PySem PySem.Spec PyProof.Rows L2

section
variable {T : Tb} {n : Nat} {p : Prg} {call : Call}
theorem noPar_ok {params : Arguments} (h : noPar params = true) : params = ⟨[], [], none, [], [], none, []⟩ := by
  unfold noPar at h
  split at h
  · rfl
  · cases h
theorem At.lamb {G : Cfg} {c : CC} {L : Addr} (a : At G c L n) {scope : Scope} {A : Around} {outer : List PySem.Env} {s : Shared} {H : Hp} {E : XK} {f c' : Addr} (ok : GOk (G.lam A outer s H E scope f c') s.heap.objs.size)
    (hr : Room (4 * n + (c.lv - 2)) (A.deeper (LamX.lamEnv G.X scope s.heap.objs.size f c'))) : At (G.lam A outer s H E scope f c') (c.lm scope) s.heap.objs.size n where
  ok := ok
  N := a.N
  sc := rfl
  fn := fun x h => by cases h
  room := hr
  tk := fun h => by cases h
  gen := fun h => by cases h
theorem ckLs_ok : ∀ (es : List IE) {c : CC} {xs : List Expr} {G : Cfg} {L : Addr}, At G c L n → LkG G T n p call → ckLs T c es xs = true → LamsX G (4 * n + (c.lv - 2)) xs (es.map fun e => ev p call e)
  | [], c, xs, G, L, a, K, h => by
    have e : xs = [] := by simpa [ckLs] using h
    subst e
    rfl
  | i :: es, c, xs, G, L, a, K, h => by
    unfold ckLs at h
    split at h
    · rename_i e; cases e
    · rename_i e
      cases e
      rename_i params body scope pos xs
      simp only [Bool.and_eq_true] at h
      obtain ⟨⟨⟨h1, h2⟩, h3⟩, h4⟩ := h
      have hs : LamX.LamS c.sc scope := LamX.lamS_by h1
      obtain rfl := noPar_ok h2
      refine ⟨_, _, rfl, ⟨_, body, scope, pos, rfl, by rw [a.sc]; exact hs, rfl, fun q cl pm cv ctv => rfl, fun A outer s H E f c' ok hr => ?_⟩, ckLs_ok es a K h4⟩
      exact ckE_ok i (a.lamb ok hr) K h3
    · cases h
theorem bad_eq {c : Nat} : ∀ (es : List IE) (ρ : Env) (s : Sto), evBad p call es c ρ s = badM c (es.map fun e => ev p call e) ρ s
  | [], ρ, s => by rw [evBad]; rfl
  | e :: es, ρ, s => by
    rw [evBad]
    show _ = (match ev p call e ρ s with | .err c' s => if c' = c then badM c (es.map fun e => ev p call e) ρ s else .no | _ => .no)
    cases ev p call e ρ s with
    | ok a s' => rfl
    | no => rfl
    | err c' s' =>
      show (if c' = c then evBad p call es c ρ s' else .no) = _
      rw [bad_eq es]
theorem S_of {t : List Nat} {s : Str} (h : strB t s = true) : s = S_ t ∧ t.length ≤ line := by
  unfold strB at h
  simp only [Bool.and_eq_true, beq_iff_eq, decide_eq_true_eq] at h
  refine ⟨?_, h.2⟩
  rw [← h.1]
theorem AtS.lc {G : Cfg} {c : CC} {L : Addr} (a : AtS G c L n) {x : Str} : (G.X.env.kindOf x == some NameKind.local) = (c.sc.names.lookup x == some NameKind.local) := by
  unfold PySem.Env.kindOf
  rw [a.sc]
theorem asg_lc {G : Cfg} {c : CC} {L : Addr} (a : AtS G c L n) (K : LkSG G T n p call) {i : Nat} {e : IE} {x : Str} {px pos : Pos} {elt : Expr} {gens : List Comprehension} {scope : Scope} {cpos : Pos} (h1 : stB c i x = true) (h2 : ckE T e c (.ListComp elt gens scope cpos) = true) :
    SS G (.Assign [.Name x px] (.ListComp elt gens scope cpos) pos) (exec p call (.asg (.nm i) e)) := by
  have hswap : swapsWith (.ListComp elt gens scope cpos) (some (.Name x px)) pos.line G.X.env = pure (swC c.sc x px.line cpos.line scope) := by
    rw [swaps_lc, a.bk, a.lc]
    rfl
  have hn := a.store h1
  cases hb : swC c.sc x px.line cpos.line scope with
  | false =>
    rw [hb] at hswap
    exact (ss_set a.ok.nd hn (ckE_ok e a.toAt K.toLk h2) hswap).congr fun ρ s => by rw [exec]
  | true =>
    rw [hb] at hswap
    have hloc : G.X.env.scope.names.lookup x = some .local := by
      unfold swC at hb
      simp only [Bool.and_eq_true, beq_iff_eq] at hb
      rw [a.sc]; exact hb.1.1
    cases e
    case lc elt' t it ifs =>
      unfold ckE at h2
      split at h2
      · rename_i e0
        cases e0
        simp only [Bool.and_eq_true, decide_eq_true_eq] at h2
        obtain ⟨⟨⟨⟨⟨h1', h2'⟩, h3⟩, h4⟩, h5⟩, h6⟩ := h2
        obtain ⟨b1, b2⟩ := a.toAt.blkOk h3
        exact (ss_setLc a.ok hn.at_ hloc hswap (ckI_ok it a.toAt K.toLk h1') b1 b2 (fun s3 H3 C cl fp ok => tg_ok (a.toAt.blk ok) h4) (fun s3 H3 C cl fp ok => fs_sts h5.2 (ckF1_ok ifs (a.toAt.blk ok) K.toLk h5.1 h5.2)) (fun s3 H3 C cl fp ok => ckE_ok elt' (a.toAt.blk ok) K.toLk h6) (notSet_ok h2')).congr fun ρ s => by
          rw [exec]
          rw [ev] <;> rfl
      · cases h2
    all_goals first | (simp [ckE] at h2; done) | (unfold ckE at h2; split at h2 <;> first | (cases h2; done) | (simp at *; done))
theorem asg_ok {G : Cfg} {c : CC} {L : Addr} (a : AtS G c L n) (K : LkSG G T n p call) {i : Nat} {e : IE} {x : Str} {px pos : Pos} {v : Expr} (h1 : stB c i x = true) (h2 : ckE T e c v = true) (h3 : asgB c x px v = true) :
    SS G (.Assign [.Name x px] v pos) (exec p call (.asg (.nm i) e)) := by
  have hn := a.store h1
  cases v
  case ListComp elt gens scope cpos => exact asg_lc a K h1 h2
  case DictComp k v gens scope cpos =>
    have hswap : swapsWith (.DictComp k v gens scope cpos) (some (.Name x px)) pos.line G.X.env = pure (swC c.sc x px.line cpos.line scope) := by
      rw [swaps_dc, a.bk, a.lc]
      rfl
    have hb : swC c.sc x px.line cpos.line scope = false := by simpa [asgB] using h3
    rw [hb] at hswap
    exact (ss_set a.ok.nd hn (ckE_ok e a.toAt K.toLk h2) hswap).congr fun ρ s => by rw [exec]
  all_goals exact (ss_set a.ok.nd hn (ckE_ok e a.toAt K.toLk h2) (swaps_plain (by first | rfl | (simp [asgB, notComp] at h3; done)))).congr fun ρ s => by rw [exec]
theorem raise_ok {G : Cfg} {c : CC} {L : Addr} (a : AtS G c L n) (K : LkSG G T n p call) {cl : Nat} {x m : Str} {j : Nat} {p1 p2 p3 pos : Pos} (h1 : T.cls.lookup x = some cl) (h2 : glB c x = true) (h3 : ndB x = true) :
    SS G (.Raise (some (.Call (.Name x p1) [.Constant (.str m) j p2] [] p3)) none pos) (exec p call (.raise cl)) := by
  obtain ⟨B, nw, ini, bm, F, q1, q2, q3, q4, q5⟩ := K.exc x cl h1
  exact (ss_raise a.ok.calm a.takes (pmk_own F q1 q2 q3 (raises_own q4 q5) (a.gl h2) (ndB_ok h3).1)).congr fun ρ s => by rw [exec]
end
end RS
end S37
section S38
set_option autoImplicit false
set_option linter.all false
set_option maxRecDepth 100000
set_option Elab.async false
/-! E8: the checker of statements is right: whole. -/
namespace RS
open PySem PySem.Spec PyProof.Rows L2

section
variable {T : Tb} {n : Nat} {p : Prg} {call : Call}
theorem tup_ok {G : Cfg} {c : CC} {L : Addr} (a : AtS G c L n) (K : LkSG G T n p call) {is : List Nat} {e : IE} {es : List Expr} {k : Nat} {pt pos : Pos} {v : Expr} (h1 : ckTg c (.tp is) (.Tuple es k pt) = true) (h2 : ckE T e c v = true) (h3 : tupB c.sc es v = true) :
    SS G (.Assign [.Tuple es k pt] v pos) (exec p call (.asg (.tp is) e)) := by
  refine (ss_asgT (ckE_ok e a.toAt K.toLk h2) (tg_ok a.toAt h1) (by rw [swapsWithSole]; exact swaps_tup) (by
    cases v
    case Tuple vs k2 p2 => exact swB_ok a.bk (fun z => a.lc) (by simpa [tupB] using h3)
    all_goals exact sw_one fun vs k2 p2 e => by cases e) (by simp [assignEach])).congr fun ρ s => by rw [exec]
theorem par2_ok {G : Cfg} {c : CC} {L : Addr} (a : AtS G c L n) (K : LkSG G T n p call) {i j : Nat} {es : List IE} {x y : Str} {px py pt p2 pos : Pos} {k k2 : Nat} {v w : Expr} (h1 : ckEs T es c [v, w] = true) (h2 : plainArgs [v, w] = true)
    (hi : c.N[i]? = some x) (hj : c.N[j]? = some y) (hij : i ≠ j) (hx : c.sc.names.lookup x = some .local) (hy : c.sc.names.lookup y = some .local) (hs : swB (fun z => c.sc.names.lookup z == some .local) [.Name x px, .Name y py] [v, w] = some (some [x, y])) :
    SS G (.Assign [.Tuple [.Name x px, .Name y py] k pt] (.Tuple [v, w] k2 p2) pos) (exec p call (.par [i, j] es)) := by
  obtain ⟨q, ql⟩ := ckK_ok es a.toAt K.toLk h1 h2
  exact (ss_par2 a.ok.calm a.ok.nd (by rw [a.N]; exact hi) (by rw [a.N]; exact hj) hij (by rw [a.sc]; exact hx) (by rw [a.sc]; exact hy) q (swB_ok a.bk (fun z => a.lc) hs) (by rw [swapsWithSole]; exact swaps_tup) fun ρ s xs s' h => by rw [evk_len es h, ql]; rfl).congr fun ρ s => by rw [exec]
theorem par3_ok {G : Cfg} {c : CC} {L : Addr} (a : AtS G c L n) (K : LkSG G T n p call) {i j l : Nat} {es : List IE} {x y z : Str} {px py pz pt p2 pos : Pos} {k k2 : Nat} {u v w : Expr} (h1 : ckEs T es c [u, v, w] = true) (h2 : plainArgs [u, v, w] = true)
    (hi : c.N[i]? = some x) (hj : c.N[j]? = some y) (hl : c.N[l]? = some z) (hij : i ≠ j) (hil : i ≠ l) (hjl : j ≠ l) (hx : c.sc.names.lookup x = some .local) (hy : c.sc.names.lookup y = some .local) (hz : c.sc.names.lookup z = some .local)
    (hs : swB (fun z => c.sc.names.lookup z == some .local) [.Name x px, .Name y py, .Name z pz] [u, v, w] = some (some [x, y, z])) :
    SS G (.Assign [.Tuple [.Name x px, .Name y py, .Name z pz] k pt] (.Tuple [u, v, w] k2 p2) pos) (exec p call (.par [i, j, l] es)) := by
  obtain ⟨q, ql⟩ := ckK_ok es a.toAt K.toLk h1 h2
  exact (ss_par3 a.ok.calm a.ok.nd (by rw [a.N]; exact hi) (by rw [a.N]; exact hj) (by rw [a.N]; exact hl) hij hil hjl (by rw [a.sc]; exact hx) (by rw [a.sc]; exact hy) (by rw [a.sc]; exact hz) q (swB_ok a.bk (fun z => a.lc) hs) (by rw [swapsWithSole]; exact swaps_tup) fun ρ s xs s' h => by rw [evk_len es h, ql]; rfl).congr fun ρ s => by rw [exec]
theorem iT_ok {G : Cfg} {c : CC} {L : Addr} {tg : Expr} (a : At G c L n) (K : LkG G T n p call) {it : IE} {e : Expr} (h : ckI T it c e = true) (ht : tokB it e = true) : SIT G tg e (evI p call it) := by
  unfold tokB at ht
  split at ht
  · rename_i f es
    unfold tokI at ht
    split at ht
    · rename_i x p1 xs p2
      split at ht
      · rename_i i j q hl
        have hlen : 2 ≤ xs.length := by simpa using ht
        rw [ckI] at h
        simp only [ckE, Bool.and_eq_true, beq_iff_eq] at h
        · obtain ⟨⟨⟨⟨h1, h2⟩, h3⟩, h4⟩, h5⟩ := h
          obtain ⟨ad, fd, ps, m1, m2, m3, m4, m5⟩ := K.fns _ _ _ h1
          have q1 := ckET_ok es a K h4 h5 hl
          have rm : Room (4 * n) G.X.A := a.room.mono (Nat.le_add_right _ _)
          cases xs with
          | nil => simp at hlen
          | cons y ys =>
            obtain ⟨e1, h6⟩ := star_cons (env := G.X.env) h5
            have := si_callT (tg := tg) (p := p1) (pos := p2) a.ok m4 rm (a.gl h2) m1 m2 m3 m5 q1 (ndB_ok h3).1 e1 (star_plain h6).1
            have e3 : evI p call (.it (.call f es)) = fun ρ s => ((evs p call es ρ s).bind fun ds s => call f ds s).bind fun x s => (ofO (items s x.1) s).bind fun xs s => .ok (xs, [x]) s := by
              funext ρ s
              rw [evI, ev]
            rw [e3]; exact this
      · cases ht
    · cases ht
  · cases ht
end
end RS
end S38
section S39
set_option autoImplicit false
set_option linter.all false
set_option maxRecDepth 100000
set_option Elab.async false
/-! E9: the checker of statements is right: whole. -/
namespace RS
open PySem PySem.Spec PyProof.Rows L2

section
variable {T : Tb} {n : Nat} {p : Prg} {call : Call}
theorem bad_ok {G : Cfg} {c : CC} {L : Addr} (a : AtS G c L n) (K : LkSG G T n p call) {v cl : Nat} {es : List IE} {bad : Str} {p1 p2 p3 p4 : Pos} {lams : List Expr} {t : Expr} {body rest : List Stmt} {r : List IS}
    (h1 : badB T c v cl bad lams.length t = true) (h2 : ckLs T c es lams = true) (hr : SSs G rest (execs p call r)) :
    SSs G (.Assign [.Name bad p1] (.List lams p2) p3 :: .If t body [] p4 :: rest) (execs p call (.bads v cl es :: r)) := by
  unfold badB at h1
  split at h1
  · rename_i elt f q1 bad' q2 x q3 f' q4 q5 ret j2 q6 q7 scope q8 q9 q10
    simp only [Bool.and_eq_true, beq_iff_eq, decide_eq_true_eq] at h1
    obtain ⟨⟨⟨⟨⟨⟨⟨⟨⟨⟨⟨⟨⟨⟨e1, e2⟩, e3⟩, e4⟩, e5⟩, e6⟩, e7⟩, e8⟩, e9⟩, e10⟩, e11⟩, e12⟩, e13⟩, e14⟩, e15⟩ := h1
    subst e1 e2 e3 e5
    obtain ⟨rfl, hrl⟩ := S_of e4
    have hn := a.store e9
    have B : BadOk G (4 * n + (c.lv - 2)) T.told f' bad' (S_ T.tret) T.tcls (c.N.idxOf f') v scope :=
      { told := K.told
        room := a.room.mono (by omega)
        ret := hrl
        blk := by rw [a.N, a.sc]; exact L2.blkOk_by e8
        nam := hn
        fl := e10
        gx := e11
        dx := (ndB_ok e12).1
        db := (ndB_ok e13).1
        cb := (ndB_ok e13).2
        df := (ndB_ok e14).1
        cf := (ndB_ok e14).2
        tab := a.lam e6 }
    refine (sss_bads a.ok B (ckLs_ok es a.toAt K.toLk h2) e15 (swaps_plain rfl) hr).congr fun ρ s => ?_
    rw [execs, exec, bad_eq]
    rfl
  · cases h1
mutual
theorem ckS_ok : ∀ (i : IS) {c : CC} {e : Stmt} {G : Cfg} {L : Addr}, AtS G c L n → LkSG G T n p call → ckS T i c e = true → SS G e (exec p call i)
  | .asg (.nm i) e, c, x, G, L, a, K, h => by
    unfold ckS at h
    split at h
    · simp only [Bool.and_eq_true] at h
      exact asg_ok a K h.1.1 h.1.2 h.2
    · cases h
  | .asg (.tp is) e, c, x, G, L, a, K, h => by
    unfold ckS at h
    split at h
    · simp only [Bool.and_eq_true] at h
      exact tup_ok a K h.1.1 h.1.2 h.2
    · cases h
  | .par is es, c, x, G, L, a, K, h => by
    unfold ckS at h
    split at h
    · simp only [Bool.and_eq_true] at h
      obtain ⟨⟨h1, h2⟩, h3⟩ := h
      split at h3
      · simp only [Bool.and_eq_true, beq_iff_eq, decide_eq_true_eq] at h3
        obtain ⟨⟨⟨⟨⟨i1, i2⟩, i3⟩, i4⟩, i5⟩, i6⟩ := h3
        exact par2_ok a K h1 h2 i1 i2 i3 i4 i5 i6
      · simp only [Bool.and_eq_true, beq_iff_eq, decide_eq_true_eq] at h3
        obtain ⟨⟨⟨⟨⟨⟨⟨⟨⟨i1, i2⟩, i3⟩, i4⟩, i5⟩, i6⟩, i7⟩, i8⟩, i9⟩, i10⟩ := h3
        exact par3_ok a K h1 h2 i1 i2 i3 i4 i5 i6 i7 i8 i9 i10
      · cases h3
    · cases h
  | .setI o i e, c, x, G, L, a, K, h => by
    unfold ckS at h
    split at h
    · simp only [Bool.and_eq_true] at h
      exact (ss_setI a.hu (ckE_ok e a.toAt K.toLk h.1.1) (ckE_ok o a.toAt K.toLk h.1.2) (ckE_ok i a.toAt K.toLk h.2) swaps_other).congr fun ρ s => by rw [exec] <;> rfl
    · cases h
  | .setV i ie e, c, x, G, L, a, K, h => by
    unfold ckS at h
    split at h
    · simp only [Bool.and_eq_true] at h
      obtain ⟨q1, q2, q3, q4⟩ := a.name h.1.1
      exact (ss_setV a.hu q1 q2 q3 q4 (ckE_ok e a.toAt K.toLk h.1.2) (ckE_ok ie a.toAt K.toLk h.2) swaps_other).congr fun ρ s => by rw [exec] <;> rfl
    · cases h
  | .aug i o e, c, x, G, L, a, K, h => by
    unfold ckS at h
    split at h
    · simp only [Bool.and_eq_true, beq_iff_eq] at h
      obtain ⟨⟨h1, h2⟩, h3⟩ := h
      subst h2
      exact (ss_aug a.ok.nd (a.store h1) (ckE_ok e a.toAt K.toLk h3)).congr fun ρ s => by rw [exec] <;> rfl
    · cases h
  | .app i e, c, x, G, L, a, K, h => by
    unfold ckS at h
    split at h
    · simp only [Bool.and_eq_true, beq_iff_eq] at h
      obtain ⟨⟨⟨⟨h0, h1⟩, h2⟩, h3⟩, h4⟩ := h
      subst h0
      obtain ⟨q1, q2, q3, q4⟩ := a.name h1
      exact (ss_app q1 q2 q3 q4 h2 (by simpa using h3) swaps_call (ckE_ok e a.toAt K.toLk h4)).congr fun ρ s => by rw [exec] <;> rfl
    · cases h
  | .upd i e, c, x, G, L, a, K, h => by
    unfold ckS at h
    split at h
    · simp only [Bool.and_eq_true, beq_iff_eq] at h
      obtain ⟨⟨⟨⟨h0, h1⟩, h2⟩, h3⟩, h4⟩ := h
      subst h0
      obtain ⟨q1, q2, q3, q4⟩ := a.name h1
      exact (ss_upd q1 q2 q3 q4 h2 (by simpa using h3) swaps_call (ckE_ok e a.toAt K.toLk h4)).congr fun ρ s => by rw [exec] <;> rfl
    · cases h
  | .expr e, c, x, G, L, a, K, h => by
    unfold ckS at h
    split at h
    · simp only [Bool.and_eq_true] at h
      exact (ss_expr (ckE_ok e a.toAt K.toLk h.2) (swaps_plain h.1)).congr fun ρ s => by rw [exec]
    · cases h
  | .ret e, c, x, G, L, a, K, h => by
    unfold ckS at h
    split at h
    · exact (ss_ret (ckE_ok e a.toAt K.toLk h)).congr fun ρ s => by rw [exec]
    · cases h
  | .retV i, c, x, G, L, a, K, h => by
    unfold ckS at h
    split at h
    · obtain ⟨q1, q2, q3, q4⟩ := a.name h
      exact (ss_retV q1 q2 q3 q4).congr fun ρ s => by rw [exec] <;> rfl
    · cases h
  | .ret0, c, x, G, L, a, K, h => by
    unfold ckS at h
    split at h
    · exact ss_ret0.congr fun ρ s => by rw [exec]
    · cases h
  | .ite t y z, c, x, G, L, a, K, h => by
    unfold ckS at h
    split at h
    · simp only [Bool.and_eq_true] at h
      exact (ss_ite (ckT_ok t a.toAt K.toLk h.1.1) (ckSs_ok y a K h.1.2) (ckSs_ok z a K h.2)).congr fun ρ s => by rw [exec]
    · cases h
  | .for_ tg it body, c, x, G, L, a, K, h => by
    unfold ckS at h
    split at h
    · simp only [Bool.and_eq_true] at h
      obtain ⟨⟨⟨h1, h2⟩, h3⟩, h4⟩ := h
      split at h4
      · rename_i ht
        have a' := a.tkd
        exact (ss_forT a.own a.ok.calm (iT_ok a.toAt K.toLk h1 ht) (tg_ok (c := c) (L := L) (n := n) ⟨a'.ok, a'.N, a'.sc, a'.fn, a'.room, fun _ => rfl, a'.gen⟩ h3) (ckSs_ok body a' K h4) (notSet_ok h2)).congr fun ρ s => by rw [exec]
      · exact (ss_for a.own a.ok.calm (ckI_ok it a.toAt K.toLk h1) (tg_ok a.toAt h3) (ckSs_ok body a K h4) (notSet_ok h2)).congr fun ρ s => by rw [exec]
    · cases h
  | .whl m t body, c, x, G, L, a, K, h => by
    unfold ckS at h
    split at h
    · simp only [Bool.and_eq_true] at h
      exact (ss_whl a.own (ckT_ok t a.toAt K.toLk h.1) (ckSs_ok body a K h.2)).congr fun ρ s => by rw [exec]
    · cases h
  | .raise cl, c, x, G, L, a, K, h => by
    unfold ckS at h
    split at h
    · simp only [Bool.and_eq_true, beq_iff_eq] at h
      exact raise_ok a K h.1.1 h.1.2 h.2
    · cases h
  | .pass, c, x, G, L, a, K, h => by
    unfold ckS at h
    split at h
    · exact ss_pass.congr fun ρ s => by rw [exec]
    · cases h
  | .brk, c, x, G, L, a, K, h => by
    unfold ckS at h
    split at h
    · exact ss_brk.congr fun ρ s => by rw [exec]
    · cases h
  | .cont, c, x, G, L, a, K, h => by
    unfold ckS at h
    split at h
    · exact ss_cont.congr fun ρ s => by rw [exec]
    · cases h
  | .frz _, c, x, G, L, a, K, h => by simp [ckS] at h
  | .bads _ _ _, c, x, G, L, a, K, h => by simp [ckS] at h
theorem ckSs_ok : ∀ (is : List IS) {c : CC} {xs : List Stmt} {G : Cfg} {L : Addr}, AtS G c L n → LkSG G T n p call → ckSs T is c xs = true → SSs G xs (execs p call is)
  | [], c, xs, G, L, a, K, h => by
    have e : xs = [] := by simpa [ckSs] using h
    subst e
    exact sss_nil.congr fun ρ s => by rw [execs]
  | i :: r, c, xs, G, L, a, K, h => by
    unfold ckSs at h
    split at h
    · rename_i e; cases e
    · rename_i vs r' e
      cases e
      refine (frz_ok vs (ckSs_ok r a K h)).congr fun ρ s => ?_
      rw [execs, exec]
      rfl
    · rename_i v cl es r' e
      cases e
      split at h
      · simp only [Bool.and_eq_true] at h
        exact bad_ok a K h.1.1 h.1.2 (ckSs_ok r a K h.2)
      · cases h
    · rename_i i' r' _ _ e
      cases e
      split at h
      · simp only [Bool.and_eq_true] at h
        refine (sss_cons (ckS_ok i a K h.1) (ckSs_ok r a K h.2)).congr fun ρ s => ?_
        rw [execs] <;> rfl
      · cases h
end
end
end RS
end S39
section S40
set_option autoImplicit false
set_option linter.all false
set_option maxRecDepth 100000
set_option Elab.async false
/-! F1: the defs of a text, by induction over the fuel. -/
namespace RS
open PySem PySem.Spec PyProof.Rows L2

/-- a def of the text -/
structure Ent where
  x : Str
  st : Stmt
  N : List Str
  fd : Fn
  gen : Bool := false
  lam : Bool := false
def Ent.ps (e : Ent) : List Str := (defArgs e.st).args.map (·.arg)
def Ent.cc (e : Ent) : CC := { N := e.N, sc := defScope e.st, fn := fun _ => true, lv := 3, tk := false, gen := e.gen, lam := e.lam }
def fnScB (N P : List Str) (sc : Scope) : Bool :=
  sc.kind == .function && !sc.isCoroutine && !sc.isGenerator && decide N.Nodup && decide (N.take P.length = P) && P.all (fun x => sc.names.lookup x == some NameKind.local || sc.names.lookup x == some NameKind.cell) && sc.names.all (fun y => !(y.2 == NameKind.free))
theorem fnSc_ok {N P : List Str} {sc : Scope} (h : fnScB N P sc = true) : FnScope N P sc := by
  unfold fnScB at h
  simp only [Bool.and_eq_true, beq_iff_eq, Bool.not_eq_true', decide_eq_true_eq, List.all_eq_true, Bool.or_eq_true, beq_eq_false_iff_ne] at h
  obtain ⟨⟨⟨⟨⟨⟨h1, h2⟩, h3⟩, h4⟩, h5⟩, h6⟩, h7⟩ := h
  exact ⟨h1, h2, h3, h4, h5, h6, h7⟩
def Ent.ok (T : Tb) (e : Ent) : Bool := fnScB e.N e.ps (defScope e.st) && e.fd.ns == e.N.length && e.fd.np == e.ps.length && ckSs T e.fd.body e.cc (defBody e.st)
def lamQ (x : Str) : Str := (envOfC x (defScope (.Pass ⟨0, 0, 0, 0⟩)) 0 0 .none).qual ++ "<lambda>"
abbrev Ent.FnP (K : PySem.W.Frag) (e : Ent) (f : Addr) (fd : FuncData) : Prop := FunD K e.x e.x (defArgs e.st) (defBody e.st) (defScope e.st) [] [] f fd
/-- its binding, by the shape of its parameters -/
def Ent.Bd (e : Ent) : Prop := ∀ (kV doc pm : Value) (an : Option Addr) (cdv ct : Value) (us : List Value), us.length = e.ps.length → bindArgs (PySem.W.fnOf e.x e.x (defArgs e.st) (defBody e.st) (defScope e.st) .none kV doc pm an cdv ct) ⟨us, []⟩ = pure (e.ps.zip us)
/-- where the code tables stand -/
structure Cod (K : PySem.W.Frag) (mg : Str → Option Value) (base : Heap) (J : Inf) (e : Ent) : Prop where
  gen : e.gen = true → GxR.TabB base mg (He.cT K (e.x, none)).1 (He.cT K (e.x, none)).2 ∧ (He.cT K (e.x, none)).2 ∈ J.TG ∧ ∀ q ∈ J.TL, q.1 ≠ (He.cT K (e.x, none)).2
  lam : e.lam = true → LamX.TabB base mg (He.cT K (e.x, none)).1 (He.cT K (e.x, none)).2 ∧ ((He.cT K (e.x, none)).2, lamQ e.x) ∈ J.TL ∧ ∀ q ∈ J.TL, q.1 = (He.cT K (e.x, none)).2 → q.2 = lamQ e.x
/-- the text's table fits its defs -/
structure TbOk (T : Tb) (p : Prg) (es : List Ent) : Prop where
  fns : ∀ x f np, T.fns.lookup x = some (f, np) → ∃ e ∈ es, e.x = x ∧ e.fd.np = np ∧ p.fn f = some e.fd
  ok : ∀ e ∈ es, e.ok T = true
  bd : ∀ e ∈ es, e.Bd
/-- what the top has left -/
structure Top (K : PySem.W.Frag) (mg : Str → Option Value) (J : Inf) (T : Tb) (p : Prg) (es : List Ent) : Prop where
  fn : ∀ e ∈ es, mg e.x = some (.ref (He.fAd K (e.x, none))) ∧ ∃ fd, e.FnP K (He.fAd K (e.x, none)) fd
  gls : ∀ x g, T.gls.lookup x = some g → ∃ (u : Value) (v : V), mg x = some u ∧ RelV v u ∧ ∀ E, Rep K E (p.con g) v
  blt : (∀ b, mg (biName b) = none) ∧ mg "range" = none ∧ mg "any" = none ∧ mg "all" = none
  exc : ∀ x cl, T.cls.lookup x = some cl → ∃ B newId initId bmB, ExcBaseFacts B newId initId bmB ∧ PySem.W.excIn K (J.ca cl) bmB newId = true ∧ mg x = some (.ref (J.ca cl)) ∧ PySem.W.keepIn K (.ref (J.ca cl)) = true ∧
    PySem.W.subIn K (.ref (J.ca cl)) (.type "BaseException") = some true ∧ PySem.W.typeIn K (.ref (J.ca cl)) = some (.type "type")
  told : ∃ g, Told K mg J T.told T.tcls (S_ T.tret) g
section
variable {P : Program} {w : World} {K : PySem.W.Frag} {mg : Str → Option Value} {base : Heap} {J : Inf} {T : Tb} {p : Prg} {es : List Ent}
theorem binds_of {e : Ent} {f : Addr} {fd : FuncData} (F : e.FnP K f fd) (b : e.Bd) : L2.Binds K fd e.ps [] := F.bindsN b
theorem body0_len {call : Call} {fd : Fn} {ds : List D} {s : Sto} (h : ds.length ≠ fd.np) : body0 p call fd ds s = .no := by
  unfold body0
  rw [if_neg h]
theorem def_step (to : TbOk T p es) (tp : Top K mg J T p es) (cod : ∀ e ∈ es, Cod K mg base J e) {n : Nat} {call : Call} (L : LkS P w K mg base J T n p call) {e : Ent} (he : e ∈ es) {fd : FuncData} (F : e.FnP K (He.fAd K (e.x, none)) fd) :
    FnOk P w K mg base (L2.CX P w) (4 * (n + 1)) (He.fAd K (e.x, none)) fd e.ps (spF K J e.fd.np (body0 p call e.fd)) := by
  have ho := to.ok e he
  unfold Ent.ok at ho
  simp only [Bool.and_eq_true, beq_iff_eq] at ho
  obtain ⟨⟨⟨h1, h2⟩, h3⟩, h4⟩ := ho
  have S := fnSc_ok h1
  obtain ⟨oc, od, dV, kV, doc, pm, an, cdv, ct, osl, rfl, lk, hcd, _, _⟩ := F.ex
  refine fn_body (k := 4 * n + 3) lk hcd S h2 h3 fun A outer s E₀ E hr ok => ?_
  obtain ⟨c0, ec⟩ := He.codeIn_ref hcd
  subst ec
  have ecT : (He.cT K (e.x, none)).1 = c0 := He.codeOf_eq lk rfl
  refine ckSs_ok e.fd.body (c := e.cc) (L := s.heap.objs.size) (n := n) ?_ L h4
  exact {
    ok := ok
    N := rfl
    sc := rfl
    fn := fun _ _ => rfl
    room := hr
    tk := fun h => by cases h
    gen := fun h => by
      obtain ⟨t, m1, m2⟩ := (cod e he).gen h
      exact ⟨c0, (He.cT K (e.x, none)).2, ⟨by rw [ecT] at t; exact t, rfl, m1, m2⟩⟩
    own := passes_of (X := cxOf (L2.CX P w) P w K mg base e.N e.x (defScope e.st) (He.fAd K (e.x, none)) (.ref c0) A outer s E₀.H E) rfl
    takes := takes_of (X := cxOf (L2.CX P w) P w K mg base e.N e.x (defScope e.st) (He.fAd K (e.x, none)) (.ref c0) A outer s E₀.H E) (E := E) rfl rfl rfl rfl
    kind := S.kind
    lam := fun h => by
      obtain ⟨t, m1, m2⟩ := (cod e he).lam h
      exact ⟨c0, (He.cT K (e.x, none)).2, ⟨by rw [ecT] at t; exact t, rfl, m1, m2⟩⟩ }
theorem fn_none {f : Addr} {fd : FuncData} {ps : List Str} {np k : Nat} {mc : List D → Sto → R (D × Kd)} (h : ∀ ds s, mc ds s = .no) : FnOk P w K mg base (L2.CX P w) k f fd ps (spF K J np mc) := by
  have no : ∀ vs H Q E, ¬ spF K J np mc vs H Q E := fun vs H Q E ⟨_, E₀, ds, st, _, _, _, q⟩ => by
    rw [h] at q
    exact q
  exact ⟨fun vs H Q E h => absurd h (no vs H Q E), fun A outer s H args us vs Q E _ _ _ _ h => absurd h (no vs H Q E)⟩
/-- all names mean what the little language says -/
theorem lks_ok (to : TbOk T p es) (tp : Top K mg J T p es) (cod : ∀ e ∈ es, Cod K mg base J e) : ∀ n : Nat, LkS P w K mg base J T n p (run p n)
  | 0 => { fns := fun x f np h => by
             obtain ⟨e, he, e1, e2, e3⟩ := to.fns x f np h
             obtain ⟨m, fd, F⟩ := tp.fn e he
             exact ⟨_, fd, e.ps, by rw [← e1]; exact m, F.kp, binds_of F (to.bd e he), fn_none fun _ _ => rfl, fun _ _ _ => rfl⟩
           gls := tp.gls
           blt := tp.blt
           exc := tp.exc
           told := tp.told }
  | n + 1 => { fns := fun x f np h => by
                 obtain ⟨e, he, e1, e2, e3⟩ := to.fns x f np h
                 obtain ⟨m, fd, F⟩ := tp.fn e he
                 have er : run p (n + 1) f = body0 p (run p n) e.fd := by
                   funext ds s
                   show (match p.fn f with | some fd => body0 p (run p n) fd ds s | none => .no) = _
                   rw [e3]
                 refine ⟨_, fd, e.ps, by rw [← e1]; exact m, F.kp, binds_of F (to.bd e he), ?_, fun ds s hl => ?_⟩
                 · rw [er, ← e2]
                   exact def_step to tp cod (lks_ok to tp cod n) he F
                 · rw [er]
                   exact body0_len (by rw [e2]; exact hl)
               gls := tp.gls
               blt := tp.blt
               exc := tp.exc
               told := tp.told }
end
end RS
end S40
section S41
set_option autoImplicit false
set_option linter.all false
set_option maxRecDepth 100000
set_option Elab.async false
/-! F2: a text, what its top has left, its law's promise. -/
namespace RS
open PySem PySem.Spec PyProof.Rows L2

/-! ### the def that tells -/
def toldB (T : Tb) (st : Stmt) : Bool := match defArgs st, defBody st with
  | ⟨[], [ar], none, [], [], none, []⟩, [.Try [.Return (some (.Call (.Name a _) [] [] _)) _] [.ExceptHandler (some (.Name e _)) none [.Return (some (.Constant (.str ret) _ _)) _] _] [] [] _] =>
    a == ar.arg && strB T.tret ret && T.cls.lookup e == some T.tcls && fnScB [a] [a] (defScope st) && visB (defScope st) a && (defScope st).names.lookup e == some NameKind.globalImplicit && ndB e && ndB a
  | _, _ => false
section
variable {K : PySem.W.Frag} {mg : Str → Option Value} {J : Inf} {T : Tb}
theorem told_of {e : Ent} {g : Addr} {fd : FuncData} (h : toldB T e.st = true) (hx : e.x = T.told) (F : e.FnP K g fd) (b : e.Bd) (hm : mg T.told = some (.ref g)) (hc : ∀ x cl, T.cls.lookup x = some cl → mg x = some (.ref (J.ca cl)))
    (exm : PySem.W.exmOne K (.ref (J.ca T.tcls)) (.ref (J.ca T.tcls)) = some true) : Told K mg J T.told T.tcls (S_ T.tret) g := by
  refine ⟨hm, F.kp, ?_, exm⟩
  have bb := binds_of F b
  obtain ⟨oc, od, dV, kV, doc, pm, an, cdv, ct, osl, efd, lk, hcd, _, _⟩ := F.ex
  subst efd
  unfold toldB at h
  split at h
  · rename_i ar a p1 p2 p3 x p4 ret j p5 p6 p7 p8 ea eb
    simp only [Bool.and_eq_true, beq_iff_eq] at h
    obtain ⟨⟨⟨⟨⟨⟨⟨h1, h2⟩, h3⟩, h4⟩, h5⟩, h6⟩, h7⟩, h8⟩ := h
    obtain ⟨rfl, hl⟩ := S_of h2
    have eps : e.ps = [a] := by
      unfold Ent.ps
      rw [ea, h1]
      rfl
    rw [eps] at bb
    rw [eb, hx] at bb
    rw [eb, hx] at lk
    rw [hx] at hcd
    exact ⟨oc, od, defArgs e.st, defScope e.st, dV, kV, doc, pm, cdv, ct, an, osl, [a], a, x, j, p1, p2, p3, p4, p5, p6, p7, p8, lk, hcd, bb, fnSc_ok h4, rfl, visB_ok h5, h6, hc _ _ h3, (ndB_ok h7).1, (ndB_ok h8).1, (ndB_ok h8).2⟩
  · cases h
end

/-! ### constants -/
mutual
def conV (K : PySem.W.Frag) : D → Value → Bool
  | .non, u => match u with
    | .none => true
    | _ => false
  | .bl b, u => match u with
    | .bool c => b == c
    | _ => false
  | .int i, u => match u with
    | .int j _ => decide (i = j)
    | _ => false
  | .str s, u => match u with
    | .str z _ => strB s z
    | _ => false
  | .tup xs, u => match u with
    | .ref a => match K.lookup a with
      | some ⟨.type c, _, .seq its _, _⟩ => decide (c = "tuple") && decide (its.size ≤ sizeLine) && conA K xs its.toList
      | _ => false
    | _ => false
  | .lst _, _ => false
  | .dct _, _ => false
  | .loc _, _ => false
  | .lam _, _ => false
  | .scr _, _ => false
def conA (K : PySem.W.Frag) : List D → List Value → Bool
  | [], us => us.isEmpty
  | x :: xs, us => match us with
    | u :: us => conV K x u && conA K xs us
    | [] => false
end
mutual
theorem conV_ok {K : PySem.W.Frag} : ∀ {d : D} {u : Value}, conV K d u = true → ∃ v, RelV v u ∧ ∀ E, Rep K E d v
  | .non, u, h => by
    unfold conV at h
    split at h
    · exact ⟨.non, rfl, fun E => rep_non.mpr rfl⟩
    · cases h
  | .bl b, u, h => by
    unfold conV at h
    split at h
    · rename_i c
      have e : b = c := by simpa using h
      exact ⟨.bl b, by rw [e]; rfl, fun E => rep_bl.mpr rfl⟩
    · cases h
  | .int i, u, h => by
    unfold conV at h
    split at h
    · rename_i j t
      have e : i = j := of_decide_eq_true h
      exact ⟨.int i, ⟨t, by rw [e]⟩, fun E => rep_int.mpr rfl⟩
    · cases h
  | .str s, u, h => by
    unfold conV at h
    split at h
    · rename_i z t
      obtain ⟨rfl, hl⟩ := S_of h
      exact ⟨.str (S_ s), ⟨t, rfl⟩, fun E => rep_str.mpr ⟨rfl, hl⟩⟩
    · cases h
  | .tup xs, u, h => by
    unfold conV at h
    split at h
    · rename_i a
      split at h
      · rename_i c dd its n sl q
        simp only [Bool.and_eq_true, decide_eq_true_eq] at h
        obtain ⟨⟨h1, h2⟩, h3⟩ := h
        obtain ⟨vs, rv, hr⟩ := conA_ok h3
        exact ⟨.ref a, rfl, fun E => rep_tup.mpr ⟨a, vs, rfl, .inr ⟨_, its, n, q, by rw [h1], rfl, h2, rv⟩, hr E⟩⟩
      · cases h
    · cases h
  | .lst _, _, h => by unfold conV at h; cases h
  | .dct _, _, h => by unfold conV at h; cases h
  | .loc _, _, h => by unfold conV at h; cases h
  | .lam _, _, h => by unfold conV at h; cases h
  | .scr _, _, h => by unfold conV at h; cases h
theorem conA_ok {K : PySem.W.Frag} : ∀ {ds : List D} {us : List Value}, conA K ds us = true → ∃ vs, Vals vs us ∧ ∀ E, RepA K E ds vs
  | [], us, h => by
    unfold conA at h
    have e : us = [] := by simpa using h
    subst e
    exact ⟨[], .nil, fun E => by rw [RepA]⟩
  | x :: xs, us, h => by
    unfold conA at h
    split at h
    · simp only [Bool.and_eq_true] at h
      obtain ⟨v, r, hv⟩ := conV_ok h.1
      obtain ⟨vs, rs, hvs⟩ := conA_ok h.2
      exact ⟨v :: vs, .cons r rs, fun E => by rw [RepA]; exact ⟨v, vs, rfl, hv E, hvs E⟩⟩
    · cases h
end
def conG (K : PySem.W.Frag) (x : Str) (d : D) : Bool := match PySem.W.nsIn K mainGlobals x with
  | some (some u) => conV K d u
  | _ => false

/-! ### a text -/
structure Txt where
  es : List Ent
  told : Ent
  gls : List (Str × D)
  cls : List (Str × Nat)
  tcls : Nat
  tret : List Nat
namespace Txt
variable (t : Txt)
def fnsOf : Nat → List Ent → List (Str × Nat × Nat)
  | _, [] => []
  | i, e :: r => (e.x, i, e.fd.np) :: fnsOf (i + 1) r
def glsOf : Nat → List (Str × D) → List (Str × Nat)
  | _, [] => []
  | i, e :: r => (e.1, i) :: glsOf (i + 1) r
def T : Tb := ⟨fnsOf 0 t.es, glsOf 0 t.gls, t.cls, t.told.x, t.tcls, t.tret⟩
def p : Prg := ⟨fun f => (t.es[f]?).map (·.fd), fun g => ((t.gls[g]?).map (·.2)).getD .non⟩
def cn (c : Nat) : Str := ((t.cls.find? fun q => q.2 == c).map (·.1)).getD Str.empty
def blts : List Str := ["len", "abs", "int", "str", "list", "tuple", "dict", "sorted", "sum", "min", "max", "range", "any", "all"]
def fa : List He.Fa := t.es.map (fun e => .glo e.x) ++ ([.glo t.told.x, .exm (t.cn t.tcls) (t.cn t.tcls) true] ++ (blts.map .free ++ (t.cls.map (fun q => .glo q.1) ++ t.cls.map fun q => .exc q.1)))
def dd (e : Ent) : He.DefD := ⟨(e.x, none), e.x, e.x, defArgs e.st, defBody e.st, defScope e.st, [], []⟩
def fn : List He.DefD := (t.told :: t.es).map dd
def tf : List He.Defn := (t.es.filter fun e => e.gen || e.lam).map fun e => (e.x, none)
def ex (K : PySem.W.Frag) : Bool := (t.gls.all fun q => conG K q.1 q.2) && decide ((t.tf.map fun p => (He.cT K p).2).Nodup)
def jOf (K : PySem.W.Frag) : Inf := ⟨fun c => He.ga K (t.cn c), (t.es.filter (·.gen)).map (fun e => (He.cT K (e.x, none)).2), (t.es.filter (·.lam)).map fun e => ((He.cT K (e.x, none)).2, lamQ e.x)⟩
def ok : Bool := t.es.all (fun e => e.ok t.T && !(e.gen && e.lam)) && decide (t.es.map (·.x)).Nodup && t.cls.all (fun q => t.cn q.2 == q.1) && toldB t.T t.told.st
end Txt
section
variable {t : Txt}
theorem fnsOf_get : ∀ {es : List Ent} {i : Nat} {x : Str} {f np : Nat}, (x, f, np) ∈ Txt.fnsOf i es → ∃ j e, es[j]? = some e ∧ f = i + j ∧ e.x = x ∧ e.fd.np = np
  | [], i, x, f, np, h => by cases h
  | e :: r, i, x, f, np, h => by
    rw [Txt.fnsOf] at h
    rcases List.mem_cons.mp h with h | h
    · cases h
      exact ⟨0, e, rfl, rfl, rfl, rfl⟩
    · obtain ⟨j, e', h1, h2, h3, h4⟩ := fnsOf_get h
      exact ⟨j + 1, e', by simpa using h1, by omega, h3, h4⟩
theorem glsOf_get : ∀ {es : List (Str × D)} {i : Nat} {x : Str} {g : Nat}, (x, g) ∈ Txt.glsOf i es → ∃ j e, es[j]? = some e ∧ g = i + j ∧ e.1 = x
  | [], i, x, g, h => by cases h
  | e :: r, i, x, g, h => by
    rw [Txt.glsOf] at h
    rcases List.mem_cons.mp h with h | h
    · cases h
      exact ⟨0, e, rfl, rfl, rfl⟩
    · obtain ⟨j, e', h1, h2, h3⟩ := glsOf_get h
      exact ⟨j + 1, e', by simpa using h1, by omega, h3⟩
theorem Txt.tbOk (h : t.ok = true) (bd : ∀ e ∈ t.es, e.Bd) : TbOk t.T t.p t.es := by
  unfold Txt.ok at h
  simp only [Bool.and_eq_true, List.all_eq_true] at h
  obtain ⟨⟨⟨h1, h2⟩, h3⟩, h4⟩ := h
  refine ⟨fun x f np h => ?_, fun e he => (h1 e he).1, bd⟩
  obtain ⟨j, e, e1, e2, e3, e4⟩ := fnsOf_get (PySem.mem_of_lookup h)
  have e2 : f = j := by omega
  subst e2
  exact ⟨e, List.mem_of_getElem? e1, e3, e4, by show (t.es[f]?).map _ = _; rw [e1]; rfl⟩
variable {K : PySem.W.Frag} {mg : Str → Option Value} {w : World} {h : Heap}
theorem Txt.top (ho : t.ok = true) (bd : t.told.Bd) (X : K.In h) (G : h.Ns mainGlobals mg) (c : He.SaysX t.fa t.fn [] t.tf t.ex w h K) : Top K mg (t.jOf K) t.T t.p t.es := by
  unfold Txt.ok at ho
  simp only [Bool.and_eq_true, List.all_eq_true] at ho
  obtain ⟨⟨⟨h1, h2⟩, h3⟩, h4⟩ := ho
  have cd := c.t.d
  have more := c.more
  unfold Txt.ex at more
  simp only [Bool.and_eq_true, List.all_eq_true] at more
  have glo : ∀ x, He.Fa.glo x ∈ t.fa → mg x = some (.ref (He.ga K x)) := fun x hx => He.glo_ok X G (cd.facts hx)
  have free : ∀ x, x ∈ Txt.blts → mg x = none := fun x hx => He.free_ok X G (cd.facts (by
    unfold Txt.fa
    exact List.mem_append_right _ (List.mem_append_right _ (List.mem_append_left _ (List.mem_map.mpr ⟨x, hx, rfl⟩)))))
  have hcls : ∀ x cl, t.T.cls.lookup x = some cl → mg x = some (.ref ((t.jOf K).ca cl)) ∧ (x, cl) ∈ t.cls ∧ t.cn cl = x := fun x cl hl => by
    have hm : (x, cl) ∈ t.cls := PySem.mem_of_lookup hl
    have e : t.cn cl = x := by simpa using h3 _ hm
    refine ⟨?_, hm, e⟩
    show mg x = some (.ref (He.ga K (t.cn cl)))
    rw [e]
    refine glo x ?_
    unfold Txt.fa
    exact List.mem_append_right _ (List.mem_append_right _ (List.mem_append_right _ (List.mem_append_left _ (List.mem_map.mpr ⟨_, hm, rfl⟩))))
  refine ⟨fun e he => ⟨glo _ ?_, ?_⟩, fun x g hl => ?_, ⟨fun b => ?_, free _ (by decide), free _ (by decide), free _ (by decide)⟩, fun x cl hl => ?_, ?_⟩
  · unfold Txt.fa
    exact List.mem_append_left _ (List.mem_map.mpr ⟨e, he, rfl⟩)
  · exact cd.defs (d := Txt.dd e) (List.mem_map.mpr ⟨e, List.mem_cons_of_mem _ he, rfl⟩)
  · obtain ⟨j, q, e1, e2, e3⟩ := glsOf_get (PySem.mem_of_lookup hl)
    have e2 : g = j := by omega
    subst e2
    have := more.1 q (List.mem_of_getElem? e1)
    unfold conG at this
    split at this
    · rename_i u hu
      obtain ⟨v, r, hv⟩ := conV_ok this
      refine ⟨u, v, by rw [← e3]; exact PySem.W.mg_of X G hu, r, fun E => ?_⟩
      show Rep K E (((t.gls[g]?).map (·.2)).getD .non) v
      rw [e1]
      exact hv E
    · cases this
  · cases b <;> exact free _ (by decide)
  · obtain ⟨m, hm, e⟩ := hcls x cl hl
    have e2 : (t.jOf K).ca cl = He.ga K x := by
      show He.ga K (t.cn cl) = _
      rw [e]
    obtain ⟨q1, q2, q3, q4⟩ := He.exc_ok (cd.facts (f := .exc x) (by
      unfold Txt.fa
      exact List.mem_append_right _ (List.mem_append_right _ (List.mem_append_right _ (List.mem_append_right _ (List.mem_map.mpr ⟨_, hm, rfl⟩))))))
    rw [e2]
    exact ⟨_, _, _, _, PySem.F.excBase_ValueError, q1, by rw [← e2]; exact m, q2, q3, q4⟩
  · obtain ⟨fd, F⟩ := cd.defs (d := Txt.dd t.told) (List.mem_map.mpr ⟨t.told, List.mem_cons_self, rfl⟩)
    refine ⟨_, told_of (e := t.told) h4 rfl F bd (glo _ ?_) (fun x cl hl => (hcls x cl hl).1) (He.exm_ok (cd.facts (f := .exm (t.cn t.tcls) (t.cn t.tcls) true) ?_))⟩
    · unfold Txt.fa
      exact List.mem_append_right _ (List.mem_append_left _ (List.mem_cons_self))
    · unfold Txt.fa
      exact List.mem_append_right _ (List.mem_append_left _ (List.mem_cons_of_mem _ List.mem_cons_self))
end
end RS
end S41
section S42
set_option autoImplicit false
set_option linter.all false
set_option maxRecDepth 100000
set_option Elab.async false
/-! F3: the law's promise, the end. -/
namespace RS
open PySem PySem.Spec PyProof.Rows L2

theorem Ent.bd_of {e : Ent} {ps : List Str} (h : e.ps = ps) (b : ∀ (kV doc pm : Value) (an : Option Addr) (cdv ct : Value) (us : List Value), us.length = ps.length → bindArgs (PySem.W.fnOf e.x e.x (defArgs e.st) (defBody e.st) (defScope e.st) .none kV doc pm an cdv ct) ⟨us, []⟩ = pure (ps.zip us)) : e.Bd := by
  intro kV doc pm an cdv ct us hl
  rw [h] at hl ⊢
  exact b kV doc pm an cdv ct us hl
theorem nodup_inj {α β : Type} {f : α → β} : ∀ {l : List α} {a b : α}, (l.map f).Nodup → a ∈ l → b ∈ l → f a = f b → a = b
  | [], a, b, _, ha, _, _ => by cases ha
  | x :: l, a, b, h, ha, hb, e => by
    rw [List.map_cons, List.nodup_cons] at h
    rcases List.mem_cons.mp ha with ha' | ha'
    · rcases List.mem_cons.mp hb with hb' | hb'
      · rw [ha', hb']
      · rw [ha'] at e
        exact absurd (show f x ∈ l.map f by rw [e]; exact List.mem_map.mpr ⟨b, hb', rfl⟩) h.1
    · rcases List.mem_cons.mp hb with hb' | hb'
      · rw [hb'] at e
        exact absurd (show f x ∈ l.map f by rw [← e]; exact List.mem_map.mpr ⟨a, ha', rfl⟩) h.1
      · exact nodup_inj h.2 ha' hb' e
section
variable {t : Txt} {K : PySem.W.Frag} {mg : Str → Option Value} {w : World} {h base : Heap}
theorem Txt.cod (ho : t.ok = true) (c : He.SaysX t.fa t.fn [] t.tf t.ex w h K) (TB : ∀ q ∈ t.tf.map (He.cT K), LamX.TabB base mg q.1 q.2) : ∀ e ∈ t.es, Cod K mg base (t.jOf K) e := fun e he => by
  unfold Txt.ok at ho
  simp only [Bool.and_eq_true, List.all_eq_true, decide_eq_true_eq, Bool.not_eq_true'] at ho
  obtain ⟨⟨⟨h1, h2⟩, h3⟩, h4⟩ := ho
  have more := c.more
  unfold Txt.ex at more
  simp only [Bool.and_eq_true, decide_eq_true_eq] at more
  have nd := more.2
  have mem : ∀ e' ∈ t.es, (e'.gen || e'.lam) = true → ((e'.x, none) : He.Defn) ∈ t.tf := fun e' h' hh => List.mem_map.mpr ⟨e', List.mem_filter.mpr ⟨h', hh⟩, rfl⟩
  have inj : ∀ e' ∈ t.es, (e'.gen || e'.lam) = true → (e.gen || e.lam) = true → (He.cT K (e'.x, none)).2 = (He.cT K (e.x, none)).2 → e' = e := fun e' h' hh hh2 eq => by
    have := nodup_inj nd (mem e' h' hh) (mem e he hh2) eq
    injection this with ex _
    exact nodup_inj h2 h' he ex
  refine ⟨fun hg => ?_, fun hl => ?_⟩
  · have tb := TB _ (List.mem_map.mpr ⟨_, mem e he (by rw [hg]; rfl), rfl⟩)
    refine ⟨⟨tb.code, tb.bm, tb.gP⟩, List.mem_map.mpr ⟨e, List.mem_filter.mpr ⟨he, hg⟩, rfl⟩, fun q hq eq => ?_⟩
    obtain ⟨e', h', rfl⟩ := List.mem_map.mp hq
    obtain ⟨m', l'⟩ := List.mem_filter.mp h'
    have := inj e' m' (by rw [l', Bool.or_true]) (by rw [hg]; rfl) eq
    subst this
    have z := (h1 e' he).2
    rw [hg, l'] at z
    cases z
  · have tb := TB _ (List.mem_map.mpr ⟨_, mem e he (by rw [hl, Bool.or_true]), rfl⟩)
    refine ⟨tb, List.mem_map.mpr ⟨e, List.mem_filter.mpr ⟨he, hl⟩, rfl⟩, fun q hq eq => ?_⟩
    obtain ⟨e', h', rfl⟩ := List.mem_map.mp hq
    obtain ⟨m', l'⟩ := List.mem_filter.mp h'
    have := inj e' m' (by rw [l', Bool.or_true]) (by rw [hl, Bool.or_true]) eq
    subst this
    rfl
/-- the script, as data -/
def dScr (ns : List Int) : D := .scr (ns.map .int)
def dLst (ns : List Int) : D := .lst (ns.map .int)
theorem repA_ints {E : WS} : ∀ (ns : List Int), RepA K E (ns.map .int) (ns.map V.int)
  | [] => by rw [List.map_nil, RepA]; rfl
  | n :: ns => by
    rw [List.map_cons, RepA]
    exact ⟨.int n, ns.map V.int, rfl, rep_int.mpr rfl, repA_ints ns⟩
theorem start_ok {J : Inf} {H : Hp} {a : Addr} {ns : List Int} (hS : SqL K H a (ns.map V.int)) (hg : ∀ P ∈ J.TG, H P = some (.tbl #[])) (hl : ∀ q ∈ J.TL, H q.1 = some (.tbl #[])) :
    ∃ (E₀ : WS) (d : D), E₀.H = H ∧ (d = dScr ns ∨ d = dLst ns) ∧ WSOk K J E₀ [] ∧ Rep K E₀ d (.ref a) := by
  have tg : ∀ P ∈ J.TG, GxR.TabG H P := fun P hP => ⟨#[], hg P hP, True.intro⟩
  have tl : LamX.Tabs J.TL H := fun q hq => LamX.TabS.nil (hl q hq)
  rcases sqL_cases hS with hS | hS
  · refine ⟨⟨H, fun b => b = a, []⟩, dLst ns, rfl, .inr rfl, ⟨rfl, List.nodup_nil, fun n c b h1 _ => (by cases h1), fun b hb => (by cases hb), fun b hb => ?_, tg, tl⟩, rep_lst.mpr ⟨a, _, rfl, rfl, hS, repA_ints ns⟩⟩
    have hb : b = a := hb
    subst hb
    exact ⟨_, hS, nt_lst⟩
  · exact ⟨⟨H, fun _ => False, []⟩, dScr ns, rfl, .inl rfl, ⟨rfl, List.nodup_nil, fun n c b h1 _ => (by cases h1), fun b hb => (by cases hb), fun b hb => False.elim hb, tg, tl⟩, rep_scr.mpr ⟨a, _, rfl, hS, repA_ints ns⟩⟩
theorem rep_true {E₀ E : WS} {k : Kd} {v : V} (r : RepR K E₀ E (.bl true) k v) : v = .bl true := by
  cases k with
  | fz => exact (rep_bl (K := K) (E := E)).mp r
  | bo => obtain ⟨a, _, h, _⟩ := r; exact h.elim
  | fr =>
    have r : if isMut (.bl true) = true then ∃ a, v = .ref a ∧ Fresh K E₀ E (.bl true) a else Rep K E (.bl true) v := r
    rw [if_neg (by decide)] at r
    exact (rep_bl (K := K) (E := E)).mp r
/-- the law's promise where the top ends -/
theorem Txt.lawAt {l : PySem.W.OpenLaw} {n N f : Nat} {x : Str} {e : Ent} {fAddr : Addr} (ho : t.ok = true) (bd : ∀ e ∈ t.told :: t.es, e.Bd) (X : K.In h) (G : h.Ns mainGlobals mg) (c : He.SaysX t.fa t.fn [] t.tf t.ex w h K)
    (he : t.es[f]? = some e) (hps : e.ps = [x]) (hnp : e.fd.np = 1) (hfa : mg e.x = some (.ref fAddr))
    (hrun : ∀ ns : List Int, ns.length ≤ n → (∀ z ∈ ns, Builtin.Int.intBits z ≤ 1048576) → ∀ d, (d = dScr ns ∨ d = dLst ns) → ∃ k st, run t.p (N + 1) f [d] [] = .ok (.bl true, k) st) :
    LamX.LawAtS l w K (L2.CX l.prog w) (4 * (N + 1)) n x mg fAddr h := by
  have hm : e ∈ t.es := List.mem_of_getElem? he
  have to := Txt.tbOk ho fun e he => bd e (List.mem_cons_of_mem _ he)
  have tp := Txt.top ho (bd _ List.mem_cons_self) X G c
  obtain ⟨hmg, fd, F⟩ := tp.fn e hm
  have ea : fAddr = He.fAd K (e.x, none) := by
    rw [hmg] at hfa
    cases hfa
    rfl
  subst ea
  have er : run t.p (N + 1) f = body0 t.p (run t.p N) e.fd := by
    funext ds s
    show (match (t.es[f]?).map (·.fd) with | some fd => body0 t.p (run t.p N) fd ds s | none => .no) = _
    rw [he]
    rfl
  have hb := bd e (List.mem_cons_of_mem _ hm)
  refine ⟨fd, t.tf.map (He.cT K), spF K (t.jOf K) 1 (run t.p (N + 1) f), ?_, ?_, ?_, fun s u => ?_, fun H a ns h1 h2 hT hS => ?_, fun base X' G' TB => ?_⟩
  · intro q hq
    obtain ⟨p', hp, rfl⟩ := List.mem_map.mp hq
    exact c.empty p' hp
  · intro q hq
    obtain ⟨p', hp, rfl⟩ := List.mem_map.mp hq
    exact c.out p' hp
  · intro q hq
    obtain ⟨p', hp, rfl⟩ := List.mem_map.mp hq
    exact PySem.W.codeHd_of_K X (c.hd p' hp)
  · have := FunD.bindsA F hb s [u] (by rw [hps]; rfl)
    rw [hps] at this
    exact this
  · have mem : ∀ e' ∈ t.es, (e'.gen || e'.lam) = true → H (He.cT K (e'.x, none)).2 = some (.tbl #[]) := fun e' h' hh => hT _ (List.mem_map.mpr ⟨(e'.x, none), List.mem_map.mpr ⟨e', List.mem_filter.mpr ⟨h', hh⟩, rfl⟩, rfl⟩)
    obtain ⟨E₀, d, eH, hd, w0, r0⟩ := start_ok (J := t.jOf K) hS (fun P hP => by
      obtain ⟨e', h', rfl⟩ := List.mem_map.mp hP
      obtain ⟨m', l'⟩ := List.mem_filter.mp h'
      exact mem e' m' (by rw [l']; rfl)) (fun q hq => by
      obtain ⟨e', h', rfl⟩ := List.mem_map.mp hq
      obtain ⟨m', l'⟩ := List.mem_filter.mp h'
      exact mem e' m' (by rw [l', Bool.or_true]))
    obtain ⟨k, st, hr⟩ := hrun ns h1 h2 d hd
    refine ⟨rfl, E₀, [d], [], eH, w0, by rw [RepA]; exact ⟨.ref a, [], rfl, r0, by rw [RepA]⟩, ?_⟩
    rw [hr]
    exact fun E' v _ _ r => rep_true r
  · have q := def_step to tp (Txt.cod ho c TB) (lks_ok (P := l.prog) (w := w) to tp (Txt.cod ho c TB) N) hm F
    rw [hps, hnp, ← er] at q
    exact q
end
theorem cx_false {P : Program} {w : World} {H : Hp} {s : Shared} {e : Value} {s' : Shared} (h : L2.CX P w [] H s (fun _ _ _ => False) e s') : False := by
  obtain ⟨a, B, H', cls, d, _, _, _, _, _, _, _, z⟩ := h
  exact z
end RS
end S42
section S43
set_option autoImplicit false
set_option linter.all false
set_option maxRecDepth 100000
set_option Elab.async false
/-! W1: running the little language, construct by construct. Plain Lean. -/
namespace RS
/-- run, not to be opened by unification -/
@[irreducible] def go (p : Prg) (n : Nat) : Call := run p n
theorem go_eq (p : Prg) (n : Nat) : go p n = run p n := by unfold go; rfl
def Ok {α : Type} (r : R α) (P : α → Sto → Prop) : Prop := ∃ a s, r = .ok a s ∧ P a s
section
variable {α β : Type}
theorem Ok_ok {a : α} {s : Sto} {P : α → Sto → Prop} : Ok (.ok a s) P ↔ P a s := ⟨fun ⟨b, t, e, h⟩ => by cases e; exact h, fun h => ⟨a, s, rfl, h⟩⟩
theorem Ok_bind {r : R α} {f : α → Sto → R β} {P : β → Sto → Prop} : Ok (r.bind f) P ↔ Ok r (fun a s => Ok (f a s) P) := by
  cases r with
  | ok a s => exact ⟨fun h => ⟨a, s, rfl, h⟩, fun ⟨b, t, e, h⟩ => by cases e; exact h⟩
  | err c s => exact ⟨fun ⟨_, _, e, _⟩ => (by cases e), fun ⟨_, _, e, _⟩ => (by cases e)⟩
  | no => exact ⟨fun ⟨_, _, e, _⟩ => (by cases e), fun ⟨_, _, e, _⟩ => (by cases e)⟩
theorem Ok.mono {r : R α} {P Q : α → Sto → Prop} (h : Ok r P) (k : ∀ a s, P a s → Q a s) : Ok r Q := let ⟨a, s, e, p⟩ := h; ⟨a, s, e, k a s p⟩
theorem Ok.eq {r : R α} {a : α} {s : Sto} {P : α → Sto → Prop} (h : r = .ok a s) (k : P a s) : Ok r P := ⟨a, s, h, k⟩
/-- the result itself -/
theorem Ok.is {r : R α} {a : α} {s : Sto} (h : Ok r fun b t => b = a ∧ t = s) : r = .ok a s := by
  obtain ⟨b, t, e, rfl, rfl⟩ := h
  exact e
theorem Ok.bind {r : R α} {f : α → Sto → R β} {P : β → Sto → Prop} (h : Ok r (fun a s => Ok (f a s) P)) : Ok (r.bind f) P := Ok_bind.mpr h
end
namespace w
section
variable {α : Type} {s : Sto} {ρ : Env}
theorem ok {a : α} {P : α → Sto → Prop} (h : P a s) : Ok (.ok a s) P := Ok_ok.mpr h
theorem ofO {o : Option α} {a : α} {P : α → Sto → Prop} (h : o = some a) (k : P a s) : Ok (RS.ofO o s) P := by rw [h]; exact Ok_ok.mpr k
theorem if_t {b : Bool} {x y : R α} {P : α → Sto → Prop} (h : b = true) (k : Ok x P) : Ok (if b = true then x else y) P := by rw [if_pos h]; exact k
theorem if_f {b : Bool} {x y : R α} {P : α → Sto → Prop} (h : b = false) (k : Ok y P) : Ok (if b = true then x else y) P := by rw [if_neg (by rw [h]; exact Bool.false_ne_true)]; exact k
theorem if_b {b : Bool} {x y : R α} {P : α → Sto → Prop} (h : b = true → Ok x P) (k : b = false → Ok y P) : Ok (if b = true then x else y) P := by
  cases b with
  | true => exact if_t rfl (h rfl)
  | false => exact if_f rfl (k rfl)
theorem if_p {c : Prop} [Decidable c] {x y : R α} {P : α → Sto → Prop} (h : c) (k : Ok x P) : Ok (if c then x else y) P := by rw [if_pos h]; exact k
end
section
variable {p : Prg} {call : Call} {s : Sto} {ρ : Env} {P : D × Kd → Sto → Prop}
theorem var {i : Nat} {d : D} {own : Bool} (h : ρ[i]? = some (some (d, own))) (k : P (d, if own then .bo else .fz) s) : Ok (ev p call (.var i) ρ s) P := by
  rw [ev, h]
  exact ok k
theorem vfz {i : Nat} {d : D} (h : ρ[i]? = some (some (d, false))) (k : P (d, .fz) s) : Ok (ev p call (.var i) ρ s) P := var h k
theorem vbo {i : Nat} {d : D} (h : ρ[i]? = some (some (d, true))) (k : P (d, .bo) s) : Ok (ev p call (.var i) ρ s) P := var h k
theorem con {d : D} (k : P (d, .fz) s) : Ok (ev p call (.con d) ρ s) P := by rw [ev]; exact ok k
theorem glo {g : Nat} (k : P (p.con g, .fz) s) : Ok (ev p call (.glo g) ρ s) P := by rw [ev]; exact ok k
theorem tup {es : List IE} (k : Ok (evs p call es ρ s) fun ds s => P (.tup ds, .fz) s) : Ok (ev p call (.tup es) ρ s) P := by rw [ev]; exact .bind (k.mono fun _ _ h => ok h)
theorem lst {es : List IE} (k : Ok (evs p call es ρ s) fun ds s => P (.lst ds, .fr) s) : Ok (ev p call (.lst es) ρ s) P := by rw [ev]; exact .bind (k.mono fun _ _ h => ok h)
theorem box {es : List IE} (k : Ok (evs p call es ρ s) fun ds s => P (.loc s.length, .fz) (s ++ [.lst ds])) : Ok (ev p call (.box es) ρ s) P := by rw [ev]; exact .bind (k.mono fun _ _ h => ok h)
theorem dct {es : List IE} (k : Ok (evkv p call es ρ s) fun ds s => P (.dct (dputs [] ds), .fr) s) : Ok (ev p call (.dct es) ρ s) P := by rw [ev]; exact .bind (k.mono fun _ _ h => ok h)
theorem bin {o : Op} {a b : IE} (k : Ok (ev p call a ρ s) fun x s => Ok (ev p call b ρ s) fun y s => Ok (RS.ofO (binop o s x.1 y.1) s) P) : Ok (ev p call (.bin o a b) ρ s) P := by
  rw [ev]; exact .bind (k.mono fun _ _ h => .bind h)
/-- a whole number -/
def IntK (x : D) (k : Int → Prop) : Prop := ∃ i : Int, x = .int i ∧ k i
theorem int1 {x : D} {i : Int} {k : Int → Prop} (h : x = .int i) (hk : k i) : IntK x k := ⟨i, h, hk⟩
theorem neg {a : IE} (k : Ok (ev p call a ρ s) fun x s => IntK x.1 fun i => P (.int (-i), .fz) s) : Ok (ev p call (.neg a) ρ s) P := by
  rw [ev]; exact .bind (k.mono fun x _ ⟨i, e, h⟩ => by rw [e]; exact ok h)
theorem not {a : IE} (k : Ok (evT p call a ρ s) fun b s => P (.bl (!b), .fz) s) : Ok (ev p call (.not a) ρ s) P := by rw [ev]; exact .bind (k.mono fun _ _ h => ok h)
theorem and {es : List IE} (k : Ok (evAnd p call es ρ s) P) : Ok (ev p call (.and es) ρ s) P := by rw [ev]; exact k
theorem or {es : List IE} (k : Ok (evOr p call es ρ s) P) : Ok (ev p call (.or es) ρ s) P := by rw [ev]; exact k
theorem and1 {e : IE} (k : Ok (ev p call e ρ s) P) : Ok (evAnd p call [e] ρ s) P := by rw [evAnd]; exact k
theorem andc {e f : IE} {es : List IE} (k : Ok (ev p call e ρ s) fun x s => Ok (RS.ofO (truth s x.1) s) fun b s => Ok (if b = true then evAnd p call (f :: es) ρ s else .ok x s) P) : Ok (evAnd p call (e :: f :: es) ρ s) P := by
  rw [evAnd]; exact .bind (k.mono fun _ _ h => .bind h)
theorem or1 {e : IE} (k : Ok (ev p call e ρ s) P) : Ok (evOr p call [e] ρ s) P := by rw [evOr]; exact k
theorem orc {e f : IE} {es : List IE} (k : Ok (ev p call e ρ s) fun x s => Ok (RS.ofO (truth s x.1) s) fun b s => Ok (if b = true then .ok x s else evOr p call (f :: es) ρ s) P) : Ok (evOr p call (e :: f :: es) ρ s) P := by
  rw [evOr]; exact .bind (k.mono fun _ _ h => .bind h)
theorem ifx {c a b : IE} (k : Ok (evT p call c ρ s) fun t s => Ok (if t = true then ev p call a ρ s else ev p call b ρ s) P) : Ok (ev p call (.ifx c a b) ρ s) P := by rw [ev]; exact .bind k
theorem cmp {o : Cp} {a b : IE} (k : Ok (ev p call a ρ s) fun x s => Ok (ev p call b ρ s) fun y s => Ok (RS.ofO (cmpop o s x.1 y.1) s) fun t s => P (.bl t, .fz) s) : Ok (ev p call (.cmp o a b) ρ s) P := by
  rw [ev]; exact .bind (k.mono fun _ _ h => .bind (h.mono fun _ _ h => .bind (h.mono fun _ _ h => ok h)))
theorem chain {o₁ o₂ : Cp} {a b c : IE} (k : Ok (ev p call a ρ s) fun x s => Ok (ev p call b ρ s) fun y s => Ok (RS.ofO (cmpop o₁ s x.1 y.1) s) fun t s =>
    Ok (if t = true then (ev p call c ρ s).bind fun z s => (RS.ofO (cmpop o₂ s y.1 z.1) s).bind fun b s => .ok (.bl b, .fz) s else .ok (.bl false, .fz) s) P) : Ok (ev p call (.chain o₁ o₂ a b c) ρ s) P := by
  rw [ev]; exact .bind (k.mono fun _ _ h => .bind (h.mono fun _ _ h => .bind h))
theorem sub {a i : IE} (k : Ok (ev p call a ρ s) fun x s => Ok (ev p call i ρ s) fun y s => Ok (RS.ofO (item s x.1 y.1) s) P) : Ok (ev p call (.sub a i) ρ s) P := by
  rw [ev]; exact .bind (k.mono fun _ _ h => .bind h)
theorem slc {a lo hi : IE} (k : Ok (ev p call a ρ s) fun x s => Ok (ev p call lo ρ s) fun y s => Ok (ev p call hi ρ s) fun z s => Ok (RS.ofO (sliced s x.1 y.1 z.1) s) P) : Ok (ev p call (.slc a lo hi) ρ s) P := by
  rw [ev]; exact .bind (k.mono fun _ _ h => .bind (h.mono fun _ _ h => .bind h))
theorem cal {f : Nat} {es : List IE} (k : Ok (evs p call es ρ s) fun ds s => Ok (call f ds s) P) : Ok (ev p call (.call f es) ρ s) P := by rw [ev]; exact .bind k
theorem bi {b : Bi} {es : List IE} (k : Ok (evo p call es ρ s) fun ds s => Ok (RS.ofO (builtin b s ds) s) P) : Ok (ev p call (.bi b es) ρ s) P := by rw [ev]; exact .bind k
theorem mt {m : Mt} {e : IE} {es : List IE} (k : Ok (ev p call e ρ s) fun x s => recv m (view s x.1) = true ∧ Ok (evo p call es ρ s) fun ds s => Ok (RS.ofO (method m s x.1 ds) s) P) : Ok (ev p call (.mt m e es) ρ s) P := by
  rw [ev]; exact .bind (k.mono fun _ _ ⟨h1, h⟩ => by rw [if_pos h1]; exact .bind h)
theorem fstr {es : List IE} (k : Ok (evF p call es [] ρ s) fun t s => P (.str t, .fz) s) : Ok (ev p call (.fstr es) ρ s) P := by rw [ev]; exact .bind (k.mono fun _ _ h => ok h)
/-- a comprehension's turn -/
def lcT (p : Prg) (call : Call) (elt : IE) (tg : Tg) (ifs : List IE) (ρ : Env) (x : D) (s : Sto) : R (Option D) :=
  (RS.ofO (bindTg s (wipeE ρ (tgNames tg)) x tg) s).bind fun ρ' s => (evTs p call ifs ρ' s).bind fun b s => if b then (ev p call elt ρ' s).bind fun y s => (RS.ofO (keep y) s).bind fun d s => .ok (some d) s else .ok none s
theorem lc {elt : IE} {tg : Tg} {it : IE} {ifs : List IE} (k : Ok (evI p call it ρ s) fun xs s => Ok (lcTurns (still s xs.2) (lcT p call elt tg ifs ρ) xs.1 [] s) fun ds s => P (.lst ds, .fr) s) : Ok (ev p call (.lc elt tg it ifs) ρ s) P := by
  rw [ev]; exact .bind (k.mono fun _ _ h => .bind (h.mono fun _ _ h => ok h))
def dcT (p : Prg) (call : Call) (kx vx : IE) (tg : Tg) (ifs : List IE) (ρ : Env) (x : D) (s : Sto) : R (Option (D × D)) :=
  (RS.ofO (bindTg s (wipeE ρ (tgNames tg)) x tg) s).bind fun ρ' s => (evTs p call ifs ρ' s).bind fun b s => if b then (ev p call kx ρ' s).bind fun y s => (ev p call vx ρ' s).bind fun z s => (RS.ofO (keep z) s).bind fun d s => .ok (some (y.1, d)) s else .ok none s
theorem dc {kx vx : IE} {tg : Tg} {it : IE} {ifs : List IE} (k : Ok (evI p call it ρ s) fun xs s => Ok (dcTurns (still s xs.2) (dcT p call kx vx tg ifs ρ) xs.1 [] s) fun ds s => P (.dct ds, .fr) s) : Ok (ev p call (.dc kx vx tg it ifs) ρ s) P := by
  rw [ev]; exact .bind (k.mono fun _ _ h => .bind (h.mono fun _ _ h => ok h))
theorem any {elt : IE} {tg : Tg} {it : IE} {ifs : List IE} (k : Ok (evI p call it ρ s) fun xs s => Ok (anyTurns (still s xs.2) true (lcT p call elt tg ifs ρ) xs.1 s) fun b s => P (.bl b, .fz) s) : Ok (ev p call (.gen .any elt tg it ifs) ρ s) P := by
  rw [ev]; exact .bind (k.mono fun _ _ h => .bind (h.mono fun _ _ h => ok h))
theorem all {elt : IE} {tg : Tg} {it : IE} {ifs : List IE} (k : Ok (evI p call it ρ s) fun xs s => Ok (anyTurns (still s xs.2) false (lcT p call elt tg ifs ρ) xs.1 s) fun b s => P (.bl b, .fz) s) : Ok (ev p call (.gen .all elt tg it ifs) ρ s) P := by
  rw [ev]; exact .bind (k.mono fun _ _ h => .bind (h.mono fun _ _ h => ok h))
theorem gbi {b : Bi} {elt : IE} {tg : Tg} {it : IE} {ifs : List IE} (k : Ok (evI p call it ρ s) fun xs s => Ok (genTurns (still s xs.2) (lcT p call elt tg ifs ρ) xs.1 [] s) fun ds s => Ok (RS.ofO (eatG b ds) s) P) : Ok (ev p call (.gen (.bi b) elt tg it ifs) ρ s) P := by
  rw [ev]; exact .bind (k.mono fun _ _ h => .bind h)
end
section
variable {p : Prg} {call : Call} {s : Sto} {ρ : Env}
theorem evs0 {P : List D → Sto → Prop} (k : P [] s) : Ok (evs p call [] ρ s) P := by rw [evs]; exact ok k
theorem evsc {e : IE} {es : List IE} {P : List D → Sto → Prop} (k : Ok (ev p call e ρ s) fun x s => x.2 ≠ .bo ∧ Ok (evs p call es ρ s) fun ds s => P (x.1 :: ds) s) : Ok (evs p call (e :: es) ρ s) P := by
  rw [evs]; exact .bind (k.mono fun x _ ⟨h1, h⟩ => .bind (ofO (by unfold keep; rw [if_neg h1]) (.bind (h.mono fun _ _ h => ok h))))
theorem evo0 {P : List D → Sto → Prop} (k : P [] s) : Ok (evo p call [] ρ s) P := by rw [evo]; exact ok k
theorem evoc {e : IE} {es : List IE} {P : List D → Sto → Prop} (k : Ok (ev p call e ρ s) fun x s => Ok (evo p call es ρ s) fun ds s => P (x.1 :: ds) s) : Ok (evo p call (e :: es) ρ s) P := by
  rw [evo]; exact .bind (k.mono fun _ _ h => .bind (h.mono fun _ _ h => ok h))
theorem kv0 {P : List (D × D) → Sto → Prop} (k : P [] s) : Ok (evkv p call [] ρ s) P := by rw [evkv]; exact ok k
theorem kvc {a b : IE} {es : List IE} {P : List (D × D) → Sto → Prop} (k : Ok (ev p call a ρ s) fun x s => Ok (ev p call b ρ s) fun y s => y.2 ≠ .bo ∧ isKey x.1 = true ∧ Ok (evkv p call es ρ s) fun ds s => P ((x.1, y.1) :: ds) s) : Ok (evkv p call (.kv a b :: es) ρ s) P := by
  rw [evkv]; exact .bind (k.mono fun x _ h => .bind (h.mono fun y _ ⟨h1, h2, h⟩ => .bind (ofO (by unfold keep; rw [if_neg h1]) (by rw [if_pos h2]; exact .bind (h.mono fun _ _ h => ok h)))))
theorem f0 {acc : List Nat} {P : List Nat → Sto → Prop} (k : P acc s) : Ok (evF p call [] acc ρ s) P := by rw [evF]; exact ok k
theorem fc {e : IE} {es : List IE} {acc : List Nat} {P : List Nat → Sto → Prop} (k : Ok (ev p call e ρ s) fun x s => Ok (RS.ofO (fmtOf x.1) s) fun t s => acc.length + t.length ≤ line ∧ Ok (evF p call es (acc ++ t) ρ s) P) : Ok (evF p call (e :: es) acc ρ s) P := by
  rw [evF]; exact .bind (k.mono fun x _ h => .bind (h.mono fun t _ ⟨h1, h⟩ => by rw [if_pos h1]; exact h))
/-! tests -/
theorem tand {es : List IE} {P : Bool → Sto → Prop} (k : Ok (evTAnd p call es ρ s) P) : Ok (evT p call (.and es) ρ s) P := by rw [evT]; exact k
theorem tor {es : List IE} {P : Bool → Sto → Prop} (k : Ok (evTOr p call es ρ s) P) : Ok (evT p call (.or es) ρ s) P := by rw [evT]; exact k
theorem tnot {a : IE} {P : Bool → Sto → Prop} (k : Ok (evT p call a ρ s) fun b s => P (!b) s) : Ok (evT p call (.not a) ρ s) P := by rw [evT]; exact .bind (k.mono fun _ _ h => ok h)
theorem tv {e : IE} {P : Bool → Sto → Prop} (k : Ok (ev p call e ρ s) fun x s => Ok (RS.ofO (truth s x.1) s) P) : Ok (evT p call (.tv e) ρ s) P := by rw [evT]; exact .bind k
theorem tand0 {P : Bool → Sto → Prop} (k : P true s) : Ok (evTAnd p call [] ρ s) P := by rw [evTAnd]; exact ok k
theorem tandc {e : IE} {es : List IE} {P : Bool → Sto → Prop} (k : Ok (evT p call e ρ s) fun b s => Ok (if b = true then evTAnd p call es ρ s else .ok false s) P) : Ok (evTAnd p call (e :: es) ρ s) P := by rw [evTAnd]; exact .bind k
theorem tor0 {P : Bool → Sto → Prop} (k : P false s) : Ok (evTOr p call [] ρ s) P := by rw [evTOr]; exact ok k
theorem torc {e : IE} {es : List IE} {P : Bool → Sto → Prop} (k : Ok (evT p call e ρ s) fun b s => Ok (if b = true then .ok true s else evTOr p call es ρ s) P) : Ok (evTOr p call (e :: es) ρ s) P := by rw [evTOr]; exact .bind k
theorem ts0 {P : Bool → Sto → Prop} (k : P true s) : Ok (evTs p call [] ρ s) P := by rw [evTs]; exact ok k
theorem tsc {e : IE} {es : List IE} {P : Bool → Sto → Prop} (k : Ok (evT p call e ρ s) fun b s => Ok (if b = true then evTs p call es ρ s else .ok false s) P) : Ok (evTs p call (e :: es) ρ s) P := by rw [evTs]; exact .bind k
/-! walks -/
theorem it {e : IE} {P : List D × List (D × Kd) → Sto → Prop} (k : Ok (ev p call e ρ s) fun x s => Ok (RS.ofO (items s x.1) s) fun xs s => P (xs, [x]) s) : Ok (evI p call (.it e) ρ s) P := by
  rw [evI]; exact .bind (k.mono fun _ _ h => .bind (h.mono fun _ _ h => ok h))
/-- a range -/
def RngK (ds : List D) (k : List D → Prop) : Prop := (∃ n : Int, ds = [.int n] ∧ n.natAbs < 2 ^ 60 ∧ k (upto 0 n.toNat)) ∨ ∃ a b : Int, ds = [.int a, .int b] ∧ a.natAbs < 2 ^ 60 ∧ b.natAbs < 2 ^ 60 ∧ k (upto a (b - a).toNat)
theorem rng1 {n : Int} {k : List D → Prop} (h : n.natAbs < 2 ^ 60) (hk : k (upto 0 n.toNat)) : RngK [.int n] k := .inl ⟨n, rfl, h, hk⟩
theorem rng2 {a b : Int} {k : List D → Prop} (h1 : a.natAbs < 2 ^ 60) (h2 : b.natAbs < 2 ^ 60) (hk : k (upto a (b - a).toNat)) : RngK [.int a, .int b] k := .inr ⟨a, b, rfl, h1, h2, hk⟩
theorem rng {es : List IE} {P : List D × List (D × Kd) → Sto → Prop} (k : Ok (evo p call es ρ s) fun ds s => RngK ds fun xs => P (xs, []) s) : Ok (evI p call (.rng es) ρ s) P := by
  rw [evI]
  refine .bind (k.mono fun ds s h => ?_)
  rcases h with ⟨n, rfl, h1, h⟩ | ⟨a, b, rfl, h1, h2, h⟩
  · show Ok (if n.natAbs < 2 ^ 60 then R.ok (upto 0 n.toNat, []) s else .no) P
    rw [if_pos h1]; exact ok h
  · show Ok (if a.natAbs < 2 ^ 60 ∧ b.natAbs < 2 ^ 60 then R.ok (upto a (b - a).toNat, []) s else .no) P
    rw [if_pos ⟨h1, h2⟩]; exact ok h
end
/-! turns -/
section
variable {s : Sto} {chk : Sto → Bool}
theorem lc0 {turn : D → Sto → R (Option D)} {acc : List D} {P : List D → Sto → Prop} (h : chk s = true) (k : P acc s) : Ok (lcTurns chk turn [] acc s) P := by unfold lcTurns; rw [if_pos h]; exact ok k
theorem lcc {turn : D → Sto → R (Option D)} {x : D} {r acc : List D} {P : List D → Sto → Prop} (h : chk s = true) (k : Ok (turn x s) fun o s' => (∃ d, o = some d ∧ acc.length < line ∧ Ok (lcTurns chk turn r (acc ++ [d]) s') P) ∨ (o = none ∧ Ok (lcTurns chk turn r acc s') P)) :
    Ok (lcTurns chk turn (x :: r) acc s) P := by
  rw [lcTurns, if_pos h]
  refine .bind (k.mono fun o s' h => ?_)
  rcases h with ⟨d, rfl, h1, h⟩ | ⟨rfl, h⟩
  · show Ok (if acc.length < line then lcTurns chk turn r (acc ++ [d]) s' else .no) P
    rw [if_pos h1]; exact h
  · exact h
theorem lcT1 {p : Prg} {call : Call} {elt : IE} {tg : Tg} {ifs : List IE} {ρ ρ' : Env} {x : D} {P : Option D → Sto → Prop} (h : bindTg s (wipeE ρ (tgNames tg)) x tg = some ρ') (k : Ok (evTs p call ifs ρ' s) fun b s => (b = true ∧ Ok (ev p call elt ρ' s) fun y s => y.2 ≠ .bo ∧ P (some y.1) s) ∨ (b = false ∧ P none s)) :
    Ok (lcT p call elt tg ifs ρ x s) P := by
  unfold lcT
  refine .bind (ofO h (.bind (k.mono fun b s h => ?_)))
  rcases h with ⟨rfl, h⟩ | ⟨rfl, h⟩
  · rw [if_pos rfl]
    exact .bind (h.mono fun y s ⟨h1, h⟩ => .bind (ofO (by unfold keep; rw [if_neg h1]) (ok h)))
  · rw [if_neg Bool.false_ne_true]; exact ok h
/-- .. without tests -/
theorem lcT0 {p : Prg} {call : Call} {elt : IE} {tg : Tg} {ρ ρ' : Env} {x : D} {P : Option D → Sto → Prop} (h : bindTg s (wipeE ρ (tgNames tg)) x tg = some ρ') (k : Ok (ev p call elt ρ' s) fun y s => y.2 ≠ .bo ∧ P (some y.1) s) : Ok (lcT p call elt tg [] ρ x s) P :=
  lcT1 h (ts0 (.inl ⟨rfl, k⟩))
theorem dc0 {turn : D → Sto → R (Option (D × D))} {acc : List (D × D)} {P : List (D × D) → Sto → Prop} (h : chk s = true) (k : P acc s) : Ok (dcTurns chk turn [] acc s) P := by unfold dcTurns; rw [if_pos h]; exact ok k
theorem dcc {turn : D → Sto → R (Option (D × D))} {x : D} {r : List D} {acc : List (D × D)} {P : List (D × D) → Sto → Prop} (h : chk s = true) (k : Ok (turn x s) fun o s' => (∃ q : D × D, o = some q ∧ isKey q.1 = true ∧ acc.length < line ∧ Ok (dcTurns chk turn r (dput acc q.1 q.2) s') P) ∨ (o = none ∧ Ok (dcTurns chk turn r acc s') P)) :
    Ok (dcTurns chk turn (x :: r) acc s) P := by
  rw [dcTurns, if_pos h]
  refine .bind (k.mono fun o s' h => ?_)
  rcases h with ⟨⟨a, b⟩, rfl, h1, h2, h⟩ | ⟨rfl, h⟩
  · show Ok (if (isKey a && decide (acc.length < line)) = true then dcTurns chk turn r (dput acc a b) s' else .no) P
    rw [if_pos (by rw [h1, decide_eq_true h2]; rfl)]; exact h
  · exact h
theorem dcT1 {p : Prg} {call : Call} {kx vx : IE} {tg : Tg} {ifs : List IE} {ρ ρ' : Env} {x : D} {P : Option (D × D) → Sto → Prop} (h : bindTg s (wipeE ρ (tgNames tg)) x tg = some ρ') (k : Ok (evTs p call ifs ρ' s) fun b s => (b = true ∧ Ok (ev p call kx ρ' s) fun y s => Ok (ev p call vx ρ' s) fun z s => z.2 ≠ .bo ∧ P (some (y.1, z.1)) s) ∨ (b = false ∧ P none s)) :
    Ok (dcT p call kx vx tg ifs ρ x s) P := by
  unfold dcT
  refine .bind (ofO h (.bind (k.mono fun b s h => ?_)))
  rcases h with ⟨rfl, h⟩ | ⟨rfl, h⟩
  · rw [if_pos rfl]
    exact .bind (h.mono fun y s h => .bind (h.mono fun z s ⟨h1, h⟩ => .bind (ofO (by unfold keep; rw [if_neg h1]) (ok h))))
  · rw [if_neg Bool.false_ne_true]; exact ok h
theorem any0 {stop : Bool} {turn : D → Sto → R (Option D)} {P : Bool → Sto → Prop} (h : chk s = true) (k : P (!stop) s) : Ok (anyTurns chk stop turn [] s) P := by unfold anyTurns; rw [if_pos h]; exact ok k
theorem noErr_ok {α : Type} {r : R α} {P : α → Sto → Prop} (h : Ok r P) : Ok (noErr r) P := by
  obtain ⟨a, s, rfl, h⟩ := h
  exact ok h
theorem anyc {stop : Bool} {turn : D → Sto → R (Option D)} {x : D} {r : List D} {P : Bool → Sto → Prop} (h : chk s = true) (k : Ok (turn x s) fun o s' => (∃ b : Bool, o = some (.bl b) ∧ ((b = stop ∧ P stop s') ∨ (b ≠ stop ∧ Ok (anyTurns chk stop turn r s') P))) ∨ (o = none ∧ Ok (anyTurns chk stop turn r s') P)) :
    Ok (anyTurns chk stop turn (x :: r) s) P := by
  rw [anyTurns, if_pos h]
  refine .bind ((noErr_ok k).mono fun o s' h => ?_)
  rcases h with ⟨b, rfl, h⟩ | ⟨rfl, h⟩
  · show Ok (if b = stop then .ok stop s' else anyTurns chk stop turn r s') P
    rcases h with ⟨e, h⟩ | ⟨e, h⟩
    · rw [if_pos e]; exact ok h
    · rw [if_neg e]; exact h
  · exact h
theorem gen0 {turn : D → Sto → R (Option D)} {acc : List D} {P : List D → Sto → Prop} (h : chk s = true) (k : P acc s) : Ok (genTurns chk turn [] acc s) P := by unfold genTurns; rw [if_pos h]; exact ok k
theorem genc {turn : D → Sto → R (Option D)} {x : D} {r acc : List D} {P : List D → Sto → Prop} (h : chk s = true) (k : Ok (turn x s) fun o s' => (∃ d, o = some d ∧ acc.length < line ∧ Ok (genTurns chk turn r (acc ++ [d]) s') P) ∨ (o = none ∧ Ok (genTurns chk turn r acc s') P)) :
    Ok (genTurns chk turn (x :: r) acc s) P := by
  rw [genTurns, if_pos h]
  refine .bind ((noErr_ok k).mono fun o s' h => ?_)
  rcases h with ⟨d, rfl, h1, h⟩ | ⟨rfl, h⟩
  · show Ok (if acc.length < line then genTurns chk turn r (acc ++ [d]) s' else .no) P
    rw [if_pos h1]; exact h
  · exact h
end
/-! statements -/
section
variable {p : Prg} {call : Call} {s : Sto} {ρ : Env} {P : Fl × Env → Sto → Prop}
theorem xs0 (k : P (.nx, ρ) s) : Ok (execs p call [] ρ s) P := by rw [execs]; exact ok k
/-- what comes behind a statement -/
def nxt (p : Prg) (call : Call) (r : List IS) (P : Fl × Env → Sto → Prop) : Fl × Env → Sto → Prop := fun f s => match f with
  | (.nx, ρ) => Ok (execs p call r ρ s) P
  | f => P f s
theorem xsc {a : IS} {r : List IS} (k : Ok (exec p call a ρ s) (nxt p call r P)) : Ok (execs p call (a :: r) ρ s) P := by
  rw [execs]
  refine .bind (k.mono fun f s h => ?_)
  obtain ⟨f, ρ'⟩ := f
  cases f <;> first | exact h | exact ok h
theorem nx {r : List IS} (k : Ok (execs p call r ρ s) P) : nxt p call r P (.nx, ρ) s := k
theorem rt {r : List IS} {d : D} {kd : Kd} (k : P (.rt d kd, ρ) s) : nxt p call r P (.rt d kd, ρ) s := k
theorem bk {r : List IS} (k : P (.bk, ρ) s) : nxt p call r P (.bk, ρ) s := k
theorem ct {r : List IS} (k : P (.ct, ρ) s) : nxt p call r P (.ct, ρ) s := k
/-- a name's value -/
def SetK (ρ : Env) (i : Nat) (x : D × Kd) (k : Env → Prop) : Prop := ∃ ρ', setOwn ρ i x = some ρ' ∧ k ρ'
theorem set_fz {i : Nat} {d : D} {k : Env → Prop} (h : i < ρ.length) (hk : k (ρ.set i (some (d, false)))) : SetK ρ i (d, .fz) k := by
  refine ⟨_, ?_, hk⟩
  unfold setOwn keep
  rw [if_pos h, if_neg (show ¬ (Kd.fz = Kd.bo) by decide)]
  show some (ρ.set i (some (d, isMut d && false))) = _
  rw [Bool.and_false]
theorem set_fr {i : Nat} {d : D} {k : Env → Prop} (h : i < ρ.length) (hm : isMut d = true) (hk : k (ρ.set i (some (d, true)))) : SetK ρ i (d, .fr) k := by
  refine ⟨_, ?_, hk⟩
  unfold setOwn keep
  rw [if_pos h, if_neg (show ¬ (Kd.fr = Kd.bo) by decide)]
  show some (ρ.set i (some (d, isMut d && true))) = _
  rw [hm]; rfl
theorem set_fr' {i : Nat} {d : D} {k : Env → Prop} (h : i < ρ.length) (hm : isMut d = false) (hk : k (ρ.set i (some (d, false)))) : SetK ρ i (d, .fr) k := by
  refine ⟨_, ?_, hk⟩
  unfold setOwn keep
  rw [if_pos h, if_neg (show ¬ (Kd.fr = Kd.bo) by decide)]
  show some (ρ.set i (some (d, isMut d && true))) = _
  rw [hm]; rfl
theorem asg {i : Nat} {e : IE} (k : Ok (ev p call e ρ s) fun x s => SetK ρ i x fun ρ => P (.nx, ρ) s) : Ok (exec p call (.asg (.nm i) e) ρ s) P := by
  rw [exec]; exact .bind (k.mono fun _ _ ⟨ρ', e, h⟩ => .bind (ofO e (ok h)))
theorem asgT {is : List Nat} {e : IE} (k : Ok (ev p call e ρ s) fun x s => Ok (RS.ofO (bindTg s ρ x.1 (.tp is)) s) fun ρ s => P (.nx, ρ) s) : Ok (exec p call (.asg (.tp is) e) ρ s) P := by
  rw [exec]; exact .bind (k.mono fun _ _ h => .bind (h.mono fun _ _ h => ok h))
/-- names in a row get values -/
def ParK (ρ : Env) (is : List Nat) (xs : List (D × Kd)) (k : Env → Prop) : Prop := ∃ ρ', setPar ρ is xs = some ρ' ∧ k ρ'
theorem par0 {k : Env → Prop} (h : k ρ) : ParK ρ [] [] k := ⟨ρ, rfl, h⟩
theorem parc {i : Nat} {is : List Nat} {x : D × Kd} {xs : List (D × Kd)} {k : Env → Prop} (h : SetK ρ i x fun ρ => ParK ρ is xs k) : ParK ρ (i :: is) (x :: xs) k := by
  obtain ⟨ρ', e, ρ'', e2, h⟩ := h
  refine ⟨ρ'', ?_, h⟩
  unfold setPar
  rw [e]
  exact e2
theorem par {is : List Nat} {es : List IE} (k : Ok (evk p call es ρ s) fun xs s => ParK ρ is xs fun ρ => P (.nx, ρ) s) : Ok (exec p call (.par is es) ρ s) P := by
  rw [exec]; exact .bind (k.mono fun _ _ ⟨ρ', e, h⟩ => .bind (ofO e (ok h)))
theorem k0 {P : List (D × Kd) → Sto → Prop} (k : P [] s) : Ok (evk p call [] ρ s) P := by rw [evk]; exact ok k
theorem kc {e : IE} {es : List IE} {P : List (D × Kd) → Sto → Prop} (k : Ok (ev p call e ρ s) fun x s => Ok (evk p call es ρ s) fun xs s => P (x :: xs) s) : Ok (evk p call (e :: es) ρ s) P := by
  rw [evk]; exact .bind (k.mono fun _ _ h => .bind (h.mono fun _ _ h => ok h))
theorem setI {o i e : IE} (k : Ok (ev p call e ρ s) fun y s => y.2 ≠ .bo ∧ Ok (ev p call o ρ s) fun x s => Ok (ev p call i ρ s) fun k s => ∃ n, x.1 = .loc n ∧
    ((∃ xs xs', s[n]? = some (.lst xs) ∧ putL xs k.1 y.1 = some xs' ∧ P (.nx, ρ) (s.set n (.lst xs'))) ∨ ∃ xs xs', s[n]? = some (.dct xs) ∧ putK xs k.1 y.1 = some xs' ∧ P (.nx, ρ) (s.set n (.dct xs')))) : Ok (exec p call (.setI o i e) ρ s) P := by
  rw [exec]
  refine .bind (k.mono fun y s ⟨h1, h⟩ => .bind (ofO (by unfold keep; rw [if_neg h1]) (.bind (h.mono fun x s h => .bind (h.mono fun k s ⟨n, e, h⟩ => ?_)))))
  rw [e]
  rcases h with ⟨xs, xs', e1, e2, h⟩ | ⟨xs, xs', e1, e2, h⟩
  · simp only [e1]; exact .bind (ofO e2 (ok h))
  · simp only [e1]; exact .bind (ofO e2 (ok h))
theorem setVL {v : Nat} {i e : IE} {xs : List D} (h0 : ρ[v]? = some (some (.lst xs, true))) (k : Ok (ev p call e ρ s) fun y s => y.2 ≠ .bo ∧ Ok (ev p call i ρ s) fun k s => Ok (RS.ofO (putL xs k.1 y.1) s) fun xs s => P (.nx, ρ.set v (some (.lst xs, true))) s) : Ok (exec p call (.setV v i e) ρ s) P := by
  rw [exec]
  refine .bind (k.mono fun y s ⟨h1, h⟩ => .bind (ofO (by unfold keep; rw [if_neg h1]) ?_))
  simp only [h0]
  exact .bind (h.mono fun _ _ h => .bind (h.mono fun _ _ h => ok h))
theorem setVK {v : Nat} {i e : IE} {xs : List (D × D)} (h0 : ρ[v]? = some (some (.dct xs, true))) (k : Ok (ev p call e ρ s) fun y s => y.2 ≠ .bo ∧ Ok (ev p call i ρ s) fun k s => Ok (RS.ofO (putK xs k.1 y.1) s) fun xs s => P (.nx, ρ.set v (some (.dct xs, true))) s) : Ok (exec p call (.setV v i e) ρ s) P := by
  rw [exec]
  refine .bind (k.mono fun y s ⟨h1, h⟩ => .bind (ofO (by unfold keep; rw [if_neg h1]) ?_))
  simp only [h0]
  exact .bind (h.mono fun _ _ h => .bind (h.mono fun _ _ h => ok h))
theorem augL {v : Nat} {e : IE} {xs : List D} (h0 : ρ[v]? = some (some (.lst xs, true))) (k : Ok (ev p call e ρ s) fun y s => ∃ ys, view s y.1 = .lst ys ∧ y.2 ≠ .bo ∧ xs.length + ys.length ≤ line ∧ P (.nx, ρ.set v (some (.lst (xs ++ ys), true))) s) : Ok (exec p call (.aug v .add e) ρ s) P := by
  rw [exec]
  simp only [h0]
  refine .bind (k.mono fun y s ⟨ys, e1, h1, h2, h⟩ => ?_)
  simp only [e1]
  rw [if_pos ⟨h1, h2⟩]; exact ok h
theorem augI {v : Nat} {e : IE} {i : Int} (h0 : ρ[v]? = some (some (.int i, false))) (k : Ok (ev p call e ρ s) fun y s => IntK y.1 fun j => P (.nx, ρ.set v (some (.int (i + j), false))) s) : Ok (exec p call (.aug v .add e) ρ s) P := by
  rw [exec]
  simp only [h0]
  refine .bind (k.mono fun y s ⟨j, e1, h⟩ => ?_)
  simp only [e1]
  exact ok h
theorem augM {v : Nat} {e : IE} {i : Int} (h0 : ρ[v]? = some (some (.int i, false))) (k : Ok (ev p call e ρ s) fun y s => IntK y.1 fun j => P (.nx, ρ.set v (some (.int (i - j), false))) s) : Ok (exec p call (.aug v .sub e) ρ s) P := by
  rw [exec]
  simp only [h0]
  refine .bind (k.mono fun y s ⟨j, e1, h⟩ => ?_)
  simp only [e1]
  exact ok h
theorem augS {v : Nat} {e : IE} {a : List Nat} (h0 : ρ[v]? = some (some (.str a, false))) (k : Ok (ev p call e ρ s) fun y s => ∃ b, y.1 = .str b ∧ a.length + b.length ≤ line ∧ P (.nx, ρ.set v (some (.str (a ++ b), false))) s) : Ok (exec p call (.aug v .add e) ρ s) P := by
  rw [exec]
  simp only [h0]
  refine .bind (k.mono fun y s ⟨j, e1, h1, h⟩ => ?_)
  simp only [e1]
  rw [if_pos h1]; exact ok h
theorem app {v : Nat} {e : IE} {xs : List D} (h0 : ρ[v]? = some (some (.lst xs, true))) (k : Ok (ev p call e ρ s) fun y s => y.2 ≠ .bo ∧ xs.length < line ∧ P (.nx, ρ.set v (some (.lst (xs ++ [y.1]), true))) s) : Ok (exec p call (.app v e) ρ s) P := by
  rw [exec]
  simp only [h0]
  exact .bind (k.mono fun y s ⟨h1, h2, h⟩ => .bind (ofO (by unfold keep; rw [if_neg h1]) (by rw [if_pos h2]; exact ok h)))
theorem upd {v : Nat} {e : IE} {kvs : List (D × D)} (h0 : ρ[v]? = some (some (.dct kvs, true))) (k : Ok (ev p call e ρ s) fun y s => ∃ more, y = (.dct more, .fr) ∧ kvs.length + more.length ≤ line ∧ P (.nx, ρ.set v (some (.dct (dputs kvs more), true))) s) : Ok (exec p call (.upd v e) ρ s) P := by
  rw [exec]
  simp only [h0]
  refine .bind (k.mono fun y s ⟨more, e1, h1, h⟩ => ?_)
  subst e1
  show Ok (if Kd.fr = Kd.fr ∧ kvs.length + more.length ≤ line then R.ok (Fl.nx, ρ.set v (some (.dct (dputs kvs more), true))) s else .no) P
  rw [if_pos ⟨rfl, h1⟩]; exact ok h
theorem expr {e : IE} (k : Ok (ev p call e ρ s) fun _ s => P (.nx, ρ) s) : Ok (exec p call (.expr e) ρ s) P := by rw [exec]; exact .bind (k.mono fun _ _ h => ok h)
theorem ret {e : IE} (k : Ok (ev p call e ρ s) fun x s => x.2 ≠ .bo ∧ P (.rt x.1 x.2, ρ) s) : Ok (exec p call (.ret e) ρ s) P := by rw [exec]; exact .bind (k.mono fun _ _ ⟨h1, h⟩ => by rw [if_neg h1]; exact ok h)
theorem retV {v : Nat} {d : D} {own : Bool} (h0 : ρ[v]? = some (some (d, own))) (k : P (.rt d (if own then .fr else .fz), ρ) s) : Ok (exec p call (.retV v) ρ s) P := by rw [exec]; simp only [h0]; exact ok k
theorem retVf {v : Nat} {d : D} (h0 : ρ[v]? = some (some (d, false))) (k : P (.rt d .fz, ρ) s) : Ok (exec p call (.retV v) ρ s) P := retV h0 k
theorem retVo {v : Nat} {d : D} (h0 : ρ[v]? = some (some (d, true))) (k : P (.rt d .fr, ρ) s) : Ok (exec p call (.retV v) ρ s) P := retV h0 k
theorem ret0 (k : P (.rt .non .fz, ρ) s) : Ok (exec p call .ret0 ρ s) P := by rw [exec]; exact ok k
theorem ite {c : IE} {a b : List IS} (k : Ok (evT p call c ρ s) fun t s => Ok (if t = true then execs p call a ρ s else execs p call b ρ s) P) : Ok (exec p call (.ite c a b) ρ s) P := by rw [exec]; exact .bind k
theorem pass (k : P (.nx, ρ) s) : Ok (exec p call .pass ρ s) P := by rw [exec]; exact ok k
theorem brk (k : P (.bk, ρ) s) : Ok (exec p call .brk ρ s) P := by rw [exec]; exact ok k
theorem cont (k : P (.ct, ρ) s) : Ok (exec p call .cont ρ s) P := by rw [exec]; exact ok k
theorem frz {vs : List Nat} (k : P (.nx, frzE ρ vs) s) : Ok (exec p call (.frz vs) ρ s) P := by rw [exec]; exact ok k
theorem frz1 {v : Nat} {ρ' : Env} (h : frzE ρ [v] = ρ') (k : P (.nx, ρ') s) : Ok (exec p call (.frz [v]) ρ s) P := by subst h; exact frz k
theorem bads {v c : Nat} {es : List IE} (h : v < ρ.length) (k : Ok (evBad p call es c (ρ.set v none) s) fun _ s => P (.nx, ρ.set v none) s) : Ok (exec p call (.bads v c es) ρ s) P := by rw [exec, if_pos h]; exact .bind (k.mono fun _ _ h => ok h)
theorem for_ {tg : Tg} {it : IE} {body : List IS} (k : Ok (evI p call it ρ s) fun xs s => xs.2.all (fun x => decide (x.2 ≠ .bo)) = true ∧ Ok (forTurns (still s xs.2) (fun x ρ s => bindTg s ρ x tg) (fun ρ s => execs p call body ρ s) xs.1 ρ s) P) : Ok (exec p call (.for_ tg it body) ρ s) P := by
  rw [exec]; exact .bind (k.mono fun _ _ ⟨h1, h⟩ => by rw [if_pos h1]; exact h)
theorem whl {n : Nat} {c : IE} {body : List IS} (k : Ok (whlTurns (fun ρ s => evT p call c ρ s) (fun ρ s => execs p call body ρ s) n ρ s) P) : Ok (exec p call (.whl n c body) ρ s) P := by rw [exec]; exact k
/-- a list in the store is written -/
def PutL (s : Sto) (x k y : D) (K : Sto → Prop) : Prop := ∃ n xs xs', x = .loc n ∧ s[n]? = some (.lst xs) ∧ putL xs k y = some xs' ∧ K (s.set n (.lst xs'))
theorem putL1 {s : Sto} {x k y : D} {K : Sto → Prop} {n : Nat} {xs xs' : List D} (h1 : x = .loc n) (h2 : s[n]? = some (.lst xs)) (h3 : putL xs k y = some xs') (h : K (s.set n (.lst xs'))) : PutL s x k y K := ⟨n, xs, xs', h1, h2, h3, h⟩
theorem setIL {o i e : IE} {P : Fl × Env → Sto → Prop} (k : Ok (ev p call e ρ s) fun y s => y.2 ≠ .bo ∧ Ok (ev p call o ρ s) fun x s => Ok (ev p call i ρ s) fun k s => PutL s x.1 k.1 y.1 fun s => P (.nx, ρ) s) : Ok (exec p call (.setI o i e) ρ s) P :=
  setI (k.mono fun _ _ ⟨h1, h⟩ => ⟨h1, h.mono fun _ _ h => h.mono fun _ _ ⟨n, xs, xs', e1, e2, e3, h⟩ => ⟨n, e1, .inl ⟨xs, xs', e2, e3, h⟩⟩⟩)
/-- what comes behind a turn -/
def nxF (k : Env → Sto → Prop) (P : Fl × Env → Sto → Prop) : Fl × Env → Sto → Prop := fun f s => match f with
  | (.nx, ρ) => k ρ s
  | (.ct, ρ) => k ρ s
  | (.bk, ρ) => P (.nx, ρ) s
  | (.rt d kd, ρ) => P (.rt d kd, ρ) s
theorem nf {k : Env → Sto → Prop} {P : Fl × Env → Sto → Prop} {ρ : Env} {s : Sto} (h : k ρ s) : nxF k P (.nx, ρ) s := h
theorem nfc {k : Env → Sto → Prop} {P : Fl × Env → Sto → Prop} {ρ : Env} {s : Sto} (h : k ρ s) : nxF k P (.ct, ρ) s := h
theorem nfb {k : Env → Sto → Prop} {P : Fl × Env → Sto → Prop} {ρ : Env} {s : Sto} (h : P (.nx, ρ) s) : nxF k P (.bk, ρ) s := h
theorem nfr {k : Env → Sto → Prop} {P : Fl × Env → Sto → Prop} {d : D} {kd : Kd} {ρ : Env} {s : Sto} (h : P (.rt d kd, ρ) s) : nxF k P (.rt d kd, ρ) s := h
theorem for0 {chk : Sto → Bool} {bind : D → Env → Sto → Option Env} {body : Env → Sto → R (Fl × Env)} (h : chk s = true) (k : P (.nx, ρ) s) : Ok (forTurns chk bind body [] ρ s) P := by unfold forTurns; rw [if_pos h]; exact ok k
theorem forc {chk : Sto → Bool} {bind : D → Env → Sto → Option Env} {body : Env → Sto → R (Fl × Env)} {x : D} {r : List D} {ρ' : Env} (h : chk s = true) (h1 : bind x ρ s = some ρ') (k : Ok (body ρ' s) (nxF (fun ρ s => Ok (forTurns chk bind body r ρ s) P) P)) : Ok (forTurns chk bind body (x :: r) ρ s) P := by
  rw [forTurns, if_pos h]
  refine .bind (ofO h1 (.bind (k.mono fun f s h => ?_)))
  obtain ⟨f, ρ'⟩ := f
  cases f <;> first | exact h | exact ok h
theorem whl1 {test : Env → Sto → R Bool} {body : Env → Sto → R (Fl × Env)} {n : Nat} (k : Ok (test ρ s) fun b s => (b = true ∧ Ok (body ρ s) (nxF (fun ρ s => Ok (whlTurns test body n ρ s) P) P)) ∨ (b = false ∧ P (.nx, ρ) s)) : Ok (whlTurns test body (n + 1) ρ s) P := by
  rw [whlTurns]
  refine .bind (k.mono fun b s h => ?_)
  rcases h with ⟨rfl, h⟩ | ⟨rfl, h⟩
  · rw [if_pos rfl]
    refine .bind (h.mono fun f s h => ?_)
    obtain ⟨f, ρ'⟩ := f
    cases f <;> first | exact h | exact ok h
  · rw [if_neg Bool.false_ne_true]; exact ok h
end
/-- what comes behind a def's body -/
def rk (P : D × Kd → Sto → Prop) : Fl × Env → Sto → Prop := fun f s => match f.1 with
  | .rt d kd => P (d, kd) s
  | .nx => P (.non, .fz) s
  | _ => False
theorem rk1 {P : D × Kd → Sto → Prop} {d : D} {kd : Kd} {ρ : Env} {s : Sto} (k : P (d, kd) s) : rk P (.rt d kd, ρ) s := k
theorem rk0 {P : D × Kd → Sto → Prop} {ρ : Env} {s : Sto} (k : P (.non, .fz) s) : rk P (.nx, ρ) s := k
/-- a call of a def by its body -/
theorem run {p : Prg} {n f : Nat} {fd : Fn} {ds : List D} {s : Sto} {P : D × Kd → Sto → Prop} (hf : p.fn f = some fd) (hl : ds.length = fd.np)
    (k : Ok (execs p (go p n) fd.body (ds.map (fun d => some (d, false)) ++ List.replicate (fd.ns - fd.np) none) s) (rk P)) : Ok (go p (n + 1) f ds s) P := by
  have e : go p (n + 1) f ds s = body0 p (go p n) fd ds s := by
    rw [go_eq, go_eq]
    show (match p.fn f with | some fd => body0 p (RS.run p n) fd ds s | none => .no) = _
    rw [hf]
  rw [e]
  unfold body0
  rw [if_pos hl]
  refine .bind (k.mono fun f s h => ?_)
  obtain ⟨f, ρ'⟩ := f
  cases f <;> first | exact ok h | exact h.elim
end w
end RS
namespace RS
theorem upto_length : ∀ (n : Nat) (lo : Int), (upto lo n).length = n
  | 0, _ => rfl
  | n + 1, lo => by rw [upto, List.length_cons, upto_length]
/-- a comprehension each of whose turns makes something -/
theorem w.lc_all {chk : Sto → Bool} {turn : D → Sto → R (Option D)} {I : Sto → Prop} {V : D → Prop} (hc : ∀ s, I s → chk s = true) (ht : ∀ x s, I s → Ok (turn x s) fun o s' => ∃ d, o = some d ∧ V d ∧ I s') :
    ∀ (xs acc : List D) (s : Sto), I s → acc.length + xs.length ≤ line → Ok (lcTurns chk turn xs acc s) fun ds s' => ∃ vs, ds = acc ++ vs ∧ vs.length = xs.length ∧ (∀ v ∈ vs, V v) ∧ I s'
  | [], acc, s, hI, _ => w.lc0 (hc s hI) ⟨[], by simp, rfl, by simp, hI⟩
  | x :: xs, acc, s, hI, hl => by
    refine w.lcc (hc s hI) ((ht x s hI).mono fun o s' ⟨d, e, hV, hI'⟩ => .inl ⟨d, e, by simp at hl; omega, ?_⟩)
    refine (w.lc_all hc ht xs (acc ++ [d]) s' hI' (by simp at hl ⊢; omega)).mono fun ds s2 ⟨vs, e2, h1, h2, h3⟩ => ⟨d :: vs, by rw [e2]; simp, by simp [h1], fun v hv => ?_, h3⟩
    rcases List.mem_cons.mp hv with rfl | hv
    · exact hV
    · exact h2 v hv
end RS
namespace RS
theorem frzE_len (ρ : Env) : ∀ vs : List Nat, (frzE ρ vs).length = ρ.length
  | [] => rfl
  | v :: vs => by
    show (match (frzE ρ vs)[v]? with | some (some (d, _)) => (frzE ρ vs).set v (some (d, false)) | _ => frzE ρ vs).length = _
    split
    · rw [List.length_set, frzE_len ρ vs]
    · exact frzE_len ρ vs
theorem w.kfz {d : D} {Q : Prop} (h : Q) : (d, Kd.fz).2 ≠ Kd.bo ∧ Q := ⟨(fun h => by cases h), h⟩
theorem w.kfr {d : D} {Q : Prop} (h : Q) : (d, Kd.fr).2 ≠ Kd.bo ∧ Q := ⟨(fun h => by cases h), h⟩
end RS
/-! operations -/
namespace RS
namespace w
section
variable {s : Sto} {x y : D}
theorem mod {i j : Int} (h : 0 < j) : binop .mod s (.int i) (.int j) = some (.int (i % j), .fz) := if_pos h
theorem fdiv {i j : Int} (h : 0 < j) (h2 : j < 1073741824) : binop .fdiv s (.int i) (.int j) = some (.int (i / j), .fz) := if_pos ⟨h, h2⟩
theorem mul {i j : Int} (h : i.natAbs < 2 ^ 64 ∨ j.natAbs < 2 ^ 64) : binop .mul s (.int i) (.int j) = some (.int (i * j), .fz) := if_pos h
theorem cat {a b : List Nat} (h : a.length + b.length ≤ line) : binop .add s (.str a) (.str b) = some (.str (a ++ b), .fz) := if_pos h
theorem catT {a b : List D} (h : a.length + b.length ≤ line) : binop .add s (.tup a) (.tup b) = some (.tup (a ++ b), .fz) := if_pos h
theorem catL {a b : List D} (h : a.length + b.length ≤ line) : binop .add s (.lst a) (.lst b) = some (.lst (a ++ b), .fr) := if_pos h
theorem strI {i : Int} (h : i.natAbs < 10 ^ 100) : builtin .str s [.int i] = some (.str (intS i), .fz) := by
  have e : strOf (.int i) = some (intS i) := if_pos h
  show (strOf (.int i)).map _ = _
  rw [e]
  rfl
theorem pick {xs : List D} {r : Int} (h0 : 0 ≤ r) (h1 : r < xs.length) : ∃ d, d ∈ xs ∧ item s (.lst xs) (.int r) = some (d, .fz) := by
  have h : r.toNat < xs.length := by omega
  refine ⟨xs[r.toNat], List.getElem_mem h, ?_⟩
  have e : ix xs.length r = some r.toNat := by unfold ix; rw [if_pos h0, if_pos h1]
  show (atD xs r).map _ = _
  unfold atD
  rw [e]
  show (xs[r.toNat]?).map _ = _
  rw [List.getElem?_eq_getElem h]
  rfl
theorem pickK {xs : List D} {r : Int} {P : D × Kd → Sto → Prop} (h0 : 0 ≤ r) (h1 : r < xs.length) (k : ∀ d ∈ xs, P (d, .fz) s) : Ok (RS.ofO (item s (.lst xs) (.int r)) s) P := by
  obtain ⟨d, hd, e⟩ := pick (s := s) h0 h1
  exact ofO e (k d hd)
theorem pickS {xs : List Nat} {r : Int} {P : D × Kd → Sto → Prop} (h0 : 0 ≤ r) (h1 : r < xs.length) (k : ∀ d ∈ xs, P (.str [d], .fz) s) : Ok (RS.ofO (item s (.str xs) (.int r)) s) P := by
  have h : r.toNat < xs.length := by omega
  refine ofO ?_ (k xs[r.toNat] (List.getElem_mem h))
  have e : ix xs.length r = some r.toNat := by unfold ix; rw [if_pos h0, if_pos h1]
  show (atD xs r).map _ = _
  unfold atD
  rw [e]
  show (xs[r.toNat]?).map _ = _
  rw [List.getElem?_eq_getElem h]
  rfl
theorem eqD (h : cmpOk (view s x) (view s y) = true) : cmpop .eq s x y = some (deq (view s x) (view s y)) := if_pos h
theorem neD (h : cmpOk (view s x) (view s y) = true) : cmpop .ne s x y = some (!deq (view s x) (view s y)) := if_pos h
end
end w
end RS
end S43
section S44
set_option maxRecDepth 100000
set_option Elab.async false
set_option linter.all false
/-! the program's text in the little language: printed by gen_ir.py -/
namespace K01
open RS PySem
def topS (i : Nat) : Stmt := PySem.Challenge.pw_rulestack_k01_conditions_as_text.main.body.getD i (.Pass ⟨0, 0, 0, 0⟩)
/-- words_of: text found place pair sign end -/
def f_words_of : Fn := ⟨1, 6, [
  .par [1, 2] [(.lst []), (.con (.int 0))],
  .whl 1000000 (.tv (.cmp .lt (.var 2) (.bi .len [(.var 0)]))) [
    .par [3, 4] [(.slc (.var 0) (.var 2) (.bin .add (.var 2) (.con (.int 2)))), (.sub (.var 0) (.var 2))],
    .ite (.tv (.cmp .isin (.var 3) (.glo 0))) [
      .frz [3],
      .app 1 (.var 3),
      .aug 2 .add (.con (.int 2))] [
      .ite (.or [(.tv (.cmp .isin (.var 4) (.con (.str [40, 41, 44])))), (.tv (.cmp .isin (.var 4) (.glo 0)))]) [
        .frz [4],
        .app 1 (.var 4),
        .aug 2 .add (.con (.int 1))] [
        .ite (.tv (.cmp .eq (.var 4) (.con (.str [32])))) [
          .aug 2 .add (.con (.int 1))] [
          .frz [2],
          .asg (.nm 5) (.var 2),
          .whl 1000000 (.and [(.tv (.cmp .lt (.var 5) (.bi .len [(.var 0)]))), (.tv (.cmp .notin (.sub (.var 0) (.var 5)) (.con (.str [40, 41, 44, 32, 60, 62, 61, 33]))))]) [
            .aug 5 .add (.con (.int 1))],
          .app 1 (.slc (.var 0) (.var 2) (.bi .max2 [(.var 5), (.bin .add (.var 2) (.con (.int 1)))])),
          .asg (.nm 2) (.bi .max2 [(.var 5), (.bin .add (.var 2) (.con (.int 1)))])]]]],
  .ite (.tv (.cmp .eq (.var 1) (.lst []))) [
    .raise 1] [],
  .ret (.bi .tuple [(.var 1)])]⟩
def e_words_of : Ent := ⟨"words_of", topS 6, ["text", "found", "place", "pair", "sign", "end"], f_words_of, false, false⟩
theorem bd_words_of : e_words_of.Bd := Ent.bd_of (ps := ["text"]) (by rfl) fun _ _ _ _ _ _ us hl => match us, hl with | [_], _ => rfl
/-- read_condition: text words tree place -/
def f_read_condition : Fn := ⟨1, 4, [
  .asg (.nm 1) (.call 0 [(.var 0)]),
  .frz [1],
  .asg (.tp [2, 3]) (.call 2 [(.var 1), (.con (.int 0))]),
  .ite (.tv (.cmp .lt (.var 3) (.bi .len [(.var 1)]))) [
    .raise 1] [],
  .retV 2]⟩
def e_read_condition : Ent := ⟨"read_condition", topS 7, ["text", "words", "tree", "place"], f_read_condition, false, false⟩
theorem bd_read_condition : e_read_condition.Bd := Ent.bd_of (ps := ["text"]) (by rfl) fun _ _ _ _ _ _ us hl => match us, hl with | [_], _ => rfl
/-- read_either: words place tree other -/
def f_read_either : Fn := ⟨2, 4, [
  .asg (.tp [2, 1]) (.call 3 [(.var 0), (.var 1)]),
  .whl 1000000 (.and [(.tv (.cmp .lt (.var 1) (.bi .len [(.var 0)]))), (.tv (.cmp .eq (.sub (.var 0) (.var 1)) (.con (.str [111, 114]))))]) [
    .asg (.tp [3, 1]) (.call 3 [(.var 0), (.bin .add (.var 1) (.con (.int 1)))]),
    .asg (.nm 2) (.tup [(.con (.str [111, 114])), (.var 2), (.var 3)])],
  .ret (.tup [(.var 2), (.var 1)])]⟩
def e_read_either : Ent := ⟨"read_either", topS 8, ["words", "place", "tree", "other"], f_read_either, false, false⟩
theorem bd_read_either : e_read_either.Bd := Ent.bd_of (ps := ["words", "place"]) (by rfl) fun _ _ _ _ _ _ us hl => match us, hl with | [_, _], _ => rfl
/-- read_both: words place tree other -/
def f_read_both : Fn := ⟨2, 4, [
  .asg (.tp [2, 1]) (.call 4 [(.var 0), (.var 1)]),
  .whl 1000000 (.and [(.tv (.cmp .lt (.var 1) (.bi .len [(.var 0)]))), (.tv (.cmp .eq (.sub (.var 0) (.var 1)) (.con (.str [97, 110, 100]))))]) [
    .asg (.tp [3, 1]) (.call 4 [(.var 0), (.bin .add (.var 1) (.con (.int 1)))]),
    .asg (.nm 2) (.tup [(.con (.str [97, 110, 100])), (.var 2), (.var 3)])],
  .ret (.tup [(.var 2), (.var 1)])]⟩
def e_read_both : Ent := ⟨"read_both", topS 9, ["words", "place", "tree", "other"], f_read_both, false, false⟩
theorem bd_read_both : e_read_both.Bd := Ent.bd_of (ps := ["words", "place"]) (by rfl) fun _ _ _ _ _ _ us hl => match us, hl with | [_, _], _ => rfl
/-- read_one: words place word after tree -/
def f_read_one : Fn := ⟨2, 5, [
  .asg (.nm 2) (.ifx (.tv (.cmp .lt (.var 1) (.bi .len [(.var 0)]))) (.sub (.var 0) (.var 1)) (.con (.str []))),
  .ite (.tv (.cmp .eq (.var 2) (.con (.str [110, 111, 116])))) [
    .asg (.tp [4, 1]) (.call 4 [(.var 0), (.bin .add (.var 1) (.con (.int 1)))]),
    .ret (.tup [(.tup [(.con (.str [110, 111, 116])), (.var 4)]), (.var 1)])] [],
  .ite (.tv (.cmp .eq (.var 2) (.con (.str [40])))) [
    .asg (.tp [4, 1]) (.call 2 [(.var 0), (.bin .add (.var 1) (.con (.int 1)))]),
    .ite (.or [(.tv (.cmp .ge (.var 1) (.bi .len [(.var 0)]))), (.tv (.cmp .ne (.sub (.var 0) (.var 1)) (.con (.str [41]))))]) [
      .raise 1] [],
    .ret (.tup [(.var 4), (.bin .add (.var 1) (.con (.int 1)))])] [],
  .ite (.tv (.cmp .isin (.var 2) (.tup [(.con (.str [121, 101, 115])), (.con (.str [110, 111]))]))) [
    .frz [2],
    .ret (.tup [(.tup [(.var 2)]), (.bin .add (.var 1) (.con (.int 1)))])] [],
  .frz [2],
  .ite (.not (.tv (.call 6 [(.var 2)]))) [
    .raise 1] [],
  .asg (.nm 3) (.ifx (.tv (.cmp .lt (.bin .add (.var 1) (.con (.int 1))) (.bi .len [(.var 0)]))) (.sub (.var 0) (.bin .add (.var 1) (.con (.int 1)))) (.con (.str []))),
  .ite (.tv (.cmp .isin (.var 3) (.glo 0))) [
    .frz [2, 3],
    .ret (.tup [(.tup [(.var 3), (.var 2), (.call 7 [(.ifx (.tv (.cmp .lt (.bin .add (.var 1) (.con (.int 2))) (.bi .len [(.var 0)]))) (.sub (.var 0) (.bin .add (.var 1) (.con (.int 2)))) (.con (.str [])))])]), (.bin .add (.var 1) (.con (.int 3)))])] [],
  .ite (.tv (.cmp .eq (.var 3) (.con (.str [105, 110])))) [
    .ret (.call 5 [(.var 0), (.var 1)])] [],
  .frz [2],
  .ret (.tup [(.tup [(.con (.str [105, 115])), (.var 2)]), (.bin .add (.var 1) (.con (.int 1)))])]⟩
def e_read_one : Ent := ⟨"read_one", topS 10, ["words", "place", "word", "after", "tree"], f_read_one, false, false⟩
theorem bd_read_one : e_read_one.Bd := Ent.bd_of (ps := ["words", "place"]) (by rfl) fun _ _ _ _ _ _ us hl => match us, hl with | [_, _], _ => rfl
/-- read_in: words place name values -/
def f_read_in : Fn := ⟨2, 4, [
  .par [2, 3, 1] [(.sub (.var 0) (.var 1)), (.lst []), (.bin .add (.var 1) (.con (.int 2)))],
  .ite (.or [(.tv (.cmp .ge (.var 1) (.bi .len [(.var 0)]))), (.tv (.cmp .ne (.sub (.var 0) (.var 1)) (.con (.str [40]))))]) [
    .raise 1] [],
  .whl 1000000 (.tv (.con (.bl true))) [
    .app 3 (.call 7 [(.ifx (.tv (.cmp .lt (.bin .add (.var 1) (.con (.int 1))) (.bi .len [(.var 0)]))) (.sub (.var 0) (.bin .add (.var 1) (.con (.int 1)))) (.con (.str [])))]),
    .aug 1 .add (.con (.int 2)),
    .ite (.or [(.tv (.cmp .ge (.var 1) (.bi .len [(.var 0)]))), (.tv (.cmp .notin (.sub (.var 0) (.var 1)) (.tup [(.con (.str [44])), (.con (.str [41]))])))]) [
      .raise 1] [],
    .ite (.tv (.cmp .eq (.sub (.var 0) (.var 1)) (.con (.str [41])))) [
      .frz [2],
      .ret (.tup [(.tup [(.con (.str [105, 110])), (.var 2), (.bi .tuple [(.var 3)])]), (.bin .add (.var 1) (.con (.int 1)))])] []]]⟩
def e_read_in : Ent := ⟨"read_in", topS 11, ["words", "place", "name", "values"], f_read_in, false, false⟩
theorem bd_read_in : e_read_in.Bd := Ent.bd_of (ps := ["words", "place"]) (by rfl) fun _ _ _ _ _ _ us hl => match us, hl with | [_, _], _ => rfl
/-- is_name: word sign -/
def f_is_name : Fn := ⟨1, 2, [
  .ret (.and [(.cmp .ne (.var 0) (.con (.str []))), (.cmp .notin (.var 0) (.glo 1)), (.gen .all (.cmp .isin (.var 1) (.con (.str [97, 98, 99, 100, 101, 102, 103, 104, 105, 106, 107, 108, 109, 110, 111, 112, 113, 114, 115, 116, 117, 118, 119, 120, 121, 122, 95]))) (.nm 1) (.it (.var 0)) [])])]⟩
def e_is_name : Ent := ⟨"is_name", topS 12, ["word", "sign"], f_is_name, true, false⟩
theorem bd_is_name : e_is_name.Bd := Ent.bd_of (ps := ["word"]) (by rfl) fun _ _ _ _ _ _ us hl => match us, hl with | [_], _ => rfl
/-- value_of: word body letters sign -/
def f_value_of : Fn := ⟨1, 4, [
  .asg (.nm 1) (.ifx (.tv (.mt .startswith (.var 0) [(.con (.str [45]))])) (.slc (.var 0) (.con (.int 1)) (.con .non)) (.var 0)),
  .ite (.and [(.tv (.cmp .ne (.var 1) (.con (.str [])))), (.tv (.gen .all (.cmp .isin (.var 3) (.con (.str [48, 49, 50, 51, 52, 53, 54, 55, 56, 57]))) (.nm 3) (.it (.var 1)) []))]) [
    .ite (.or [(.and [(.tv (.cmp .eq (.sub (.var 1) (.con (.int 0))) (.con (.str [48])))), (.tv (.cmp .ne (.var 0) (.con (.str [48]))))]), (.tv (.cmp .gt (.bi .len [(.var 1)]) (.con (.int 9))))]) [
      .raise 1] [],
    .ret (.bi .int [(.var 0)])] [],
  .asg (.nm 2) (.con (.str [97, 98, 99, 100, 101, 102, 103, 104, 105, 106, 107, 108, 109, 110, 111, 112, 113, 114, 115, 116, 117, 118, 119, 120, 121, 122, 65, 66, 67, 68, 69, 70, 71, 72, 73, 74, 75, 76, 77, 78, 79, 80, 81, 82, 83, 84, 85, 86, 87, 88, 89, 90, 48, 49, 50, 51, 52, 53, 54, 55, 56, 57, 95, 45])),
  .ite (.or [(.tv (.cmp .eq (.var 0) (.con (.str [])))), (.tv (.cmp .isin (.var 0) (.glo 1))), (.tv (.gen .any (.cmp .notin (.var 3) (.var 2)) (.nm 3) (.it (.var 0)) []))]) [
    .raise 1] [],
  .retV 0]⟩
def e_value_of : Ent := ⟨"value_of", topS 13, ["word", "body", "letters", "sign"], f_value_of, true, false⟩
theorem bd_value_of : e_value_of.Bd := Ent.bd_of (ps := ["word"]) (by rfl) fun _ _ _ _ _ _ us hl => match us, hl with | [_], _ => rfl
/-- holds: tree facts kind value one rows decided part -/
def f_holds : Fn := ⟨2, 8, [
  .asg (.nm 2) (.sub (.var 0) (.con (.int 0))),
  .ite (.tv (.cmp .isin (.var 2) (.tup [(.con (.str [121, 101, 115])), (.con (.str [110, 111]))]))) [
    .ret (.cmp .eq (.var 2) (.con (.str [121, 101, 115])))] [],
  .ite (.tv (.cmp .eq (.var 2) (.con (.str [110, 111, 116])))) [
    .asg (.nm 4) (.call 8 [(.sub (.var 0) (.con (.int 1))), (.var 1)]),
    .ret (.ifx (.tv (.cmp .is (.var 4) (.con (.non)))) (.con (.non)) (.not (.tv (.var 4))))] [],
  .ite (.tv (.cmp .isin (.var 2) (.tup [(.con (.str [97, 110, 100])), (.con (.str [111, 114]))]))) [
    .asg (.nm 5) (.lc (.call 8 [(.var 7), (.var 1)]) (.nm 7) (.it (.slc (.var 0) (.con (.int 1)) (.con .non))) []),
    .asg (.nm 6) (.cmp .eq (.var 2) (.con (.str [111, 114]))),
    .ret (.ifx (.tv (.cmp .isin (.var 6) (.var 5))) (.var 6) (.ifx (.tv (.cmp .isin (.con (.non)) (.var 5))) (.con (.non)) (.not (.tv (.var 6)))))] [],
  .ite (.tv (.cmp .notin (.sub (.var 0) (.con (.int 1))) (.var 1))) [
    .ret (.con (.non))] [],
  .asg (.nm 3) (.sub (.var 1) (.sub (.var 0) (.con (.int 1)))),
  .ite (.tv (.cmp .eq (.var 2) (.con (.str [105, 115])))) [
    .ret (.cmp .is (.var 3) (.con (.bl true)))] [],
  .ite (.tv (.cmp .eq (.var 2) (.con (.str [105, 110])))) [
    .frz [3],
    .ret (.gen .any (.call 9 [(.var 3), (.var 4)]) (.nm 4) (.it (.sub (.var 0) (.con (.int 2)))) [])] [],
  .frz [2, 3],
  .ret (.call 11 [(.var 2), (.var 3), (.sub (.var 0) (.con (.int 2)))])]⟩
def e_holds : Ent := ⟨"holds", topS 14, ["tree", "facts", "kind", "value", "one", "rows", "decided", "part"], f_holds, true, false⟩
theorem bd_holds : e_holds.Bd := Ent.bd_of (ps := ["tree", "facts"]) (by rfl) fun _ _ _ _ _ _ us hl => match us, hl with | [_, _], _ => rfl
/-- is_alike: one other kinds value -/
def f_is_alike : Fn := ⟨2, 4, [
  .asg (.nm 2) (.lc (.tup [(.call 10 [(.var 3)]), (.cmp .is (.var 3) (.con (.bl true))), (.cmp .is (.var 3) (.con (.bl false)))]) (.nm 3) (.it (.tup [(.var 0), (.var 1)])) []),
  .ret (.and [(.cmp .eq (.var 0) (.var 1)), (.cmp .eq (.sub (.var 2) (.con (.int 0))) (.sub (.var 2) (.con (.int 1))))])]⟩
def e_is_alike : Ent := ⟨"is_alike", topS 15, ["one", "other", "kinds", "value"], f_is_alike, false, false⟩
theorem bd_is_alike : e_is_alike.Bd := Ent.bd_of (ps := ["one", "other"]) (by rfl) fun _ _ _ _ _ _ us hl => match us, hl with | [_, _], _ => rfl
/-- is_text: value -/
def f_is_text : Fn := ⟨1, 1, [
  .ret (.cmp .eq (.bi .str [(.var 0)]) (.var 0))]⟩
def e_is_text : Ent := ⟨"is_text", topS 16, ["value"], f_is_text, false, false⟩
theorem bd_is_text : e_is_text.Bd := Ent.bd_of (ps := ["value"]) (by rfl) fun _ _ _ _ _ _ us hl => match us, hl with | [_], _ => rfl
/-- compared: sign value other -/
def f_compared : Fn := ⟨3, 3, [
  .ite (.tv (.cmp .isin (.var 0) (.tup [(.con (.str [61])), (.con (.str [33, 61]))]))) [
    .ret (.cmp .eq (.call 9 [(.var 1), (.var 2)]) (.cmp .eq (.var 0) (.con (.str [61]))))] [],
  .ite (.or [(.tv (.call 10 [(.var 1)])), (.tv (.call 10 [(.var 2)])), (.tv (.cmp .is (.var 1) (.con (.bl true)))), (.tv (.cmp .is (.var 1) (.con (.bl false))))]) [
    .ret (.con (.bl false))] [],
  .ret (.sub (.dct [(.kv (.con (.str [60])) (.cmp .lt (.var 1) (.var 2))), (.kv (.con (.str [62])) (.cmp .gt (.var 1) (.var 2))), (.kv (.con (.str [60, 61])) (.cmp .le (.var 1) (.var 2))), (.kv (.con (.str [62, 61])) (.cmp .ge (.var 1) (.var 2)))]) (.var 0))]⟩
def e_compared : Ent := ⟨"compared", topS 17, ["sign", "value", "other"], f_compared, false, false⟩
theorem bd_compared : e_compared.Bd := Ent.bd_of (ps := ["sign", "value", "other"]) (by rfl) fun _ _ _ _ _ _ us hl => match us, hl with | [_, _, _], _ => rfl
/-- names_in_tree: tree found part name -/
def f_names_in_tree : Fn := ⟨1, 4, [
  .ite (.tv (.cmp .isin (.sub (.var 0) (.con (.int 0))) (.tup [(.con (.str [121, 101, 115])), (.con (.str [110, 111]))]))) [
    .ret (.tup [])] [],
  .ite (.tv (.cmp .isin (.sub (.var 0) (.con (.int 0))) (.tup [(.con (.str [110, 111, 116])), (.con (.str [97, 110, 100])), (.con (.str [111, 114]))]))) [
    .asg (.nm 1) (.dct []),
    .for_ (.nm 2) (.it (.slc (.var 0) (.con (.int 1)) (.con .non))) [
      .upd 1 (.dc (.var 3) (.con (.bl true)) (.nm 3) (.it (.call 12 [(.var 2)])) [])],
    .ret (.bi .tuple [(.bi .sorted [(.var 1)])])] [],
  .ret (.tup [(.sub (.var 0) (.con (.int 1)))])]⟩
def e_names_in_tree : Ent := ⟨"names_in_tree", topS 18, ["tree", "found", "part", "name"], f_names_in_tree, false, false⟩
theorem bd_names_in_tree : e_names_in_tree.Bd := Ent.bd_of (ps := ["tree"]) (by rfl) fun _ _ _ _ _ _ us hl => match us, hl with | [_], _ => rfl
/-- condition_text: tree -/
def f_condition_text : Fn := ⟨1, 1, [
  .ret (.call 14 [(.var 0), (.con (.int 0))])]⟩
def e_condition_text : Ent := ⟨"condition_text", topS 19, ["tree"], f_condition_text, false, false⟩
theorem bd_condition_text : e_condition_text.Bd := Ent.bd_of (ps := ["tree"]) (by rfl) fun _ _ _ _ _ _ us hl => match us, hl with | [_], _ => rfl
/-- text_at: tree level kind own text value -/
def f_text_at : Fn := ⟨2, 6, [
  .asg (.nm 2) (.sub (.var 0) (.con (.int 0))),
  .ite (.tv (.cmp .isin (.var 2) (.tup [(.con (.str [121, 101, 115])), (.con (.str [110, 111]))]))) [
    .retV 2] [],
  .ite (.tv (.cmp .eq (.var 2) (.con (.str [110, 111, 116])))) [
    .ret (.bin .add (.con (.str [110, 111, 116, 32])) (.call 14 [(.sub (.var 0) (.con (.int 1))), (.con (.int 2))]))] [],
  .ite (.tv (.cmp .isin (.var 2) (.tup [(.con (.str [97, 110, 100])), (.con (.str [111, 114]))]))) [
    .asg (.nm 3) (.ifx (.tv (.cmp .eq (.var 2) (.con (.str [111, 114])))) (.con (.int 0)) (.con (.int 1))),
    .frz [3],
    .asg (.nm 4) (.bin .add (.bin .add (.call 14 [(.sub (.var 0) (.con (.int 1))), (.var 3)]) (.fstr [(.con (.str [32])), (.var 2), (.con (.str [32]))])) (.call 14 [(.sub (.var 0) (.con (.int 2))), (.bin .add (.var 3) (.con (.int 1)))])),
    .frz [4],
    .ret (.ifx (.tv (.cmp .gt (.var 1) (.var 3))) (.bin .add (.bin .add (.con (.str [40])) (.var 4)) (.con (.str [41]))) (.var 4))] [],
  .ite (.tv (.cmp .eq (.var 2) (.con (.str [105, 115])))) [
    .ret (.sub (.var 0) (.con (.int 1)))] [],
  .ite (.tv (.cmp .eq (.var 2) (.con (.str [105, 110])))) [
    .ret (.bin .add (.bin .add (.fstr [(.sub (.var 0) (.con (.int 1))), (.con (.str [32, 105, 110, 32, 40]))]) (.mt .join (.con (.str [44, 32])) [(.lc (.bi .str [(.var 5)]) (.nm 5) (.it (.sub (.var 0) (.con (.int 2)))) [])])) (.con (.str [41])))] [],
  .ret (.fstr [(.sub (.var 0) (.con (.int 1))), (.con (.str [32])), (.var 2), (.con (.str [32])), (.sub (.var 0) (.con (.int 2)))])]⟩
def e_text_at : Ent := ⟨"text_at", topS 20, ["tree", "level", "kind", "own", "text", "value"], f_text_at, false, false⟩
theorem bd_text_at : e_text_at.Bd := Ent.bd_of (ps := ["tree", "level"]) (by rfl) fun _ _ _ _ _ _ us hl => match us, hl with | [_, _], _ => rfl
/-- least_facts: tree facts names whole rows name good row -/
def f_least_facts : Fn := ⟨2, 8, [
  .asg (.tp [2, 3]) (.tup [(.lc (.var 5) (.nm 5) (.it (.call 12 [(.var 0)])) [(.tv (.cmp .isin (.var 5) (.var 1)))]), (.call 8 [(.var 0), (.var 1)])]),
  .ite (.tv (.cmp .gt (.bi .len [(.var 2)]) (.con (.int 8)))) [
    .raise 1] [],
  .ite (.tv (.cmp .is (.var 3) (.con (.non)))) [
    .ret (.con (.non))] [],
  .asg (.nm 4) (.lst [(.tup [])]),
  .frz [2],
  .for_ (.nm 5) (.it (.var 2)) [
    .aug 4 .add (.lc (.bin .add (.var 7) (.tup [(.var 5)])) (.nm 7) (.it (.var 4)) [])],
  .asg (.nm 6) (.lc (.tup [(.bi .len [(.var 7)]), (.var 7)]) (.nm 7) (.it (.var 4)) [(.tv (.cmp .eq (.call 8 [(.var 0), (.dc (.var 5) (.sub (.var 1) (.var 5)) (.nm 5) (.it (.var 7)) [])]) (.var 3)))]),
  .ret (.sub (.bi .min [(.var 6)]) (.con (.int 1)))]⟩
def e_least_facts : Ent := ⟨"least_facts", topS 21, ["tree", "facts", "names", "whole", "rows", "name", "good", "row"], f_least_facts, false, false⟩
theorem bd_least_facts : e_least_facts.Bd := Ent.bd_of (ps := ["tree", "facts"]) (by rfl) fun _ _ _ _ _ _ us hl => match us, hl with | [_, _], _ => rfl
/-- _law_dice: cell -/
def f__law_dice : Fn := ⟨1, 1, [
  .ite (.tv (.chain .lt .lt (.bin .sub (.con (.int 0)) (.con (.int 10))) (.var 0) (.con (.int 10)))) [
    .ret (.box [(.bi .abs [(.var 0)]), (.con (.int 0)), (.con (.int 2))])] [],
  .ret (.box [(.var 0), (.bin .add (.con (.int 1)) (.bin .mod (.bi .int [(.var 0)]) (.con (.int 1009)))), (.bi .int [(.cmp .ge (.var 0) (.bin .pow (.con (.int 10)) (.con (.int 18))))])])]⟩
def e__law_dice : Ent := ⟨"_law_dice", topS 23, ["cell"], f__law_dice, false, false⟩
theorem bd__law_dice : e__law_dice.Bd := Ent.bd_of (ps := ["cell"]) (by rfl) fun _ _ _ _ _ _ us hl => match us, hl with | [_], _ => rfl
/-- _law_roll: dice many found -/
def f__law_roll : Fn := ⟨2, 3, [
  .ite (.or [(.tv (.cmp .eq (.sub (.var 0) (.con (.int 2))) (.con (.int 2)))), (.and [(.tv (.cmp .eq (.sub (.var 0) (.con (.int 2))) (.con (.int 1)))), (.tv (.cmp .gt (.sub (.var 0) (.con (.int 0))) (.con (.int 0))))])]) [
    .asg (.nm 2) (.bin .mod (.bi .int [(.sub (.var 0) (.con (.int 0)))]) (.var 1)),
    .setI (.var 0) (.con (.int 0)) (.bin .fdiv (.sub (.var 0) (.con (.int 0))) (.var 1)),
    .retV 2] [],
  .setI (.var 0) (.con (.int 2)) (.con (.int 0)),
  .ite (.tv (.cmp .gt (.var 1) (.con (.int 100000000)))) [
    .ret (.bin .mod (.bi .int [(.bin .add (.bin .mul (.call 17 [(.var 0), (.bin .add (.bin .fdiv (.var 1) (.con (.int 100000000))) (.con (.int 1)))]) (.con (.int 100000000))) (.call 17 [(.var 0), (.con (.int 100000000))]))]) (.var 1))] [],
  .setI (.var 0) (.con (.int 0)) (.bin .mod (.bi .int [(.bin .add (.bin .add (.bin .mul (.sub (.var 0) (.con (.int 0))) (.con (.int 48271))) (.bin .mul (.sub (.var 0) (.con (.int 1))) (.con (.int 69621)))) (.con (.int 11)))]) (.con (.int 2147483647))),
  .setI (.var 0) (.con (.int 1)) (.bin .add (.sub (.var 0) (.con (.int 1))) (.con (.int 1))),
  .ret (.bin .mod (.bi .int [(.bin .fdiv (.sub (.var 0) (.con (.int 0))) (.con (.int 7)))]) (.var 1))]⟩
def e__law_roll : Ent := ⟨"_law_roll", topS 24, ["dice", "many", "found"], f__law_roll, false, false⟩
theorem bd__law_roll : e__law_roll.Bd := Ent.bd_of (ps := ["dice", "many"]) (by rfl) fun _ _ _ _ _ _ us hl => match us, hl with | [_, _], _ => rfl
/-- _law_rounds: script most cells cell -/
def f__law_rounds : Fn := ⟨2, 4, [
  .asg (.nm 2) (.slc (.var 0) (.con .non) (.var 1)),
  .ite (.tv (.cmp .eq (.var 2) (.lst []))) [
    .asg (.nm 2) (.lst [(.con (.int 0))])] [],
  .ret (.lc (.call 16 [(.var 3)]) (.nm 3) (.it (.var 2)) [])]⟩
def e__law_rounds : Ent := ⟨"_law_rounds", topS 25, ["script", "most", "cells", "cell"], f__law_rounds, false, false⟩
theorem bd__law_rounds : e__law_rounds.Bd := Ent.bd_of (ps := ["script", "most"]) (by rfl) fun _ _ _ _ _ _ us hl => match us, hl with | [_, _], _ => rfl
def e__law_told : Ent := ⟨"_law_told", topS 26, ["what"], ⟨1, 1, []⟩, false, false⟩
theorem bd__law_told : e__law_told.Bd := Ent.bd_of (ps := ["what"]) (by rfl) fun _ _ _ _ _ _ us hl => match us, hl with | [_], _ => rfl
/-- _law_tree: dice deep sort name value k -/
def f__law_tree : Fn := ⟨2, 6, [
  .asg (.nm 2) (.call 17 [(.var 0), (.ifx (.tv (.cmp .eq (.var 1) (.con (.int 0)))) (.con (.int 5)) (.con (.int 9)))]),
  .par [3, 4] [(.sub (.lst [(.con (.str [97])), (.con (.str [98])), (.con (.str [99, 95, 100]))]) (.call 17 [(.var 0), (.con (.int 3))])), (.sub (.lst [(.con (.int 0)), (.con (.int 5)), (.neg (.con (.int 3))), (.con (.str [120])), (.con (.str [121, 45, 49]))]) (.call 17 [(.var 0), (.con (.int 5))]))],
  .ite (.tv (.cmp .eq (.var 2) (.con (.int 0)))) [
    .ret (.sub (.lst [(.tup [(.con (.str [121, 101, 115]))]), (.tup [(.con (.str [110, 111]))])]) (.call 17 [(.var 0), (.con (.int 2))]))] [],
  .ite (.tv (.cmp .eq (.var 2) (.con (.int 1)))) [
    .frz [3],
    .ret (.tup [(.con (.str [105, 115])), (.var 3)])] [],
  .ite (.tv (.cmp .lt (.var 2) (.con (.int 4)))) [
    .frz [3, 4],
    .ret (.tup [(.sub (.lst [(.con (.str [60, 61])), (.con (.str [62, 61])), (.con (.str [33, 61])), (.con (.str [61])), (.con (.str [60])), (.con (.str [62]))]) (.call 17 [(.var 0), (.con (.int 6))])), (.var 3), (.var 4)])] [],
  .ite (.tv (.cmp .eq (.var 2) (.con (.int 4)))) [
    .frz [3],
    .ret (.tup [(.con (.str [105, 110])), (.var 3), (.bi .tuple [(.lc (.sub (.lst [(.con (.int 1)), (.con (.int 5)), (.con (.str [120]))]) (.call 17 [(.var 0), (.con (.int 3))])) (.nm 5) (.rng [(.bin .add (.con (.int 1)) (.call 17 [(.var 0), (.con (.int 3))]))]) [])])])] [],
  .ite (.tv (.cmp .eq (.var 2) (.con (.int 5)))) [
    .ret (.tup [(.con (.str [110, 111, 116])), (.call 19 [(.var 0), (.bin .sub (.var 1) (.con (.int 1)))])])] [],
  .ret (.tup [(.sub (.lst [(.con (.str [97, 110, 100])), (.con (.str [111, 114]))]) (.call 17 [(.var 0), (.con (.int 2))])), (.call 19 [(.var 0), (.bin .sub (.var 1) (.con (.int 1)))]), (.call 19 [(.var 0), (.bin .sub (.var 1) (.con (.int 1)))])])]⟩
def e__law_tree : Ent := ⟨"_law_tree", topS 27, ["dice", "deep", "sort", "name", "value", "k"], f__law_tree, false, false⟩
theorem bd__law_tree : e__law_tree.Bd := Ent.bd_of (ps := ["dice", "deep"]) (by rfl) fun _ _ _ _ _ _ us hl => match us, hl with | [_, _], _ => rfl
/-- _law_same: one other texts flags part -/
def f__law_same : Fn := ⟨2, 5, [
  .par [2, 3] [(.lc (.cmp .eq (.bi .str [(.var 4)]) (.var 4)) (.nm 4) (.it (.lst [(.var 0), (.var 1)])) []), (.lc (.or [(.cmp .is (.var 4) (.con (.bl true))), (.cmp .is (.var 4) (.con (.bl false)))]) (.nm 4) (.it (.lst [(.var 0), (.var 1)])) [])],
  .ret (.and [(.cmp .eq (.sub (.var 2) (.con (.int 0))) (.sub (.var 2) (.con (.int 1)))), (.cmp .eq (.sub (.var 3) (.con (.int 0))) (.sub (.var 3) (.con (.int 1)))), (.cmp .eq (.var 0) (.var 1))])]⟩
def e__law_same : Ent := ⟨"_law_same", topS 28, ["one", "other", "texts", "flags", "part"], f__law_same, false, false⟩
theorem bd__law_same : e__law_same.Bd := Ent.bd_of (ps := ["one", "other"]) (by rfl) fun _ _ _ _ _ _ us hl => match us, hl with | [_, _], _ => rfl
/-- _law_holds: tree facts kind value parts strong part one -/
def f__law_holds : Fn := ⟨2, 8, [
  .asg (.nm 2) (.sub (.var 0) (.con (.int 0))),
  .ite (.tv (.cmp .isin (.var 2) (.lst [(.con (.str [121, 101, 115])), (.con (.str [110, 111]))]))) [
    .ret (.cmp .eq (.var 2) (.con (.str [121, 101, 115])))] [],
  .ite (.tv (.cmp .isin (.var 2) (.lst [(.con (.str [97, 110, 100])), (.con (.str [111, 114])), (.con (.str [110, 111, 116]))]))) [
    .asg (.nm 4) (.lc (.call 21 [(.var 6), (.var 1)]) (.nm 6) (.it (.slc (.var 0) (.con (.int 1)) (.con .non))) []),
    .ite (.tv (.cmp .eq (.var 2) (.con (.str [110, 111, 116])))) [
      .ret (.ifx (.tv (.cmp .is (.sub (.var 4) (.con (.int 0))) (.con (.non)))) (.con (.non)) (.not (.tv (.sub (.var 4) (.con (.int 0))))))] [],
    .asg (.nm 5) (.cmp .eq (.var 2) (.con (.str [111, 114]))),
    .ret (.ifx (.tv (.cmp .isin (.var 5) (.var 4))) (.var 5) (.ifx (.tv (.cmp .isin (.con (.non)) (.var 4))) (.con (.non)) (.not (.tv (.var 5)))))] [],
  .ite (.tv (.cmp .notin (.sub (.var 0) (.con (.int 1))) (.var 1))) [
    .ret (.con (.non))] [],
  .asg (.nm 3) (.sub (.var 1) (.sub (.var 0) (.con (.int 1)))),
  .ite (.tv (.cmp .isin (.var 2) (.lst [(.con (.str [105, 115])), (.con (.str [105, 110]))]))) [
    .frz [3],
    .ret (.ifx (.tv (.cmp .eq (.var 2) (.con (.str [105, 115])))) (.cmp .is (.var 3) (.con (.bl true))) (.cmp .ne (.lc (.con (.int 1)) (.nm 7) (.it (.sub (.var 0) (.con (.int 2)))) [(.tv (.call 20 [(.var 3), (.var 7)]))]) (.lst [])))] [],
  .ite (.tv (.cmp .isin (.var 2) (.lst [(.con (.str [61])), (.con (.str [33, 61]))]))) [
    .frz [3],
    .ret (.cmp .eq (.call 20 [(.var 3), (.sub (.var 0) (.con (.int 2)))]) (.cmp .eq (.var 2) (.con (.str [61]))))] [],
  .ite (.or [(.tv (.cmp .is (.var 3) (.con (.bl true)))), (.tv (.cmp .is (.var 3) (.con (.bl false)))), (.tv (.cmp .eq (.bi .str [(.var 3)]) (.var 3))), (.tv (.cmp .eq (.bi .str [(.sub (.var 0) (.con (.int 2)))]) (.sub (.var 0) (.con (.int 2)))))]) [
    .ret (.con (.bl false))] [],
  .ret (.or [(.and [(.cmp .eq (.sub (.var 2) (.neg (.con (.int 1)))) (.con (.str [61]))), (.cmp .eq (.var 3) (.sub (.var 0) (.con (.int 2))))]), (.ifx (.tv (.cmp .eq (.sub (.var 2) (.con (.int 0))) (.con (.str [60])))) (.cmp .lt (.var 3) (.sub (.var 0) (.con (.int 2)))) (.cmp .gt (.var 3) (.sub (.var 0) (.con (.int 2)))))])]⟩
def e__law_holds : Ent := ⟨"_law_holds", topS 29, ["tree", "facts", "kind", "value", "parts", "strong", "part", "one"], f__law_holds, false, false⟩
theorem bd__law_holds : e__law_holds.Bd := Ent.bd_of (ps := ["tree", "facts"]) (by rfl) fun _ _ _ _ _ _ us hl => match us, hl with | [_, _], _ => rfl
/-- _law_text: tree level kind own text value -/
def f__law_text : Fn := ⟨2, 6, [
  .asg (.nm 2) (.sub (.var 0) (.con (.int 0))),
  .ite (.tv (.cmp .isin (.var 2) (.lst [(.con (.str [121, 101, 115])), (.con (.str [110, 111])), (.con (.str [105, 115]))]))) [
    .ret (.sub (.var 0) (.neg (.con (.int 1))))] [],
  .ite (.tv (.cmp .eq (.var 2) (.con (.str [110, 111, 116])))) [
    .ret (.bin .add (.con (.str [110, 111, 116, 32])) (.call 22 [(.sub (.var 0) (.con (.int 1))), (.con (.int 2))]))] [],
  .ite (.tv (.cmp .eq (.var 2) (.con (.str [105, 110])))) [
    .ret (.bin .add (.bin .add (.bin .add (.sub (.var 0) (.con (.int 1))) (.con (.str [32, 105, 110, 32, 40]))) (.mt .join (.con (.str [44, 32])) [(.lc (.bi .str [(.var 5)]) (.nm 5) (.it (.sub (.var 0) (.con (.int 2)))) [])])) (.con (.str [41])))] [],
  .ite (.tv (.cmp .isin (.var 2) (.lst [(.con (.str [97, 110, 100])), (.con (.str [111, 114]))]))) [
    .asg (.nm 3) (.bi .int [(.cmp .eq (.var 2) (.con (.str [97, 110, 100])))]),
    .frz [3],
    .asg (.nm 4) (.bin .add (.bin .add (.bin .add (.bin .add (.call 22 [(.sub (.var 0) (.con (.int 1))), (.var 3)]) (.con (.str [32]))) (.var 2)) (.con (.str [32]))) (.call 22 [(.sub (.var 0) (.con (.int 2))), (.bin .add (.var 3) (.con (.int 1)))])),
    .frz [4],
    .ret (.ifx (.tv (.cmp .gt (.var 1) (.var 3))) (.bin .add (.bin .add (.con (.str [40])) (.var 4)) (.con (.str [41]))) (.var 4))] [],
  .ret (.bin .add (.bin .add (.bin .add (.bin .add (.sub (.var 0) (.con (.int 1))) (.con (.str [32]))) (.var 2)) (.con (.str [32]))) (.bi .str [(.sub (.var 0) (.con (.int 2)))]))]⟩
def e__law_text : Ent := ⟨"_law_text", topS 30, ["tree", "level", "kind", "own", "text", "value"], f__law_text, false, false⟩
theorem bd__law_text : e__law_text.Bd := Ent.bd_of (ps := ["tree", "level"]) (by rfl) fun _ _ _ _ _ _ us hl => match us, hl with | [_, _], _ => rfl
/-- _law_names: tree found part name -/
def f__law_names : Fn := ⟨1, 4, [
  .ite (.tv (.cmp .isin (.sub (.var 0) (.con (.int 0))) (.lst [(.con (.str [121, 101, 115])), (.con (.str [110, 111]))]))) [
    .ret (.lst [])] [],
  .ite (.tv (.cmp .notin (.sub (.var 0) (.con (.int 0))) (.lst [(.con (.str [97, 110, 100])), (.con (.str [111, 114])), (.con (.str [110, 111, 116]))]))) [
    .ret (.lst [(.sub (.var 0) (.con (.int 1)))])] [],
  .asg (.nm 1) (.lst []),
  .for_ (.nm 2) (.it (.slc (.var 0) (.con (.int 1)) (.con .non))) [
    .asg (.nm 1) (.bin .add (.var 1) (.lc (.var 3) (.nm 3) (.it (.call 23 [(.var 2)])) [(.tv (.cmp .notin (.var 3) (.var 1)))]))],
  .ret (.bi .sorted [(.var 1)])]⟩
def e__law_names : Ent := ⟨"_law_names", topS 31, ["tree", "found", "part", "name"], f__law_names, false, false⟩
theorem bd__law_names : e__law_names.Bd := Ent.bd_of (ps := ["tree"]) (by rfl) fun _ _ _ _ _ _ us hl => match us, hl with | [_], _ => rfl
/-- _law_plain: many bad tree f facts k -/
def f__law_plain : Fn := ⟨0, 6, [
  .asg (.nm 0) (.call 1 [(.mt .join (.con (.str [32, 97, 110, 100, 32])) [(.lc (.bin .mul (.con (.str [97])) (.var 5)) (.nm 5) (.rng [(.con (.int 1)), (.con (.int 10))]) [])])]),
  .frz [0],
  .bads 1 1 [(.call 0 [(.con (.str []))]), (.call 0 [(.con (.str [32, 32]))]), (.call 1 [(.con (.str [97, 32, 98]))]), (.call 1 [(.con (.str [97, 110, 100]))]), (.call 1 [(.con (.str [97, 32, 97, 110, 100]))]), (.call 1 [(.con (.str [40, 97]))]), (.call 1 [(.con (.str [97, 41]))]), (.call 1 [(.con (.str [97, 32, 61]))]), (.call 1 [(.con (.str [97, 32, 61, 32, 97, 110, 100]))]), (.call 1 [(.con (.str [65]))]), (.call 1 [(.con (.str [97, 32, 105, 110]))]), (.call 1 [(.con (.str [97, 32, 105, 110, 32, 40]))]), (.call 1 [(.con (.str [97, 32, 105, 110, 32, 40, 41]))]), (.call 1 [(.con (.str [97, 32, 105, 110, 32, 40, 49]))]), (.call 1 [(.con (.str [97, 32, 105, 110, 32, 40, 49, 32, 50, 41]))]), (.call 1 [(.con (.str [97, 32, 61, 32, 48, 49]))]), (.call 1 [(.con (.str [97, 32, 61, 32, 59]))]), (.call 1 [(.con (.str [97, 32, 61, 32, 120, 33]))]), (.call 7 [(.con (.str []))]), (.call 7 [(.con (.str [121, 101, 115]))]), (.call 7 [(.con (.str [49, 50, 51, 52, 53, 54, 55, 56, 57, 48]))]), (.call 7 [(.con (.str [97, 32, 98]))]), (.call 15 [(.var 0), (.bi .dict [(.lc (.tup [(.bin .mul (.con (.str [97])) (.var 5)), (.con (.bl true))]) (.nm 5) (.rng [(.con (.int 1)), (.con (.int 10))]) [])])])],
  .ite (.tv (.cmp .ne (.tup [(.glo 0), (.glo 1)]) (.tup [(.tup [(.con (.str [60, 61])), (.con (.str [62, 61])), (.con (.str [33, 61])), (.con (.str [61])), (.con (.str [60])), (.con (.str [62]))]), (.tup [(.con (.str [97, 110, 100])), (.con (.str [111, 114])), (.con (.str [110, 111, 116])), (.con (.str [105, 110])), (.con (.str [40])), (.con (.str [41])), (.con (.str [121, 101, 115])), (.con (.str [110, 111]))])]))) [
    .ret (.con (.bl false))] [],
  .asg (.nm 2) (.call 1 [(.con (.str [97, 103, 101, 32, 62, 61, 32, 49, 56, 32, 97, 110, 100, 32, 40, 107, 105, 110, 100, 32, 61, 32, 103, 111, 108, 100, 32, 111, 114, 32, 110, 111, 116, 32, 108, 97, 116, 101, 41]))]),
  .ite (.tv (.cmp .ne (.var 2) (.tup [(.con (.str [97, 110, 100])), (.tup [(.con (.str [62, 61])), (.con (.str [97, 103, 101])), (.con (.int 18))]), (.tup [(.con (.str [111, 114])), (.tup [(.con (.str [61])), (.con (.str [107, 105, 110, 100])), (.con (.str [103, 111, 108, 100]))]), (.tup [(.con (.str [110, 111, 116])), (.tup [(.con (.str [105, 115])), (.con (.str [108, 97, 116, 101]))])])])]))) [
    .ret (.con (.bl false))] [],
  .frz [2],
  .ite (.tv (.cmp .ne (.lc (.call 8 [(.var 2), (.var 4)]) (.nm 4) (.it (.tup [(.dct [(.kv (.con (.str [97, 103, 101])) (.con (.int 20)))]), (.dct [(.kv (.con (.str [97, 103, 101])) (.con (.int 5)))]), (.dct [(.kv (.con (.str [97, 103, 101])) (.con (.int 20))), (.kv (.con (.str [108, 97, 116, 101])) (.con (.bl false)))])])) []) (.lst [(.con (.non)), (.con (.bl false)), (.con (.bl true))]))) [
    .ret (.con (.bl false))] [],
  .frz [2],
  .ite (.tv (.cmp .ne (.call 15 [(.var 2), (.dct [(.kv (.con (.str [97, 103, 101])) (.con (.int 20))), (.kv (.con (.str [108, 97, 116, 101])) (.con (.bl false))), (.kv (.con (.str [107, 105, 110, 100])) (.con (.str [103, 111, 108, 100])))])]) (.tup [(.con (.str [97, 103, 101])), (.con (.str [107, 105, 110, 100]))]))) [
    .ret (.con (.bl false))] [],
  .ite (.tv (.cmp .ne (.call 0 [(.con (.str [97, 60, 61, 51]))]) (.tup [(.con (.str [97])), (.con (.str [60, 61])), (.con (.str [51]))]))) [
    .ret (.con (.bl false))] [],
  .ite (.tv (.cmp .ne (.call 1 [(.con (.str [97, 32, 105, 110, 32, 40, 49, 44, 32, 45, 50, 44, 32, 120, 45, 121, 41]))]) (.tup [(.con (.str [105, 110])), (.con (.str [97])), (.tup [(.con (.int 1)), (.neg (.con (.int 2))), (.con (.str [120, 45, 121]))])]))) [
    .ret (.con (.bl false))] [],
  .ret (.cmp .eq (.call 0 [(.con (.str [97, 33, 61, 98]))]) (.tup [(.con (.str [97])), (.con (.str [33, 61])), (.con (.str [98]))]))]⟩
def e__law_plain : Ent := ⟨"_law_plain", topS 32, ["many", "bad", "tree", "f", "facts", "k"], f__law_plain, false, true⟩
theorem bd__law_plain : e__law_plain.Bd := Ent.bd_of (ps := []) (by rfl) fun _ _ _ _ _ _ us hl => match us, hl with | [], _ => rfl
/-- law: script dice tree text tight facts whole rows name good more one other word letters k sign row -/
def f_law : Fn := ⟨1, 18, [
  .for_ (.nm 1) (.it (.call 18 [(.var 0), (.con (.int 1))])) [
    .asg (.nm 2) (.call 19 [(.var 1), (.call 17 [(.var 1), (.con (.int 5))])]),
    .frz [2],
    .asg (.nm 3) (.call 22 [(.var 2), (.con (.int 0))]),
    .frz [2, 3],
    .ite (.or [(.tv (.cmp .ne (.call 13 [(.var 2)]) (.var 3))), (.tv (.cmp .ne (.call 1 [(.var 3)]) (.var 2)))]) [
      .ret (.con (.bl false))] [],
    .frz [2],
    .ite (.or [(.tv (.cmp .ne (.bi .list [(.call 12 [(.var 2)])]) (.call 23 [(.var 2)]))), (.tv (.cmp .ne (.call 14 [(.var 2), (.con (.int 2))]) (.call 22 [(.var 2), (.con (.int 2))])))]) [
      .ret (.con (.bl false))] [],
    .asg (.nm 4) (.mt .replace (.mt .replace (.mt .replace (.var 3) [(.con (.str [32, 60, 61, 32])), (.con (.str [60, 61]))]) [(.con (.str [32, 61, 32])), (.con (.str [61]))]) [(.con (.str [44, 32])), (.con (.str [44]))]),
    .ite (.or [(.tv (.cmp .ne (.call 1 [(.bin .add (.bin .add (.con (.str [32, 32])) (.var 4)) (.con (.str [32])))]) (.var 2))), (.tv (.cmp .ne (.call 1 [(.bin .add (.bin .add (.con (.str [40, 40])) (.var 3)) (.con (.str [41, 41])))]) (.var 2)))]) [
      .ret (.con (.bl false))] [],
    .asg (.nm 5) (.bi .dict [(.lc (.tup [(.var 8), (.sub (.lst [(.con (.int 0)), (.con (.int 5)), (.con (.int 6)), (.con (.str [120])), (.con (.bl true)), (.con (.bl false))]) (.call 17 [(.var 1), (.con (.int 6))]))]) (.nm 8) (.it (.lst [(.con (.str [97])), (.con (.str [98])), (.con (.str [99, 95, 100]))])) [(.tv (.cmp .gt (.call 17 [(.var 1), (.con (.int 3))]) (.con (.int 0))))])]),
    .frz [2, 5],
    .asg (.nm 6) (.call 21 [(.var 2), (.var 5)]),
    .frz [2, 5],
    .ite (.tv (.cmp .ne (.call 8 [(.var 2), (.var 5)]) (.var 6))) [
      .ret (.con (.bl false))] [],
    .frz [2],
    .ite (.and [(.tv (.cmp .is (.var 6) (.con (.non)))), (.tv (.cmp .eq (.lc (.var 8) (.nm 8) (.it (.call 23 [(.var 2)])) [(.tv (.cmp .notin (.var 8) (.var 5)))]) (.lst [])))]) [
      .ret (.con (.bl false))] [],
    .asg (.nm 7) (.lst [(.tup [])]),
    .frz [2],
    .for_ (.nm 8) (.it (.lc (.var 8) (.nm 8) (.it (.call 23 [(.var 2)])) [(.tv (.cmp .isin (.var 8) (.var 5)))])) [
      .asg (.nm 7) (.bin .add (.var 7) (.lc (.bin .add (.var 17) (.tup [(.var 8)])) (.nm 17) (.it (.var 7)) []))],
    .frz [2],
    .asg (.nm 9) (.bi .sorted [(.lc (.tup [(.bi .len [(.var 17)]), (.var 17)]) (.nm 17) (.it (.var 7)) [(.tv (.cmp .eq (.call 21 [(.var 2), (.bi .dict [(.lc (.tup [(.var 8), (.sub (.var 5) (.var 8))]) (.nm 8) (.it (.var 17)) [])])]) (.var 6)))])]),
    .frz [2, 5],
    .ite (.tv (.cmp .ne (.call 15 [(.var 2), (.var 5)]) (.ifx (.tv (.cmp .is (.var 6) (.con (.non)))) (.con (.non)) (.sub (.sub (.var 9) (.con (.int 0))) (.con (.int 1)))))) [
      .ret (.con (.bl false))] [],
    .asg (.nm 10) (.bi .dict [(.lc (.tup [(.var 8), (.mt .get (.var 5) [(.var 8), (.sub (.lst [(.con (.int 0)), (.con (.int 7)), (.con (.str [121])), (.con (.bl true))]) (.call 17 [(.var 1), (.con (.int 4))]))])]) (.nm 8) (.it (.lst [(.con (.str [97])), (.con (.str [98])), (.con (.str [99, 95, 100]))])) [])]),
    .frz [2, 10],
    .ite (.and [(.tv (.cmp .isnot (.var 6) (.con (.non)))), (.tv (.cmp .ne (.call 8 [(.var 2), (.var 10)]) (.var 6)))]) [
      .ret (.con (.bl false))] [],
    .asg (.tp [11, 12]) (.lc (.sub (.lst [(.con (.int 0)), (.con (.int 5)), (.neg (.con (.int 1))), (.con (.str [120])), (.con (.str [53])), (.con (.bl true)), (.con (.bl false))]) (.call 17 [(.var 1), (.con (.int 7))])) (.nm 15) (.rng [(.con (.int 2))]) []),
    .ite (.or [(.tv (.cmp .ne (.call 9 [(.var 11), (.var 12)]) (.call 20 [(.var 11), (.var 12)]))), (.tv (.cmp .ne (.call 10 [(.var 11)]) (.cmp .eq (.bi .str [(.var 11)]) (.var 11))))]) [
      .ret (.con (.bl false))] [],
    .ite (.tv (.cmp .ne (.lc (.call 11 [(.var 16), (.var 11), (.con (.int 5))]) (.nm 16) (.it (.glo 0)) []) (.lc (.call 21 [(.tup [(.var 16), (.con (.str [97])), (.con (.int 5))]), (.dct [(.kv (.con (.str [97])) (.var 11))])]) (.nm 16) (.it (.glo 0)) []))) [
      .ret (.con (.bl false))] [],
    .asg (.nm 13) (.mt .join (.con (.str [])) [(.lc (.sub (.con (.str [97, 95, 45, 48, 120, 57, 32])) (.call 17 [(.var 1), (.con (.int 7))])) (.nm 15) (.rng [(.call 17 [(.var 1), (.con (.int 4))])]) [])]),
    .asg (.nm 14) (.lc (.var 16) (.nm 16) (.it (.var 13)) [(.tv (.cmp .notin (.var 16) (.con (.str [97, 98, 99, 100, 101, 102, 103, 104, 105, 106, 107, 108, 109, 110, 111, 112, 113, 114, 115, 116, 117, 118, 119, 120, 121, 122, 95]))))]),
    .frz [13],
    .ite (.tv (.cmp .ne (.call 6 [(.var 13)]) (.and [(.cmp .ne (.var 13) (.con (.str []))), (.cmp .eq (.var 14) (.lst []))]))) [
      .ret (.con (.bl false))] []],
  .ret (.call 24 [])]⟩
def e_law : Ent := ⟨"law", topS 33, ["script", "dice", "tree", "text", "tight", "facts", "whole", "rows", "name", "good", "more", "one", "other", "word", "letters", "k", "sign", "row"], f_law, false, false⟩
theorem bd_law : e_law.Bd := Ent.bd_of (ps := ["script"]) (by rfl) fun _ _ _ _ _ _ us hl => match us, hl with | [_], _ => rfl
def c_SIGNS : D := .tup [.str [60, 61], .str [62, 61], .str [33, 61], .str [61], .str [60], .str [62]]
def c_WORDS : D := .tup [.str [97, 110, 100], .str [111, 114], .str [110, 111, 116], .str [105, 110], .str [40], .str [41], .str [121, 101, 115], .str [110, 111]]
def ents : List Ent := [e_words_of, e_read_condition, e_read_either, e_read_both, e_read_one, e_read_in, e_is_name, e_value_of, e_holds, e_is_alike, e_is_text, e_compared, e_names_in_tree, e_condition_text, e_text_at, e_least_facts, e__law_dice, e__law_roll, e__law_rounds, e__law_tree, e__law_same, e__law_holds, e__law_text, e__law_names, e__law_plain, e_law]
def txt : Txt := ⟨ents, e__law_told, [("SIGNS", c_SIGNS), ("WORDS", c_WORDS)], [("RuleError", 0), ("ConditionError", 1)], 1, [67, 111, 110, 100, 105, 116, 105, 111, 110, 69, 114, 114, 111, 114]⟩
abbrev prg : Prg := txt.p
theorem bds : ∀ e ∈ txt.told :: txt.es, e.Bd := List.forall_mem_cons.mpr ⟨bd__law_told, List.forall_mem_cons.mpr ⟨bd_words_of, List.forall_mem_cons.mpr ⟨bd_read_condition, List.forall_mem_cons.mpr ⟨bd_read_either, List.forall_mem_cons.mpr ⟨bd_read_both, List.forall_mem_cons.mpr ⟨bd_read_one, List.forall_mem_cons.mpr ⟨bd_read_in, List.forall_mem_cons.mpr ⟨bd_is_name, List.forall_mem_cons.mpr ⟨bd_value_of, List.forall_mem_cons.mpr ⟨bd_holds, List.forall_mem_cons.mpr ⟨bd_is_alike, List.forall_mem_cons.mpr ⟨bd_is_text, List.forall_mem_cons.mpr ⟨bd_compared, List.forall_mem_cons.mpr ⟨bd_names_in_tree, List.forall_mem_cons.mpr ⟨bd_condition_text, List.forall_mem_cons.mpr ⟨bd_text_at, List.forall_mem_cons.mpr ⟨bd_least_facts, List.forall_mem_cons.mpr ⟨bd__law_dice, List.forall_mem_cons.mpr ⟨bd__law_roll, List.forall_mem_cons.mpr ⟨bd__law_rounds, List.forall_mem_cons.mpr ⟨bd__law_tree, List.forall_mem_cons.mpr ⟨bd__law_same, List.forall_mem_cons.mpr ⟨bd__law_holds, List.forall_mem_cons.mpr ⟨bd__law_text, List.forall_mem_cons.mpr ⟨bd__law_names, List.forall_mem_cons.mpr ⟨bd__law_plain, List.forall_mem_cons.mpr ⟨bd_law, fun e he => by cases he⟩⟩⟩⟩⟩⟩⟩⟩⟩⟩⟩⟩⟩⟩⟩⟩⟩⟩⟩⟩⟩⟩⟩⟩⟩⟩⟩
end K01
end S44
section S45
set_option maxRecDepth 100000
set_option Elab.async false
set_option linter.all false
open RS PySem
namespace K01
theorem t0 : toldB txt.T txt.told.st = true := by decide +kernel
theorem t1 : (txt.cls.all (fun q => txt.cn q.2 == q.1)) = true := by decide +kernel
theorem t2 : (decide (txt.es.map (·.x)).Nodup) = true := by decide +kernel
theorem t3 : (txt.es.all fun e => !(e.gen && e.lam)) = true := by decide +kernel
theorem ok_e_words_of : e_words_of.ok txt.T = true := by decide +kernel
theorem ok_e_read_condition : e_read_condition.ok txt.T = true := by decide +kernel
theorem ok_e_read_either : e_read_either.ok txt.T = true := by decide +kernel
theorem ok_e_read_both : e_read_both.ok txt.T = true := by decide +kernel
theorem ok_e_read_one : e_read_one.ok txt.T = true := by decide +kernel
theorem ok_e_read_in : e_read_in.ok txt.T = true := by decide +kernel
theorem ok_e_is_name : e_is_name.ok txt.T = true := by decide +kernel
theorem ok_e_value_of : e_value_of.ok txt.T = true := by decide +kernel
theorem ok_e_holds : e_holds.ok txt.T = true := by decide +kernel
theorem ok_e_is_alike : e_is_alike.ok txt.T = true := by decide +kernel
theorem ok_e_is_text : e_is_text.ok txt.T = true := by decide +kernel
theorem ok_e_compared : e_compared.ok txt.T = true := by decide +kernel
theorem ok_e_names_in_tree : e_names_in_tree.ok txt.T = true := by decide +kernel
theorem ok_e_condition_text : e_condition_text.ok txt.T = true := by decide +kernel
theorem ok_e_text_at : e_text_at.ok txt.T = true := by decide +kernel
theorem ok_e_least_facts : e_least_facts.ok txt.T = true := by decide +kernel
theorem ok_e__law_dice : e__law_dice.ok txt.T = true := by decide +kernel
theorem ok_e__law_roll : e__law_roll.ok txt.T = true := by decide +kernel
theorem ok_e__law_rounds : e__law_rounds.ok txt.T = true := by decide +kernel
theorem ok_e__law_tree : e__law_tree.ok txt.T = true := by decide +kernel
theorem ok_e__law_same : e__law_same.ok txt.T = true := by decide +kernel
theorem ok_e__law_holds : e__law_holds.ok txt.T = true := by decide +kernel
theorem ok_e__law_text : e__law_text.ok txt.T = true := by decide +kernel
theorem ok_e__law_names : e__law_names.ok txt.T = true := by decide +kernel
theorem ok_e__law_plain : e__law_plain.ok txt.T = true := by decide +kernel
theorem ok_e_law : e_law.ok txt.T = true := by decide +kernel
end K01
end S45
section SQ
open RS
local macro_rules | `(tactic| infer_instance) => `(tactic| (((with_reducible apply w.rng2); (focus omega); (focus omega))))
local macro_rules | `(tactic| infer_instance) => `(tactic| (((with_reducible apply w.rng1); (focus omega))))
local macro_rules | `(tactic| infer_instance) => `(tactic| (((with_reducible apply w.int1); (focus rfl))))
local macro_rules | `(tactic| infer_instance) => `(tactic| (((with_reducible apply w.putL1); (focus rfl); (focus rfl); (focus rfl))))
local macro_rules | `(tactic| infer_instance) => `(tactic| (((with_reducible refine And.intro ?_ ?_); (focus first | rfl | ((try simp only [List.length_append, List.length_cons, List.length_nil, List.length_map]); unfold line; omega)))))
local macro_rules | `(tactic| infer_instance) => `(tactic| (with_reducible refine w.kfr ?_))
local macro_rules | `(tactic| infer_instance) => `(tactic| (with_reducible refine w.kfz ?_))
local macro_rules | `(tactic| infer_instance) => `(tactic| (((with_reducible apply w.if_f); (focus rfl))))
local macro_rules | `(tactic| infer_instance) => `(tactic| (((with_reducible apply w.if_t); (focus rfl))))
local macro_rules | `(tactic| infer_instance) => `(tactic| (((with_reducible refine w.ofO (w.cat ?_) ?_); (focus ((try simp only [List.length_append, List.length_cons, List.length_nil, List.length_map]); unfold line; omega)))))
local macro_rules | `(tactic| infer_instance) => `(tactic| (((with_reducible refine w.ofO (w.mul ?_) ?_); (focus first | exact .inr (by decide) | exact .inl (by decide)))))
local macro_rules | `(tactic| infer_instance) => `(tactic| (((with_reducible refine w.ofO (w.fdiv ?_ ?_) ?_); (focus omega); (focus omega))))
local macro_rules | `(tactic| infer_instance) => `(tactic| (((with_reducible refine w.ofO (w.mod ?_) ?_); (focus omega))))
local macro_rules | `(tactic| infer_instance) => `(tactic| (((with_reducible apply w.ofO); (focus rfl))))
local macro_rules | `(tactic| infer_instance) => `(tactic| (((with_reducible apply w.set_fr); (focus (simp [frzE_len])); (focus rfl))))
local macro_rules | `(tactic| infer_instance) => `(tactic| (((with_reducible apply w.set_fr'); (focus (simp [frzE_len])); (focus rfl))))
local macro_rules | `(tactic| infer_instance) => `(tactic| (((with_reducible apply w.set_fz); (focus (simp [frzE_len])))))
local macro_rules | `(tactic| infer_instance) => `(tactic| (with_reducible refine Ok.bind ?_))
local macro_rules | `(tactic| infer_instance) => `(tactic| (((with_reducible apply w.setVK); (focus rfl))))
local macro_rules | `(tactic| infer_instance) => `(tactic| (((with_reducible apply w.setVL); (focus rfl))))
local macro_rules | `(tactic| infer_instance) => `(tactic| (((with_reducible apply w.upd); (focus rfl))))
local macro_rules | `(tactic| infer_instance) => `(tactic| (((with_reducible apply w.app); (focus rfl))))
local macro_rules | `(tactic| infer_instance) => `(tactic| (((with_reducible apply w.augS); (focus rfl))))
local macro_rules | `(tactic| infer_instance) => `(tactic| (((with_reducible apply w.augM); (focus rfl))))
local macro_rules | `(tactic| infer_instance) => `(tactic| (((with_reducible apply w.augI); (focus rfl))))
local macro_rules | `(tactic| infer_instance) => `(tactic| (((with_reducible apply w.augL); (focus rfl))))
local macro_rules | `(tactic| infer_instance) => `(tactic| (((with_reducible apply w.retVo); (focus rfl))))
local macro_rules | `(tactic| infer_instance) => `(tactic| (((with_reducible apply w.retVf); (focus rfl))))
local macro_rules | `(tactic| infer_instance) => `(tactic| (with_reducible refine w.nfr ?_))
local macro_rules | `(tactic| infer_instance) => `(tactic| (with_reducible refine w.nfb ?_))
local macro_rules | `(tactic| infer_instance) => `(tactic| (with_reducible refine w.nfc ?_))
local macro_rules | `(tactic| infer_instance) => `(tactic| (with_reducible refine w.nf ?_))
local macro_rules | `(tactic| infer_instance) => `(tactic| (with_reducible refine w.parc ?_))
local macro_rules | `(tactic| infer_instance) => `(tactic| (with_reducible refine w.par0 ?_))
local macro_rules | `(tactic| infer_instance) => `(tactic| (with_reducible refine w.rk0 ?_))
local macro_rules | `(tactic| infer_instance) => `(tactic| (with_reducible refine w.rk1 ?_))
local macro_rules | `(tactic| infer_instance) => `(tactic| (with_reducible refine w.neg ?_))
local macro_rules | `(tactic| infer_instance) => `(tactic| (with_reducible refine w.setIL ?_))
local macro_rules | `(tactic| infer_instance) => `(tactic| (with_reducible refine w.whl ?_))
local macro_rules | `(tactic| infer_instance) => `(tactic| (with_reducible refine w.for_ ?_))
local macro_rules | `(tactic| infer_instance) => `(tactic| (with_reducible refine w.cont ?_))
local macro_rules | `(tactic| infer_instance) => `(tactic| (with_reducible refine w.brk ?_))
local macro_rules | `(tactic| infer_instance) => `(tactic| (with_reducible refine w.pass ?_))
local macro_rules | `(tactic| infer_instance) => `(tactic| (with_reducible refine w.expr ?_))
local macro_rules | `(tactic| infer_instance) => `(tactic| (with_reducible refine w.tsc ?_))
local macro_rules | `(tactic| infer_instance) => `(tactic| (with_reducible refine w.ts0 ?_))
local macro_rules | `(tactic| infer_instance) => `(tactic| (with_reducible refine w.rng ?_))
local macro_rules | `(tactic| infer_instance) => `(tactic| (with_reducible refine w.it ?_))
local macro_rules | `(tactic| infer_instance) => `(tactic| (with_reducible refine w.gbi ?_))
local macro_rules | `(tactic| infer_instance) => `(tactic| (with_reducible refine w.all ?_))
local macro_rules | `(tactic| infer_instance) => `(tactic| (with_reducible refine w.any ?_))
local macro_rules | `(tactic| infer_instance) => `(tactic| (with_reducible refine w.dc ?_))
local macro_rules | `(tactic| infer_instance) => `(tactic| (with_reducible refine w.lc ?_))
local macro_rules | `(tactic| infer_instance) => `(tactic| (with_reducible refine w.f0 ?_))
local macro_rules | `(tactic| infer_instance) => `(tactic| (with_reducible refine w.fc ?_))
local macro_rules | `(tactic| infer_instance) => `(tactic| (with_reducible refine w.fstr ?_))
local macro_rules | `(tactic| infer_instance) => `(tactic| (with_reducible refine w.mt ?_))
local macro_rules | `(tactic| infer_instance) => `(tactic| (with_reducible refine w.bi ?_))
local macro_rules | `(tactic| infer_instance) => `(tactic| (with_reducible refine w.slc ?_))
local macro_rules | `(tactic| infer_instance) => `(tactic| (with_reducible refine w.chain ?_))
local macro_rules | `(tactic| infer_instance) => `(tactic| (with_reducible refine w.ifx ?_))
local macro_rules | `(tactic| infer_instance) => `(tactic| (with_reducible refine w.orc ?_))
local macro_rules | `(tactic| infer_instance) => `(tactic| (with_reducible refine w.or1 ?_))
local macro_rules | `(tactic| infer_instance) => `(tactic| (with_reducible refine w.andc ?_))
local macro_rules | `(tactic| infer_instance) => `(tactic| (with_reducible refine w.and1 ?_))
local macro_rules | `(tactic| infer_instance) => `(tactic| (with_reducible refine w.or ?_))
local macro_rules | `(tactic| infer_instance) => `(tactic| (with_reducible refine w.and ?_))
local macro_rules | `(tactic| infer_instance) => `(tactic| (with_reducible refine w.not ?_))
local macro_rules | `(tactic| infer_instance) => `(tactic| (with_reducible refine w.kv0 ?_))
local macro_rules | `(tactic| infer_instance) => `(tactic| (with_reducible refine w.kvc ?_))
local macro_rules | `(tactic| infer_instance) => `(tactic| (with_reducible refine w.dct ?_))
local macro_rules | `(tactic| infer_instance) => `(tactic| (with_reducible refine w.box ?_))
local macro_rules | `(tactic| infer_instance) => `(tactic| (with_reducible refine w.lst ?_))
local macro_rules | `(tactic| infer_instance) => `(tactic| (with_reducible refine w.tup ?_))
local macro_rules | `(tactic| infer_instance) => `(tactic| (with_reducible refine w.glo ?_))
local macro_rules | `(tactic| infer_instance) => `(tactic| (with_reducible refine w.ok ?_))
local macro_rules | `(tactic| infer_instance) => `(tactic| (with_reducible refine w.frz ?_))
local macro_rules | `(tactic| infer_instance) => `(tactic| (with_reducible refine w.xs0 ?_))
local macro_rules | `(tactic| infer_instance) => `(tactic| (with_reducible refine w.ret0 ?_))
local macro_rules | `(tactic| infer_instance) => `(tactic| (with_reducible refine w.ret ?_))
local macro_rules | `(tactic| infer_instance) => `(tactic| (with_reducible refine w.k0 ?_))
local macro_rules | `(tactic| infer_instance) => `(tactic| (with_reducible refine w.kc ?_))
local macro_rules | `(tactic| infer_instance) => `(tactic| (with_reducible refine w.par ?_))
local macro_rules | `(tactic| infer_instance) => `(tactic| (with_reducible refine w.asgT ?_))
local macro_rules | `(tactic| infer_instance) => `(tactic| (with_reducible refine w.asg ?_))
local macro_rules | `(tactic| infer_instance) => `(tactic| (with_reducible refine w.ite ?_))
local macro_rules | `(tactic| infer_instance) => `(tactic| (with_reducible refine w.tor0 ?_))
local macro_rules | `(tactic| infer_instance) => `(tactic| (with_reducible refine w.torc ?_))
local macro_rules | `(tactic| infer_instance) => `(tactic| (with_reducible refine w.tand0 ?_))
local macro_rules | `(tactic| infer_instance) => `(tactic| (with_reducible refine w.tandc ?_))
local macro_rules | `(tactic| infer_instance) => `(tactic| (with_reducible refine w.tor ?_))
local macro_rules | `(tactic| infer_instance) => `(tactic| (with_reducible refine w.tand ?_))
local macro_rules | `(tactic| infer_instance) => `(tactic| (with_reducible refine w.tnot ?_))
local macro_rules | `(tactic| infer_instance) => `(tactic| (with_reducible refine w.tv ?_))
local macro_rules | `(tactic| infer_instance) => `(tactic| (with_reducible refine w.evo0 ?_))
local macro_rules | `(tactic| infer_instance) => `(tactic| (with_reducible refine w.evoc ?_))
local macro_rules | `(tactic| infer_instance) => `(tactic| (with_reducible refine w.evs0 ?_))
local macro_rules | `(tactic| infer_instance) => `(tactic| (with_reducible refine w.evsc ?_))
local macro_rules | `(tactic| infer_instance) => `(tactic| (with_reducible refine w.cal ?_))
local macro_rules | `(tactic| infer_instance) => `(tactic| (with_reducible refine w.cmp ?_))
local macro_rules | `(tactic| infer_instance) => `(tactic| (with_reducible refine w.bin ?_))
local macro_rules | `(tactic| infer_instance) => `(tactic| (with_reducible refine w.sub ?_))
local macro_rules | `(tactic| infer_instance) => `(tactic| (with_reducible refine w.con ?_))
local macro_rules | `(tactic| infer_instance) => `(tactic| (((with_reducible apply w.vbo); (focus rfl))))
local macro_rules | `(tactic| infer_instance) => `(tactic| (((with_reducible apply w.vfz); (focus rfl))))
local macro_rules | `(tactic| infer_instance) => `(tactic| (with_reducible refine w.rt ?_))
local macro_rules | `(tactic| infer_instance) => `(tactic| (with_reducible refine w.nx ?_))
local macro_rules | `(tactic| infer_instance) => `(tactic| (with_reducible refine w.xsc ?_))

section S46
set_option autoImplicit false
set_option linter.all false
set_option maxRecDepth 100000
set_option Elab.async false
namespace K01
open RS
/-- a roll of the dice -/
theorem roll (n : Nat) (many : Int) (a b e : Int) (h0 : 0 < many) (h1 : many ≤ 100000000) : Ok (go prg (n + 1) 17 [.loc 0, .int many] [.lst [.int a, .int b, .int e]]) fun x s => ∃ r a' b' e' : Int, x = (.int r, .fz) ∧ 0 ≤ r ∧ r < many ∧ s = [.lst [.int a', .int b', .int e']] := by
  refine w.run (fd := f__law_roll) rfl rfl ?_
  have m0 : ∀ i : Int, 0 ≤ i % many := fun i => Int.emod_nonneg _ (by omega)
  have m1 : ∀ i : Int, i % many < many := fun i => Int.emod_lt_of_pos _ h0
  dsimp only [f__law_roll]
  repeat infer_instance
  refine w.if_b (fun _ => ?_) (fun _ => ?_)
  · repeat infer_instance
    exact ⟨_, _, _, _, rfl, m0 _, m1 _, rfl⟩
  have F : decide (100000000 < many) = false := decide_eq_false (by omega)
  repeat infer_instance
  refine w.if_b (fun _ => ?_) (fun _ => ?_)
  · repeat infer_instance
    refine w.if_b (fun _ => ?_) (fun _ => ?_)
    · repeat infer_instance
      exact ⟨_, _, _, _, rfl, m0 _, m1 _, rfl⟩
    · repeat infer_instance
      refine w.if_f F ?_
      repeat infer_instance
      exact ⟨_, _, _, _, rfl, m0 _, m1 _, rfl⟩
  · repeat infer_instance
    refine w.if_f F ?_
    repeat infer_instance
    exact ⟨_, _, _, _, rfl, m0 _, m1 _, rfl⟩
end K01
end S46
section S47
set_option autoImplicit false
set_option linter.all false
set_option maxRecDepth 100000
set_option Elab.async false
set_option maxHeartbeats 4000000
/-! Q2: the dice, drawn trees. -/
namespace K01
open RS
abbrev dc3 (a b e : Int) : Sto := [.lst [.int a, .int b, .int e]]
theorem dice (n : Nat) (c : Int) : Ok (go prg (n + 1) 16 [.int c] []) fun x s => ∃ a b e : Int, x = (.loc 0, .fz) ∧ s = dc3 a b e := by
  refine w.run (fd := f__law_dice) rfl rfl ?_
  dsimp only [f__law_dice]
  repeat infer_instance
  refine w.if_b (fun _ => ?_) (fun _ => ?_)
  · repeat infer_instance
    refine w.if_b (fun _ => ?_) (fun _ => ?_)
    · repeat infer_instance
      exact ⟨_, _, _, rfl, rfl⟩
    · repeat infer_instance
      exact ⟨_, _, _, rfl, rfl⟩
  · repeat infer_instance
    exact ⟨_, _, _, rfl, rfl⟩
theorem slice1 (xs : List D) : slice xs none (some 1) = xs.take 1 := by
  unfold slice
  show (xs.drop 0).take _ = _
  cases xs with
  | nil => rfl
  | cons x r =>
    show (x :: r).take (min 1 (r.length + 1) - 0) = _
    rw [Nat.min_eq_left (by omega)]
theorem rounds (n : Nat) (ns : List Int) (d : D) (hd : d = dScr ns ∨ d = dLst ns) : Ok (go prg (n + 2) 18 [d, .int 1] []) fun x s => ∃ a b e : Int, x = (.lst [.loc 0], .fr) ∧ s = dc3 a b e := by
  refine w.run (fd := f__law_rounds) rfl rfl ?_
  dsimp only [f__law_rounds]
  repeat infer_instance
  have e : sliced [] d .non (.int 1) = some (.lst ((ns.map .int).take 1), .fr) := by
    rw [← slice1]
    rcases hd with rfl | rfl <;> rfl
  refine w.ofO e ?_
  cases ns with
  | nil =>
    repeat infer_instance
    refine w.lcc rfl ?_
    refine w.lcT0 rfl ?_
    repeat infer_instance
    refine (dice n 0).mono ?_
    rintro x s ⟨a, b, e, rfl, rfl⟩
    repeat infer_instance
    refine .inl ⟨_, rfl, by decide, ?_⟩
    refine w.lc0 rfl ?_
    repeat infer_instance
    exact ⟨_, _, _, rfl, rfl⟩
  | cons c r =>
    have e2 : (((c :: r).map D.int).take 1) = [.int c] := rfl
    rw [e2]
    repeat infer_instance
    refine w.lcc rfl ?_
    refine w.lcT0 rfl ?_
    repeat infer_instance
    refine (dice n c).mono ?_
    rintro x s ⟨a, b, e, rfl, rfl⟩
    repeat infer_instance
    refine .inl ⟨_, rfl, by decide, ?_⟩
    refine w.lc0 rfl ?_
    repeat infer_instance
    exact ⟨_, _, _, rfl, rfl⟩

/-! ### trees -/
def nms : List (List Nat) := [[97], [98], [99, 95, 100]]
def sgs : List (List Nat) := [[60, 61], [62, 61], [33, 61], [61], [60], [62]]
def vals : List D := [.int 0, .int 5, .int (-3), .str [120], .str [121, 45, 49]]
def ivals : List D := [.int 1, .int 5, .str [120]]
def kAnd : List Nat := [97, 110, 100]
def kOr : List Nat := [111, 114]
def kNot : List Nat := [110, 111, 116]
def kYes : List Nat := [121, 101, 115]
def kNo : List Nat := [110, 111]
def kIs : List Nat := [105, 115]
def kIn : List Nat := [105, 110]
/-- a leaf -/
inductive Lf : D → Prop where
  | yes : Lf (.tup [.str kYes])
  | no : Lf (.tup [.str kNo])
  | is {nm : List Nat} (h : nm ∈ nms) : Lf (.tup [.str kIs, .str nm])
  | cm {sg nm : List Nat} {v : D} (h1 : sg ∈ sgs) (h2 : nm ∈ nms) (h3 : v ∈ vals) : Lf (.tup [.str sg, .str nm, v])
  | inn {nm : List Nat} {vs : List D} (h1 : nm ∈ nms) (h2 : vs ≠ []) (h3 : vs.length ≤ 3) (h4 : ∀ v ∈ vs, v ∈ ivals) : Lf (.tup [.str kIn, .str nm, .tup vs])
/-- a tree -/
inductive T where
  | lf (d : D) | no (a : T) | an (a b : T) | or (a b : T)
def enc : T → D
  | .lf d => d
  | .no a => .tup [.str kNot, enc a]
  | .an a b => .tup [.str kAnd, enc a, enc b]
  | .or a b => .tup [.str kOr, enc a, enc b]
/-- its leaves are such, it is not deeper -/
def Wf : T → Nat → Prop
  | .lf d, _ => Lf d
  | .no a, k => ∃ j, k = j + 1 ∧ Wf a j
  | .an a b, k => ∃ j, k = j + 1 ∧ Wf a j ∧ Wf b j
  | .or a b, k => ∃ j, k = j + 1 ∧ Wf a j ∧ Wf b j
theorem rollK (n : Nat) (many a b e : Int) (h0 : 0 < many) (h1 : many ≤ 100000000) {P : D × Kd → Sto → Prop} (k : ∀ r a' b' e', 0 ≤ r → r < many → P (.int r, .fz) (dc3 a' b' e')) : Ok (go prg (n + 1) 17 [.loc 0, .int many] (dc3 a b e)) P :=
  (roll n many a b e h0 h1).mono fun x s ⟨r, a', b', e', e1, h0, h1, e2⟩ => by subst e1 e2; exact k r a' b' e' h0 h1
abbrev TrQ (k : Nat) : D × Kd → Sto → Prop := fun x s => ∃ t a b e, Wf t k ∧ x = (enc t, .fz) ∧ s = dc3 a b e
theorem mem_lst {xs : List (List Nat)} {d : D} (h : d ∈ xs.map D.str) : ∃ z, d = .str z ∧ z ∈ xs := by
  obtain ⟨z, hz, e⟩ := List.mem_map.mp h
  exact ⟨z, e.symm, hz⟩
theorem tree_rest (k n : Nat) (ih : ∀ j, k = j + 1 → ∀ a b e, Ok (go prg (n + 1) 19 [.loc 0, .int j] (dc3 a b e)) (TrQ j)) (r a b e : Int) (h0 : 0 ≤ r) (h9 : r < 9) (h5 : k = 0 → r < 5) :
    Ok (execs prg (go prg (n + 1)) (f__law_tree.body.drop 1) [some (.loc 0, false), some (.int k, false), some (.int r, false), none, none, none] (dc3 a b e)) (w.rk (TrQ k)) := by
  dsimp only [f__law_tree, List.drop]
  repeat infer_instance
  refine rollK _ _ _ _ _ (by decide) (by decide) fun r1 a b e g0 g1 => ?_
  repeat infer_instance
  refine w.pickK g0 g1 fun nm hnm0 => ?_
  obtain ⟨nm, rfl, hnm⟩ := mem_lst (xs := nms) hnm0
  repeat infer_instance
  refine rollK _ _ _ _ _ (by decide) (by decide) fun r2 a b e g0 g1 => ?_
  repeat infer_instance
  refine w.pickK g0 g1 fun v hv => ?_
  have hv : v ∈ vals := hv
  repeat infer_instance
  refine w.if_b (fun _ => ?_) (fun hr0 => ?_)
  · repeat infer_instance
    refine rollK _ _ _ _ _ (by decide) (by decide) fun r3 a b e g0 g1 => ?_
    repeat infer_instance
    refine w.pickK g0 g1 fun d hd => ?_
    repeat infer_instance
    refine ⟨.lf d, a, b, e, ?_, rfl, rfl⟩
    rcases List.mem_cons.mp hd with rfl | hd
    · exact Lf.yes
    · rcases List.mem_cons.mp hd with rfl | hd
      · exact Lf.no
      · cases hd
  repeat infer_instance
  refine w.if_b (fun _ => ?_) (fun _ => ?_)
  · repeat infer_instance
    exact ⟨.lf _, _, _, _, Lf.is hnm, rfl, rfl⟩
  repeat infer_instance
  refine w.if_b (fun _ => ?_) (fun hr4 => ?_)
  · repeat infer_instance
    refine rollK _ _ _ _ _ (by decide) (by decide) fun r3 a b e g0 g1 => ?_
    repeat infer_instance
    refine w.pickK g0 g1 fun d hd => ?_
    obtain ⟨sg, rfl, hsg⟩ := mem_lst (xs := sgs) hd
    repeat infer_instance
    exact ⟨.lf _, _, _, _, Lf.cm hsg hnm hv, rfl, rfl⟩
  repeat infer_instance
  refine w.if_b (fun _ => ?_) (fun hr5 => ?_)
  · repeat infer_instance
    refine rollK _ _ _ _ _ (by decide) (by decide) fun r3 a b e g0 g1 => ?_
    repeat infer_instance
    refine Ok.mono (w.lc_all (I := fun s => ∃ a b e, s = dc3 a b e) (V := fun v => v ∈ ivals) (fun s _ => rfl) ?_ _ [] _ ⟨_, _, _, rfl⟩ ?_) ?_
    · rintro x s ⟨a, b, e, rfl⟩
      refine w.lcT0 rfl ?_
      repeat infer_instance
      refine rollK _ _ _ _ _ (by decide) (by decide) fun r4 a b e g0 g1 => ?_
      repeat infer_instance
      refine w.pickK g0 g1 fun d hd => ?_
      repeat infer_instance
      exact ⟨d, rfl, hd, _, _, _, rfl⟩
    · show 0 + (upto 0 (1 + r3).toNat).length ≤ line
      rw [upto_length]
      unfold line
      omega
    · rintro ds s ⟨vs, e1, h1, h2, a, b, e, rfl⟩
      have h1 : vs.length = (upto 0 (1 + r3).toNat).length := h1
      rw [upto_length] at h1
      rw [List.nil_append] at e1
      subst e1
      repeat infer_instance
      have el : builtin .tuple (dc3 a b e) [.lst ds] = some (.tup ds, .fz) := if_pos (by unfold line; omega)
      refine w.ofO el ?_
      repeat infer_instance
      refine ⟨.lf _, _, _, _, Lf.inn (vs := ds) hnm ?_ (by omega) h2, rfl, rfl⟩
      intro h
      rw [h] at h1
      simp at h1
      omega
  have hk : ∃ j, k = j + 1 := by
    have hr4 : decide (r < 4) = false := hr4
    have hr5 : (r == 4) = false := hr5
    have hr4 := of_decide_eq_false hr4
    rw [beq_eq_false_iff_ne] at hr5
    exact ⟨k - 1, by omega⟩
  obtain ⟨j, rfl⟩ := hk
  have ih := ih j rfl
  have ej : ((j + 1 : Nat) : Int) - 1 = (j : Int) := by omega
  repeat infer_instance
  refine w.if_b (fun _ => ?_) (fun _ => ?_)
  · repeat infer_instance
    rw [ej]
    refine Ok.mono (ih _ _ _) ?_
    rintro x s ⟨t, a, b, e, hw, rfl, rfl⟩
    repeat infer_instance
    exact ⟨.no t, _, _, _, ⟨j, rfl, hw⟩, rfl, rfl⟩
  · repeat infer_instance
    refine rollK _ _ _ _ _ (by decide) (by decide) fun r3 a b e g0 g1 => ?_
    repeat infer_instance
    refine w.pickK g0 g1 fun d hd => ?_
    repeat infer_instance
    rw [ej]
    refine Ok.mono (ih _ _ _) ?_
    rintro x s ⟨t, a, b, e, hw, rfl, rfl⟩
    repeat infer_instance
    rw [ej]
    refine Ok.mono (ih _ _ _) ?_
    rintro x s ⟨t2, a, b, e, hw2, rfl, rfl⟩
    repeat infer_instance
    rcases List.mem_cons.mp hd with rfl | hd
    · exact ⟨.an t t2, _, _, _, ⟨j, rfl, hw, hw2⟩, rfl, rfl⟩
    · rcases List.mem_cons.mp hd with rfl | hd
      · exact ⟨.or t t2, _, _, _, ⟨j, rfl, hw, hw2⟩, rfl, rfl⟩
      · cases hd
theorem tree (k : Nat) : ∀ (n : Nat) (a b e : Int), k + 2 ≤ n → Ok (go prg n 19 [.loc 0, .int k] (dc3 a b e)) (TrQ k) := by
  induction k with
  | zero =>
    intro n a b e hn
    obtain ⟨n, rfl⟩ : ∃ m, n = m + 2 := ⟨n - 2, by omega⟩
    refine w.run (fd := f__law_tree) rfl rfl ?_
    have R := tree_rest 0 n (fun j h => by omega)
    dsimp only [f__law_tree]
    repeat infer_instance
    refine rollK _ _ _ _ _ (by decide) (by decide) fun r a b e h0 h1 => ?_
    refine w.set_fz (by simp) ?_
    exact R r a b e h0 (by omega) (fun _ => h1)
  | succ k ih =>
    intro n a b e hn
    obtain ⟨n, rfl⟩ : ∃ m, n = m + 2 := ⟨n - 2, by omega⟩
    refine w.run (fd := f__law_tree) rfl rfl ?_
    have R := tree_rest (k + 1) n (fun j h a b e => by cases h; exact ih (n + 1) a b e (by omega))
    dsimp only [f__law_tree]
    repeat infer_instance
    refine rollK _ _ _ _ _ (by decide) (by decide) fun r a b e h0 h1 => ?_
    refine w.set_fz (by simp) ?_
    exact R r a b e h0 (by omega) (fun h => by omega)
end K01
end S47
section S48
set_option autoImplicit false
set_option linter.all false
set_option maxRecDepth 100000
set_option Elab.async false
set_option maxHeartbeats 4000000
/-! Q3: texts of trees. -/
namespace K01
open RS
/-- which blanks are left out -/
structure Sty where
  le : Bool
  eq : Bool
  co : Bool
def σ0 : Sty := ⟨false, false, false⟩
def sep (σ : Sty) (sg : List Nat) : List Nat := if (sg == [60, 61] && σ.le || sg == [61] && σ.eq) = true then sg else 32 :: (sg ++ [32])
def strD (v : D) : List Nat := (strOf v).getD []
def comma (σ : Sty) : List Nat := if σ.co = true then [44] else [44, 32]
def ltx (σ : Sty) : D → List Nat
  | .tup [.str k] => k
  | .tup [.str _, .str nm] => nm
  | .tup [.str _, .str nm, .tup vs] => nm ++ [32, 105, 110, 32, 40] ++ cat (comma σ) (vs.map strD) ++ [41]
  | .tup [.str sg, .str nm, v] => nm ++ sep σ sg ++ strD v
  | _ => []
def paren (b : Bool) (t : List Nat) : List Nat := if b = true then 40 :: (t ++ [41]) else t
def tx (σ : Sty) : T → Nat → List Nat
  | .lf d, _ => ltx σ d
  | .no a, _ => [110, 111, 116, 32] ++ tx σ a 2
  | .an a b, lv => paren (decide (1 < lv)) (tx σ a 1 ++ [32, 97, 110, 100, 32] ++ tx σ b 2)
  | .or a b, lv => paren (decide (0 < lv)) (tx σ a 0 ++ [32, 111, 114, 32] ++ tx σ b 1)
theorem nms_len : ∀ nm ∈ nms, nm.length ≤ 3 := by decide
theorem sgs_len : ∀ nm ∈ sgs, nm.length ≤ 2 := by decide
theorem vals_len : ∀ v ∈ vals, (strD v).length ≤ 3 ∧ (∀ xs, v ≠ .tup xs) ∧ strOf v = some (strD v) ∧ fmtOf v = some (strD v) := by
  intro v hv
  simp only [vals, List.mem_cons, List.not_mem_nil, or_false] at hv
  rcases hv with rfl | rfl | rfl | rfl | rfl <;> exact ⟨by decide, (fun _ h => by cases h), by decide, by decide⟩
theorem ivals_len : ∀ v ∈ ivals, (strD v).length ≤ 1 ∧ strOf v = some (strD v) := by
  intro v hv
  simp only [ivals, List.mem_cons, List.not_mem_nil, or_false] at hv
  rcases hv with rfl | rfl | rfl <;> exact ⟨by decide, by decide⟩
theorem ltx_cm {σ : Sty} {sg nm : List Nat} {v : D} (h : v ∈ vals) : ltx σ (.tup [.str sg, .str nm, v]) = nm ++ sep σ sg ++ strD v := by
  have := (vals_len v h).2.1
  cases v <;> first | rfl | exact absurd rfl (this _)
theorem cat_len {c : List Nat} (hc : c.length ≤ 2) : ∀ {vs : List D}, (∀ v ∈ vs, v ∈ ivals) → (cat c (vs.map strD)).length ≤ 3 * vs.length
  | [], _ => by simp [cat]
  | [v], h => by
    have := (ivals_len v (h v List.mem_cons_self)).1
    simp [cat]
    omega
  | v :: w :: r, h => by
    have h1 := (ivals_len v (h v List.mem_cons_self)).1
    have h2 := cat_len hc (vs := w :: r) fun x hx => h x (List.mem_cons_of_mem _ hx)
    simp only [List.map_cons, cat, List.length_append, List.length_cons] at h2 ⊢
    omega
theorem ltx_len {σ : Sty} {d : D} (h : Lf d) : (ltx σ d).length ≤ 20 := by
  cases h with
  | yes => show (kYes).length ≤ 20; decide
  | no => show (kNo).length ≤ 20; decide
  | is h => exact Nat.le_trans (nms_len _ h) (by decide)
  | cm h1 h2 h3 =>
    rw [ltx_cm h3]
    have a1 := nms_len _ h2
    have a2 := sgs_len _ h1
    have a3 := (vals_len _ h3).1
    simp only [List.length_append]
    unfold sep
    split <;> simp <;> omega
  | inn h1 h2 h3 h4 =>
    rename_i nm vs
    have a1 := nms_len _ h1
    have a2 := cat_len (c := comma σ) (by unfold comma; split <;> decide) h4
    simp only [ltx, List.length_append, List.length_cons, List.length_nil]
    omega
theorem tx_len (σ : Sty) : ∀ (t : T) (k lv : Nat), Wf t k → (tx σ t lv).length ≤ 30 * 3 ^ k
  | .lf d, k, lv, h => Nat.le_trans (ltx_len h) (Nat.le_trans (by omega : 20 ≤ 30 * 1) (Nat.mul_le_mul_left _ (Nat.one_le_pow _ _ (by decide))))
  | .no a, k, lv, ⟨j, e, h⟩ => by
    subst e
    have := tx_len σ a j 2 h
    have p : 1 ≤ 3 ^ j := Nat.one_le_pow _ _ (by decide)
    rw [Nat.pow_succ]
    simp only [tx, List.length_append, List.length_cons, List.length_nil]
    omega
  | .an a b, k, lv, ⟨j, e, h1, h2⟩ => by
    subst e
    have q1 := tx_len σ a j 1 h1
    have q2 := tx_len σ b j 2 h2
    have p : 1 ≤ 3 ^ j := Nat.one_le_pow _ _ (by decide)
    rw [Nat.pow_succ]
    simp only [tx, paren]
    split <;> simp only [List.length_append, List.length_cons, List.length_nil] <;> omega
  | .or a b, k, lv, ⟨j, e, h1, h2⟩ => by
    subst e
    have q1 := tx_len σ a j 0 h1
    have q2 := tx_len σ b j 1 h2
    have p : 1 ≤ 3 ^ j := Nat.one_le_pow _ _ (by decide)
    rw [Nat.pow_succ]
    simp only [tx, paren]
    split <;> simp only [List.length_append, List.length_cons, List.length_nil] <;> omega
theorem tx_len4 (σ : Sty) (t : T) (k lv : Nat) (h : Wf t k) (hk : k ≤ 4) : (tx σ t lv).length ≤ 3000 := by
  have q := tx_len σ t k lv h
  have p : 3 ^ k ≤ 3 ^ 4 := Nat.pow_le_pow_right (by decide) hk
  have : (3 : Nat) ^ 4 = 81 := by decide
  omega
theorem join_len : ∀ (vs : List D), (∀ v ∈ vs, v ∈ ivals) → (((vs.map strD).map List.length).sum) ≤ vs.length
  | [], _ => by simp
  | v :: r, h => by
    have h1 := (ivals_len v (h v List.mem_cons_self)).1
    have h2 := join_len r fun x hx => h x (List.mem_cons_of_mem _ hx)
    simp only [List.map_cons, List.sum_cons, List.length_cons]
    omega
theorem strs_of : ∀ {vs : List D}, (∀ v ∈ vs, v ∈ ivals) → strsOf (vs.map fun v => .str (strD v)) = some (vs.map strD)
  | [], _ => rfl
  | v :: r, h => by
    rw [List.map_cons, strsOf, strs_of fun x hx => h x (List.mem_cons_of_mem _ hx)]
    rfl
theorem join_ok {s : Sto} {vs : List D} (h4 : ∀ v ∈ vs, v ∈ ivals) (h3 : vs.length ≤ 3) : method .join s (.str [44, 32]) [.lst ([] ++ vs.map fun v => .str (strD v))] = some (.str (cat [44, 32] (vs.map strD)), .fz) := by
  show (strsOf _).bind _ = _
  rw [List.nil_append, strs_of h4]
  refine if_pos ?_
  have := join_len vs h4
  simp only [List.length_map, List.length_cons, List.length_nil]
  unfold line
  omega
/-- a value, the store as it was -/
def Is (d : D) (s : Sto) : D × Kd → Sto → Prop := fun x s' => x = (d, .fz) ∧ s' = s
theorem lc_map {chk : Sto → Bool} {turn : D → Sto → R (Option D)} {f : D → D} {s : Sto} (hc : chk s = true) : ∀ (xs acc : List D), (∀ x ∈ xs, Ok (turn x s) fun o s' => o = some (f x) ∧ s' = s) → acc.length + xs.length ≤ line → Ok (lcTurns chk turn xs acc s) fun ds s' => ds = acc ++ xs.map f ∧ s' = s
  | [], acc, _, _ => w.lc0 hc ⟨by simp, rfl⟩
  | x :: xs, acc, ht, hl => by
    refine w.lcc hc ((ht x List.mem_cons_self).mono fun o s' ⟨e, e2⟩ => .inl ⟨f x, e, by simp at hl; omega, ?_⟩)
    subst e2
    refine (lc_map hc xs (acc ++ [f x]) (fun y hy => ht y (List.mem_cons_of_mem _ hy)) (by simp at hl ⊢; omega)).mono fun ds s2 ⟨e2, h1⟩ => ⟨by rw [e2]; simp, h1⟩
theorem law_text : ∀ (t : T) (k lv n : Nat) (s : Sto), Wf t k → k ≤ 4 → k + 1 ≤ n → Ok (go prg n 22 [enc t, .int lv] s) (Is (.str (tx σ0 t lv)) s)
  | .lf d, k, lv, n, s, h, hk, hn => by
    obtain ⟨n, rfl⟩ : ∃ m, n = m + 1 := ⟨n - 1, by omega⟩
    refine w.run (fd := f__law_text) rfl rfl ?_
    dsimp only [f__law_text]
    have h : Lf d := h
    show Ok (execs prg (go prg n) _ [some (d, false), some (.int lv, false), none, none, none, none] s) _
    cases h with
    | yes =>
      repeat infer_instance
      exact ⟨rfl, rfl⟩
    | no =>
      repeat infer_instance
      exact ⟨rfl, rfl⟩
    | is h =>
      repeat infer_instance
      exact ⟨rfl, rfl⟩
    | @cm sg nm v h1 h2 h3 =>
      have e1 : tx σ0 (.lf (.tup [.str sg, .str nm, v])) lv = nm ++ sep σ0 sg ++ strD v := ltx_cm h3
      rw [e1]
      have ev := vals_len v h3
      have b1 := nms_len _ h2
      have eb : builtin .str s [v] = some (.str (strD v), .fz) := by
        show (strOf v).map _ = _
        rw [ev.2.2.1]
        rfl
      simp only [sgs, List.mem_cons, List.not_mem_nil, or_false] at h1
      rcases h1 with rfl | rfl | rfl | rfl | rfl | rfl
      all_goals (
        repeat infer_instance
        refine w.ofO eb ?_
        repeat infer_instance
        refine ⟨?_, rfl⟩
        simp [sep, σ0])
    | @inn nm vs h1 h2 h3 h4 =>
      have b1 := nms_len _ h1
      have b2 := cat_len (c := [44, 32]) (by decide) h4
      repeat infer_instance
      refine (lc_map (f := fun v => .str (strD v)) rfl vs [] (fun v hv => ?_) (by unfold line; simp; omega)).mono ?_
      · have ev := ivals_len v (h4 v hv)
        have eb : builtin .str s [v] = some (.str (strD v), .fz) := by
          show (strOf v).map _ = _
          rw [ev.2]
          rfl
        refine w.lcT0 rfl ?_
        repeat infer_instance
        refine w.ofO eb ?_
        repeat infer_instance
        rfl
      · rintro ds s' ⟨e1, e2⟩
        subst e1 e2
        repeat infer_instance
        refine w.ofO (join_ok h4 h3) ?_
        repeat infer_instance
        exact ⟨rfl, rfl⟩
  | .no a, k, lv, n, s, ⟨j, e, h⟩, hk, hn => by
    subst e
    obtain ⟨n, rfl⟩ : ∃ m, n = m + 1 := ⟨n - 1, by omega⟩
    refine w.run (fd := f__law_text) rfl rfl ?_
    dsimp only [f__law_text]
    show Ok (execs prg (go prg n) _ [some (.tup [.str kNot, enc a], false), some (.int lv, false), none, none, none, none] s) _
    have bl := tx_len4 σ0 a j 2 h (by omega)
    repeat infer_instance
    refine (law_text a j 2 n s h (by omega) (by omega)).mono ?_
    rintro x s' ⟨rfl, rfl⟩
    repeat infer_instance
    exact ⟨rfl, rfl⟩
  | .an a b, k, lv, n, s, ⟨j, e, ha, hb⟩, hk, hn => by
    subst e
    obtain ⟨n, rfl⟩ : ∃ m, n = m + 1 := ⟨n - 1, by omega⟩
    refine w.run (fd := f__law_text) rfl rfl ?_
    dsimp only [f__law_text]
    show Ok (execs prg (go prg n) _ [some (.tup [.str kAnd, enc a, enc b], false), some (.int lv, false), none, none, none, none] s) _
    have b1 := tx_len4 σ0 a j 1 ha (by omega)
    have b2 := tx_len4 σ0 b j 2 hb (by omega)
    have b3 : kAnd.length = 3 := rfl
    repeat infer_instance
    refine (law_text a j 1 n s ha (by omega) (by omega)).mono ?_
    rintro x s' ⟨rfl, rfl⟩
    repeat infer_instance
    refine (law_text b j 2 n s' hb (by omega) (by omega)).mono ?_
    rintro x s' ⟨rfl, rfl⟩
    repeat infer_instance
    by_cases hl : 1 < lv
    · apply w.if_t
      · show decide ((1 : Int) < (lv : Int)) = true
        exact decide_eq_true (by omega)
      repeat infer_instance
      refine ⟨?_, rfl⟩
      simp [tx, paren, hl, kAnd]
    · apply w.if_f
      · show decide ((1 : Int) < (lv : Int)) = false
        exact decide_eq_false (by omega)
      repeat infer_instance
      refine ⟨?_, rfl⟩
      simp [tx, paren, hl, kAnd]
  | .or a b, k, lv, n, s, ⟨j, e, ha, hb⟩, hk, hn => by
    subst e
    obtain ⟨n, rfl⟩ : ∃ m, n = m + 1 := ⟨n - 1, by omega⟩
    refine w.run (fd := f__law_text) rfl rfl ?_
    dsimp only [f__law_text]
    show Ok (execs prg (go prg n) _ [some (.tup [.str kOr, enc a, enc b], false), some (.int lv, false), none, none, none, none] s) _
    have b1 := tx_len4 σ0 a j 0 ha (by omega)
    have b2 := tx_len4 σ0 b j 1 hb (by omega)
    have b3 : kOr.length = 2 := rfl
    repeat infer_instance
    refine (law_text a j 0 n s ha (by omega) (by omega)).mono ?_
    rintro x s' ⟨rfl, rfl⟩
    repeat infer_instance
    refine (law_text b j 1 n s' hb (by omega) (by omega)).mono ?_
    rintro x s' ⟨rfl, rfl⟩
    repeat infer_instance
    by_cases hl : 0 < lv
    · apply w.if_t
      · show decide ((0 : Int) < (lv : Int)) = true
        exact decide_eq_true (by omega)
      repeat infer_instance
      refine ⟨?_, rfl⟩
      simp [tx, paren, hl, kOr]
    · apply w.if_f
      · show decide ((0 : Int) < (lv : Int)) = false
        exact decide_eq_false (by omega)
      repeat infer_instance
      refine ⟨?_, rfl⟩
      simp [tx, paren, hl, kOr]
/-! ### the program's text -/
theorem text_at : ∀ (t : T) (k lv n : Nat) (s : Sto), Wf t k → k ≤ 4 → k + 1 ≤ n → Ok (go prg n 14 [enc t, .int lv] s) (Is (.str (tx σ0 t lv)) s)
  | .lf d, k, lv, n, s, h, hk, hn => by
    obtain ⟨n, rfl⟩ : ∃ m, n = m + 1 := ⟨n - 1, by omega⟩
    refine w.run (fd := f_text_at) rfl rfl ?_
    dsimp only [f_text_at]
    have h : Lf d := h
    show Ok (execs prg (go prg n) _ [some (d, false), some (.int lv, false), none, none, none, none] s) _
    cases h with
    | yes =>
      repeat infer_instance
      exact ⟨rfl, rfl⟩
    | no =>
      repeat infer_instance
      exact ⟨rfl, rfl⟩
    | is h =>
      repeat infer_instance
      exact ⟨rfl, rfl⟩
    | @cm sg nm v h1 h2 h3 =>
      have e1 : tx σ0 (.lf (.tup [.str sg, .str nm, v])) lv = nm ++ sep σ0 sg ++ strD v := ltx_cm h3
      rw [e1]
      have ev := vals_len v h3
      have b1 := nms_len _ h2
      simp only [sgs, List.mem_cons, List.not_mem_nil, or_false] at h1
      rcases h1 with rfl | rfl | rfl | rfl | rfl | rfl
      all_goals (
        repeat infer_instance
        refine w.ofO ev.2.2.2 ?_
        repeat infer_instance
        refine ⟨?_, rfl⟩
        simp [sep, σ0])
    | @inn nm vs h1 h2 h3 h4 =>
      have b1 := nms_len _ h1
      have b2 := cat_len (c := [44, 32]) (by decide) h4
      repeat infer_instance
      refine (lc_map (f := fun v => .str (strD v)) rfl vs [] (fun v hv => ?_) (by unfold line; simp; omega)).mono ?_
      · have ev := ivals_len v (h4 v hv)
        have eb : builtin .str s [v] = some (.str (strD v), .fz) := by
          show (strOf v).map _ = _
          rw [ev.2]
          rfl
        refine w.lcT0 rfl ?_
        repeat infer_instance
        refine w.ofO eb ?_
        repeat infer_instance
        rfl
      · rintro ds s' ⟨e1, e2⟩
        subst e1 e2
        repeat infer_instance
        refine w.ofO (join_ok h4 h3) ?_
        repeat infer_instance
        exact ⟨rfl, rfl⟩
  | .no a, k, lv, n, s, ⟨j, e, h⟩, hk, hn => by
    subst e
    obtain ⟨n, rfl⟩ : ∃ m, n = m + 1 := ⟨n - 1, by omega⟩
    refine w.run (fd := f_text_at) rfl rfl ?_
    dsimp only [f_text_at]
    show Ok (execs prg (go prg n) _ [some (.tup [.str kNot, enc a], false), some (.int lv, false), none, none, none, none] s) _
    have bl := tx_len4 σ0 a j 2 h (by omega)
    repeat infer_instance
    refine (text_at a j 2 n s h (by omega) (by omega)).mono ?_
    rintro x s' ⟨rfl, rfl⟩
    repeat infer_instance
    exact ⟨rfl, rfl⟩
  | .an a b, k, lv, n, s, ⟨j, e, ha, hb⟩, hk, hn => by
    subst e
    obtain ⟨n, rfl⟩ : ∃ m, n = m + 1 := ⟨n - 1, by omega⟩
    refine w.run (fd := f_text_at) rfl rfl ?_
    dsimp only [f_text_at]
    show Ok (execs prg (go prg n) _ [some (.tup [.str kAnd, enc a, enc b], false), some (.int lv, false), none, none, none, none] s) _
    have b1 := tx_len4 σ0 a j 1 ha (by omega)
    have b2 := tx_len4 σ0 b j 2 hb (by omega)
    have b3 : kAnd.length = 3 := rfl
    repeat infer_instance
    refine (text_at a j 1 n s ha (by omega) (by omega)).mono ?_
    rintro x s' ⟨rfl, rfl⟩
    repeat infer_instance
    refine (text_at b j 2 n s' hb (by omega) (by omega)).mono ?_
    rintro x s' ⟨rfl, rfl⟩
    repeat infer_instance
    by_cases hl : 1 < lv
    · apply w.if_t
      · show decide ((1 : Int) < (lv : Int)) = true
        exact decide_eq_true (by omega)
      repeat infer_instance
      refine ⟨?_, rfl⟩
      simp [tx, paren, hl, kAnd]
    · apply w.if_f
      · show decide ((1 : Int) < (lv : Int)) = false
        exact decide_eq_false (by omega)
      repeat infer_instance
      refine ⟨?_, rfl⟩
      simp [tx, paren, hl, kAnd]
  | .or a b, k, lv, n, s, ⟨j, e, ha, hb⟩, hk, hn => by
    subst e
    obtain ⟨n, rfl⟩ : ∃ m, n = m + 1 := ⟨n - 1, by omega⟩
    refine w.run (fd := f_text_at) rfl rfl ?_
    dsimp only [f_text_at]
    show Ok (execs prg (go prg n) _ [some (.tup [.str kOr, enc a, enc b], false), some (.int lv, false), none, none, none, none] s) _
    have b1 := tx_len4 σ0 a j 0 ha (by omega)
    have b2 := tx_len4 σ0 b j 1 hb (by omega)
    have b3 : kOr.length = 2 := rfl
    repeat infer_instance
    refine (text_at a j 0 n s ha (by omega) (by omega)).mono ?_
    rintro x s' ⟨rfl, rfl⟩
    repeat infer_instance
    refine (text_at b j 1 n s' hb (by omega) (by omega)).mono ?_
    rintro x s' ⟨rfl, rfl⟩
    repeat infer_instance
    by_cases hl : 0 < lv
    · apply w.if_t
      · show decide ((0 : Int) < (lv : Int)) = true
        exact decide_eq_true (by omega)
      repeat infer_instance
      refine ⟨?_, rfl⟩
      simp [tx, paren, hl, kOr]
    · apply w.if_f
      · show decide ((0 : Int) < (lv : Int)) = false
        exact decide_eq_false (by omega)
      repeat infer_instance
      refine ⟨?_, rfl⟩
      simp [tx, paren, hl, kOr]
theorem condition_text (t : T) (k n : Nat) (s : Sto) (h : Wf t k) (hk : k ≤ 4) (hn : k + 2 ≤ n) : Ok (go prg n 13 [enc t] s) (Is (.str (tx σ0 t 0)) s) := by
  obtain ⟨n, rfl⟩ : ∃ m, n = m + 1 := ⟨n - 1, by omega⟩
  refine w.run (fd := f_condition_text) rfl rfl ?_
  dsimp only [f_condition_text]
  repeat infer_instance
  refine (text_at t k 0 n s h hk (by omega)).mono ?_
  rintro x s' ⟨rfl, rfl⟩
  repeat infer_instance
  exact ⟨rfl, rfl⟩
end K01
end S48
section S49
set_option autoImplicit false
set_option linter.all false
set_option maxRecDepth 100000
set_option Elab.async false
set_option maxHeartbeats 4000000
/-! Q4: words of a text. -/
namespace K01
open RS
def inSg (p : List Nat) : Bool := sgs.any fun y => y == p
def stops : List Nat := [40, 41, 44, 32, 60, 62, 61, 33]
def wordy (c : Nat) : Bool := !decide (c ∈ stops)
/-- the words of a text -/
def tok : Nat → List Nat → List (List Nat)
  | 0, _ => []
  | _ + 1, [] => []
  | n + 1, c :: r =>
    if inSg ((c :: r).take 2) = true then (c :: r).take 2 :: tok n (r.drop 1)
    else if decide (c ∈ [40, 41, 44]) = true then [c] :: tok n r
    else if inSg [c] = true then [c] :: tok n r
    else if ([c] == [32]) = true then tok n r
    else (c :: r).take (max ((c :: r).takeWhile wordy).length 1) :: tok n ((c :: r).drop (max ((c :: r).takeWhile wordy).length 1))
theorem cut_nat (n d p : Nat) : cut n d (some (p : Int)) = min p n := by
  show (if (p : Int) < 0 then ((p : Int) + (n : Int)).toNat else min (p : Int).toNat n) = _
  rw [if_neg (by omega)]
  rfl
theorem slice_nat {α : Type} (xs : List α) (p q : Nat) : slice xs (some (p : Int)) (some (q : Int)) = (xs.drop p).take (q - p) := by
  unfold slice
  rw [cut_nat, cut_nat]
  by_cases h : p ≤ xs.length
  · rw [Nat.min_eq_left h]
    by_cases h2 : q ≤ xs.length
    · rw [Nat.min_eq_left h2]
    · rw [Nat.min_eq_right (by omega), List.take_of_length_le (by simp), List.take_of_length_le (by simp; omega)]
  · rw [Nat.min_eq_right (show xs.length ≤ p by omega), List.drop_of_length_le (Nat.le_refl _), List.drop_of_length_le (l := xs) (show xs.length ≤ p by omega)]
    simp
theorem item_str {st : Sto} {xs : List Nat} {p : Nat} (h : p < xs.length) : item st (.str xs) (.int p) = some (.str [xs[p]], .fz) := by
  have e : ix xs.length (p : Int) = some p := by
    unfold ix
    rw [if_pos (by omega), if_pos (by omega)]
    rfl
  show (atD xs p).map _ = _
  unfold atD
  rw [e]
  show (xs[p]?).map _ = _
  rw [List.getElem?_eq_getElem h]
  rfl
theorem sliced_str {st : Sto} {xs : List Nat} {p q : Nat} (h1 : p < 2 ^ 60) (h2 : q < 2 ^ 60) : sliced st (.str xs) (.int p) (.int q) = some (.str ((xs.drop p).take (q - p)), .fz) := by
  have b1 : bnd (.int p) = some (some (p : Int)) := if_pos (by omega)
  have b2 : bnd (.int q) = some (some (q : Int)) := if_pos (by omega)
  unfold sliced
  rw [b1, b2]
  show some (D.str (slice xs (some (p : Int)) (some (q : Int))), Kd.fz) = _
  rw [slice_nat]
def wTest : IE := match f_words_of.body with | _ :: .whl _ c _ :: _ => c | _ => .con .non
def wBody : List IS := match f_words_of.body with | _ :: .whl _ _ b :: _ => b | _ => []
def iWhl : IS := match wBody with | [_, .ite _ _ [.ite _ _ [.ite _ _ [_, _, b, _, _]]]] => b | _ => .pass
def iTest : IE := match iWhl with | .whl _ c _ => c | _ => .con .non
def iBody : List IS := match iWhl with | .whl _ _ b => b | _ => []
/-- the inner loop -/
theorem inner (n : Nat) (xs : List Nat) (st : Sto) (o1 o2 o3 o4 : Option (D × Bool)) : ∀ (m e fuel : Nat) (P : Fl × Env → Sto → Prop), xs.length ≤ e + m → e ≤ xs.length → xs.length < 100000 → m < fuel →
    P (.nx, [some (.str xs, false), o1, o2, o3, o4, some (.int ((e + ((xs.drop e).takeWhile wordy).length : Nat) : Int), false)]) st →
    Ok (whlTurns (fun ρ s => evT prg (go prg n) iTest ρ s) (fun ρ s => execs prg (go prg n) iBody ρ s) fuel [some (.str xs, false), o1, o2, o3, o4, some (.int (e : Int), false)] st) P
  | m, e, 0, P, h1, h2, h3, h4, hP => by omega
  | m, e, fuel + 1, P, h1, h2, h3, h4, hP => by
    refine w.whl1 ?_
    dsimp only [iTest, iBody, iWhl, wBody, f_words_of]
    repeat infer_instance
    by_cases he : e < xs.length
    · refine w.if_t (decide_eq_true (by omega)) ?_
      repeat infer_instance
      refine w.ofO (item_str he) ?_
      repeat infer_instance
      have ed : xs.drop e = xs[e] :: xs.drop (e + 1) := List.drop_eq_getElem_cons he
      cases hw : wordy xs[e] with
      | true =>
        refine w.if_t hw ?_
        repeat infer_instance
        refine .inl ⟨rfl, ?_⟩
        repeat infer_instance
        refine inner n xs st o1 o2 o3 o4 (m - 1) (e + 1) fuel P (by omega) (by omega) h3 (by omega) ?_
        rw [ed, List.takeWhile_cons, hw] at hP
        have e2 : e + 1 + ((xs.drop (e + 1)).takeWhile wordy).length = e + (xs[e] :: (xs.drop (e + 1)).takeWhile wordy).length := by
          rw [List.length_cons]; omega
        rw [e2]
        exact hP
      | false =>
        refine w.if_f hw ?_
        repeat infer_instance
        refine .inr ⟨rfl, ?_⟩
        rw [ed, List.takeWhile_cons, hw] at hP
        exact hP
    · refine w.if_f (decide_eq_false (by omega)) ?_
      repeat infer_instance
      refine .inr ⟨rfl, ?_⟩
      have : xs.drop e = [] := List.drop_of_length_le (by omega)
      rw [this] at hP
      exact hP
theorem tok_nil (n : Nat) : tok n [] = [] := by cases n <;> rfl
/-- the outer loop -/
theorem outer (n : Nat) (xs : List Nat) (st : Sto) : ∀ (m p fuel : Nat) (found : List (List Nat)) (fs : List D) (o3 o4 o5 : Option (D × Bool)) (P : Fl × Env → Sto → Prop), fs = found.map .str → xs.length ≤ p + m → p ≤ xs.length + 2 → xs.length < 100000 → m < fuel → found.length + m < 100000 →
    (∀ (p' : Int) (o3 o4 o5 : Option (D × Bool)), P (.nx, [some (.str xs, false), some (.lst ((found ++ tok m (xs.drop p)).map .str), true), some (.int p', false), o3, o4, o5]) st) →
    Ok (whlTurns (fun ρ s => evT prg (go prg n) wTest ρ s) (fun ρ s => execs prg (go prg n) wBody ρ s) fuel [some (.str xs, false), some (.lst fs, true), some (.int (p : Int), false), o3, o4, o5] st) P
  | m, p, 0, found, fs, o3, o4, o5, P, h0, h1, h2, h3, h4, h5, hP => by omega
  | m, p, fuel + 1, found, fs, o3, o4, o5, P, h0, h1, h2, h3, h4, h5, hP => by
    refine w.whl1 ?_
    have hl : fs.length = found.length := by rw [h0, List.length_map]
    by_cases he : p < xs.length
    · obtain ⟨m, rfl⟩ : ∃ m', m = m' + 1 := ⟨m - 1, by omega⟩
      have ed : xs.drop p = xs[p] :: xs.drop (p + 1) := List.drop_eq_getElem_cons he
      have e2 : ((p : Int) + 2) = ((p + 2 : Nat) : Int) := by omega
      have es : sliced st (.str xs) (.int (p : Int)) (.int ((p : Int) + 2)) = some (.str ((xs.drop p).take 2), .fz) := by
        rw [e2, sliced_str (by omega) (by omega), Nat.add_sub_cancel_left]
      have again : ∀ (w' : List Nat) (q : Nat) (o3 o4 o5 : Option (D × Bool)), xs.length ≤ q + m → q ≤ xs.length + 2 → tok (m + 1) (xs.drop p) = w' :: tok m (xs.drop q) →
          Ok (whlTurns (fun ρ s => evT prg (go prg n) wTest ρ s) (fun ρ s => execs prg (go prg n) wBody ρ s) fuel [some (.str xs, false), some (.lst (fs ++ [.str w']), true), some (.int (q : Int), false), o3, o4, o5] st) P := by
        intro w' q o3 o4 o5 g1 g2 g3
        refine outer n xs st m q fuel (found ++ [w']) (fs ++ [.str w']) o3 o4 o5 P (by rw [h0]; simp) g1 g2 h3 (by omega) (by simp; omega) ?_
        intro p' o3 o4 o5
        have := hP p' o3 o4 o5
        rw [g3] at this
        rw [List.append_assoc]
        exact this
      have skip : ∀ (q : Nat) (o3 o4 o5 : Option (D × Bool)), xs.length ≤ q + m → q ≤ xs.length + 2 → tok (m + 1) (xs.drop p) = tok m (xs.drop q) →
          Ok (whlTurns (fun ρ s => evT prg (go prg n) wTest ρ s) (fun ρ s => execs prg (go prg n) wBody ρ s) fuel [some (.str xs, false), some (.lst fs, true), some (.int (q : Int), false), o3, o4, o5] st) P := by
        intro q o3 o4 o5 g1 g2 g3
        refine outer n xs st m q fuel found fs o3 o4 o5 P h0 g1 g2 h3 (by omega) (by omega) ?_
        intro p' o3 o4 o5
        have := hP p' o3 o4 o5
        rw [g3] at this
        exact this
      dsimp only [wTest, wBody, f_words_of] at again skip ⊢
      repeat infer_instance
      refine .inl ⟨decide_eq_true (by omega), ?_⟩
      repeat infer_instance
      refine w.ofO es ?_
      repeat infer_instance
      refine w.ofO (item_str he) ?_
      repeat infer_instance
      cases c1 : inSg ((xs.drop p).take 2) with
      | true =>
        refine w.if_t c1 ?_
        repeat infer_instance
        refine again _ (p + 2) _ _ _ (by omega) (by omega) ?_
        rw [ed] at c1 ⊢
        rw [tok, if_pos c1, List.drop_drop]
      | false =>
        refine w.if_f c1 ?_
        have c1' : ¬ inSg ((xs[p] :: xs.drop (p + 1)).take 2) = true := by rw [← ed, c1]; exact Bool.false_ne_true
        repeat infer_instance
        cases c2 : decide (xs[p] ∈ [40, 41, 44]) with
        | true =>
          refine w.if_t rfl ?_
          repeat infer_instance
          refine again _ (p + 1) _ _ _ (by omega) (by omega) ?_
          rw [ed, tok, if_neg c1', if_pos c2]
        | false =>
          refine w.if_f rfl ?_
          repeat infer_instance
          cases c3 : inSg [xs[p]] with
          | true =>
            refine w.if_t c3 ?_
            repeat infer_instance
            refine again _ (p + 1) _ _ _ (by omega) (by omega) ?_
            rw [ed, tok, if_neg c1', if_neg (by rw [c2]; exact Bool.false_ne_true), if_pos c3]
          | false =>
            refine w.if_f c3 ?_
            repeat infer_instance
            cases c4 : ([xs[p]] == [32]) with
            | true =>
              refine w.if_t c4 ?_
              repeat infer_instance
              refine skip (p + 1) _ _ _ (by omega) (by omega) ?_
              rw [ed, tok, if_neg c1', if_neg (by rw [c2]; exact Bool.false_ne_true), if_neg (by rw [c3]; exact Bool.false_ne_true), if_pos c4]
            | false =>
              refine w.if_f c4 ?_
              clear skip
              repeat infer_instance
              refine inner n xs st _ _ _ _ xs.length p 1000000 _ (by omega) (by omega) h3 (by omega) ?_
              have hL : ((xs.drop p).takeWhile wordy).length ≤ xs.length - p := by
                have := (List.takeWhile_sublist (p := wordy) (l := xs.drop p)).length_le
                rw [List.length_drop] at this
                exact this
              have em : (if ((p + ((xs.drop p).takeWhile wordy).length : Nat) : Int) < (p : Int) + 1 then (p : Int) + 1 else ((p + ((xs.drop p).takeWhile wordy).length : Nat) : Int)) = ((p + max ((xs.drop p).takeWhile wordy).length 1 : Nat) : Int) := by
                split <;> omega
              repeat infer_instance
              rw [em]
              refine w.ofO (sliced_str (by omega) (by omega)) ?_
              repeat infer_instance
              rw [em]
              rw [Nat.add_sub_cancel_left]
              refine again _ (p + max ((xs.drop p).takeWhile wordy).length 1) _ _ _ (by omega) (by omega) ?_
              rw [ed, tok, if_neg c1', if_neg (by rw [c2]; exact Bool.false_ne_true), if_neg (by rw [c3]; exact Bool.false_ne_true), if_neg (by rw [c4]; exact Bool.false_ne_true), ← ed, List.drop_drop]
    · dsimp only [wTest, wBody, f_words_of]
      repeat infer_instance
      refine .inr ⟨decide_eq_false (by omega), ?_⟩
      have : xs.drop p = [] := List.drop_of_length_le (by omega)
      rw [this, tok_nil, List.append_nil] at hP
      subst h0
      exact hP _ _ _ _
theorem tok_len : ∀ (n : Nat) (xs : List Nat), (tok n xs).length ≤ n
  | 0, _ => Nat.le_refl _
  | n + 1, [] => Nat.zero_le _
  | n + 1, c :: r => by
    have h1 := tok_len n
    rw [tok]
    split
    · have := h1 (r.drop 1); simp only [List.length_cons]; omega
    · split
      · have := h1 r; simp; omega
      · split
        · have := h1 r; simp; omega
        · split
          · have := h1 r; omega
          · have := h1 ((c :: r).drop (max ((c :: r).takeWhile wordy).length 1)); simp only [List.length_cons]; omega
theorem plain_strs : ∀ ts : List (List Nat), plainA (ts.map .str) = true
  | [] => rfl
  | t :: r => by
    rw [List.map_cons, plainA, plain_strs r]
    rfl
theorem dep_strs : ∀ ts : List (List Nat), depA (ts.map .str) = 0
  | [] => rfl
  | t :: r => by
    rw [List.map_cons, depA, dep_strs r]
    rfl
theorem words_of (n : Nat) (xs : List Nat) (st : Sto) (h3 : xs.length < 50000) (ht : tok xs.length xs ≠ []) : Ok (go prg (n + 1) 0 [.str xs] st) (Is (.tup ((tok xs.length xs).map .str)) st) := by
  refine w.run (fd := f_words_of) rfl rfl ?_
  dsimp only [f_words_of]
  repeat infer_instance
  refine outer n xs st xs.length 0 1000000 [] [] _ _ _ _ rfl (by omega) (by omega) (by omega) (by omega) (by simp; omega) ?_
  intro p' o3 o4 o5
  rw [List.drop_zero, List.nil_append]
  repeat infer_instance
  have hne : ∃ a r, (tok xs.length xs).map D.str = a :: r := by
    cases h : tok xs.length xs with
    | nil => exact absurd h ht
    | cons a r => exact ⟨_, _, rfl⟩
  have hl := tok_len xs.length xs
  have e1 : cmpop .eq st (.lst ((tok xs.length xs).map .str)) (.lst []) = some false := by
    have : cmpOk (view st (.lst ((tok xs.length xs).map .str))) (view st (.lst [])) = true := by
      show (plainD (.lst ((tok xs.length xs).map .str)) && plainD (.lst []) && decide (dep (.lst ((tok xs.length xs).map .str)) ≤ 32) && decide (dep (.lst []) ≤ 32)) = true
      rw [plainD, plain_strs, dep, dep_strs]
      rfl
    rw [w.eqD this]
    obtain ⟨a, r, e⟩ := hne
    show some (deq (.lst ((tok xs.length xs).map .str)) (.lst [])) = _
    rw [e]
    rfl
  refine w.ofO e1 ?_
  repeat infer_instance
  have e2 : builtin .tuple st [.lst ((tok xs.length xs).map .str)] = some (.tup ((tok xs.length xs).map .str), .fz) := if_pos (by rw [List.length_map]; unfold line; omega)
  refine w.ofO e2 ?_
  repeat infer_instance
  exact ⟨rfl, rfl⟩
end K01
end S49
section S50
set_option autoImplicit false
set_option linter.all false
set_option maxRecDepth 100000
set_option Elab.async false
set_option maxHeartbeats 4000000
/-! Q5: the words of a tree's text. -/
namespace K01
open RS
theorem tok_fuel : ∀ (n m : Nat) (xs : List Nat), xs.length ≤ n → xs.length ≤ m → tok n xs = tok m xs
  | 0, m, xs, h1, h2 => by
    have : xs = [] := List.eq_nil_of_length_eq_zero (by omega)
    subst this
    rw [tok_nil, tok_nil]
  | n + 1, 0, xs, h1, h2 => by
    have : xs = [] := List.eq_nil_of_length_eq_zero (by omega)
    subst this
    rw [tok_nil, tok_nil]
  | n + 1, m + 1, [], h1, h2 => by rw [tok_nil, tok_nil]
  | n + 1, m + 1, c :: r, h1, h2 => by
    simp only [List.length_cons] at h1 h2
    have e1 := tok_fuel n m (r.drop 1) (by rw [List.length_drop]; omega) (by rw [List.length_drop]; omega)
    have e2 := tok_fuel n m r (by omega) (by omega)
    have e3 := tok_fuel n m ((c :: r).drop (max ((c :: r).takeWhile wordy).length 1)) (by rw [List.length_drop, List.length_cons]; omega) (by rw [List.length_drop, List.length_cons]; omega)
    rw [tok, tok, e1, e2, e3]
def tk0 (xs : List Nat) : List (List Nat) := tok xs.length xs
theorem tk0_eq {n : Nat} {xs : List Nat} (h : xs.length ≤ n) : tok n xs = tk0 xs := tok_fuel _ _ _ h (Nat.le_refl _)
theorem tk0_nil : tk0 [] = [] := rfl
def sgc : List Nat := [60, 62, 33, 61]
theorem noSg {c : Nat} {r : List Nat} (h : c ∉ sgc) : inSg ((c :: r).take 2) = false ∧ inSg [c] = false := by
  simp only [sgc, List.mem_cons, List.not_mem_nil, or_false, not_or] at h
  obtain ⟨h1, h2, h3, h4⟩ := h
  have a1 : (60 == c) = false := beq_eq_false_iff_ne.mpr fun e => h1 e.symm
  have a2 : (62 == c) = false := beq_eq_false_iff_ne.mpr fun e => h2 e.symm
  have a3 : (33 == c) = false := beq_eq_false_iff_ne.mpr fun e => h3 e.symm
  have a4 : (61 == c) = false := beq_eq_false_iff_ne.mpr fun e => h4 e.symm
  cases r with
  | nil => simp [inSg, sgs, a1, a2, a3, a4]
  | cons d r => simp [inSg, sgs, a1, a2, a3, a4]
theorem tk_sp (r : List Nat) : tk0 (32 :: r) = tk0 r := by
  have h := noSg (c := 32) (r := r) (by decide)
  show tok (r.length + 1) (32 :: r) = _
  rw [tok, if_neg (by rw [h.1]; exact Bool.false_ne_true), if_neg (by decide), if_neg (by decide), if_pos (by decide)]
  rfl
theorem tk_op {c : Nat} (hc : c ∈ [40, 41, 44]) (r : List Nat) : tk0 (c :: r) = [c] :: tk0 r := by
  have h := noSg (c := c) (r := r) (by
    simp only [List.mem_cons, List.not_mem_nil, or_false] at hc
    rcases hc with rfl | rfl | rfl <;> decide)
  show tok (r.length + 1) (c :: r) = _
  rw [tok, if_neg (by rw [h.1]; exact Bool.false_ne_true), if_pos (decide_eq_true hc)]
  rfl
/-- where a word ends -/
def delim (r : List Nat) : Prop := ∀ c q, r = c :: q → wordy c = false
theorem takeWhile_app : ∀ (w r : List Nat), (∀ c ∈ w, wordy c = true) → delim r → (w ++ r).takeWhile wordy = w
  | [], r, _, h => by
    cases r with
    | nil => rfl
    | cons c q => rw [List.nil_append, List.takeWhile_cons, h c q rfl]; rfl
  | c :: w, r, h1, h => by
    rw [List.cons_append, List.takeWhile_cons, h1 c List.mem_cons_self]
    show c :: (w ++ r).takeWhile wordy = _
    rw [takeWhile_app w r (fun x hx => h1 x (List.mem_cons_of_mem _ hx)) h]
theorem tk_word {w r : List Nat} (h0 : w ≠ []) (h1 : ∀ c ∈ w, wordy c = true) (h : delim r) : tk0 (w ++ r) = w :: tk0 r := by
  cases w with
  | nil => exact absurd rfl h0
  | cons c w =>
    have hw := h1 c List.mem_cons_self
    have hs : c ∉ stops := by
      intro hc
      unfold wordy at hw
      rw [decide_eq_true hc] at hw
      cases hw
    have hn := noSg (c := c) (r := w ++ r) (fun z => hs (by
      simp only [sgc, stops, List.mem_cons, List.not_mem_nil, or_false] at z ⊢
      omega))
    have e := takeWhile_app (c :: w) r h1 h
    show tok ((w ++ r).length + 1) (c :: (w ++ r)) = _
    rw [tok, if_neg (by rw [hn.1]; exact Bool.false_ne_true), if_neg (by
      intro z
      have z := of_decide_eq_true z
      apply hs
      simp only [stops, List.mem_cons, List.not_mem_nil, or_false] at z ⊢
      omega), if_neg (by rw [hn.2]; exact Bool.false_ne_true), if_neg (by
      intro z
      have z : [c] = [32] := by simpa using z
      cases z
      exact hs (by decide))]
    have e' : (c :: (w ++ r)).takeWhile wordy = c :: w := e
    rw [e']
    have em : max (c :: w).length 1 = (c :: w).length := by rw [List.length_cons]; omega
    rw [em]
    have t1 : (c :: (w ++ r)).take (c :: w).length = c :: w := by
      show ((c :: w) ++ r).take (c :: w).length = _
      rw [List.take_left]
    have t2 : (c :: (w ++ r)).drop (c :: w).length = r := by
      show ((c :: w) ++ r).drop (c :: w).length = _
      rw [List.drop_left]
    rw [t1, t2, tk0_eq (by simp)]
theorem tk_pair {a : Nat} (ha : a ∈ [60, 62, 33]) (r : List Nat) : tk0 (a :: 61 :: r) = [a, 61] :: tk0 r := by
  have h : inSg ((a :: 61 :: r).take 2) = true := by
    simp only [List.mem_cons, List.not_mem_nil, or_false] at ha
    rcases ha with rfl | rfl | rfl <;> rfl
  show tok ((61 :: r).length + 1) (a :: 61 :: r) = _
  rw [tok, if_pos h]
  show [a, 61] :: tok _ r = _
  rw [tk0_eq (by simp)]
theorem tk_eq (r : List Nat) : tk0 (61 :: r) = [61] :: tk0 r := by
  cases r with
  | nil => rfl
  | cons d r =>
    have h : inSg ((61 :: d :: r).take 2) = false := by simp [inSg, sgs]
    show tok ((d :: r).length + 1) (61 :: d :: r) = _
    rw [tok, if_neg (by rw [h]; exact Bool.false_ne_true), if_neg (by decide), if_pos (by decide)]
    rfl
theorem tk_cmp {a : Nat} (ha : a ∈ [60, 62]) (r : List Nat) : tk0 (a :: 32 :: r) = [a] :: tk0 r := by
  have h : inSg ((a :: 32 :: r).take 2) = false ∧ inSg [a] = true := by
    simp only [List.mem_cons, List.not_mem_nil, or_false] at ha
    rcases ha with rfl | rfl <;> exact ⟨rfl, rfl⟩
  show tok ((32 :: r).length + 1) (a :: 32 :: r) = _
  rw [tok, if_neg (by rw [h.1]; exact Bool.false_ne_true), if_neg (by
    simp only [List.mem_cons, List.not_mem_nil, or_false] at ha
    rcases ha with rfl | rfl <;> decide), if_pos h.2, tk0_eq (Nat.le_refl _), tk_sp]

/-! ### trees -/
def ctk : List D → List (List Nat)
  | [] => []
  | [v] => [strD v]
  | v :: r => strD v :: [44] :: ctk r
def ltk : D → List (List Nat)
  | .tup [.str k] => [k]
  | .tup [.str _, .str nm] => [nm]
  | .tup [.str _, .str nm, .tup vs] => nm :: kIn :: [40] :: (ctk vs ++ [[41]])
  | .tup [.str sg, .str nm, v] => [nm, sg, strD v]
  | _ => []
def parT (b : Bool) (t : List (List Nat)) : List (List Nat) := if b = true then [40] :: (t ++ [[41]]) else t
def tk : T → Nat → List (List Nat)
  | .lf d, _ => ltk d
  | .no a, _ => kNot :: tk a 2
  | .an a b, lv => parT (decide (1 < lv)) (tk a 1 ++ kAnd :: tk b 2)
  | .or a b, lv => parT (decide (0 < lv)) (tk a 0 ++ kOr :: tk b 1)
theorem ltk_cm {sg nm : List Nat} {v : D} (h : v ∈ vals) : ltk (.tup [.str sg, .str nm, v]) = [nm, sg, strD v] := by
  have := (vals_len v h).2.1
  cases v <;> first | rfl | exact absurd rfl (this _)
theorem nms_w : ∀ nm ∈ nms, nm ≠ [] ∧ ∀ c ∈ nm, wordy c = true := by decide
theorem vals_w : ∀ v ∈ vals, strD v ≠ [] ∧ ∀ c ∈ strD v, wordy c = true := by
  intro v hv
  simp only [vals, List.mem_cons, List.not_mem_nil, or_false] at hv
  rcases hv with rfl | rfl | rfl | rfl | rfl <;> decide
theorem ivals_w : ∀ v ∈ ivals, strD v ≠ [] ∧ ∀ c ∈ strD v, wordy c = true := by
  intro v hv
  simp only [ivals, List.mem_cons, List.not_mem_nil, or_false] at hv
  rcases hv with rfl | rfl | rfl <;> decide
theorem delim_c {c : Nat} {r : List Nat} (h : wordy c = false) : delim (c :: r) := fun _ _ e => by cases e; exact h
theorem tok_cat (σ : Sty) : ∀ (vs : List D) (r : List Nat), vs ≠ [] → (∀ v ∈ vs, v ∈ ivals) → tk0 (cat (comma σ) (vs.map strD) ++ 41 :: r) = ctk vs ++ tk0 (41 :: r)
  | [], _, h, _ => absurd rfl h
  | [v], r, _, h => by
    have hw := ivals_w v (h v List.mem_cons_self)
    show tk0 (strD v ++ 41 :: r) = _
    rw [tk_word hw.1 hw.2 (delim_c rfl)]
    rfl
  | v :: w :: q, r, _, h => by
    have hw := ivals_w v (h v List.mem_cons_self)
    have ih := tok_cat σ (w :: q) r (by simp) fun x hx => h x (List.mem_cons_of_mem _ hx)
    have e : cat (comma σ) ((v :: w :: q).map strD) = strD v ++ comma σ ++ cat (comma σ) ((w :: q).map strD) := rfl
    have e2 : ctk (v :: w :: q) = strD v :: [44] :: ctk (w :: q) := rfl
    rw [e, e2, List.append_assoc, List.append_assoc]
    have ec : tk0 (comma σ ++ (cat (comma σ) ((w :: q).map strD) ++ 41 :: r)) = [44] :: (ctk (w :: q) ++ tk0 (41 :: r)) := by
      unfold comma
      split
      · rename_i hc
        show tk0 (44 :: (cat [44] ((w :: q).map strD) ++ 41 :: r)) = _
        rw [tk_op (by decide)]
        unfold comma at ih
        rw [if_pos hc] at ih
        rw [ih]
      · rename_i hc
        show tk0 (44 :: 32 :: (cat [44, 32] ((w :: q).map strD) ++ 41 :: r)) = _
        rw [tk_op (by decide), tk_sp]
        unfold comma at ih
        rw [if_neg hc] at ih
        rw [ih]
    rw [tk_word hw.1 hw.2, ec]
    · rfl
    · unfold comma
      split <;> exact delim_c rfl
theorem tok_leaf (σ : Sty) {d : D} (h : Lf d) (r : List Nat) (hr : delim r) : tk0 (ltx σ d ++ r) = ltk d ++ tk0 r := by
  cases h with
  | yes => exact tk_word (w := kYes) (by decide) (by decide) hr
  | no => exact tk_word (w := kNo) (by decide) (by decide) hr
  | is h => exact tk_word (nms_w _ h).1 (nms_w _ h).2 hr
  | @cm sg nm v h1 h2 h3 =>
    rw [ltx_cm h3, ltk_cm h3, List.append_assoc, List.append_assoc]
    have hv := vals_w v h3
    have hn := nms_w nm h2
    have e0 : tk0 (sep σ sg ++ (strD v ++ r)) = sg :: strD v :: tk0 r := by
      simp only [sgs, List.mem_cons, List.not_mem_nil, or_false] at h1
      unfold sep
      rcases h1 with rfl | rfl | rfl | rfl | rfl | rfl
      · split
        · show tk0 (60 :: 61 :: (strD v ++ r)) = _
          rw [tk_pair (by decide), tk_word hv.1 hv.2 hr]
        · show tk0 (32 :: 60 :: 61 :: 32 :: (strD v ++ r)) = _
          rw [tk_sp, tk_pair (by decide), tk_sp, tk_word hv.1 hv.2 hr]
      · rw [if_neg (by simp)]
        show tk0 (32 :: 62 :: 61 :: 32 :: (strD v ++ r)) = _
        rw [tk_sp, tk_pair (by decide), tk_sp, tk_word hv.1 hv.2 hr]
      · rw [if_neg (by simp)]
        show tk0 (32 :: 33 :: 61 :: 32 :: (strD v ++ r)) = _
        rw [tk_sp, tk_pair (by decide), tk_sp, tk_word hv.1 hv.2 hr]
      · split
        · show tk0 (61 :: (strD v ++ r)) = _
          rw [tk_eq, tk_word hv.1 hv.2 hr]
        · show tk0 (32 :: 61 :: 32 :: (strD v ++ r)) = _
          rw [tk_sp, tk_eq, tk_sp, tk_word hv.1 hv.2 hr]
      · rw [if_neg (by simp)]
        show tk0 (32 :: 60 :: 32 :: (strD v ++ r)) = _
        rw [tk_sp, tk_cmp (by decide), tk_word hv.1 hv.2 hr]
      · rw [if_neg (by simp)]
        show tk0 (32 :: 62 :: 32 :: (strD v ++ r)) = _
        rw [tk_sp, tk_cmp (by decide), tk_word hv.1 hv.2 hr]
    rw [tk_word hn.1 hn.2, e0]
    · rfl
    · simp only [sgs, List.mem_cons, List.not_mem_nil, or_false] at h1
      unfold sep
      rcases h1 with rfl | rfl | rfl | rfl | rfl | rfl <;> split <;> exact delim_c rfl
  | @inn nm vs h1 h2 h3 h4 =>
    have hn := nms_w nm h1
    have e : ltx σ (.tup [.str kIn, .str nm, .tup vs]) ++ r = nm ++ (32 :: ([105, 110] ++ (32 :: 40 :: (cat (comma σ) (vs.map strD) ++ 41 :: r)))) := by
      simp [ltx]
    have e2 : ltk (.tup [.str kIn, .str nm, .tup vs]) = nm :: kIn :: [40] :: (ctk vs ++ [[41]]) := rfl
    rw [e, e2, tk_word hn.1 hn.2 (delim_c rfl), tk_sp, tk_word (by decide) (by decide) (delim_c rfl), tk_sp, tk_op (by decide), tok_cat σ vs r h2 h4, tk_op (by decide)]
    simp [kIn]
theorem tok_tx (σ : Sty) : ∀ (t : T) (k lv : Nat) (r : List Nat), Wf t k → delim r → tk0 (tx σ t lv ++ r) = tk t lv ++ tk0 r
  | .lf d, k, lv, r, h, hr => tok_leaf σ h r hr
  | .no a, k, lv, r, ⟨j, e, h⟩, hr => by
    show tk0 ([110, 111, 116] ++ (32 :: (tx σ a 2 ++ r))) = kNot :: tk a 2 ++ tk0 r
    rw [tk_word (by decide) (by decide) (delim_c rfl), tk_sp, tok_tx σ a j 2 r h hr]
    rfl
  | .an a b, k, lv, r, ⟨j, e, h1, h2⟩, hr => by
    have in_ : ∀ q, delim q → tk0 ((tx σ a 1 ++ [32, 97, 110, 100, 32] ++ tx σ b 2) ++ q) = (tk a 1 ++ kAnd :: tk b 2) ++ tk0 q := fun q hq => by
      have e1 : (tx σ a 1 ++ [32, 97, 110, 100, 32] ++ tx σ b 2) ++ q = tx σ a 1 ++ (32 :: ([97, 110, 100] ++ (32 :: (tx σ b 2 ++ q)))) := by simp
      rw [e1, tok_tx σ a j 1 _ h1 (delim_c rfl), tk_sp, tk_word (by decide) (by decide) (delim_c rfl), tk_sp, tok_tx σ b j 2 q h2 hq]
      simp [kAnd]
    unfold tx tk paren parT
    split
    · show tk0 (40 :: ((tx σ a 1 ++ [32, 97, 110, 100, 32] ++ tx σ b 2) ++ [41] ++ r)) = _
      rw [tk_op (by decide), List.append_assoc, in_ ([41] ++ r) (delim_c rfl)]
      show [40] :: ((tk a 1 ++ kAnd :: tk b 2) ++ tk0 (41 :: r)) = _
      rw [tk_op (by decide)]
      simp
    · exact in_ r hr
  | .or a b, k, lv, r, ⟨j, e, h1, h2⟩, hr => by
    have in_ : ∀ q, delim q → tk0 ((tx σ a 0 ++ [32, 111, 114, 32] ++ tx σ b 1) ++ q) = (tk a 0 ++ kOr :: tk b 1) ++ tk0 q := fun q hq => by
      have e1 : (tx σ a 0 ++ [32, 111, 114, 32] ++ tx σ b 1) ++ q = tx σ a 0 ++ (32 :: ([111, 114] ++ (32 :: (tx σ b 1 ++ q)))) := by simp
      rw [e1, tok_tx σ a j 0 _ h1 (delim_c rfl), tk_sp, tk_word (by decide) (by decide) (delim_c rfl), tk_sp, tok_tx σ b j 1 q h2 hq]
      simp [kOr]
    unfold tx tk paren parT
    split
    · show tk0 (40 :: ((tx σ a 0 ++ [32, 111, 114, 32] ++ tx σ b 1) ++ [41] ++ r)) = _
      rw [tk_op (by decide), List.append_assoc, in_ ([41] ++ r) (delim_c rfl)]
      show [40] :: ((tk a 0 ++ kOr :: tk b 1) ++ tk0 (41 :: r)) = _
      rw [tk_op (by decide)]
      simp
    · exact in_ r hr
end K01
end S50
section S51
set_option autoImplicit false
set_option linter.all false
set_option maxRecDepth 100000
set_option Elab.async false
set_option maxHeartbeats 4000000
/-! Q6: blanks left out. -/
namespace K01
open RS PySem.StrLaws
/-- what is told of a text to be replaced -/
structure Pat (y : List Nat) (h0 : Nat) : Prop where
  ne : y ≠ []
  hd : ∀ c r, c ≠ h0 → ¬ (c :: r).take y.length = y
  sp : ∀ c r, c ∉ [60, 61, 32] → ¬ (32 :: c :: r).take y.length = y
section
variable {y z : List Nat} {h0 : Nat} (p : Pat y h0)
include p
theorem rp_word : ∀ (w r : List Nat), (∀ c ∈ w, c ≠ h0) → replL y z (w ++ r) = w ++ replL y z r
  | [], _, _ => rfl
  | c :: w, r, h => by
    rw [List.cons_append, replL_miss (p.hd c _ (h c List.mem_cons_self)), rp_word w r fun x hx => h x (List.mem_cons_of_mem _ hx)]
    rfl
theorem rp_u {u : List Nat} (h : ∃ c q, u = c :: q ∧ c ∉ [60, 61, 32]) : replL y z (32 :: u) = 32 :: replL y z u := by
  obtain ⟨c, q, rfl, h⟩ := h
  exact replL_miss (p.sp c q h)
theorem rp_sp {c : Nat} {r : List Nat} (h : c ∉ [60, 61, 32]) : replL y z (32 :: c :: r) = 32 :: replL y z (c :: r) := replL_miss (p.sp c r h)
end
theorem cat_hd {σ : Sty} {d : D} (h : Lf d) : ∃ c q, ltx σ d = c :: q ∧ c ∉ [60, 61, 32] := by
  have hn : ∀ nm ∈ nms, ∃ c q, nm = c :: q ∧ c ∉ [60, 61, 32] := by
    intro nm h
    simp only [nms, List.mem_cons, List.not_mem_nil, or_false] at h
    rcases h with rfl | rfl | rfl <;> exact ⟨_, _, rfl, by decide⟩
  cases h with
  | yes => exact ⟨_, _, rfl, by decide⟩
  | no => exact ⟨_, _, rfl, by decide⟩
  | is h => obtain ⟨c, q, e, h⟩ := hn _ h; exact ⟨c, q, e, h⟩
  | cm h1 h2 h3 => obtain ⟨c, q, e, h⟩ := hn _ h2; rw [ltx_cm h3, e]; exact ⟨c, _, rfl, h⟩
  | inn h1 h2 h3 h4 => obtain ⟨c, q, e, h⟩ := hn _ h1; subst e; exact ⟨c, _, rfl, h⟩
theorem tx_hd (σ : Sty) : ∀ (t : T) (k lv : Nat), Wf t k → ∃ c q, tx σ t lv = c :: q ∧ c ∉ [60, 61, 32]
  | .lf d, k, lv, h => cat_hd h
  | .no a, k, lv, h => ⟨110, _, rfl, by decide⟩
  | .an a b, k, lv, ⟨j, e, h1, h2⟩ => by
    obtain ⟨c, q, e1, h⟩ := tx_hd σ a j 1 h1
    unfold tx paren
    split
    · exact ⟨40, _, rfl, by decide⟩
    · rw [e1]; exact ⟨c, _, rfl, h⟩
  | .or a b, k, lv, ⟨j, e, h1, h2⟩ => by
    obtain ⟨c, q, e1, h⟩ := tx_hd σ a j 0 h1
    unfold tx paren
    split
    · exact ⟨40, _, rfl, by decide⟩
    · rw [e1]; exact ⟨c, _, rfl, h⟩
theorem rp_tx {y z : List Nat} {h0 : Nat} (p : Pat y h0) (hh : h0 = 32 ∨ h0 = 44) {σ σ' : Sty} (H : ∀ d, Lf d → ∀ r, replL y z (ltx σ d ++ r) = ltx σ' d ++ replL y z r) :
    ∀ (t : T) (k lv : Nat) (r : List Nat), Wf t k → replL y z (tx σ t lv ++ r) = tx σ' t lv ++ replL y z r
  | .lf d, k, lv, r, h => H d h r
  | .no a, k, lv, r, ⟨j, e, h⟩ => by
    obtain ⟨c, q, e1, hc⟩ := tx_hd σ a j 2 h
    have ih := rp_tx p hh H a j 2 r h
    show replL y z ([110, 111, 116] ++ (32 :: (tx σ a 2 ++ r))) = [110, 111, 116] ++ (32 :: (tx σ' a 2 ++ replL y z r))
    rw [rp_word p _ _ (by rcases hh with rfl | rfl <;> decide)]
    rw [rp_u p ⟨c, q ++ r, by rw [e1]; rfl, hc⟩, ih]
  | .an a b, k, lv, r, ⟨j, e, h1, h2⟩ => by
    obtain ⟨c, q, e1, hc⟩ := tx_hd σ b j 2 h2
    have in_ : ∀ r, replL y z ((tx σ a 1 ++ [32, 97, 110, 100, 32] ++ tx σ b 2) ++ r) = (tx σ' a 1 ++ [32, 97, 110, 100, 32] ++ tx σ' b 2) ++ replL y z r := fun r => by
      have ih1 := rp_tx p hh H a j 1 (32 :: ([97, 110, 100] ++ (32 :: (tx σ b 2 ++ r)))) h1
      have ih2 := rp_tx p hh H b j 2 r h2
      have e2 : (tx σ a 1 ++ [32, 97, 110, 100, 32] ++ tx σ b 2) ++ r = tx σ a 1 ++ (32 :: ([97, 110, 100] ++ (32 :: (tx σ b 2 ++ r)))) := by simp
      rw [e2, ih1]
      have e3 : replL y z (32 :: ([97, 110, 100] ++ (32 :: (tx σ b 2 ++ r)))) = 32 :: ([97, 110, 100] ++ (32 :: (tx σ' b 2 ++ replL y z r))) := by
        rw [rp_u (u := [97, 110, 100] ++ (32 :: (tx σ b 2 ++ r))) p ⟨97, _, rfl, by decide⟩, rp_word p _ _ (by rcases hh with rfl | rfl <;> decide), rp_u p ⟨c, q ++ r, by rw [e1]; rfl, hc⟩, ih2]
      rw [e3]
      simp
    unfold tx paren
    split
    · show replL y z ([40] ++ ((tx σ a 1 ++ [32, 97, 110, 100, 32] ++ tx σ b 2) ++ [41] ++ r)) = [40] ++ ((tx σ' a 1 ++ [32, 97, 110, 100, 32] ++ tx σ' b 2) ++ [41] ++ replL y z r)
      rw [rp_word p _ _ (by rcases hh with rfl | rfl <;> decide), List.append_assoc _ [41] r, in_, rp_word p _ _ (by rcases hh with rfl | rfl <;> decide)]
      simp
    · exact in_ r
  | .or a b, k, lv, r, ⟨j, e, h1, h2⟩ => by
    obtain ⟨c, q, e1, hc⟩ := tx_hd σ b j 1 h2
    have in_ : ∀ r, replL y z ((tx σ a 0 ++ [32, 111, 114, 32] ++ tx σ b 1) ++ r) = (tx σ' a 0 ++ [32, 111, 114, 32] ++ tx σ' b 1) ++ replL y z r := fun r => by
      have ih1 := rp_tx p hh H a j 0 (32 :: ([111, 114] ++ (32 :: (tx σ b 1 ++ r)))) h1
      have ih2 := rp_tx p hh H b j 1 r h2
      have e2 : (tx σ a 0 ++ [32, 111, 114, 32] ++ tx σ b 1) ++ r = tx σ a 0 ++ (32 :: ([111, 114] ++ (32 :: (tx σ b 1 ++ r)))) := by simp
      rw [e2, ih1]
      have e3 : replL y z (32 :: ([111, 114] ++ (32 :: (tx σ b 1 ++ r)))) = 32 :: ([111, 114] ++ (32 :: (tx σ' b 1 ++ replL y z r))) := by
        rw [rp_u (u := [111, 114] ++ (32 :: (tx σ b 1 ++ r))) p ⟨111, _, rfl, by decide⟩, rp_word p _ _ (by rcases hh with rfl | rfl <;> decide), rp_u p ⟨c, q ++ r, by rw [e1]; rfl, hc⟩, ih2]
      rw [e3]
      simp
    unfold tx paren
    split
    · show replL y z ([40] ++ ((tx σ a 0 ++ [32, 111, 114, 32] ++ tx σ b 1) ++ [41] ++ r)) = [40] ++ ((tx σ' a 0 ++ [32, 111, 114, 32] ++ tx σ' b 1) ++ [41] ++ replL y z r)
      rw [rp_word p _ _ (by rcases hh with rfl | rfl <;> decide), List.append_assoc _ [41] r, in_, rp_word p _ _ (by rcases hh with rfl | rfl <;> decide)]
      simp
    · exact in_ r
def σ1 : Sty := ⟨true, false, false⟩
def σ2 : Sty := ⟨true, true, false⟩
def σ3 : Sty := ⟨true, true, true⟩
theorem pat1 : Pat [32, 60, 61, 32] 32 := ⟨by simp, fun c r h e => by simp at e; omega, fun c r h e => by simp at e h; omega⟩
theorem pat2 : Pat [32, 61, 32] 32 := ⟨by simp, fun c r h e => by simp at e; omega, fun c r h e => by simp at e h; omega⟩
theorem pat3 : Pat [44, 32] 44 := ⟨by simp, fun c r h e => by simp at e; omega, fun c r h e => by simp at e⟩
theorem vals_n : ∀ v ∈ vals, ∃ c q, strD v = c :: q ∧ c ∉ [60, 61, 32] ∧ (∀ c ∈ strD v, c ≠ 32) ∧ ∀ c ∈ strD v, c ≠ 44 := by
  intro v hv
  simp only [vals, List.mem_cons, List.not_mem_nil, or_false] at hv
  rcases hv with rfl | rfl | rfl | rfl | rfl
  · exact ⟨_, _, rfl, by decide, by decide, by decide⟩
  · exact ⟨_, _, rfl, by decide, by decide, by decide⟩
  · exact ⟨_, _, rfl, by decide, by decide, by decide⟩
  · exact ⟨_, _, rfl, by decide, by decide, by decide⟩
  · exact ⟨_, _, rfl, by decide, by decide, by decide⟩
theorem ivals_n : ∀ v ∈ ivals, ∃ c q, strD v = c :: q ∧ c ∉ [60, 61, 32] ∧ (∀ c ∈ strD v, c ≠ 32) ∧ ∀ c ∈ strD v, c ≠ 44 := by
  intro v hv
  simp only [ivals, List.mem_cons, List.not_mem_nil, or_false] at hv
  rcases hv with rfl | rfl | rfl
  · exact ⟨_, _, rfl, by decide, by decide, by decide⟩
  · exact ⟨_, _, rfl, by decide, by decide, by decide⟩
  · exact ⟨_, _, rfl, by decide, by decide, by decide⟩
theorem nms_n : ∀ nm ∈ nms, (∀ c ∈ nm, c ≠ 32) ∧ ∀ c ∈ nm, c ≠ 44 := by decide
/-- a comma that stays -/
theorem rp_cat {y z : List Nat} (p : Pat y 32) : ∀ (vs : List D) (r : List Nat), (∀ v ∈ vs, v ∈ ivals) → replL y z (cat [44, 32] (vs.map strD) ++ r) = cat [44, 32] (vs.map strD) ++ replL y z r
  | [], r, _ => rfl
  | [v], r, h => by
    obtain ⟨c, q, e, h1, h2, h3⟩ := ivals_n v (h v List.mem_cons_self)
    exact rp_word p _ _ h2
  | v :: w :: q, r, h => by
    obtain ⟨c, q1, e, h1, h2, h3⟩ := ivals_n v (h v List.mem_cons_self)
    obtain ⟨c2, q2, e', h1', _, _⟩ := ivals_n w (h w (List.mem_cons_of_mem _ List.mem_cons_self))
    have ih := rp_cat (z := z) p (w :: q) r fun x hx => h x (List.mem_cons_of_mem _ hx)
    have e0 : cat [44, 32] ((v :: w :: q).map strD) ++ r = strD v ++ ([44] ++ (32 :: (cat [44, 32] ((w :: q).map strD) ++ r))) := by
      show strD v ++ [44, 32] ++ cat [44, 32] ((w :: q).map strD) ++ r = _
      simp
    have e4 : ∃ q', cat [44, 32] ((w :: q).map strD) ++ r = c2 :: q' := by
      cases q with
      | nil => exact ⟨_, by show strD w ++ r = _; rw [e']; rfl⟩
      | cons u q => exact ⟨_, by show strD w ++ [44, 32] ++ _ ++ r = _; rw [e']; rfl⟩
    obtain ⟨q', e4⟩ := e4
    rw [e0, rp_word p _ _ h2, rp_word p _ _ (by decide), e4, rp_sp p h1', ← e4, ih]
    show _ = strD v ++ [44, 32] ++ cat [44, 32] ((w :: q).map strD) ++ replL y z r
    simp
theorem rp_cat3 : ∀ (vs : List D) (r : List Nat), (∀ v ∈ vs, v ∈ ivals) → replL [44, 32] [44] (cat [44, 32] (vs.map strD) ++ r) = cat [44] (vs.map strD) ++ replL [44, 32] [44] r
  | [], r, _ => rfl
  | [v], r, h => by
    obtain ⟨c, q, e, h1, h2, h3⟩ := ivals_n v (h v List.mem_cons_self)
    exact rp_word pat3 _ _ h3
  | v :: w :: q, r, h => by
    obtain ⟨c, q1, e, h1, h2, h3⟩ := ivals_n v (h v List.mem_cons_self)
    have ih := rp_cat3 (w :: q) r fun x hx => h x (List.mem_cons_of_mem _ hx)
    have e0 : cat [44, 32] ((v :: w :: q).map strD) ++ r = strD v ++ (44 :: 32 :: (cat [44, 32] ((w :: q).map strD) ++ r)) := by
      show strD v ++ [44, 32] ++ cat [44, 32] ((w :: q).map strD) ++ r = _
      simp
    rw [e0, rp_word pat3 _ _ h3, replL_hit (by simp) (by simp)]
    show strD v ++ ([44] ++ replL [44, 32] [44] (cat [44, 32] ((w :: q).map strD) ++ r)) = _
    rw [ih]
    show _ = strD v ++ [44] ++ cat [44] ((w :: q).map strD) ++ replL [44, 32] [44] r
    simp
theorem rp_leaf {y z : List Nat} {h0 : Nat} (p : Pat y h0) (hh : h0 = 32 ∨ h0 = 44) {σ σ' : Sty} (Hs : ∀ sg ∈ sgs, ∀ v ∈ vals, ∀ r, replL y z (sep σ sg ++ (strD v ++ r)) = sep σ' sg ++ replL y z (strD v ++ r))
    (Hc : ∀ (vs : List D) (r : List Nat), (∀ v ∈ vs, v ∈ ivals) → replL y z (cat (comma σ) (vs.map strD) ++ r) = cat (comma σ') (vs.map strD) ++ replL y z r) (d : D) (h : Lf d) (r : List Nat) : replL y z (ltx σ d ++ r) = ltx σ' d ++ replL y z r := by
  have hn : ∀ nm ∈ nms, ∀ c ∈ nm, c ≠ h0 := fun nm h => by
    rcases hh with rfl | rfl
    · exact (nms_n nm h).1
    · exact (nms_n nm h).2
  cases h with
  | yes => exact rp_word p kYes _ (by rcases hh with rfl | rfl <;> decide)
  | no => exact rp_word p kNo _ (by rcases hh with rfl | rfl <;> decide)
  | is h => exact rp_word p _ _ (hn _ h)
  | @cm sg nm v h1 h2 h3 =>
    obtain ⟨c, q, e, g1, g2, g3⟩ := vals_n v h3
    rw [ltx_cm h3, ltx_cm h3, List.append_assoc, List.append_assoc, rp_word p _ _ (hn _ h2), Hs sg h1 v h3 r, rp_word p _ _ (by rcases hh with rfl | rfl; exact g2; exact g3)]
    simp
  | @inn nm vs h1 h2 h3 h4 =>
    have e : ∀ (σ : Sty) (r : List Nat), ltx σ (.tup [.str kIn, .str nm, .tup vs]) ++ r = nm ++ (32 :: ([105, 110] ++ (32 :: ([40] ++ (cat (comma σ) (vs.map strD) ++ ([41] ++ r)))))) := fun σ r => by simp [ltx]
    rw [e, e, rp_word p _ _ (hn _ h1)]
    rw [rp_u (u := [105, 110] ++ (32 :: ([40] ++ (cat (comma σ) (vs.map strD) ++ ([41] ++ r))))) p ⟨105, _, rfl, by decide⟩, rp_word p _ _ (by rcases hh with rfl | rfl <;> decide)]
    rw [rp_u (u := [40] ++ (cat (comma σ) (vs.map strD) ++ ([41] ++ r))) p ⟨40, _, rfl, by decide⟩, rp_word p _ _ (by rcases hh with rfl | rfl <;> decide), Hc vs _ h4, rp_word p _ _ (by rcases hh with rfl | rfl <;> decide)]
theorem tight1 (t : T) (k lv : Nat) (h : Wf t k) : replL [32, 60, 61, 32] [60, 61] (tx σ0 t lv) = tx σ1 t lv := by
  have q := rp_tx (z := [60, 61]) pat1 (.inl rfl) (σ := σ0) (σ' := σ1) (rp_leaf pat1 (.inl rfl) ?_ ?_) t k lv [] h
  · rw [List.append_nil, replL_nil, List.append_nil] at q
    exact q
  · intro sg hs v hv r
    obtain ⟨c, q, e, g1, g2, g3⟩ := vals_n v hv
    simp only [sgs, List.mem_cons, List.not_mem_nil, or_false] at hs
    rcases hs with rfl | rfl | rfl | rfl | rfl | rfl
    · show replL _ _ (32 :: 60 :: 61 :: 32 :: (strD v ++ r)) = [60, 61] ++ _
      rw [replL_hit (by simp) (by simp)]
      rfl
    · show replL _ _ (32 :: 62 :: 61 :: 32 :: (strD v ++ r)) = 32 :: 62 :: 61 :: 32 :: replL _ _ _
      rw [replL_miss (by simp), replL_miss (by simp), replL_miss (by simp), rp_u pat1 ⟨c, q ++ r, by rw [e]; rfl, g1⟩]
    · show replL _ _ (32 :: 33 :: 61 :: 32 :: (strD v ++ r)) = 32 :: 33 :: 61 :: 32 :: replL _ _ _
      rw [replL_miss (by simp), replL_miss (by simp), replL_miss (by simp), rp_u pat1 ⟨c, q ++ r, by rw [e]; rfl, g1⟩]
    · show replL _ _ (32 :: 61 :: 32 :: (strD v ++ r)) = 32 :: 61 :: 32 :: replL _ _ _
      rw [replL_miss (by simp), replL_miss (by simp), rp_u pat1 ⟨c, q ++ r, by rw [e]; rfl, g1⟩]
    · show replL _ _ (32 :: 60 :: 32 :: (strD v ++ r)) = 32 :: 60 :: 32 :: replL _ _ _
      rw [replL_miss (by simp), replL_miss (by simp), rp_u pat1 ⟨c, q ++ r, by rw [e]; rfl, g1⟩]
    · show replL _ _ (32 :: 62 :: 32 :: (strD v ++ r)) = 32 :: 62 :: 32 :: replL _ _ _
      rw [replL_miss (by simp), replL_miss (by simp), rp_u pat1 ⟨c, q ++ r, by rw [e]; rfl, g1⟩]
  · intro vs r h
    exact rp_cat pat1 vs r h
theorem tight2 (t : T) (k lv : Nat) (h : Wf t k) : replL [32, 61, 32] [61] (tx σ1 t lv) = tx σ2 t lv := by
  have q := rp_tx (z := [61]) pat2 (.inl rfl) (σ := σ1) (σ' := σ2) (rp_leaf pat2 (.inl rfl) ?_ ?_) t k lv [] h
  · rw [List.append_nil, replL_nil, List.append_nil] at q
    exact q
  · intro sg hs v hv r
    obtain ⟨c, q, e, g1, g2, g3⟩ := vals_n v hv
    simp only [sgs, List.mem_cons, List.not_mem_nil, or_false] at hs
    rcases hs with rfl | rfl | rfl | rfl | rfl | rfl
    · show replL _ _ (60 :: 61 :: (strD v ++ r)) = 60 :: 61 :: replL _ _ _
      rw [replL_miss (by simp), replL_miss (by simp)]
    · show replL _ _ (32 :: 62 :: 61 :: 32 :: (strD v ++ r)) = 32 :: 62 :: 61 :: 32 :: replL _ _ _
      rw [replL_miss (by simp), replL_miss (by simp), replL_miss (by simp), rp_u pat2 ⟨c, q ++ r, by rw [e]; rfl, g1⟩]
    · show replL _ _ (32 :: 33 :: 61 :: 32 :: (strD v ++ r)) = 32 :: 33 :: 61 :: 32 :: replL _ _ _
      rw [replL_miss (by simp), replL_miss (by simp), replL_miss (by simp), rp_u pat2 ⟨c, q ++ r, by rw [e]; rfl, g1⟩]
    · show replL _ _ (32 :: 61 :: 32 :: (strD v ++ r)) = [61] ++ _
      rw [replL_hit (by simp) (by simp)]
      rfl
    · show replL _ _ (32 :: 60 :: 32 :: (strD v ++ r)) = 32 :: 60 :: 32 :: replL _ _ _
      rw [replL_miss (by simp), replL_miss (by simp), rp_u pat2 ⟨c, q ++ r, by rw [e]; rfl, g1⟩]
    · show replL _ _ (32 :: 62 :: 32 :: (strD v ++ r)) = 32 :: 62 :: 32 :: replL _ _ _
      rw [replL_miss (by simp), replL_miss (by simp), rp_u pat2 ⟨c, q ++ r, by rw [e]; rfl, g1⟩]
  · intro vs r h
    exact rp_cat pat2 vs r h
theorem tight3 (t : T) (k lv : Nat) (h : Wf t k) : replL [44, 32] [44] (tx σ2 t lv) = tx σ3 t lv := by
  have q := rp_tx (z := [44]) pat3 (.inr rfl) (σ := σ2) (σ' := σ3) (rp_leaf pat3 (.inr rfl) ?_ ?_) t k lv [] h
  · rw [List.append_nil, replL_nil, List.append_nil] at q
    exact q
  · intro sg hs v hv r
    refine rp_word pat3 (sep σ2 sg) _ ?_
    simp only [sgs, List.mem_cons, List.not_mem_nil, or_false] at hs
    rcases hs with rfl | rfl | rfl | rfl | rfl | rfl <;> decide
  · intro vs r h
    exact rp_cat3 vs r h
end K01
end S51
section S52
set_option autoImplicit false
set_option linter.all false
set_option maxRecDepth 100000
set_option Elab.async false
set_option maxHeartbeats 4000000
/-! Q7: reading. -/
namespace K01
open RS
theorem name_all (n : Nat) (s : Sto) : nms.map (fun nm => run prg (n + 1) 6 [.str nm] s) = nms.map fun nm => R.ok (.bl true, .fz) s := by kernel_rfl
theorem val_all (n : Nat) (s : Sto) : (vals ++ ivals).map (fun v => run prg (n + 1) 7 [.str (strD v)] s) = (vals ++ ivals).map fun v => R.ok (v, .fz) s := by kernel_rfl
theorem is_ok {n f : Nat} {ds : List D} {d : D} {s : Sto} (h : run prg n f ds s = .ok (d, .fz) s) : Ok (go prg n f ds s) (Is d s) := by
  rw [go_eq]
  exact ⟨_, _, h, rfl, rfl⟩
theorem name_ok {nm : List Nat} (h : nm ∈ nms) (n : Nat) (s : Sto) : Ok (go prg (n + 1) 6 [.str nm] s) (Is (.bl true) s) := is_ok (List.map_inj_left.mp (name_all n s) nm h)
theorem val_ok {v : D} (h : v ∈ vals ++ ivals) (n : Nat) (s : Sto) : Ok (go prg (n + 1) 7 [.str (strD v)] s) (Is v s) := is_ok (List.map_inj_left.mp (val_all n s) v h)
/-! ### places -/
abbrev WT (W : List (List Nat)) : D := .tup (W.map .str)
section
variable {W : List (List Nat)} {p : Nat} {x : List Nat} {q : List (List Nat)} {st : Sto}
theorem drop_lt (h : W.drop p = x :: q) : p < W.length := by
  rcases Nat.lt_or_ge p W.length with z | z
  · exact z
  · rw [List.drop_of_length_le z] at h; cases h
theorem drop_get (h : W.drop p = x :: q) : W[p]'(drop_lt h) = x ∧ W.drop (p + 1) = q := by
  have e := List.drop_eq_getElem_cons (drop_lt h)
  rw [h] at e
  injection e with e1 e2
  exact ⟨e1.symm, e2.symm⟩
theorem w_at (h : W.drop p = x :: q) : item st (WT W) (.int (p : Int)) = some (.str x, .fz) := by
  have hl := drop_lt h
  have e : ix (W.map D.str).length (p : Int) = some p := by
    unfold ix
    rw [List.length_map, if_pos (by omega), if_pos (by omega)]
    rfl
  show (atD (W.map D.str) p).map _ = _
  unfold atD
  rw [e]
  show ((W.map D.str)[p]?).map _ = _
  rw [List.getElem?_map, List.getElem?_eq_getElem hl, (drop_get h).1]
  rfl
theorem w_lt (h : W.drop p = x :: q) : decide ((p : Int) < (((W.map D.str).length : Nat) : Int)) = true := by
  have := drop_lt h
  exact decide_eq_true (by rw [List.length_map]; omega)
theorem w_ge (h : W.drop p = x :: q) : decide ((((W.map D.str).length : Nat) : Int) ≤ (p : Int)) = false := by
  have := drop_lt h
  exact decide_eq_false (by rw [List.length_map]; omega)
theorem w_end (h : W.drop p = []) : decide ((p : Int) < (((W.map D.str).length : Nat) : Int)) = false := by
  have := List.drop_eq_nil_iff.mp h
  exact decide_eq_false (by rw [List.length_map]; omega)
end
/-! ### what is read -/
/-- what comes behind -/
def okR (r : List (List Nat)) : Prop := ∀ x q, r = x :: q → x ∈ [kAnd, kOr, [41]]
def One (d : D) (u : List (List Nat)) (f : Nat) : Prop := ∀ (n : Nat) (s : Sto) (W : List (List Nat)) (p : Nat) (r : List (List Nat)), f ≤ n → W.drop p = u ++ r → okR r → W.length < 50000 → Ok (go prg n 4 [WT W, .int (p : Int)] s) (Is (.tup [d, .int ((p + u.length : Nat) : Int)]) s)
def bTest : IE := match f_read_both.body with | _ :: .whl _ c _ :: _ => c | _ => .con .non
def bBody : List IS := match f_read_both.body with | _ :: .whl _ _ b :: _ => b | _ => []
def eTest : IE := match f_read_either.body with | _ :: .whl _ c _ :: _ => c | _ => .con .non
def eBody : List IS := match f_read_either.body with | _ :: .whl _ _ b :: _ => b | _ => []
def bRet : List IS := f_read_both.body.drop 2
def eRet : List IS := f_read_either.body.drop 2
def Bth (d : D) (u : List (List Nat)) (f : Nat) : Prop := ∀ (n : Nat) (s : Sto) (W : List (List Nat)) (p : Nat) (r : List (List Nat)) (P : Fl × Env → Sto → Prop), f ≤ n → W.drop p = u ++ r → okR r → W.length < 50000 →
  (∀ (m : Nat) (o : Option (D × Bool)), 1000000 ≤ m + u.length → Ok (whlTurns (fun ρ s => evT prg (go prg n) bTest ρ s) (fun ρ s => execs prg (go prg n) bBody ρ s) m [some (WT W, false), some (.int ((p + u.length : Nat) : Int), false), some (d, false), o] s) (w.nxt prg (go prg n) bRet P)) →
  Ok (execs prg (go prg n) f_read_both.body [some (WT W, false), some (.int (p : Int), false), none, none] s) P
def RB (d : D) (u : List (List Nat)) (f : Nat) : Prop := ∀ (n : Nat) (s : Sto) (W : List (List Nat)) (p : Nat) (r : List (List Nat)), f ≤ n → W.drop p = u ++ r → okR r → (∀ q, r ≠ kAnd :: q) → W.length < 50000 → Ok (go prg n 3 [WT W, .int (p : Int)] s) (Is (.tup [d, .int ((p + u.length : Nat) : Int)]) s)
def Eth (d : D) (u : List (List Nat)) (f : Nat) : Prop := ∀ (n : Nat) (s : Sto) (W : List (List Nat)) (p : Nat) (r : List (List Nat)) (P : Fl × Env → Sto → Prop), f ≤ n → W.drop p = u ++ r → okR r → (∀ q, r ≠ kAnd :: q) → W.length < 50000 →
  (∀ (m : Nat) (o : Option (D × Bool)), 1000000 ≤ m + u.length → Ok (whlTurns (fun ρ s => evT prg (go prg n) eTest ρ s) (fun ρ s => execs prg (go prg n) eBody ρ s) m [some (WT W, false), some (.int ((p + u.length : Nat) : Int), false), some (d, false), o] s) (w.nxt prg (go prg n) eRet P)) →
  Ok (execs prg (go prg n) f_read_either.body [some (WT W, false), some (.int (p : Int), false), none, none] s) P
def RE (d : D) (u : List (List Nat)) (f : Nat) : Prop := ∀ (n : Nat) (s : Sto) (W : List (List Nat)) (p : Nat) (r : List (List Nat)), f ≤ n → W.drop p = u ++ r → okR r → (∀ q, r ≠ kAnd :: q) → (∀ q, r ≠ kOr :: q) → W.length < 50000 → Ok (go prg n 2 [WT W, .int (p : Int)] s) (Is (.tup [d, .int ((p + u.length : Nat) : Int)]) s)
section
variable {d da db : D} {u ua ub : List (List Nat)} {f : Nat}
theorem drop_more {W : List (List Nat)} {p : Nat} {u r : List (List Nat)} (h : W.drop p = u ++ r) : W.drop (p + u.length) = r := by
  rw [← List.drop_drop, h, List.drop_left]
theorem b_of_one (H : One d u f) : Bth d u f := by
  intro n s W p r P hn hW hr hl hP
  dsimp only [f_read_both]
  repeat infer_instance
  refine (H n s W p r hn hW hr hl).mono ?_
  rintro x s' ⟨rfl, rfl⟩
  repeat infer_instance
  exact hP 1000000 none (by omega)
theorem b_an (Ha : Bth da ua f) (Hb : One db ub f) : Bth (.tup [.str kAnd, da, db]) (ua ++ kAnd :: ub) f := by
  intro n s W p r P hn hW hr hl hP
  rw [List.append_assoc] at hW
  refine Ha n s W p (kAnd :: ub ++ r) P hn hW (fun x q h => by cases h; simp) hl ?_
  intro m o hm
  have h1 := drop_more hW
  have h1 : W.drop (p + ua.length) = kAnd :: (ub ++ r) := h1
  have h2 := (drop_get h1).2
  have hlen := congrArg List.length h1
  rw [List.length_drop, List.length_cons, List.length_append] at hlen
  have hlt := drop_lt h1
  obtain ⟨m, rfl⟩ : ∃ m', m = m' + 1 := ⟨m - 1, by omega⟩
  refine w.whl1 ?_
  dsimp only [bTest, bBody, f_read_both]
  repeat infer_instance
  refine w.if_t (w_lt h1) ?_
  repeat infer_instance
  refine w.ofO (w_at h1) ?_
  repeat infer_instance
  refine .inl ⟨rfl, ?_⟩
  repeat infer_instance
  refine (Hb n s W (p + ua.length + 1) r hn h2 hr hl).mono ?_
  rintro x s' ⟨rfl, rfl⟩
  repeat infer_instance
  have := hP m (some (db, false)) (by simp only [List.length_append, List.length_cons] at hm ⊢; omega)
  have el : p + (ua ++ kAnd :: ub).length = p + ua.length + 1 + ub.length := by simp only [List.length_append, List.length_cons]; omega
  rw [el] at this
  exact this
theorem rb_of_b (H : Bth d u f) : RB d u (f + 1) := by
  intro n s W p r hn hW hr h2 hl
  obtain ⟨n, rfl⟩ : ∃ m', n = m' + 1 := ⟨n - 1, by omega⟩
  refine w.run (fd := f_read_both) rfl rfl ?_
  refine H n s W p r _ (by omega) hW hr hl ?_
  intro m o hm
  have h1 := drop_more hW
  have hlen : u.length ≤ W.length := by
    have := congrArg List.length hW
    rw [List.length_drop, List.length_append] at this
    omega
  obtain ⟨m, rfl⟩ : ∃ m', m = m' + 1 := ⟨m - 1, by omega⟩
  refine w.whl1 ?_
  dsimp only [bTest, bBody, bRet, f_read_both, List.drop]
  repeat infer_instance
  have fin : w.nxt prg (go prg n) [IS.ret (IE.tup [IE.var 2, IE.var 1])] (w.rk (Is (D.tup [d, D.int ((p + u.length : Nat) : Int)]) s)) (Fl.nx, [some (WT W, false), some (.int ((p + u.length : Nat) : Int), false), some (d, false), o]) s := by
    repeat infer_instance
    exact ⟨rfl, rfl⟩
  cases r with
  | nil =>
    refine w.if_f (w_end h1) ?_
    repeat infer_instance
    exact .inr ⟨rfl, fin⟩
  | cons x q =>
    refine w.if_t (w_lt h1) ?_
    repeat infer_instance
    refine w.ofO (w_at h1) ?_
    repeat infer_instance
    have hx := hr x q rfl
    have hx2 : x ≠ kAnd := fun e => h2 q (by rw [e])
    apply w.if_f
    · show (x == kAnd) = false
      exact beq_eq_false_iff_ne.mpr hx2
    repeat infer_instance
    exact .inr ⟨rfl, fin⟩
theorem e_of_rb (H : RB d u f) : Eth d u f := by
  intro n s W p r P hn hW hr h2 hl hP
  dsimp only [f_read_either]
  repeat infer_instance
  refine (H n s W p r hn hW hr h2 hl).mono ?_
  rintro x s' ⟨rfl, rfl⟩
  repeat infer_instance
  exact hP 1000000 none (by omega)
theorem e_or (Ha : Eth da ua f) (Hb : RB db ub f) : Eth (.tup [.str kOr, da, db]) (ua ++ kOr :: ub) f := by
  intro n s W p r P hn hW hr hna hl hP
  rw [List.append_assoc] at hW
  refine Ha n s W p (kOr :: ub ++ r) P hn hW (fun x q h => by cases h; simp) (fun q h => by cases h) hl ?_
  intro m o hm
  have h1 := drop_more hW
  have h1 : W.drop (p + ua.length) = kOr :: (ub ++ r) := h1
  have h2 := (drop_get h1).2
  have hlen := congrArg List.length h1
  rw [List.length_drop, List.length_cons, List.length_append] at hlen
  have hlt := drop_lt h1
  obtain ⟨m, rfl⟩ : ∃ m', m = m' + 1 := ⟨m - 1, by omega⟩
  refine w.whl1 ?_
  dsimp only [eTest, eBody, f_read_either]
  repeat infer_instance
  refine w.if_t (w_lt h1) ?_
  repeat infer_instance
  refine w.ofO (w_at h1) ?_
  repeat infer_instance
  refine .inl ⟨rfl, ?_⟩
  repeat infer_instance
  refine (Hb n s W (p + ua.length + 1) r hn h2 hr hna hl).mono ?_
  rintro x s' ⟨rfl, rfl⟩
  repeat infer_instance
  have := hP m (some (db, false)) (by simp only [List.length_append, List.length_cons] at hm ⊢; omega)
  have el : p + (ua ++ kOr :: ub).length = p + ua.length + 1 + ub.length := by simp only [List.length_append, List.length_cons]; omega
  rw [el] at this
  exact this
theorem re_of_e (H : Eth d u f) : RE d u (f + 1) := by
  intro n s W p r hn hW hr hna h2 hl
  obtain ⟨n, rfl⟩ : ∃ m', n = m' + 1 := ⟨n - 1, by omega⟩
  refine w.run (fd := f_read_either) rfl rfl ?_
  refine H n s W p r _ (by omega) hW hr hna hl ?_
  intro m o hm
  have h1 := drop_more hW
  have hlen : u.length ≤ W.length := by
    have := congrArg List.length hW
    rw [List.length_drop, List.length_append] at this
    omega
  obtain ⟨m, rfl⟩ : ∃ m', m = m' + 1 := ⟨m - 1, by omega⟩
  refine w.whl1 ?_
  dsimp only [eTest, eBody, eRet, f_read_either, List.drop]
  repeat infer_instance
  have fin : w.nxt prg (go prg n) [IS.ret (IE.tup [IE.var 2, IE.var 1])] (w.rk (Is (D.tup [d, D.int ((p + u.length : Nat) : Int)]) s)) (Fl.nx, [some (WT W, false), some (.int ((p + u.length : Nat) : Int), false), some (d, false), o]) s := by
    repeat infer_instance
    exact ⟨rfl, rfl⟩
  cases r with
  | nil =>
    refine w.if_f (w_end h1) ?_
    repeat infer_instance
    exact .inr ⟨rfl, fin⟩
  | cons x q =>
    refine w.if_t (w_lt h1) ?_
    repeat infer_instance
    refine w.ofO (w_at h1) ?_
    repeat infer_instance
    have hx2 : x ≠ kOr := fun e => h2 q (by rw [e])
    apply w.if_f
    · show (x == kOr) = false
      exact beq_eq_false_iff_ne.mpr hx2
    repeat infer_instance
    exact .inr ⟨rfl, fin⟩
theorem one_par (H : RE d u f) : One d ([40] :: (u ++ [[41]])) (f + 1) := by
  intro n s W p r hn hW hr hl
  obtain ⟨n, rfl⟩ : ∃ m', n = m' + 1 := ⟨n - 1, by omega⟩
  refine w.run (fd := f_read_one) rfl rfl ?_
  have h1 : W.drop p = [40] :: (u ++ ([41] :: r)) := by rw [hW]; simp
  have h2 := (drop_get h1).2
  have h3 := drop_more h2
  dsimp only [f_read_one]
  repeat infer_instance
  refine w.if_t (w_lt h1) ?_
  repeat infer_instance
  refine w.ofO (w_at h1) ?_
  repeat infer_instance
  refine (H n s W (p + 1) ([41] :: r) (by omega) h2 (fun x q h => by cases h; simp) (fun q h => by cases h) (fun q h => by cases h) hl).mono ?_
  rintro x s' ⟨rfl, rfl⟩
  repeat infer_instance
  refine w.if_f (w_ge h3) ?_
  repeat infer_instance
  refine w.ofO (w_at h3) ?_
  repeat infer_instance
  refine ⟨?_, rfl⟩
  have el : p + ([40] :: (u ++ [[41]])).length = p + 1 + u.length + 1 := by
    rw [List.length_cons, List.length_append]; simp; omega
  rw [el]
  rfl
theorem one_no (H : One d u f) : One (.tup [.str kNot, d]) (kNot :: u) (f + 1) := by
  intro n s W p r hn hW hr hl
  obtain ⟨n, rfl⟩ : ∃ m', n = m' + 1 := ⟨n - 1, by omega⟩
  refine w.run (fd := f_read_one) rfl rfl ?_
  have h1 : W.drop p = kNot :: (u ++ r) := hW
  have h2 := (drop_get h1).2
  dsimp only [f_read_one]
  repeat infer_instance
  refine w.if_t (w_lt h1) ?_
  repeat infer_instance
  refine w.ofO (w_at h1) ?_
  repeat infer_instance
  refine (H n s W (p + 1) r (by omega) h2 hr hl).mono ?_
  rintro x s' ⟨rfl, rfl⟩
  repeat infer_instance
  refine ⟨?_, rfl⟩
  have el : p + (kNot :: u).length = p + 1 + u.length := by
    rw [List.length_cons]; omega
  rw [el]
  rfl
end
/-- the values of a row in brackets -/
theorem ctk_ne : ∀ (vs : List D), vs ≠ [] → ∃ v r, vs = v :: r ∧ ((r = [] ∧ ctk vs = [strD v]) ∨ (r ≠ [] ∧ ctk vs = strD v :: [44] :: ctk r))
  | [], h => absurd rfl h
  | [v], _ => ⟨v, [], rfl, .inl ⟨rfl, rfl⟩⟩
  | v :: w :: r, _ => ⟨v, w :: r, rfl, .inr ⟨by simp, rfl⟩⟩
def rTest : IE := match f_read_in.body with | [_, _, .whl _ c _] => c | _ => .con .non
def rBody : List IS := match f_read_in.body with | [_, _, .whl _ _ b] => b | _ => []
theorem in_loop (n : Nat) (s : Sto) (W : List (List Nat)) (nm : List Nat) (r : List (List Nat)) (hl : W.length < 50000) : ∀ (vs got : List D) (p m : Nat) (P : Fl × Env → Sto → Prop), vs ≠ [] → (∀ v ∈ vs, v ∈ ivals) → W.drop (p + 1) = ctk vs ++ [41] :: r → got.length + vs.length ≤ 3 → vs.length ≤ m →
    (∀ ρ, P (.rt (.tup [.tup [.str kIn, .str nm, .tup (got ++ vs)], .int ((p + 1 + (ctk vs).length + 1 : Nat) : Int)]) .fz, ρ) s) →
    Ok (whlTurns (fun ρ s => evT prg (go prg (n + 1)) rTest ρ s) (fun ρ s => execs prg (go prg (n + 1)) rBody ρ s) m [some (WT W, false), some (.int (p : Int), false), some (.str nm, false), some (.lst got, true)] s) P
  | [], got, p, m, P, h, _, _, _, _, _ => absurd rfl h
  | v :: vs, got, p, 0, P, h, h1, h2, h3, h4, hP => by simp at h4
  | v :: vs, got, p, m + 1, P, h, h1, h2, h3, h4, hP => by
    have hv := h1 v List.mem_cons_self
    refine w.whl1 ?_
    dsimp only [rTest, rBody, f_read_in]
    repeat infer_instance
    refine .inl ⟨rfl, ?_⟩
    obtain ⟨v', r', e, hc⟩ := ctk_ne (v :: vs) h
    cases e
    simp only [List.length_cons] at h3 h4
    rcases hc with ⟨hr, hc⟩ | ⟨hr, hc⟩
    · subst hr
      rw [hc] at h2 hP
      have h2 : W.drop (p + 1) = strD v :: [41] :: r := h2
      have g1 := (drop_get h2).2
      repeat infer_instance
      refine w.if_t (w_lt h2) ?_
      repeat infer_instance
      refine w.ofO (w_at h2) ?_
      repeat infer_instance
      refine (val_ok (List.mem_append_right _ hv) n s).mono ?_
      rintro x s' ⟨rfl, rfl⟩
      repeat infer_instance
      refine w.if_f (w_ge g1) ?_
      repeat infer_instance
      refine w.ofO (w_at g1) ?_
      repeat infer_instance
      refine w.ofO (w_at g1) ?_
      repeat infer_instance
      have et : builtin .tuple s' [.lst (got ++ [v])] = some (.tup (got ++ [v]), .fz) := if_pos (by simp only [List.length_append, List.length_cons, List.length_nil] at h3 ⊢; unfold line; omega)
      refine w.ofO et ?_
      repeat infer_instance
      exact hP _
    · rw [hc] at h2 hP
      have h2 : W.drop (p + 1) = strD v :: [44] :: (ctk vs ++ [41] :: r) := h2
      have g1 := (drop_get h2).2
      have g2 := (drop_get g1).2
      repeat infer_instance
      refine w.if_t (w_lt h2) ?_
      repeat infer_instance
      refine w.ofO (w_at h2) ?_
      repeat infer_instance
      refine (val_ok (List.mem_append_right _ hv) n s).mono ?_
      rintro x s' ⟨rfl, rfl⟩
      repeat infer_instance
      refine w.if_f (w_ge g1) ?_
      repeat infer_instance
      refine w.ofO (w_at g1) ?_
      repeat infer_instance
      refine w.ofO (w_at g1) ?_
      repeat infer_instance
      refine in_loop n s' W nm r hl vs (got ++ [v]) (p + 2) m P hr (fun x hx => h1 x (List.mem_cons_of_mem _ hx)) g2 (by simp only [List.length_append, List.length_cons, List.length_nil]; omega) (by omega) ?_
      intro ρ
      have := hP ρ
      have el : p + 1 + (strD v :: [44] :: ctk vs).length + 1 = p + 2 + 1 + (ctk vs).length + 1 := by simp only [List.length_cons]; omega
      rw [el] at this
      rw [List.append_assoc]
      exact this
theorem read_in (n : Nat) (s : Sto) (W : List (List Nat)) (nm : List Nat) (vs : List D) (p : Nat) (r : List (List Nat)) (hl : W.length < 50000) (h0 : vs ≠ []) (h1 : ∀ v ∈ vs, v ∈ ivals) (h3 : vs.length ≤ 3) (hW : W.drop p = nm :: kIn :: [40] :: (ctk vs ++ [41] :: r)) :
    Ok (go prg (n + 2) 5 [WT W, .int (p : Int)] s) (Is (.tup [.tup [.str kIn, .str nm, .tup vs], .int ((p + (4 + (ctk vs).length) : Nat) : Int)]) s) := by
  refine w.run (fd := f_read_in) rfl rfl ?_
  have g1 := (drop_get hW).2
  have g2 := (drop_get g1).2
  have g3 := (drop_get g2).2
  dsimp only [f_read_in]
  repeat infer_instance
  refine w.ofO (w_at hW) ?_
  repeat infer_instance
  refine w.if_f (w_ge g2) ?_
  repeat infer_instance
  refine w.ofO (w_at g2) ?_
  repeat infer_instance
  refine in_loop n s W nm r hl vs [] (p + 2) 1000000 _ h0 h1 g3 (by simp; omega) (by omega) ?_
  intro ρ
  have el : p + (4 + (ctk vs).length) = p + 2 + 1 + (ctk vs).length + 1 := by omega
  rw [el]
  repeat infer_instance
  exact ⟨rfl, rfl⟩
theorem one_lf {d : D} (h : Lf d) : One d (ltk d) 3 := by
  intro n s W p r hn hW hr hl
  obtain ⟨n, rfl⟩ : ∃ m', n = m' + 3 := ⟨n - 3, by omega⟩
  refine w.run (fd := f_read_one) rfl rfl ?_
  have hW : W.drop p = ltk d ++ r := hW
  show Ok (execs prg (go prg (n + 2)) f_read_one.body [some (WT W, false), some (.int (p : Int), false), none, none, none] s) _
  dsimp only [f_read_one]
  cases h with
  | yes =>
    have h1 : W.drop p = kYes :: r := hW
    repeat infer_instance
    refine w.if_t (w_lt h1) ?_
    repeat infer_instance
    refine w.ofO (w_at h1) ?_
    repeat infer_instance
    exact ⟨rfl, rfl⟩
  | no =>
    have h1 : W.drop p = kNo :: r := hW
    repeat infer_instance
    refine w.if_t (w_lt h1) ?_
    repeat infer_instance
    refine w.ofO (w_at h1) ?_
    repeat infer_instance
    exact ⟨rfl, rfl⟩
  | @is nm h =>
    have h1 : W.drop p = nm :: r := hW
    have g1 := (drop_get h1).2
    have nk := name_ok h (n + 1) s
    repeat infer_instance
    refine w.if_t (w_lt h1) ?_
    repeat infer_instance
    refine w.ofO (w_at h1) ?_
    simp only [nms, List.mem_cons, List.not_mem_nil, or_false] at h
    rcases h with rfl | rfl | rfl
    all_goals (
      repeat infer_instance
      refine nk.mono ?_
      rintro x s' ⟨rfl, rfl⟩
      repeat infer_instance
      cases r with
      | nil =>
        refine w.if_f (w_end g1) ?_
        repeat infer_instance
        exact ⟨rfl, rfl⟩
      | cons x q =>
        have hx := hr x q rfl
        refine w.if_t (w_lt g1) ?_
        repeat infer_instance
        refine w.ofO (w_at g1) ?_
        simp only [List.mem_cons, List.not_mem_nil, or_false] at hx
        rcases hx with rfl | rfl | rfl
        all_goals (
          repeat infer_instance
          exact ⟨rfl, rfl⟩))
  | @cm sg nm v h1 h2 h3 =>
    rw [ltk_cm h3] at hW
    have g0 : W.drop p = nm :: sg :: strD v :: r := hW
    have g1 := (drop_get g0).2
    have g2 := (drop_get g1).2
    have nk := name_ok h2 (n + 1) s
    have vk := val_ok (List.mem_append_left ivals h3) (n + 1) s
    have et : (ltk (.tup [.str sg, .str nm, v])).length = 3 := by
      rw [ltk_cm h3]
      rfl
    rw [et]
    repeat infer_instance
    refine w.if_t (w_lt g0) ?_
    repeat infer_instance
    refine w.ofO (w_at g0) ?_
    simp only [nms, List.mem_cons, List.not_mem_nil, or_false] at h2
    simp only [sgs, List.mem_cons, List.not_mem_nil, or_false] at h1
    rcases h2 with rfl | rfl | rfl
    all_goals (
      repeat infer_instance
      refine nk.mono ?_
      rintro x s' ⟨rfl, rfl⟩
      repeat infer_instance
      refine w.if_t (w_lt g1) ?_
      repeat infer_instance
      refine w.ofO (w_at g1) ?_
      rcases h1 with rfl | rfl | rfl | rfl | rfl | rfl
      all_goals (
        repeat infer_instance
        refine w.if_t (w_lt g2) ?_
        repeat infer_instance
        refine w.ofO (w_at g2) ?_
        repeat infer_instance
        refine vk.mono ?_
        rintro x s' ⟨rfl, rfl⟩
        repeat infer_instance
        exact ⟨rfl, rfl⟩))
  | @inn nm vs h1 h2 h3 h4 =>
    have g0 : W.drop p = nm :: kIn :: [40] :: (ctk vs ++ [41] :: r) := by rw [hW]; simp [ltk]
    have g1 := (drop_get g0).2
    have nk := name_ok h1 (n + 1) s
    have rk := read_in n s W nm vs p r hl h2 h4 h3 g0
    have et : (ltk (.tup [.str kIn, .str nm, .tup vs])).length = 4 + (ctk vs).length := by
      show (nm :: kIn :: [40] :: (ctk vs ++ [[41]])).length = _
      simp
      omega
    rw [et]
    repeat infer_instance
    refine w.if_t (w_lt g0) ?_
    repeat infer_instance
    refine w.ofO (w_at g0) ?_
    simp only [nms, List.mem_cons, List.not_mem_nil, or_false] at h1
    rcases h1 with rfl | rfl | rfl
    all_goals (
      repeat infer_instance
      refine nk.mono ?_
      rintro x s' ⟨rfl, rfl⟩
      repeat infer_instance
      refine w.if_t (w_lt g1) ?_
      repeat infer_instance
      refine w.ofO (w_at g1) ?_
      repeat infer_instance
      refine rk.mono ?_
      rintro x s' ⟨rfl, rfl⟩
      repeat infer_instance
      exact ⟨rfl, rfl⟩)
theorem One.mono {d : D} {u : List (List Nat)} {f g : Nat} (h : One d u f) (hg : f ≤ g) : One d u g := fun n s W p r hn => h n s W p r (by omega)
theorem Bth.mono {d : D} {u : List (List Nat)} {f g : Nat} (h : Bth d u f) (hg : f ≤ g) : Bth d u g := fun n s W p r P hn => h n s W p r P (by omega)
theorem Eth.mono {d : D} {u : List (List Nat)} {f g : Nat} (h : Eth d u f) (hg : f ≤ g) : Eth d u g := fun n s W p r P hn => h n s W p r P (by omega)
theorem RB.mono {d : D} {u : List (List Nat)} {f g : Nat} (h : RB d u f) (hg : f ≤ g) : RB d u g := fun n s W p r hn => h n s W p r (by omega)
theorem read_all : ∀ (t : T) (k : Nat), Wf t k → One (enc t) (tk t 2) (3 * k + 3) ∧ Bth (enc t) (tk t 1) (3 * k + 3) ∧ Eth (enc t) (tk t 0) (3 * k + 4)
  | .lf d, k, h => by
    have o := one_lf h
    have b := b_of_one o
    have e := e_of_rb (rb_of_b b)
    exact ⟨o.mono (by omega), b.mono (by omega), e.mono (by omega)⟩
  | .no a, k, ⟨j, e, h⟩ => by
    subst e
    have o := one_no (read_all a j h).1
    have b := b_of_one o
    have e := e_of_rb (rb_of_b b)
    exact ⟨o.mono (by omega), b.mono (by omega), e.mono (by omega)⟩
  | .an a c, k, ⟨j, e, h1, h2⟩ => by
    subst e
    have b := b_an (read_all a j h1).2.1 (read_all c j h2).1
    have e := e_of_rb (rb_of_b b)
    have o := one_par (re_of_e e)
    exact ⟨o.mono (by omega), b.mono (by omega), e.mono (by omega)⟩
  | .or a c, k, ⟨j, e, h1, h2⟩ => by
    subst e
    have e := e_or (read_all a j h1).2.2 ((rb_of_b (read_all c j h2).2.1).mono (by omega))
    have o := one_par (re_of_e e)
    have b := b_of_one o
    exact ⟨o.mono (by omega), b.mono (by omega), e.mono (by omega)⟩
theorem re_ok (t : T) (k : Nat) (h : Wf t k) : RE (enc t) (tk t 0) (3 * k + 5) := re_of_e (read_all t k h).2.2
theorem tk_ne : ∀ (t : T) (lv : Nat) (k : Nat), Wf t k → tk t lv ≠ []
  | .lf d, lv, k, h => by
    cases (h : Lf d) with
    | yes => simp [tk, ltk]
    | no => simp [tk, ltk]
    | is h => simp [tk, ltk]
    | cm h1 h2 h3 => show ltk _ ≠ []; rw [ltk_cm h3]; simp
    | inn h1 h2 h3 h4 => simp [tk, ltk]
  | .no a, lv, k, h => by simp [tk]
  | .an a b, lv, k, h => by unfold tk parT; split <;> simp
  | .or a b, lv, k, h => by unfold tk parT; split <;> simp
/-- a text is read by its words -/
theorem read_cond {d : D} {u : List (List Nat)} {f : Nat} (H : RE d u f) (n : Nat) (s : Sto) (xs : List Nat) (hl : xs.length < 50000) (ht : tk0 xs = u) (hu : u ≠ []) (hn : f + 2 ≤ n) : Ok (go prg n 1 [.str xs] s) (Is d s) := by
  obtain ⟨n, rfl⟩ : ∃ m', n = m' + 2 := ⟨n - 2, by omega⟩
  refine w.run (fd := f_read_condition) rfl rfl ?_
  have hwl := tok_len xs.length xs
  have ht : tok xs.length xs = u := ht
  rw [ht] at hwl
  dsimp only [f_read_condition]
  repeat infer_instance
  refine (words_of n xs s hl (by rw [ht]; exact hu)).mono ?_
  rintro x s' ⟨rfl, rfl⟩
  rw [ht]
  repeat infer_instance
  refine (H (n + 1) s' u 0 [] (by omega) (by simp) (fun x q h => by cases h) (fun q h => by cases h) (fun q h => by cases h) (by omega)).mono ?_
  rintro x s ⟨rfl, rfl⟩
  repeat infer_instance
  refine w.if_f (decide_eq_false (by rw [List.length_map]; omega)) ?_
  repeat infer_instance
  exact ⟨rfl, rfl⟩
theorem read_tx (t : T) (k : Nat) (h : Wf t k) (n : Nat) (s : Sto) (xs : List Nat) (hl : xs.length < 50000) (ht : tk0 xs = tk t 0) (hn : 3 * k + 7 ≤ n) : Ok (go prg n 1 [.str xs] s) (Is (enc t) s) :=
  read_cond (re_ok t k h) n s xs hl ht (tk_ne t 0 k h) hn
theorem read_tx2 (t : T) (k : Nat) (h : Wf t k) (n : Nat) (s : Sto) (xs : List Nat) (hl : xs.length < 50000) (ht : tk0 xs = [40] :: [40] :: (tk t 0 ++ [[41], [41]])) (hn : 3 * k + 13 ≤ n) : Ok (go prg n 1 [.str xs] s) (Is (enc t) s) :=
  read_cond (re_of_e (e_of_rb (rb_of_b (b_of_one (one_par (re_of_e (e_of_rb (rb_of_b (b_of_one (one_par (re_ok t k h))))))))))) n s xs hl (by rw [ht]; simp) (by simp) hn
end K01
end S52
section S53
set_option autoImplicit false
set_option linter.all false
set_option maxRecDepth 100000
set_option Elab.async false
set_option maxHeartbeats 4000000
/-! Q8: names. -/
namespace K01
open RS
def subs : List (List (List Nat)) := [[], [[97]], [[98]], [[99, 95, 100]], [[97], [98]], [[97], [99, 95, 100]], [[98], [99, 95, 100]], [[97], [98], [99, 95, 100]]]
def uni (A B : List (List Nat)) : List (List Nat) := nms.filter fun x => A.contains x || B.contains x
def mkd (A : List (List Nat)) : List (D × D) := (A.map D.str).foldl (fun acc x => dput acc x (.bl true)) []
def pairs : List (List (List Nat) × List (List Nat)) := subs.flatMap fun A => subs.map fun B => (A, B)
theorem uni_sub : ∀ A ∈ subs, ∀ B ∈ subs, uni A B ∈ subs := by decide +kernel
theorem sort1 (s : Sto) : pairs.map (fun q => builtin .sorted s [.dct (dputs (dputs [] (mkd q.1)) (mkd q.2))]) = pairs.map fun q => some (.lst ((uni q.1 q.2).map .str), .fr) := by kernel_rfl
theorem sort2 (s : Sto) : pairs.map (fun q => builtin .sorted s [.lst ((q.1 ++ q.2.filter fun x => !isMem (.str x) (q.1.map .str)).map .str)]) = pairs.map fun q => some (.lst ((uni q.1 q.2).map .str), .fr) := by kernel_rfl
theorem tup1 (s : Sto) : subs.map (fun A => builtin .tuple s [.lst (A.map .str)]) = subs.map fun A => some (.tup (A.map .str), .fz) := by kernel_rfl
theorem mem_pairs {A B : List (List Nat)} (h1 : A ∈ subs) (h2 : B ∈ subs) : (A, B) ∈ pairs := List.mem_flatMap.mpr ⟨A, h1, List.mem_map.mpr ⟨B, h2, rfl⟩⟩
def nmL : D → List (List Nat)
  | .tup [_] => []
  | .tup (_ :: .str nm :: _) => [nm]
  | _ => []
def nmT : T → List (List Nat)
  | .lf d => nmL d
  | .no a => uni (nmT a) []
  | .an a b => uni (nmT a) (nmT b)
  | .or a b => uni (nmT a) (nmT b)
theorem nm_sub : ∀ nm ∈ nms, [nm] ∈ subs := by decide
theorem nmT_sub : ∀ (t : T) (k : Nat), Wf t k → nmT t ∈ subs
  | .lf d, k, h => by
    cases (h : Lf d) with
    | yes => exact List.mem_cons_self
    | no => exact List.mem_cons_self
    | is h => exact nm_sub _ h
    | cm h1 h2 h3 => exact nm_sub _ h2
    | inn h1 h2 h3 h4 => exact nm_sub _ h1
  | .no a, k, ⟨j, e, h⟩ => uni_sub _ (nmT_sub a j h) _ List.mem_cons_self
  | .an a b, k, ⟨j, e, h1, h2⟩ => uni_sub _ (nmT_sub a j h1) _ (nmT_sub b j h2)
  | .or a b, k, ⟨j, e, h1, h2⟩ => uni_sub _ (nmT_sub a j h1) _ (nmT_sub b j h2)
theorem sub_len : ∀ A ∈ subs, A.length ≤ 3 := by decide
theorem dput_len (kvs : List (D × D)) (k v : D) : (dput kvs k v).length ≤ kvs.length + 1 := by
  unfold dput
  split <;> simp
theorem dc_map {chk : Sto → Bool} {turn : D → Sto → R (Option (D × D))} {v : D → D} {s : Sto} (hc : chk s = true) : ∀ (xs : List D) (acc : List (D × D)), (∀ x ∈ xs, isKey x = true ∧ Ok (turn x s) fun o s' => o = some (x, v x) ∧ s' = s) → acc.length + xs.length ≤ line → Ok (dcTurns chk turn xs acc s) fun ds s' => ds = xs.foldl (fun acc x => dput acc x (v x)) acc ∧ s' = s
  | [], acc, _, _ => w.dc0 hc ⟨rfl, rfl⟩
  | x :: xs, acc, ht, hl => by
    obtain ⟨hk, h1⟩ := ht x List.mem_cons_self
    refine w.dcc hc (h1.mono fun o s' ⟨e, e2⟩ => .inl ⟨_, e, hk, by simp at hl; omega, ?_⟩)
    subst e2
    have := dput_len acc x (v x)
    exact dc_map hc xs (dput acc x (v x)) (fun y hy => ht y (List.mem_cons_of_mem _ hy)) (by simp at hl ⊢; omega)
/-- a test and what is taken -/
theorem lc_filter {chk : Sto → Bool} {turn : D → Sto → R (Option D)} {p : D → Bool} {s : Sto} (hc : chk s = true) : ∀ (xs acc : List D), (∀ x ∈ xs, Ok (turn x s) fun o s' => o = (if p x = true then some x else none) ∧ s' = s) → acc.length + xs.length ≤ line → Ok (lcTurns chk turn xs acc s) fun ds s' => ds = acc ++ xs.filter p ∧ s' = s
  | [], acc, _, _ => w.lc0 hc ⟨by simp, rfl⟩
  | x :: xs, acc, ht, hl => by
    refine w.lcc hc ((ht x List.mem_cons_self).mono fun o s' ⟨e, e2⟩ => ?_)
    subst e2
    simp only [List.length_cons] at hl
    cases h : p x with
    | true =>
      rw [h] at e
      refine .inl ⟨x, e, by omega, ?_⟩
      refine (lc_filter hc xs (acc ++ [x]) (fun y hy => ht y (List.mem_cons_of_mem _ hy)) (by simp; omega)).mono fun ds s2 ⟨e2, h1⟩ => ⟨?_, h1⟩
      rw [e2, List.filter_cons, h]
      simp
    | false =>
      rw [h] at e
      refine .inr ⟨e, ?_⟩
      refine (lc_filter hc xs acc (fun y hy => ht y (List.mem_cons_of_mem _ hy)) (by omega)).mono fun ds s2 ⟨e2, h1⟩ => ⟨?_, h1⟩
      rw [e2, List.filter_cons, h]
      rfl
theorem mkd_len (A : List (List Nat)) : (mkd A).length ≤ A.length := by
  have : ∀ (xs : List D) (acc : List (D × D)), (xs.foldl (fun acc x => dput acc x (.bl true)) acc).length ≤ acc.length + xs.length := by
    intro xs
    induction xs with
    | nil => intro acc; simp
    | cons x xs ih =>
      intro acc
      have h1 := ih (dput acc x (.bl true))
      have h2 := dput_len acc x (.bl true)
      simp only [List.foldl_cons, List.length_cons] at h1 ⊢
      omega
  have := this (A.map D.str) []
  rw [List.length_map] at this
  simpa [mkd] using this
def nBody : List IS := match f_names_in_tree.body with | [_, .ite _ [_, .for_ _ _ b, _] _, _] => b | _ => []
theorem nm_turn (n : Nat) (s : Sto) (tr d : D) (kvs : List (D × D)) (o : Option (D × Bool)) (A : List (List Nat)) (P : Fl × Env → Sto → Prop) (hA : A ∈ subs) (hk : kvs.length ≤ 10) (H : Ok (go prg n 12 [d] s) (Is (.tup (A.map .str)) s))
    (hP : P (.nx, [some (tr, false), some (.dct (dputs kvs (mkd A)), true), some (d, false), o]) s) : Ok (execs prg (go prg n) nBody [some (tr, false), some (.dct kvs, true), some (d, false), o] s) P := by
  dsimp only [nBody, f_names_in_tree]
  have hl := sub_len A hA
  repeat infer_instance
  refine H.mono ?_
  rintro x s' ⟨rfl, rfl⟩
  repeat infer_instance
  refine (dc_map (v := fun _ => .bl true) rfl (A.map D.str) [] (fun x hx => ?_) (by simp; unfold line; omega)).mono ?_
  · obtain ⟨z, rfl, _⟩ := mem_lst hx
    refine ⟨rfl, ?_⟩
    refine w.dcT1 rfl (w.ts0 (.inl ⟨rfl, ?_⟩))
    repeat infer_instance
    rfl
  · rintro ds s ⟨rfl, rfl⟩
    have := mkd_len A
    refine ⟨mkd A, rfl, by unfold line; omega, ?_⟩
    repeat infer_instance
    exact hP
theorem dputs_len : ∀ (more kvs : List (D × D)), (dputs kvs more).length ≤ kvs.length + more.length
  | [], kvs => by simp [dputs]
  | (k, v) :: r, kvs => by
    have h1 := dputs_len r (dput kvs k v)
    have h2 := dput_len kvs k v
    rw [dputs, List.length_cons]
    omega
theorem names_in_tree : ∀ (t : T) (k n : Nat) (s : Sto), Wf t k → k + 1 ≤ n → Ok (go prg n 12 [enc t] s) (Is (.tup ((nmT t).map .str)) s)
  | .lf d, k, n, s, h, hn => by
    obtain ⟨n, rfl⟩ : ∃ m, n = m + 1 := ⟨n - 1, by omega⟩
    refine w.run (fd := f_names_in_tree) rfl rfl ?_
    dsimp only [f_names_in_tree]
    show Ok (execs prg (go prg n) _ [some (d, false), none, none, none] s) _
    cases (h : Lf d) with
    | yes =>
      repeat infer_instance
      exact ⟨rfl, rfl⟩
    | no =>
      repeat infer_instance
      exact ⟨rfl, rfl⟩
    | is h =>
      repeat infer_instance
      exact ⟨rfl, rfl⟩
    | cm h1 h2 h3 =>
      simp only [sgs, List.mem_cons, List.not_mem_nil, or_false] at h1
      rcases h1 with rfl | rfl | rfl | rfl | rfl | rfl
      all_goals (
        repeat infer_instance
        exact ⟨rfl, rfl⟩)
    | inn h1 h2 h3 h4 =>
      repeat infer_instance
      exact ⟨rfl, rfl⟩
  | .no a, k, n, s, ⟨j, e, h⟩, hn => by
    subst e
    obtain ⟨n, rfl⟩ : ∃ m, n = m + 1 := ⟨n - 1, by omega⟩
    refine w.run (fd := f_names_in_tree) rfl rfl ?_
    dsimp only [f_names_in_tree]
    show Ok (execs prg (go prg n) _ [some (.tup [.str kNot, enc a], false), none, none, none] s) _
    have hA := nmT_sub a j h
    have es := List.map_inj_left.mp (sort1 s) _ (mem_pairs hA List.mem_cons_self)
    have et := List.map_inj_left.mp (tup1 s) _ (uni_sub _ hA _ List.mem_cons_self)
    repeat infer_instance
    refine w.forc rfl rfl ?_
    refine nm_turn n s _ _ _ _ _ _ hA (by decide) (names_in_tree a j n s h (by omega)) ?_
    repeat infer_instance
    refine w.for0 rfl ?_
    repeat infer_instance
    refine w.ofO es ?_
    repeat infer_instance
    refine w.ofO et ?_
    repeat infer_instance
    exact ⟨rfl, rfl⟩
  | .an a b, k, n, s, ⟨j, e, ha, hb⟩, hn => by
    subst e
    obtain ⟨n, rfl⟩ : ∃ m, n = m + 1 := ⟨n - 1, by omega⟩
    refine w.run (fd := f_names_in_tree) rfl rfl ?_
    dsimp only [f_names_in_tree]
    show Ok (execs prg (go prg n) _ [some (.tup [.str kAnd, enc a, enc b], false), none, none, none] s) _
    have hA := nmT_sub a j ha
    have hB := nmT_sub b j hb
    have es := List.map_inj_left.mp (sort1 s) _ (mem_pairs hA hB)
    have et := List.map_inj_left.mp (tup1 s) _ (uni_sub _ hA _ hB)
    have hl : (dputs [] (mkd (nmT a))).length ≤ 10 := by
      have h1 := dputs_len (mkd (nmT a)) []
      have h2 := mkd_len (nmT a)
      have h3 := sub_len _ hA
      simp only [List.length_nil] at h1
      omega
    repeat infer_instance
    refine w.forc rfl rfl ?_
    refine nm_turn n s _ _ _ _ _ _ hA (by decide) (names_in_tree a j n s ha (by omega)) ?_
    repeat infer_instance
    refine w.forc rfl rfl ?_
    refine nm_turn n s _ _ _ _ _ _ hB hl (names_in_tree b j n s hb (by omega)) ?_
    repeat infer_instance
    refine w.for0 rfl ?_
    repeat infer_instance
    refine w.ofO es ?_
    repeat infer_instance
    refine w.ofO et ?_
    repeat infer_instance
    exact ⟨rfl, rfl⟩
  | .or a b, k, n, s, ⟨j, e, ha, hb⟩, hn => by
    subst e
    obtain ⟨n, rfl⟩ : ∃ m, n = m + 1 := ⟨n - 1, by omega⟩
    refine w.run (fd := f_names_in_tree) rfl rfl ?_
    dsimp only [f_names_in_tree]
    show Ok (execs prg (go prg n) _ [some (.tup [.str kOr, enc a, enc b], false), none, none, none] s) _
    have hA := nmT_sub a j ha
    have hB := nmT_sub b j hb
    have es := List.map_inj_left.mp (sort1 s) _ (mem_pairs hA hB)
    have et := List.map_inj_left.mp (tup1 s) _ (uni_sub _ hA _ hB)
    have hl : (dputs [] (mkd (nmT a))).length ≤ 10 := by
      have h1 := dputs_len (mkd (nmT a)) []
      have h2 := mkd_len (nmT a)
      have h3 := sub_len _ hA
      simp only [List.length_nil] at h1
      omega
    repeat infer_instance
    refine w.forc rfl rfl ?_
    refine nm_turn n s _ _ _ _ _ _ hA (by decide) (names_in_tree a j n s ha (by omega)) ?_
    repeat infer_instance
    refine w.forc rfl rfl ?_
    refine nm_turn n s _ _ _ _ _ _ hB hl (names_in_tree b j n s hb (by omega)) ?_
    repeat infer_instance
    refine w.for0 rfl ?_
    repeat infer_instance
    refine w.ofO es ?_
    repeat infer_instance
    refine w.ofO et ?_
    repeat infer_instance
    exact ⟨rfl, rfl⟩
/-! ### the law's -/
def lBody : List IS := match f__law_names.body with | [_, _, _, .for_ _ _ b, _] => b | _ => []
theorem law_turn (n : Nat) (s : Sto) (tr d : D) (F : List (List Nat)) (o : Option (D × Bool)) (A : List (List Nat)) (P : Fl × Env → Sto → Prop) (hA : A ∈ subs) (hF : F.length ≤ 10) (H : Ok (go prg n 23 [d] s) fun x s' => x = (.lst (A.map .str), .fr) ∧ s' = s)
    (hP : P (.nx, [some (tr, false), some (.lst ((F ++ A.filter fun x => !isMem (.str x) (F.map .str)).map .str), true), some (d, false), o]) s) : Ok (execs prg (go prg n) lBody [some (tr, false), some (.lst (F.map .str), true), some (d, false), o] s) P := by
  dsimp only [lBody, f__law_names]
  have hl := sub_len A hA
  repeat infer_instance
  refine H.mono ?_
  rintro x s' ⟨rfl, rfl⟩
  repeat infer_instance
  refine (lc_filter (p := fun x => !isMem x (F.map .str)) rfl (A.map D.str) [] (fun x hx => ?_) (by simp; unfold line; omega)).mono ?_
  · obtain ⟨z, rfl, _⟩ := mem_lst hx
    refine w.lcT1 rfl ?_
    repeat infer_instance
    have ec : cmpop .notin s' (.str z) (.lst (F.map .str)) = some (!isMem (.str z) (F.map .str)) := by
      show (contains s' (.str z) (.lst (F.map .str))).map _ = _
      have : contains s' (.str z) (.lst (F.map .str)) = some (isMem (.str z) (F.map .str)) := if_pos (by
        show (plainD (.str z) && plainA (F.map .str) && decide (dep (.str z) ≤ 32) && decide (depA (F.map .str) ≤ 32)) = true
        rw [plain_strs, dep_strs]
        rfl)
      rw [this]
      rfl
    refine w.ofO ec ?_
    repeat infer_instance
    cases hm : !isMem (.str z) (F.map .str) with
    | true =>
      refine w.if_t rfl ?_
      repeat infer_instance
      refine .inl ⟨rfl, ?_⟩
      repeat infer_instance
      rfl
    | false =>
      refine w.if_f rfl ?_
      repeat infer_instance
      refine .inr ⟨rfl, ?_⟩
      exact ⟨rfl, rfl⟩
  · rintro ds s ⟨rfl, rfl⟩
    have hf : ((A.map D.str).filter fun x => !isMem x (F.map .str)).length ≤ A.length := by
      have := List.length_filter_le (fun x => !isMem x (F.map .str)) (A.map D.str)
      rw [List.length_map] at this
      exact this
    have e : F.map D.str ++ ([] ++ (A.map D.str).filter fun x => !isMem x (F.map .str)) = (F ++ A.filter fun x => !isMem (.str x) (F.map .str)).map D.str := by
      rw [List.nil_append, List.filter_map, List.map_append]
      rfl
    refine w.ofO (w.catL (by rw [List.length_map, List.nil_append]; unfold line; omega)) ?_
    rw [e]
    repeat infer_instance
    exact hP
theorem law_names : ∀ (t : T) (k n : Nat) (s : Sto), Wf t k → k + 1 ≤ n → Ok (go prg n 23 [enc t] s) (fun x s' => x = (.lst ((nmT t).map .str), .fr) ∧ s' = s)
  | .lf d, k, n, s, h, hn => by
    obtain ⟨n, rfl⟩ : ∃ m, n = m + 1 := ⟨n - 1, by omega⟩
    refine w.run (fd := f__law_names) rfl rfl ?_
    dsimp only [f__law_names]
    show Ok (execs prg (go prg n) _ [some (d, false), none, none, none] s) _
    cases (h : Lf d) with
    | yes =>
      repeat infer_instance
      rfl
    | no =>
      repeat infer_instance
      rfl
    | is h =>
      repeat infer_instance
      rfl
    | cm h1 h2 h3 =>
      simp only [sgs, List.mem_cons, List.not_mem_nil, or_false] at h1
      rcases h1 with rfl | rfl | rfl | rfl | rfl | rfl
      all_goals (
        repeat infer_instance
        rfl)
    | inn h1 h2 h3 h4 =>
      repeat infer_instance
      rfl
  | .no a, k, n, s, ⟨j, e, h⟩, hn => by
    subst e
    obtain ⟨n, rfl⟩ : ∃ m, n = m + 1 := ⟨n - 1, by omega⟩
    refine w.run (fd := f__law_names) rfl rfl ?_
    dsimp only [f__law_names]
    show Ok (execs prg (go prg n) _ [some (.tup [.str kNot, enc a], false), none, none, none] s) _
    have hA := nmT_sub a j h
    have es := List.map_inj_left.mp (sort2 s) _ (mem_pairs hA List.mem_cons_self)
    repeat infer_instance
    refine w.forc rfl rfl ?_
    refine law_turn n s _ _ [] _ _ _ hA (by decide) (law_names a j n s h (by omega)) ?_
    repeat infer_instance
    refine w.for0 rfl ?_
    have e0 : ([] ++ (nmT a).filter fun x => !isMem (.str x) (([] : List (List Nat)).map .str)) = nmT a ++ ([] : List (List Nat)).filter fun x => !isMem (.str x) ((nmT a).map .str) := by
      simp [isMem]
    rw [e0]
    repeat infer_instance
    refine w.ofO es ?_
    repeat infer_instance
    rfl
  | .an a b, k, n, s, ⟨j, e, ha, hb⟩, hn => by
    subst e
    obtain ⟨n, rfl⟩ : ∃ m, n = m + 1 := ⟨n - 1, by omega⟩
    refine w.run (fd := f__law_names) rfl rfl ?_
    dsimp only [f__law_names]
    show Ok (execs prg (go prg n) _ [some (.tup [.str kAnd, enc a, enc b], false), none, none, none] s) _
    have hA := nmT_sub a j ha
    have hB := nmT_sub b j hb
    have es := List.map_inj_left.mp (sort2 s) _ (mem_pairs hA hB)
    have hl := sub_len _ hA
    repeat infer_instance
    refine w.forc rfl rfl ?_
    refine law_turn n s _ _ [] _ _ _ hA (by decide) (law_names a j n s ha (by omega)) ?_
    repeat infer_instance
    have e0 : ([] ++ (nmT a).filter fun x => !isMem (.str x) (([] : List (List Nat)).map .str)) = nmT a := by
      simp [isMem]
    rw [e0]
    refine w.forc rfl rfl ?_
    refine law_turn n s _ _ (nmT a) _ _ _ hB (by omega) (law_names b j n s hb (by omega)) ?_
    repeat infer_instance
    refine w.for0 rfl ?_
    repeat infer_instance
    refine w.ofO es ?_
    repeat infer_instance
    rfl
  | .or a b, k, n, s, ⟨j, e, ha, hb⟩, hn => by
    subst e
    obtain ⟨n, rfl⟩ : ∃ m, n = m + 1 := ⟨n - 1, by omega⟩
    refine w.run (fd := f__law_names) rfl rfl ?_
    dsimp only [f__law_names]
    show Ok (execs prg (go prg n) _ [some (.tup [.str kOr, enc a, enc b], false), none, none, none] s) _
    have hA := nmT_sub a j ha
    have hB := nmT_sub b j hb
    have es := List.map_inj_left.mp (sort2 s) _ (mem_pairs hA hB)
    have hl := sub_len _ hA
    repeat infer_instance
    refine w.forc rfl rfl ?_
    refine law_turn n s _ _ [] _ _ _ hA (by decide) (law_names a j n s ha (by omega)) ?_
    repeat infer_instance
    have e0 : ([] ++ (nmT a).filter fun x => !isMem (.str x) (([] : List (List Nat)).map .str)) = nmT a := by
      simp [isMem]
    rw [e0]
    refine w.forc rfl rfl ?_
    refine law_turn n s _ _ (nmT a) _ _ _ hB (by omega) (law_names b j n s hb (by omega)) ?_
    repeat infer_instance
    refine w.for0 rfl ?_
    repeat infer_instance
    refine w.ofO es ?_
    repeat infer_instance
    rfl
end K01
end S53
section S54
set_option autoImplicit false
set_option linter.all false
set_option maxRecDepth 100000
set_option Elab.async false
set_option maxHeartbeats 4000000
/-! Q9: what holds. -/
namespace K01
open RS
/-- a def's rest, by the kernel -/
def fin (r : R (Fl × Env)) : R (D × Kd) := r.bind fun f s => match f.1 with
  | .rt d k => .ok (d, k) s
  | _ => .no
theorem tail_ok {p : Prg} {n : Nat} {r : List IS} {ρ : Env} {s s' : Sto} {x : D × Kd} {P : D × Kd → Sto → Prop} (h : fin (execs p (run p n) r ρ s) = .ok x s') (k : P x s') : Ok (execs p (go p n) r ρ s) (w.rk P) := by
  rw [go_eq]
  cases q : execs p (run p n) r ρ s with
  | ok f t =>
    rw [q] at h
    obtain ⟨f, ρ'⟩ := f
    cases f with
    | rt d kd =>
      cases h
      exact ⟨_, _, rfl, k⟩
    | nx => cases h
    | bk => cases h
    | ct => cases h
  | err c t => rw [q] at h; cases h
  | no => rw [q] at h; cases h
def fvals : List D := [.int 0, .int 5, .int 6, .str [120], .bl true, .bl false, .int 7, .str [121]]
/-- all rows of an "in" -/
def rows3 : List (List D) := ivals.map (fun a => [a]) ++ (ivals.flatMap fun a => ivals.map fun b => [a, b]) ++ ivals.flatMap fun a => ivals.flatMap fun b => ivals.map fun c => [a, b, c]
theorem mem_rows3 : ∀ (vs : List D), vs ≠ [] → vs.length ≤ 3 → (∀ v ∈ vs, v ∈ ivals) → vs ∈ rows3
  | [], h, _, _ => absurd rfl h
  | [a], _, _, h => List.mem_append_left _ (List.mem_append_left _ (List.mem_map.mpr ⟨a, h a (by simp), rfl⟩))
  | [a, b], _, _, h => List.mem_append_left _ (List.mem_append_right _ (List.mem_flatMap.mpr ⟨a, h a (by simp), List.mem_map.mpr ⟨b, h b (by simp), rfl⟩⟩))
  | [a, b, c], _, _, h => List.mem_append_right _ (List.mem_flatMap.mpr ⟨a, h a (by simp), List.mem_flatMap.mpr ⟨b, h b (by simp), List.mem_map.mpr ⟨c, h c (by simp), rfl⟩⟩⟩)
  | _ :: _ :: _ :: _ :: _, _, h, _ => by simp at h
/-- leaves, but for their name -/
inductive Tp where
  | is | cm (sg : List Nat) (v : D) | inn (vs : List D)
def Tp.d (nm : List Nat) : Tp → D
  | .is => .tup [.str kIs, .str nm]
  | .cm sg v => .tup [.str sg, .str nm, v]
  | .inn vs => .tup [.str kIn, .str nm, .tup vs]
def Tp.k : Tp → List Nat
  | .is => kIs
  | .cm sg _ => sg
  | .inn _ => kIn
def tps : List Tp := .is :: ((sgs.flatMap fun sg => vals.map fun v => .cm sg v) ++ rows3.map .inn)
/-- what a leaf says of its name's value -/
def lv (t : Tp) (v : D) : Bool := match fin (execs prg (run prg 5) (f_holds.body.drop 6) [some (t.d [], false), some (.dct [], false), some (.str t.k, false), some (v, false), none, none, none, none] []) with
  | .ok (.bl b, _) _ => b
  | _ => false
def row1 (n : Nat) (nm : List Nat) (s : Sto) (F v : D) : Prop := tps.map (fun t => fin (execs prg (run prg (n + 3)) (f_holds.body.drop 6) [some (t.d nm, false), some (F, false), some (.str t.k, false), some (v, false), none, none, none, none] s)) = tps.map fun t => .ok (.bl (lv t v), .fz) s
def row2 (n : Nat) (nm : List Nat) (s : Sto) (F v : D) : Prop := tps.map (fun t => fin (execs prg (run prg (n + 3)) (f__law_holds.body.drop 5) [some (t.d nm, false), some (F, false), some (.str t.k, false), some (v, false), none, none, none, none] s)) = tps.map fun t => .ok (.bl (lv t v), .fz) s
theorem t1_0 (n : Nat) (nm : List Nat) (s : Sto) (F : D) : row1 n nm s F (.int 0) := by unfold row1; kernel_rfl
theorem t1_1 (n : Nat) (nm : List Nat) (s : Sto) (F : D) : row1 n nm s F (.int 5) := by unfold row1; kernel_rfl
theorem t1_2 (n : Nat) (nm : List Nat) (s : Sto) (F : D) : row1 n nm s F (.int 6) := by unfold row1; kernel_rfl
theorem t1_3 (n : Nat) (nm : List Nat) (s : Sto) (F : D) : row1 n nm s F (.str [120]) := by unfold row1; kernel_rfl
theorem t1_4 (n : Nat) (nm : List Nat) (s : Sto) (F : D) : row1 n nm s F (.bl true) := by unfold row1; kernel_rfl
theorem t1_5 (n : Nat) (nm : List Nat) (s : Sto) (F : D) : row1 n nm s F (.bl false) := by unfold row1; kernel_rfl
theorem t1_6 (n : Nat) (nm : List Nat) (s : Sto) (F : D) : row1 n nm s F (.int 7) := by unfold row1; kernel_rfl
theorem t1_7 (n : Nat) (nm : List Nat) (s : Sto) (F : D) : row1 n nm s F (.str [121]) := by unfold row1; kernel_rfl
theorem tab1 (n : Nat) (nm : List Nat) (s : Sto) (F : D) {v : D} (hv : v ∈ fvals) : row1 n nm s F v := by
  simp only [fvals, List.mem_cons, List.not_mem_nil, or_false] at hv
  rcases hv with rfl | rfl | rfl | rfl | rfl | rfl | rfl | rfl
  · exact t1_0 n nm s F
  · exact t1_1 n nm s F
  · exact t1_2 n nm s F
  · exact t1_3 n nm s F
  · exact t1_4 n nm s F
  · exact t1_5 n nm s F
  · exact t1_6 n nm s F
  · exact t1_7 n nm s F
theorem t2_0 (n : Nat) (nm : List Nat) (s : Sto) (F : D) : row2 n nm s F (.int 0) := by unfold row2; kernel_rfl
theorem t2_1 (n : Nat) (nm : List Nat) (s : Sto) (F : D) : row2 n nm s F (.int 5) := by unfold row2; kernel_rfl
theorem t2_2 (n : Nat) (nm : List Nat) (s : Sto) (F : D) : row2 n nm s F (.int 6) := by unfold row2; kernel_rfl
theorem t2_3 (n : Nat) (nm : List Nat) (s : Sto) (F : D) : row2 n nm s F (.str [120]) := by unfold row2; kernel_rfl
theorem t2_4 (n : Nat) (nm : List Nat) (s : Sto) (F : D) : row2 n nm s F (.bl true) := by unfold row2; kernel_rfl
theorem t2_5 (n : Nat) (nm : List Nat) (s : Sto) (F : D) : row2 n nm s F (.bl false) := by unfold row2; kernel_rfl
theorem t2_6 (n : Nat) (nm : List Nat) (s : Sto) (F : D) : row2 n nm s F (.int 7) := by unfold row2; kernel_rfl
theorem t2_7 (n : Nat) (nm : List Nat) (s : Sto) (F : D) : row2 n nm s F (.str [121]) := by unfold row2; kernel_rfl
theorem tab2 (n : Nat) (nm : List Nat) (s : Sto) (F : D) {v : D} (hv : v ∈ fvals) : row2 n nm s F v := by
  simp only [fvals, List.mem_cons, List.not_mem_nil, or_false] at hv
  rcases hv with rfl | rfl | rfl | rfl | rfl | rfl | rfl | rfl
  · exact t2_0 n nm s F
  · exact t2_1 n nm s F
  · exact t2_2 n nm s F
  · exact t2_3 n nm s F
  · exact t2_4 n nm s F
  · exact t2_5 n nm s F
  · exact t2_6 n nm s F
  · exact t2_7 n nm s F

def tpOf : D → Tp
  | .tup [.str _, .str _] => .is
  | .tup [.str _, .str _, .tup vs] => .inn vs
  | .tup [.str sg, .str _, v] => .cm sg v
  | _ => .is
def nmOf : D → List Nat
  | .tup (_ :: .str nm :: _) => nm
  | _ => []
def lhold (kvs : List (D × D)) : D → Option Bool
  | .tup [.str k] => some (k == kYes)
  | d => (dget kvs (.str (nmOf d))).map (lv (tpOf d))
def kand (x y : Option Bool) : Option Bool := if x = some false ∨ y = some false then some false else if x = none ∨ y = none then none else some true
def kor (x y : Option Bool) : Option Bool := if x = some true ∨ y = some true then some true else if x = none ∨ y = none then none else some false
def hold (kvs : List (D × D)) : T → Option Bool
  | .lf d => lhold kvs d
  | .no a => (hold kvs a).map (!·)
  | .an a b => kand (hold kvs a) (hold kvs b)
  | .or a b => kor (hold kvs a) (hold kvs b)
def oD : Option Bool → D
  | none => .non
  | some b => .bl b
/-- facts -/
def FOk (kvs : List (D × D)) : Prop := ∀ nm ∈ nms, dget kvs (.str nm) = none ∨ ∃ v ∈ fvals, dget kvs (.str nm) = some v
theorem tp_cm {sg : List Nat} {v : D} (h1 : sg ∈ sgs) (h2 : v ∈ vals) : Tp.cm sg v ∈ tps := List.mem_cons_of_mem _ (List.mem_append_left _ (List.mem_flatMap.mpr ⟨sg, h1, List.mem_map.mpr ⟨v, h2, rfl⟩⟩))
theorem tp_inn {vs : List D} (h1 : vs ≠ []) (h2 : vs.length ≤ 3) (h3 : ∀ v ∈ vs, v ∈ ivals) : Tp.inn vs ∈ tps := List.mem_cons_of_mem _ (List.mem_append_right _ (List.mem_map.mpr ⟨vs, mem_rows3 vs h1 h2 h3, rfl⟩))
theorem lhold_cm {kvs : List (D × D)} {sg nm : List Nat} {v : D} (h : v ∈ vals) : lhold kvs (.tup [.str sg, .str nm, v]) = (dget kvs (.str nm)).map (lv (.cm sg v)) := by
  have := (vals_len v h).2.1
  cases v <;> first | rfl | exact absurd rfl (this _)
theorem not_in {s : Sto} {kvs : List (D × D)} {nm : List Nat} : cmpop .notin s (.str nm) (.dct kvs) = some (!(dget kvs (.str nm)).isSome) := rfl
theorem item_d {s : Sto} {kvs : List (D × D)} {nm : List Nat} {v : D} (h : dget kvs (.str nm) = some v) : item s (.dct kvs) (.str nm) = some (v, .fz) := by
  show (dget kvs (.str nm)).map _ = _
  rw [h]
  rfl
theorem holds (kvs : List (D × D)) (hF : FOk kvs) : ∀ (t : T) (k n : Nat) (s : Sto), Wf t k → k + 4 ≤ n → Ok (go prg n 8 [enc t, .dct kvs] s) (Is (oD (hold kvs t)) s)
  | .lf d, k, n, s, h, hn => by
    obtain ⟨n, rfl⟩ : ∃ m, n = m + 4 := ⟨n - 4, by omega⟩
    refine w.run (fd := f_holds) rfl rfl ?_
    dsimp only [f_holds]
    show Ok (execs prg (go prg (n + 3)) _ [some (d, false), some (.dct kvs, false), none, none, none, none, none, none] s) (w.rk (Is (oD (lhold kvs d)) s))
    cases (h : Lf d) with
    | yes =>
      repeat infer_instance
      exact ⟨rfl, rfl⟩
    | no =>
      repeat infer_instance
      exact ⟨rfl, rfl⟩
    | @is nm h =>
      have hd := hF nm h
      have ht : Tp.is ∈ tps := List.mem_cons_self
      show Ok _ (w.rk (Is (oD ((dget kvs (.str nm)).map (lv .is))) s))
      repeat infer_instance
      rcases hd with hg | ⟨u, hu, hg⟩
      · rw [hg]
        repeat infer_instance
        exact ⟨rfl, rfl⟩
      · rw [hg]
        repeat infer_instance
        refine w.ofO (item_d hg) ?_
        infer_instance
        infer_instance
        exact tail_ok (List.map_inj_left.mp (tab1 n nm s (.dct kvs) hu) .is ht) ⟨rfl, rfl⟩
    | @cm sg nm v h1 h2 h3 =>
      have hd := hF nm h2
      have ht := tp_cm h1 h3
      rw [lhold_cm h3]
      simp only [sgs, List.mem_cons, List.not_mem_nil, or_false] at h1
      rcases h1 with rfl | rfl | rfl | rfl | rfl | rfl
      all_goals (
        repeat infer_instance
        rcases hd with hg | ⟨u, hu, hg⟩
        · rw [hg]
          repeat infer_instance
          exact ⟨rfl, rfl⟩
        · rw [hg]
          repeat infer_instance
          refine w.ofO (item_d hg) ?_
          infer_instance
          infer_instance
          exact tail_ok (List.map_inj_left.mp (tab1 n nm s (.dct kvs) hu) _ ht) ⟨rfl, rfl⟩)
    | @inn nm vs h1 h2 h3 h4 =>
      have hd := hF nm h1
      have ht := tp_inn h2 h3 h4
      show Ok _ (w.rk (Is (oD ((dget kvs (.str nm)).map (lv (.inn vs)))) s))
      repeat infer_instance
      rcases hd with hg | ⟨u, hu, hg⟩
      · rw [hg]
        repeat infer_instance
        exact ⟨rfl, rfl⟩
      · rw [hg]
        repeat infer_instance
        refine w.ofO (item_d hg) ?_
        infer_instance
        infer_instance
        exact tail_ok (List.map_inj_left.mp (tab1 n nm s (.dct kvs) hu) _ ht) ⟨rfl, rfl⟩
  | .no a, k, n, s, ⟨j, e, h⟩, hn => by
    subst e
    obtain ⟨n, rfl⟩ : ∃ m, n = m + 1 := ⟨n - 1, by omega⟩
    refine w.run (fd := f_holds) rfl rfl ?_
    dsimp only [f_holds]
    show Ok (execs prg (go prg n) _ [some (.tup [.str kNot, enc a], false), some (.dct kvs, false), none, none, none, none, none, none] s) _
    repeat infer_instance
    refine (holds kvs hF a j n s h (by omega)).mono ?_
    rintro x s' ⟨rfl, rfl⟩
    have eh : hold kvs (.no a) = (hold kvs a).map (!·) := rfl
    rw [eh]
    rcases hold kvs a with _ | _ | _
    all_goals (
      repeat infer_instance
      exact ⟨rfl, rfl⟩)
  | .an a b, k, n, s, ⟨j, e, ha, hb⟩, hn => by
    subst e
    obtain ⟨n, rfl⟩ : ∃ m, n = m + 1 := ⟨n - 1, by omega⟩
    refine w.run (fd := f_holds) rfl rfl ?_
    dsimp only [f_holds]
    show Ok (execs prg (go prg n) _ [some (.tup [.str kAnd, enc a, enc b], false), some (.dct kvs, false), none, none, none, none, none, none] s) _
    have eh : hold kvs (.an a b) = kand (hold kvs a) (hold kvs b) := rfl
    rw [eh]
    repeat infer_instance
    refine w.lcc rfl ?_
    refine w.lcT0 rfl ?_
    repeat infer_instance
    refine (holds kvs hF a j n s ha (by omega)).mono ?_
    rintro x s' ⟨rfl, rfl⟩
    repeat infer_instance
    refine .inl ⟨_, rfl, by decide, ?_⟩
    refine w.lcc rfl ?_
    refine w.lcT0 rfl ?_
    repeat infer_instance
    refine (holds kvs hF b j n s' hb (by omega)).mono ?_
    rintro x s ⟨rfl, rfl⟩
    rcases hold kvs a with _ | _ | _ <;> rcases hold kvs b with _ | _ | _
    all_goals (
      repeat infer_instance
      refine .inl ⟨_, rfl, by decide, ?_⟩
      refine w.lc0 rfl ?_
      repeat infer_instance
      exact ⟨rfl, rfl⟩)
  | .or a b, k, n, s, ⟨j, e, ha, hb⟩, hn => by
    subst e
    obtain ⟨n, rfl⟩ : ∃ m, n = m + 1 := ⟨n - 1, by omega⟩
    refine w.run (fd := f_holds) rfl rfl ?_
    dsimp only [f_holds]
    show Ok (execs prg (go prg n) _ [some (.tup [.str kOr, enc a, enc b], false), some (.dct kvs, false), none, none, none, none, none, none] s) _
    have eh : hold kvs (.or a b) = kor (hold kvs a) (hold kvs b) := rfl
    rw [eh]
    repeat infer_instance
    refine w.lcc rfl ?_
    refine w.lcT0 rfl ?_
    repeat infer_instance
    refine (holds kvs hF a j n s ha (by omega)).mono ?_
    rintro x s' ⟨rfl, rfl⟩
    repeat infer_instance
    refine .inl ⟨_, rfl, by decide, ?_⟩
    refine w.lcc rfl ?_
    refine w.lcT0 rfl ?_
    repeat infer_instance
    refine (holds kvs hF b j n s' hb (by omega)).mono ?_
    rintro x s ⟨rfl, rfl⟩
    rcases hold kvs a with _ | _ | _ <;> rcases hold kvs b with _ | _ | _
    all_goals (
      repeat infer_instance
      refine .inl ⟨_, rfl, by decide, ?_⟩
      refine w.lc0 rfl ?_
      repeat infer_instance
      exact ⟨rfl, rfl⟩)
theorem law_holds (kvs : List (D × D)) (hF : FOk kvs) : ∀ (t : T) (k n : Nat) (s : Sto), Wf t k → k + 4 ≤ n → Ok (go prg n 21 [enc t, .dct kvs] s) (Is (oD (hold kvs t)) s)
  | .lf d, k, n, s, h, hn => by
    obtain ⟨n, rfl⟩ : ∃ m, n = m + 4 := ⟨n - 4, by omega⟩
    refine w.run (fd := f__law_holds) rfl rfl ?_
    dsimp only [f__law_holds]
    show Ok (execs prg (go prg (n + 3)) _ [some (d, false), some (.dct kvs, false), none, none, none, none, none, none] s) (w.rk (Is (oD (lhold kvs d)) s))
    cases (h : Lf d) with
    | yes =>
      repeat infer_instance
      exact ⟨rfl, rfl⟩
    | no =>
      repeat infer_instance
      exact ⟨rfl, rfl⟩
    | @is nm h =>
      have hd := hF nm h
      have ht : Tp.is ∈ tps := List.mem_cons_self
      show Ok _ (w.rk (Is (oD ((dget kvs (.str nm)).map (lv .is))) s))
      repeat infer_instance
      rcases hd with hg | ⟨u, hu, hg⟩
      · rw [hg]
        repeat infer_instance
        exact ⟨rfl, rfl⟩
      · rw [hg]
        repeat infer_instance
        refine w.ofO (item_d hg) ?_
        infer_instance
        infer_instance
        exact tail_ok (List.map_inj_left.mp (tab2 n nm s (.dct kvs) hu) .is ht) ⟨rfl, rfl⟩
    | @cm sg nm v h1 h2 h3 =>
      have hd := hF nm h2
      have ht := tp_cm h1 h3
      rw [lhold_cm h3]
      simp only [sgs, List.mem_cons, List.not_mem_nil, or_false] at h1
      rcases h1 with rfl | rfl | rfl | rfl | rfl | rfl
      all_goals (
        repeat infer_instance
        rcases hd with hg | ⟨u, hu, hg⟩
        · rw [hg]
          repeat infer_instance
          exact ⟨rfl, rfl⟩
        · rw [hg]
          repeat infer_instance
          refine w.ofO (item_d hg) ?_
          infer_instance
          infer_instance
          exact tail_ok (List.map_inj_left.mp (tab2 n nm s (.dct kvs) hu) _ ht) ⟨rfl, rfl⟩)
    | @inn nm vs h1 h2 h3 h4 =>
      have hd := hF nm h1
      have ht := tp_inn h2 h3 h4
      show Ok _ (w.rk (Is (oD ((dget kvs (.str nm)).map (lv (.inn vs)))) s))
      repeat infer_instance
      rcases hd with hg | ⟨u, hu, hg⟩
      · rw [hg]
        repeat infer_instance
        exact ⟨rfl, rfl⟩
      · rw [hg]
        repeat infer_instance
        refine w.ofO (item_d hg) ?_
        infer_instance
        infer_instance
        exact tail_ok (List.map_inj_left.mp (tab2 n nm s (.dct kvs) hu) _ ht) ⟨rfl, rfl⟩
  | .no a, k, n, s, ⟨j, e, h⟩, hn => by
    subst e
    obtain ⟨n, rfl⟩ : ∃ m, n = m + 1 := ⟨n - 1, by omega⟩
    refine w.run (fd := f__law_holds) rfl rfl ?_
    dsimp only [f__law_holds]
    show Ok (execs prg (go prg n) _ [some (.tup [.str kNot, enc a], false), some (.dct kvs, false), none, none, none, none, none, none] s) _
    repeat infer_instance
    refine w.lcc rfl ?_
    refine w.lcT0 rfl ?_
    repeat infer_instance
    refine (law_holds kvs hF a j n s h (by omega)).mono ?_
    rintro x s' ⟨rfl, rfl⟩
    have eh : hold kvs (.no a) = (hold kvs a).map (!·) := rfl
    rw [eh]
    rcases hold kvs a with _ | _ | _
    all_goals (
      repeat infer_instance
      refine .inl ⟨_, rfl, by decide, ?_⟩
      refine w.lc0 rfl ?_
      repeat infer_instance
      exact ⟨rfl, rfl⟩)
  | .an a b, k, n, s, ⟨j, e, ha, hb⟩, hn => by
    subst e
    obtain ⟨n, rfl⟩ : ∃ m, n = m + 1 := ⟨n - 1, by omega⟩
    refine w.run (fd := f__law_holds) rfl rfl ?_
    dsimp only [f__law_holds]
    show Ok (execs prg (go prg n) _ [some (.tup [.str kAnd, enc a, enc b], false), some (.dct kvs, false), none, none, none, none, none, none] s) _
    have eh : hold kvs (.an a b) = kand (hold kvs a) (hold kvs b) := rfl
    rw [eh]
    repeat infer_instance
    refine w.lcc rfl ?_
    refine w.lcT0 rfl ?_
    repeat infer_instance
    refine (law_holds kvs hF a j n s ha (by omega)).mono ?_
    rintro x s' ⟨rfl, rfl⟩
    repeat infer_instance
    refine .inl ⟨_, rfl, by decide, ?_⟩
    refine w.lcc rfl ?_
    refine w.lcT0 rfl ?_
    repeat infer_instance
    refine (law_holds kvs hF b j n s' hb (by omega)).mono ?_
    rintro x s ⟨rfl, rfl⟩
    rcases hold kvs a with _ | _ | _ <;> rcases hold kvs b with _ | _ | _
    all_goals (
      repeat infer_instance
      refine .inl ⟨_, rfl, by decide, ?_⟩
      refine w.lc0 rfl ?_
      repeat infer_instance
      exact ⟨rfl, rfl⟩)
  | .or a b, k, n, s, ⟨j, e, ha, hb⟩, hn => by
    subst e
    obtain ⟨n, rfl⟩ : ∃ m, n = m + 1 := ⟨n - 1, by omega⟩
    refine w.run (fd := f__law_holds) rfl rfl ?_
    dsimp only [f__law_holds]
    show Ok (execs prg (go prg n) _ [some (.tup [.str kOr, enc a, enc b], false), some (.dct kvs, false), none, none, none, none, none, none] s) _
    have eh : hold kvs (.or a b) = kor (hold kvs a) (hold kvs b) := rfl
    rw [eh]
    repeat infer_instance
    refine w.lcc rfl ?_
    refine w.lcT0 rfl ?_
    repeat infer_instance
    refine (law_holds kvs hF a j n s ha (by omega)).mono ?_
    rintro x s' ⟨rfl, rfl⟩
    repeat infer_instance
    refine .inl ⟨_, rfl, by decide, ?_⟩
    refine w.lcc rfl ?_
    refine w.lcT0 rfl ?_
    repeat infer_instance
    refine (law_holds kvs hF b j n s' hb (by omega)).mono ?_
    rintro x s ⟨rfl, rfl⟩
    rcases hold kvs a with _ | _ | _ <;> rcases hold kvs b with _ | _ | _
    all_goals (
      repeat infer_instance
      refine .inl ⟨_, rfl, by decide, ?_⟩
      refine w.lc0 rfl ?_
      repeat infer_instance
      exact ⟨rfl, rfl⟩)
end K01
end S54
section S55
set_option autoImplicit false
set_option linter.all false
set_option maxRecDepth 100000
set_option Elab.async false
set_option maxHeartbeats 4000000
/-! Q10: what holds: its laws. Plain Lean. -/
namespace K01
open RS
theorem lhold_no {kvs kvs' : List (D × D)} {d : D} (h : Lf d) (e : ∀ nm ∈ nmL d, dget kvs (.str nm) = dget kvs' (.str nm)) : lhold kvs d = lhold kvs' d := by
  cases h with
  | yes => rfl
  | no => rfl
  | @is nm h => show (dget kvs (.str nm)).map _ = (dget kvs' (.str nm)).map _; rw [e nm List.mem_cons_self]
  | @cm sg nm v h1 h2 h3 => rw [lhold_cm h3, lhold_cm h3, e nm List.mem_cons_self]
  | @inn nm vs h1 h2 h3 h4 => show (dget kvs (.str nm)).map _ = (dget kvs' (.str nm)).map _; rw [e nm List.mem_cons_self]
theorem mem_uni {A B : List (List Nat)} {x : List Nat} (hx : x ∈ nms) : x ∈ uni A B ↔ x ∈ A ∨ x ∈ B := by
  unfold uni
  rw [List.mem_filter]
  simp [hx]
theorem sub_nms : ∀ A ∈ subs, ∀ x ∈ A, x ∈ nms := by decide
/-- it hangs on its own names alone -/
theorem hold_no {kvs kvs' : List (D × D)} : ∀ (t : T) (k : Nat), Wf t k → (∀ nm ∈ nmT t, dget kvs (.str nm) = dget kvs' (.str nm)) → hold kvs t = hold kvs' t
  | .lf d, k, h, e => lhold_no h e
  | .no a, k, ⟨j, e0, h⟩, e => by
    have hs := sub_nms _ (nmT_sub a j h)
    rw [hold, hold, hold_no a j h fun nm hn => e nm ((mem_uni (hs nm hn)).mpr (.inl hn))]
  | .an a b, k, ⟨j, e0, h1, h2⟩, e => by
    have s1 := sub_nms _ (nmT_sub a j h1)
    have s2 := sub_nms _ (nmT_sub b j h2)
    rw [hold, hold, hold_no a j h1 fun nm hn => e nm ((mem_uni (s1 nm hn)).mpr (.inl hn)), hold_no b j h2 fun nm hn => e nm ((mem_uni (s2 nm hn)).mpr (.inr hn))]
  | .or a b, k, ⟨j, e0, h1, h2⟩, e => by
    have s1 := sub_nms _ (nmT_sub a j h1)
    have s2 := sub_nms _ (nmT_sub b j h2)
    rw [hold, hold, hold_no a j h1 fun nm hn => e nm ((mem_uni (s1 nm hn)).mpr (.inl hn)), hold_no b j h2 fun nm hn => e nm ((mem_uni (s2 nm hn)).mpr (.inr hn))]
/-- more is known: what was decided stays -/
def Le (x y : Option Bool) : Prop := x = none ∨ x = y
theorem le_and {a b c d : Option Bool} (h1 : Le a c) (h2 : Le b d) : Le (kand a b) (kand c d) := by
  rcases a with _ | _ | _ <;> rcases b with _ | _ | _ <;> rcases c with _ | _ | _ <;> rcases d with _ | _ | _ <;> simp [Le, kand] at *
theorem le_or {a b c d : Option Bool} (h1 : Le a c) (h2 : Le b d) : Le (kor a b) (kor c d) := by
  rcases a with _ | _ | _ <;> rcases b with _ | _ | _ <;> rcases c with _ | _ | _ <;> rcases d with _ | _ | _ <;> simp [Le, kor] at *
theorem le_map {f : D → Bool} {a b : Option D} (h : a = none ∨ a = b) : Le (a.map f) (b.map f) := by
  rcases h with h | h
  · rw [h]; exact .inl rfl
  · rw [h]; exact .inr rfl
theorem hold_le {kvs kvs' : List (D × D)} (e : ∀ nm ∈ nms, dget kvs (.str nm) = none ∨ dget kvs (.str nm) = dget kvs' (.str nm)) : ∀ (t : T) (k : Nat), Wf t k → Le (hold kvs t) (hold kvs' t)
  | .lf d, k, h => by
    cases (h : Lf d) with
    | yes => exact .inr rfl
    | no => exact .inr rfl
    | is h => exact le_map (e _ h)
    | @cm sg nm v h1 h2 h3 =>
      show Le (lhold kvs _) (lhold kvs' _)
      rw [lhold_cm h3, lhold_cm h3]
      exact le_map (e _ h2)
    | inn h1 h2 h3 h4 => exact le_map (e _ h1)
  | .no a, k, ⟨j, e0, h⟩ => by
    have := hold_le e a j h
    rw [hold, hold]
    rcases this with h | h
    · rw [h]; exact .inl rfl
    · rw [h]; exact .inr rfl
  | .an a b, k, ⟨j, e0, h1, h2⟩ => le_and (hold_le e a j h1) (hold_le e b j h2)
  | .or a b, k, ⟨j, e0, h1, h2⟩ => le_or (hold_le e a j h1) (hold_le e b j h2)
/-- all is known: all is decided -/
theorem hold_all {kvs : List (D × D)} : ∀ (t : T) (k : Nat), Wf t k → (∀ nm ∈ nmT t, (dget kvs (.str nm)).isSome = true) → hold kvs t ≠ none
  | .lf d, k, h, e => by
    have key : ∀ nm (f : D → Bool), (dget kvs (.str nm)).isSome = true → (dget kvs (.str nm)).map f ≠ none := fun nm f h => by
      cases q : dget kvs (.str nm) with
      | none => rw [q] at h; cases h
      | some v => simp
    cases (h : Lf d) with
    | yes => simp [hold, lhold]
    | no => simp [hold, lhold]
    | @is nm h => exact key nm _ (e nm List.mem_cons_self)
    | @cm sg nm v h1 h2 h3 =>
      show lhold kvs _ ≠ none
      rw [lhold_cm h3]
      exact key nm _ (e nm List.mem_cons_self)
    | @inn nm vs h1 h2 h3 h4 => exact key nm _ (e nm List.mem_cons_self)
  | .no a, k, ⟨j, e0, h⟩, e => by
    have hs := sub_nms _ (nmT_sub a j h)
    have := hold_all a j h fun nm hn => e nm ((mem_uni (hs nm hn)).mpr (.inl hn))
    rw [hold]
    cases q : hold kvs a with
    | none => exact absurd q this
    | some b => simp
  | .an a b, k, ⟨j, e0, h1, h2⟩, e => by
    have s1 := sub_nms _ (nmT_sub a j h1)
    have s2 := sub_nms _ (nmT_sub b j h2)
    have q1 := hold_all a j h1 fun nm hn => e nm ((mem_uni (s1 nm hn)).mpr (.inl hn))
    have q2 := hold_all b j h2 fun nm hn => e nm ((mem_uni (s2 nm hn)).mpr (.inr hn))
    rw [hold]
    revert q1 q2
    generalize hold kvs a = x
    generalize hold kvs b = y
    rcases x with _ | _ | _ <;> rcases y with _ | _ | _ <;> simp [kand]
  | .or a b, k, ⟨j, e0, h1, h2⟩, e => by
    have s1 := sub_nms _ (nmT_sub a j h1)
    have s2 := sub_nms _ (nmT_sub b j h2)
    have q1 := hold_all a j h1 fun nm hn => e nm ((mem_uni (s1 nm hn)).mpr (.inl hn))
    have q2 := hold_all b j h2 fun nm hn => e nm ((mem_uni (s2 nm hn)).mpr (.inr hn))
    rw [hold]
    revert q1 q2
    generalize hold kvs a = x
    generalize hold kvs b = y
    rcases x with _ | _ | _ <;> rcases y with _ | _ | _ <;> simp [kor]
end K01
end S55
section S56
set_option autoImplicit false
set_option linter.all false
set_option maxRecDepth 100000
set_option Elab.async false
set_option maxHeartbeats 4000000
/-! Q11: rows of names, the fewest. -/
namespace K01
open RS
/-! ### data -/
mutual
theorem deq_refl : ∀ {d : D}, plainD d = true → deq d d = true
  | .non, _ => rfl
  | .bl b, _ => by cases b <;> rfl
  | .int i, _ => by show (i == i) = true; exact beq_self_eq_true i
  | .str s, _ => by show (s == s) = true; exact beq_self_eq_true s
  | .tup xs, h => by rw [deq]; exact deqA_refl (by rw [plainD] at h; exact h)
  | .lst xs, h => by rw [deq]; exact deqA_refl (by rw [plainD] at h; exact h)
  | .dct _, h => by rw [plainD] at h; cases h
  | .loc _, h => by rw [plainD] at h; cases h
  | .lam _, h => by rw [plainD] at h; cases h
  | .scr _, h => by rw [plainD] at h; cases h
theorem deqA_refl : ∀ {ds : List D}, plainA ds = true → deqA ds ds = true
  | [], _ => rfl
  | d :: ds, h => by
    rw [plainA, Bool.and_eq_true] at h
    rw [deqA, deq_refl h.1, deqA_refl h.2]
    rfl
end
theorem ne_self {s : Sto} {d : D} (hp : plainD d = true) (hd : dep d ≤ 32) (hv : view s d = d) : cmpop .ne s d d = some false := by
  have : cmpOk (view s d) (view s d) = true := by
    rw [hv]
    unfold cmpOk
    rw [hp, decide_eq_true hd]
    rfl
  rw [w.neD this, hv, deq_refl hp]
  rfl
theorem eq_self {s : Sto} {d : D} (hp : plainD d = true) (hd : dep d ≤ 32) (hv : view s d = d) : cmpop .eq s d d = some true := by
  have : cmpOk (view s d) (view s d) = true := by
    rw [hv]
    unfold cmpOk
    rw [hp, decide_eq_true hd]
    rfl
  rw [w.eqD this, hv, deq_refl hp]
/-! ### dicts -/
theorem dget_dput {kvs : List (D × D)} {a b : List Nat} {v : D} : dget (dput kvs (.str a) v) (.str b) = if a = b then some v else dget kvs (.str b) := by
  have hk : ∀ x : D, keyEq x (.str a) = true → keyEq x (.str b) = (a == b) := fun x h => by
    cases x <;> simp [keyEq] at h ⊢
    rw [h]
  have app : ∀ kvs : List (D × D), dhas kvs (.str a) = false → dget (kvs ++ [(.str a, v)]) (.str b) = if a = b then some v else dget kvs (.str b) := by
    intro kvs
    induction kvs with
    | nil =>
      intro _
      show (if keyEq (.str a) (.str b) = true then some v else none) = _
      by_cases h : a = b
      · rw [if_pos h, if_pos (by subst h; show (a == a) = true; simp)]
      · rw [if_neg h, if_neg (by show ¬ (a == b) = true; simp [h])]; rfl
    | cons q r ih =>
      intro h
      obtain ⟨x, y⟩ := q
      have h : (keyEq x (.str a) || dhas r (.str a)) = false := h
      rw [Bool.or_eq_false_iff] at h
      show (if keyEq x (.str b) = true then some y else dget (r ++ [(.str a, v)]) (.str b)) = if a = b then some v else (if keyEq x (.str b) = true then some y else dget r (.str b))
      rw [ih h.2]
      by_cases hab : a = b
      · subst hab
        rw [if_neg (by rw [h.1]; simp), if_pos rfl, if_pos rfl]
      · rw [if_neg hab, if_neg hab]
  have rep : ∀ kvs : List (D × D), dhas kvs (.str a) = true → dget (kvs.map fun p => if keyEq p.1 (.str a) = true then (p.1, v) else p) (.str b) = if a = b then some v else dget kvs (.str b) := by
    intro kvs
    induction kvs with
    | nil => intro h; cases h
    | cons q r ih =>
      intro h
      obtain ⟨x, y⟩ := q
      rw [List.map_cons]
      cases hx : keyEq x (.str a) with
      | true =>
        rw [if_pos rfl]
        show (if keyEq x (.str b) = true then some v else dget (r.map _) (.str b)) = if a = b then some v else (if keyEq x (.str b) = true then some y else dget r (.str b))
        rw [hk x hx]
        by_cases hab : a = b
        · subst hab
          simp
        · rw [if_neg hab, if_neg (by simp [hab]), if_neg (by simp [hab])]
          cases hr : dhas r (.str a) with
          | true => rw [ih hr, if_neg hab]
          | false =>
            have : ∀ r : List (D × D), dhas r (.str a) = false → (r.map fun p => if keyEq p.1 (.str a) = true then (p.1, v) else p) = r := by
              intro r
              induction r with
              | nil => intro _; rfl
              | cons q r ih =>
                intro h
                have h : (keyEq q.1 (.str a) || dhas r (.str a)) = false := h
                rw [Bool.or_eq_false_iff] at h
                rw [List.map_cons, ih h.2, if_neg (by rw [h.1]; simp)]
            rw [this r hr]
      | false =>
        have h : (keyEq x (.str a) || dhas r (.str a)) = true := h
        rw [hx, Bool.false_or] at h
        rw [if_neg Bool.false_ne_true]
        show (if keyEq x (.str b) = true then some y else dget (r.map _) (.str b)) = if a = b then some v else (if keyEq x (.str b) = true then some y else dget r (.str b))
        rw [ih h]
        by_cases hab : a = b
        · subst hab
          rw [if_neg (by rw [hx]; simp), if_pos rfl, if_pos rfl]
        · rw [if_neg hab, if_neg hab]
  unfold dput
  split
  · rename_i h
    exact rep kvs h
  · rename_i h
    exact app kvs (by simpa using h)
/-- a dict's part -/
def res (kvs : List (D × D)) (r : List (List Nat)) : List (D × D) := (r.map D.str).foldl (fun acc x => dput acc x ((dget kvs x).getD .non)) []
theorem dget_fold (kvs : List (D × D)) (b : List Nat) : ∀ (r : List (List Nat)) (acc : List (D × D)), dget ((r.map D.str).foldl (fun acc x => dput acc x ((dget kvs x).getD .non)) acc) (.str b) = if b ∈ r then some ((dget kvs (.str b)).getD .non) else dget acc (.str b)
  | [], acc => by simp
  | a :: r, acc => by
    rw [List.map_cons, List.foldl_cons, dget_fold kvs b r, dget_dput]
    by_cases h1 : b ∈ r
    · rw [if_pos h1, if_pos (List.mem_cons_of_mem _ h1)]
    · rw [if_neg h1]
      by_cases h2 : a = b
      · subst h2
        rw [if_pos rfl, if_pos List.mem_cons_self]
      · rw [if_neg h2, if_neg (by simp [h1]; exact fun e => h2 e.symm)]
theorem dget_res (kvs : List (D × D)) (r : List (List Nat)) (b : List Nat) : dget (res kvs r) (.str b) = if b ∈ r then some ((dget kvs (.str b)).getD .non) else none := dget_fold kvs b r []
theorem res_ok {kvs : List (D × D)} (h : FOk kvs) {r : List (List Nat)} (hr : ∀ x ∈ r, (dget kvs (.str x)).isSome = true) : FOk (res kvs r) := fun nm hn => by
  rw [dget_res]
  by_cases h1 : nm ∈ r
  · rw [if_pos h1]
    have := hr nm h1
    rcases h nm hn with e | ⟨v, hv, e⟩
    · rw [e] at this; cases this
    · exact .inr ⟨v, hv, by rw [e]; rfl⟩
  · rw [if_neg h1]; exact .inl rfl
theorem dputs_fold : ∀ (ps kvs : List (D × D)), dputs kvs ps = ps.foldl (fun acc q => dput acc q.1 q.2) kvs
  | [], kvs => rfl
  | (k, v) :: r, kvs => by rw [dputs, List.foldl_cons, dputs_fold r]
/-! ### rows -/
def rowsF (names : List (List Nat)) : List (List (List Nat)) → List (List (List Nat)) := fun rows => names.foldl (fun rows nm => rows ++ rows.map fun r => r ++ [nm]) rows
def rowsOf (names : List (List Nat)) : List (List (List Nat)) := rowsF names [[]]
def rD (r : List (List Nat)) : D := .tup (r.map .str)
def gD (r : List (List Nat)) : D := .tup [.int r.length, rD r]
theorem filter_sub (p : List Nat → Bool) : ∀ A ∈ subs, A.filter p ∈ subs := by
  intro A hA
  have e : ∀ A ∈ subs, A = nms.filter fun x => A.contains x := by decide
  have key : ∀ q : List Nat → Bool, nms.filter q ∈ subs := by
    intro q
    cases h1 : q [97] <;> cases h2 : q [98] <;> cases h3 : q [99, 95, 100] <;> simp [nms, subs, List.filter, h1, h2, h3]
  rw [e A hA, List.filter_filter]
  exact key _
theorem rows_in : ∀ A ∈ subs, A ∈ rowsOf A ∧ ∀ r ∈ rowsOf A, ∀ x ∈ r, x ∈ A := by decide
theorem rows_len : ∀ A ∈ subs, (rowsOf A).length ≤ 8 ∧ ∀ r ∈ rowsOf A, r.length ≤ 3 := by decide
/-- parts of a row of things, in order -/
def parts {α : Type} : List α → List (List α)
  | [] => [[]]
  | x :: r => (parts r).map (x :: ·) ++ parts r
theorem filter_parts {α : Type} (p : α → Bool) : ∀ l : List α, l.filter p ∈ parts l
  | [] => List.mem_cons_self
  | x :: r => by
    rw [List.filter_cons]
    unfold parts
    split
    · exact List.mem_append_left _ (List.mem_map.mpr ⟨_, filter_parts p r, rfl⟩)
    · exact List.mem_append_right _ (filter_parts p r)
def goods : List (List (List (List Nat))) := (subs.flatMap fun A => parts (rowsOf A)).filter fun l => !l.isEmpty
def mn (l : List (List (List Nat))) : D := match builtin .min [] [.lst (l.map gD)] with
  | some (m, _) => m
  | none => .non
def so (l : List (List (List Nat))) : List D := match builtin .sorted [] [.lst (l.map gD)] with
  | some (.lst m, _) => m
  | _ => []
def lr (l : List (List (List Nat))) : D := match item [] (mn l) (.int 1) with
  | some (m, _) => m
  | none => .non
def sh (l : List (List (List Nat))) : D := match item [] (.lst (so l)) (.int 0) with
  | some (m, _) => m
  | none => .non
theorem g1 (s : Sto) : goods.map (fun l => builtin .min s [.lst (l.map gD)]) = goods.map fun l => some (mn l, .fz) := by kernel_rfl
theorem g2 (s : Sto) : goods.map (fun l => builtin .sorted s [.lst (l.map gD)]) = goods.map fun l => some (.lst (so l), .fr) := by kernel_rfl
theorem g3 (s : Sto) : goods.map (fun l => item s (mn l) (.int 1)) = goods.map fun l => some (lr l, .fz) := by kernel_rfl
theorem g4 (s : Sto) : goods.map (fun l => item s (.lst (so l)) (.int 0)) = goods.map fun l => some (sh l, .fz) := by kernel_rfl
theorem g5 (s : Sto) : goods.map (fun l => item s (sh l) (.int 1)) = goods.map fun l => some (lr l, .fz) := by kernel_rfl
theorem g6 (s : Sto) : goods.map (fun l => cmpop .ne s (lr l) (lr l)) = goods.map fun l => some false := by kernel_rfl
theorem g7 : goods.map (fun l => isMut (lr l)) = goods.map fun l => false := by kernel_rfl
theorem mem_goods {A : List (List Nat)} (hA : A ∈ subs) (p : List (List Nat) → Bool) (hp : p A = true) : (rowsOf A).filter p ∈ goods := by
  refine List.mem_filter.mpr ⟨List.mem_flatMap.mpr ⟨A, hA, filter_parts p _⟩, ?_⟩
  have : A ∈ (rowsOf A).filter p := List.mem_filter.mpr ⟨(rows_in A hA).1, hp⟩
  cases q : (rowsOf A).filter p with
  | nil => rw [q] at this; cases this
  | cons x r => rfl
end K01
end S56
section S57
set_option autoImplicit false
set_option linter.all false
set_option maxRecDepth 100000
set_option Elab.async false
set_option maxHeartbeats 4000000
/-! Q12: the fewest facts. -/
namespace K01
open RS
def known (kvs : List (D × D)) (t : T) : List (List Nat) := (nmT t).filter fun nm => (dget kvs (.str nm)).isSome
def okRow (kvs : List (D × D)) (t : T) (r : List (List Nat)) : Bool := decide (hold (res kvs r) t = hold kvs t)
/-- more rows by each name -/
theorem rowsF_len : ∀ (names : List (List Nat)) (rows : List (List (List Nat))), (rowsF names rows).length = rows.length * 2 ^ names.length
  | [], rows => by simp [rowsF]
  | x :: r, rows => by
    show (rowsF r (rows ++ rows.map fun q => q ++ [x])).length = _
    rw [rowsF_len r, List.length_append, List.length_map, List.length_cons, Nat.pow_succ]
    rw [← Nat.mul_two, Nat.mul_assoc, Nat.mul_comm 2]
def lfBody : List IS := match f_least_facts.body with | [_, _, _, _, _, .for_ _ _ b, _, _] => b | _ => []
theorem lf_loop (n : Nat) (s : Sto) (tr F nd wh : D) (o6 o7 : Option (D × Bool)) (chk : Sto → Bool) (hc : chk s = true) : ∀ (names : List (List Nat)) (rows : List (List (List Nat))) (o5 : Option (D × Bool)) (P : Fl × Env → Sto → Prop), (rows.length * 2 ^ names.length ≤ 100) → (∀ r ∈ rows, r.length + names.length ≤ 100) →
    (∀ o5, P (.nx, [some (tr, false), some (F, false), some (nd, false), some (wh, false), some (.lst ((rowsF names rows).map rD), true), o5, o6, o7]) s) →
    Ok (forTurns chk (fun x ρ s => bindTg s ρ x (.nm 5)) (fun ρ s => execs prg (go prg n) lfBody ρ s) (names.map .str) [some (tr, false), some (F, false), some (nd, false), some (wh, false), some (.lst (rows.map rD), true), o5, o6, o7] s) P
  | [], rows, o5, P, h1, h2, hP => w.for0 hc (hP _)
  | x :: names, rows, o5, P, h1, h2, hP => by
    have hp : 1 ≤ 2 ^ names.length := Nat.one_le_pow _ _ (by decide)
    rw [List.length_cons, Nat.pow_succ] at h1
    have hr : rows.length ≤ 100 := Nat.le_trans (Nat.le_mul_of_pos_right _ (by omega)) h1
    refine w.forc hc rfl ?_
    dsimp only [lfBody, f_least_facts]
    repeat infer_instance
    refine (lc_map (f := fun r => match r with | .tup q => .tup (q ++ [.str x]) | d => d) rfl (rows.map rD) [] (fun r hr => ?_) (by simp; unfold line; omega)).mono ?_
    · obtain ⟨q, hq, rfl⟩ := List.mem_map.mp hr
      have hql := h2 q hq
      simp only [List.length_cons] at hql
      refine w.lcT0 rfl ?_
      repeat infer_instance
      refine w.ofO (w.catT (by rw [List.length_map]; simp; unfold line; omega)) ?_
      repeat infer_instance
      rfl
    · rintro ds s' ⟨rfl, rfl⟩
      have e : [] ++ ((rows.map rD).map fun r => match r with | .tup q => .tup (q ++ [.str x]) | d => d) = (rows.map fun q => q ++ [x]).map rD := by
        rw [List.nil_append, List.map_map, List.map_map]
        refine List.map_congr_left fun q _ => ?_
        show D.tup (q.map D.str ++ [.str x]) = D.tup ((q ++ [x]).map .str)
        rw [List.map_append]
        rfl
      rw [e]
      refine ⟨_, rfl, by simp, by simp only [List.length_map]; unfold line; omega, ?_⟩
      repeat infer_instance
      rw [← List.map_append]
      refine lf_loop n s' tr F nd wh o6 o7 chk hc names (rows ++ rows.map fun q => q ++ [x]) _ P ?_ ?_ ?_
      · rw [List.length_append, List.length_map, ← Nat.mul_two, Nat.mul_assoc, Nat.mul_comm 2]
        exact h1
      · intro r hr
        rcases List.mem_append.mp hr with hr | hr
        · have := h2 r hr; simp only [List.length_cons] at this; omega
        · obtain ⟨q, hq, rfl⟩ := List.mem_map.mp hr
          have := h2 q hq; simp only [List.length_cons, List.length_append, List.length_nil] at this ⊢; omega
      · exact hP
theorem lc_fm {chk : Sto → Bool} {turn : D → Sto → R (Option D)} {α : Type} {e f : α → D} {p : α → Bool} {s : Sto} (hc : chk s = true) : ∀ (xs : List α) (acc : List D), (∀ x ∈ xs, Ok (turn (e x) s) fun o s' => o = (if p x = true then some (f x) else none) ∧ s' = s) → acc.length + xs.length ≤ line → Ok (lcTurns chk turn (xs.map e) acc s) fun ds s' => ds = acc ++ (xs.filter p).map f ∧ s' = s
  | [], acc, _, _ => w.lc0 hc ⟨by simp, rfl⟩
  | x :: xs, acc, ht, hl => by
    rw [List.map_cons]
    refine w.lcc hc ((ht x List.mem_cons_self).mono fun o s' ⟨e0, e2⟩ => ?_)
    subst e2
    simp only [List.length_cons] at hl
    cases h : p x with
    | true =>
      rw [h] at e0
      refine .inl ⟨f x, e0, by omega, ?_⟩
      refine (lc_fm hc xs (acc ++ [f x]) (fun y hy => ht y (List.mem_cons_of_mem _ hy)) (by simp; omega)).mono fun ds s2 ⟨e2, h1⟩ => ⟨?_, h1⟩
      rw [e2, List.filter_cons, h]
      simp
    | false =>
      rw [h] at e0
      refine .inr ⟨e0, ?_⟩
      refine (lc_fm hc xs acc (fun y hy => ht y (List.mem_cons_of_mem _ hy)) (by omega)).mono fun ds s2 ⟨e2, h1⟩ => ⟨?_, h1⟩
      rw [e2, List.filter_cons, h]
      rfl
theorem eq_oD {s : Sto} {x y : Option Bool} : cmpop .eq s (oD x) (oD y) = some (decide (x = y)) := by
  rcases x with _ | _ | _ <;> rcases y with _ | _ | _ <;> rfl
theorem okRow_self {kvs : List (D × D)} {t : T} {k : Nat} (h : Wf t k) : okRow kvs t (known kvs t) = true := by
  refine decide_eq_true (hold_no t k h fun nm hn => ?_)
  rw [dget_res]
  by_cases hk : nm ∈ known kvs t
  · rw [if_pos hk]
    have := (List.mem_filter.mp hk).2
    cases q : dget kvs (.str nm) with
    | none => rw [q] at this; cases this
    | some v => rfl
  · rw [if_neg hk]
    cases q : dget kvs (.str nm) with
    | none => rfl
    | some v => exact absurd (List.mem_filter.mpr ⟨hn, by rw [q]; rfl⟩) hk
theorem least (kvs : List (D × D)) (hF : FOk kvs) (t : T) (k n : Nat) (s : Sto) (h : Wf t k) (hn : k + 6 ≤ n) : Ok (go prg n 15 [enc t, .dct kvs] s) (Is (if hold kvs t = none then .non else lr ((rowsOf (known kvs t)).filter (okRow kvs t))) s) := by
  obtain ⟨n, rfl⟩ : ∃ m, n = m + 1 := ⟨n - 1, by omega⟩
  refine w.run (fd := f_least_facts) rfl rfl ?_
  have hsub := nmT_sub t k h
  have hkn : known kvs t ∈ subs := filter_sub _ _ hsub
  have hl := sub_len _ hsub
  have hlk := sub_len _ hkn
  dsimp only [f_least_facts]
  repeat infer_instance
  refine (names_in_tree t k n s h (by omega)).mono ?_
  rintro x s' ⟨rfl, rfl⟩
  repeat infer_instance
  refine (lc_filter (p := fun x => (dget kvs x).isSome) rfl ((nmT t).map D.str) [] (fun x hx => ?_) (by simp; unfold line; omega)).mono ?_
  · obtain ⟨z, rfl, _⟩ := mem_lst hx
    refine w.lcT1 rfl ?_
    repeat infer_instance
    cases hm : (dget kvs (.str z)).isSome with
    | true =>
      refine w.if_t rfl ?_
      repeat infer_instance
      refine .inl ⟨rfl, ?_⟩
      repeat infer_instance
      rfl
    | false =>
      refine w.if_f rfl ?_
      repeat infer_instance
      exact .inr ⟨rfl, rfl, rfl⟩
  rintro ds s ⟨rfl, rfl⟩
  have ek : [] ++ ((nmT t).map D.str).filter (fun x => (dget kvs x).isSome) = (known kvs t).map D.str := by
    rw [List.nil_append, List.filter_map]
    rfl
  rw [ek]
  repeat infer_instance
  refine (holds kvs hF t k n s h (by omega)).mono ?_
  rintro x s' ⟨rfl, rfl⟩
  repeat infer_instance
  refine w.if_f (decide_eq_false (by rw [List.length_map]; omega)) ?_
  repeat infer_instance
  cases hw : hold kvs t with
  | none =>
    repeat infer_instance
    exact ⟨rfl, rfl⟩
  | some b =>
    rw [if_neg (show ¬ (some b = none) by simp)]
    repeat infer_instance
    refine lf_loop n s' _ _ _ _ _ _ _ rfl (known kvs t) [[]] _ _ ?_ ?_ ?_
    · have : 2 ^ (known kvs t).length ≤ 2 ^ 3 := Nat.pow_le_pow_right (by decide) hlk
      simp only [List.length_cons, List.length_nil]
      omega
    · intro r hr
      rcases List.mem_cons.mp hr with rfl | hr
      · simp only [List.length_nil]; omega
      · cases hr
    intro o5
    obtain ⟨hrl, hrx⟩ := rows_len _ hkn
    have hin := (rows_in _ hkn).2
    repeat infer_instance
    refine (lc_fm (e := rD) (f := gD) (p := okRow kvs t) rfl (rowsOf (known kvs t)) [] (fun r hr => ?_) (by unfold line; simp; omega)).mono ?_
    · have hr3 := hrx r hr
      have hsome : ∀ x ∈ r, (dget kvs (.str x)).isSome = true := fun x hx => (List.mem_filter.mp (hin r hr x hx)).2
      refine w.lcT1 rfl ?_
      repeat infer_instance
      refine (dc_map (v := fun x => (dget kvs x).getD .non) rfl (r.map D.str) [] (fun x hx => ?_) (by simp; unfold line; omega)).mono ?_
      · obtain ⟨z, rfl, hz⟩ := mem_lst hx
        refine ⟨rfl, ?_⟩
        refine w.dcT1 rfl (w.ts0 (.inl ⟨rfl, ?_⟩))
        repeat infer_instance
        have := hsome z hz
        cases q : dget kvs (.str z) with
        | none => rw [q] at this; cases this
        | some v =>
          refine w.ofO (item_d q) ?_
          repeat infer_instance
          rfl
      rintro ds s ⟨rfl, rfl⟩
      repeat infer_instance
      refine (holds (res kvs r) (res_ok hF hsome) t k n s h (by omega)).mono ?_
      rintro x s' ⟨rfl, rfl⟩
      repeat infer_instance
      have ho : okRow kvs t r = decide (hold (res kvs r) t = some b) := by unfold okRow; rw [hw]
      refine w.ofO (eq_oD (x := hold (res kvs r) t) (y := some b)) ?_
      rw [← ho]
      repeat infer_instance
      cases hm : okRow kvs t r with
      | true =>
        refine w.if_t rfl ?_
        repeat infer_instance
        refine .inl ⟨rfl, ?_⟩
        repeat infer_instance
        rw [List.length_map]
        exact ⟨rfl, rfl⟩
      | false =>
        refine w.if_f rfl ?_
        repeat infer_instance
        exact .inr ⟨rfl, rfl, rfl⟩
    rintro ds s ⟨rfl, rfl⟩
    have hg := mem_goods hkn (okRow kvs t) (okRow_self h)
    repeat infer_instance
    refine w.ofO (List.map_inj_left.mp (g1 s) _ hg) ?_
    repeat infer_instance
    refine w.ofO (List.map_inj_left.mp (g3 s) _ hg) ?_
    repeat infer_instance
    exact ⟨rfl, rfl⟩
end K01
end S57
section S58
set_option autoImplicit false
set_option linter.all false
set_option maxRecDepth 100000
set_option Elab.async false
set_option maxHeartbeats 4000000
/-! Q13: the law's last part. -/
namespace K01
open RS
/-- statements that go on, by the kernel -/
def goOn (r : R (Fl × Env)) : R Unit := r.bind fun f s => match f.1 with
  | .nx => .ok () s
  | _ => .no
theorem on_ok {p : Prg} {n : Nat} {r : List IS} {ρ : Env} {s s' : Sto} {P : Fl × Env → Sto → Prop} (h : goOn (execs p (run p n) r ρ s) = .ok () s') (k : ∀ ρ', P (.nx, ρ') s') : Ok (execs p (go p n) r ρ s) P := by
  rw [go_eq]
  cases q : execs p (run p n) r ρ s with
  | ok f t =>
    rw [q] at h
    obtain ⟨f, ρ'⟩ := f
    cases f with
    | nx =>
      cases h
      exact ⟨_, _, rfl, k _⟩
    | rt d kd => cases h
    | bk => cases h
    | ct => cases h
  | err c t => rw [q] at h; cases h
  | no => rw [q] at h; cases h
/-- statements that go on and leave the names as they are -/
theorem same_ok {p : Prg} {n : Nat} {a : IS} {r : List IS} {ρ : Env} {s : Sto} {P : Fl × Env → Sto → Prop} (h : exec p (run p n) a ρ s = .ok (.nx, ρ) s) (k : Ok (execs p (go p n) r ρ s) P) : Ok (execs p (go p n) (a :: r) ρ s) P := by
  refine w.xsc ?_
  rw [go_eq]
  exact ⟨_, _, h, by rw [← go_eq]; exact k⟩
def LB : List IS := match f_law.body with | .for_ _ _ b :: _ => b | _ => []
def st (i : Nat) : IS := LB.getD i .pass
def v7 : List D := [.int 0, .int 5, .int (-1), .str [120], .str [53], .bl true, .bl false]
def p7 : List (D × D) := v7.flatMap fun a => v7.map fun b => (a, b)
theorem mem_p7 {a b : D} (h1 : a ∈ v7) (h2 : b ∈ v7) : (a, b) ∈ p7 := List.mem_flatMap.mpr ⟨a, h1, List.mem_map.mpr ⟨b, h2, rfl⟩⟩
def signs : List Nat := [97, 95, 45, 48, 120, 57, 32]
def words3 : List (List Nat) := [] :: (signs.map (fun a => [a]) ++ (signs.flatMap fun a => signs.map fun b => [a, b]) ++ signs.flatMap fun a => signs.flatMap fun b => signs.map fun c => [a, b, c])
theorem mem_words3 : ∀ (vs : List Nat), vs.length ≤ 3 → (∀ v ∈ vs, v ∈ signs) → vs ∈ words3
  | [], _, _ => List.mem_cons_self
  | [a], _, h => List.mem_cons_of_mem _ (List.mem_append_left _ (List.mem_append_left _ (List.mem_map.mpr ⟨a, h a (by simp), rfl⟩)))
  | [a, b], _, h => List.mem_cons_of_mem _ (List.mem_append_left _ (List.mem_append_right _ (List.mem_flatMap.mpr ⟨a, h a (by simp), List.mem_map.mpr ⟨b, h b (by simp), rfl⟩⟩)))
  | [a, b, c], _, h => List.mem_cons_of_mem _ (List.mem_append_right _ (List.mem_flatMap.mpr ⟨a, h a (by simp), List.mem_flatMap.mpr ⟨b, h b (by simp), List.mem_map.mpr ⟨c, h c (by simp), rfl⟩⟩⟩))
  | _ :: _ :: _ :: _ :: _, h, _ => by simp at h
section
variable (n : Nat) (s : Sto) (x0 x1 x2 x3 x4 x5 x6 x7 x8 x9 x10 x11 x12 x13 x14 x15 x16 x17 : Option (D × Bool))
theorem s27 : p7.map (fun q => exec prg (run prg (n + 6)) (st 27) [x0, x1, x2, x3, x4, x5, x6, x7, x8, x9, x10, some (q.1, false), some (q.2, false), x13, x14, x15, x16, x17] s) = p7.map fun q => .ok (.nx, [x0, x1, x2, x3, x4, x5, x6, x7, x8, x9, x10, some (q.1, false), some (q.2, false), x13, x14, x15, x16, x17]) s := by kernel_rfl
theorem s28 : v7.map (fun q => exec prg (run prg (n + 6)) (st 28) [x0, x1, x2, x3, x4, x5, x6, x7, x8, x9, x10, some (q, false), x12, x13, x14, x15, x16, x17] s) = v7.map fun q => .ok (.nx, [x0, x1, x2, x3, x4, x5, x6, x7, x8, x9, x10, some (q, false), x12, x13, x14, x15, x16, x17]) s := by kernel_rfl
theorem s30 : words3.map (fun q => goOn (execs prg (run prg (n + 6)) (LB.drop 30) [x0, x1, x2, x3, x4, x5, x6, x7, x8, x9, x10, x11, x12, some (.str q, false), x14, x15, x16, x17] s)) = words3.map fun q => .ok () s := by kernel_rfl
end
theorem plain (s : Sto) : run prg 56 24 [] s = .ok (.bl true, .fz) s := by kernel_rfl
end K01
end S58
section S59
set_option autoImplicit false
set_option linter.all false
set_option maxRecDepth 100000
set_option Elab.async false
set_option maxHeartbeats 4000000
/-! Q14: the law's body, from behind. -/
namespace K01
open RS
theorem lb_drop (i : Nat) (h : i < 33) : LB.drop i = st i :: LB.drop (i + 1) := by
  have hl : LB.length = 33 := by decide
  have e := List.drop_eq_getElem_cons (l := LB) (i := i) (by omega)
  rw [e]
  unfold st
  rw [List.getD_eq_getElem?_getD, List.getElem?_eq_getElem (by omega)]
  rfl
theorem stp (i j : Nat) (h : i < 33) (hj : j = i + 1) {call : Call} {ρ : Env} {s : Sto} {P : Fl × Env → Sto → Prop} (k : ∀ R, R = LB.drop j → Ok (execs prg call (st i :: R) ρ s) P) : Ok (execs prg call (LB.drop i) ρ s) P := by
  subst hj
  rw [lb_drop i h]
  exact k _ rfl
abbrev dl : D := .loc 0
theorem strs1 : ∀ (vs : List D), (∀ v ∈ vs, ∃ c ∈ signs, v = .str [c]) → ∃ w : List Nat, strsOf vs = some (w.map fun c => [c]) ∧ w.length = vs.length ∧ ∀ c ∈ w, c ∈ signs
  | [], _ => ⟨[], rfl, rfl, fun _ h => by cases h⟩
  | v :: vs, h => by
    obtain ⟨c, hc, rfl⟩ := h _ List.mem_cons_self
    obtain ⟨w, e, hl, hw⟩ := strs1 vs fun v hv => h v (List.mem_cons_of_mem _ hv)
    refine ⟨c :: w, ?_, by simp [hl], ?_⟩
    · rw [strsOf, e]; rfl
    · intro x hx
      rcases List.mem_cons.mp hx with rfl | hx
      · exact hc
      · exact hw x hx
theorem cat1 : ∀ (w : List Nat), cat [] (w.map fun c => [c]) = w
  | [] => rfl
  | [c] => rfl
  | c :: d :: w => by
    have := cat1 (d :: w)
    show [c] ++ [] ++ cat [] ((d :: w).map fun c => [c]) = _
    rw [this]; rfl
theorem sum1 : ∀ (w : List Nat), ((w.map fun c => [c]).map List.length).sum = w.length
  | [] => rfl
  | c :: w => by
    have := sum1 w
    simp only [List.map_cons, List.sum_cons, List.length_cons, List.length_nil]
    omega
theorem join1 {s : Sto} {vs : List D} (h : ∀ v ∈ vs, ∃ c ∈ signs, v = .str [c]) (hl : vs.length ≤ 3) : ∃ w ∈ words3, method .join s (.str []) [.lst vs] = some (.str w, .fz) := by
  obtain ⟨w, e, h1, h2⟩ := strs1 vs h
  refine ⟨w, mem_words3 w (by omega) h2, ?_⟩
  show (strsOf vs).bind (fun ts => if (ts.map List.length).sum + ts.length * ([] : List Nat).length ≤ line then some (D.str (cat [] ts), Kd.fz) else none) = _
  rw [e]
  show (if _ then _ else _) = _
  rw [if_pos (by rw [sum1]; simp; unfold line; omega), cat1]
theorem part4 (n : Nat) (a b e : Int) (x0 x2 x3 x4 x5 x6 x7 x8 x9 x10 x11 x12 x13 x14 x15 x16 x17 : Option (D × Bool)) (P : Fl × Env → Sto → Prop) (hP : ∀ ρ a b e, P (.nx, ρ) (dc3 a b e)) :
    Ok (execs prg (go prg (n + 6)) (LB.drop 26) [x0, some (dl, false), x2, x3, x4, x5, x6, x7, x8, x9, x10, x11, x12, x13, x14, x15, x16, x17] (dc3 a b e)) P := by
  have tail : ∀ (a b e : Int) (x11 x12 x13 : Option (D × Bool)), Ok (execs prg (go prg (n + 6)) (LB.drop 29) [x0, some (dl, false), x2, x3, x4, x5, x6, x7, x8, x9, x10, x11, x12, x13, x14, x15, x16, x17] (dc3 a b e)) P := by
    intro a b e x11 x12 x13
    refine stp 29 30 (by decide) rfl fun R hR => ?_
    refine w.xsc ?_
    dsimp only [st, LB, f_law, List.getD, List.getElem?_cons_succ, List.getElem?_cons_zero, Option.getD]
    repeat infer_instance
    refine rollK _ _ _ _ _ (by decide) (by decide) fun r a b e h0 h1 => ?_
    repeat infer_instance
    refine (w.lc_all (I := fun s => ∃ a b e, s = dc3 a b e) (V := fun d => ∃ c ∈ signs, d = .str [c]) (fun _ _ => rfl) ?_ (upto 0 r.toNat) [] _ ⟨_, _, _, rfl⟩ (by rw [upto_length]; unfold line; simp only [List.length_nil]; omega)).mono ?_
    · rintro x s ⟨a, b, e, rfl⟩
      refine w.lcT0 rfl ?_
      repeat infer_instance
      refine rollK _ _ _ _ _ (by decide) (by decide) fun r a b e h0 h1 => ?_
      repeat infer_instance
      refine w.pickS h0 h1 fun c hc => ?_
      repeat infer_instance
      exact ⟨_, rfl, ⟨c, hc, rfl⟩, _, _, _, rfl⟩
    rintro ds s ⟨vs, rfl, hl, hv, a, b, e, rfl⟩
    rw [upto_length] at hl
    obtain ⟨wd, hw, ej⟩ := join1 (s := dc3 a b e) hv (by omega)
    repeat infer_instance
    refine w.ofO ej ?_
    repeat infer_instance
    subst hR
    exact on_ok (List.map_inj_left.mp (s30 n (dc3 a b e) x0 (some (dl, false)) x2 x3 x4 x5 x6 x7 x8 x9 x10 x11 x12 x14 x15 x16 x17) wd hw) fun ρ => hP ρ a b e
  refine stp 26 27 (by decide) rfl fun R hR => ?_
  refine w.xsc ?_
  dsimp only [st, LB, f_law, List.getD, List.getElem?_cons_succ, List.getElem?_cons_zero, Option.getD]
  repeat infer_instance
  refine (w.lc_all (I := fun s => ∃ a b e, s = dc3 a b e) (V := fun d => d ∈ v7) (fun _ _ => rfl) ?_ _ [] _ ⟨_, _, _, rfl⟩ (by rw [upto_length]; unfold line; decide)).mono ?_
  · rintro x s ⟨a, b, e, rfl⟩
    refine w.lcT0 rfl ?_
    repeat infer_instance
    refine rollK _ _ _ _ _ (by decide) (by decide) fun r a b e h0 h1 => ?_
    repeat infer_instance
    refine w.pickK h0 h1 fun c hc => ?_
    repeat infer_instance
    exact ⟨_, rfl, hc, _, _, _, rfl⟩
  rintro ds s ⟨vs, rfl, hl, hv, a, b, e, rfl⟩
  rw [upto_length] at hl
  obtain ⟨c, d, rfl⟩ : ∃ c d, ds = [c, d] := by
    match ds, hl with
    | [c, d], _ => exact ⟨c, d, rfl⟩
  have hc := hv c (by simp)
  have hd := hv d (by simp)
  repeat infer_instance
  subst hR
  show Ok (execs prg (go prg (n + 6)) (LB.drop 27) [x0, some (dl, false), x2, x3, x4, x5, x6, x7, x8, x9, x10, some (c, false), some (d, false), x13, x14, x15, x16, x17] (dc3 a b e)) P
  refine stp 27 28 (by decide) rfl fun R hR => ?_
  refine same_ok (List.map_inj_left.mp (s27 n (dc3 a b e) x0 (some (dl, false)) x2 x3 x4 x5 x6 x7 x8 x9 x10 x13 x14 x15 x16 x17) (c, d) (mem_p7 hc hd)) ?_
  subst hR
  refine stp 28 29 (by decide) rfl fun R hR => ?_
  refine same_ok (List.map_inj_left.mp (s28 n (dc3 a b e) x0 (some (dl, false)) x2 x3 x4 x5 x6 x7 x8 x9 x10 (some (d, false)) x13 x14 x15 x16 x17) c hc) ?_
  subst hR
  exact tail a b e _ _ _
end K01
end S59
section S60
set_option autoImplicit false
set_option linter.all false
set_option maxRecDepth 100000
set_option Elab.async false
set_option maxHeartbeats 4000000
/-! Q15: the law's body, rows. -/
namespace K01
open RS
theorem is_in {s : Sto} {kvs : List (D × D)} {nm : List Nat} : cmpop .isin s (.str nm) (.dct kvs) = some (dget kvs (.str nm)).isSome := rfl
def lwBody : List IS := match LB.getD 18 .pass with | .for_ _ _ b => b | _ => []
theorem lw_loop (n : Nat) (s : Sto) (x0 x1 x2 x3 x4 x5 x6 x9 x10 x11 x12 x13 x14 x15 x16 x17 : Option (D × Bool)) (chk : Sto → Bool) (hc : chk s = true) : ∀ (names : List (List Nat)) (rows : List (List (List Nat))) (x8 : Option (D × Bool)) (P : Fl × Env → Sto → Prop), (rows.length * 2 ^ names.length ≤ 100) → (∀ r ∈ rows, r.length + names.length ≤ 100) →
    (∀ x8, P (.nx, [x0, x1, x2, x3, x4, x5, x6, some (.lst ((rowsF names rows).map rD), true), x8, x9, x10, x11, x12, x13, x14, x15, x16, x17]) s) →
    Ok (forTurns chk (fun x ρ s => bindTg s ρ x (.nm 8)) (fun ρ s => execs prg (go prg n) lwBody ρ s) (names.map .str) [x0, x1, x2, x3, x4, x5, x6, some (.lst (rows.map rD), true), x8, x9, x10, x11, x12, x13, x14, x15, x16, x17] s) P
  | [], rows, o5, P, h1, h2, hP => w.for0 hc (hP _)
  | x :: names, rows, o5, P, h1, h2, hP => by
    have hp : 1 ≤ 2 ^ names.length := Nat.one_le_pow _ _ (by decide)
    rw [List.length_cons, Nat.pow_succ] at h1
    have hr : rows.length ≤ 100 := Nat.le_trans (Nat.le_mul_of_pos_right _ (by omega)) h1
    refine w.forc hc rfl ?_
    dsimp only [lwBody, LB, f_law, List.getD, List.getElem?_cons_succ, List.getElem?_cons_zero, Option.getD]
    repeat infer_instance
    refine (lc_map (f := fun r => match r with | .tup q => .tup (q ++ [.str x]) | d => d) rfl (rows.map rD) [] (fun r hr => ?_) (by simp; unfold line; omega)).mono ?_
    · obtain ⟨q, hq, rfl⟩ := List.mem_map.mp hr
      have hql := h2 q hq
      simp only [List.length_cons] at hql
      refine w.lcT0 rfl ?_
      repeat infer_instance
      refine w.ofO (w.catT (by rw [List.length_map]; simp; unfold line; omega)) ?_
      repeat infer_instance
      rfl
    · rintro ds s' ⟨rfl, rfl⟩
      have e : [] ++ ((rows.map rD).map fun r => match r with | .tup q => .tup (q ++ [.str x]) | d => d) = (rows.map fun q => q ++ [x]).map rD := by
        rw [List.nil_append, List.map_map, List.map_map]
        refine List.map_congr_left fun q _ => ?_
        show D.tup (q.map D.str ++ [.str x]) = D.tup ((q ++ [x]).map .str)
        rw [List.map_append]
        rfl
      rw [e]
      refine w.ofO (w.catL (by simp only [List.length_map]; unfold line; omega)) ?_
      repeat infer_instance
      rw [← List.map_append]
      refine lw_loop n s' x0 x1 x2 x3 x4 x5 x6 x9 x10 x11 x12 x13 x14 x15 x16 x17 chk hc names (rows ++ rows.map fun q => q ++ [x]) _ P ?_ ?_ ?_
      · rw [List.length_append, List.length_map, ← Nat.mul_two, Nat.mul_assoc, Nat.mul_comm 2]
        exact h1
      · intro r hr
        rcases List.mem_append.mp hr with hr | hr
        · have := h2 r hr; simp only [List.length_cons] at this; omega
        · obtain ⟨q, hq, rfl⟩ := List.mem_map.mp hr
          have := h2 q hq; simp only [List.length_cons, List.length_append, List.length_nil] at this ⊢; omega
      · exact hP
/-- pairs of a name and its value -/
theorem pairs_map : ∀ (r : List (List Nat)) (f : D → D), pairsOf (r.map fun z => .tup [.str z, f (.str z)]) = some (r.map fun z => (.str z, f (.str z)))
  | [], _ => rfl
  | z :: r, f => by
    rw [List.map_cons, pairsOf, pairs_map r f]
    rfl
theorem dict_map {s : Sto} (kvs : List (D × D)) (r : List (List Nat)) (h : r.length ≤ 100) : builtin .dict s [.lst (r.map fun z => .tup [.str z, (dget kvs (.str z)).getD .non])] = some (.dct (res kvs r), .fr) := by
  show (pairsOf _).bind _ = _
  rw [pairs_map r fun d => (dget kvs d).getD .non]
  show (if _ then _ else _) = _
  rw [if_pos (by rw [List.length_map]; unfold line; omega), dputs_fold]
  unfold res
  rw [List.foldl_map, List.foldl_map]
theorem nn {o : Option Bool} (h : o ≠ none) : isNon (oD o) = false := by
  cases o with
  | none => exact absurd rfl h
  | some b => rfl
theorem part3a (n : Nat) (a b e : Int) (t : T) (k : Nat) (kvs : List (D × D)) (x0 x3 x4 x7 x8 x9 x10 x11 x12 x13 x14 x15 x16 x17 : Option (D × Bool)) (P : Fl × Env → Sto → Prop) (h : Wf t k) (hF : FOk kvs) (hn : k + 6 ≤ n)
    (K : ∀ x7 x8 x9, Ok (execs prg (go prg n) (LB.drop 23) [x0, some (dl, false), some (enc t, false), x3, x4, some (.dct kvs, false), some (oD (hold kvs t), false), x7, x8, x9, x10, x11, x12, x13, x14, x15, x16, x17] (dc3 a b e)) P) :
    Ok (execs prg (go prg n) (LB.drop 16) [x0, some (dl, false), some (enc t, false), x3, x4, some (.dct kvs, false), some (oD (hold kvs t), false), x7, x8, x9, x10, x11, x12, x13, x14, x15, x16, x17] (dc3 a b e)) P := by
  have hsub := nmT_sub t k h
  have hkn : known kvs t ∈ subs := filter_sub _ _ hsub
  have hl := sub_len _ hsub
  have hlk := sub_len _ hkn
  obtain ⟨hrl, hrx⟩ := rows_len _ hkn
  have hin := (rows_in _ hkn).2
  have hg := mem_goods hkn (okRow kvs t) (okRow_self h)
  refine stp 16 17 (by decide) rfl fun R hR => ?_
  refine w.xsc ?_
  dsimp only [st, LB, f_law, List.getD, List.getElem?_cons_succ, List.getElem?_cons_zero, Option.getD]
  repeat infer_instance
  subst hR
  refine stp 17 18 (by decide) rfl fun R hR => ?_
  refine w.xsc ?_
  dsimp only [st, LB, f_law, List.getD, List.getElem?_cons_succ, List.getElem?_cons_zero, Option.getD]
  repeat infer_instance
  subst hR
  refine stp 18 19 (by decide) rfl fun R hR => ?_
  refine w.xsc ?_
  dsimp only [st, LB, f_law, List.getD, List.getElem?_cons_succ, List.getElem?_cons_zero, Option.getD]
  repeat infer_instance
  refine (law_names t k n _ h (by omega)).mono ?_
  rintro x s ⟨rfl, rfl⟩
  repeat infer_instance
  refine (lc_filter (p := fun x => (dget kvs x).isSome) rfl ((nmT t).map D.str) [] (fun x hx => ?_) (by simp; unfold line; omega)).mono ?_
  · obtain ⟨z, rfl, _⟩ := mem_lst hx
    refine w.lcT1 rfl ?_
    repeat infer_instance
    cases hm : (dget kvs (.str z)).isSome with
    | true =>
      refine w.if_t rfl ?_
      repeat infer_instance
      refine .inl ⟨rfl, ?_⟩
      repeat infer_instance
      rfl
    | false =>
      refine w.if_f rfl ?_
      repeat infer_instance
      exact .inr ⟨rfl, rfl, rfl⟩
  rintro ds s ⟨rfl, rfl⟩
  have ek : [] ++ ((nmT t).map D.str).filter (fun x => (dget kvs x).isSome) = (known kvs t).map D.str := by
    rw [List.nil_append, List.filter_map]
    rfl
  rw [ek]
  repeat infer_instance
  refine lw_loop n _ x0 _ _ x3 x4 _ _ x9 x10 x11 x12 x13 x14 x15 x16 x17 _ rfl (known kvs t) [[]] _ _ ?_ ?_ ?_
  · have : 2 ^ (known kvs t).length ≤ 2 ^ 3 := Nat.pow_le_pow_right (by decide) hlk
    simp only [List.length_cons, List.length_nil]
    omega
  · intro r hr
    rcases List.mem_cons.mp hr with rfl | hr
    · simp only [List.length_nil]; omega
    · cases hr
  intro y8
  repeat infer_instance
  subst hR
  refine stp 19 20 (by decide) rfl fun R hR => ?_
  refine w.xsc ?_
  dsimp only [st, LB, f_law, List.getD, List.getElem?_cons_succ, List.getElem?_cons_zero, Option.getD]
  repeat infer_instance
  subst hR
  refine stp 20 21 (by decide) rfl fun R hR => ?_
  refine w.xsc ?_
  dsimp only [st, LB, f_law, List.getD, List.getElem?_cons_succ, List.getElem?_cons_zero, Option.getD]
  repeat infer_instance
  refine (lc_fm (e := rD) (f := gD) (p := okRow kvs t) rfl (rowsOf (known kvs t)) [] (fun r hr => ?_) (by unfold line; simp; omega)).mono ?_
  · have hr3 := hrx r hr
    have hsome : ∀ x ∈ r, (dget kvs (.str x)).isSome = true := fun x hx => (List.mem_filter.mp (hin r hr x hx)).2
    refine w.lcT1 rfl ?_
    repeat infer_instance
    refine (lc_map (f := fun x => .tup [x, (dget kvs x).getD .non]) rfl (r.map D.str) [] (fun x hx => ?_) (by simp; unfold line; omega)).mono ?_
    · obtain ⟨z, rfl, hz⟩ := mem_lst hx
      refine w.lcT0 rfl ?_
      repeat infer_instance
      have := hsome z hz
      cases q : dget kvs (.str z) with
      | none => rw [q] at this; cases this
      | some v =>
        refine w.ofO (item_d q) ?_
        repeat infer_instance
        rfl
    rintro ds s ⟨rfl, rfl⟩
    have em : [] ++ (r.map D.str).map (fun x => D.tup [x, (dget kvs x).getD .non]) = r.map fun z => .tup [.str z, (dget kvs (.str z)).getD .non] := by
      rw [List.nil_append, List.map_map]
      rfl
    rw [em]
    repeat infer_instance
    refine w.ofO (dict_map kvs r (by omega)) ?_
    repeat infer_instance
    refine (law_holds (res kvs r) (res_ok hF hsome) t k n _ h (by omega)).mono ?_
    rintro x s' ⟨rfl, rfl⟩
    repeat infer_instance
    refine w.ofO (eq_oD (x := hold (res kvs r) t) (y := hold kvs t)) ?_
    have ho : okRow kvs t r = decide (hold (res kvs r) t = hold kvs t) := rfl
    rw [← ho]
    repeat infer_instance
    cases hm : okRow kvs t r with
    | true =>
      refine w.if_t rfl ?_
      repeat infer_instance
      refine .inl ⟨rfl, ?_⟩
      repeat infer_instance
      rw [List.length_map]
      exact ⟨rfl, rfl⟩
    | false =>
      refine w.if_f rfl ?_
      repeat infer_instance
      exact .inr ⟨rfl, rfl, rfl⟩
  rintro ds s ⟨rfl, rfl⟩
  repeat infer_instance
  refine w.ofO (List.map_inj_left.mp (g2 _) _ hg) ?_
  repeat infer_instance
  subst hR
  refine stp 21 22 (by decide) rfl fun R hR => ?_
  refine w.xsc ?_
  dsimp only [st, LB, f_law, List.getD, List.getElem?_cons_succ, List.getElem?_cons_zero, Option.getD]
  repeat infer_instance
  subst hR
  refine stp 22 23 (by decide) rfl fun R hR => ?_
  refine w.xsc ?_
  dsimp only [st, LB, f_law, List.getD, List.getElem?_cons_succ, List.getElem?_cons_zero, Option.getD]
  repeat infer_instance
  refine (least kvs hF t k n _ h hn).mono ?_
  rintro x s ⟨rfl, rfl⟩
  repeat infer_instance
  by_cases hw : hold kvs t = none
  · rw [if_pos hw]
    refine w.if_t (by rw [hw]; rfl) ?_
    repeat infer_instance
    subst hR
    exact K _ _ _
  · rw [if_neg hw]
    refine w.if_f (nn hw) ?_
    repeat infer_instance
    refine w.ofO (List.map_inj_left.mp (g4 _) _ hg) ?_
    repeat infer_instance
    refine w.ofO (List.map_inj_left.mp (g5 _) _ hg) ?_
    repeat infer_instance
    refine w.ofO (List.map_inj_left.mp (g6 _) _ hg) ?_
    repeat infer_instance
    subst hR
    exact K _ _ _
end K01
end S60
section S61
set_option autoImplicit false
set_option linter.all false
set_option maxRecDepth 100000
set_option Elab.async false
set_option maxHeartbeats 4000000
/-! Q16: the law's body, more facts. -/
namespace K01
open RS
theorem dget_dputs (b : List Nat) : ∀ (ps acc : List (D × D)), (∀ q ∈ ps, ∃ z, q.1 = .str z) → (dget (dputs acc ps) (.str b) = dget acc (.str b) ∧ ∀ q ∈ ps, q.1 ≠ .str b) ∨ ∃ v, (.str b, v) ∈ ps ∧ dget (dputs acc ps) (.str b) = some v
  | [], acc, _ => .inl ⟨rfl, fun _ h => by cases h⟩
  | (k, v) :: r, acc, h => by
    obtain ⟨z, rfl⟩ : ∃ z, k = .str z := h _ List.mem_cons_self
    rw [dputs]
    rcases dget_dputs b r (dput acc (.str z) v) (fun q hq => h q (List.mem_cons_of_mem _ hq)) with ⟨e, hn⟩ | ⟨w, hw, e⟩
    · rw [dget_dput] at e
      by_cases hz : z = b
      · subst hz
        rw [if_pos rfl] at e
        exact .inr ⟨v, List.mem_cons_self, e⟩
      · rw [if_neg hz] at e
        refine .inl ⟨e, fun q hq => ?_⟩
        rcases List.mem_cons.mp hq with rfl | hq
        · intro e2; exact hz (by simpa using e2)
        · exact hn q hq
    · exact .inr ⟨w, List.mem_cons_of_mem _ hw, e⟩
theorem pairs_all : ∀ (ps : List (D × D)), (∀ q ∈ ps, isKey q.1 = true) → pairsOf (ps.map fun q => .tup [q.1, q.2]) = some ps
  | [], _ => rfl
  | (k, v) :: r, h => by
    rw [List.map_cons, pairsOf, pairs_all r fun q hq => h q (List.mem_cons_of_mem _ hq)]
    show (if isKey k = true then some (k, v) else none).bind _ = _
    rw [if_pos (h _ List.mem_cons_self)]
    rfl
theorem dict_all {s : Sto} (ps : List (D × D)) (hk : ∀ q ∈ ps, isKey q.1 = true) (h : ps.length ≤ 100) : builtin .dict s [.lst (ps.map fun q => .tup [q.1, q.2])] = some (.dct (dputs [] ps), .fr) := by
  show (pairsOf _).bind _ = _
  rw [pairs_all ps hk]
  show (if _ then _ else _) = _
  rw [if_pos (by unfold line; omega)]
theorem lc_prs {chk : Sto → Bool} {turn : D → Sto → R (Option D)} {I : Sto → Prop} {V : D → D → Prop} {N : D → Prop} (hc : ∀ s, I s → chk s = true) : ∀ (xs acc : List D) (s : Sto), I s → (∀ x ∈ xs, ∀ s, I s → Ok (turn x s) fun o s' => ((∃ v, o = some (.tup [x, v]) ∧ V x v) ∨ (o = none ∧ N x)) ∧ I s') → acc.length + xs.length ≤ line →
    Ok (lcTurns chk turn xs acc s) fun ds s' => ∃ ps : List (D × D), ds = acc ++ (ps.map fun q => .tup [q.1, q.2]) ∧ ps.length ≤ xs.length ∧ (∀ x ∈ xs, (∃ v, (x, v) ∈ ps) ∨ N x) ∧ (∀ q ∈ ps, q.1 ∈ xs ∧ V q.1 q.2) ∧ I s'
  | [], acc, s, hI, _, _ => w.lc0 (hc s hI) ⟨[], by simp, Nat.le_refl _, (fun _ h => by cases h), (fun _ h => by cases h), hI⟩
  | x :: xs, acc, s, hI, ht, hl => by
    refine w.lcc (hc s hI) ((ht x List.mem_cons_self s hI).mono fun o s' ⟨hh, hI'⟩ => ?_)
    rcases hh with ⟨v, e, hV⟩ | ⟨e, hN⟩
    · refine .inl ⟨_, e, by simp at hl; omega, ?_⟩
      refine (lc_prs hc xs (acc ++ [.tup [x, v]]) s' hI' (fun x hx => ht x (List.mem_cons_of_mem _ hx)) (by simp at hl ⊢; omega)).mono ?_
      rintro ds s2 ⟨ps, e2, h0, h1, h2, h3⟩
      refine ⟨(x, v) :: ps, by rw [e2]; simp, by simp; omega, ?_, ?_, h3⟩
      · intro y hy
        rcases List.mem_cons.mp hy with rfl | hy
        · exact .inl ⟨v, List.mem_cons_self⟩
        · rcases h1 y hy with ⟨w, hw⟩ | h
          · exact .inl ⟨w, List.mem_cons_of_mem _ hw⟩
          · exact .inr h
      · intro q hq
        rcases List.mem_cons.mp hq with rfl | hq
        · exact ⟨List.mem_cons_self, hV⟩
        · exact ⟨List.mem_cons_of_mem _ (h2 q hq).1, (h2 q hq).2⟩
    · refine .inr ⟨e, ?_⟩
      refine (lc_prs hc xs acc s' hI' (fun x hx => ht x (List.mem_cons_of_mem _ hx)) (by simp at hl ⊢; omega)).mono fun ds s2 ⟨ps, e2, h0, h1, h2, h3⟩ => ⟨ps, e2, by simp; omega, ?_, ?_, h3⟩
      · intro y hy
        rcases List.mem_cons.mp hy with rfl | hy
        · exact .inr hN
        · exact h1 y hy
      · intro q hq
        exact ⟨List.mem_cons_of_mem _ (h2 q hq).1, (h2 q hq).2⟩
theorem fok_ps (ps : List (D × D)) (h : ∀ q ∈ ps, q.1 ∈ nms.map D.str ∧ q.2 ∈ fvals) : FOk (dputs [] ps) := fun nm _ => by
  rcases dget_dputs nm ps [] (fun q hq => let ⟨z, e, _⟩ := mem_lst (h q hq).1; ⟨z, e⟩) with ⟨e, _⟩ | ⟨v, hv, e⟩
  · exact .inl e
  · exact .inr ⟨v, (h _ hv).2, e⟩
def v4 : List D := [.int 0, .int 7, .str [121], .bl true]
theorem v4_f : ∀ d ∈ v4, d ∈ fvals ∧ isMut d = false := by
  intro d hd
  simp only [v4, List.mem_cons, List.not_mem_nil, or_false] at hd
  rcases hd with rfl | rfl | rfl | rfl <;> exact ⟨by simp [fvals], rfl⟩
theorem get_m {s : Sto} {kvs : List (D × D)} {z : List Nat} {d : D} (h : isMut d = false) : method .get s (.dct kvs) [.str z, d] = some ((dget kvs (.str z)).getD d, .fz) := by
  show (if (true && !isMut d) = true then _ else _) = _
  rw [h]
  rfl
theorem ne_oD {s : Sto} {x : Option Bool} : cmpop .ne s (oD x) (oD x) = some false := by
  rcases x with _ | _ | _ <;> rfl
theorem part3b (n : Nat) (a b e : Int) (t : T) (k : Nat) (kvs : List (D × D)) (x0 x3 x4 x7 x8 x9 x10 x11 x12 x13 x14 x15 x16 x17 : Option (D × Bool)) (P : Fl × Env → Sto → Prop) (h : Wf t k) (hF : FOk kvs) (hn : k + 4 ≤ n + 6) (hP : ∀ ρ a b e, P (.nx, ρ) (dc3 a b e)) :
    Ok (execs prg (go prg (n + 6)) (LB.drop 23) [x0, some (dl, false), some (enc t, false), x3, x4, some (.dct kvs, false), some (oD (hold kvs t), false), x7, x8, x9, x10, x11, x12, x13, x14, x15, x16, x17] (dc3 a b e)) P := by
  refine stp 23 24 (by decide) rfl fun R hR => ?_
  refine w.xsc ?_
  dsimp only [st, LB, f_law, List.getD, List.getElem?_cons_succ, List.getElem?_cons_zero, Option.getD]
  repeat infer_instance
  refine (lc_prs (I := fun s => ∃ a b e, s = dc3 a b e) (V := fun x v => v ∈ fvals ∧ (dget kvs x = none ∨ dget kvs x = some v)) (N := fun _ => False) (fun _ _ => rfl) (nms.map .str) [] _ ⟨_, _, _, rfl⟩ (fun x hx s ⟨a, b, e, hs⟩ => ?_) (by simp [nms]; unfold line; omega)).mono ?_
  · subst hs
    obtain ⟨z, rfl, hz⟩ := mem_lst hx
    refine w.lcT0 rfl ?_
    repeat infer_instance
    refine rollK _ _ _ _ _ (by decide) (by decide) fun r a b e h0 h1 => ?_
    repeat infer_instance
    refine w.pickK h0 h1 fun c hc => ?_
    repeat infer_instance
    have hv := v4_f c hc
    refine w.ofO (get_m hv.2) ?_
    repeat infer_instance
    refine ⟨.inl ⟨_, rfl, ?_⟩, _, _, _, rfl⟩
    rcases hF z hz with e | ⟨v, hm, e⟩
    · rw [e]; exact ⟨hv.1, .inl rfl⟩
    · rw [e]; exact ⟨hm, .inr rfl⟩
  rintro ds s ⟨ps, rfl, hl, hall, hps, a, b, e, rfl⟩
  repeat infer_instance
  have hkey : ∀ q ∈ ps, isKey q.1 = true := fun q hq => by
    obtain ⟨z, e, _⟩ := mem_lst (hps q hq).1
    rw [e]; rfl
  refine w.ofO (dict_all ps hkey (by simp [nms] at hl; omega)) ?_
  repeat infer_instance
  subst hR
  refine stp 24 25 (by decide) rfl fun R hR => ?_
  refine w.xsc ?_
  dsimp only [st, LB, f_law, List.getD, List.getElem?_cons_succ, List.getElem?_cons_zero, Option.getD]
  repeat infer_instance
  subst hR
  have hF' : FOk (dputs [] ps) := fok_ps ps fun q hq => ⟨(hps q hq).1, (hps q hq).2.1⟩
  have hle := hold_le (kvs := kvs) (kvs' := dputs [] ps) (fun nm hn => by
    rcases dget_dputs nm ps [] (fun q hq => let ⟨z, e, _⟩ := mem_lst (hps q hq).1; ⟨z, e⟩) with ⟨_, hno⟩ | ⟨v, hv, e⟩
    · rcases hall (.str nm) (List.mem_map.mpr ⟨nm, hn, rfl⟩) with ⟨v, hv⟩ | hf
      · exact absurd rfl (hno _ hv)
      · exact hf.elim
    · rw [e]; exact (hps _ hv).2.2) t k h
  refine stp 25 26 (by decide) rfl fun R hR => ?_
  refine w.xsc ?_
  dsimp only [st, LB, f_law, List.getD, List.getElem?_cons_succ, List.getElem?_cons_zero, Option.getD]
  repeat infer_instance
  by_cases hw : hold kvs t = none
  · refine w.if_f (by rw [hw]; rfl) ?_
    repeat infer_instance
    subst hR
    exact part4 n a b e _ _ _ _ _ _ _ _ _ _ _ _ _ _ _ _ _ P hP
  · have he : hold (dputs [] ps) t = hold kvs t := by
      rcases hle with h | h
      · exact absurd h hw
      · exact h.symm
    refine w.if_t (by show (!isNon (oD (hold kvs t))) = true; rw [nn hw]; rfl) ?_
    repeat infer_instance
    refine (holds _ hF' t k _ _ h hn).mono ?_
    rintro x s' ⟨rfl, rfl⟩
    repeat infer_instance
    rw [he]
    refine w.ofO ne_oD ?_
    repeat infer_instance
    subst hR
    exact part4 n a b e _ _ _ _ _ _ _ _ _ _ _ _ _ _ _ _ _ P hP
end K01
end S61
section S62
set_option autoImplicit false
set_option linter.all false
set_option maxRecDepth 100000
set_option Elab.async false
set_option maxHeartbeats 4000000
/-! Q17: the law's body, facts. -/
namespace K01
open RS
theorem e_nil (s : Sto) : subs.map (fun A => cmpop .eq s (.lst (A.map .str)) (.lst [])) = subs.map fun A => some A.isEmpty := by kernel_rfl
def v6 : List D := [.int 0, .int 5, .int 6, .str [120], .bl true, .bl false]
theorem v6_f : ∀ d ∈ v6, d ∈ fvals := by
  intro d hd
  simp only [v6, List.mem_cons, List.not_mem_nil, or_false] at hd
  rcases hd with rfl | rfl | rfl | rfl | rfl | rfl <;> simp [fvals]
theorem part2 (n : Nat) (a b e : Int) (t : T) (k : Nat) (x0 x3 x4 x5 x6 x7 x8 x9 x10 x11 x12 x13 x14 x15 x16 x17 : Option (D × Bool)) (P : Fl × Env → Sto → Prop) (h : Wf t k) (hn : k ≤ n) (hP : ∀ ρ a b e, P (.nx, ρ) (dc3 a b e)) :
    Ok (execs prg (go prg (n + 6)) (LB.drop 9) [x0, some (dl, false), some (enc t, false), x3, x4, x5, x6, x7, x8, x9, x10, x11, x12, x13, x14, x15, x16, x17] (dc3 a b e)) P := by
  have hsub := nmT_sub t k h
  have hl := sub_len _ hsub
  refine stp 9 10 (by decide) rfl fun R hR => ?_
  refine w.xsc ?_
  dsimp only [st, LB, f_law, List.getD, List.getElem?_cons_succ, List.getElem?_cons_zero, Option.getD]
  repeat infer_instance
  refine (lc_prs (I := fun s => ∃ a b e, s = dc3 a b e) (V := fun x v => v ∈ fvals) (N := fun _ => True) (fun _ _ => rfl) (nms.map .str) [] _ ⟨_, _, _, rfl⟩ (fun x hx s ⟨a, b, e, hs⟩ => ?_) (by simp [nms]; unfold line; omega)).mono ?_
  · subst hs
    obtain ⟨z, rfl, hz⟩ := mem_lst hx
    refine w.lcT1 rfl ?_
    repeat infer_instance
    refine rollK _ _ _ _ _ (by decide) (by decide) fun r a b e h0 h1 => ?_
    repeat infer_instance
    cases hm : decide ((0 : Int) < r) with
    | false =>
      refine w.if_f rfl ?_
      repeat infer_instance
      exact .inr ⟨rfl, .inr ⟨rfl, trivial⟩, _, _, _, rfl⟩
    | true =>
      refine w.if_t rfl ?_
      repeat infer_instance
      refine .inl ⟨rfl, ?_⟩
      repeat infer_instance
      refine rollK _ _ _ _ _ (by decide) (by decide) fun r a b e h0 h1 => ?_
      repeat infer_instance
      refine w.pickK h0 h1 fun c hc => ?_
      repeat infer_instance
      exact ⟨.inl ⟨_, rfl, v6_f c hc⟩, _, _, _, rfl⟩
  rintro ds s ⟨ps, rfl, hl, hall, hps, a, b, e, rfl⟩
  repeat infer_instance
  have hkey : ∀ q ∈ ps, isKey q.1 = true := fun q hq => by
    obtain ⟨z, e, _⟩ := mem_lst (hps q hq).1
    rw [e]; rfl
  refine w.ofO (dict_all ps hkey (by simp [nms] at hl; omega)) ?_
  repeat infer_instance
  have hF : FOk (dputs [] ps) := fok_ps ps hps
  generalize dputs [] ps = kvs at *
  subst hR
  refine stp 10 11 (by decide) rfl fun R hR => ?_
  refine w.xsc ?_
  dsimp only [st, LB, f_law, List.getD, List.getElem?_cons_succ, List.getElem?_cons_zero, Option.getD]
  repeat infer_instance
  subst hR
  refine stp 11 12 (by decide) rfl fun R hR => ?_
  refine w.xsc ?_
  dsimp only [st, LB, f_law, List.getD, List.getElem?_cons_succ, List.getElem?_cons_zero, Option.getD]
  repeat infer_instance
  refine (law_holds kvs hF t k _ _ h (by omega)).mono ?_
  rintro x s' ⟨rfl, rfl⟩
  repeat infer_instance
  subst hR
  refine stp 12 13 (by decide) rfl fun R hR => ?_
  refine w.xsc ?_
  dsimp only [st, LB, f_law, List.getD, List.getElem?_cons_succ, List.getElem?_cons_zero, Option.getD]
  repeat infer_instance
  subst hR
  refine stp 13 14 (by decide) rfl fun R hR => ?_
  refine w.xsc ?_
  dsimp only [st, LB, f_law, List.getD, List.getElem?_cons_succ, List.getElem?_cons_zero, Option.getD]
  repeat infer_instance
  refine (holds kvs hF t k _ _ h (by omega)).mono ?_
  rintro x s' ⟨rfl, rfl⟩
  repeat infer_instance
  refine w.ofO ne_oD ?_
  repeat infer_instance
  subst hR
  refine stp 14 15 (by decide) rfl fun R hR => ?_
  refine w.xsc ?_
  dsimp only [st, LB, f_law, List.getD, List.getElem?_cons_succ, List.getElem?_cons_zero, Option.getD]
  repeat infer_instance
  subst hR
  have K : ∀ (x8 : Option (D × Bool)), Ok (execs prg (go prg (n + 6)) (LB.drop 16) [x0, some (dl, false), some (enc t, false), x3, x4, some (.dct kvs, false), some (oD (hold kvs t), false), x7, x8, x9, x10, x11, x12, x13, x14, x15, x16, x17] (dc3 a b e)) P := fun x8 =>
    part3a (n + 6) a b e t k kvs _ _ _ _ _ _ _ _ _ _ _ _ _ _ P h hF (by omega) fun x7 x8 x9 => part3b n a b e t k kvs _ _ _ _ _ _ _ _ _ _ _ _ _ _ P h hF (by omega) hP
  refine stp 15 16 (by decide) rfl fun R hR => ?_
  refine w.xsc ?_
  dsimp only [st, LB, f_law, List.getD, List.getElem?_cons_succ, List.getElem?_cons_zero, Option.getD]
  repeat infer_instance
  by_cases hw : hold kvs t = none
  · refine w.if_t (by rw [hw]; rfl) ?_
    repeat infer_instance
    refine (law_names t k _ _ h (by omega)).mono ?_
    rintro x s' ⟨rfl, rfl⟩
    repeat infer_instance
    refine (lc_filter (p := fun x => !(dget kvs x).isSome) rfl ((nmT t).map D.str) [] (fun x hx => ?_) (by simp; unfold line; omega)).mono ?_
    · obtain ⟨z, rfl, _⟩ := mem_lst hx
      refine w.lcT1 rfl ?_
      repeat infer_instance
      cases hm : (dget kvs (.str z)).isSome with
      | false =>
        refine w.if_t rfl ?_
        repeat infer_instance
        refine .inl ⟨rfl, ?_⟩
        repeat infer_instance
        rfl
      | true =>
        refine w.if_f rfl ?_
        repeat infer_instance
        exact .inr ⟨rfl, rfl, rfl⟩
    rintro ds s ⟨rfl, rfl⟩
    have ek : [] ++ ((nmT t).map D.str).filter (fun x => !(dget kvs x).isSome) = ((nmT t).filter fun nm => !(dget kvs (.str nm)).isSome).map D.str := by
      rw [List.nil_append, List.filter_map]
      rfl
    rw [ek]
    repeat infer_instance
    refine w.ofO (List.map_inj_left.mp (e_nil _) _ (filter_sub (fun nm => !(dget kvs (.str nm)).isSome) _ hsub)) ?_
    repeat infer_instance
    have hne : ((nmT t).filter fun nm => !(dget kvs (.str nm)).isSome).isEmpty = false := by
      cases q : (nmT t).filter fun nm => !(dget kvs (.str nm)).isSome with
      | cons _ _ => rfl
      | nil =>
        exact absurd hw (hold_all t k h fun nm hnm => by
          have := List.filter_eq_nil_iff.mp q nm hnm
          cases q2 : (dget kvs (.str nm)).isSome with
          | true => rfl
          | false => rw [q2] at this; exact absurd rfl this)
    rw [hne]
    repeat infer_instance
    subst hR
    exact K _
  · refine w.if_f (nn hw) ?_
    repeat infer_instance
    subst hR
    exact K _
end K01
end S62
section S63
set_option autoImplicit false
set_option linter.all false
set_option maxRecDepth 100000
set_option Elab.async false
set_option maxHeartbeats 4000000
/-! Q18: the law's body, texts; the law. -/
namespace K01
open RS
theorem l_ne (s : Sto) : subs.map (fun A => cmpop .ne s (.lst (A.map .str)) (.lst (A.map .str))) = subs.map fun A => some false := by kernel_rfl
theorem iv_plain : ∀ {vs : List D}, (∀ v ∈ vs, v ∈ ivals) → plainA vs = true ∧ depA vs ≤ 0
  | [], _ => ⟨rfl, Nat.le_refl _⟩
  | v :: vs, h => by
    have ih := iv_plain (vs := vs) fun v hv => h v (List.mem_cons_of_mem _ hv)
    have hv := h v List.mem_cons_self
    simp only [ivals, List.mem_cons, List.not_mem_nil, or_false] at hv
    rw [plainA, depA, ih.1]
    rcases hv with rfl | rfl | rfl <;> exact ⟨rfl, by simp only [dep]; omega⟩
theorem v_plain {v : D} (h : v ∈ vals) : plainD v = true ∧ dep v = 0 := by
  simp only [vals, List.mem_cons, List.not_mem_nil, or_false] at h
  rcases h with rfl | rfl | rfl | rfl | rfl <;> exact ⟨rfl, rfl⟩
theorem enc_plain : ∀ (t : T) (k : Nat), Wf t k → plainD (enc t) = true ∧ dep (enc t) ≤ k + 2
  | .lf d, k, h => by
    cases (h : Lf d) with
    | yes => exact ⟨rfl, by simp [enc, dep, depA]⟩
    | no => exact ⟨rfl, by simp [enc, dep, depA]⟩
    | is h => exact ⟨rfl, by simp [enc, dep, depA]⟩
    | @cm sg nm v h1 h2 h3 =>
      have := v_plain h3
      refine ⟨?_, ?_⟩
      · show (true && (true && (plainD v && true))) = true
        rw [this.1]; rfl
      · simp [enc, dep, depA, this.2]
    | @inn nm vs h1 h2 h3 h4 =>
      have := iv_plain h4
      refine ⟨?_, ?_⟩
      · show (true && (true && (plainA vs && true))) = true
        rw [this.1]; rfl
      · simp only [enc, dep, depA]; omega
  | .no a, k, ⟨j, e, h⟩ => by
    have := enc_plain a j h
    refine ⟨?_, ?_⟩
    · show (true && (plainD (enc a) && true)) = true
      rw [this.1]; rfl
    · simp only [enc, dep, depA]; omega
  | .an a b, k, ⟨j, e, h, h'⟩ => by
    have h1 := enc_plain a j h
    have h2 := enc_plain b j h'
    refine ⟨?_, ?_⟩
    · show (true && (plainD (enc a) && (plainD (enc b) && true))) = true
      rw [h1.1, h2.1]; rfl
    · simp only [enc, dep, depA]; omega
  | .or a b, k, ⟨j, e, h, h'⟩ => by
    have h1 := enc_plain a j h
    have h2 := enc_plain b j h'
    refine ⟨?_, ?_⟩
    · show (true && (plainD (enc a) && (plainD (enc b) && true))) = true
      rw [h1.1, h2.1]; rfl
    · simp only [enc, dep, depA]; omega
theorem enc_view (s : Sto) : ∀ (t : T) (k : Nat), Wf t k → view s (enc t) = enc t
  | .lf d, k, h => by cases (h : Lf d) <;> rfl
  | .no a, _, _ => rfl
  | .an a b, _, _ => rfl
  | .or a b, _, _ => rfl
theorem enc_ne (s : Sto) (t : T) (k : Nat) (h : Wf t k) (hk : k ≤ 4) : cmpop .ne s (enc t) (enc t) = some false := ne_self (enc_plain t k h).1 (by have := (enc_plain t k h).2; omega) (enc_view s t k h)
theorem str_dq (s : Sto) (x : List Nat) : (!deq (view s (.str x)) (view s (.str x))) = false := by
  show (!(x == x)) = false
  rw [beq_self_eq_true]; rfl
theorem rep_ok {s : Sto} {t p q : List Nat} (hp : (p.isEmpty || p == q) = false) (hq : q.length ≤ 2) (ht : t.length ≤ 3000) : method .replace s (.str t) [.str p, .str q] = some (.str (repl p q t), .fz) := by
  show (if (p.isEmpty || p == q || decide (line < t.length + (t.length + 1) * q.length)) = true then none else some (D.str (repl p q t), Kd.fz)) = _
  have h1 : (t.length + 1) * q.length ≤ (t.length + 1) * 2 := Nat.mul_le_mul_left _ hq
  rw [hp, decide_eq_false (by unfold line; omega)]
  rfl
theorem rep1 (s : Sto) (t : T) (k : Nat) (h : Wf t k) (hl : (tx σ0 t 0).length ≤ 3000) : method .replace s (.str (tx σ0 t 0)) [.str [32, 60, 61, 32], .str [60, 61]] = some (.str (tx σ1 t 0), .fz) := by
  rw [rep_ok (by decide) (by decide) hl, repl, tight1 t k 0 h]
theorem rep2 (s : Sto) (t : T) (k : Nat) (h : Wf t k) (hl : (tx σ1 t 0).length ≤ 3000) : method .replace s (.str (tx σ1 t 0)) [.str [32, 61, 32], .str [61]] = some (.str (tx σ2 t 0), .fz) := by
  rw [rep_ok (by decide) (by decide) hl, repl, tight2 t k 0 h]
theorem rep3 (s : Sto) (t : T) (k : Nat) (h : Wf t k) (hl : (tx σ2 t 0).length ≤ 3000) : method .replace s (.str (tx σ2 t 0)) [.str [44, 32], .str [44]] = some (.str (tx σ3 t 0), .fz) := by
  rw [rep_ok (by decide) (by decide) hl, repl, tight3 t k 0 h]
theorem tok_plain (t : T) (k : Nat) (h : Wf t k) : tk0 (tx σ0 t 0) = tk t 0 := by
  have := tok_tx σ0 t k 0 [] h (fun _ _ e => by cases e)
  rw [List.append_nil, tk0_nil, List.append_nil] at this
  exact this
theorem tok_tight (t : T) (k : Nat) (h : Wf t k) : tk0 ([32, 32] ++ tx σ3 t 0 ++ [32]) = tk t 0 := by
  show tk0 (32 :: 32 :: (tx σ3 t 0 ++ [32])) = _
  rw [tk_sp, tk_sp, tok_tx σ3 t k 0 [32] h (delim_c rfl), tk_sp, tk0_nil, List.append_nil]
theorem tok_loose (t : T) (k : Nat) (h : Wf t k) : tk0 ([40, 40] ++ tx σ0 t 0 ++ [41, 41]) = [40] :: [40] :: (tk t 0 ++ [[41], [41]]) := by
  show tk0 (40 :: 40 :: (tx σ0 t 0 ++ [41, 41])) = _
  rw [tk_op (by decide), tk_op (by decide), tok_tx σ0 t k 0 [41, 41] h (delim_c rfl), tk_op (by decide), tk_op (by decide), tk0_nil]
theorem part1 (n : Nat) (a b e : Int) (x0 x2 x3 x4 x5 x6 x7 x8 x9 x10 x11 x12 x13 x14 x15 x16 x17 : Option (D × Bool)) (P : Fl × Env → Sto → Prop) (hn : 25 ≤ n) (hP : ∀ ρ a b e, P (.nx, ρ) (dc3 a b e)) :
    Ok (execs prg (go prg (n + 6)) LB [x0, some (dl, false), x2, x3, x4, x5, x6, x7, x8, x9, x10, x11, x12, x13, x14, x15, x16, x17] (dc3 a b e)) P := by
  show Ok (execs prg (go prg (n + 6)) (LB.drop 0) _ _) _
  refine stp 0 1 (by decide) rfl fun R hR => ?_
  refine w.xsc ?_
  dsimp only [st, LB, f_law, List.getD, List.getElem?_cons_succ, List.getElem?_cons_zero, Option.getD]
  repeat infer_instance
  refine rollK _ _ _ _ _ (by decide) (by decide) fun r a b e h0 h1 => ?_
  obtain ⟨k, rfl⟩ := Int.eq_ofNat_of_zero_le h0
  have hk : k ≤ 4 := by omega
  repeat infer_instance
  refine (tree k (n + 6) a b e (by omega)).mono ?_
  rintro x s ⟨t, a, b, e, h, rfl, rfl⟩
  repeat infer_instance
  subst hR
  have hl0 := tx_len4 σ0 t k 0 h hk
  have hl1 := tx_len4 σ1 t k 0 h hk
  have hl2 := tx_len4 σ2 t k 0 h hk
  have hl3 := tx_len4 σ3 t k 0 h hk
  have hsub := nmT_sub t k h
  refine stp 1 2 (by decide) rfl fun R hR => ?_
  refine w.xsc ?_
  dsimp only [st, LB, f_law, List.getD, List.getElem?_cons_succ, List.getElem?_cons_zero, Option.getD]
  repeat infer_instance
  subst hR
  refine stp 2 3 (by decide) rfl fun R hR => ?_
  refine w.xsc ?_
  dsimp only [st, LB, f_law, List.getD, List.getElem?_cons_succ, List.getElem?_cons_zero, Option.getD]
  repeat infer_instance
  refine (law_text t k 0 (n + 6) _ h hk (by omega)).mono ?_
  rintro x s ⟨rfl, rfl⟩
  repeat infer_instance
  subst hR
  refine stp 3 4 (by decide) rfl fun R hR => ?_
  refine w.xsc ?_
  dsimp only [st, LB, f_law, List.getD, List.getElem?_cons_succ, List.getElem?_cons_zero, Option.getD]
  repeat infer_instance
  subst hR
  refine stp 4 5 (by decide) rfl fun R hR => ?_
  refine w.xsc ?_
  dsimp only [st, LB, f_law, List.getD, List.getElem?_cons_succ, List.getElem?_cons_zero, Option.getD]
  repeat infer_instance
  refine (condition_text t k (n + 6) _ h hk (by omega)).mono ?_
  rintro x s ⟨rfl, rfl⟩
  repeat infer_instance
  refine w.if_f (str_dq _ _) ?_
  repeat infer_instance
  refine (read_tx t k h (n + 6) _ _ (by omega) (tok_plain t k h) (by omega)).mono ?_
  rintro x s ⟨rfl, rfl⟩
  repeat infer_instance
  refine w.ofO (enc_ne _ t k h hk) ?_
  repeat infer_instance
  subst hR
  refine stp 5 6 (by decide) rfl fun R hR => ?_
  refine w.xsc ?_
  dsimp only [st, LB, f_law, List.getD, List.getElem?_cons_succ, List.getElem?_cons_zero, Option.getD]
  repeat infer_instance
  subst hR
  refine stp 6 7 (by decide) rfl fun R hR => ?_
  refine w.xsc ?_
  dsimp only [st, LB, f_law, List.getD, List.getElem?_cons_succ, List.getElem?_cons_zero, Option.getD]
  repeat infer_instance
  refine (names_in_tree t k (n + 6) _ h (by omega)).mono ?_
  rintro x s ⟨rfl, rfl⟩
  repeat infer_instance
  refine (law_names t k (n + 6) _ h (by omega)).mono ?_
  rintro x s ⟨rfl, rfl⟩
  repeat infer_instance
  refine w.ofO (List.map_inj_left.mp (l_ne _) _ hsub) ?_
  repeat infer_instance
  refine (text_at t k 2 (n + 6) _ h hk (by omega)).mono ?_
  rintro x s ⟨rfl, rfl⟩
  repeat infer_instance
  refine (law_text t k 2 (n + 6) _ h hk (by omega)).mono ?_
  rintro x s ⟨rfl, rfl⟩
  repeat infer_instance
  refine w.if_f (str_dq _ _) ?_
  repeat infer_instance
  subst hR
  refine stp 7 8 (by decide) rfl fun R hR => ?_
  refine w.xsc ?_
  dsimp only [st, LB, f_law, List.getD, List.getElem?_cons_succ, List.getElem?_cons_zero, Option.getD]
  repeat infer_instance
  refine w.ofO (rep1 _ t k h hl0) ?_
  repeat infer_instance
  refine w.ofO (rep2 _ t k h hl1) ?_
  repeat infer_instance
  refine w.ofO (rep3 _ t k h hl2) ?_
  repeat infer_instance
  subst hR
  refine stp 8 9 (by decide) rfl fun R hR => ?_
  refine w.xsc ?_
  dsimp only [st, LB, f_law, List.getD, List.getElem?_cons_succ, List.getElem?_cons_zero, Option.getD]
  repeat infer_instance
  refine (read_tx t k h (n + 6) _ _ (by simp only [List.length_append, List.length_cons, List.length_nil]; omega) (tok_tight t k h) (by omega)).mono ?_
  rintro x s ⟨rfl, rfl⟩
  repeat infer_instance
  refine w.ofO (enc_ne _ t k h hk) ?_
  repeat infer_instance
  refine (read_tx2 t k h (n + 6) _ _ (by simp only [List.length_append, List.length_cons, List.length_nil]; omega) (tok_loose t k h) (by omega)).mono ?_
  rintro x s ⟨rfl, rfl⟩
  repeat infer_instance
  refine w.ofO (enc_ne _ t k h hk) ?_
  repeat infer_instance
  subst hR
  exact part2 n a b e t k _ _ _ _ _ _ _ _ _ _ _ _ _ _ _ _ P h (by omega) hP
theorem law (ns : List Int) (d : D) (hd : d = dScr ns ∨ d = dLst ns) : Ok (go prg (56 + 1) 25 [d] []) (fun x _ => x.1 = .bl true) := by
  refine w.run (fd := f_law) rfl rfl ?_
  have e : f_law.body = [.for_ (.nm 1) (.it (.call 18 [.var 0, .con (.int 1)])) LB, .ret (.call 24 [])] := rfl
  rw [e]
  refine w.xsc ?_
  repeat infer_instance
  refine (rounds 54 ns d hd).mono ?_
  rintro x s ⟨a, b, e, rfl, rfl⟩
  repeat infer_instance
  refine w.forc (ρ' := [some (d, false), some (dl, false), none, none, none, none, none, none, none, none, none, none, none, none, none, none, none, none]) rfl rfl ?_
  refine part1 50 a b e _ _ _ _ _ _ _ _ _ _ _ _ _ _ _ _ _ _ (by decide) fun ρ a b e => w.nf (w.for0 rfl ?_)
  repeat infer_instance
  rw [go_eq]
  refine ⟨_, _, plain _, ?_⟩
  repeat infer_instance
  rfl
theorem law_run (ns : List Int) (d : D) (hd : d = dScr ns ∨ d = dLst ns) : ∃ k st, RS.run prg (56 + 1) 25 [d] [] = .ok (.bl true, k) st := by
  obtain ⟨⟨x, k⟩, s, e, h⟩ := law ns d hd
  rw [go_eq] at e
  cases h
  exact ⟨k, s, e⟩
end K01
end S63
end SQ
set_option Elab.async false
set_option linter.all false
set_option maxRecDepth 100000
set_option maxHeartbeats 0
namespace K01
open RS PySem PySem.Spec PyProof.Rows L2
theorem ok : txt.ok = true := by decide +kernel
abbrev R : PySem.W.OpenRow := PySem.W.OpenLaw.row PySem.Challenge.rw_rulestack_k01_conditions_as_text
abbrev hk : PySem.W.Hook := He.hookX 5 txt.fa txt.fn [] txt.tf txt.ex
def ob (s : PySem.W.SharedT) : He.AlX := He.obsX 5 txt.fa txt.fn [] txt.tf txt.ex (HandSHeadRun.getT s)
theorem ob_eq (s : PySem.W.SharedT) : ob s = hk.obs s.abs := He.obsX_eq (HandSHeadRun.getT_eq s)
def names : List PySem.Str := ["RuleError", "ConditionError", "SIGNS", "WORDS", "words_of", "read_condition", "read_either", "read_both", "read_one", "read_in", "is_name", "value_of", "holds", "is_alike", "is_text", "compared", "names_in_tree", "condition_text", "text_at", "least_facts", "_law_dice", "_law_roll", "_law_rounds", "_law_told", "_law_tree", "_law_same", "_law_holds", "_law_text", "_law_names", "_law_plain"]
theorem run (w : World) : HandSHeadRun.RunEq R (PySem.W.view R.prog [33]) hk ob 4000 names w := by
  intro os
  kernel_rfl
end K01
set_option Elab.async false
set_option linter.all false
set_option maxRecDepth 100000
set_option maxHeartbeats 0
namespace K01
open RS PySem PySem.Spec PyProof.Rows L2
theorem plain_law (ns : List Int) (hl : ns.length ≤ 63) (hb : ∀ z ∈ ns, Builtin.Int.intBits z ≤ 1048576) (d : D) (hd : d = dScr ns ∨ d = dLst ns) : ∃ k st, RS.run txt.p (56 + 1) 25 [d] [] = .ok (.bl true, k) st := law_run ns d hd
end K01
open PySem PySem.W PySem.Calls PyProof.Rows
theorem PySem.Challenge.cw_rulestack_k01_conditions_as_text_holds : PySem.Challenge.rw_rulestack_k01_conditions_as_text.Holds := by
  w_on; o_law
  refine HandSHeadRun.head_any (r := OpenLaw.row PySem.Challenge.rw_rulestack_k01_conditions_as_text) (q := view (OpenLaw.row PySem.Challenge.rw_rulestack_k01_conditions_as_text).prog [33]) (H := K01.hk) (ob := K01.ob) (M := 4000) (loose := K01.names) (d := HandSHeadRun.topDef (OpenLaw.row PySem.Challenge.rw_rulestack_k01_conditions_as_text).prog 33) (kwd := []) K01.ob_eq
    (by kernel_rfl) (fun s => by kernel_rfl) K01.run (by kernel_rfl) (by kernel_rfl) (by kernel_rfl) (by rfl) (by first | assumption | decide +kernel) (by decide +kernel) ⟨rfl, rfl, rfl, rfl, rfl, by decide +kernel⟩ ?hw ?hc
  case hw => w_witness2
  case hc =>
    refine LamX.walk_ofTsE (l := PySem.Challenge.rw_rulestack_k01_conditions_as_text) (n := 63) (k := 228) (x := "script") (CX := fun w => L2.CX (PySem.Challenge.rw_rulestack_k01_conditions_as_text).prog w) rfl (by decide) (by kernel_rfl) ⟨rfl, by decide, by decide⟩ ?F (fun _ _ _ _ _ z => RS.cx_false z)
    intro w mg fa h Y G hmg0
    obtain ⟨K, KX, c⟩ := Y
    have hmg : mg ("law" : PySem.Str) = some (.ref fa) := by
      have e : (HandSHeadRun.topDef (OpenLaw.row PySem.Challenge.rw_rulestack_k01_conditions_as_text).prog 33).name = ("law" : PySem.Str) := by kernel_rfl
      rw [← e]
      exact hmg0
    exact ⟨K, KX, RS.Txt.lawAt (t := K01.txt) (N := 56) (f := 25) (e := K01.e_law) K01.ok K01.bds KX G c rfl rfl rfl hmg fun ns hl hb d hd => K01.plain_law ns hl hb d hd⟩
