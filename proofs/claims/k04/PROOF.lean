import PyProof.Rows.All
import Wide.All
import OpenK.AllK
import Wide.FinOn
import HandS.ForMost
import HandS.Exc
import HandS.Dict
import KE.KDictKeyed
import HandS.SortInts
import HandS.Wide
import HandS.TupAny
import HandS.Deep
import HandS.Flow
import HandS.IsInst
import HandS.SetFor
import HandS.Zip
import HandS.Walk
import KE.GoesEnum
import HandS.Comp
import HandS.Style
import HandS.Codes
import HandS.Defaults
import HandS.Words
import HandS.HeadHook2
import HandS.HeadEnd
import HandS.Head0
import HandS.Head1
import HandS.Head2
import PySem.Challenge.RW_barredhalves_k04_whole_worst_by_all_rows
set_option Elab.async false
set_option linter.all false
set_option maxRecDepth 100000
set_option maxHeartbeats 0
/-! Ev, part A: data, compact syntax, the evaluator. -/
namespace Ev
open PySem

/-- data: what a Python value is, without addresses; `loc` stands for an object that may change, `scr` for a list that is only read -/
inductive D where
  | non | bl (b : Bool) | int (i : Int) | str (x : Str)
  | tup (xs : List D) | lst (xs : List D)
  | loc (n : Nat) | fn (f : Nat) | cls (c : Nat)
  | scr (xs : List D)
  deriving Inhabited

mutual
def D.same : D → D → Bool
  | .non, .non => true
  | .bl a, .bl b => a == b
  | .int a, .int b => a == b
  | .str a, .str b => a == b
  | .tup a, .tup b => D.sameL a b
  | .lst a, .lst b => D.sameL a b
  | .loc a, .loc b => a == b
  | .fn a, .fn b => a == b
  | .cls a, .cls b => a == b
  | .scr a, .scr b => D.sameL a b
  | _, _ => false
def D.sameL : List D → List D → Bool
  | [], [] => true
  | x :: xs, y :: ys => D.same x y && D.sameL xs ys
  | _, _ => false
end

mutual
theorem D.same_eq : ∀ (a b : D), D.same a b = true ↔ a = b
  | .non, b => by cases b <;> simp [D.same]
  | .bl a, b => by cases b <;> simp [D.same]
  | .int a, b => by cases b <;> simp [D.same]
  | .str a, b => by cases b <;> simp [D.same]
  | .tup a, b => by cases b <;> simp [D.same, D.sameL_eq a]
  | .lst a, b => by cases b <;> simp [D.same, D.sameL_eq a]
  | .loc a, b => by cases b <;> simp [D.same]
  | .fn a, b => by cases b <;> simp [D.same]
  | .cls a, b => by cases b <;> simp [D.same]
  | .scr a, b => by cases b <;> simp [D.same, D.sameL_eq a]
theorem D.sameL_eq : ∀ (a b : List D), D.sameL a b = true ↔ a = b
  | [], b => by cases b <;> simp [D.sameL]
  | x :: xs, b => by cases b <;> simp [D.sameL, D.same_eq x, D.sameL_eq xs]
end
instance : DecidableEq D := fun a b => decidable_of_iff _ (D.same_eq a b)

/-- an object that may change -/
inductive MO where
  | list (xs : List D) | dict (kvs : List (D × D)) | ins (c : Nat) (fs : List (Str × D))
  deriving DecidableEq, Inhabited
abbrev Store := List MO
abbrev Slots := List (Option D)

inductive R (α : Type) where
  | ok (a : α) (S : Store)
  | ex (c : Nat) (pl : List (Str × D)) (S : Store)
  | bad
  deriving Inhabited
inductive RS where
  | nx (τ : Slots) (S : Store) | rt (d : D) (S : Store) | bk (τ : Slots) (S : Store) | ct (τ : Slots) (S : Store)
  | ex (c : Nat) (pl : List (Str × D)) (τ : Slots) (S : Store)
  | bad
  deriving Inhabited
def R.bind {α β : Type} (r : R α) (f : α → Store → R β) : R β := match r with
  | .ok a S => f a S
  | .ex c pl S => .ex c pl S
  | .bad => .bad
@[simp] theorem R.bind_ok {α β : Type} (a : α) (S : Store) (f : α → Store → R β) : (R.ok a S).bind f = f a S := rfl
@[simp] theorem R.bind_ex {α β : Type} (c pl S) (f : α → Store → R β) : (R.ex c pl S).bind f = .ex c pl S := rfl
@[simp] theorem R.bind_bad {α β : Type} (f : α → Store → R β) : (R.bad).bind f = .bad := rfl
/-- an evaluation that raises nothing -/
def noR {α : Type} : R α → R α
  | .ok a S => .ok a S
  | _ => .bad
@[simp] theorem noR_ok {α : Type} (a : α) (S : Store) : noR (R.ok a S) = .ok a S := rfl
def R.bindS {α : Type} (r : R α) (τ : Slots) (f : α → Store → RS) : RS := match r with
  | .ok a S => f a S
  | .ex c pl S => .ex c pl τ S
  | .bad => .bad
@[simp] theorem R.bindS_ok {α : Type} (a : α) (S : Store) (τ) (f : α → Store → RS) : (R.ok a S).bindS τ f = f a S := rfl
@[simp] theorem R.bindS_ex {α : Type} (c pl S τ) (f : α → Store → RS) : (R.ex c pl S).bindS τ f = .ex c pl τ S := rfl
@[simp] theorem R.bindS_bad {α : Type} (τ) (f : α → Store → RS) : (R.bad).bindS τ f = .bad := rfl

/-! ### operations on data -/
inductive BO where
  | add | sub | mul | fdiv | mod | pow
  deriving DecidableEq
inductive CO where
  | eq | ne | lt | le | gt | ge | isN | notN | mem | nmem
  deriving DecidableEq
inductive Ty where
  | int | bool | str | tup | list | own (c : Nat)
  deriving DecidableEq
inductive BI where
  | len | int | abs | bool | str | tuple | list | all | sum | max1 | min1 | max2 | min2 | sorted | divmod
  deriving DecidableEq
inductive MI where
  | append | clear | reverse
  deriving DecidableEq

def big : Nat := 16777216

/-- the items of a list or a tuple -/
def seqOf (S : Store) : D → Option (List D)
  | .lst xs => some xs
  | .scr xs => some xs
  | .tup xs => some xs
  | .loc n => match S[n]? with
    | some (.list xs) => some xs
    | _ => none
  | _ => none
/-- the items of a list -/
def lstOf (S : Store) : D → Option (List D)
  | .lst xs => some xs
  | .loc n => match S[n]? with
    | some (.list xs) => some xs
    | _ => none
  | _ => none
/-- the entries of a dict -/
def dictOf (S : Store) : D → Option (List (D × D))
  | .loc n => match S[n]? with
    | some (.dict kvs) => some kvs
    | _ => none
  | _ => none
mutual
/-- a key: whole numbers, texts, tuples of such -/
def D.key : Nat → D → Bool
  | _, .int _ => true
  | _, .str _ => true
  | n + 1, .tup xs => D.keyL n xs
  | _, _ => false
def D.keyL : Nat → List D → Bool
  | _, [] => true
  | n, x :: xs => D.key n x && D.keyL n xs
end
def keyT : D → Bool
  | .tup xs => D.keyL 7 xs
  | _ => false
def lookD (kvs : List (D × D)) (k : D) : Option D := (kvs.find? fun p => decide (p.1 = k)).map (·.2)
def storeD (kvs : List (D × D)) (k v : D) : List (D × D) := if (lookD kvs k).isSome then kvs.map (fun p => if p.1 = k then (p.1, v) else p) else kvs ++ [(k, v)]
/-- a list that may change, read as it stands -/
def rd (S : Store) : D → D
  | .loc n => match S[n]? with
    | some (.list xs) => .lst xs
    | _ => .loc n
  | d => d
mutual
/-- data of no more than so many layers, without objects that may change -/
def D.flat : Nat → D → Bool
  | _, .non => true
  | _, .bl _ => true
  | _, .int _ => true
  | _, .str _ => true
  | n + 1, .tup xs => D.flatL n xs
  | n + 1, .lst xs => D.flatL n xs
  | _, _ => false
def D.flatL : Nat → List D → Bool
  | _, [] => true
  | n, x :: xs => D.flat n x && D.flatL n xs
end
mutual
/-- Python's == of data -/
def D.eqv : D → D → Bool
  | .non, .non => true
  | .bl a, .bl b => a == b
  | .bl a, .int j => (if a then 1 else 0) == j
  | .int i, .bl b => i == (if b then 1 else 0)
  | .int a, .int b => a == b
  | .str a, .str b => a == b
  | .tup a, .tup b => D.eqvL a b
  | .lst a, .lst b => D.eqvL a b
  | _, _ => false
def D.eqvL : List D → List D → Bool
  | [], [] => true
  | x :: xs, y :: ys => D.eqv x y && D.eqvL xs ys
  | _, _ => false
end
/-- a place in a row, from behind where negative -/
def ix (n : Nat) (i : Int) : Option Nat := L2.ixN n i
def cut {α : Type} (xs : List α) (lo hi : Option Int) : List α :=
  (xs.drop (HT.sIx xs.length 0 lo)).take (HT.sIx xs.length xs.length hi - HT.sIx xs.length 0 lo)
def ins (x : Int) : List Int → List Int
  | [] => [x]
  | y :: r => if x ≤ y then x :: y :: r else y :: ins x r
def isort : List Int → List Int
  | [] => []
  | x :: r => ins x (isort r)
def maxL : List Int → Int
  | [] => 0
  | [x] => x
  | x :: r => if maxL r < x then x else maxL r
def minL : List Int → Int
  | [] => 0
  | [x] => x
  | x :: r => if x < minL r then x else minL r
def toI : D → Option Int
  | .int i => some i
  | _ => none
def toB : D → Option Bool
  | .bl b => some b
  | _ => none
def allI : List D → Option (List Int)
  | [] => some []
  | .int i :: r => (allI r).map (i :: ·)
  | _ => none
def allB : List D → Option (List Bool)
  | [] => some []
  | .bl i :: r => (allB r).map (i :: ·)
  | _ => none
def b2 (b : Bool) : Int := if b then 1 else 0
def okO {α : Type} (o : Option α) (S : Store) : R α := match o with
  | some a => .ok a S
  | none => .bad
@[simp] theorem okO_some {α : Type} (a : α) (S : Store) : okO (some a) S = .ok a S := rfl
@[simp] theorem okO_none {α : Type} (S : Store) : okO (none : Option α) S = .bad := rfl
def okIf {α : Type} (c : Bool) (a : α) (S : Store) : R α := if c then .ok a S else .bad
@[simp] theorem okIf_true {α : Type} (a : α) (S : Store) : okIf true a S = .ok a S := rfl

def truth : D → Option Bool
  | .bl b => some b
  | .int i => some (i != 0)
  | .non => some false
  | _ => none
def mulOk (i j : Int) : Bool := (decide (-(2 ^ 64) < i) && decide (i < 2 ^ 64)) || (decide (-(2 ^ 64) < j) && decide (j < 2 ^ 64)) || decide (i.natAbs.log2 + j.natAbs.log2 < 1000000)
def divOk (j : Int) : Bool := decide (0 < j) && decide (j.natAbs.log2 < 9000)

def binop (o : BO) (x y : D) (S : Store) : R D := match o, x, y with
  | .add, .int i, .int j => .ok (.int (i + j)) S
  | .sub, .int i, .int j => .ok (.int (i - j)) S
  | .mul, .int i, .int j => okIf (mulOk i j) (.int (i * j)) S
  | .fdiv, .int i, .int j => okIf (divOk j) (.int (i / j)) S
  | .mod, .int i, .int j => okIf (decide (0 < j)) (.int (i % j)) S
  | .pow, .int i, .int j => okIf (decide (0 ≤ j) && decide (j ≤ 1000000) && decide (i.natAbs < 2 ^ 64)) (.int (i ^ j.toNat)) S
  | .add, .str a, .str b => okIf (decide (a.length + b.length ≤ big)) (.str (a ++ b)) S
  | .add, .tup a, .tup b => okIf (decide (a.length + b.length ≤ big)) (.tup (a ++ b)) S
  | .add, a, b => match lstOf S a, lstOf S b with
    | some xs, some ys => okIf (decide (xs.length + ys.length ≤ big)) (.lst (xs ++ ys)) S
    | _, _ => .bad
  | _, _, _ => .bad

def cmpop (o : CO) (x y : D) (S : Store) : R D := match o with
  | .eq => okIf ((rd S x).flat 60 && (rd S y).flat 60) (.bl (D.eqv (rd S x) (rd S y))) S
  | .ne => okIf ((rd S x).flat 60 && (rd S y).flat 60) (.bl (!D.eqv (rd S x) (rd S y))) S
  | .isN => match y with
    | .non => .ok (.bl (x.same .non)) S
    | _ => .bad
  | .notN => match y with
    | .non => .ok (.bl (!x.same .non)) S
    | _ => .bad
  | .lt => match x, y with
    | .int i, .int j => .ok (.bl (decide (i < j))) S
    | _, _ => .bad
  | .le => match x, y with
    | .int i, .int j => .ok (.bl (decide (i ≤ j))) S
    | _, _ => .bad
  | .gt => match x, y with
    | .int i, .int j => .ok (.bl (decide (j < i))) S
    | _, _ => .bad
  | .ge => match x, y with
    | .int i, .int j => .ok (.bl (decide (j ≤ i))) S
    | _, _ => .bad
  | .mem => match seqOf S y with
    | some ys => okIf (x.flat 60 && D.flatL 60 ys) (.bl (ys.any fun z => D.eqv z x)) S
    | none => match dictOf S y with
      | some kvs => okIf (keyT x) (.bl (lookD kvs x).isSome) S
      | none => .bad
  | .nmem => match seqOf S y with
    | some ys => okIf (x.flat 60 && D.flatL 60 ys) (.bl (!ys.any fun z => D.eqv z x)) S
    | none => match dictOf S y with
      | some kvs => okIf (keyT x) (.bl (!(lookD kvs x).isSome)) S
      | none => .bad

def neg : D → Store → R D
  | .int i, S => .ok (.int (-i)) S
  | _, _ => .bad
def isTy (t : Ty) (x : D) (S : Store) : Option Bool := match x with
  | .non => some false
  | .bl _ => some (match t with | .int => true | .bool => true | _ => false)
  | .int _ => some (match t with | .int => true | _ => false)
  | .str _ => some (match t with | .str => true | _ => false)
  | .tup _ => some (match t with | .tup => true | _ => false)
  | .lst _ => some (match t with | .list => true | _ => false)
  | .loc n => match S[n]? with
    | some (.list _) => some (match t with | .list => true | _ => false)
    | _ => none
  | _ => none
def getIx (x y : D) (S : Store) : R D := match y with
  | .int i => match seqOf S x with
    | some xs => match ix xs.length i with
      | some j => okO xs[j]? S
      | none => .bad
    | none => .bad
  | y => match dictOf S x with
    | some kvs => if keyT y then okO (lookD kvs y) S else .bad
    | none => .bad
def getSl (x : D) (lo hi : Option Int) (S : Store) : R D := match x with
  | .tup xs => .ok (.tup (cut xs lo hi)) S
  | x => match lstOf S x with
    | some xs => .ok (.lst (cut xs lo hi)) S
    | none => .bad
def callB (b : BI) (as : List D) (S : Store) : R D := match b, as with
  | .len, [x] => match seqOf S x with
    | some xs => .ok (.int xs.length) S
    | none => match x with
      | .str z => .ok (.int z.length) S
      | _ => .bad
  | .int, [.int i] => .ok (.int i) S
  | .int, [.bl b] => .ok (.int (b2 b)) S
  | .abs, [.int i] => .ok (.int (if i < 0 then -i else i)) S
  | .bool, [.bl b] => .ok (.bl b) S
  | .tuple, [.tup xs] => .ok (.tup xs) S
  | .tuple, [x] => match lstOf S x with
    | some xs => .ok (.tup xs) S
    | none => .bad
  | .list, [x] => match seqOf S x with
    | some xs => .ok (.lst xs) S
    | none => .bad
  | .all, [x] => match (lstOf S x).bind allB with
    | some bs => .ok (.bl (bs.all id)) S
    | none => .bad
  | .sum, [x] => match (lstOf S x).bind allI with
    | some ns => .ok (.int ns.sum) S
    | none => .bad
  | .max1, [x] => match (lstOf S x).bind allI with
    | some ns => okIf (decide (0 < ns.length)) (.int (maxL ns)) S
    | none => .bad
  | .min1, [x] => match (lstOf S x).bind allI with
    | some ns => okIf (decide (0 < ns.length)) (.int (minL ns)) S
    | none => .bad
  | .max2, [.int i, .int j] => .ok (.int (if j > i then j else i)) S
  | .min2, [.int i, .int j] => .ok (.int (if j < i then j else i)) S
  | .sorted, [x] => match (lstOf S x).bind allI with
    | some ns => .ok (.lst ((isort ns).map .int)) S
    | none => .bad
  | .divmod, [.int i, .int j] => okIf (decide (0 < j) && decide (j < 1073741824)) (.tup [.int (i / j), .int (i % j)]) S
  | _, _ => .bad
def methB (m : MI) (x : D) (as : List D) (S : Store) : R D := match m, x, as with
  | .append, .loc n, [y] => match S[n]? with
    | some (.list xs) => okIf (decide (xs.length < big)) .non (S.set n (.list (xs ++ [y])))
    | _ => .bad
  | .clear, .loc n, [] => match S[n]? with
    | some (.list _) => .ok .non (S.set n (.list []))
    | _ => .bad
  | .reverse, .loc n, [] => match S[n]? with
    | some (.list xs) => .ok .non (S.set n (.list xs.reverse))
    | _ => .bad
  | _, _, _ => .bad
/-- each int once -/
def unl (acc : List Int) (x : Int) : List Int := if acc.any (· == x) then acc else acc ++ [x]
def unlike (ns : List Int) : List Int := ns.foldl unl []

/-! ### compact syntax -/
inductive CT where
  | name (i : Nat) | tup (ts : List CT)
mutual
inductive CE where
  | int (i : Int) | bl (b : Bool) | non | str (x : Str)
  | var (i : Nat) | con (x : Str) (d : D) | fnv (f : Nat)
  | bin (o : BO) (a b : CE) | neg (a : CE) | not (a : CE)
  | cmp (o : CO) (a b : CE) | chain (o1 o2 : CO) (a b c : CE)
  | and (es : List CE) | or (es : List CE) | ite (c a b : CE)
  | tup (es : List CE) | lst (mu : Bool) (es : List CE)
  | idx (a i : CE) | sl (a : CE) (lo hi : Option CE)
  | call (f : Nat) (es : List CE) | bi (b : BI) (es : List CE) | isi (a : CE) (t : Ty)
  | lenset (a : CE)
  | meth (m : MI) (a : CE) (es : List CE)
  | dict0
  | comp (mu : Bool) (own : List (Str × Nat)) (t : CT) (it : CIt) (c : Option CE) (e : CE)
inductive CIt where
  | val (e : CE) | rng1 (e : CE) | rng2 (a b : CE) | enum (tu : Bool) (e : CE) | zip (a b : CE)
end
inductive CS where
  | set (i : Nat) (e : CE)
  | par (is : List Nat) (es : List CE)
  | tgt (t : CT) (e : CE)
  | setI (o i e : CE)
  | ret (e : CE) | retN
  | ifs (c : CE) (a b : List CS)
  | wh (c : CE) (b : List CS)
  | fors (t : CT) (it : CIt) (b : List CS)
  | ex (e : CE) | brk | cnt | pass | never

/-! ### the evaluator -/
mutual
def bindT : CT → D → Slots → Option Slots
  | .name i, d, τ => some (τ.set i (some d))
  | .tup ts, .tup ds, τ => bindTs ts ds τ
  | .tup _, _, _ => none
def bindTs : List CT → List D → Slots → Option Slots
  | [], [], τ => some τ
  | t :: ts, d :: ds, τ => match bindT t d τ with
    | some τ' => bindTs ts ds τ'
    | none => none
  | _, _, _ => none
end
/-- what a loop walks: its items, and the list that must stay as it is -/
structure Items where
  xs : List D
  gd : Option (Nat × List D) := none
def Items.still (I : Items) (S : Store) : Bool := match I.gd with
  | none => true
  | some (n, xs) => match S[n]? with
    | some (.list ys) => decide (ys = xs)
    | _ => false
def itemsOf (S : Store) : D → Option Items
  | .lst xs => some { xs := xs }
  | .scr xs => some { xs := xs }
  | .tup xs => some { xs := xs }
  | .loc n => match S[n]? with
    | some (.list xs) => some { xs := xs, gd := some (n, xs) }
    | _ => none
  | _ => none
def rangeD (a b : Int) : List D := (List.range (b - a).toNat).map fun (i : Nat) => .int (a + (i : Int))
def enumD (k : Nat) : List D → List D
  | [] => []
  | x :: r => .tup [.int k, x] :: enumD (k + 1) r
def zipD : List D → List D → List D
  | x :: xs, y :: ys => .tup [x, y] :: zipD xs ys
  | _, _ => []
def compL (I : Items) (bt : D → Slots → Option Slots) (c : Slots → Store → R Bool) (e : Slots → Store → R D) : List D → Slots → Store → R (List D)
  | [], _, S => if I.still S then .ok [] S else .bad
  | x :: xs, τ, S => if I.still S then (match bt x τ with
    | none => .bad
    | some τ' => (c τ' S).bind fun b S => if b then (e τ' S).bind fun y S => (compL I bt c e xs τ S).bind fun ys S => .ok (y :: ys) S
        else compL I bt c e xs τ S) else .bad
def wipeS (τ : Slots) : List (Str × Nat) → Slots
  | [] => τ
  | v :: vs => (wipeS τ vs).set v.2 none
def alloc (o : MO) (S : Store) : R D := .ok (.loc S.length) (S ++ [o])
def mkL (mu : Bool) (xs : List D) (S : Store) : R D := if mu then alloc (.list xs) S else .ok (.lst xs) S
def smallR (a b : Int) : Bool := decide (-(2 ^ 62) ≤ a) && decide (a < 2 ^ 62) && decide (-(2 ^ 62) ≤ b) && decide (b < 2 ^ 62)

section
variable (cl : Nat → List D → Store → R D)
mutual
def ev : CE → Slots → Store → R D
  | .int i, _, S => .ok (.int i) S
  | .bl b, _, S => .ok (.bl b) S
  | .non, _, S => .ok .non S
  | .str x, _, S => .ok (.str x) S
  | .var i, τ, S => okO (τ[i]?).join S
  | .con _ d, _, S => .ok d S
  | .fnv f, _, S => .ok (.fn f) S
  | .bin o a b, τ, S => (ev a τ S).bind fun x S => (ev b τ S).bind fun y S => binop o x y S
  | .neg a, τ, S => (ev a τ S).bind neg
  | .not a, τ, S => (ev a τ S).bind fun x S => (okO (truth x) S).bind fun b S => .ok (.bl (!b)) S
  | .cmp o a b, τ, S => (ev a τ S).bind fun x S => (ev b τ S).bind fun y S => cmpop o x y S
  | .chain o1 o2 a b c, τ, S => (ev a τ S).bind fun x S => (ev b τ S).bind fun y S => (cmpop o1 x y S).bind fun z S => match z with
      | .bl true => (ev c τ S).bind fun w S => cmpop o2 y w S
      | .bl false => .ok (.bl false) S
      | _ => .bad
  | .and es, τ, S => evAnd es τ S
  | .or es, τ, S => evOr es τ S
  | .ite c a b, τ, S => (ev c τ S).bind fun x S => match truth x with
      | some true => ev a τ S
      | some false => ev b τ S
      | none => .bad
  | .tup es, τ, S => (evs es τ S).bind fun xs S => okIf (decide (xs.length ≤ big)) (.tup xs) S
  | .lst mu es, τ, S => (evs es τ S).bind fun xs S => if xs.length ≤ big then mkL mu xs S else .bad
  | .idx a i, τ, S => (ev a τ S).bind fun x S => (ev i τ S).bind fun y S => getIx x y S
  | .sl a lo hi, τ, S => (ev a τ S).bind fun x S => (evO lo τ S).bind fun l S => (evO hi τ S).bind fun h S => getSl x l h S
  | .call f es, τ, S => (evs es τ S).bind fun xs S => cl f xs S
  | .bi b es, τ, S => (evs es τ S).bind fun xs S => callB b xs S
  | .isi a t, τ, S => (ev a τ S).bind fun x S => (okO (isTy t x S) S).bind fun b S => .ok (.bl b) S
  | .lenset a, τ, S => (ev a τ S).bind fun x S => match (seqOf S x).bind allI with
      | some ns => okIf (decide (ns.length < 4000)) (.int (unlike ns).length) S
      | none => .bad
  | .meth m a es, τ, S => (ev a τ S).bind fun x S => if (lstOf S x).isSome then (evs es τ S).bind fun xs S => methB m x xs S else .bad
  | .dict0, _, S => .ok (.loc S.length) (S ++ [.dict []])
  | .comp mu own t it c e, τ, S => (evIt it τ S).bind fun I S => (noR (compL I (bindT t) (evC c) (ev e) I.xs (wipeS τ own) S)).bind fun ys S => mkL mu ys S
def evO : Option CE → Slots → Store → R (Option Int)
  | none, _, S => .ok none S
  | some e, τ, S => (ev e τ S).bind fun x S => match x with
      | .int i => .ok (some i) S
      | _ => .bad
def evC : Option CE → Slots → Store → R Bool
  | none, _, S => .ok true S
  | some c, τ, S => (ev c τ S).bind fun x S => okO (truth x) S
def evs : List CE → Slots → Store → R (List D)
  | [], _, S => .ok [] S
  | e :: es, τ, S => (ev e τ S).bind fun x S => (evs es τ S).bind fun xs S => .ok (x :: xs) S
def evAnd : List CE → Slots → Store → R D
  | [], _, _ => .bad
  | [e], τ, S => ev e τ S
  | e :: e' :: es, τ, S => (ev e τ S).bind fun x S => match x with
      | .bl true => evAnd (e' :: es) τ S
      | .bl false => .ok (.bl false) S
      | _ => .bad
def evOr : List CE → Slots → Store → R D
  | [], _, _ => .bad
  | [e], τ, S => ev e τ S
  | e :: e' :: es, τ, S => (ev e τ S).bind fun x S => match x with
      | .bl true => .ok (.bl true) S
      | .bl false => evOr (e' :: es) τ S
      | _ => .bad
def evIt : CIt → Slots → Store → R Items
  | .val e, τ, S => (ev e τ S).bind fun x S => okO (itemsOf S x) S
  | .rng1 e, τ, S => (ev e τ S).bind fun x S => match x with
      | .int j => okIf (smallR 0 j && decide (j ≤ big)) { xs := rangeD 0 j } S
      | _ => .bad
  | .rng2 a b, τ, S => (ev a τ S).bind fun x S => (ev b τ S).bind fun y S => match x, y with
      | .int i, .int j => okIf (smallR i j && decide (j - i ≤ big)) { xs := rangeD i j } S
      | _, _ => .bad
  | .enum true e, τ, S => (ev e τ S).bind fun x S => match x with
      | .tup xs => .ok { xs := enumD 0 xs } S
      | _ => .bad
  | .enum false e, τ, S => (ev e τ S).bind fun x S => match x with
      | .lst xs => .ok { xs := enumD 0 xs } S
      | _ => .bad
  | .zip a b, τ, S => (ev a τ S).bind fun x S => (ev b τ S).bind fun y S => match x, y with
      | .tup xs, .tup ys => .ok { xs := zipD xs ys } S
      | .lst xs, .lst ys => .ok { xs := zipD xs ys } S
      | _, _ => .bad
end

def setIt (o i v : D) (S : Store) : Option Store := match o, i with
  | .loc n, .int k => match S[n]? with
    | some (.list xs) => (ix xs.length k).map fun j => S.set n (.list (xs.set j v))
    | _ => none
  | .loc n, i => match S[n]? with
    | some (.dict kvs) => if keyT i && decide (kvs.length < big) then some (S.set n (.dict (storeD kvs i v))) else none
    | _ => none
  | _, _ => none
def setAll : List Nat → List D → Slots → Option Slots
  | [], [], τ => some τ
  | i :: is, d :: ds, τ => setAll is ds (τ.set i (some d))
  | _, _, _ => none
def forL (I : Items) (bt : D → Slots → Option Slots) (b : Slots → Store → RS) : List D → Slots → Store → RS
  | [], τ, S => if I.still S then .nx τ S else .bad
  | x :: xs, τ, S => if I.still S then (match bt x τ with
    | none => .bad
    | some τ' => match b τ' S with
      | .nx τ S => forL I bt b xs τ S
      | .ct τ S => forL I bt b xs τ S
      | .bk τ S => .nx τ S
      | r => r) else .bad
def whL (c : Slots → Store → R D) (b : Slots → Store → RS) : Nat → Slots → Store → RS
  | 0, _, _ => .bad
  | n + 1, τ, S => (c τ S).bindS τ fun x S => match truth x with
    | some true => match b τ S with
      | .nx τ S => whL c b n τ S
      | .ct τ S => whL c b n τ S
      | .bk τ S => .nx τ S
      | r => r
    | some false => .nx τ S
    | none => .bad
/-- turns that a while may take -/
def fuel : Nat := 1000000000
mutual
def evS : CS → Slots → Store → RS
  | .set i e, τ, S => (ev cl e τ S).bindS τ fun x S => .nx (τ.set i (some x)) S
  | .par is es, τ, S => (evs cl es τ S).bindS τ fun xs S => match setAll is xs τ with
      | some τ => .nx τ S
      | none => .bad
  | .tgt t e, τ, S => (ev cl e τ S).bindS τ fun x S => match bindT t x τ with
      | some τ => .nx τ S
      | none => .bad
  | .setI o i e, τ, S => (ev cl e τ S).bindS τ fun v S => (ev cl o τ S).bindS τ fun x S => (ev cl i τ S).bindS τ fun y S => match setIt x y v S with
      | some S => .nx τ S
      | none => .bad
  | .ret e, τ, S => (ev cl e τ S).bindS τ fun x S => .rt x S
  | .retN, _, S => .rt .non S
  | .ifs c a b, τ, S => (ev cl c τ S).bindS τ fun x S => match truth x with
      | some true => evB a τ S
      | some false => evB b τ S
      | none => .bad
  | .wh c b, τ, S => whL (ev cl c) (evB b) fuel τ S
  | .fors t it b, τ, S => (evIt cl it τ S).bindS τ fun I S => forL I (bindT t) (evB b) I.xs τ S
  | .ex e, τ, S => (ev cl e τ S).bindS τ fun _ S => .nx τ S
  | .brk, τ, S => .bk τ S
  | .cnt, τ, S => .ct τ S
  | .pass, τ, S => .nx τ S
  | .never, _, _ => .bad
def evB : List CS → Slots → Store → RS
  | [], τ, S => .nx τ S
  | s :: r, τ, S => match evS s τ S with
    | .nx τ S => evB r τ S
    | r => r
end
end
/-- a def: its parameters' number, all slots' number, its body -/
structure FD where
  np : Nat
  ns : Nat
  body : List CS
def endB : RS → R D
  | .nx _ S => .ok .non S
  | .rt d S => .ok d S
  | .ex c pl _ S => .ex c pl S
  | _ => .bad
def entry (ns : Nat) (as : List D) : Slots := as.map some ++ List.replicate (ns - as.length) none
/-- so many calls deep -/
def evF (fs : List FD) : Nat → Nat → List D → Store → R D
  | 0, _, _, _ => .bad
  | k + 1, f, as, S => match fs[f]? with
    | none => .bad
    | some d => if as.length = d.np then endB (evB (evF fs k) d.body (entry d.ns as) S) else .bad
end Ev
/-! Ev, part B: how data lie in the abstract heap; what is wanted behind an evaluation. -/
namespace Ev
open PySem L2

/-- the text's names: defs, constants, classes; built-in names that the text leaves as they are -/
structure Tab where
  fns : List (Str × FD)
  cons : List (Str × D)
  cls : List Str
  blts : List Str
/-- where we are: the written part, the module's names -/
structure GC where
  K : PySem.W.Frag
  mg : Str → Option Value
  T : Tab
  P : Program
  w : World
  /-- objects that are in the making: no datum names them -/
  av : List Addr := []
def GC.up (G : GC) (l : List Addr) : GC := { G with av := l ++ G.av }
theorem GC.up_nil (G : GC) : G.up [] = G := rfl
theorem GC.up_up (G : GC) (l k : List Addr) : (G.up l).up k = G.up (k ++ l) := by simp only [GC.up, List.append_assoc]
/-- neither among the objects that may change nor in the making -/
def Cl (G : GC) (m : List Addr) (a : Addr) : Prop := a ∉ m ∧ a ∉ G.av

mutual
/-- data d stand at value v -/
def Rep (G : GC) (m : List Addr) (H : Hp) : D → V → Prop
  | .non, v => v = .non
  | .bl b, v => v = .bl b
  | .int i, v => v = .int i
  | .str x, v => v = .str x ∧ PyData.strOk x = true ∧ x.length ≤ big
  | .tup ds, v => ∃ a xs, v = .ref a ∧ xs.length ≤ big ∧ RepL G m H ds xs ∧ ((Rd H a (.tup xs) ∧ Cl G m a) ∨ ∀ H', SqT G.K H' a xs)
  | .lst ds, v => ∃ a xs, v = .ref a ∧ xs.length ≤ big ∧ RepL G m H ds xs ∧ H a = some (.lst xs) ∧ Cl G m a
  | .scr ds, v => ∃ a xs, v = .ref a ∧ xs.length ≤ big ∧ RepL G m H ds xs ∧ ((Rd H a (.lst xs) ∧ Cl G m a) ∨ ∀ H', SqL G.K H' a xs)
  | .loc n, v => ∃ a, v = .ref a ∧ m[n]? = some a
  | .fn f, v => ∃ a x d, v = .ref a ∧ G.T.fns[f]? = some (x, d) ∧ G.mg x = some (.ref a)
  | .cls c, v => ∃ a x, v = .ref a ∧ G.T.cls[c]? = some x ∧ G.mg x = some (.ref a)
def RepL (G : GC) (m : List Addr) (H : Hp) : List D → List V → Prop
  | [], vs => vs = []
  | d :: ds, vs => ∃ v r, vs = v :: r ∧ Rep G m H d v ∧ RepL G m H ds r
end
/-- the objects that may change have stayed in their places, all others stand as they stood -/
structure Ext (m : List Addr) (H : Hp) (m' : List Addr) (H' : Hp) : Prop where
  pre : ∀ (n : Nat) (a : Addr), m[n]? = some a → m'[n]? = some a
  keep : ∀ (a : Addr) (o : HO), a ∉ m → H a = some o → H' a = some o ∧ a ∉ m'
theorem Ext.refl (m H) : Ext m H m H := ⟨fun _ _ h => h, fun _ _ n h => ⟨h, n⟩⟩
theorem Ext.trans {m1 H1 m2 H2 m3 H3} (a : Ext m1 H1 m2 H2) (b : Ext m2 H2 m3 H3) : Ext m1 H1 m3 H3 :=
  ⟨fun n x h => b.pre n x (a.pre n x h), fun x o n h => let ⟨h1, n1⟩ := a.keep x o n h; b.keep x o n1 h1⟩
theorem rd_ext {m H m' H'} (e : Ext m H m' H') {a : Addr} {u : HO} (h : Rd H a u) (n : a ∉ m) : Rd H' a u ∧ a ∉ m' := by
  rcases h with h | ⟨o, h⟩
  · obtain ⟨h1, n1⟩ := e.keep a _ n h
    exact ⟨.inl h1, n1⟩
  · obtain ⟨h1, n1⟩ := e.keep a _ n h
    exact ⟨.inr ⟨o, h1⟩, n1⟩
section
variable {G : GC} {m m' : List Addr} {H H' : Hp}
mutual
theorem Rep.ext (e : Ext m H m' H') : ∀ {d : D} {v : V}, Rep G m H d v → Rep G m' H' d v
  | .non, _, h => by simpa only [Rep] using h
  | .bl _, _, h => by simpa only [Rep] using h
  | .int _, _, h => by simpa only [Rep] using h
  | .str _, _, h => by simpa only [Rep] using h
  | .tup ds, _, h => by
    simp only [Rep] at h ⊢
    obtain ⟨a, xs, e1, hz, hl, q⟩ := h
    refine ⟨a, xs, e1, hz, RepL.ext e hl, ?_⟩
    rcases q with ⟨q, n⟩ | q
    · exact .inl ⟨(rd_ext e q n.1).1, (rd_ext e q n.1).2, n.2⟩
    · exact .inr q
  | .lst ds, _, h => by
    simp only [Rep] at h ⊢
    obtain ⟨a, xs, e1, hz, hl, q, n⟩ := h
    exact ⟨a, xs, e1, hz, RepL.ext e hl, (e.keep a _ n.1 q).1, (e.keep a _ n.1 q).2, n.2⟩
  | .scr ds, _, h => by
    simp only [Rep] at h ⊢
    obtain ⟨a, xs, e1, hz, hl, q⟩ := h
    refine ⟨a, xs, e1, hz, RepL.ext e hl, ?_⟩
    rcases q with ⟨q, n⟩ | q
    · exact .inl ⟨(rd_ext e q n.1).1, (rd_ext e q n.1).2, n.2⟩
    · exact .inr q
  | .loc n, _, h => by
    simp only [Rep] at h ⊢
    obtain ⟨a, e1, h⟩ := h
    exact ⟨a, e1, e.pre n a h⟩
  | .fn f, _, h => by simpa only [Rep] using h
  | .cls c, _, h => by simpa only [Rep] using h
theorem RepL.ext (e : Ext m H m' H') : ∀ {ds : List D} {vs : List V}, RepL G m H ds vs → RepL G m' H' ds vs
  | [], _, h => by simpa only [RepL] using h
  | d :: ds, _, h => by
    simp only [RepL] at h ⊢
    obtain ⟨v, r, e1, h1, h2⟩ := h
    exact ⟨v, r, e1, Rep.ext e h1, RepL.ext e h2⟩
end
theorem RepL.length : ∀ {ds : List D} {vs : List V}, RepL G m H ds vs → vs.length = ds.length
  | [], _, h => by simp only [RepL] at h; rw [h]; rfl
  | d :: ds, _, h => by
    simp only [RepL] at h
    obtain ⟨v, r, rfl, _, h2⟩ := h
    simp only [List.length_cons, RepL.length h2]
theorem RepL.get : ∀ {ds : List D} {vs : List V} {i : Nat} {d : D}, RepL G m H ds vs → ds[i]? = some d → ∃ v, vs[i]? = some v ∧ Rep G m H d v
  | [], _, i, d, _, h => by simp at h
  | d :: ds, _, 0, _, h, e => by
    simp only [RepL] at h
    obtain ⟨v, r, rfl, h1, _⟩ := h
    simp at e; subst e
    exact ⟨v, rfl, h1⟩
  | d :: ds, _, i + 1, _, h, e => by
    simp only [RepL] at h
    obtain ⟨v, r, rfl, _, h2⟩ := h
    simp at e
    obtain ⟨w, hw, rw⟩ := RepL.get h2 e
    exact ⟨w, by simpa using hw, rw⟩
theorem RepL.back : ∀ {ds : List D} {vs : List V} {i : Nat} {v : V}, RepL G m H ds vs → vs[i]? = some v → ∃ d, ds[i]? = some d ∧ Rep G m H d v
  | [], _, i, d, h, e => by simp only [RepL] at h; subst h; simp at e
  | d :: ds, _, 0, _, h, e => by
    simp only [RepL] at h
    obtain ⟨v, r, rfl, h1, _⟩ := h
    simp at e; subst e
    exact ⟨d, rfl, h1⟩
  | d :: ds, _, i + 1, _, h, e => by
    simp only [RepL] at h
    obtain ⟨v, r, rfl, _, h2⟩ := h
    simp at e
    obtain ⟨w, hw, rw⟩ := RepL.back h2 e
    exact ⟨w, by simpa using hw, rw⟩
theorem RepL.nil : RepL G m H [] [] := by simp only [RepL]
theorem RepL.cons {d : D} {v : V} {ds : List D} {vs : List V} (h : Rep G m H d v) (r : RepL G m H ds vs) : RepL G m H (d :: ds) (v :: vs) := by
  simp only [RepL]; exact ⟨v, vs, rfl, h, r⟩
theorem RepL.app : ∀ {ds es : List D} {vs ws : List V}, RepL G m H ds vs → RepL G m H es ws → RepL G m H (ds ++ es) (vs ++ ws)
  | [], _, _, _, h, r => by simp only [RepL] at h; subst h; exact r
  | d :: ds, es, _, ws, h, r => by
    simp only [RepL] at h
    obtain ⟨v, q, rfl, h1, h2⟩ := h
    exact .cons h1 (RepL.app h2 r)
theorem RepL.take : ∀ (n : Nat) {ds : List D} {vs : List V}, RepL G m H ds vs → RepL G m H (ds.take n) (vs.take n)
  | 0, _, _, _ => by simp only [List.take_zero]; exact .nil
  | n + 1, [], _, h => by simp only [RepL] at h; subst h; simp only [List.take_nil]; exact .nil
  | n + 1, d :: ds, _, h => by
    simp only [RepL] at h
    obtain ⟨v, q, rfl, h1, h2⟩ := h
    simp only [List.take_succ_cons]
    exact .cons h1 (RepL.take n h2)
theorem RepL.drop : ∀ (n : Nat) {ds : List D} {vs : List V}, RepL G m H ds vs → RepL G m H (ds.drop n) (vs.drop n)
  | 0, _, _, h => by simpa only [List.drop_zero] using h
  | n + 1, [], _, h => by simp only [RepL] at h; subst h; simp only [List.drop_nil]; exact .nil
  | n + 1, d :: ds, _, h => by
    simp only [RepL] at h
    obtain ⟨v, q, rfl, h1, h2⟩ := h
    simp only [List.drop_succ_cons]
    exact RepL.drop n h2
theorem RepL.rev : ∀ {ds : List D} {vs : List V}, RepL G m H ds vs → RepL G m H ds.reverse vs.reverse
  | [], _, h => by simp only [RepL] at h; subst h; exact .nil
  | d :: ds, _, h => by
    simp only [RepL] at h
    obtain ⟨v, q, rfl, h1, h2⟩ := h
    simp only [List.reverse_cons]
    exact (RepL.rev h2).app (.cons h1 .nil)
theorem RepL.set : ∀ (n : Nat) {d : D} {v : V} {ds : List D} {vs : List V}, Rep G m H d v → RepL G m H ds vs → RepL G m H (ds.set n d) (vs.set n v)
  | n, _, _, [], _, _, h => by simp only [RepL] at h; subst h; simp only [List.set_nil]; exact .nil
  | 0, _, _, e :: ds, _, r, h => by
    simp only [RepL] at h
    obtain ⟨w, q, rfl, h1, h2⟩ := h
    simp only [List.set_cons_zero]
    exact .cons r h2
  | n + 1, _, _, e :: ds, _, r, h => by
    simp only [RepL] at h
    obtain ⟨w, q, rfl, h1, h2⟩ := h
    simp only [List.set_cons_succ]
    exact .cons h1 (RepL.set n r h2)
theorem repL_ints : ∀ {ds : List D} {vs : List V} {ns : List Int}, RepL G m H ds vs → allI ds = some ns → vs = ns.map V.int
  | [], _, _, h, e => by
    simp only [RepL] at h; simp only [allI, Option.some.injEq] at e; subst h; subst e; rfl
  | d :: ds, _, ns, h, e => by
    simp only [RepL] at h
    obtain ⟨w, q, rfl, h1, h2⟩ := h
    cases d with
    | int i =>
      simp only [allI, Option.map_eq_some_iff] at e
      obtain ⟨r, e1, rfl⟩ := e
      simp only [Rep] at h1
      subst h1
      rw [repL_ints h2 e1]; rfl
    | _ => simp [allI] at e
theorem repL_bools : ∀ {ds : List D} {vs : List V} {ns : List Bool}, RepL G m H ds vs → allB ds = some ns → vs = ns.map V.bl
  | [], _, _, h, e => by
    simp only [RepL] at h; simp only [allB, Option.some.injEq] at e; subst h; subst e; rfl
  | d :: ds, _, ns, h, e => by
    simp only [RepL] at h
    obtain ⟨w, q, rfl, h1, h2⟩ := h
    cases d with
    | bl i =>
      simp only [allB, Option.map_eq_some_iff] at e
      obtain ⟨r, e1, rfl⟩ := e
      simp only [Rep] at h1
      subst h1
      rw [repL_bools h2 e1]; rfl
    | _ => simp [allB] at e
theorem repL_ofInts : ∀ (ns : List Int), RepL G m H (ns.map D.int) (ns.map V.int)
  | [] => .nil
  | n :: r => .cons (by simp only [Rep]) (repL_ofInts r)

/-! ### dicts -/
mutual
def nk : D → Option NestedKey
  | .int i => some (.num i)
  | .str x => some (.text x)
  | .tup xs => (nkL xs).map .tup
  | _ => none
def nkL : List D → Option (List NestedKey)
  | [] => some []
  | x :: xs => match nk x, nkL xs with
    | some k, some ks => some (k :: ks)
    | _, _ => none
end
/-- the entries as they are written -/
def dctAt (P : Program) (w : World) (a : Addr) (xs : List (NestedKey × Addr × Value)) : Heap → Prop := fun h => ∃ o es ep, h.get? a = some o ∧ o.ExactDict ∧ o.data = .dict es ep ∧ es.toList = xs.map (entryOfKey (nestedKind P w))
def PairD (G : GC) (m : List Addr) (H : Hp) : List (D × D) → List (NestedKey × Addr × Value) → Prop
  | [], xs => xs = []
  | (k, d) :: kvs, xs => ∃ x r, xs = x :: r ∧ nk k = some x.1 ∧ keyT k = true ∧ Rep G m H k (.ref x.2.1) ∧ (∃ v, RelV v x.2.2 ∧ Rep G m H d v) ∧ PairD G m H kvs r
theorem PairD.ext (e : Ext m H m' H') : ∀ {kvs : List (D × D)} {xs : List (NestedKey × Addr × Value)}, PairD G m H kvs xs → PairD G m' H' kvs xs
  | [], _, h => h
  | (k, d) :: kvs, _, ⟨x, r, e1, e2, e3, h1, ⟨v, rv, h2⟩, h3⟩ => ⟨x, r, e1, e2, e3, h1.ext e, ⟨v, rv, h2.ext e⟩, PairD.ext e h3⟩
/-- an object that may change, at its address -/
def RepO (G : GC) (m : List Addr) (H : Hp) (a : Addr) : MO → Prop
  | .list xs => ∃ vs, H a = some (.lst vs) ∧ vs.length ≤ big ∧ RepL G m H xs vs
  | .dict kvs => ∃ xs, H a = some (.ext (dctAt G.P G.w a xs)) ∧ kvs.length ≤ big ∧ (a == sysModules) = false ∧ PairD G m H kvs xs ∧ (xs.map (·.1)).Nodup
  | .ins _ _ => False
structure Sim (G : GC) (m : List Addr) (H : Hp) (S : Store) : Prop where
  len : m.length = S.length
  nd : m.Nodup
  live : ∀ a ∈ G.av, (∃ o, H a = some o) ∧ a ∉ m
  obj : ∀ (n : Nat) (a : Addr) (o : MO), m[n]? = some a → S[n]? = some o → RepO G m H a o
theorem RepO.there {a : Addr} : ∀ {o : MO}, RepO G m H a o → ∃ u, H a = some u ∧ Mut (some u)
  | .list xs, ⟨_, h, _, _⟩ => ⟨_, h, trivial⟩
  | .dict _, ⟨_, h, _⟩ => ⟨_, h, trivial⟩
  | .ins _ _, h => h.elim
theorem Sim.there {S : Store} (s : Sim G m H S) {a : Addr} (h : a ∈ m) : ∃ u, H a = some u ∧ Mut (some u) := by
  obtain ⟨n, hn, e⟩ := List.getElem_of_mem h
  have e' : m[n]? = some a := by rw [List.getElem?_eq_getElem hn, e]
  have h2 : n < S.length := by rw [← s.len]; exact hn
  exact (s.obj n a S[n] e' (List.getElem?_eq_getElem h2)).there
theorem Sim.fresh {S : Store} (s : Sim G m H S) {p : Addr} (h : H p = none) : p ∉ m := fun q => by
  obtain ⟨u, e, _⟩ := s.there q
  rw [h] at e; cases e
theorem Sim.find {S : Store} (s : Sim G m H S) {n : Nat} {o : MO} (h : S[n]? = some o) : ∃ a, m[n]? = some a ∧ RepO G m H a o := by
  have hn : n < m.length := by rw [s.len]; exact (List.getElem?_eq_some_iff.mp h).1
  exact ⟨m[n], List.getElem?_eq_getElem hn, s.obj n _ o (List.getElem?_eq_getElem hn) h⟩
theorem Sim.freshA {S : Store} (s : Sim G m H S) {p : Addr} (h : H p = none) : Cl G m p := ⟨s.fresh h, fun q => by
  obtain ⟨⟨u, e⟩, _⟩ := s.live p q
  rw [h] at e; cases e⟩
/-- the object at a place is changed -/
theorem RepO.keep {a : Addr} (hH : ∀ u, H a = some u → H' a = some u) (e : Ext m H m' H') : ∀ {o : MO}, RepO G m H a o → RepO G m' H' a o
  | .list xs, ⟨vs, h, z, r⟩ => ⟨vs, hH _ h, z, r.ext e⟩
  | .dict _, ⟨xs, h, z, n, p, nd⟩ => ⟨xs, hH _ h, z, n, p.ext e, nd⟩
  | .ins _ _, h => h.elim

/-- a new object that does not change -/
theorem Sim.lay {S : Store} (s : Sim G m H S) {p : Addr} {o : HO} (h : H p = none) : Ext m H m (upd H p o) ∧ Sim G m (upd H p o) S ∧ Cl G m p := by
  have np := s.freshA h
  have hne : ∀ b u, H b = some u → b ≠ p := fun b u e z => by rw [z, h] at e; cases e
  have ex : Ext m H m (upd H p o) := ⟨fun _ _ q => q, fun b u n q => ⟨by rw [upd_ne (hne b u q)]; exact q, n⟩⟩
  refine ⟨ex, ⟨s.len, s.nd, fun a ha => ?_, fun n a x e1 e2 => ?_⟩, np⟩
  · obtain ⟨⟨u, e⟩, na⟩ := s.live a ha
    exact ⟨⟨u, by rw [upd_ne (hne _ _ e)]; exact e⟩, na⟩
  exact (s.obj n a x e1 e2).keep (fun u q => by rw [upd_ne (hne _ _ q)]; exact q) ex
/-- a new object that may change -/
theorem Sim.lays {S : Store} (s : Sim G m H S) {p : Addr} {o : HO} {x : MO} (h : H p = none) (ho : Ext m H (m ++ [p]) (upd H p o) → RepO G (m ++ [p]) (upd H p o) p x) :
    Ext m H (m ++ [p]) (upd H p o) ∧ Sim G (m ++ [p]) (upd H p o) (S ++ [x]) := by
  have np := s.fresh h
  have hne : ∀ b u, H b = some u → b ≠ p := fun b u e z => by rw [z, h] at e; cases e
  have ex : Ext m H (m ++ [p]) (upd H p o) := by
    refine ⟨fun n a q => ?_, fun b u n q => ⟨by rw [upd_ne (hne b u q)]; exact q, ?_⟩⟩
    · have hn := (List.getElem?_eq_some_iff.mp q).1
      rw [List.getElem?_append_left hn]; exact q
    · simp only [List.mem_append, List.mem_singleton, not_or]
      exact ⟨n, hne b u q⟩
  refine ⟨ex, ⟨by simp [s.len], ?_, fun a ha => ?_, fun n a y e1 e2 => ?_⟩⟩
  · rw [List.nodup_append]
    refine ⟨s.nd, by simp, fun a ha b hb => ?_⟩
    simp at hb; subst hb
    exact fun z => np (z ▸ ha)
  · obtain ⟨⟨u, e⟩, na⟩ := s.live a ha
    refine ⟨⟨u, by rw [upd_ne (hne _ _ e)]; exact e⟩, ?_⟩
    simp only [List.mem_append, List.mem_singleton, not_or]
    exact ⟨na, hne _ _ e⟩
  · by_cases hn : n < m.length
    · rw [List.getElem?_append_left hn] at e1
      rw [List.getElem?_append_left (by rw [← s.len]; exact hn)] at e2
      exact (s.obj n a y e1 e2).keep (fun u q => by rw [upd_ne (hne _ _ q)]; exact q) ex
    · have hn2 : n = m.length := by
        have := (List.getElem?_eq_some_iff.mp e1).1
        simp at this; omega
      subst hn2
      rw [List.getElem?_append_right (Nat.le_refl _)] at e1
      rw [s.len, List.getElem?_append_right (Nat.le_refl _)] at e2
      simp at e1 e2
      subst e1; subst e2
      exact ho ex
/-- an object is changed -/
theorem Sim.write {S : Store} (s : Sim G m H S) {n : Nat} {a : Addr} {o : HO} {x : MO} (h : m[n]? = some a) (ho : Ext m H m (upd H a o) → RepO G m (upd H a o) a x) :
    Ext m H m (upd H a o) ∧ Sim G m (upd H a o) (S.set n x) := by
  have ha : a ∈ m := List.mem_of_getElem? h
  have ex : Ext m H m (upd H a o) := ⟨fun _ _ q => q, fun b u nb q => ⟨by rw [upd_ne (fun z => nb (by rw [z]; exact ha))]; exact q, nb⟩⟩
  refine ⟨ex, ⟨by simp [s.len], s.nd, fun b hb => ?_, fun k b y e1 e2 => ?_⟩⟩
  · obtain ⟨⟨u, e⟩, na⟩ := s.live b hb
    exact ⟨⟨u, by rw [upd_ne (fun z => na (by rw [z]; exact ha))]; exact e⟩, na⟩
  by_cases hk : k = n
  · subst hk
    rw [h] at e1; cases e1
    have hl : k < S.length := by rw [← s.len]; exact (List.getElem?_eq_some_iff.mp h).1
    rw [List.getElem?_set_self hl] at e2; cases e2
    exact ho ex
  · rw [List.getElem?_set_ne (Ne.symm hk)] at e2
    have hb : b ≠ a := fun z => by
      subst z
      obtain ⟨h1, e3⟩ := List.getElem?_eq_some_iff.mp e1
      obtain ⟨h2, e4⟩ := List.getElem?_eq_some_iff.mp h
      exact hk ((List.getElem_inj s.nd).mp (e3.trans e4.symm))
    exact (s.obj k b y e1 e2).keep (fun u q => by rw [upd_ne hb]; exact q) ex

/-! ### the slots -/
structure RelS (G : GC) (m : List Addr) (H : Hp) (σ : St) (τ : Slots) : Prop where
  len : σ.length = τ.length
  at_ : ∀ (i : Nat) (d : D), τ[i]? = some (some d) → ∃ v, σ[i]? = some (some v) ∧ Rep G m H d v
theorem RelS.ext {σ : St} {τ : Slots} (r : RelS G m H σ τ) (e : Ext m H m' H') : RelS G m' H' σ τ :=
  ⟨r.len, fun i d h => let ⟨v, h1, h2⟩ := r.at_ i d h; ⟨v, h1, h2.ext e⟩⟩
theorem RelS.set {σ : St} {τ : Slots} (r : RelS G m H σ τ) {i : Nat} {d : D} {v : V} (h : Rep G m H d v) : RelS G m H (σ.set i (some v)) (τ.set i (some d)) := by
  refine ⟨by simp [r.len], fun j e hj => ?_⟩
  by_cases hij : i = j
  · subst hij
    have hl : i < τ.length := by
      by_cases q : i < τ.length
      · exact q
      · rw [List.getElem?_eq_none (by simpa using q)] at hj; cases hj
    rw [List.getElem?_set_self hl] at hj
    cases hj
    exact ⟨v, List.getElem?_set_self (by rw [r.len]; exact hl), h⟩
  · rw [List.getElem?_set_ne hij] at hj ⊢
    exact r.at_ j e hj
theorem RelS.wipe {σ : St} {τ : Slots} (r : RelS G m H σ τ) : ∀ (vs : List (Str × Nat)), RelS G m H (L2.wipe σ (vs.map (·.2))) (wipeS τ vs)
  | [] => r
  | v :: vs => by
    have q := r.wipe vs
    show RelS G m H ((L2.wipe σ (vs.map (·.2))).set v.2 none) ((wipeS τ vs).set v.2 none)
    refine ⟨by simp [q.len], fun j e hj => ?_⟩
    by_cases hij : v.2 = j
    · subst hij
      by_cases hl : v.2 < (wipeS τ vs).length
      · rw [List.getElem?_set_self hl] at hj; cases hj
      · rw [List.getElem?_eq_none (by simpa using hl)] at hj; cases hj
    · rw [List.getElem?_set_ne hij] at hj ⊢
      exact q.at_ j e hj

/-! ### what is wanted behind an evaluation -/
/-- an exception of the class c, by what its own dict holds -/
def RepX (G : GC) (m : List Addr) (H : Hp) (c : Nat) (pl : List (Str × D)) (cls : Value) (dd : Option Addr) : Prop :=
  ∃ C x, G.T.cls[c]? = some x ∧ G.mg x = some (.ref C) ∧ cls = .ref C ∧ (pl = [] ∨ ∃ a fs, dd = some a ∧ H a = some (.xd fs) ∧ RepL G m H (pl.map (·.2)) (fs.map (·.2)) ∧ pl.map (·.1) = fs.map (·.1))
/-- behind an evaluation that gives r -/
def Post {α β : Type} (G : GC) (W : WX) (R1 : List Addr → Hp → α → β → Prop) (m : List Addr) (σ : St) (H : Hp) (r : R α) (Q : β → Hp → Prop) : Prop :=
  match r with
  | .ok d S => ∀ m' H' v, Ext m H m' H' → Sim G m' H' S → R1 m' H' d v → Q v H'
  | .ex c pl S => ∀ m' H' cls dd, Ext m H m' H' → Sim G m' H' S → RepX G m' H' c pl cls dd → W cls dd σ H'
  | .bad => False
abbrev PostE (G : GC) (W : WX) (m : List Addr) (σ : St) (H : Hp) (r : R D) (Q : VK) : Prop := Post G W (Rep G) m σ H r Q
/-- the reading of an evaluation -/
def tR {α β : Type} (G : GC) (W : WX) (R1 : List Addr → Hp → α → β → Prop) (r : Slots → Store → R α) : St → Hp → (β → Hp → Prop) → Prop :=
  fun σ H Q => ∃ m τ S, RelS G m H σ τ ∧ Sim G m H S ∧ Post G W R1 m σ H (r τ S) Q
abbrev tE (G : GC) (W : WX) (r : Slots → Store → R D) : TE := tR G W (Rep G) r
abbrev tB (G : GC) (W : WX) (r : Slots → Store → R Bool) : TT := tR G W (fun _ _ d v => v = d) r
abbrev tAs (G : GC) (W : WX) (r : Slots → Store → R (List D)) : TA := tR G W (RepL G) r

variable {α β γ δ : Type} {W : WX} {R1 : List Addr → Hp → α → β → Prop} {R2 : List Addr → Hp → γ → δ → Prop} {σ : St} {τ : Slots} {S : Store}
/-- the first of two evaluations -/
theorem Post.seq {r : R α} {f : α → Store → R γ} {Q : δ → Hp → Prop} {Q' : β → Hp → Prop} (h : Post G W R2 m σ H (r.bind f) Q)
    (k : ∀ m' H' d S' v, Ext m H m' H' → Sim G m' H' S' → R1 m' H' d v → Post G W R2 m' σ H' (f d S') Q → Q' v H') : Post G W R1 m σ H r Q' := by
  cases r with
  | bad => exact h
  | ex c pl S => exact h
  | ok d S =>
    intro m' H' v e s q
    refine k m' H' d S v e s q ?_
    have h' : Post G W R2 m σ H (f d S) Q := h
    revert h'
    generalize f d S = z
    cases z with
    | bad => exact id
    | ex c pl S => exact fun h' m2 H2 cls dd e2 s2 x => h' m2 H2 cls dd (e.trans e2) s2 x
    | ok d2 S2 => exact fun h' m2 H2 v2 e2 s2 x => h' m2 H2 v2 (e.trans e2) s2 x
theorem tR.seq {r : Slots → Store → R α} {f : α → Store → R γ} {Q : δ → Hp → Prop} {Q' : β → Hp → Prop} (rel : RelS G m H σ τ) (sim : Sim G m H S) (h : Post G W R2 m σ H ((r τ S).bind f) Q)
    (k : ∀ m' H' d S' v, Ext m H m' H' → RelS G m' H' σ τ → Sim G m' H' S' → R1 m' H' d v → Post G W R2 m' σ H' (f d S') Q → Q' v H') : tR G W R1 r σ H Q' :=
  ⟨m, τ, S, rel, sim, h.seq fun m' H' d S' v e s q p => k m' H' d S' v e (rel.ext e) s q p⟩
theorem Post.mono {r : R α} {Q Q' : β → Hp → Prop} (h : Post G W R1 m σ H r Q) (k : ∀ v H', Q v H' → Q' v H') : Post G W R1 m σ H r Q' := by
  cases r with
  | bad => exact h
  | ex c pl S => exact h
  | ok d S => exact fun m' H' v e s q => k _ _ (h m' H' v e s q)
theorem Post.done {d : α} {v : β} {Q : β → Hp → Prop} (h : Post G W R1 m σ H (.ok d S) Q) (sim : Sim G m H S) (q : R1 m H d v) : Q v H := h m H v (.refl _ _) sim q
/-- .. with a new object that does not change -/
theorem Post.new {d : α} {v : β} {Q : β → Hp → Prop} {p : Addr} {o : HO} (h : Post G W R1 m σ H (.ok d S) Q) (sim : Sim G m H S) (n : H p = none) (q : Ext m H m (upd H p o) → Cl G m p → R1 m (upd H p o) d v) : Q v (upd H p o) := by
  obtain ⟨e, s, np⟩ := sim.lay (o := o) n
  exact h m _ v e s (q e np)
theorem Post.news {d : α} {v : β} {Q : β → Hp → Prop} {p : Addr} {o : HO} {x : MO} (h : Post G W R1 m σ H (.ok d (S ++ [x])) Q) (sim : Sim G m H S) (n : H p = none)
    (ho : Ext m H (m ++ [p]) (upd H p o) → RepO G (m ++ [p]) (upd H p o) p x) (q : Ext m H (m ++ [p]) (upd H p o) → R1 (m ++ [p]) (upd H p o) d v) : Q v (upd H p o) := by
  obtain ⟨e, s⟩ := sim.lays n ho
  exact h _ _ v e s (q e)
theorem Post.wrote {d : α} {v : β} {Q : β → Hp → Prop} {n : Nat} {a : Addr} {o : HO} {x : MO} (h : Post G W R1 m σ H (.ok d (S.set n x)) Q) (sim : Sim G m H S) (ha : m[n]? = some a)
    (ho : Ext m H m (upd H a o) → RepO G m (upd H a o) a x) (q : Ext m H m (upd H a o) → R1 m (upd H a o) d v) : Q v (upd H a o) := by
  obtain ⟨e, s⟩ := sim.write ha ho
  exact h _ _ v e s (q e)
theorem Post.if_ {c : Bool} {d : α} {Q : β → Hp → Prop} (h : Post G W R1 m σ H (okIf c d S) Q) : c = true ∧ Post G W R1 m σ H (.ok d S) Q := by
  cases c with
  | false => exact h.elim
  | true => exact ⟨rfl, h⟩
theorem Post.o_ {o : Option α} {Q : β → Hp → Prop} (h : Post G W R1 m σ H (okO o S) Q) : ∃ d, o = some d ∧ Post G W R1 m σ H (.ok d S) Q := by
  cases o with
  | none => exact h.elim
  | some d => exact ⟨d, rfl, h⟩

/-! ### lists and tuples as the hand layer reads them -/
theorem rep_lst {ds : List D} {v : V} (h : Rep G m H (.lst ds) v) : ∃ a xs, v = .ref a ∧ xs.length ≤ big ∧ RepL G m H ds xs ∧ H a = some (.lst xs) := by
  simp only [Rep] at h
  obtain ⟨a, xs, e, z, r, q, n⟩ := h
  exact ⟨a, xs, e, z, r, q⟩
theorem rep_scr {ds : List D} {v : V} (h : Rep G m H (.scr ds) v) : ∃ a xs, v = .ref a ∧ xs.length ≤ big ∧ RepL G m H ds xs ∧ SqL G.K H a xs := by
  simp only [Rep] at h
  obtain ⟨a, xs, e, z, r, q⟩ := h
  refine ⟨a, xs, e, z, r, ?_⟩
  rcases q with ⟨q, _⟩ | q
  · exact .inl q
  · exact q H
theorem rep_tup {ds : List D} {v : V} (h : Rep G m H (.tup ds) v) : ∃ a xs, v = .ref a ∧ xs.length ≤ big ∧ RepL G m H ds xs ∧ SqT G.K H a xs := by
  simp only [Rep] at h
  obtain ⟨a, xs, e, z, r, q⟩ := h
  refine ⟨a, xs, e, z, r, ?_⟩
  rcases q with ⟨q, _⟩ | q
  · exact .inl q
  · exact q H
theorem rep_lstOf {S : Store} (s : Sim G m H S) {d : D} {v : V} {xs : List D} (h : Rep G m H d v) (e : lstOf S d = some xs) : ∃ a vs, v = .ref a ∧ vs.length ≤ big ∧ RepL G m H xs vs ∧ H a = some (.lst vs) := by
  cases d with
  | lst ys => simp only [lstOf, Option.some.injEq] at e; subst e; exact rep_lst h
  | loc n =>
    simp only [lstOf] at e
    split at e
    · next zs hz =>
      cases e
      obtain ⟨a, ha, vs, h1, z, r⟩ := s.find hz
      simp only [Rep] at h
      obtain ⟨a', e', h'⟩ := h
      rw [ha] at h'; cases h'
      exact ⟨a, vs, e', z, r, h1⟩
    · cases e
  | _ => simp [lstOf] at e
theorem rep_seqOf {S : Store} (s : Sim G m H S) {d : D} {v : V} {xs : List D} (h : Rep G m H d v) (e : seqOf S d = some xs) : ∃ a vs, v = .ref a ∧ vs.length ≤ big ∧ RepL G m H xs vs ∧ (SqL G.K H a vs ∨ SqT G.K H a vs) := by
  cases d with
  | tup ys =>
    simp only [seqOf, Option.some.injEq] at e; subst e
    obtain ⟨a, vs, h1, h2, h3, h4⟩ := rep_tup h
    exact ⟨a, vs, h1, h2, h3, .inr h4⟩
  | lst ys =>
    obtain ⟨a, vs, h1, h2, h3, h4⟩ := rep_lstOf (xs := xs) s h (by simpa only [lstOf, seqOf] using e)
    exact ⟨a, vs, h1, h2, h3, .inl (.of h4)⟩
  | loc n =>
    obtain ⟨a, vs, h1, h2, h3, h4⟩ := rep_lstOf (xs := xs) s h (by simpa only [lstOf, seqOf] using e)
    exact ⟨a, vs, h1, h2, h3, .inl (.of h4)⟩
  | scr ys =>
    simp only [seqOf, Option.some.injEq] at e; subst e
    obtain ⟨a, vs, h1, h2, h3, h4⟩ := rep_scr h
    exact ⟨a, vs, h1, h2, h3, .inl h4⟩
  | _ => simp [seqOf] at e
/-- a new list, a new tuple -/
theorem rep_newL {p : Addr} {ds : List D} {xs : List V} (r : RepL G m H ds xs) (z : xs.length ≤ big) (e : Ext m H m (upd H p (.lst xs))) (n : Cl G m p) : Rep G m (upd H p (.lst xs)) (.lst ds) (.ref p) := by
  simp only [Rep]
  exact ⟨p, xs, rfl, z, r.ext e, upd_same, n⟩
theorem rep_newT {p : Addr} {ds : List D} {xs : List V} (r : RepL G m H ds xs) (z : xs.length ≤ big) (e : Ext m H m (upd H p (.tup xs))) (n : Cl G m p) : Rep G m (upd H p (.tup xs)) (.tup ds) (.ref p) := by
  simp only [Rep]
  exact ⟨p, xs, rfl, z, r.ext e, .inl ⟨.inl upd_same, n⟩⟩
/-- mkL: a new list, of either kind -/
theorem post_mkL {mu : Bool} {ds : List D} {xs : List V} {Q : VK} {p : Addr} (h : PostE G W m σ H (mkL mu ds S) Q) (sim : Sim G m H S) (n : H p = none) (r : RepL G m H ds xs) (z : xs.length ≤ big) : Q (.ref p) (upd H p (.lst xs)) := by
  cases mu with
  | false => exact Post.new (R1 := Rep G) (d := .lst ds) h sim n fun e np => rep_newL r z e np
  | true =>
    refine Post.news (R1 := Rep G) (d := .loc S.length) (x := .list ds) h sim n (fun e => ⟨xs, upd_same, z, r.ext e⟩) fun e => ?_
    simp only [Rep]
    refine ⟨p, rfl, ?_⟩
    rw [← sim.len, List.getElem?_append_right (Nat.le_refl _)]
    simp
end
end Ev
/-! Ev, part B2: objects in the making. -/
namespace Ev
open PySem L2
section
variable {G : GC} {m : List Addr} {H : Hp} {l : List Addr}
theorem rd_some {a : Addr} {u : HO} (h : Rd H a u) : ∃ o, H a = some o := by
  rcases h with h | ⟨o, h⟩ <;> exact ⟨_, h⟩
theorem Cl.up {a : Addr} {o : HO} (n : Cl G m a) (e : H a = some o) (f : ∀ a ∈ l, H a = none) : Cl (G.up l) m a := by
  refine ⟨n.1, fun q => ?_⟩
  rcases List.mem_append.mp (show a ∈ l ++ G.av from q) with q | q
  · rw [f a q] at e; cases e
  · exact n.2 q
theorem Cl.dn {a : Addr} (n : Cl (G.up l) m a) : Cl G m a := ⟨n.1, fun q => n.2 (List.mem_append.mpr (.inr q))⟩
mutual
theorem Rep.up (f : ∀ a ∈ l, H a = none) : ∀ {d : D} {v : V}, Rep G m H d v → Rep (G.up l) m H d v
  | .non, _, h => by simpa only [Rep] using h
  | .bl _, _, h => by simpa only [Rep] using h
  | .int _, _, h => by simpa only [Rep] using h
  | .str _, _, h => by simpa only [Rep] using h
  | .tup ds, _, h => by
    simp only [Rep] at h ⊢
    obtain ⟨a, xs, e1, hz, hl, q⟩ := h
    refine ⟨a, xs, e1, hz, RepL.up f hl, ?_⟩
    rcases q with ⟨q, n⟩ | q
    · obtain ⟨o, e⟩ := rd_some q
      exact .inl ⟨q, n.up e f⟩
    · exact .inr q
  | .lst ds, _, h => by
    simp only [Rep] at h ⊢
    obtain ⟨a, xs, e1, hz, hl, q, n⟩ := h
    exact ⟨a, xs, e1, hz, RepL.up f hl, q, n.up q f⟩
  | .scr ds, _, h => by
    simp only [Rep] at h ⊢
    obtain ⟨a, xs, e1, hz, hl, q⟩ := h
    refine ⟨a, xs, e1, hz, RepL.up f hl, ?_⟩
    rcases q with ⟨q, n⟩ | q
    · obtain ⟨o, e⟩ := rd_some q
      exact .inl ⟨q, n.up e f⟩
    · exact .inr q
  | .loc n, _, h => by simpa only [Rep] using h
  | .fn f, _, h => by simp only [Rep] at h ⊢; exact h
  | .cls c, _, h => by simp only [Rep] at h ⊢; exact h
theorem RepL.up (f : ∀ a ∈ l, H a = none) : ∀ {ds : List D} {vs : List V}, RepL G m H ds vs → RepL (G.up l) m H ds vs
  | [], _, h => by simpa only [RepL] using h
  | d :: ds, _, h => by
    simp only [RepL] at h ⊢
    obtain ⟨v, r, e1, h1, h2⟩ := h
    exact ⟨v, r, e1, Rep.up f h1, RepL.up f h2⟩
end
mutual
theorem Rep.dn : ∀ {d : D} {v : V}, Rep (G.up l) m H d v → Rep G m H d v
  | .non, _, h => by simpa only [Rep] using h
  | .bl _, _, h => by simpa only [Rep] using h
  | .int _, _, h => by simpa only [Rep] using h
  | .str _, _, h => by simpa only [Rep] using h
  | .tup ds, _, h => by
    simp only [Rep] at h ⊢
    obtain ⟨a, xs, e1, hz, hl, q⟩ := h
    refine ⟨a, xs, e1, hz, RepL.dn hl, ?_⟩
    rcases q with ⟨q, n⟩ | q
    · exact .inl ⟨q, n.dn⟩
    · exact .inr q
  | .lst ds, _, h => by
    simp only [Rep] at h ⊢
    obtain ⟨a, xs, e1, hz, hl, q, n⟩ := h
    exact ⟨a, xs, e1, hz, RepL.dn hl, q, n.dn⟩
  | .scr ds, _, h => by
    simp only [Rep] at h ⊢
    obtain ⟨a, xs, e1, hz, hl, q⟩ := h
    refine ⟨a, xs, e1, hz, RepL.dn hl, ?_⟩
    rcases q with ⟨q, n⟩ | q
    · exact .inl ⟨q, n.dn⟩
    · exact .inr q
  | .loc n, _, h => by simpa only [Rep] using h
  | .fn f, _, h => by simp only [Rep] at h ⊢; exact h
  | .cls c, _, h => by simp only [Rep] at h ⊢; exact h
theorem RepL.dn : ∀ {ds : List D} {vs : List V}, RepL (G.up l) m H ds vs → RepL G m H ds vs
  | [], _, h => by simpa only [RepL] using h
  | d :: ds, _, h => by
    simp only [RepL] at h ⊢
    obtain ⟨v, r, e1, h1, h2⟩ := h
    exact ⟨v, r, e1, Rep.dn h1, RepL.dn h2⟩
end
/-- an object in the making is changed -/
theorem rd_av {a p : Addr} {u o : HO} (ha : p ∈ G.av) (n : Cl G m a) (q : Rd H a u) : Rd (upd H p o) a u := by
  have hne : a ≠ p := fun z => n.2 (z ▸ ha)
  unfold Rd at q ⊢
  rwa [upd_ne hne]
mutual
theorem Rep.av {p : Addr} {o : HO} (ha : p ∈ G.av) : ∀ {d : D} {v : V}, Rep G m H d v → Rep G m (upd H p o) d v
  | .non, _, h => by simpa only [Rep] using h
  | .bl _, _, h => by simpa only [Rep] using h
  | .int _, _, h => by simpa only [Rep] using h
  | .str _, _, h => by simpa only [Rep] using h
  | .tup ds, _, h => by
    simp only [Rep] at h ⊢
    obtain ⟨a, xs, e1, hz, hl, q⟩ := h
    refine ⟨a, xs, e1, hz, RepL.av ha hl, ?_⟩
    rcases q with ⟨q, n⟩ | q
    · exact .inl ⟨rd_av ha n q, n⟩
    · exact .inr q
  | .lst ds, _, h => by
    simp only [Rep] at h ⊢
    obtain ⟨a, xs, e1, hz, hl, q, n⟩ := h
    exact ⟨a, xs, e1, hz, RepL.av ha hl, by rw [upd_ne (fun (z : a = p) => n.2 (by rw [z]; exact ha))]; exact q, n⟩
  | .scr ds, _, h => by
    simp only [Rep] at h ⊢
    obtain ⟨a, xs, e1, hz, hl, q⟩ := h
    refine ⟨a, xs, e1, hz, RepL.av ha hl, ?_⟩
    rcases q with ⟨q, n⟩ | q
    · exact .inl ⟨rd_av ha n q, n⟩
    · exact .inr q
  | .loc n, _, h => by simpa only [Rep] using h
  | .fn f, _, h => by simpa only [Rep] using h
  | .cls c, _, h => by simpa only [Rep] using h
theorem RepL.av {p : Addr} {o : HO} (ha : p ∈ G.av) : ∀ {ds : List D} {vs : List V}, RepL G m H ds vs → RepL G m (upd H p o) ds vs
  | [], _, h => by simpa only [RepL] using h
  | d :: ds, _, h => by
    simp only [RepL] at h ⊢
    obtain ⟨v, r, e1, h1, h2⟩ := h
    exact ⟨v, r, e1, Rep.av ha h1, RepL.av ha h2⟩
end
theorem PairD.up (f : ∀ a ∈ l, H a = none) : ∀ {kvs : List (D × D)} {xs : List (NestedKey × Addr × Value)}, PairD G m H kvs xs → PairD (G.up l) m H kvs xs
  | [], _, h => h
  | (k, d) :: kvs, _, ⟨x, r, e1, e2, e3, h1, ⟨v, rv, h2⟩, h3⟩ => ⟨x, r, e1, e2, e3, h1.up f, ⟨v, rv, h2.up f⟩, PairD.up f h3⟩
theorem PairD.dn : ∀ {kvs : List (D × D)} {xs : List (NestedKey × Addr × Value)}, PairD (G.up l) m H kvs xs → PairD G m H kvs xs
  | [], _, h => h
  | (k, d) :: kvs, _, ⟨x, r, e1, e2, e3, h1, ⟨v, rv, h2⟩, h3⟩ => ⟨x, r, e1, e2, e3, h1.dn, ⟨v, rv, h2.dn⟩, PairD.dn h3⟩
theorem PairD.av {p : Addr} {o : HO} (ha : p ∈ G.av) : ∀ {kvs : List (D × D)} {xs : List (NestedKey × Addr × Value)}, PairD G m H kvs xs → PairD G m (upd H p o) kvs xs
  | [], _, h => h
  | (k, d) :: kvs, _, ⟨x, r, e1, e2, e3, h1, ⟨v, rv, h2⟩, h3⟩ => ⟨x, r, e1, e2, e3, h1.av ha, ⟨v, rv, h2.av ha⟩, PairD.av ha h3⟩
theorem RepO.up (f : ∀ a ∈ l, H a = none) {a : Addr} : ∀ {o : MO}, RepO G m H a o → RepO (G.up l) m H a o
  | .list xs, ⟨vs, h, z, r⟩ => ⟨vs, h, z, r.up f⟩
  | .dict _, ⟨xs, h, z, n, p, nd⟩ => ⟨xs, h, z, n, p.up f, nd⟩
  | .ins _ _, h => h.elim
theorem RepO.dn {a : Addr} : ∀ {o : MO}, RepO (G.up l) m H a o → RepO G m H a o
  | .list xs, ⟨vs, h, z, r⟩ => ⟨vs, h, z, r.dn⟩
  | .dict _, ⟨xs, h, z, n, p, nd⟩ => ⟨xs, h, z, n, p.dn, nd⟩
  | .ins _ _, h => h.elim
theorem RepO.av {p : Addr} {u : HO} (ha : p ∈ G.av) {a : Addr} (hne : a ≠ p) : ∀ {o : MO}, RepO G m H a o → RepO G m (upd H p u) a o
  | .list xs, ⟨vs, h, z, r⟩ => ⟨vs, by rw [upd_ne hne]; exact h, z, r.av ha⟩
  | .dict _, ⟨xs, h, z, n, p, nd⟩ => ⟨xs, by rw [upd_ne hne]; exact h, z, n, p.av ha, nd⟩
  | .ins _ _, h => h.elim
variable {S : Store}
theorem Sim.dn (s : Sim (G.up l) m H S) : Sim G m H S := ⟨s.len, s.nd, fun a h => s.live a (List.mem_append.mpr (.inr h)), fun n a o e1 e2 => (s.obj n a o e1 e2).dn⟩
theorem Sim.av (s : Sim G m H S) {p : Addr} {u : HO} (ha : p ∈ G.av) : Sim G m (upd H p u) S := by
  refine ⟨s.len, s.nd, fun a h => ⟨?_, (s.live a h).2⟩, fun n a o e1 e2 => (s.obj n a o e1 e2).av ha fun z => (s.live p ha).2 (z ▸ List.mem_of_getElem? e1)⟩
  by_cases z : a = p
  · subst z; exact ⟨_, upd_same⟩
  · rw [upd_ne z]; exact (s.live a h).1
/-- a new object in the making -/
theorem Sim.make (s : Sim G m H S) {p : Addr} {u : HO} (h : H p = none) : Ext m H m (upd H p u) ∧ Sim (G.up [p]) m (upd H p u) S := by
  have hne : ∀ b o, H b = some o → b ≠ p := fun b o e z => by rw [z, h] at e; cases e
  have f : ∀ a ∈ [p], H a = none := fun a q => by cases List.mem_singleton.mp q; exact h
  refine ⟨⟨fun _ _ q => q, fun b o n q => ⟨by rw [upd_ne (hne b o q)]; exact q, n⟩⟩, s.len, s.nd, fun a ha => ?_, fun n a o e1 e2 => ?_⟩
  · rcases List.mem_append.mp (show a ∈ [p] ++ G.av from ha) with q | q
    · cases List.mem_singleton.mp q
      exact ⟨⟨_, upd_same⟩, s.fresh h⟩
    · obtain ⟨⟨o, e⟩, n⟩ := s.live a q
      exact ⟨⟨o, by rw [upd_ne (hne _ _ e)]; exact e⟩, n⟩
  · have r := s.obj n a o e1 e2
    obtain ⟨w, e, _⟩ := r.there
    exact (r.up f).av (G := G.up [p]) (List.mem_append.mpr (.inl (List.mem_singleton.mpr rfl))) (hne _ _ e)
variable {σ : St} {τ : Slots}
theorem RelS.up (r : RelS G m H σ τ) (f : ∀ a ∈ l, H a = none) : RelS (G.up l) m H σ τ := ⟨r.len, fun i d h => let ⟨v, e, q⟩ := r.at_ i d h; ⟨v, e, q.up f⟩⟩
theorem RelS.av (r : RelS G m H σ τ) {p : Addr} {u : HO} (ha : p ∈ G.av) : RelS G m (upd H p u) σ τ := ⟨r.len, fun i d h => let ⟨v, e, q⟩ := r.at_ i d h; ⟨v, e, q.av ha⟩⟩
end
end Ev
/-! Ev, part C: the operations by values. -/
namespace Ev
open PySem L2
theorem big_eq : big = sizeLine := by rw [sizeLine_eq]; rfl

/-! ### data as the library's -/
mutual
def D.py : D → PyData
  | .non => .none
  | .bl b => .bool b
  | .int i => .int i
  | .str x => .str x
  | .tup xs => .tuple (D.pyL xs)
  | .lst xs => .list (D.pyL xs)
  | _ => .none
def D.pyL : List D → List PyData
  | [] => []
  | x :: xs => D.py x :: D.pyL xs
end
section
variable {G : GC} {m : List Addr} {H : Hp}
mutual
theorem flat_dp : ∀ (n : Nat) (d : D) (v : V), d.flat n = true → Rep G m H d v → Dp G.K H v d.py ∧ d.py.canLay0 = true ∧ d.py.depth ≤ n
  | n, .non, v, _, h => by simp only [Rep] at h; subst h; exact ⟨.non, by simp only [D.py, PyData.canLay0], by simp [D.py, PyData.depth]⟩
  | n, .bl b, v, _, h => by simp only [Rep] at h; subst h; exact ⟨.bl b, by simp only [D.py, PyData.canLay0], by simp [D.py, PyData.depth]⟩
  | n, .int i, v, _, h => by simp only [Rep] at h; subst h; exact ⟨.int i, by simp only [D.py, PyData.canLay0], by simp [D.py, PyData.depth]⟩
  | n, .str x, v, _, h => by
    simp only [Rep] at h
    obtain ⟨rfl, h1, h2⟩ := h
    exact ⟨.str x, by simp only [D.py, PyData.canLay0]; exact h1, by simp [D.py, PyData.depth]⟩
  | n + 1, .tup xs, v, f, h => by
    obtain ⟨a, vs, rfl, z, r, q⟩ := rep_tup h
    simp only [D.flat] at f
    obtain ⟨h1, h2, h3⟩ := flat_dpL n xs vs f r
    exact ⟨.tup q h1, by simpa only [D.py, PyData.canLay0] using h2, by simp only [D.py, PyData.depth]; omega⟩
  | n + 1, .lst xs, v, f, h => by
    obtain ⟨a, vs, rfl, z, r, q⟩ := rep_lst h
    simp only [D.flat] at f
    obtain ⟨h1, h2, h3⟩ := flat_dpL n xs vs f r
    exact ⟨.lst (.of q) h1, by simpa only [D.py, PyData.canLay0] using h2, by simp only [D.py, PyData.depth]; omega⟩
  | 0, .tup xs, v, f, h => by simp [D.flat] at f
  | 0, .lst xs, v, f, h => by simp [D.flat] at f
  | n, .loc k, v, f, h => by cases n <;> simp [D.flat] at f
  | n, .fn k, v, f, h => by cases n <;> simp [D.flat] at f
  | n, .cls k, v, f, h => by cases n <;> simp [D.flat] at f
theorem flat_dpL : ∀ (n : Nat) (ds : List D) (vs : List V), D.flatL n ds = true → RepL G m H ds vs → DpAll G.K H vs (D.pyL ds) ∧ PyData.canLayAll0 (D.pyL ds) = true ∧ PyData.depthAll (D.pyL ds) ≤ n
  | n, [], vs, _, h => by simp only [RepL] at h; subst h; exact ⟨.nil, by simp only [D.pyL, PyData.canLayAll0], by simp [D.pyL, PyData.depthAll]⟩
  | n, d :: ds, vs, f, h => by
    simp only [RepL] at h
    obtain ⟨v, r, rfl, h1, h2⟩ := h
    simp only [D.flatL, Bool.and_eq_true] at f
    obtain ⟨a1, a2, a3⟩ := flat_dp n d v f.1 h1
    obtain ⟨b1, b2, b3⟩ := flat_dpL n ds r f.2 h2
    exact ⟨.cons a1 b1, by simp only [D.pyL, PyData.canLayAll0, a2, b2, Bool.and_self], by simp only [D.pyL, PyData.depthAll]; omega⟩
end
mutual
theorem py_eqv : ∀ (n : Nat) (a b : D), a.flat n = true → b.flat n = true → PyData.eqv a.py b.py = D.eqv a b
  | n, .non, b, _, fb => by cases b <;> first | (simp only [D.py, PyData.eqv, D.eqv]; done) | (cases n <;> simp [D.flat] at fb; done)
  | n, .bl x, b, _, fb => by cases b <;> first | (simp only [D.py, PyData.eqv, D.eqv]; done) | (cases n <;> simp [D.flat] at fb; done)
  | n, .int x, b, _, fb => by cases b <;> first | (simp only [D.py, PyData.eqv, D.eqv]; done) | (cases n <;> simp [D.flat] at fb; done)
  | n, .str x, b, _, fb => by cases b <;> first | (simp only [D.py, PyData.eqv, D.eqv]; done) | (cases n <;> simp [D.flat] at fb; done)
  | n + 1, .tup xs, b, fa, fb => by
    cases b with
    | tup ys => simp only [D.flat] at fa fb; simp only [D.py, PyData.eqv, D.eqv]; exact py_eqvL n xs ys fa fb
    | _ => first | (simp only [D.py, PyData.eqv, D.eqv]; done) | (simp [D.flat] at fb; done)
  | n + 1, .lst xs, b, fa, fb => by
    cases b with
    | lst ys => simp only [D.flat] at fa fb; simp only [D.py, PyData.eqv, D.eqv]; exact py_eqvL n xs ys fa fb
    | _ => first | (simp only [D.py, PyData.eqv, D.eqv]; done) | (simp [D.flat] at fb; done)
  | 0, .tup xs, v, f, h => by simp [D.flat] at f
  | 0, .lst xs, v, f, h => by simp [D.flat] at f
  | n, .loc k, v, f, h => by cases n <;> simp [D.flat] at f
  | n, .fn k, v, f, h => by cases n <;> simp [D.flat] at f
  | n, .cls k, v, f, h => by cases n <;> simp [D.flat] at f
theorem py_eqvL : ∀ (n : Nat) (a b : List D), D.flatL n a = true → D.flatL n b = true → PyData.eqvAll (D.pyL a) (D.pyL b) = D.eqvL a b
  | n, [], b, _, _ => by cases b <;> simp only [D.pyL, PyData.eqvAll, D.eqvL]
  | n, x :: xs, b, fa, fb => by
    cases b with
    | nil => simp only [D.pyL, PyData.eqvAll, D.eqvL]
    | cons y ys =>
      simp only [D.flatL, Bool.and_eq_true] at fa fb
      simp only [D.pyL, PyData.eqvAll, D.eqvL, py_eqv n x y fa.1 fb.1, py_eqvL n xs ys fa.2 fb.2]
end
theorem py_any (n : Nat) (d : D) (fd : d.flat n = true) : ∀ (ys : List D), D.flatL n ys = true → ((D.pyL ys).any fun z => PyData.eqv z d.py) = ys.any fun z => D.eqv z d
  | [], _ => rfl
  | y :: ys, f => by
    simp only [D.flatL, Bool.and_eq_true] at f
    simp only [D.pyL, List.any_cons, py_eqv n y d f.1 fd, py_any n d fd ys f.2]
theorem flat_shaped {n : Nat} {d : D} {v : V} (hn : n ≤ 64) (f : d.flat n = true) (r : Rep G m H d v) : Dp G.K H v d.py ∧ SeqAt.shaped d.py = true := by
  obtain ⟨h1, h2, h3⟩ := flat_dp n d v f r
  refine ⟨h1, ?_⟩
  show (d.py.canLay0 && decide (d.py.depth ≤ 64)) = true
  rw [h2, decide_eq_true (by omega)] <;> rfl
theorem rep_rd {S : Store} (s : Sim G m H S) {d : D} {v : V} {n : Nat} (h : Rep G m H d v) (f : (rd S d).flat n = true) (hn : n ≤ 60) : Dp G.K H v (rd S d).py ∧ SeqAt.shaped (rd S d).py = true := by
  cases d with
  | loc k =>
    simp only [rd] at f ⊢
    split at f
    · next xs hz =>
      obtain ⟨a, ha, vs, h1, z, r⟩ := s.find hz
      simp only [Rep] at h
      obtain ⟨a', e', h'⟩ := h
      rw [ha] at h'; cases h'
      cases n with
      | zero => simp [D.flat] at f
      | succ n =>
        simp only [D.flat] at f
        obtain ⟨b1, b2, b3⟩ := flat_dpL n xs vs f r
        subst e'
        refine ⟨.lst (.of h1) b1, ?_⟩
        show (PyData.canLay0 (.list (D.pyL xs)) && decide (PyData.depth (.list (D.pyL xs)) ≤ 64)) = true
        simp only [PyData.canLay0, PyData.depth, b2, Bool.true_and]
        exact decide_eq_true (by omega)
    · cases n <;> simp [D.flat] at f
  | _ => exact flat_shaped (by omega) f h
end

/-! ### the rules by values -/
section
variable {G : GC} {W : WX} {X : Cx} {pins : List (Addr × Obj)} {σ : St} {H : Hp} {s : Shared} {m : List Addr} {S : Store} {x y : V} {v u : Value} {Q : VK} {a b : D}
/-- what a place must be -/
structure At (G : GC) (X : Cx) : Prop where
  K : X.K = G.K
  pr : X.prog = G.P
  wd : X.w = G.w
  calm : X.calm = true
  un : X.A.units + 65 < cLine
def opO : BO → Operator
  | .add => .Add | .sub => .Sub | .mul => .Mult | .fdiv => .FloorDiv | .mod => .Mod | .pow => .Pow
theorem binop_ok (A : At G X) (o : BO) (I : Inv X pins σ H s) (rx : RelV x v) (ry : RelV y u) (ha : Rep G m H a x) (hb : Rep G m H b y) (sim : Sim G m H S) (h : PostE G W m σ H (binop o a b S) Q) :
    wpAny (model X.prog X.w) X.A (binaryOp (opO o) v u) (EP X pins σ Q) X.xe s := by
  cases o with
  | sub =>
    cases a <;> cases b <;> first | exact h.elim | skip
    simp only [Rep] at ha hb
    exact op_sub pins s σ H x y v u Q I rx ry ⟨_, _, ha, hb, h.done sim (by simp only [Rep])⟩
  | mul =>
    cases a <;> cases b <;> first | exact h.elim | skip
    simp only [Rep] at ha hb
    obtain ⟨c, h⟩ := Post.if_ h
    have q := h.done (v := V.int _) sim (by simp only [Rep]; exact rfl)
    simp only [mulOk, Bool.or_eq_true, Bool.and_eq_true, decide_eq_true_eq] at c
    rcases c with c | c
    · exact op_mul pins s σ H x y v u Q I rx ry ⟨_, _, ha, hb, c, q⟩
    · exact op_mulW pins s σ H x y v u Q I rx ry ⟨_, _, ha, hb, c, q⟩
  | fdiv =>
    cases a <;> cases b <;> first | exact h.elim | skip
    simp only [Rep] at ha hb
    obtain ⟨c, h⟩ := Post.if_ h
    have q := h.done (v := V.int _) sim (by simp only [Rep]; exact rfl)
    simp only [divOk, Bool.and_eq_true, decide_eq_true_eq] at c
    exact op_fdivW pins s σ H x y v u Q I rx ry ⟨_, _, ha, hb, c, q⟩
  | mod =>
    cases a <;> cases b <;> first | exact h.elim | skip
    simp only [Rep] at ha hb
    obtain ⟨c, h⟩ := Post.if_ h
    have q := h.done (v := V.int _) sim (by simp only [Rep]; exact rfl)
    simp only [decide_eq_true_eq] at c
    exact op_mod pins s σ H x y v u Q I rx ry ⟨_, _, ha, hb, c, q⟩
  | pow =>
    cases a <;> cases b <;> first | exact h.elim | skip
    simp only [Rep] at ha hb
    obtain ⟨c, h⟩ := Post.if_ h
    have q := h.done (v := V.int _) sim (by simp only [Rep]; exact rfl)
    simp only [Bool.and_eq_true, decide_eq_true_eq] at c
    exact op_pow pins s σ H x y v u Q I rx ry ⟨_, _, ha, hb, ⟨c.1.1, c.1.2, c.2⟩, q⟩
  | add =>
    have lists : ∀ {xs ys : List D}, lstOf S a = some xs → lstOf S b = some ys → PostE G W m σ H (okIf (decide (xs.length + ys.length ≤ big)) (.lst (xs ++ ys)) S) Q → wpAny (model X.prog X.w) X.A (binaryOp .Add v u) (EP X pins σ Q) X.xe s := by
      intro xs ys e1 e2 h
      obtain ⟨c, h⟩ := Post.if_ h
      simp only [decide_eq_true_eq] at c
      obtain ⟨l, vs, rfl, z1, r1, q1⟩ := rep_lstOf sim ha e1
      obtain ⟨l', ws, rfl, z2, r2, q2⟩ := rep_lstOf sim hb e2
      have n1 := r1.length
      have n2 := r2.length
      refine op_cat pins s σ H _ _ v u Q I rx ry ⟨l, l', vs, ws, rfl, rfl, q1, q2, by rw [← big_eq]; omega, fun p np => ?_⟩
      exact h.new sim np fun e n => rep_newL (r1.app r2) (by rw [List.length_append]; omega) e n
    cases a with
    | int i =>
      cases b with
      | int j =>
        simp only [Rep] at ha hb
        exact op_add pins s σ H x y v u Q I rx ry ⟨_, _, ha, hb, h.done sim (by simp only [Rep])⟩
      | _ => exact h.elim
    | str i =>
      cases b with
      | str j =>
        simp only [Rep] at ha hb
        obtain ⟨c, h⟩ := Post.if_ h
        simp only [decide_eq_true_eq] at c
        refine op_add_str pins s σ H x y v u Q I rx ry ⟨_, _, ha.1, hb.1, by rw [← big_eq]; exact c, h.done sim ?_⟩
        simp only [Rep]
        refine ⟨True.intro, ?_, ?_⟩
        · have h1 : i.cps.all (· < 0x110000) = true := ha.2.1
          have h2 : j.cps.all (· < 0x110000) = true := hb.2.1
          show (i.cps ++ j.cps).all (· < 0x110000) = true
          rw [Array.all_append, h1, h2] <;> rfl
        · show (i.cps ++ j.cps).size ≤ big
          rw [Array.size_append]; exact c
      | _ => exact h.elim
    | tup xs =>
      cases b with
      | tup ys =>
        obtain ⟨c, h⟩ := Post.if_ h
        simp only [decide_eq_true_eq] at c
        obtain ⟨l, vs, rfl, z1, r1, q1⟩ := rep_tup ha
        obtain ⟨l', ws, rfl, z2, r2, q2⟩ := rep_tup hb
        have n1 := r1.length
        have n2 := r2.length
        refine op_catA pins s σ H _ _ v u Q I rx ry ⟨l, l', vs, ws, rfl, rfl, A.K ▸ q1, A.K ▸ q2, by rw [← big_eq]; omega, fun e => ?_, fun e1 e2 => ?_, fun e1 e2 p np => ?_⟩
        · have e' : xs = [] := List.eq_nil_of_length_eq_zero (by rw [← n1, e]; rfl)
          subst e'
          exact h.done sim (by simpa only [List.nil_append] using hb)
        · have e' : ys = [] := List.eq_nil_of_length_eq_zero (by rw [← n2, e2]; rfl)
          subst e'
          exact h.done sim (by simpa only [List.append_nil] using ha)
        · exact h.new sim np fun e n => rep_newT (r1.app r2) (by rw [List.length_append]; omega) e n
      | _ => exact h.elim
    | lst xs =>
      cases hb2 : lstOf S b with
      | none => cases b <;> simp_all [binop, lstOf, Post]
      | some ys => exact lists (xs := xs) (ys := ys) rfl hb2 (by cases b <;> simp_all [lstOf, binop])
    | loc n =>
      cases ha2 : lstOf S (.loc n) with
      | none => cases b <;> simp [binop, ha2, Post] at h
      | some xs =>
        cases hb2 : lstOf S b with
        | none => cases b <;> simp_all [binop, Post]
        | some ys => exact lists (xs := xs) (ys := ys) ha2 hb2 (by cases b <;> simp_all [binop])
    | _ => cases b <;> simp [binop, lstOf, Post] at h
end
end Ev
/-! Ev, part C1: dicts whose keys are tuples. -/
namespace Ev
open PySem L2
mutual
theorem nk_inj : ∀ {a b : D} {k : NestedKey}, nk a = some k → nk b = some k → a = b
  | .int i, b, k, h1, h2 => by
    simp only [nk, Option.some.injEq] at h1; subst h1
    cases b <;> simp [nk] at h2
    rw [h2]
  | .str i, b, k, h1, h2 => by
    simp only [nk, Option.some.injEq] at h1; subst h1
    cases b <;> simp [nk] at h2
    rw [h2]
  | .tup xs, b, k, h1, h2 => by
    simp only [nk, Option.map_eq_some_iff] at h1
    obtain ⟨ks, h1, rfl⟩ := h1
    cases b <;> simp [nk] at h2
    rw [nkL_inj h1 h2]
  | .non, _, _, h1, _ => by simp [nk] at h1
  | .bl _, _, _, h1, _ => by simp [nk] at h1
  | .lst _, _, _, h1, _ => by simp [nk] at h1
  | .loc _, _, _, h1, _ => by simp [nk] at h1
  | .fn _, _, _, h1, _ => by simp [nk] at h1
  | .cls _, _, _, h1, _ => by simp [nk] at h1
  | .scr _, _, _, h1, _ => by simp [nk] at h1
theorem nkL_inj : ∀ {a b : List D} {k : List NestedKey}, nkL a = some k → nkL b = some k → a = b
  | [], [], _, _, _ => rfl
  | [], y :: ys, k, h1, h2 => by
    simp only [nkL, Option.some.injEq] at h1; subst h1
    simp only [nkL] at h2
    split at h2 <;> simp at h2
  | x :: xs, [], k, h1, h2 => by
    simp only [nkL, Option.some.injEq] at h2; subst h2
    simp only [nkL] at h1
    split at h1 <;> simp at h1
  | x :: xs, y :: ys, k, h1, h2 => by
    simp only [nkL] at h1 h2
    split at h1
    · next k1 ks1 e1 e2 =>
      cases h1
      split at h2
      · next k2 ks2 e3 e4 =>
        cases h2
        rw [nk_inj e1 e3, nkL_inj e2 e4]
      · cases h2
    · cases h1
end
mutual
theorem nk_some : ∀ (n : Nat) (d : D), d.key n = true → ∃ k, nk d = some k ∧ k.depth ≤ n
  | _, .int i, _ => ⟨_, rfl, Nat.zero_le _⟩
  | _, .str x, _ => ⟨_, rfl, Nat.zero_le _⟩
  | 0, .tup xs, h => by simp [D.key] at h
  | n + 1, .tup xs, h => by
    simp only [D.key] at h
    obtain ⟨ks, e, l⟩ := nkL_some n xs h
    exact ⟨.tup ks, by simp only [nk, e, Option.map_some], by simp only [NestedKey.depth]; omega⟩
  | n, .non, h => by cases n <;> simp [D.key] at h
  | n, .bl _, h => by cases n <;> simp [D.key] at h
  | n, .lst _, h => by cases n <;> simp [D.key] at h
  | n, .loc _, h => by cases n <;> simp [D.key] at h
  | n, .fn _, h => by cases n <;> simp [D.key] at h
  | n, .cls _, h => by cases n <;> simp [D.key] at h
  | n, .scr _, h => by cases n <;> simp [D.key] at h
theorem nkL_some : ∀ (n : Nat) (ds : List D), D.keyL n ds = true → ∃ ks, nkL ds = some ks ∧ NestedKey.depthAll ks ≤ n
  | n, [], _ => ⟨[], rfl, Nat.zero_le _⟩
  | n, d :: ds, h => by
    simp only [D.keyL, Bool.and_eq_true] at h
    obtain ⟨k, e1, l1⟩ := nk_some n d h.1
    obtain ⟨ks, e2, l2⟩ := nkL_some n ds h.2
    exact ⟨k :: ks, by simp only [nkL, e1, e2], by simp only [NestedKey.depthAll]; omega⟩
end
theorem keyT_some {d : D} (h : keyT d = true) : ∃ k, nk d = some k ∧ k.depth ≤ 8 ∧ ∃ xs, d = .tup xs := by
  cases d <;> simp [keyT] at h
  rename_i xs
  obtain ⟨ks, e, l⟩ := nkL_some 7 xs h
  exact ⟨.tup ks, by simp only [nk, e, Option.map_some], by simp only [NestedKey.depth]; omega, xs, rfl⟩
section
variable {G : GC} {m : List Addr} {H : Hp} {X : Cx} {pins : List (Addr × Obj)} {σ : St} {s : Shared}
mutual
theorem nk_is (A : At G X) (I : Inv X pins σ H s) : ∀ {d : D} {v : V} {u : Value} {k : NestedKey}, Rep G m H d v → RelV v u → nk d = some k → NestedIs s.heap k u
  | .int i, v, u, k, h, r, e => by
    simp only [Rep] at h; subst h
    simp only [nk, Option.some.injEq] at e; subst e
    obtain ⟨t, rfl⟩ := r
    exact .int i t
  | .str x, v, u, k, h, r, e => by
    simp only [Rep] at h
    rw [h.1] at r
    simp only [nk, Option.some.injEq] at e; subst e
    obtain ⟨t, rfl⟩ := r
    exact .text x t
  | .tup xs, v, u, k, h, r, e => by
    obtain ⟨a, vs, rfl, z, rl, q⟩ := rep_tup h
    simp only [nk, Option.map_eq_some_iff] at e
    obtain ⟨ks, e, rfl⟩ := e
    rw [← A.K] at q
    obtain ⟨its, rv, ⟨o, h1, h2, n, h3⟩, hz⟩ := I.tuple q
    cases r
    exact .tup h1 h2 h3 (by rw [List.toList_toArray]; exact nk_all A I rl rv e)
  | .non, _, _, _, _, _, e => by simp [nk] at e
  | .bl _, _, _, _, _, _, e => by simp [nk] at e
  | .lst _, _, _, _, _, _, e => by simp [nk] at e
  | .loc _, _, _, _, _, _, e => by simp [nk] at e
  | .fn _, _, _, _, _, _, e => by simp [nk] at e
  | .cls _, _, _, _, _, _, e => by simp [nk] at e
  | .scr _, _, _, _, _, _, e => by simp [nk] at e
theorem nk_all (A : At G X) (I : Inv X pins σ H s) : ∀ {ds : List D} {vs : List V} {us : List Value} {ks : List NestedKey}, RepL G m H ds vs → Vals vs us → nkL ds = some ks → NestedAll s.heap ks us
  | [], vs, us, ks, h, r, e => by
    simp only [RepL] at h; subst h
    simp only [nkL, Option.some.injEq] at e; subst e
    cases r
    exact .nil
  | d :: ds, vs, us, ks, h, r, e => by
    simp only [RepL] at h
    obtain ⟨v, vr, rfl, h1, h2⟩ := h
    cases r with
    | cons r1 r2 =>
      simp only [nkL] at e
      split at e
      · next k ks' e1 e2 =>
        cases e
        exact .cons (nk_is A I h1 r1 e1) (nk_all A I h2 r2 e2)
      · cases e
end
theorem key_is (A : At G X) (I : Inv X pins σ H s) {d : D} {b : Addr} (h : Rep G m H d (.ref b)) (hk : keyT d = true) : ∃ k, nk d = some k ∧ (nestedKind X.prog X.w).is s.heap k b := by
  obtain ⟨k, e, l, _⟩ := keyT_some hk
  exact ⟨k, e, nk_is A I h rfl e, l⟩
/-- the entries, as the text's own dict -/
theorem PairD.keys (A : At G X) (I : Inv X pins σ H s) : ∀ {kvs : List (D × D)} {xs : List (NestedKey × Addr × Value)}, PairD G m H kvs xs → ∀ x ∈ xs, (nestedKind X.prog X.w).is s.heap x.1 x.2.1
  | [], _, h, x, hx => by
    have h : _ = [] := h
    subst h; simp at hx
  | (k, d) :: kvs, _, ⟨y, r, e1, e2, e3, h1, h2, h3⟩, x, hx => by
    subst e1
    rcases List.mem_cons.mp hx with rfl | hx
    · obtain ⟨k', e, q⟩ := key_is A I h1 e3
      rw [e2] at e; cases e
      exact q
    · exact PairD.keys A I h3 x hx
theorem dct_of (A : At G X) (I : Inv X pins σ H s) {a : Addr} {kvs : List (D × D)} {xs : List (NestedKey × Addr × Value)} (hH : H a = some (.ext (dctAt G.P G.w a xs))) (p : PairD G m H kvs xs) (nd : (xs.map (·.1)).Nodup) : s.heap.DictOfH (nestedKind X.prog X.w) a xs := by
  obtain ⟨⟨o, es, ep, h1, h2, h3, h4⟩, _, _⟩ := (I.hok a _ hH : ObjOk X.prog X.w H s.heap a (.ext (dctAt G.P G.w a xs)))
  rw [← A.pr, ← A.wd] at h4
  exact ⟨o, es, ep, h1, h2, h3, h4, p.keys A I, nd⟩
theorem PairD.len : ∀ {kvs : List (D × D)} {xs : List (NestedKey × Addr × Value)}, PairD G m H kvs xs → xs.length = kvs.length
  | [], _, h => by
    have h : _ = [] := h
    subst h; rfl
  | (k, d) :: kvs, _, ⟨y, r, e1, e2, e3, h1, h2, h3⟩ => by subst e1; simp [PairD.len h3]
/-- what is found -/
theorem PairD.at_ : ∀ {kvs : List (D × D)} {xs : List (NestedKey × Addr × Value)} {kd : D} {k : NestedKey}, PairD G m H kvs xs → nk kd = some k →
    (lookD kvs kd = none ∧ atKey xs k = none) ∨ ∃ d b u v, lookD kvs kd = some d ∧ atKey xs k = some (b, u) ∧ RelV v u ∧ Rep G m H d v
  | [], _, kd, k, h, e => by
    have h : _ = [] := h
    subst h
    exact .inl ⟨rfl, rfl⟩
  | (k', d) :: kvs, _, kd, k, ⟨y, r, e1, e2, e3, h1, ⟨v, rv, h2⟩, h3⟩, e => by
    subst e1
    obtain ⟨yk, yb, yu⟩ := y
    by_cases hk : k' = kd
    · subst hk
      rw [e2] at e; cases e
      exact .inr ⟨d, yb, yu, v, by simp [lookD], by simp [atKey], rv, h2⟩
    · have hk2 : ¬ yk = k := fun z => hk (by subst z; exact nk_inj e2 e)
      have ih := PairD.at_ h3 e
      have l1 : lookD ((k', d) :: kvs) kd = lookD kvs kd := by simp [lookD, hk]
      have l2 : atKey ((yk, yb, yu) :: r) k = atKey r k := by simp [atKey, hk2]
      rw [l1, l2]
      exact ih
theorem PairD.put {kd d : D} {k : NestedKey} {b : Addr} {u : Value} {v : V} (e : nk kd = some k) (ek : keyT kd = true) (hb : Rep G m H kd (.ref b)) (rv : RelV v u) (hv : Rep G m H d v) :
    ∀ {kvs : List (D × D)} {xs : List (NestedKey × Addr × Value)}, PairD G m H kvs xs → PairD G m H (kvs.map fun p => if p.1 = kd then (p.1, d) else p) (xs.map (putAt k u))
  | [], _, h => by
    have h : _ = [] := h
    subst h; rfl
  | (k', d') :: kvs, _, ⟨y, r, e1, e2, e3, h1, h2, h3⟩ => by
    subst e1
    obtain ⟨yk, yb, yu⟩ := y
    have ih := PairD.put e ek hb rv hv h3
    by_cases hk : k' = kd
    · subst hk
      have hk2 : yk = k := by rw [e2] at e; exact Option.some.inj e
      subst hk2
      simp only [List.map_cons, if_true, putAt]
      exact ⟨_, _, rfl, e2, e3, h1, ⟨v, rv, hv⟩, ih⟩
    · have hk2 : ¬ yk = k := fun z => hk (by subst z; exact nk_inj e2 e)
      simp only [List.map_cons, if_neg hk, putAt, if_neg hk2]
      exact ⟨_, _, rfl, e2, e3, h1, h2, ih⟩
theorem PairD.app {kd d : D} {k : NestedKey} {b : Addr} {u : Value} {v : V} (e : nk kd = some k) (ek : keyT kd = true) (hb : Rep G m H kd (.ref b)) (rv : RelV v u) (hv : Rep G m H d v) :
    ∀ {kvs : List (D × D)} {xs : List (NestedKey × Addr × Value)}, PairD G m H kvs xs → PairD G m H (kvs ++ [(kd, d)]) (xs ++ [(k, b, u)])
  | [], _, h => by
    have h : _ = [] := h
    subst h
    exact ⟨_, _, rfl, e, ek, hb, ⟨v, rv, hv⟩, rfl⟩
  | (k', d') :: kvs, _, ⟨y, r, e1, e2, e3, h1, h2, h3⟩ => by
    subst e1
    exact ⟨_, _, rfl, e2, e3, h1, h2, PairD.app e ek hb rv hv h3⟩
theorem PairD.stored {kd d : D} {k : NestedKey} {b : Addr} {u : Value} {v : V} (e : nk kd = some k) (ek : keyT kd = true) (hb : Rep G m H kd (.ref b)) (rv : RelV v u) (hv : Rep G m H d v)
    {kvs : List (D × D)} {xs : List (NestedKey × Addr × Value)} (p : PairD G m H kvs xs) (nd : (xs.map (·.1)).Nodup) : PairD G m H (storeD kvs kd d) (storedH xs k b u) ∧ ((storedH xs k b u).map (·.1)).Nodup := by
  rcases p.at_ e with ⟨h1, h2⟩ | ⟨d', b', u', v', h1, h2, _⟩
  · rw [storedH_new h2]
    unfold storeD
    rw [h1]
    refine ⟨p.app e ek hb rv hv, ?_⟩
    rw [List.map_append, List.nodup_append]
    refine ⟨nd, by simp, fun x hx y hy z => ?_⟩
    simp only [List.map_cons, List.map_nil, List.mem_singleton] at hy
    subst hy; subst z
    obtain ⟨w, hw, rfl⟩ := List.mem_map.mp hx
    obtain ⟨i, hi⟩ := List.mem_iff_getElem?.mp hw
    rw [atKey_of_get nd (i := i) (k := w.1) (p := w.2) hi] at h2
    cases h2
  · rw [storedH_old h2]
    unfold storeD
    rw [h1]
    refine ⟨p.put e ek hb rv hv, ?_⟩
    rw [keys_map_putAt]; exact nd
/-! ### the four operations -/
variable {S : Store} {x y : V} {v u : Value} {Q : VK} {a b : D}
theorem dict_at (sim : Sim G m H S) (hb : Rep G m H b y) {kvs : List (D × D)} (e : dictOf S b = some kvs) : ∃ n l xs, b = .loc n ∧ m[n]? = some l ∧ S[n]? = some (.dict kvs) ∧ y = .ref l ∧ H l = some (.ext (dctAt G.P G.w l xs)) ∧ kvs.length ≤ big ∧ (l == sysModules) = false ∧ PairD G m H kvs xs ∧ (xs.map (·.1)).Nodup := by
  cases b <;> simp [dictOf] at e
  rename_i n
  split at e
  · next kvs' hS =>
    cases e
    obtain ⟨l, hl, xs, h1, h2, h3, h4, h5⟩ := sim.find hS
    simp only [Rep] at hb
    obtain ⟨l', rfl, hl'⟩ := hb
    rw [hl] at hl'; cases hl'
    exact ⟨n, l, xs, rfl, hl, hS, rfl, h1, h2, h3, h4, h5⟩
  · cases e
theorem key_ref (ha : Rep G m H a x) (hk : keyT a = true) : ∃ p, x = .ref p := by
  obtain ⟨_, _, _, xs, rfl⟩ := keyT_some hk
  obtain ⟨p, _, rfl, _⟩ := rep_tup ha
  exact ⟨p, rfl⟩
theorem room_n (A : At G X) : (nestedKind X.prog X.w).room X.A.in1 := by have := A.un; show X.A.units + 1 + 8 < cLine; omega
theorem dmem_ok (A : At G X) (I : Inv X pins σ H s) (rx : RelV x v) (ry : RelV y u) (ha : Rep G m H a x) (hb : Rep G m H b y) (sim : Sim G m H S) {kvs : List (D × D)} (e : dictOf S b = some kvs) (hk : keyT a = true) :
    (Q (.bl (lookD kvs a).isSome) H → wpAny (model X.prog X.w) X.A (compareOp .In v u) (EP X pins σ Q) X.xe s) ∧
    (Q (.bl (!(lookD kvs a).isSome)) H → wpAny (model X.prog X.w) X.A (compareOp .NotIn v u) (EP X pins σ Q) X.xe s) := by
  obtain ⟨n, l, xs, rfl, hl, hS, rfl, hH, hz, hs, p, nd⟩ := dict_at sim hb e
  obtain ⟨q, rfl⟩ := key_ref ha hk
  obtain ⟨k, ek, hi⟩ := key_is A I ha hk
  cases (show v = Value.ref q from rx)
  cases (show u = Value.ref l from ry)
  have D0 := dct_of A I hH p nd
  have same : (lookD kvs a).isSome = (atKey xs k).isSome := by
    rcases p.at_ ek with ⟨h1, h2⟩ | ⟨_, _, _, _, h1, h2, _⟩ <;> rw [h1, h2] <;> rfl
  have hb2 : (valueAt (pairsH xs) k).isSome = (atKey xs k).isSome := by rw [valueAt_pairsH, Option.isSome_map]
  refine ⟨fun h => wpAny_in_heap (room_n A) hi hs D0 ⟨.bl (atKey xs k).isSome, H, I.tok _, rfl, by rw [← same]; exact h⟩, fun h => notIn_keyed (kvs := pairsH xs) (room_n A) hi hs ⟨xs, D0, rfl⟩ ⟨.bl (!(valueAt (pairsH xs) k).isSome), H, I.tok _, rfl, by rw [hb2, ← same]; exact h⟩⟩
theorem dget_ok (A : At G X) {value slice : Expr} (hs' : subscripted slice false v u = operate [v, u] (getItem v u)) (I : Inv X pins σ H s) (rx : RelV x v) (ry : RelV y u) (ha : Rep G m H a x) (hb : Rep G m H b y) (sim : Sim G m H S) {kvs : List (D × D)} (e : dictOf S a = some kvs) (hk : keyT b = true) {d : D} (hd : lookD kvs b = some d)
    (h : ∀ w, Rep G m H d w → Q w H) : wpAny (model X.prog X.w) X.A (PyProof.Rows.subscriptTail value slice v u) (EP X pins σ Q) X.xe s := by
  obtain ⟨n, l, xs, rfl, hl, hS, rfl, hH, hz, hs, p, nd⟩ := dict_at sim ha e
  obtain ⟨q, rfl⟩ := key_ref hb hk
  obtain ⟨k, ek, hi⟩ := key_is A I hb hk
  cases (show v = Value.ref l from rx)
  cases (show u = Value.ref q from ry)
  have D0 := dct_of A I hH p nd
  rcases p.at_ ek with ⟨h1, h2⟩ | ⟨d', b', u', w, h1, h2, rv, r⟩
  · rw [h1] at hd; cases hd
  · rw [h1] at hd; cases hd
    exact PyProof.Rows.tail_any D0.typeIs slot_dict_getitem.lookup (wpAny_getItem_heap (room_n A) hi D0 h2 ⟨w, H, I.tok _, rv, h w r⟩) hs'
/-- d[k] = v -/
def rSetD (G : GC) : V → V → V → Hp → (Hp → Prop) → Prop := fun o i v H Q => ∃ m S n kvs kd d, Rep G m H (.loc n) o ∧ Rep G m H kd i ∧ Rep G m H d v ∧ Sim G m H S ∧ S[n]? = some (.dict kvs) ∧ keyT kd = true ∧ kvs.length < big ∧
  ∀ m' H', Ext m H m' H' → Sim G m' H' (S.set n (.dict (storeD kvs kd d))) → Q H'
theorem dct_ok {P : Program} {w : World} {H : Hp} {h : Heap} {a : Addr} {xs : List (NestedKey × Addr × Value)} (x : dctAt P w a xs h) : ObjOk P w H h a (.ext (dctAt P w a xs)) := by
  refine ⟨x, ?_, fun h1 h2 ⟨o, es, ep, e1, e2, e3, e4⟩ k => ⟨o, es, ep, k o e1, e2, e3, e4⟩⟩
  obtain ⟨o, es, ep, e1, _⟩ := x
  exact ⟨o, e1⟩
theorem storeD_len (kvs : List (D × D)) (k v : D) : (storeD kvs k v).length ≤ kvs.length + 1 := by
  unfold storeD
  split <;> simp
theorem set_dct (A : At G X) : PSet X (rSetD G) := by
  intro pins s σ H o i v ov iv u Q I ro ri rv h
  obtain ⟨m, S, n, kvs, kd, d, ho, hk, hd, sim, hS, kt, hz, q⟩ := h
  obtain ⟨n', l, xs, en, hl, hS', rfl, hH, hz', hs, p, nd⟩ := dict_at sim ho (kvs := kvs) (by simp only [dictOf, hS])
  cases en
  obtain ⟨b, rfl⟩ := key_ref hk kt
  obtain ⟨k, ek, hi⟩ := key_is A I hk kt
  cases (show ov = Value.ref l from ro)
  cases (show iv = Value.ref b from ri)
  have D0 := dct_of A I hH p nd
  refine wpAny_setItem_heap (room_n A) hi D0 (fun h' dd hs2 => ?_) (by rw [← big_eq, p.len]; exact hz')
  obtain ⟨oo, es, ep, e1, e2, e3, e4, e5, e6⟩ := dd
  have dx : dctAt X.prog X.w l (storedH xs k b u) h' := ⟨oo, es, ep, e1, e2, e3, e4⟩
  have I2 := d_write (t' := s.toks + (nestedKind X.prog X.w).draws k) I (by rw [hH]; exact True.intro) hs2 ⟨oo, e1⟩ (dct_ok (H := upd H l (.ext (dctAt X.prog X.w l (storedH xs k b u)))) dx)
  obtain ⟨ext, sim2⟩ := sim.write (o := .ext (dctAt X.prog X.w l (storedH xs k b u))) (x := .dict (storeD kvs kd d)) hl fun ext => by
    obtain ⟨q1, q2⟩ := PairD.stored ek kt (hk.ext ext) rv (hd.ext ext) (p.ext ext) nd
    exact ⟨storedH xs k b u, by rw [← A.pr, ← A.wd]; exact upd_same, by have := storeD_len kvs kd d; omega, hs, q1, q2⟩
  exact ⟨_, I2, q m _ ext sim2⟩
end
end Ev
/-! Ev, part C2: comparisons, subscripts, calls of built-in functions, methods. -/
namespace Ev
open PySem L2
section
variable {G : GC} {m : List Addr} {H : Hp} {S : Store}
/-- nothing is raised -/
def W0 : WX := fun _ _ _ _ => False
def NoEx {α : Type} : R α → Prop
  | .ex _ _ _ => False
  | _ => True
theorem Post.any {α β : Type} {R1 : List Addr → Hp → α → β → Prop} {r : R α} {W W' : WX} {σ σ' : St} {Q : β → Hp → Prop} (n : NoEx r) (h : Post G W R1 m σ H r Q) : Post G W' R1 m σ' H r Q := by
  cases r with
  | ok d S => exact h
  | bad => exact h
  | ex c pl S => exact n.elim
theorem noex_if {α : Type} {c : Bool} {a : α} : NoEx (okIf c a S) := by cases c <;> trivial
theorem noex_o {α : Type} {o : Option α} : NoEx (okO o S) := by cases o <;> trivial
theorem noex_cmpop (o : CO) (x y : D) : NoEx (cmpop o x y S) := by
  cases o <;> simp only [cmpop] <;> first | exact noex_if | (repeat' split) <;> first | trivial | exact noex_if
theorem noex_binop (o : BO) (x y : D) : NoEx (binop o x y S) := by
  unfold binop
  repeat' split
  all_goals first | trivial | exact noex_if
theorem noex_getIx (x y : D) : NoEx (getIx x y S) := by
  unfold getIx
  repeat' split
  all_goals first | trivial | exact noex_o
theorem noex_getSl (x : D) (lo hi : Option Int) : NoEx (getSl x lo hi S) := by
  unfold getSl
  repeat' split
  all_goals first | trivial
theorem noex_callB (b : BI) (as : List D) : NoEx (callB b as S) := by
  unfold callB
  repeat' split
  all_goals first | trivial | exact noex_if
theorem noex_methB (b : MI) (x : D) (as : List D) : NoEx (methB b x as S) := by
  unfold methB
  repeat' split
  all_goals first | trivial | exact noex_if
/-- the result, or nothing -/
abbrev P0 (G : GC) (m : List Addr) (H : Hp) (r : R D) (Q : VK) : Prop := PostE G W0 m [] H r Q

theorem same_non {d : D} {v : V} (h : Rep G m H d v) : decide (v = V.non) = d.same .non := by
  cases d <;> simp only [Rep] at h
  case non => subst h; rfl
  case bl => subst h; rfl
  case int => subst h; rfl
  case str => rw [h.1]; rfl
  case tup => obtain ⟨a, xs, rfl, _⟩ := h; rfl
  case lst => obtain ⟨a, xs, rfl, _⟩ := h; rfl
  case loc => obtain ⟨a, rfl, _⟩ := h; rfl
  case fn => obtain ⟨a, _, _, rfl, _⟩ := h; rfl
  case cls => obtain ⟨a, _, rfl, _⟩ := h; rfl
  case scr => obtain ⟨a, xs, rfl, _⟩ := h; rfl
end
section
variable {G : GC} {X : Cx} {pins : List (Addr × Obj)} {σ : St} {H : Hp} {s : Shared} {m : List Addr} {S : Store} {x y : V} {v u : Value} {Q : VK} {a b : D}
def cO : CO → CmpOp
  | .eq => .Eq | .ne => .NotEq | .lt => .Lt | .le => .LtE | .gt => .Gt | .ge => .GtE | .isN => .Is | .notN => .IsNot | .mem => .In | .nmem => .NotIn
theorem mem_ok (A : At G X) (I : Inv X pins σ H s) (rx : RelV x v) (ry : RelV y u) (ha : Rep G m H a x) (hb : Rep G m H b y) (sim : Sim G m H S) {ys : List D} (e : seqOf S b = some ys) (f1 : a.flat 60 = true) (f2 : D.flatL 60 ys = true) :
    (Q (.bl (ys.any fun z => D.eqv z a)) H → wpAny (model X.prog X.w) X.A (compareOp .In v u) (EP X pins σ Q) X.xe s) ∧
    (Q (.bl (!ys.any fun z => D.eqv z a)) H → wpAny (model X.prog X.w) X.A (compareOp .NotIn v u) (EP X pins σ Q) X.xe s) := by
  obtain ⟨l, vs, rfl, z, rl, q⟩ := rep_seqOf sim hb e
  obtain ⟨d1, d2, d3⟩ := flat_dp 60 a x f1 ha
  obtain ⟨e1, e2, e3⟩ := flat_dpL 60 ys vs f2 rl
  have an := py_any 60 a f1 ys f2
  have un := A.un
  rw [← A.K] at d1 e1 q
  obtain ⟨as, r1⟩ := Dp.reads I a.py x v d1 rx
  have room : X.A.units + 1 + min (PyData.depthAll (D.pyL ys)) a.py.depth < cLine := by omega
  rcases q with q | q
  · obtain ⟨bs, r2⟩ := Dp.reads I (.list (D.pyL ys)) (.ref l) u (.lst q e1) ry
    refine ⟨fun h => SeqAt.in_list_reads r2 r1 e2 d2 room ⟨.bl _, H, I, rfl, by rw [an]; exact h⟩, fun h => SeqAt.notIn_list_reads r2 r1 e2 d2 room ⟨.bl _, H, I, rfl, by rw [an]; exact h⟩⟩
  · obtain ⟨bs, r2⟩ := Dp.reads I (.tuple (D.pyL ys)) (.ref l) u (.tup q e1) ry
    refine ⟨fun h => SeqAt.in_tuple_reads r2 r1 e2 d2 room ⟨.bl _, H, I, rfl, by rw [an]; exact h⟩, fun h => SeqAt.notIn_tuple_reads r2 r1 e2 d2 room ⟨.bl _, H, I, rfl, by rw [an]; exact h⟩⟩
theorem cmpop_ok (A : At G X) (o : CO) (I : Inv X pins σ H s) (rx : RelV x v) (ry : RelV y u) (ha : Rep G m H a x) (hb : Rep G m H b y) (sim : Sim G m H S) (h : P0 G m H (cmpop o a b S) Q) :
    wpAny (model X.prog X.w) X.A (compareOp (cO o) v u) (EP X pins σ Q) X.xe s := by
  have un := A.un
  have K := A.K
  cases o with
  | eq =>
    obtain ⟨c, h⟩ := Post.if_ h
    rw [Bool.and_eq_true] at c
    obtain ⟨d1, s1⟩ := rep_rd sim ha c.1 (Nat.le_refl _)
    obtain ⟨d2, s2⟩ := rep_rd sim hb c.2 (Nat.le_refl _)
    rw [← K] at d1 d2
    refine op_eqD (by omega) pins s σ H x y v u Q I rx ry ⟨_, _, d1, d2, s1, s2, ?_⟩
    rw [py_eqv 60 _ _ c.1 c.2]
    exact h.done sim (by simp only [Rep])
  | ne =>
    obtain ⟨c, h⟩ := Post.if_ h
    rw [Bool.and_eq_true] at c
    obtain ⟨d1, s1⟩ := rep_rd sim ha c.1 (Nat.le_refl _)
    obtain ⟨d2, s2⟩ := rep_rd sim hb c.2 (Nat.le_refl _)
    rw [← K] at d1 d2
    refine op_neD (by omega) pins s σ H x y v u Q I rx ry ⟨_, _, d1, d2, s1, s2, ?_⟩
    rw [py_eqv 60 _ _ c.1 c.2]
    exact h.done sim (by simp only [Rep])
  | lt =>
    cases a <;> cases b <;> first | exact h.elim | skip
    simp only [Rep] at ha hb
    exact op_lt pins s σ H x y v u Q I rx ry ⟨_, _, ha, hb, h.done sim (by simp only [Rep])⟩
  | le =>
    cases a <;> cases b <;> first | exact h.elim | skip
    simp only [Rep] at ha hb
    exact op_le pins s σ H x y v u Q I rx ry ⟨_, _, ha, hb, h.done sim (by simp only [Rep])⟩
  | gt =>
    cases a <;> cases b <;> first | exact h.elim | skip
    simp only [Rep] at ha hb
    exact op_gt pins s σ H x y v u Q I rx ry ⟨_, _, ha, hb, h.done sim (by simp only [Rep])⟩
  | ge =>
    cases a <;> cases b <;> first | exact h.elim | skip
    simp only [Rep] at ha hb
    exact op_ge pins s σ H x y v u Q I rx ry ⟨_, _, ha, hb, h.done sim (by simp only [Rep])⟩
  | isN =>
    cases b <;> first | exact h.elim | skip
    simp only [Rep] at hb
    refine op_isN pins s σ H x y v u Q I rx ry ⟨hb, ?_⟩
    rw [same_non ha]
    exact h.done sim (by simp only [Rep])
  | notN =>
    cases b <;> first | exact h.elim | skip
    simp only [Rep] at hb
    refine op_notN pins s σ H x y v u Q I rx ry ⟨hb, ?_⟩
    rw [same_non ha]
    exact h.done sim (by simp only [Rep])
  | mem =>
    simp only [cmpop] at h
    split at h
    · next ys e =>
      obtain ⟨c, h⟩ := Post.if_ h
      rw [Bool.and_eq_true] at c
      exact (mem_ok A I rx ry ha hb sim e c.1 c.2).1 (h.done sim (by simp only [Rep]))
    · split at h
      · next kvs e =>
        obtain ⟨c, h⟩ := Post.if_ h
        exact (dmem_ok A I rx ry ha hb sim e c).1 (h.done sim (by simp only [Rep]))
      · exact h.elim
  | nmem =>
    simp only [cmpop] at h
    split at h
    · next ys e =>
      obtain ⟨c, h⟩ := Post.if_ h
      rw [Bool.and_eq_true] at c
      exact (mem_ok A I rx ry ha hb sim e c.1 c.2).2 (h.done sim (by simp only [Rep]))
    · split at h
      · next kvs e =>
        obtain ⟨c, h⟩ := Post.if_ h
        exact (dmem_ok A I rx ry ha hb sim e c).2 (h.done sim (by simp only [Rep]))
      · exact h.elim
theorem neg_ok (I : Inv X pins σ H s) (rx : RelV x v) (ha : Rep G m H a x) (sim : Sim G m H S) (h : P0 G m H (neg a S) Q) :
    wpAny (model X.prog X.w) X.A (unaryOp .USub v) (EP X pins σ Q) X.xe s := by
  cases a <;> first | exact h.elim | skip
  simp only [Rep] at ha
  exact un_neg pins s σ H x v Q I rx ⟨_, ha, h.done sim (by simp only [Rep])⟩
theorem getIx_ok (A : At G X) {value slice : Expr} (hs : subscripted slice false v u = operate [v, u] (getItem v u)) (I : Inv X pins σ H s) (rx : RelV x v) (ry : RelV y u) (ha : Rep G m H a x) (hb : Rep G m H b y) (sim : Sim G m H S) (h : P0 G m H (getIx a b S) Q) :
    wpAny (model X.prog X.w) X.A (PyProof.Rows.subscriptTail value slice v u) (EP X pins σ Q) X.xe s := by
  have K := A.K
  have dict : ∀ kvs, dictOf S a = some kvs → P0 G m H (if keyT b then okO (lookD kvs b) S else .bad) Q → wpAny (model X.prog X.w) X.A (PyProof.Rows.subscriptTail value slice v u) (EP X pins σ Q) X.xe s := by
    intro kvs e h
    by_cases hk : keyT b = true
    · rw [if_pos hk] at h
      obtain ⟨d, ed, h⟩ := Post.o_ h
      exact dget_ok A hs I rx ry ha hb sim e hk ed fun w r => h.done sim r
    · rw [if_neg hk] at h; exact h.elim
  have other : (∀ i, b ≠ .int i) → P0 G m H (match dictOf S a with
    | some kvs => if keyT b then okO (lookD kvs b) S else .bad
    | none => .bad) Q → wpAny (model X.prog X.w) X.A (PyProof.Rows.subscriptTail value slice v u) (EP X pins σ Q) X.xe s := by
    intro _ h
    cases e : dictOf S a with
    | none => rw [e] at h; exact h.elim
    | some kvs => rw [e] at h; exact dict kvs e h
  cases b <;> first | exact other (by intro _ z; cases z) h | skip
  rename_i i
  simp only [Rep] at hb
  simp only [getIx] at h
  split at h
  · next xs e =>
    split at h
    · next j ej =>
      obtain ⟨d, ed, h⟩ := Post.o_ h
      obtain ⟨l, vs, rfl, z, rl, q⟩ := rep_seqOf sim ha e
      obtain ⟨w, ew, rw'⟩ := rl.get ed
      have at_ : atI vs i = some w := by
        unfold atI
        rw [rl.length, show ixN xs.length i = some j from ej]
        exact ew
      rw [← K] at q
      rcases q with q | q
      · exact ix_list value slice pins s σ H _ y v u Q I rx ry ⟨l, vs, i, w, rfl, hb, q, at_, h.done sim rw'⟩ hs
      · exact ix_tup value slice pins s σ H _ y v u Q I rx ry ⟨l, vs, i, w, rfl, hb, q, at_, h.done sim rw'⟩ hs
    · exact h.elim
  · exact h.elim
theorem RepL.cut {ds : List D} {vs : List V} (h : RepL G m H ds vs) (lo hi : Option Int) : RepL G m H (Ev.cut ds lo hi) (cutV vs lo hi) := by
  unfold Ev.cut cutV
  rw [h.length]
  exact (h.drop _).take _
theorem cut_whole {α : Type} (xs : List α) (lo hi : Option Int) (h : HT.sIx xs.length 0 lo = 0 ∧ HT.sIx xs.length xs.length hi = xs.length) : cut xs lo hi = xs := by
  unfold cut
  rw [h.1, h.2]
  simp
theorem sl_ok (A : At G X) : SlR X (fun x lo hi H Q => ∃ m S a, Rep G m H a x ∧ Sim G m H S ∧ P0 G m H (getSl a lo hi S) Q) := by
  intro pins s σ H x v vl vu lo hi sl Q I rx hs pl pu h
  have K := A.K
  obtain ⟨m, S, a, ha, sim, h⟩ := h
  have lists : ∀ {xs : List D}, lstOf S a = some xs → P0 G m H (.ok (.lst (cut xs lo hi)) S) Q →
      ∃ T id, typeLookup (.type T) "__getitem__" = pure (some (.builtin id)) ∧ s.TypeIs v T ∧ wpAny (model X.prog X.w) X.A (getItem v (.ref sl)) (EP X pins σ Q) X.xe s := by
    intro xs e h
    obtain ⟨l, vs, rfl, z, rl, q⟩ := rep_lstOf sim ha e
    refine sl_list pins s σ H _ v vl vu lo hi sl Q I rx hs pl pu ⟨l, vs, rfl, .of q, fun p np => ?_⟩
    exact h.new sim np fun e n => rep_newL (rl.cut lo hi) (Nat.le_trans (cutV_length _ _ _) z) e n
  cases a with
  | tup xs =>
    have h : P0 G m H (.ok (.tup (cut xs lo hi)) S) Q := h
    obtain ⟨l, vs, rfl, z, rl, q⟩ := rep_tup ha
    rw [← K] at q
    refine sl_tupA pins s σ H _ v vl vu lo hi sl Q I rx hs pl pu ⟨l, vs, rfl, q, fun w => ?_, fun w p np => ?_⟩
    · rw [rl.length] at w
      rw [cut_whole _ _ _ w] at h
      exact h.done sim ha
    · exact h.new sim np fun e n => rep_newT (rl.cut lo hi) (Nat.le_trans (cutV_length _ _ _) z) e n
  | lst xs => exact lists (xs := xs) rfl h
  | loc n =>
    simp only [getSl] at h
    split at h
    · next xs e => exact lists e h
    · exact h.elim
  | _ => exact h.elim
end
end Ev
/-! Ev, part C3: calls of built-in functions, methods. -/
namespace Ev
open PySem L2
theorem ins_perm (x : Int) : ∀ l : List Int, (ins x l).Perm (x :: l)
  | [] => .refl _
  | y :: r => by
    unfold ins
    split
    · exact .refl _
    · exact ((ins_perm x r).cons y).trans (.swap x y r)
theorem isort_perm : ∀ l : List Int, (isort l).Perm l
  | [] => .refl _
  | x :: r => (ins_perm x (isort r)).trans ((isort_perm r).cons x)
theorem ins_sorted (x : Int) : ∀ l : List Int, l.Pairwise (· ≤ ·) → (ins x l).Pairwise (· ≤ ·)
  | [], _ => by simp [ins]
  | y :: r, h => by
    unfold ins
    split
    · next hx =>
      refine List.pairwise_cons.mpr ⟨fun z hz => ?_, h⟩
      rcases List.mem_cons.mp hz with rfl | hz
      · exact hx
      · exact Int.le_trans hx ((List.pairwise_cons.mp h).1 z hz)
    · next hx =>
      refine List.pairwise_cons.mpr ⟨fun z hz => ?_, ins_sorted x r (List.pairwise_cons.mp h).2⟩
      rcases List.mem_cons.mp ((ins_perm x r).mem_iff.mp hz) with rfl | hz
      · omega
      · exact (List.pairwise_cons.mp h).1 z hz
theorem isort_sorted : ∀ l : List Int, (isort l).Pairwise (· ≤ ·)
  | [] => .nil
  | x :: r => ins_sorted x _ (isort_sorted r)
theorem isort_of {l l' : List Int} (p : l'.Perm l) (s : l'.Pairwise (· ≤ ·)) : l' = isort l :=
  (p.trans (isort_perm l).symm).eq_of_pairwise (fun _ _ _ _ h1 h2 => Int.le_antisymm h1 h2) s (isort_sorted l)
theorem maxL_mem : ∀ l : List Int, 0 < l.length → maxL l ∈ l ∧ ∀ y ∈ l, y ≤ maxL l
  | [], h => by simp at h
  | [x], _ => by simp [maxL]
  | x :: y :: r, _ => by
    obtain ⟨h1, h2⟩ := maxL_mem (y :: r) (by simp)
    have e : maxL (x :: y :: r) = if maxL (y :: r) < x then x else maxL (y :: r) := by simp only [maxL]
    rw [e]
    split
    · refine ⟨List.mem_cons_self, fun z hz => ?_⟩
      rcases List.mem_cons.mp hz with rfl | hz
      · omega
      · have := h2 z hz; omega
    · refine ⟨List.mem_cons_of_mem _ h1, fun z hz => ?_⟩
      rcases List.mem_cons.mp hz with rfl | hz
      · omega
      · exact h2 z hz
theorem minL_mem : ∀ l : List Int, 0 < l.length → minL l ∈ l ∧ ∀ y ∈ l, minL l ≤ y
  | [], h => by simp at h
  | [x], _ => by simp [minL]
  | x :: y :: r, _ => by
    obtain ⟨h1, h2⟩ := minL_mem (y :: r) (by simp)
    have e : minL (x :: y :: r) = if x < minL (y :: r) then x else minL (y :: r) := by simp only [minL]
    rw [e]
    split
    · refine ⟨List.mem_cons_self, fun z hz => ?_⟩
      rcases List.mem_cons.mp hz with rfl | hz
      · omega
      · have := h2 z hz; omega
    · refine ⟨List.mem_cons_of_mem _ h1, fun z hz => ?_⟩
      rcases List.mem_cons.mp hz with rfl | hz
      · omega
      · exact h2 z hz
theorem unl_fold (val : Nat → Int) : ∀ i, PyProof.Rows.firstMet val i = ((List.range i).map val).foldl unl []
  | i => rfl
theorem range_getD (ns : List Int) : (List.range ns.length).map (fun i => ns.getD i 0) = ns := by
  apply List.ext_getElem
  · simp
  · intro i h1 h2
    simp [List.getD_eq_getElem?_getD, h2]
theorem firstMet_unlike (ns : List Int) : PyProof.Rows.firstMet (fun i => ns.getD i 0) ns.length = unlike ns := by
  rw [unl_fold, range_getD]; rfl
theorem unl_nodup : ∀ (ns acc : List Int), acc.Nodup → (ns.foldl unl acc).Nodup ∧ ∀ x, x ∈ ns.foldl unl acc ↔ x ∈ acc ∨ x ∈ ns
  | [], acc, h => ⟨h, fun x => by simp⟩
  | n :: ns, acc, h => by
    have h1 : (unl acc n).Nodup ∧ ∀ x, x ∈ unl acc n ↔ x ∈ acc ∨ x = n := by
      unfold unl
      split
      · next c =>
        obtain ⟨y, hy, e⟩ := List.any_eq_true.mp c
        have e' : y = n := eq_of_beq e
        subst e'
        exact ⟨h, fun x => ⟨.inl, fun q => q.elim id fun z => z ▸ hy⟩⟩
      · next c =>
        refine ⟨?_, fun x => by simp⟩
        rw [List.nodup_append]
        refine ⟨h, by simp, fun a ha b hb => ?_⟩
        simp at hb; subst hb
        rintro rfl
        exact c (List.any_eq_true.mpr ⟨a, ha, by simp⟩)
    obtain ⟨h2, h3⟩ := unl_nodup ns (unl acc n) h1.1
    refine ⟨h2, fun x => ?_⟩
    rw [List.foldl_cons, h3 x, h1.2 x, List.mem_cons, or_assoc]
theorem unlike_nodup (ns : List Int) : (unlike ns).Nodup ∧ ∀ x, x ∈ unlike ns ↔ x ∈ ns := by
  obtain ⟨h1, h2⟩ := unl_nodup ns [] .nil
  exact ⟨h1, fun x => by rw [unlike, h2 x]; simp⟩

def biV : BI → Value
  | .len => .builtin "len" | .int => .type "int" | .abs => .builtin "abs" | .bool => .type "bool" | .str => .type "str"
  | .tuple => .type "tuple" | .list => .type "list" | .all => .builtin "all" | .sum => .builtin "sum"
  | .max1 => .builtin "max" | .min1 => .builtin "min" | .max2 => .builtin "max" | .min2 => .builtin "min" | .sorted => .builtin "sorted" | .divmod => .builtin "divmod"
section
variable {G : GC} {X : Cx} {pins : List (Addr × Obj)} {σ : St} {H : Hp} {s : Shared} {m : List Addr} {S : Store} {x y : V} {v u : Value} {Q : VK} {a b : D}
theorem rep1 {d : D} {vs : List V} (r : RepL G m H [d] vs) : ∃ v, vs = [v] ∧ Rep G m H d v := by
  simp only [RepL] at r
  obtain ⟨v, _, rfl, h, rfl⟩ := r
  exact ⟨v, rfl, h⟩
theorem rep2 {d e : D} {vs : List V} (r : RepL G m H [d, e] vs) : ∃ v w, vs = [v, w] ∧ Rep G m H d v ∧ Rep G m H e w := by
  simp only [RepL] at r
  obtain ⟨v, _, rfl, h, w, _, rfl, h2, rfl⟩ := r
  exact ⟨v, w, rfl, h, h2⟩
theorem lst_ints (sim : Sim G m H S) (ha : Rep G m H a x) {ns : List Int} (e : (lstOf S a).bind allI = some ns) : ∃ l, x = .ref l ∧ H l = some (.lst (ns.map V.int)) ∧ ns.length ≤ big := by
  rw [Option.bind_eq_some_iff] at e
  obtain ⟨xs, e1, e2⟩ := e
  obtain ⟨l, vs, rfl, z, rl, q⟩ := rep_lstOf sim ha e1
  have e3 := repL_ints rl e2
  subst e3
  exact ⟨l, rfl, q, by simpa using z⟩
theorem lst_bools (sim : Sim G m H S) (ha : Rep G m H a x) {ns : List Bool} (e : (lstOf S a).bind allB = some ns) : ∃ l, x = .ref l ∧ H l = some (.lst (ns.map V.bl)) ∧ ns.length ≤ big := by
  rw [Option.bind_eq_some_iff] at e
  obtain ⟨xs, e1, e2⟩ := e
  obtain ⟨l, vs, rfl, z, rl, q⟩ := rep_lstOf sim ha e1
  have e3 := repL_bools rl e2
  subst e3
  exact ⟨l, rfl, q, by simpa using z⟩
theorem callB_ok (A : At G X) (b : BI) : CallR X (biV b) (fun vs H Q => ∃ m S as, RepL G m H as vs ∧ Sim G m H S ∧ P0 G m H (callB b as S) Q) := by
  intro pins s σ H vs us Q I r h
  have K := A.K
  have hc := A.calm
  obtain ⟨m, S, as, rl, sim, h⟩ := h
  cases b with
  | len =>
    match as, rl, h with
    | [x], rl, h =>
      obtain ⟨v, rfl, ha⟩ := rep1 rl
      simp only [callB] at h
      split at h
      · next xs e =>
        obtain ⟨l, ws, rfl, z, r2, q⟩ := rep_seqOf sim ha e
        rw [← K] at q
        refine call_len_seq pins s σ H _ us Q I r ⟨l, ws, rfl, q, ?_⟩
        rw [r2.length]
        exact h.done sim (by simp only [Rep])
      · split at h
        · simp only [Rep] at ha
          refine call_len_str pins s σ H _ us Q I r ⟨_, by rw [ha.1], by rw [← big_eq]; exact ha.2.2, h.done sim (by simp only [Rep])⟩
        · exact h.elim
    | [], _, h => exact h.elim
    | _ :: _ :: _, _, h => exact h.elim
  | int =>
    match as, rl, h with
    | [.int i], rl, h =>
      obtain ⟨v, rfl, ha⟩ := rep1 rl
      simp only [Rep] at ha
      subst ha
      exact call_int1 pins s σ H _ us Q I r (.inl ⟨i, rfl, h.done sim (by simp only [Rep])⟩)
    | [.bl i], rl, h =>
      obtain ⟨v, rfl, ha⟩ := rep1 rl
      simp only [Rep] at ha
      subst ha
      exact call_int1 pins s σ H _ us Q I r (.inr ⟨i, rfl, h.done sim (by simp only [Rep, b2])⟩)
    | [], _, h => exact h.elim
    | [.non], _, h => exact h.elim
    | [.str _], _, h => exact h.elim
    | [.tup _], _, h => exact h.elim
    | [.lst _], _, h => exact h.elim
    | [.loc _], _, h => exact h.elim
    | [.fn _], _, h => exact h.elim
    | [.cls _], _, h => exact h.elim
    | [.scr _], _, h => exact h.elim
    | _ :: _ :: _, _, h => simp [callB, Post] at h
  | abs =>
    match as, rl, h with
    | [.int i], rl, h =>
      obtain ⟨v, rfl, ha⟩ := rep1 rl
      simp only [Rep] at ha
      subst ha
      exact call_abs pins s σ H _ us Q I r ⟨i, rfl, h.done sim (by simp only [Rep])⟩
    | [], _, h => exact h.elim
    | [.bl _], _, h => exact h.elim
    | [.non], _, h => exact h.elim
    | [.str _], _, h => exact h.elim
    | [.tup _], _, h => exact h.elim
    | [.lst _], _, h => exact h.elim
    | [.loc _], _, h => exact h.elim
    | [.fn _], _, h => exact h.elim
    | [.cls _], _, h => exact h.elim
    | [.scr _], _, h => exact h.elim
    | _ :: _ :: _, _, h => simp [callB, Post] at h
  | bool =>
    match as, rl, h with
    | [.bl i], rl, h =>
      obtain ⟨v, rfl, ha⟩ := rep1 rl
      simp only [Rep] at ha
      subst ha
      exact call_bool1 pins s σ H _ us Q I r (.inr ⟨i, rfl, h.done sim (by simp only [Rep])⟩)
    | [], _, h => exact h.elim
    | [.int _], _, h => exact h.elim
    | [.non], _, h => exact h.elim
    | [.str _], _, h => exact h.elim
    | [.tup _], _, h => exact h.elim
    | [.lst _], _, h => exact h.elim
    | [.loc _], _, h => exact h.elim
    | [.fn _], _, h => exact h.elim
    | [.cls _], _, h => exact h.elim
    | [.scr _], _, h => exact h.elim
    | _ :: _ :: _, _, h => simp [callB, Post] at h
  | str => simp [callB, Post] at h
  | tuple =>
    match as, rl, h with
    | [], _, h => exact h.elim
    | _ :: _ :: _, _, h => simp [callB, Post] at h
    | [d], rl, h =>
      obtain ⟨v, rfl, ha⟩ := rep1 rl
      have lists : ∀ xs, lstOf S d = some xs → P0 G m H (.ok (.tup xs) S) Q → wpAny (model X.prog X.w) X.A (call (biV .tuple) us) (EP X pins σ Q) X.xe s := by
        intro xs e h
        obtain ⟨l, ws, rfl, z, r2, q⟩ := rep_lstOf sim ha e
        refine call_tuple_of pins s σ H _ us Q I r ⟨l, ws, rfl, .inl ⟨.of q, fun p np => ?_⟩⟩
        exact h.new sim np fun e n => rep_newT r2 z e n
      cases d with
      | tup xs =>
        have h : P0 G m H (.ok (.tup xs) S) Q := h
        obtain ⟨l, ws, rfl, z, r2, q⟩ := rep_tup ha
        rw [← K] at q
        exact call_tuple_of pins s σ H _ us Q I r ⟨l, ws, rfl, .inr ⟨q, h.done sim ha⟩⟩
      | lst xs => exact lists xs rfl h
      | loc n =>
        simp only [callB] at h
        split at h
        · next xs e => exact lists xs e h
        · exact h.elim
      | _ => exact h.elim
  | list =>
    match as, rl, h with
    | [], _, h => exact h.elim
    | _ :: _ :: _, _, h => simp [callB, Post] at h
    | [d], rl, h =>
      obtain ⟨v, rfl, ha⟩ := rep1 rl
      simp only [callB] at h
      split at h
      · next xs e =>
        obtain ⟨l, ws, rfl, z, r2, q⟩ := rep_seqOf sim ha e
        rw [← K] at q
        refine call_list_of pins s σ H _ us Q I r ⟨l, ws, rfl, q, fun p np => ?_⟩
        exact h.new sim np fun e n => rep_newL r2 z e n
      · exact h.elim
  | all =>
    match as, rl, h with
    | [], _, h => exact h.elim
    | _ :: _ :: _, _, h => simp [callB, Post] at h
    | [d], rl, h =>
      obtain ⟨v, rfl, ha⟩ := rep1 rl
      simp only [callB] at h
      split at h
      · next bs e =>
        obtain ⟨l, rfl, q, z⟩ := lst_bools sim ha e
        exact cr_all hc pins s σ H _ us Q I r ⟨l, bs, rfl, .of q, h.done sim (by simp only [Rep])⟩
      · exact h.elim
  | sum =>
    match as, rl, h with
    | [], _, h => exact h.elim
    | _ :: _ :: _, _, h => simp [callB, Post] at h
    | [d], rl, h =>
      obtain ⟨v, rfl, ha⟩ := rep1 rl
      simp only [callB] at h
      split at h
      · next bs e =>
        obtain ⟨l, rfl, q, z⟩ := lst_ints sim ha e
        exact cr_sum hc pins s σ H _ us Q I r ⟨l, bs, rfl, .of q, h.done sim (by simp only [Rep])⟩
      · exact h.elim
  | max1 =>
    match as, rl, h with
    | [], _, h => exact h.elim
    | _ :: _ :: _, _, h => simp [callB, Post] at h
    | [d], rl, h =>
      obtain ⟨v, rfl, ha⟩ := rep1 rl
      simp only [callB] at h
      split at h
      · next bs e =>
        obtain ⟨c, h⟩ := Post.if_ h
        have c : 0 < bs.length := of_decide_eq_true c
        obtain ⟨l, rfl, q, z⟩ := lst_ints sim ha e
        obtain ⟨h1, h2⟩ := maxL_mem bs c
        refine cr_max hc pins s σ H _ us Q I r ⟨l, bs, rfl, .of q, c, fun k hk hle => ?_⟩
        have e2 : k = maxL bs := Int.le_antisymm (h2 k hk) (hle _ h1)
        rw [e2]
        exact h.done sim (by simp only [Rep])
      · exact h.elim
  | min1 =>
    match as, rl, h with
    | [], _, h => exact h.elim
    | _ :: _ :: _, _, h => simp [callB, Post] at h
    | [d], rl, h =>
      obtain ⟨v, rfl, ha⟩ := rep1 rl
      simp only [callB] at h
      split at h
      · next bs e =>
        obtain ⟨c, h⟩ := Post.if_ h
        have c : 0 < bs.length := of_decide_eq_true c
        obtain ⟨l, rfl, q, z⟩ := lst_ints sim ha e
        obtain ⟨h1, h2⟩ := minL_mem bs c
        refine cr_min hc pins s σ H _ us Q I r ⟨l, bs, rfl, .of q, c, fun k hk hle => ?_⟩
        have e2 : k = minL bs := Int.le_antisymm (hle _ h1) (h2 k hk)
        rw [e2]
        exact h.done sim (by simp only [Rep])
      · exact h.elim
  | max2 =>
    have key : ∀ i j, as = [.int i, .int j] → wpAny (model X.prog X.w) X.A (call (biV .max2) us) (EP X pins σ Q) X.xe s := by
      rintro i j rfl
      obtain ⟨v, w, rfl, ha, hb⟩ := rep2 rl
      simp only [Rep] at ha hb
      subst ha; subst hb
      exact call_max2 hc pins s σ H _ us Q I r ⟨i, j, rfl, h.done sim (by simp only [Rep])⟩
    unfold callB at h
    split at h <;> first | exact h.elim | (rename_i q1 q2; first | cases q1 | skip) <;> first | exact key _ _ rfl | contradiction
  | min2 =>
    have key : ∀ i j, as = [.int i, .int j] → wpAny (model X.prog X.w) X.A (call (biV .min2) us) (EP X pins σ Q) X.xe s := by
      rintro i j rfl
      obtain ⟨v, w, rfl, ha, hb⟩ := rep2 rl
      simp only [Rep] at ha hb
      subst ha; subst hb
      exact call_min2 hc pins s σ H _ us Q I r ⟨i, j, rfl, h.done sim (by simp only [Rep])⟩
    unfold callB at h
    split at h <;> first | exact h.elim | (rename_i q1 q2; first | cases q1 | skip) <;> first | exact key _ _ rfl | contradiction
  | sorted =>
    match as, rl, h with
    | [], _, h => exact h.elim
    | _ :: _ :: _, _, h => simp [callB, Post] at h
    | [d], rl, h =>
      obtain ⟨v, rfl, ha⟩ := rep1 rl
      simp only [callB] at h
      split at h
      · next bs e =>
        obtain ⟨l, rfl, q, z⟩ := lst_ints sim ha e
        refine cr_sortedI pins s σ H _ us Q I r ⟨l, bs, rfl, .of q, fun ns' p pm so np => ?_⟩
        have e2 := isort_of pm so
        subst e2
        exact h.new sim np fun e n => rep_newL (repL_ofInts _) (by rw [List.length_map, (isort_perm bs).length_eq]; exact z) e n
      · exact h.elim
  | divmod =>
    have key : ∀ i j, as = [.int i, .int j] → wpAny (model X.prog X.w) X.A (call (biV .divmod) us) (EP X pins σ Q) X.xe s := by
      rintro i j rfl
      obtain ⟨v, w, rfl, ha, hb⟩ := rep2 rl
      simp only [Rep] at ha hb
      subst ha; subst hb
      obtain ⟨c, h⟩ := Post.if_ h
      rw [Bool.and_eq_true, decide_eq_true_eq, decide_eq_true_eq] at c
      refine call_divmod pins s σ H _ us Q I r ⟨i, j, rfl, c, fun p np => ?_⟩
      exact h.new sim np fun e n => rep_newT (ds := [.int (i / j), .int (i % j)]) (xs := [.int (i / j), .int (i % j)]) (.cons (by simp only [Rep]) (.cons (by simp only [Rep]) .nil)) (by show 2 ≤ big; decide) e n
    unfold callB at h
    split at h <;> first | exact h.elim | (rename_i q1 q2; first | cases q1 | skip) <;> first | exact key _ _ rfl | contradiction
end
end Ev
/-! Ev, part C4: methods, isinstance, sets' lengths, truth. -/
namespace Ev
open PySem L2
section
variable {G : GC} {X : Cx} {pins : List (Addr × Obj)} {σ : St} {H : Hp} {s : Shared} {m : List Addr} {S : Store} {x y : V} {v u : Value} {Q : VK} {a b : D}
theorem big_pos {n : Nat} (h : n < big) : n < sizeLine := by rw [← big_eq]; exact h
def miId : MI → String
  | .append => "list.append" | .clear => "list.clear" | .reverse => "list.reverse"
theorem methB_ok (b : MI) : MtR X (miId b) (fun x vs H Q => ∃ m S a as, Rep G m H a x ∧ RepL G m H as vs ∧ Sim G m H S ∧ P0 G m H (methB b a as S) Q) := by
  intro pins s σ H x vs v us Q I rx r h
  obtain ⟨m, S, a, as, ha, rl, sim, h⟩ := h
  cases b with
  | append =>
    have key : ∀ n d xs, a = .loc n → as = [d] → S[n]? = some (.list xs) → P0 G m H (okIf (decide (xs.length < big)) .non (S.set n (.list (xs ++ [d])))) Q → wpAny (model X.prog X.w) X.A (call (.builtin (miId .append)) (v :: us)) (EP X pins σ Q) X.xe s := by
      rintro n d xs rfl rfl e h
      obtain ⟨c, h⟩ := Post.if_ h
      have c : xs.length < big := of_decide_eq_true c
      obtain ⟨w, rfl, hd⟩ := rep1 rl
      obtain ⟨l, hl, ws, h1, z, r2⟩ := sim.find e
      simp only [Rep] at ha
      obtain ⟨l', rfl, hl'⟩ := ha
      rw [hl] at hl'; cases hl'
      refine mt_append pins s σ H _ _ v us Q I rx r ⟨l, ws, w, rfl, rfl, h1, big_pos (by rw [r2.length]; exact c), ?_⟩
      refine h.wrote sim hl (fun e => ⟨_, upd_same, ?_, ?_⟩) fun e => by simp only [Rep]
      · rw [List.length_append, List.length_singleton, r2.length]; exact c
      · exact (r2.ext e).app (.cons (hd.ext e) .nil)
    cases a <;> first | (simp [methB, Post] at h; done) | skip
    rename_i n
    cases as with
    | nil => simp [methB, Post] at h
    | cons d r =>
      cases r with
      | cons _ _ => simp [methB, Post] at h
      | nil =>
        simp only [methB] at h
        split at h
        · next xs e => exact key n d xs rfl rfl e h
        · exact h.elim
  | clear =>
    have key : ∀ n xs, a = .loc n → as = [] → S[n]? = some (.list xs) → P0 G m H (.ok .non (S.set n (.list []))) Q → wpAny (model X.prog X.w) X.A (call (.builtin (miId .clear)) (v :: us)) (EP X pins σ Q) X.xe s := by
      rintro n xs rfl rfl e h
      simp only [RepL] at rl; subst rl
      obtain ⟨l, hl, ws, h1, z, r2⟩ := sim.find e
      simp only [Rep] at ha
      obtain ⟨l', rfl, hl'⟩ := ha
      rw [hl] at hl'; cases hl'
      refine mt_clear pins s σ H _ _ v us Q I rx r ⟨l, ws, rfl, rfl, h1, ?_⟩
      exact h.wrote sim hl (fun e => ⟨_, upd_same, Nat.zero_le _, .nil⟩) fun e => by simp only [Rep]
    cases a <;> first | (simp [methB, Post] at h; done) | skip
    rename_i n
    cases as with
    | cons d r => simp [methB, Post] at h
    | nil =>
      simp only [methB] at h
      split at h
      · next xs e => exact key n xs rfl rfl e h
      · exact h.elim
  | reverse =>
    have key : ∀ n xs, a = .loc n → as = [] → S[n]? = some (.list xs) → P0 G m H (.ok .non (S.set n (.list xs.reverse))) Q → wpAny (model X.prog X.w) X.A (call (.builtin (miId .reverse)) (v :: us)) (EP X pins σ Q) X.xe s := by
      rintro n xs rfl rfl e h
      simp only [RepL] at rl; subst rl
      obtain ⟨l, hl, ws, h1, z, r2⟩ := sim.find e
      simp only [Rep] at ha
      obtain ⟨l', rfl, hl'⟩ := ha
      rw [hl] at hl'; cases hl'
      refine mt_reverse pins s σ H _ _ v us Q I rx r ⟨l, ws, rfl, rfl, h1, ?_⟩
      exact h.wrote sim hl (fun e => ⟨_, upd_same, by rw [List.length_reverse]; exact z, (r2.ext e).rev⟩) fun e => by simp only [Rep]
    cases a <;> first | (simp [methB, Post] at h; done) | skip
    rename_i n
    cases as with
    | cons d r => simp [methB, Post] at h
    | nil =>
      simp only [methB] at h
      split at h
      · next xs e => exact key n xs rfl rfl e h
      · exact h.elim

/-! ### isinstance -/
def tyV' : Ty → Option Value
  | .int => some (.type "int") | .bool => some (.type "bool") | .str => some (.type "str") | .tup => some (.type "tuple") | .list => some (.type "list")
  | .own _ => none
def dTy : D → Store → Option Value
  | .non, _ => some (.type "NoneType")
  | .bl _, _ => some (.type "bool")
  | .int _, _ => some (.type "int")
  | .str _, _ => some (.type "str")
  | .tup _, _ => some (.type "tuple")
  | .lst _, _ => some (.type "list")
  | .loc n, S => match S[n]? with
    | some (.list _) => some (.type "list")
    | _ => none
  | _, _ => none
theorem sqT_K {K : PySem.W.Frag} {a : Addr} {xs : List V} (h : ∀ H', SqT K H' a xs) : ∃ o, K.lookup a = some o ∧ o.cls = .type "tuple" := by
  rcases h (fun _ => none) with (h | ⟨o, h⟩) | ⟨o, its, n, h1, h2, _⟩
  · cases h
  · cases h
  · exact ⟨o, h1, h2⟩
theorem tyX_of (sim : Sim G m H S) (ha : Rep G m H a x) {t : Value} (e : dTy a S = some t) : TyX G.K H x t := by
  cases a with
  | non => simp only [Rep] at ha; subst ha; cases e; exact .base .non
  | bl b => simp only [Rep] at ha; subst ha; cases e; exact .base (.bl b)
  | int b => simp only [Rep] at ha; subst ha; cases e; exact .base (.int b)
  | str b => simp only [Rep] at ha; rw [ha.1]; cases e; exact .base (.str b)
  | tup xs =>
    simp only [Rep] at ha
    obtain ⟨l, vs, rfl, _, _, q⟩ := ha
    cases e
    rcases q with ⟨q | ⟨o, q⟩, _⟩ | q
    · exact .base (.tup q)
    · exact .fTuple q
    · obtain ⟨o, h1, h2⟩ := sqT_K q
      exact .kTuple h1 h2
  | lst xs =>
    obtain ⟨l, vs, rfl, _, _, q⟩ := rep_lst ha
    cases e
    exact .base (.lst q)
  | loc n =>
    simp only [dTy] at e
    split at e
    · next xs hz =>
      cases e
      obtain ⟨l, hl, ws, h1, z, r2⟩ := sim.find hz
      simp only [Rep] at ha
      obtain ⟨l', rfl, hl'⟩ := ha
      rw [hl] at hl'; cases hl'
      exact .base (.lst h1)
    · cases e
  | _ => simp [dTy] at e
theorem kit_tab (K : PySem.W.Frag) (t : Ty) (c : Value) (hc : tyV' t = some c) (a : D) (S : Store) (b : Bool) (h : isTy t a S = some b) : ∃ w, dTy a S = some w ∧ PySem.W.kitOne K w c = some b := by
  cases t <;> simp only [tyV', Option.some.injEq] at hc <;> first | (cases hc; done) | subst hc
  all_goals
    cases a <;> simp only [isTy, Option.some.injEq] at h <;> first
      | (cases h; done)
      | (subst h; exact ⟨_, rfl, by rfl⟩)
      | (split at h
         · next xs e => simp only [Option.some.injEq] at h; subst h; exact ⟨.type "list", by simp only [dTy, e], by rfl⟩
         · cases h)
end
end Ev
/-! Ev, part D: where an evaluation stands; calls of defs; plain facts of expressions. -/
namespace Ev
open PySem L2

/-- what the top has written: constants, defs; the built-in names that it leaves alone -/
structure TabOk (G : GC) : Prop where
  con : ∀ (x : Str) (d : D), G.T.cons.lookup x = some d → ∃ u v, G.mg x = some u ∧ RelV v u ∧ ∀ m H, Rep G m H d v
  blt : ∀ x ∈ G.T.blts, G.mg x = none
  fns : ∀ (f : Nat) (x : Str) (d : FD), G.T.fns[f]? = some (x, d) → ∃ a, G.mg x = some (.ref a) ∧ PySem.W.keepIn G.K (.ref a) = true
/-- each def does what cl says, called here -/
def FnAt (G : GC) (P : Program) (w : World) (base : Heap) (A : Around) (cl : Nat → List D → Store → R D) : Prop :=
  ∀ (f : Nat) (x : Str) (d : FD) (a : Addr), G.T.fns[f]? = some (x, d) → G.mg x = some (.ref a) → ∀ (outer : List Env) (s : Shared) (H : Hp) (us : List Value) (vs : List V) (as : List D) (m : List Addr) (S : Store) (Q : VK) (E : XK),
    Env0 P w G.K G.mg base A outer s H → Vals vs us → RepL G m H as vs → Sim G m H S → PostE G (fun c dd _ H' => E c dd H') m [] H (cl f as S) Q →
    codeAny (model P w) A (.call (.ref a) ⟨us, []⟩) (CR (L2.CX P w) outer P w H s Q E) s
structure XOk (G : GC) (cl : Nat → List D → Store → R D) (N : List Str) (sc : Scope) (W : WX) (X : Cx) : Prop extends At G X where
  mg : X.mg = G.mg
  eN : X.N = N
  eS : X.env.scope = sc
  nd : N.Nodup
  tab : TabOk G
  tk : Takes X W
  fnat : ∀ l, FnAt (G.up l) X.prog X.w X.base X.A cl

section
variable {X : Cx} {pins : List (Addr × Obj)} {σ : St} {H : Hp} {s : Shared}
theorem _root_.L2.PE.imp {e : Expr} {t t' : TE} (h : PE X e t) (k : ∀ σ H Q, t' σ H Q → t σ H Q) : PE X e t' := ⟨fun pins s σ H Q I q => h.run pins s σ H Q I (k σ H Q q)⟩
theorem _root_.L2.PT.imp {e : Expr} {t t' : TT} (h : PT X e t) (k : ∀ σ H Q, t' σ H Q → t σ H Q) : PT X e t' := ⟨fun pins s σ H Q I q => h.run pins s σ H Q I (k σ H Q q)⟩
theorem _root_.L2.PW.imp {e : Expr} {t t' : TT} (h : PW X e t) (k : ∀ σ H Q, t' σ H Q → t σ H Q) : PW X e t' := ⟨fun w pins s σ H Q I q => h.run w pins s σ H Q I (k σ H Q q)⟩
theorem _root_.L2.PA.imp {e : List Expr} {t t' : TA} (h : PA X e t) (k : ∀ σ H Q, t' σ H Q → t σ H Q) : PA X e t' := ⟨fun p pins s σ H Q I q => h.run p pins s σ H Q I (k σ H Q q)⟩
theorem _root_.L2.PO.imp {e : Option Expr} {t t' : TO} (h : PO X e t) (k : ∀ σ H Q, t' σ H Q → t σ H Q) : PO X e t' := ⟨fun pins s σ H Q I q => h.run pins s σ H Q I (k σ H Q q)⟩
theorem _root_.L2.PI.imp {tg e : Expr} {t t' : TI} (h : PI X tg e t) (k : ∀ σ H Q, t' σ H Q → t σ H Q) : PI X tg e t' := ⟨fun pins s σ H Q I q => h.run pins s σ H Q I (k σ H Q q)⟩
theorem _root_.L2.PS.imp {e : Stmt} {t t' : TS} (h : PS X e t) (k : ∀ D σ H, t' D σ H → t D σ H) : PS X e t' := ⟨fun pins s σ H D I q => h.run pins s σ H D I (k D σ H q)⟩
theorem _root_.L2.PSs.imp {e : List Stmt} {t t' : TS} (h : PSs X e t) (k : ∀ D σ H, t' D σ H → t D σ H) : PSs X e t' := ⟨fun pins s σ H D I q => h.run pins s σ H D I (k D σ H q)⟩
end

/-! ### a call of a def -/
section
variable {G : GC} {cl : Nat → List D → Store → R D} {N : List Str} {sc : Scope} {W : WX} {X : Cx} {pins : List (Addr × Obj)} {σ : St} {H : Hp} {s : Shared} {m : List Addr} {S : Store}
theorem run_cl (O : XOk G cl N sc W X) {f : Nat} {x : Str} {d : FD} {a : Addr} (hf : G.T.fns[f]? = some (x, d)) (ha : G.mg x = some (.ref a)) {us : List Value} {vs : List V} {as : List D} {Q : VK}
    (I : Inv X pins σ H s) (r : Vals vs us) (ra : RepL G m H as vs) (sim : Sim G m H S) (h : PostE G W m σ H (cl f as S) Q) : wpAny (model X.prog X.w) X.A (call (.ref a) us) (EP X pins σ Q) X.xe s := by
  have e0 := I.env0
  rw [O.K, O.mg] at e0
  have hp : PostE G (fun c dd _ H' => W c dd σ H') m [] H (cl f as S) Q := by
    revert h
    generalize cl f as S = z
    cases z with
    | ok d S => exact id
    | bad => exact id
    | ex c pl S => exact id
  refine wpAny_call (codeAny_mono (O.fnat [] f x d a hf ha X.stack s H us vs as m S Q (fun c dd H' => W c dd σ H') e0 r ra sim hp) fun r s' hq => ?_)
  cases r with
  | error e => exact O.tk _ _ (XE.of_call I (fun cls d H' z => z) hq)
  | ok fl =>
    cases fl with
    | ret u => exact I.after hq
    | next => exact False.elim hq
    | brk => exact False.elim hq
    | cont => exact False.elim hq
end

/-! ### plain facts of the syntax -/
/-- no star, no set display -/
def plainE : Expr → Bool
  | .Starred _ _ => false
  | .Set _ _ _ => false
  | _ => true
theorem star_cons {e : Expr} {es : List Expr} {env : Env} (h : plainE e = true) : starEach (e :: es) env = (false, eval e env) :: starEach es env := by
  cases e <;> first | rfl | (simp [plainE] at h)
theorem star_none {pos : Pos} {env : Env} : ∀ {es : List Expr}, es.all plainE = true → (backTo pos (starEach es env)).any (·.1) = false
  | [], _ => rfl
  | e :: es, h => by
    rw [List.all_cons, Bool.and_eq_true] at h
    rw [star_cons h.1]
    have ih := star_none (pos := pos) (env := env) h.2
    show (false || (backTo pos (starEach es env)).any (·.1)) = false
    rw [ih]; rfl
theorem plain_marks {op : CmpOp} {e : Expr} (h : plainE e = true) : behindInMarks op e = false := by
  cases e <;> first | rfl | (simp [plainE] at h)
theorem plain_marks2 {o1 o2 : CmpOp} {b c : Expr} (h : plainE c = true) : lastMarks [o1, o2] [b, c] = false := by
  show behindInMarks o2 c = false
  exact plain_marks h
theorem plain_fold {e : Expr} {env : Env} (h : plainE e = true) (x : Value) : foldedSetIterable e env x = pure x := by
  cases e <;> first | rfl | (simp [plainE] at h)
/-- .. and no slice -/
def plainI : Expr → Bool
  | .Slice _ _ _ _ => false
  | _ => true
theorem plain_ix {e : Expr} (h : plainI e = true) (o i : Value) : subscripted e false o i = operate [o, i] (getItem o i) := by
  cases e <;> first | rfl | (simp [plainI] at h)
/-- an expression whose test is its value's truth -/
def plainB : Expr → Bool
  | .UnaryOp .Not _ _ => false
  | .BoolOp _ _ _ => false
  | .IfExp _ _ _ _ => false
  | .Compare _ _ _ _ => false
  | _ => true
theorem plain_test {e : Expr} {env : Env} (h : plainB e = true) (whole : Sem Value) : isTrue e env whole = (do let v ← whole; standAt e.pos; holding [v] (truthy v)) := by
  cases e <;> first
    | rfl
    | (simp [plainB] at h; done)
    | (rename_i op _ _; cases op <;> first | rfl | (simp [plainB] at h; done))
/-- an expression that is no comprehension: stored as it comes -/
def plainC : Expr → Bool
  | .ListComp _ _ _ _ => false
  | .SetComp _ _ _ _ => false
  | .DictComp _ _ _ _ _ => false
  | _ => true
theorem plain_swaps {e : Expr} {t : Option Expr} {l : Nat} {env : Env} (h : plainC e = true) : swapsWith e t l env = pure false := by
  cases e <;> first | rfl | (simp [plainC] at h)
/-- an expression whose attribute is asked plainly -/
def plainA : Expr → Bool
  | .Call _ _ _ _ => false
  | _ => true
theorem plain_attr {e : Expr} {f : Str} {env : Env} {whole : Sem Value} (h : plainA e = true) : attributeBase e f env whole = whole := by
  cases e <;> first | rfl | (simp [plainA] at h)
/-- a target: a name, a tuple of targets -/
def plainT : Expr → Bool
  | .Starred _ _ => false
  | _ => true
theorem tgt_cons {e : Expr} {es : List Expr} {env : Env} (h : plainT e = true) : (assignEach (e :: es) env).map (·.2) = assign e env :: (assignEach es env).map (·.2) := by
  cases e <;> first | rfl | (simp [plainT] at h)
theorem tgt_len {env : Env} : ∀ {es : List Expr}, (assignEach es env).length = es.length
  | [] => rfl
  | e :: es => by
    have ih := tgt_len (env := env) (es := es)
    cases e <;> (show (assignEach es env).length + 1 = es.length + 1; rw [ih])
theorem tgt_none {env : Env} : ∀ {es : List Expr}, es.all plainT = true → (assignEach es env).findIdx? (·.1) = none
  | [], _ => rfl
  | e :: es, h => by
    rw [List.all_cons, Bool.and_eq_true] at h
    have ih := tgt_none (env := env) h.2
    have e1 : assignEach (e :: es) env = (false, assign e env) :: assignEach es env := by
      cases e <;> first | rfl | (simp [plainT] at h)
    rw [e1, List.findIdx?_cons, ih]
    rfl

/-! ### truth as a test -/
section
variable {G : GC} {W : WX} {X : Cx} {H : Hp} {m : List Addr} {S : Store}
theorem truth_ok {a : D} {v : V} {b : Bool} (h : Rep G m H a v) (e : truth a = some b) {K} : TruV K v H b := by
  cases a with
  | non => simp only [Rep] at h; subst h; simp only [truth, Option.some.injEq] at e; exact e.symm
  | bl c => simp only [Rep] at h; subst h; simp only [truth, Option.some.injEq] at e; exact e.symm
  | int i => simp only [Rep] at h; subst h; simp only [truth, Option.some.injEq] at e; exact e.symm
  | _ => simp [truth] at e
/-- the test of an evaluation -/
def tst (r : Slots → Store → R D) : Slots → Store → R Bool := fun τ S => (r τ S).bind fun x S => okO (truth x) S
theorem pt_of {e : Expr} {r : Slots → Store → R D} (h : PE X e (tE G W r)) (he : plainB e = true) : PT X e (tB G W (tst r)) := by
  refine (pt_truth h (plain_test he)).imp fun σ H Q ⟨m, τ, S, rel, sim, q⟩ => ?_
  refine tR.seq rel sim q fun m' H' d S' v e rel' sim' rd p => ?_
  obtain ⟨b, eb, p⟩ := Post.o_ p
  exact ⟨b, truth_ok rd eb, p.done sim' rfl⟩
end
end Ev
/-! Ev, part E: the checker: compact syntax against the text. -/
namespace Ev
open PySem L2
def glb (sc : Scope) (x : Str) : Bool := decide (sc.names.lookup x = some .globalImplicit) && (x != ("__debug__" : Str)) && (x != ("__name__" : Str))
def vis (sc : Scope) (x : Str) : Bool := (match sc.names.lookup x with | some .local => true | some .cell => true | some .free => true | _ => false) && (x != ("__debug__" : Str)) && (x != ("__classdict__" : Str))
def sto (sc : Scope) (x : Str) : Bool := match sc.names.lookup x with | some .local => true | some .cell => true | _ => false
def biN : BI → Str
  | .len => "len" | .int => "int" | .abs => "abs" | .bool => "bool" | .str => "str" | .tuple => "tuple" | .list => "list" | .all => "all" | .sum => "sum"
  | .max1 => "max" | .min1 => "min" | .max2 => "max" | .min2 => "min" | .sorted => "sorted" | .divmod => "divmod"
def tyN : Ty → Str
  | .int => "int" | .bool => "bool" | .str => "str" | .tup => "tuple" | .list => "list" | .own _ => ""
def miN : MI → Str
  | .append => "append" | .clear => "clear" | .reverse => "reverse"
def fnN (T : Tab) (f : Nat) (y : Str) : Bool := match T.fns[f]? with
  | some (x, _) => x == y
  | none => false
mutual
def chkT (N : List Str) (sc : Scope) (own : Option (List Nat)) : CT → Expr → Bool
  | .name i, e => match e with
    | .Name x _ => decide (N[i]? = some x) && sto sc x && (match own with | none => true | some l => l.contains i)
    | _ => false
  | .tup ts, e => match e with
    | .Tuple es _ _ => chkTs N sc own ts es && es.all plainT
    | _ => false
def chkTs (N : List Str) (sc : Scope) (own : Option (List Nat)) : List CT → List Expr → Bool
  | [], es => es.isEmpty
  | t :: ts, es => match es with
    | e :: es => chkT N sc own t e && chkTs N sc own ts es
    | [] => false
end
def isTup : CT → Expr → Bool
  | .tup _, .Tuple _ _ _ => true
  | _, _ => false
/-- an expression that is no if-else: its test can be told from its value -/
def plainF : Expr → Bool
  | .IfExp _ _ _ _ => false
  | _ => true
/-- .. and the built-in classes -/
def tyS : Ty → Option String
  | .int => some "int" | .bool => some "bool" | .str => some "str" | .tup => some "tuple" | .list => some "list"
  | .own _ => none
section
variable (T : Tab) (N : List Str)
mutual
def chk (sc : Scope) : CE → Expr → Bool
  | .int i, e => match e with
    | .Constant (.int j) _ _ => i == j
    | _ => false
  | .bl b, e => match e with
    | .Constant (.bool c) _ _ => b == c
    | _ => false
  | .non, e => match e with
    | .Constant .none _ _ => true
    | _ => false
  | .str x, e => match e with
    | .Constant (.str y) _ _ => x == y && PyData.strOk x && decide (x.length ≤ big)
    | _ => false
  | .var i, e => match e with
    | .Name x _ => decide (N[i]? = some x) && vis sc x
    | _ => false
  | .con x d, e => match e with
    | .Name y _ => x == y && glb sc x && decide (T.cons.lookup x = some d)
    | _ => false
  | .fnv f, e => match e with
    | .Name y _ => glb sc y && fnN T f y
    | _ => false
  | .bin o a b, e => match e with
    | .BinOp l op r _ => decide (op = opO o) && chk sc a l && chk sc b r
    | _ => false
  | .neg a, e => match e with
    | .UnaryOp .USub x _ => chk sc a x
    | _ => false
  | .not a, e => match e with
    | .UnaryOp .Not x _ => chk sc a x && plainF x
    | _ => false
  | .cmp o a b, e => match e with
    | .Compare l [op] [r] _ => decide (op = cO o) && chk sc a l && chk sc b r && plainE r
    | _ => false
  | .chain o1 o2 a b c, e => match e with
    | .Compare l [p1, p2] [r1, r2] _ => decide (p1 = cO o1) && decide (p2 = cO o2) && chk sc a l && chk sc b r1 && chk sc c r2 && plainE r2
    | _ => false
  | .and es, e => match e with
    | .BoolOp .And vs _ => chkL sc es vs && vs.all plainF && !vs.isEmpty
    | _ => false
  | .or es, e => match e with
    | .BoolOp .Or vs _ => chkL sc es vs && vs.all plainF && !vs.isEmpty
    | _ => false
  | .ite c a b, e => match e with
    | .IfExp t x y _ => chk sc c t && plainF t && chk sc a x && chk sc b y
    | _ => false
  | .tup es, e => match e with
    | .Tuple vs _ _ => chkL sc es vs && vs.all plainE
    | _ => false
  | .lst _ es, e => match e with
    | .List vs _ => chkL sc es vs && vs.all plainE
    | _ => false
  | .idx a i, e => match e with
    | .Subscript x y _ => chk sc a x && chk sc i y && plainI y
    | _ => false
  | .sl a lo hi, e => match e with
    | .Subscript x (.Slice l h none _) _ => chk sc a x && chkO sc lo l && chkO sc hi h
    | _ => false
  | .call f es, e => match e with
    | .Call (.Name y _) vs [] _ => glb sc y && fnN T f y && chkL sc es vs && vs.all plainE
    | _ => false
  | .bi b es, e => match e with
    | .Call (.Name y _) (v :: vs) [] _ => y == biN b && glb sc y && T.blts.contains y && chkL sc es (v :: vs) && (v :: vs).all plainE
    | _ => false
  | .isi a t, e => match e with
    | .Call (.Name y _) [v, .Name z _] [] _ => y == ("isinstance" : Str) && glb sc y && T.blts.contains y && z == tyN t && glb sc z && T.blts.contains z && chk sc a v && plainE v && (tyS t).isSome
    | _ => false
  | .lenset a, e => match e with
    | .Call (.Name y _) [.Call (.Name z _) [v] [] _] [] _ => y == ("len" : Str) && glb sc y && T.blts.contains y && z == ("set" : Str) && glb sc z && T.blts.contains z && chk sc a v && plainE v
    | _ => false
  | .meth m a es, e => match e with
    | .Call (.Attribute o name ap) vs [] cp => name == miN m && chk sc a o && plainA o && (ap.endLine == cp.line) && chkL sc es vs && vs.all plainE && (match m with | .append => vs.length == 1 | _ => vs.isEmpty)
    | _ => false
  | .dict0, e => match e with
    | .Dict [] [] _ => true
    | _ => false
  | .comp _ own t it c e, ex => match ex with
    | .ListComp elt [⟨tg, iter, ifs, n⟩] scope _ => n == 0 && blkC N sc scope own && chkIt sc it t tg iter && plainE iter && chkT N scope (some (own.map (·.2))) t tg && chkF (relS scope sc) c ifs && chk (relS scope sc) e elt
    | _ => false
def chkO (sc : Scope) : Option CE → Option Expr → Bool
  | none, e => e.isNone
  | some c, e => match e with
    | some e => chk sc c e
    | none => false
def chkF (sc : Scope) : Option CE → List Expr → Bool
  | none, es => es.isEmpty
  | some c, es => match es with
    | [e] => chk sc c e && plainF e
    | _ => false
def chkL (sc : Scope) : List CE → List Expr → Bool
  | [], es => es.isEmpty
  | c :: cs, es => match es with
    | e :: es => chk sc c e && chkL sc cs es
    | [] => false
def chkIt (sc : Scope) : CIt → CT → Expr → Expr → Bool
  | .val c, _, _, e => chk sc c e
  | .rng1 c, _, _, e => match e with
    | .Call (.Name y _) [v] [] _ => y == ("range" : Str) && glb sc y && T.blts.contains y && chk sc c v && plainE v
    | _ => false
  | .rng2 a b, _, _, e => match e with
    | .Call (.Name y _) [v, w] [] _ => y == ("range" : Str) && glb sc y && T.blts.contains y && chk sc a v && chk sc b w && plainE v && plainE w
    | _ => false
  | .enum _ c, t, tg, e => isTup t tg && (match e with
    | .Call (.Name y _) [v] [] _ => y == ("enumerate" : Str) && glb sc y && T.blts.contains y && chk sc c v && plainE v
    | _ => false)
  | .zip a b, t, tg, e => isTup t tg && (match e with
    | .Call (.Name y _) [v, w] [] _ => y == ("zip" : Str) && glb sc y && T.blts.contains y && chk sc a v && chk sc b w && plainE v && plainE w
    | _ => false)
end
end
end Ev
/-! Ev, part F: what loops walk. -/
namespace Ev
open PySem L2

/-! ### enumerate of a tuple -/
section
open Builtin PyProof.Rows
/-- enumerate(v) by what v begins with -/
theorem meets_enum1 {v : Value} {o : Obj} {H : Heap → Prop} (B : Begins v o H) :
    Meets (Builtin.«enumerate.__new__» ⟨[.type "enumerate", v], []⟩) (fun _ R s => H s.heap ∧
      R (.ok (.ret (.ref (s.heap.push o).objs.size))) { s with heap := (s.heap.push o).push { cls := .type "enumerate", data := .fields #[.none, .bool false, .ref s.heap.objs.size, rawInt 0, .none, .none] } }) :=
  .of_wp fun prog w A R s h => by
    obtain ⟨hp, g, d, tk, os⟩ := s; obtain ⟨h1, h⟩ := h
    have hsub := sub_enumerate
    have q1 : ∀ {A' : Around} {E : Value → Shared → Prop} {Q : Value → Shared → Prop}, Q (.ref hp.objs.size) ⟨hp.push o, g, d, tk, os⟩ → wpAny (model prog w) A' (pyIter v) Q E ⟨hp, g, d, tk, os⟩ :=
      fun q => B.iter prog w _ _ ⟨hp, g, d, tk, os⟩ _ h1 q
    wp_walk using q1
    refine wpAny_stack_any fun st => wpAny_pure ?_
    split
    · rename_i c _ _ _ _ _
      cases (c == Value.type "enumerate") <;> (wp_walk using q1; exact ⟨_, rfl, h⟩)
    · wp_walk using q1
      exact ⟨_, rfl, h⟩
theorem enum1_begins {prog : Program} {w : World} {A : Around} {E : Value → Shared → Prop} {s : Shared} {v : Value} {o : Obj} {H : Heap → Prop} {Q : Value → Shared → Prop} (B : Begins v o H) (h1 : H s.heap)
    (h : ∀ h', IsEnum h' (s.heap.objs.size + 1) s.heap.objs.size 0 .none → h'.get? s.heap.objs.size = some o →
      (∀ b o, s.heap.get? b = some o → h'.get? b = some o) → Q (.ref (s.heap.objs.size + 1)) { s with heap := h' }) :
    wpAny (model prog w) A (call (.type "enumerate") [v]) Q E s := by
  refine callType_new F.called_enumerate (by decide) (F.typeCall_enumerate_1 _) (F.newCall_enumerate_1 _) (fun obj => F.args_object_init_2 obj _) F.entry_enumerate_new
    (meets_enum1 B) ⟨h1, ?_⟩
  have hz : (s.heap.push o).objs.size = s.heap.objs.size + 1 := Heap.size_push ..
  show _ ∧ _
  rw [hz]
  refine ⟨⟨_, by
    have q := Heap.get?_push_size (s.heap.push o) (o := { cls := .type "enumerate", data := .fields #[.none, .bool false, .ref s.heap.objs.size, rawInt 0, .none, .none] }) rfl
    rw [hz] at q
    exact q, rfl⟩, h _ ?_ ?_ fun b ob e => Heap.get?_push_of_some _ (Heap.get?_push_of_some _ e)⟩
  · have q := Heap.get?_push_size (s.heap.push o) (o := { cls := .type "enumerate", data := .fields #[.none, .bool false, .ref s.heap.objs.size, rawInt 0, .none, .none] }) rfl
    rw [hz] at q
    exact q
  · exact Heap.get?_push_of_some _ (Heap.get?_push_size s.heap B.free)
end
/-- the tuple at a, each item in a new pair with its number -/
def IteT (K : PySem.W.Frag) (a : Addr) : It :=
  ⟨fun i H => ∃ (xs : List V) (x : V), SqT K H a xs ∧ xs[i]? = some x, fun i H v H' => ∃ T x, v = .ref T ∧ H T = none ∧ H' = upd H T (.tup [.int (i : Nat), x]) ∧ ∀ xs, SqT K H a xs → xs[i]? = some x,
    fun i H => ∃ xs : List V, SqT K H a xs ∧ xs.length = i⟩
section
open PyProof.Rows
theorem turn_enumT {P : Program} {w : World} {K : PySem.W.Frag} {elts : List Expr} {kk : Nat} {tpos : Pos} (a e it : Addr) (ha : a ≠ it) (ha2 : a ≠ e) :
    Turn P w K (.Tuple elts kk tpos) (IteT K a) [e, it] e (fun i h => (∃ old, IsEnum h e it ((i : Nat) : Int) old) ∧ h.IsTupleIter it a i ∧ e ≠ it) where
  mem := by simp
  obj := fun i h st b hb => by
    obtain ⟨⟨old, he⟩, ⟨o, ho, hc, hd⟩, _⟩ := st
    rcases (by simpa using hb : b = e ∨ b = it) with rfl | rfl
    · exact ⟨_, he, fun v q => nomatch q⟩
    · exact ⟨o, ho, fun v q => by rw [hd] at q; cases q⟩
  keep := fun i h h' st k => let ⟨⟨old, he⟩, hi, hne⟩ := st; ⟨⟨old, k e (by simp) _ he⟩, hi.at fun o q => k it (by simp) o q, hne⟩
  item := by
    intro X hP hw hK hc i pins s σ H E I hf st hg
    subst hP hw hK
    obtain ⟨⟨old, he⟩, hit, hne⟩ := st
    obtain ⟨xs, x, hq, hx⟩ := hg
    obtain ⟨its, rv, p, hz⟩ := I.tuple hq
    obtain ⟨u, hu, ru⟩ := rv.get hx
    have hel : e < s.heap.objs.size := Heap.lt_size he
    have hil : it < s.heap.objs.size := by obtain ⟨_, q, _⟩ := hit; exact Heap.lt_size q
    have hi : i < its.toArray.size := by
      rw [List.size_toArray]; exact (List.getElem?_eq_some_iff.mp hu).1
    have Dr := Draws.tuple (prog := X.prog) (w := X.w) (A := X.A.in1) (I.ok.hd hc) it a ha its.toArray
    refine wpAny_pyNext_enum_itemC (old := old) (c := (i : Nat)) Dr he ⟨hit, p⟩ hi hne (by simp only [List.mem_cons, List.not_mem_nil, or_false, not_or]; exact ⟨hne, ha2.symm⟩) fun y h' tk hy ho hit' hT hsz hk => ?_
    have ey : y = u := by
      rw [← Array.getElem?_toList] at hy
      have hy : its[i]? = some y := hy
      rw [hu] at hy; exact (Option.some.inj hy).symm
    subst ey
    refine ⟨_, rfl, wpAny_letOwnedTupleGo_enum (s := { s with heap := h', toks := tk + 1 }) ho fun h'' he' sb => ?_⟩
    have hT2 : h''.get? s.heap.objs.size = some { cls := .type "tuple", data := .seq #[.int i tk, y] } := (sb.2 _ (Nat.ne_of_gt hel)).trans hT
    have new : ObjOk X.prog X.w (upd H s.heap.objs.size (.tup [.int (i : Nat), x])) h'' s.heap.objs.size (.tup [.int (i : Nat), x]) :=
      ⟨by show 2 ≤ sizeLine; decide, [.int i tk, y], .cons ⟨_, rfl⟩ (.cons ru .nil), ⟨_, hT2, rfl, _, rfl⟩⟩
    have I1 : Inv X pins σ (upd H s.heap.objs.size (.tup [.int (i : Nat), x])) { s with heap := h'', toks := tk + 1 } :=
      I.turnedNew (ch := [e, it]) (fun b ob hb q => (sb.2 b (fun z => hb (by simp [z]))).trans (hk b ob (fun z => hb (by simp [z])) (fun z => hb (by simp [z])) q)) hf (Nat.le_refl _) new
    refine ⟨.ref s.heap.objs.size, _, I1, rfl, ⟨_, x, rfl, I.hok.fresh (Nat.le_refl _), rfl, fun ys hy => by rw [I.tuple_inj hy hq]; exact hx⟩, ⟨⟨y, ?_⟩, hit'.1.at fun o q => (sb.2 it (Ne.symm hne)).trans q, hne⟩, fun b hb => ?_⟩
    · have e1 : ((i + 1 : Nat) : Int) = (i : Int) + 1 := by omega
      rw [e1]; exact he'
    · have hb' : b < s.heap.objs.size := by
        rcases (by simpa using hb : b = e ∨ b = it) with rfl | rfl
        · exact hel
        · exact hil
      rw [upd_ne (Nat.ne_of_lt hb')]
      exact (hf b hb).1
  done := by
    intro X hP hw hK hc i pins s σ H E I hf st hg
    subst hP hw hK
    obtain ⟨⟨old, he⟩, hit, hne⟩ := st
    obtain ⟨xs, hq, hx⟩ := hg
    obtain ⟨its, rv, p, hz⟩ := I.tuple hq
    obtain ⟨f0, f1, f2, f3, f4, f5⟩ := hf it (by simp)
    have hl := rv.length
    have Dr := Draws.tuple (prog := X.prog) (w := X.w) (A := X.A.in1) (I.ok.hd hc) it a ha its.toArray
    have hi : i = its.toArray.size := by rw [List.size_toArray, ← hl]; exact hx.symm
    refine wpAny_pyNext_enum_endD Dr he (by rw [← hi]; exact ⟨hit, p⟩) fun h' eb => ⟨rfl, I.turnedL (t' := s.toks) (ch := [e, it]) (fun b o hb q => eb b o (fun z => hb (by simp [z])) q) hf⟩
  self := fun A i s Q E st h => let ⟨⟨_, he⟩, _⟩ := st; wpAny_pyIter_enum he h
end
end Ev
/-! Ev, part F2: what loops walk, by data. -/
namespace Ev
open PySem L2
theorem pi_enumT {X : Cx} {e : Expr} {ta : TA} {p pos tpos : Pos} {elts : List Expr} {kk : Nat} (hg : Gl X "enumerate") (hm : X.mg "enumerate" = none) (ha : PA X [e] ta) (hs : starEach [e] X.env = [(false, eval e X.env)]) :
    PI X (.Tuple elts kk tpos) (.Call (.Name "enumerate" p) [e] [] pos) (fun σ H R => ta σ H fun vs H1 => ∃ a xs, vs = [.ref a] ∧ SqT X.K H1 a xs ∧ R (IteT X.K a) H1) := by
  refine ⟨fun pins s σ H R I h => ?_⟩
  refine PyProof.Rows.Call_ (ld_blt I hg hm PyProof.Rows.boot_enumerate (PyProof.Rows.callWith_type1 (thn (ha.run pos pins s σ H _ I h) fun us s1 ⟨vs, H1, I1, r1, q1⟩ => ?_) hs rfl))
  obtain ⟨a, xs, ex, hq, q⟩ := q1
  subst ex
  cases r1 with
  | cons r rr =>
    cases rr
    cases r
    obtain ⟨its, rv, p', hz⟩ := I1.tuple hq
    have la : a < s1.heap.objs.size := p'.lt
    refine enum1_begins (begins_tuple a its.toArray) (show s1.heap.IsTuple a its.toArray from p') fun h' he hit hk => wpAny_pyIter_enum he ?_
    have I2 : Inv X pins σ H1 { s1 with heap := h' } := I1.kept (t' := s1.toks) hk
    refine ⟨s1.heap.objs.size + 1, [s1.heap.objs.size + 1, s1.heap.objs.size], _, _, H1, rfl, I2, turn_enumT a (s1.heap.objs.size + 1) s1.heap.objs.size (Nat.ne_of_lt la) (Nat.ne_of_lt (Nat.lt_succ_of_lt la)), ⟨⟨.none, he⟩, ⟨_, hit, rfl, rfl⟩, Nat.succ_ne_self _⟩, fun b hb => ?_, q⟩
    have hle : s1.heap.objs.size ≤ b := by
      rcases (by simpa using hb : b = s1.heap.objs.size + 1 ∨ b = s1.heap.objs.size) with z | z
      · rw [z]; exact Nat.le_add_right _ _
      · rw [z]; exact Nat.le_refl _
    exact I1.fpOk hle (I1.hok.fresh hle)

/-- the items come one after another, as long as the list that is walked stands still -/
structure JW (G : GC) (m0 : List Addr) (H0 : Hp) (I : Items) (J : It) : Prop where
  go : ∀ (l : List Addr) (i : Nat) (m : List Addr) (H : Hp) (S : Store), (∀ a ∈ l, H0 a = none) → Ext m0 H0 m H → Sim (G.up l) m H S → I.still S = true → i < I.xs.length →
    J.go i H ∧ ∀ x H', J.yld i H x H' → Ext m H m H' ∧ Sim (G.up l) m H' S ∧ ∃ d, I.xs[i]? = some d ∧ Rep (G.up l) m H' d x
  stop : ∀ (l : List Addr) (m : List Addr) (H : Hp) (S : Store), Ext m0 H0 m H → Sim (G.up l) m H S → I.still S = true → J.stop I.xs.length H
  few : I.xs.length ≤ big
section
variable {G : GC} {m : List Addr} {H : Hp} {S : Store}
theorem jw_list {K} {a : Addr} {vs : List V} {xs : List D} (z : vs.length ≤ big) (r : RepL G m H xs vs) (q : ∀ m' H', Ext m H m' H' → SqL K H' a vs) : JW G m H { xs := xs } (Itl K a) where
  go := fun l i m' H' S' f e sim _ hi => by
    have q' := q m' H' e
    have hi : i < vs.length := by rw [r.length]; exact hi
    refine ⟨⟨vs, vs[i], q', by simp [hi]⟩, fun x H2 y => ?_⟩
    obtain ⟨rfl, y⟩ := y
    obtain ⟨d, e1, e2⟩ := ((r.up f).ext e).back (y vs q')
    exact ⟨.refl _ _, sim, d, e1, e2⟩
  stop := fun l m' H' S' e sim _ => ⟨vs, q m' H' e, by rw [r.length]; exact Nat.le_refl _⟩
  few := by rw [← r.length]; exact z
theorem jw_tup {K} {a : Addr} {vs : List V} {xs : List D} (z : vs.length ≤ big) (r : RepL G m H xs vs) (q : ∀ m' H', Ext m H m' H' → SqT K H' a vs) : JW G m H { xs := xs } (Itt K a) where
  go := fun l i m' H' S' f e sim _ hi => by
    have q' := q m' H' e
    have hi : i < vs.length := by rw [r.length]; exact hi
    refine ⟨⟨vs, vs[i], q', by simp [hi]⟩, fun x H2 y => ?_⟩
    obtain ⟨rfl, y⟩ := y
    obtain ⟨d, e1, e2⟩ := ((r.up f).ext e).back (y vs q')
    exact ⟨.refl _ _, sim, d, e1, e2⟩
  stop := fun l m' H' S' e sim _ => ⟨vs, q m' H' e, by rw [r.length]; exact Nat.le_refl _⟩
  few := by rw [← r.length]; exact z
theorem jw_loc {K} {a : Addr} {n : Nat} {xs : List D} (z : xs.length ≤ big) (ha : m[n]? = some a) : JW G m H { xs := xs, gd := some (n, xs) } (Itl K a) := by
  have key : ∀ l m' H' S', Ext m H m' H' → Sim (G.up l) m' H' S' → Items.still { xs := xs, gd := some (n, xs) } S' = true → ∃ vs, H' a = some (.lst vs) ∧ RepL (G.up l) m' H' xs vs := by
    intro l m' H' S' e sim st
    simp only [Items.still] at st
    split at st
    · next ys hy =>
      have e1 : ys = xs := of_decide_eq_true st
      subst e1
      obtain ⟨a', ha', vs, h1, z, r⟩ := sim.find hy
      have := e.pre n a ha
      rw [ha'] at this; cases this
      exact ⟨vs, h1, r⟩
    · cases st
  exact {
    go := fun l i m' H' S' f e sim st hi => by
      obtain ⟨vs, h1, r⟩ := key l m' H' S' e sim st
      have q' : SqL K H' a vs := .of h1
      have hi : i < vs.length := by rw [r.length]; exact hi
      refine ⟨⟨vs, vs[i], q', by simp [hi]⟩, fun x H2 y => ?_⟩
      obtain ⟨rfl, y⟩ := y
      obtain ⟨d, e1, e2⟩ := r.back (y vs q')
      exact ⟨.refl _ _, sim, d, e1, e2⟩
    stop := fun l m' H' S' e sim st => by
      obtain ⟨vs, h1, r⟩ := key l m' H' S' e sim st
      exact ⟨vs, .of h1, by rw [r.length]; exact Nat.le_refl _⟩
    few := z }
theorem rangeD_len (a b : Int) : (rangeD a b).length = (b - a).toNat := by simp [rangeD]
theorem rangeD_get {a b : Int} {i : Nat} (h : i < (b - a).toNat) : (rangeD a b)[i]? = some (.int (a + i)) := by
  simp [rangeD, h]
theorem jw_range {a b : Int} (h : (b - a).toNat ≤ big) : JW G m H { xs := rangeD a b } (Itr a (b - a).toNat) where
  go := fun l i m' H' S' f e sim _ hi => by
    have hi : i < (b - a).toNat := by rw [← rangeD_len]; exact hi
    refine ⟨hi, fun x H2 y => ?_⟩
    obtain ⟨rfl, rfl⟩ := y
    exact ⟨.refl _ _, sim, _, rangeD_get hi, by simp only [Rep]⟩
  stop := fun l m' H' S' e sim _ => by
    show (b - a).toNat ≤ (rangeD a b).length
    rw [rangeD_len]; exact Nat.le_refl _
  few := by show (rangeD a b).length ≤ big; rw [rangeD_len]; exact h
theorem enumD_len : ∀ (xs : List D) (k : Nat), (enumD k xs).length = xs.length
  | [], _ => rfl
  | x :: r, k => by simp only [enumD, List.length_cons, enumD_len r]
theorem enumD_get : ∀ (xs : List D) (k i : Nat) (d : D), xs[i]? = some d → (enumD k xs)[i]? = some (.tup [.int ((k + i : Nat) : Int), d])
  | [], _, i, _, h => by simp at h
  | x :: r, k, 0, d, h => by simp at h; subst h; simp [enumD]
  | x :: r, k, i + 1, d, h => by
    simp at h
    have := enumD_get r (k + 1) i d h
    simp only [enumD, List.getElem?_cons_succ, this]
    have e : ((k + 1 + i : Nat) : Int) = ((k + (i + 1) : Nat) : Int) := by omega
    rw [e]
theorem zipD_len : ∀ (xs ys : List D), (zipD xs ys).length = min xs.length ys.length
  | [], _ => by simp [zipD]
  | _ :: _, [] => by simp [zipD]
  | x :: xs, y :: ys => by simp only [zipD, List.length_cons, zipD_len xs ys]; omega
theorem zipD_get : ∀ (xs ys : List D) (i : Nat) (d e : D), xs[i]? = some d → ys[i]? = some e → (zipD xs ys)[i]? = some (.tup [d, e])
  | [], _, i, _, _, h, _ => by simp at h
  | _ :: _, [], i, _, _, _, h => by simp at h
  | x :: xs, y :: ys, 0, d, e, h, h2 => by simp at h h2; subst h; subst h2; simp [zipD]
  | x :: xs, y :: ys, i + 1, d, e, h, h2 => by simp at h h2; simpa [zipD] using zipD_get xs ys i d e h h2
/-- a new pair -/
theorem pair_new {T : Addr} {x y : V} {d e : D} (sim : Sim G m H S) (n : H T = none) (h1 : Rep G m H d x) (h2 : Rep G m H e y) :
    Ext m H m (upd H T (.tup [x, y])) ∧ Sim G m (upd H T (.tup [x, y])) S ∧ Rep G m (upd H T (.tup [x, y])) (.tup [d, e]) (.ref T) := by
  obtain ⟨e1, s1, np⟩ := sim.lay (o := .tup [x, y]) n
  exact ⟨e1, s1, rep_newT (.cons h1 (.cons h2 .nil)) (by show 2 ≤ big; decide) e1 np⟩
theorem jw_enum {K} {a : Addr} {vs : List V} {xs : List D} (z : vs.length ≤ big) (r : RepL G m H xs vs) (q : ∀ m' H', Ext m H m' H' → SqL K H' a vs) : JW G m H { xs := enumD 0 xs } (Ite K a) where
  go := fun l i m' H' S' f e sim _ hi => by
    have q' := q m' H' e
    have hi : i < vs.length := by rw [r.length, ← enumD_len xs 0]; exact hi
    refine ⟨⟨vs, vs[i], q', by simp [hi]⟩, fun x H2 y => ?_⟩
    obtain ⟨T, v, rfl, nT, rfl, y⟩ := y
    obtain ⟨d, e1, e2⟩ := ((r.up f).ext e).back (y vs q')
    obtain ⟨a1, a2, a3⟩ := pair_new (d := .int (i : Nat)) (x := .int (i : Nat)) sim nT (by simp only [Rep]) e2
    exact ⟨a1, a2, _, by have := enumD_get xs 0 i d e1; simpa using this, a3⟩
  stop := fun l m' H' S' e sim _ => ⟨vs, q m' H' e, by show vs.length ≤ (enumD 0 xs).length; rw [enumD_len, r.length]; exact Nat.le_refl _⟩
  few := by show (enumD 0 xs).length ≤ big; rw [enumD_len, ← r.length]; exact z
theorem jw_enumT {K} {a : Addr} {vs : List V} {xs : List D} (z : vs.length ≤ big) (r : RepL G m H xs vs) (q : ∀ m' H', Ext m H m' H' → SqT K H' a vs) : JW G m H { xs := enumD 0 xs } (IteT K a) where
  go := fun l i m' H' S' f e sim _ hi => by
    have q' := q m' H' e
    have hi : i < vs.length := by rw [r.length, ← enumD_len xs 0]; exact hi
    refine ⟨⟨vs, vs[i], q', by simp [hi]⟩, fun x H2 y => ?_⟩
    obtain ⟨T, v, rfl, nT, rfl, y⟩ := y
    obtain ⟨d, e1, e2⟩ := ((r.up f).ext e).back (y vs q')
    obtain ⟨a1, a2, a3⟩ := pair_new (d := .int (i : Nat)) (x := .int (i : Nat)) sim nT (by simp only [Rep]) e2
    exact ⟨a1, a2, _, by have := enumD_get xs 0 i d e1; simpa using this, a3⟩
  stop := fun l m' H' S' e sim _ => ⟨vs, q m' H' e, by show vs.length = (enumD 0 xs).length; rw [enumD_len, r.length]⟩
  few := by show (enumD 0 xs).length ≤ big; rw [enumD_len, ← r.length]; exact z
theorem jw_zip {K} {a b : Addr} {vs ws : List V} {xs ys : List D} (z : vs.length ≤ big) (r : RepL G m H xs vs) (r2 : RepL G m H ys ws) (q : ∀ m' H', Ext m H m' H' → SqL K H' a vs ∧ SqL K H' b ws) : JW G m H { xs := zipD xs ys } (Itz K a b) where
  go := fun l i m' H' S' f e sim _ hi => by
    obtain ⟨q', q2⟩ := q m' H' e
    have hi : i < min vs.length ws.length := by rw [r.length, r2.length, ← zipD_len]; exact hi
    refine ⟨⟨vs, ws, vs[i], ws[i], q', q2, by simp [show i < vs.length by omega], by simp [show i < ws.length by omega]⟩, fun x H2 y => ?_⟩
    obtain ⟨T, v, w, rfl, nT, rfl, y, y2⟩ := y
    obtain ⟨d, e1, e2⟩ := ((r.up f).ext e).back (y vs q')
    obtain ⟨d', e1', e2'⟩ := ((r2.up f).ext e).back (y2 ws q2)
    obtain ⟨a1, a2, a3⟩ := pair_new sim nT e2 e2'
    exact ⟨a1, a2, _, zipD_get xs ys i d d' e1 e1', a3⟩
  stop := fun l m' H' S' e sim _ => by
    obtain ⟨q', q2⟩ := q m' H' e
    refine ⟨vs, ws, q', q2, ?_⟩
    show vs.length ≤ (zipD xs ys).length ∨ ws.length ≤ (zipD xs ys).length
    rw [zipD_len, r.length, r2.length]
    omega
  few := by show (zipD xs ys).length ≤ big; rw [zipD_len, ← r.length]; omega
theorem jw_zipT {K} {a b : Addr} {vs ws : List V} {xs ys : List D} (z : vs.length ≤ big) (r : RepL G m H xs vs) (r2 : RepL G m H ys ws) (q : ∀ m' H', Ext m H m' H' → SqT K H' a vs ∧ SqT K H' b ws) : JW G m H { xs := zipD xs ys } (RZ.ItzT K a b) where
  go := fun l i m' H' S' f e sim _ hi => by
    obtain ⟨q', q2⟩ := q m' H' e
    have hi : i < min vs.length ws.length := by rw [r.length, r2.length, ← zipD_len]; exact hi
    refine ⟨⟨vs, ws, vs[i], ws[i], q', q2, by simp [show i < vs.length by omega], by simp [show i < ws.length by omega]⟩, fun x H2 y => ?_⟩
    obtain ⟨T, v, w, rfl, nT, rfl, y, y2⟩ := y
    obtain ⟨d, e1, e2⟩ := ((r.up f).ext e).back (y vs q')
    obtain ⟨d', e1', e2'⟩ := ((r2.up f).ext e).back (y2 ws q2)
    obtain ⟨a1, a2, a3⟩ := pair_new sim nT e2 e2'
    exact ⟨a1, a2, _, zipD_get xs ys i d d' e1 e1', a3⟩
  stop := fun l m' H' S' e sim _ => by
    obtain ⟨q', q2⟩ := q m' H' e
    refine ⟨vs, ws, q', q2, ?_⟩
    show vs.length ≤ (zipD xs ys).length ∨ ws.length ≤ (zipD xs ys).length
    rw [zipD_len, r.length, r2.length]
    omega
  few := by show (zipD xs ys).length ≤ big; rw [zipD_len, ← r.length]; omega
/-- a value that is walked: its address, its items, for as long as it stands -/
theorem walk_lst {ds : List D} {v : V} (h : Rep G m H (.lst ds) v) : ∃ a vs, v = .ref a ∧ vs.length ≤ big ∧ RepL G m H ds vs ∧ ∀ m' H', Ext m H m' H' → SqL G.K H' a vs := by
  simp only [Rep] at h
  obtain ⟨a, xs, e, z, r, q, n⟩ := h
  exact ⟨a, xs, e, z, r, fun m' H' x => .of (x.keep a _ n.1 q).1⟩
theorem walk_scr {ds : List D} {v : V} (h : Rep G m H (.scr ds) v) : ∃ a vs, v = .ref a ∧ vs.length ≤ big ∧ RepL G m H ds vs ∧ ∀ m' H', Ext m H m' H' → SqL G.K H' a vs := by
  simp only [Rep] at h
  obtain ⟨a, xs, e, z, r, q⟩ := h
  refine ⟨a, xs, e, z, r, fun m' H' x => ?_⟩
  rcases q with ⟨q, n⟩ | q
  · exact .inl (rd_ext x q n.1).1
  · exact q H'
theorem walk_tp {ds : List D} {v : V} (h : Rep G m H (.tup ds) v) : ∃ a vs, v = .ref a ∧ vs.length ≤ big ∧ RepL G m H ds vs ∧ ∀ m' H', Ext m H m' H' → SqT G.K H' a vs := by
  simp only [Rep] at h
  obtain ⟨a, xs, e, z, r, q⟩ := h
  refine ⟨a, xs, e, z, r, fun m' H' x => ?_⟩
  rcases q with ⟨q, n⟩ | q
  · exact .inl (rd_ext x q n.1).1
  · exact q H'
end
end Ev
/-! Ev, part G: each form of expression, by its parts. -/
namespace Ev
open PySem L2
section
variable {G : GC} {W : WX} {X : Cx} {ra rb rc : Slots → Store → R D} {a b c : Expr} {pos : Pos}

/-! ### operators -/
theorem ex_bin (A : At G X) (o : BO) (ha : PE X a (tE G W ra)) (hb : PE X b (tE G W rb)) : PE X (.BinOp a (opO o) b pos) (tE G W fun τ S => (ra τ S).bind fun x S => (rb τ S).bind fun y S => binop o x y S) := by
  refine ⟨fun pins s σ H Q I ⟨m, τ, S, rel, sim, q⟩ => wpAny_BinOp (binT ha hb I (R := fun x y H2 => ∃ m S d e, Rep G m H2 d x ∧ Rep G m H2 e y ∧ Sim G m H2 S ∧ P0 G m H2 (binop o d e S) Q)
    (tR.seq rel sim q fun m1 H1 d S1 v e1 rel1 sim1 r1 p => tR.seq rel1 sim1 p fun m2 H2 d2 S2 v2 e2 rel2 sim2 r2 p2 => ⟨m2, S2, d, d2, r1.ext e2, r2, sim2, p2.any (noex_binop _ _ _)⟩) ?_)⟩
  rintro v u s2 x y H2 I2 rx ry ⟨m, S, d, e, hd, he, hs, h⟩
  exact binop_ok (W := W0) A o I2 rx ry hd he hs (h.any (noex_binop _ _ _))
theorem ex_neg (ha : PE X a (tE G W ra)) : PE X (.UnaryOp .USub a pos) (tE G W fun τ S => (ra τ S).bind neg) := by
  refine ⟨fun pins s σ H Q I ⟨m, τ, S, rel, sim, q⟩ => PyProof.Rows.UnaryOp_ (thn (ha.run pins s σ H (fun v H1 => ∃ m1 S1 d, Rep G m1 H1 d v ∧ Sim G m1 H1 S1 ∧ P0 G m1 H1 (neg d S1) Q) I (tR.seq rel sim q fun m1 H1 d S1 v e1 rel1 sim1 r1 p => ⟨m1, S1, d, r1, sim1, p.any (by cases d <;> trivial)⟩)) fun u s1 ⟨v, H1, I1, rv, m1, S1, d, r1, sim1, p⟩ => ?_)⟩
  exact neg_ok I1 rv r1 sim1 p
theorem ex_not (ha : PE X a (tE G W ra)) : PE X (.UnaryOp .Not a pos) (tE G W fun τ S => (ra τ S).bind fun x S => (okO (truth x) S).bind fun b S => .ok (.bl (!b)) S) := by
  refine (pe_notT ha).imp fun σ H Q ⟨m, τ, S, rel, sim, q⟩ => ?_
  refine tR.seq rel sim q fun m1 H1 d S1 v e1 rel1 sim1 r1 p => ?_
  cases et : truth d with
  | none => rw [et] at p; exact p.elim
  | some t =>
    rw [et] at p
    exact ⟨t, truth_ok r1 et, Post.done (d := D.bl (!t)) p sim1 (by simp only [Rep])⟩
/-- comparisons by values -/
def rCmp (G : GC) (o : CO) : R2 := fun x y H Q => ∃ m S d e, Rep G m H d x ∧ Rep G m H e y ∧ Sim G m H S ∧ P0 G m H (cmpop o d e S) Q
theorem op_cmp (A : At G X) (o : CO) : OpR X (compareOp (cO o)) (rCmp G o) := by
  rintro pins s σ H x y v u Q I rx ry ⟨m, S, d, e, hd, he, hs, h⟩
  exact cmpop_ok A o I rx ry hd he hs h
theorem cmp_bl (o : CO) (x y : D) (S : Store) : ∀ {z : D} {S' : Store}, cmpop o x y S = .ok z S' → ∃ b, z = .bl b := by
  intro z S' h
  have i : ∀ {c : Bool} {b : Bool}, okIf c (D.bl b) S = .ok z S' → ∃ b, z = .bl b := by
    intro c b h
    cases c with
    | false => cases h
    | true => cases h; exact ⟨b, rfl⟩
  cases o <;> simp only [cmpop] at h
  all_goals first
    | exact i h
    | (split at h <;> first | exact i h | (cases h; done) | (cases h; exact ⟨_, rfl⟩) | (split at h <;> first | exact i h | (cases h; done)))
theorem cmp_test {o : CO} {x y : D} {S : Store} {m : List Addr} {σ : St} {H : Hp} {Q : Bool → Hp → Prop} (h : Post G W (fun _ _ d v => v = d) m σ H ((cmpop o x y S).bind fun z S => okO (truth z) S) Q) :
    P0 G m H (cmpop o x y S) (fun v H' => ∃ k, v = .bl k ∧ Q k H') := by
  have n := noex_cmpop (S := S) o x y
  cases e : cmpop o x y S with
  | bad => rw [e] at h; exact h
  | ex c pl S' => rw [e] at n; exact n.elim
  | ok z S' =>
    obtain ⟨b, rfl⟩ := cmp_bl o x y S e
    rw [e] at h
    intro m' H' v ex sim r
    simp only [Rep] at r
    exact ⟨b, r, h m' H' b ex sim rfl⟩
theorem ex_cmp (A : At G X) (o : CO) (pb : plainE b = true) (ha : PE X a (tE G W ra)) (hb : PE X b (tE G W rb)) : PE X (.Compare a [cO o] [b] pos) (tE G W fun τ S => (ra τ S).bind fun x S => (rb τ S).bind fun y S => cmpop o x y S) :=
  (pe_cmpR (op_cmp A o) ha hb (plain_marks pb)).imp fun σ H Q ⟨m, τ, S, rel, sim, q⟩ =>
    tR.seq rel sim q fun m1 H1 d S1 v e1 rel1 sim1 r1 p => tR.seq rel1 sim1 p fun m2 H2 d2 S2 v2 e2 rel2 sim2 r2 p2 => ⟨m2, S2, d, d2, r1.ext e2, r2, sim2, p2.any (noex_cmpop _ _ _)⟩
theorem bind_assoc {α β γ : Type} (r : R α) (f : α → Store → R β) (g : β → Store → R γ) : (r.bind f).bind g = r.bind fun x S => (f x S).bind g := by
  cases r <;> rfl
theorem tx_cmp (A : At G X) (o : CO) (pb : plainE b = true) (ha : PE X a (tE G W ra)) (hb : PE X b (tE G W rb)) : PT X (.Compare a [cO o] [b] pos) (tB G W (tst fun τ S => (ra τ S).bind fun x S => (rb τ S).bind fun y S => cmpop o x y S)) := by
  refine (pt_cmpR (op_cmp A o) ha hb (plain_marks pb)).imp fun σ H Q ⟨m, τ, S, rel, sim, q⟩ => ?_
  simp only [tst, bind_assoc] at q
  exact tR.seq rel sim q fun m1 H1 d S1 v e1 rel1 sim1 r1 p => tR.seq rel1 sim1 p fun m2 H2 d2 S2 v2 e2 rel2 sim2 r2 p2 => ⟨m2, S2, d, d2, r1.ext e2, r2, sim2, cmp_test p2⟩
/-- a op b op' c -/
def chR (o1 o2 : CO) (ra rb rc : Slots → Store → R D) : Slots → Store → R D := fun τ S => (ra τ S).bind fun x S => (rb τ S).bind fun y S => (cmpop o1 x y S).bind fun z S => match z with
  | .bl true => (rc τ S).bind fun w S => cmpop o2 y w S
  | .bl false => .ok (.bl false) S
  | _ => .bad
theorem ex_chain (A : At G X) (o1 o2 : CO) (pc : plainE c = true) (ha : PE X a (tE G W ra)) (hb : PE X b (tE G W rb)) (hc : PE X c (tE G W rc)) : PE X (.Compare a [cO o1, cO o2] [b, c] pos) (tE G W (chR o1 o2 ra rb rc)) := by
  refine (pe_chain (op_cmp A o1) (op_cmp A o2) ha hb hc (plain_marks2 pc)).imp fun σ H Q ⟨m, τ, S, rel, sim, q⟩ => ?_
  refine tR.seq rel sim q fun m1 H1 d S1 v e1 rel1 sim1 r1 p => tR.seq rel1 sim1 p fun m2 H2 d2 S2 v2 e2 rel2 sim2 r2 p2 => ⟨m2, S2, d, d2, r1.ext e2, r2, sim2, ?_⟩
  have n := noex_cmpop (S := S2) o1 d d2
  cases e : cmpop o1 d d2 S2 with
  | bad => rw [e] at p2; exact p2
  | ex c pl S' => rw [e] at n; exact n.elim
  | ok z S3 =>
    obtain ⟨k, rfl⟩ := cmp_bl o1 d d2 S2 e
    intro m3 H3 v3 e3 sim3 r3
    simp only [Rep] at r3
    refine ⟨k, r3, ?_⟩
    rw [e] at p2
    cases k with
    | false =>
      rw [if_neg Bool.false_ne_true]
      have p2 : PostE G W m2 σ H2 (.ok (.bl false) S3) Q := p2
      exact p2 m3 H3 _ e3 sim3 (by simp only [Rep])
    | true =>
      rw [if_pos rfl]
      have p2 : PostE G W m2 σ H2 ((rc τ S3).bind fun w S => cmpop o2 d2 w S) Q := p2
      have p3 : PostE G W m3 σ H3 ((rc τ S3).bind fun w S => cmpop o2 d2 w S) Q := by
        revert p2
        generalize ((rc τ S3).bind fun w S => cmpop o2 d2 w S) = z
        cases z with
        | bad => exact id
        | ex c pl S => exact fun h' m2 H2 cls dd e2 s2 x => h' m2 H2 cls dd (e3.trans e2) s2 x
        | ok d2 S2 => exact fun h' m2 H2 v2 e2 s2 x => h' m2 H2 v2 (e3.trans e2) s2 x
      exact tR.seq (rel2.ext e3) sim3 p3 fun m4 H4 d4 S4 v4 e4 rel4 sim4 r4 p4 => ⟨m4, S4, d2, d4, (r2.ext e3).ext e4, r4, sim4, p4.any (noex_cmpop _ _ _)⟩
theorem tx_chain (A : At G X) (o1 o2 : CO) (pc : plainE c = true) (ha : PE X a (tE G W ra)) (hb : PE X b (tE G W rb)) (hc : PE X c (tE G W rc)) : PT X (.Compare a [cO o1, cO o2] [b, c] pos) (tB G W (tst (chR o1 o2 ra rb rc))) := by
  refine (pt_chain (op_cmp A o1) (op_cmp A o2) ha hb hc (plain_marks2 pc)).imp fun σ H Q ⟨m, τ, S, rel, sim, q⟩ => ?_
  simp only [tst, chR, bind_assoc] at q
  refine tR.seq rel sim q fun m1 H1 d S1 v e1 rel1 sim1 r1 p => tR.seq rel1 sim1 p fun m2 H2 d2 S2 v2 e2 rel2 sim2 r2 p2 => ⟨m2, S2, d, d2, r1.ext e2, r2, sim2, ?_⟩
  have n := noex_cmpop (S := S2) o1 d d2
  cases e : cmpop o1 d d2 S2 with
  | bad => rw [e] at p2; exact p2
  | ex c pl S' => rw [e] at n; exact n.elim
  | ok z S3 =>
    obtain ⟨k, rfl⟩ := cmp_bl o1 d d2 S2 e
    intro m3 H3 v3 e3 sim3 r3
    simp only [Rep] at r3
    refine ⟨k, r3, ?_⟩
    rw [e] at p2
    cases k with
    | false =>
      rw [if_neg Bool.false_ne_true]
      have p2 : Post G W (fun _ _ d v => v = d) m2 σ H2 (.ok false S3) Q := p2
      exact ⟨false, rfl, p2 m3 H3 _ e3 sim3 rfl⟩
    | true =>
      rw [if_pos rfl]
      have p2 : Post G W (fun _ _ d v => v = d) m2 σ H2 (((rc τ S3).bind fun w S => cmpop o2 d2 w S).bind fun z S => okO (truth z) S) Q := p2
      rw [bind_assoc] at p2
      have p3 : Post G W (fun _ _ d v => v = d) m3 σ H3 ((rc τ S3).bind fun w S => (cmpop o2 d2 w S).bind fun z S => okO (truth z) S) Q := by
        revert p2
        generalize ((rc τ S3).bind fun w S => (cmpop o2 d2 w S).bind fun z S => okO (truth z) S) = z
        cases z with
        | bad => exact id
        | ex c pl S => exact fun h' m2 H2 cls dd e2 s2 x => h' m2 H2 cls dd (e3.trans e2) s2 x
        | ok d2 S2 => exact fun h' m2 H2 v2 e2 s2 x => h' m2 H2 v2 (e3.trans e2) s2 x
      exact tR.seq (rel2.ext e3) sim3 p3 fun m4 H4 d4 S4 v4 e4 rel4 sim4 r4 p4 => ⟨m4, S4, d2, d4, (r2.ext e3).ext e4, r4, sim4, cmp_test p4⟩
end
end Ev
/-! Ev, part G2: and, or, if-else, rows, subscripts, calls. -/
namespace Ev
open PySem L2
section
variable {G : GC} {m : List Addr} {H : Hp} {S : Store} {α β γ δ : Type} {W : WX} {R1 : List Addr → Hp → α → β → Prop} {R2 : List Addr → Hp → γ → δ → Prop} {σ : St}
theorem Post.notBad {r : R α} {Q : β → Hp → Prop} (h : Post G W R1 m σ H r Q) : r ≠ .bad := fun e => by rw [e] at h; exact h
/-- the test of an evaluation, as the rest of it needs it -/
theorem Post.tst {r : R D} {F : D → Store → R γ} {Q : δ → Hp → Prop} {Q' : Bool → Hp → Prop} (h : Post G W R2 m σ H (r.bind F) Q) (k0 : ∀ d S', F d S' ≠ .bad → truth d ≠ none)
    (k : ∀ m' H' d S' b, Ext m H m' H' → Sim G m' H' S' → truth d = some b → Post G W R2 m' σ H' (F d S') Q → Q' b H') : Post G W (fun _ _ d v => v = d) m σ H (r.bind fun x S => okO (truth x) S) Q' := by
  cases r with
  | bad => exact h
  | ex c pl S => exact h
  | ok d S =>
    have h' : Post G W R2 m σ H (F d S) Q := h
    have e0 := k0 d S h'.notBad
    show Post G W _ m σ H (okO (truth d) S) Q'
    cases et : truth d with
    | none => exact absurd et e0
    | some b =>
      intro m' H' v e s q
      subst q
      refine k m' H' d S v e s et ?_
      revert h'
      generalize F d S = z
      cases z with
      | bad => exact id
      | ex c pl S => exact fun h' m2 H2 cls dd e2 s2 x => h' m2 H2 cls dd (e.trans e2) s2 x
      | ok d2 S2 => exact fun h' m2 H2 v2 e2 s2 x => h' m2 H2 v2 (e.trans e2) s2 x
end
section
variable {G : GC} {W : WX} {X : Cx} {ra rb rc : Slots → Store → R D} {a b c : Expr} {pos : Pos} {rest : List Expr}
/-! ### and, or, if-else -/
def and2 (ra rb : Slots → Store → R D) : Slots → Store → R D := fun τ S => (ra τ S).bind fun x S => match x with
  | .bl true => rb τ S
  | .bl false => .ok (.bl false) S
  | _ => .bad
def or2 (ra rb : Slots → Store → R D) : Slots → Store → R D := fun τ S => (ra τ S).bind fun x S => match x with
  | .bl true => .ok (.bl true) S
  | .bl false => rb τ S
  | _ => .bad
def ite2 (rc ra rb : Slots → Store → R D) : Slots → Store → R D := fun τ S => (rc τ S).bind fun x S => match truth x with
  | some true => ra τ S
  | some false => rb τ S
  | none => .bad
theorem ex_and (ha : PE X a (tE G W ra)) (hb : PE X (.BoolOp .And (b :: rest) pos) (tE G W rb)) : PE X (.BoolOp .And (a :: b :: rest) pos) (tE G W (and2 ra rb)) := by
  refine (pe_and ha hb).imp fun σ H Q ⟨m, τ, S, rel, sim, q⟩ => tR.seq rel sim q fun m1 H1 d S1 v e1 rel1 sim1 r1 p => ?_
  cases d with
  | bl k =>
    simp only [Rep] at r1
    refine ⟨k, r1, ?_⟩
    cases k with
    | false => rw [if_neg Bool.false_ne_true]; exact Post.done (R1 := Rep G) (d := .bl false) p sim1 (by simp only [Rep])
    | true => rw [if_pos rfl]; exact ⟨m1, τ, S1, rel1, sim1, p⟩
  | _ => exact p.elim
theorem ex_or (ha : PE X a (tE G W ra)) (hb : PE X (.BoolOp .Or (b :: rest) pos) (tE G W rb)) : PE X (.BoolOp .Or (a :: b :: rest) pos) (tE G W (or2 ra rb)) := by
  refine (pe_or ha hb).imp fun σ H Q ⟨m, τ, S, rel, sim, q⟩ => tR.seq rel sim q fun m1 H1 d S1 v e1 rel1 sim1 r1 p => ?_
  cases d with
  | bl k =>
    simp only [Rep] at r1
    refine ⟨k, r1, ?_⟩
    cases k with
    | true => rw [if_pos rfl]; exact Post.done (R1 := Rep G) (d := .bl true) p sim1 (by simp only [Rep])
    | false => rw [if_neg Bool.false_ne_true]; exact ⟨m1, τ, S1, rel1, sim1, p⟩
  | _ => exact p.elim
theorem tx_and (ha : PT X a (tB G W (tst ra))) (hb : PW X (.BoolOp .And (b :: rest) pos) (tB G W (tst rb))) : PW X (.BoolOp .And (a :: b :: rest) pos) (tB G W (tst (and2 ra rb))) := by
  refine (pw_and ha hb).imp fun σ H Q ⟨m, τ, S, rel, sim, q⟩ => ?_
  simp only [tst, and2, bind_assoc] at q
  refine ⟨m, τ, S, rel, sim, q.tst (fun d S' nb => ?_) fun m1 H1 d S1 k e1 sim1 et p => ?_⟩
  · cases d <;> first | (exact absurd rfl nb) | (simp [truth])
  · cases d with
    | bl k' =>
      simp only [truth, Option.some.injEq] at et; subst et
      cases k' with
      | false => rw [if_neg Bool.false_ne_true]; exact Post.done (R1 := fun _ _ (d v : Bool) => v = d) (d := false) p sim1 rfl
      | true => rw [if_pos rfl]; exact ⟨m1, τ, S1, rel.ext e1, sim1, p⟩
    | _ => exact p.elim
theorem tx_or (ha : PT X a (tB G W (tst ra))) (hb : PW X (.BoolOp .Or (b :: rest) pos) (tB G W (tst rb))) : PW X (.BoolOp .Or (a :: b :: rest) pos) (tB G W (tst (or2 ra rb))) := by
  refine (pw_or ha hb).imp fun σ H Q ⟨m, τ, S, rel, sim, q⟩ => ?_
  simp only [tst, or2, bind_assoc] at q
  refine ⟨m, τ, S, rel, sim, q.tst (fun d S' nb => ?_) fun m1 H1 d S1 k e1 sim1 et p => ?_⟩
  · cases d <;> first | (exact absurd rfl nb) | (simp [truth])
  · cases d with
    | bl k' =>
      simp only [truth, Option.some.injEq] at et; subst et
      cases k' with
      | true => rw [if_pos rfl]; exact Post.done (R1 := fun _ _ (d v : Bool) => v = d) (d := true) p sim1 rfl
      | false => rw [if_neg Bool.false_ne_true]; exact ⟨m1, τ, S1, rel.ext e1, sim1, p⟩
    | _ => exact p.elim
theorem ex_ite (hc : PT X c (tB G W (tst rc))) (ha : PE X a (tE G W ra)) (hb : PE X b (tE G W rb)) : PE X (.IfExp c a b pos) (tE G W (ite2 rc ra rb)) := by
  refine (pe_ifExp hc ha hb).imp fun σ H Q ⟨m, τ, S, rel, sim, q⟩ => ?_
  refine ⟨m, τ, S, rel, sim, Post.tst (R2 := Rep G) q (fun d S' nb et => ?_) fun m1 H1 d S1 k e1 sim1 et p => ?_⟩
  · rw [et] at nb; exact nb rfl
  · rw [et] at p
    cases k with
    | false => rw [if_neg Bool.false_ne_true]; exact ⟨m1, τ, S1, rel.ext e1, sim1, p⟩
    | true => rw [if_pos rfl]; exact ⟨m1, τ, S1, rel.ext e1, sim1, p⟩
theorem tx_not (ha : PT X a (tB G W (tst ra))) : PT X (.UnaryOp .Not a pos) (tB G W (tst fun τ S => (ra τ S).bind fun x S => (okO (truth x) S).bind fun b S => .ok (.bl (!b)) S)) := by
  refine (pt_not ha).imp fun σ H Q ⟨m, τ, S, rel, sim, q⟩ => ?_
  simp only [tst, bind_assoc] at q
  refine ⟨m, τ, S, rel, sim, q.tst (fun d S' nb et => ?_) fun m1 H1 d S1 k e1 sim1 et p => ?_⟩
  · rw [et] at nb; exact nb rfl
  · rw [et] at p
    exact Post.done (R1 := fun _ _ (d v : Bool) => v = d) (d := !k) p sim1 rfl

/-! ### rows -/
variable {es : List Expr} {rs : Slots → Store → R (List D)} {e : Expr}
theorem as_nil : PA X [] (tAs G W fun _ S => .ok [] S) := pa_nil.imp fun σ H Q ⟨m, τ, S, rel, sim, q⟩ => Post.done (R1 := RepL G) (d := []) q sim .nil
theorem as_cons (pl : plainE e = true) (ha : PE X e (tE G W ra)) (hr : PA X es (tAs G W rs)) : PA X (e :: es) (tAs G W fun τ S => (ra τ S).bind fun x S => (rs τ S).bind fun xs S => .ok (x :: xs) S) :=
  (pa_cons ha hr (star_cons pl)).imp fun σ H Q ⟨m, τ, S, rel, sim, q⟩ => tR.seq rel sim q fun m1 H1 d S1 v e1 rel1 sim1 r1 p => tR.seq rel1 sim1 p fun m2 H2 ds S2 vs e2 rel2 sim2 r2 p2 =>
    Post.done (R1 := RepL G) (d := d :: ds) p2 sim2 (.cons (r1.ext e2) r2)
theorem ex_tup {x1} (h : PA X es (tAs G W rs)) : PE X (.Tuple es x1 pos) (tE G W fun τ S => (rs τ S).bind fun xs S => okIf (decide (xs.length ≤ big)) (.tup xs) S) := by
  refine (pe_tup h).imp fun σ H Q ⟨m, τ, S, rel, sim, q⟩ => tR.seq rel sim q fun m1 H1 d S1 v e1 rel1 sim1 r1 p => ?_
  obtain ⟨z, p⟩ := Post.if_ p
  have z : v.length ≤ big := by rw [r1.length]; exact of_decide_eq_true z
  exact ⟨by rw [← big_eq]; exact z, fun a na => Post.new (R1 := Rep G) (d := .tup d) p sim1 na fun e n => rep_newT r1 z e n⟩
theorem ex_lst {mu : Bool} (h : PA X es (tAs G W rs)) : PE X (.List es pos) (tE G W fun τ S => (rs τ S).bind fun xs S => if xs.length ≤ big then mkL mu xs S else .bad) := by
  refine (pe_lst h).imp fun σ H Q ⟨m, τ, S, rel, sim, q⟩ => tR.seq rel sim q fun m1 H1 d S1 v e1 rel1 sim1 r1 p => ?_
  by_cases z : d.length ≤ big
  · rw [if_pos z] at p
    have z : v.length ≤ big := by rw [r1.length]; exact z
    exact ⟨by rw [← big_eq]; exact z, fun a na => post_mkL p sim1 na r1 z⟩
  · rw [if_neg z] at p; exact p.elim
theorem ex_idx (A : At G X) (pi : plainI b = true) (ha : PE X a (tE G W ra)) (hb : PE X b (tE G W rb)) : PE X (.Subscript a b pos) (tE G W fun τ S => (ra τ S).bind fun x S => (rb τ S).bind fun y S => getIx x y S) := by
  refine ⟨fun pins s σ H Q I ⟨m, τ, S, rel, sim, q⟩ => PyProof.Rows.Subscript_ (binT ha hb I (R := fun x y H2 => ∃ m S d e, Rep G m H2 d x ∧ Rep G m H2 e y ∧ Sim G m H2 S ∧ P0 G m H2 (getIx d e S) Q)
    (tR.seq rel sim q fun m1 H1 d S1 v e1 rel1 sim1 r1 p => tR.seq rel1 sim1 p fun m2 H2 d2 S2 v2 e2 rel2 sim2 r2 p2 => ⟨m2, S2, d, d2, r1.ext e2, r2, sim2, p2.any (noex_getIx _ _)⟩) ?_)⟩
  rintro v u s2 x y H2 I2 rx ry ⟨m, S, d, e, hd, he, hs, h⟩
  exact getIx_ok A (plain_ix pi _ _) I2 rx ry hd he hs h

/-! ### slices -/
variable {lo hi : Option Expr} {rl rh : Slots → Store → R (Option Int)} {p2 : Pos}
abbrev tOI (G : GC) (W : WX) (r : Slots → Store → R (Option Int)) : TO := tR G W (fun _ _ d v => v = d) r
theorem po_no : PO X none (tOI G W fun _ S => .ok none S) := po_none.imp fun σ H Q ⟨m, τ, S, rel, sim, q⟩ => Post.done (R1 := fun _ _ (d v : Option Int) => v = d) (d := none) q sim rfl
theorem po_yes (ha : PE X a (tE G W ra)) : PO X (some a) (tOI G W fun τ S => (ra τ S).bind fun x S => match x with
    | .int i => .ok (some i) S
    | _ => .bad) := by
  refine (po_some ha).imp fun σ H Q ⟨m, τ, S, rel, sim, q⟩ => tR.seq rel sim q fun m1 H1 d S1 v e1 rel1 sim1 r1 p => ?_
  cases d <;> first | exact p.elim | skip
  simp only [Rep] at r1
  exact ⟨_, r1, Post.done (R1 := fun _ _ (d v : Option Int) => v = d) (d := some _) p sim1 rfl⟩
theorem ex_sl (A : At G X) (ha : PE X a (tE G W ra)) (hl : PO X lo (tOI G W rl)) (hh : PO X hi (tOI G W rh)) : PE X (.Subscript a (.Slice lo hi none p2) pos) (tE G W fun τ S => (ra τ S).bind fun x S => (rl τ S).bind fun l S => (rh τ S).bind fun h S => getSl x l h S) := by
  refine (pe_slice (sl_ok A) ha hl hh).imp fun σ H Q ⟨m, τ, S, rel, sim, q⟩ => ?_
  exact tR.seq rel sim q fun m1 H1 d S1 v e1 rel1 sim1 r1 p => tR.seq rel1 sim1 p fun m2 H2 l S2 v2 e2 rel2 sim2 r2 p2 => tR.seq rel2 sim2 p2 fun m3 H3 h S3 v3 e3 rel3 sim3 r3 p3 => by
    subst r2; subst r3
    exact ⟨m3, S3, d, (r1.ext e2).ext e3, sim3, p3.any (noex_getSl _ _ _)⟩
end
end Ev
/-! Ev, part G3: names, calls. -/
namespace Ev
open PySem L2
section
variable {G : GC} {cl : Nat → List D → Store → R D} {N : List Str} {sc : Scope} {W : WX} {X : Cx} {ra rb rc : Slots → Store → R D} {a b c : Expr} {pos : Pos} {es : List Expr} {rs : Slots → Store → R (List D)} {e : Expr}
theorem glb_gl (O : XOk G cl N sc W X) {x : Str} (h : glb sc x = true) : Gl X x ∧ (x == ("__debug__" : Str)) = false ∧ x ≠ "__name__" := by
  simp only [glb, Bool.and_eq_true, decide_eq_true_eq, bne_iff_ne, ne_eq] at h
  refine ⟨?_, by simpa using h.1.2, h.2⟩
  show X.env.scope.names.lookup x = _
  rw [O.eS]; exact h.1.1
theorem blt_none (O : XOk G cl N sc W X) {x : Str} (h : G.T.blts.contains x = true) : X.mg x = none := by
  rw [O.mg]; exact O.tab.blt x (by simpa using h)
/-! ### constants and names -/
theorem ex_c {e : Expr} {v : V} {d : D} (h : PE X e (tC v)) (r : ∀ m H, Rep G m H d v) : PE X e (tE G W fun _ S => .ok d S) :=
  h.imp fun σ H Q ⟨m, τ, S, rel, sim, q⟩ => Post.done (R1 := Rep G) (d := d) q sim (r m H)
theorem ex_var (O : XOk G cl N sc W X) {i : Nat} {x : Str} (hN : N[i]? = some x) (hv : vis sc x = true) : PE X (.Name x pos) (tE G W fun τ S => okO (τ[i]?).join S) := by
  simp only [vis, Bool.and_eq_true, bne_iff_ne, ne_eq] at hv
  have v1 : Vis X.env.scope x := by
    rw [O.eS]
    have h := hv.1.1
    unfold Vis
    split at h
    · exact .inl (by assumption)
    · exact .inr (.inl (by assumption))
    · exact .inr (.inr (by assumption))
    · cases h
  refine (pe_var (i := i) (by rw [O.eN]; exact hN) v1 (by simpa using hv.1.2) (by simpa using hv.2)).imp fun σ H Q ⟨m, τ, S, rel, sim, q⟩ => ?_
  obtain ⟨d, ed, q⟩ := Post.o_ q
  have e2 : τ[i]? = some (some d) := by
    cases h : τ[i]? with
    | none => rw [h] at ed; cases ed
    | some o => rw [h] at ed; simp at ed; rw [ed]
  obtain ⟨v, h1, h2⟩ := rel.at_ i d e2
  exact ⟨v, h1, q.done sim h2⟩
theorem ex_con (O : XOk G cl N sc W X) {x : Str} {d : D} (hg : glb sc x = true) (ht : G.T.cons.lookup x = some d) : PE X (.Name x pos) (tE G W fun _ S => .ok d S) := by
  obtain ⟨g1, g2, g3⟩ := glb_gl O hg
  obtain ⟨u, v, h1, h2, h3⟩ := O.tab.con x d ht
  exact ex_c (pe_glob g1 (by rw [O.mg]; exact h1) h2 g2) h3
theorem fnN_of {T : Tab} {f : Nat} {y : Str} (h : fnN T f y = true) : ∃ d, T.fns[f]? = some (y, d) := by
  unfold fnN at h
  split at h
  · next x d e => rw [beq_iff_eq] at h; subst h; exact ⟨d, e⟩
  · cases h
theorem ex_fnv (O : XOk G cl N sc W X) {x : Str} {f : Nat} (hg : glb sc x = true) (ht : fnN G.T f x = true) : PE X (.Name x pos) (tE G W fun _ S => .ok (.fn f) S) := by
  obtain ⟨g1, g2, g3⟩ := glb_gl O hg
  obtain ⟨d, e⟩ := fnN_of ht
  obtain ⟨l, h1, h2⟩ := O.tab.fns f x d e
  exact ex_c (pe_glob (v := .ref l) g1 (by rw [O.mg]; exact h1) rfl g2) fun m H => by simp only [Rep]; exact ⟨l, x, d, rfl, e, h1⟩

/-! ### calls of defs -/
theorem ex_call0 (O : XOk G cl N sc W X) {x : Str} {f : Nat} {p : Pos} (hg : glb sc x = true) (ht : fnN G.T f x = true) : PE X (.Call (.Name x p) [] [] pos) (tE G W fun _ S => cl f [] S) := by
  obtain ⟨g1, g2, g3⟩ := glb_gl O hg
  obtain ⟨d, e⟩ := fnN_of ht
  obtain ⟨l, h1, h2⟩ := O.tab.fns f x d e
  refine ⟨fun pins s σ H Q I ⟨m, τ, S, rel, sim, q⟩ => wpAny_Call_Name_kw (ld_glob I g1 (by rw [O.mg]; exact h1) ?_ g2)⟩
  exact PySem.W.callWith_K0 I.kIn (by rw [O.K]; exact h2) (run_cl O e h1 (us := []) I .nil .nil sim q)
theorem ex_call1 (O : XOk G cl N sc W X) {x : Str} {f : Nat} {p : Pos} (hg : glb sc x = true) (ht : fnN G.T f x = true) (ha : PA X (e :: es) (tAs G W rs)) (pe : plainE e = true) (pl : es.all plainE = true) :
    PE X (.Call (.Name x p) (e :: es) [] pos) (tE G W fun τ S => (rs τ S).bind fun xs S => cl f xs S) := by
  obtain ⟨g1, g2, g3⟩ := glb_gl O hg
  obtain ⟨d, ed⟩ := fnN_of ht
  obtain ⟨l, h1, h2⟩ := O.tab.fns f x d ed
  refine ⟨fun pins s σ H Q I ⟨m, τ, S, rel, sim, q⟩ => wpAny_Call_Name_kw (ld_glob I g1 (by rw [O.mg]; exact h1) ?_ g2)⟩
  refine PySem.W.callWith_K (h₀ := X.base) I.ok.mod.kin (by rw [O.K]; exact h2) (thn (ha.run pos pins s σ H (fun vs H1 => ∃ m1 as S1, RepL G m1 H1 as vs ∧ Sim G m1 H1 S1 ∧ PostE G W m1 σ H1 (cl f as S1) Q) I
    (tR.seq rel sim q fun m1 H1 d S1 v e1 rel1 sim1 r1 p => ⟨m1, d, S1, r1, sim1, p⟩)) fun us s1 ⟨vs, H1, I1, r, m1, as, S1, ra, sim1, q⟩ => ⟨I1.kIn, ?_⟩) (star_cons pe) (star_none pl)
  exact run_cl O ed h1 I1 r ra sim1 q

/-! ### calls of built-in functions -/
theorem ex_bi (O : XOk G cl N sc W X) (bi : BI) {p : Pos} (hg : glb sc (biN bi) = true) (hb : G.T.blts.contains (biN bi) = true) (ha : PA X (e :: es) (tAs G W rs)) (pe : plainE e = true) (pl : es.all plainE = true) :
    PE X (.Call (.Name (biN bi) p) (e :: es) [] pos) (tE G W fun τ S => (rs τ S).bind fun xs S => callB bi xs S) := by
  obtain ⟨g1, g2, g3⟩ := glb_gl O hg
  have hm := blt_none O hb
  have ok := callB_ok O.toAt bi
  have go : ∀ σ H Q, tE G W (fun τ S => (rs τ S).bind fun xs S => callB bi xs S) σ H Q → tCB (fun vs H Q => ∃ m S as, RepL G m H as vs ∧ Sim G m H S ∧ P0 G m H (callB bi as S) Q) (tAs G W rs) σ H Q :=
    fun σ H Q ⟨m, τ, S, rel, sim, q⟩ => tR.seq rel sim q fun m1 H1 d S1 v e1 rel1 sim1 r1 p => ⟨m1, S1, d, r1, sim1, p.any (noex_callB _ _)⟩
  cases bi
  case len => exact (pe_callB ok g1 hm PySem.boot_len ha g3 g2 (star_cons pe) (star_none pl)).imp go
  case int => exact (pe_callTy ok g1 hm PyProof.Rows.boot_int ha g3 g2 (star_cons pe) (star_none pl)).imp go
  case abs => exact (pe_callB ok g1 hm PyProof.Rows.boot_abs ha g3 g2 (star_cons pe) (star_none pl)).imp go
  case bool => exact (pe_callTy ok g1 hm PyProof.Rows.boot_bool ha g3 g2 (star_cons pe) (star_none pl)).imp go
  case str => exact (pe_callTy ok g1 hm PyProof.Rows.boot_str ha g3 g2 (star_cons pe) (star_none pl)).imp go
  case tuple => exact (pe_callTy ok g1 hm PyProof.Rows.boot_tuple ha g3 g2 (star_cons pe) (star_none pl)).imp go
  case list => exact (pe_callTy ok g1 hm PyProof.Rows.boot_list ha g3 g2 (star_cons pe) (star_none pl)).imp go
  case all => exact (pe_callB ok g1 hm PyProof.Rows.boot_all ha g3 g2 (star_cons pe) (star_none pl)).imp go
  case sum => exact (pe_callB ok g1 hm PyProof.Rows.boot_sum ha g3 g2 (star_cons pe) (star_none pl)).imp go
  case max1 => exact (pe_callB ok g1 hm PyProof.Rows.boot_max ha g3 g2 (star_cons pe) (star_none pl)).imp go
  case min1 => exact (pe_callB ok g1 hm PyProof.Rows.boot_min ha g3 g2 (star_cons pe) (star_none pl)).imp go
  case max2 => exact (pe_callB ok g1 hm PyProof.Rows.boot_max ha g3 g2 (star_cons pe) (star_none pl)).imp go
  case min2 => exact (pe_callB ok g1 hm PyProof.Rows.boot_min ha g3 g2 (star_cons pe) (star_none pl)).imp go
  case sorted => exact (pe_callB ok g1 hm PyProof.Rows.boot_sorted ha g3 g2 (star_cons pe) (star_none pl)).imp go
  case divmod => exact (pe_callB ok g1 hm PyProof.Rows.boot_divmod ha g3 g2 (star_cons pe) (star_none pl)).imp go
/-! ### isinstance -/
theorem boot_ty (t : Ty) (n : String) (h : tyS t = some n) : bootBuiltins (tyN t) = some (.type n) ∧ tyV' t = some (.type n) := by
  cases t <;> simp only [tyS, Option.some.injEq] at h <;> first | (cases h; done) | subst h
  · exact ⟨PyProof.Rows.boot_int, rfl⟩
  · exact ⟨PyProof.Rows.boot_bool, rfl⟩
  · exact ⟨PyProof.Rows.boot_str, rfl⟩
  · exact ⟨PyProof.Rows.boot_tuple, rfl⟩
  · exact ⟨PyProof.Rows.boot_list, rfl⟩
theorem ex_isi (O : XOk G cl N sc W X) (t : Ty) {n : String} (ht : tyS t = some n) {p p2 : Pos} (hg : glb sc "isinstance" = true) (hb : G.T.blts.contains ("isinstance" : Str) = true) (hg2 : glb sc (tyN t) = true) (hb2 : G.T.blts.contains (tyN t) = true)
    (ha : PE X a (tE G W ra)) (pa : plainE a = true) : PE X (.Call (.Name "isinstance" p) [a, .Name (tyN t) p2] [] pos) (tE G W fun τ S => (ra τ S).bind fun x S => (okO (isTy t x S) S).bind fun b S => .ok (.bl b) S) := by
  obtain ⟨g1, g2, g3⟩ := glb_gl O hg
  obtain ⟨f1, f2, f3⟩ := glb_gl O hg2
  obtain ⟨bt, tv⟩ := boot_ty t n ht
  have hz : PE X (.Name (tyN t) p2) (tC (.ty n)) := pe_bltn f1 (blt_none O hb2) bt rfl f3 f2
  refine (pe_callB call_isi g1 (blt_none O hb) PyProof.Rows.boot_isinstance (pa_cons ha (pa_cons hz pa_nil (star_cons rfl)) (star_cons pa)) g3 g2 (star_cons pa) (star_none rfl)).imp fun σ H Q ⟨m, τ, S, rel, sim, q⟩ => ?_
  refine tR.seq rel sim q fun m1 H1 d S1 v e1 rel1 sim1 r1 p => ?_
  cases et : isTy t d S1 with
  | none => rw [et] at p; exact p.elim
  | some k =>
    rw [et] at p
    obtain ⟨w, h1, h2⟩ := kit_tab G.K t _ tv d S1 k et
    refine ⟨v, .ty n, w, .type n, k, rfl, .ty n, ?_, ?_, Post.done (R1 := Rep G) (d := .bl k) p sim1 (by simp only [Rep])⟩
    · rw [O.K]; exact tyX_of sim1 r1 h1
    · rw [O.K]; exact h2
end
end Ev
/-! Ev, part G4: lengths of sets, methods, what is walked. -/
namespace Ev
open PySem L2
section
variable {G : GC} {cl : Nat → List D → Store → R D} {N : List Str} {sc : Scope} {W : WX} {X : Cx} {ra rb rc : Slots → Store → R D} {a b c : Expr} {pos : Pos} {es : List Expr} {rs : Slots → Store → R (List D)} {e : Expr}
theorem same_len {l l' : List Int} (h1 : l.Nodup) (h2 : l'.Nodup) (h : ∀ x, x ∈ l ↔ x ∈ l') : l.length = l'.length := ((List.perm_ext_iff_of_nodup h1 h2).mpr h).length_eq
theorem unl_len : ∀ (ns acc : List Int), (ns.foldl unl acc).length ≤ acc.length + ns.length
  | [], acc => by simp
  | n :: r, acc => by
    have h := unl_len r (unl acc n)
    have h2 : (unl acc n).length ≤ acc.length + 1 := by
      unfold unl
      split
      · omega
      · simp
    simp only [List.foldl_cons, List.length_cons]
    omega
theorem unlike_len (ns : List Int) : (unlike ns).length ≤ ns.length := by
  have h := unl_len ns []
  simpa [unlike] using h
theorem ex_lenset (O : XOk G cl N sc W X) {p p2 q : Pos} (hg : glb sc "len" = true) (hb : G.T.blts.contains ("len" : Str) = true) (hg2 : glb sc "set" = true) (hb2 : G.T.blts.contains ("set" : Str) = true) (ha : PE X a (tE G W ra)) (pa : plainE a = true) :
    PE X (.Call (.Name "len" p) [.Call (.Name "set" p2) [a] [] q] [] pos) (tE G W fun τ S => (ra τ S).bind fun x S => match (seqOf S x).bind allI with
      | some ns => okIf (decide (ns.length < 4000)) (.int (unlike ns).length) S
      | none => .bad) := by
  obtain ⟨g1, g2, g3⟩ := glb_gl O hg
  obtain ⟨f1, f2, f3⟩ := glb_gl O hg2
  have na : starEach [a] X.env = (false, eval a X.env) :: starEach [] X.env := star_cons pa
  refine ⟨fun pins s σ H Q I ⟨m, τ, S, rel, sim, qq⟩ => ?_⟩
  refine PyProof.Rows.Call_ (ld_blt I g1 (blt_none O hb) boot_len ?_)
  refine PyProof.Rows.callWith_builtin1 (PyProof.Rows.args_cons ?_ rfl) rfl rfl
  refine PyProof.Rows.Call_ (ld_blt I f1 (blt_none O hb2) PyProof.Rows.boot_set ?_)
  have h1 := ha.run pins s σ H (fun x H1 => ∃ m S d, Rep G m H1 d x ∧ Sim G m H1 S ∧ P0 G m H1 (match (seqOf S d).bind allI with
      | some ns => okIf (decide (ns.length < 4000)) (.int (unlike ns).length) S
      | none => .bad) Q) I (tR.seq rel sim qq fun m1 H1 d S1 v e1 rel1 sim1 r1 p => ⟨m1, S1, d, r1, sim1, p.any (by split <;> first | exact noex_if | trivial)⟩)
  refine PyProof.Rows.callWith_type1 (PyProof.Rows.args_cons (thn h1 fun v s1 ⟨x, H1, I1, r1, m1, S1, d, hd, sim1, p⟩ => PyProof.Rows.args_nil ?_) na) na rfl
  cases ed : seqOf S1 d with
  | none => rw [ed] at p; exact p.elim
  | some xs =>
    rw [ed] at p
    simp only [Option.bind_some] at p
    cases en : allI xs with
    | none => rw [en] at p; exact p.elim
    | some ns =>
      rw [en] at p
      obtain ⟨hl, p⟩ := Post.if_ p
      have hl : ns.length < 4000 := of_decide_eq_true hl
      obtain ⟨l, vs, rfl, z, rl, sq⟩ := rep_seqOf sim1 hd ed
      have ev := repL_ints rl en
      subst ev
      cases r1
      have fin : ∀ (c : Nat), c = (unlike ns).length → ∀ (h' : Heap) (tk : Nat) (o : Obj) es ep t, h'.get? s1.heap.objs.size = some o → o.ExactSet → o.data = .set es ep t → t.fits es.size = true → es.size = c → (∀ b u, s1.heap.get? b = some u → h'.get? b = some u) →
          wpAny (model X.prog X.w) X.A (call (.builtin "len") [.ref s1.heap.objs.size]) (EP X pins σ Q) X.xe { s1 with heap := h', toks := tk } := by
        intro c hc h' tk o es ep t ho hex hdt hf hn hk
        have I2 : Inv X pins σ H1 { s1 with heap := h', toks := tk } := I1.kept hk
        have hle : c ≤ ns.length := by
          rw [hc]
          exact unlike_len ns
        exact call_len_set ho hex hdt hf (by rw [hn]; have : scanBound = 4096 := rfl; omega) ⟨.int c, H1, I2.tok _, ⟨_, by rw [hn]⟩, by
          rw [hc]; exact Post.done (R1 := Rep G) (d := .int (unlike ns).length) p sim1 (by simp only [Rep])⟩
      rcases sq with sq | sq
      · rw [← O.K] at sq
        obtain ⟨its, r, pl, hz⟩ := I1.list sq
        have hlen : its.toArray.size = ns.length := by rw [List.size_toArray, ← r.length, List.length_map]
        refine call_set_list (I1.ok.hd O.calm) pl.isList (by simpa using ints_of_vals r) (by rw [hlen]; have : scanBound = 4096 := rfl; omega) fun h' tk hS hk => ?_
        rw [hlen, firstMet_unlike] at hS
        obtain ⟨o, es, ep, t, ho, hex, hd, _, _, _, hf, hn⟩ := hS
        exact PyProof.Rows.args_nil (fin _ rfl h' tk o es ep t ho hex hd hf hn fun b u e => hk b u (Heap.lt_size e) e)
      · rw [← O.K] at sq
        obtain ⟨its, rv, pt, hz⟩ := I1.tuple sq
        refine call_set_tupI ns (I1.ok.hd O.calm) (show s1.heap.IsTuple l its.toArray from pt) (ints_of_vals rv) (by have : scanBound = 4096 := rfl; omega) fun h' tk c R1 hcn k => ?_
        obtain ⟨o, es, ep, t, ho, hex, hdt, g, nd, hm2, hb, hf, hn, hr, hl2⟩ := R1
        refine PyProof.Rows.args_nil (fin c ?_ h' tk o es ep t ho hex hdt hf hn k)
        have e1 : c = (es.toList.map keyOf).length := by rw [List.length_map, Array.length_toList, hn]
        rw [e1]
        exact same_len nd (unlike_nodup ns).1 fun x => by rw [← hm2 x, decide_eq_true_eq, (unlike_nodup ns).2 x]

/-! ### {} -/
theorem ex_dict0 (O : XOk G cl N sc W X) : PE X (.Dict [] [] pos) (tE G W fun _ S => .ok (.loc S.length) (S ++ [.dict []])) := by
  refine ⟨fun pins s σ H Q I ⟨m, τ, S, rel, sim, q⟩ => ?_⟩
  have hf : H s.heap.objs.size = none := I.hok.fresh (Nat.le_refl _)
  have hsys : (s.heap.objs.size == sysModules) = false := by
    have h := I.big
    exact beq_eq_false_iff_ne.mpr (Ne.symm (Nat.ne_of_lt h))
  have dx : dctAt X.prog X.w s.heap.objs.size [] (s.heap.push { cls := .type "dict", data := .dict #[] }) := ⟨_, #[], 0, Heap.get?_push_size _ rfl, ⟨rfl, rfl, rfl⟩, rfl, rfl⟩
  have I2 := I.laid (a := s.heap.objs.size) (o := .ext (dctAt X.prog X.w s.heap.objs.size [])) (t' := s.toks) (fun _ _ q => Heap.get?_push_of_some _ q) (Nat.le_refl _) (dct_ok dx)
  refine wpAny_Dict_empty ⟨.ref s.heap.objs.size, _, I2, rfl, ?_⟩
  refine Post.news (R1 := Rep G) (d := .loc S.length) (x := .dict []) q sim hf (fun ext => ⟨[], by rw [← O.pr, ← O.wd]; exact upd_same, Nat.zero_le _, hsys, rfl, List.nodup_nil⟩) fun ext => ?_
  simp only [Rep]
  refine ⟨_, rfl, ?_⟩
  rw [← sim.len, List.getElem?_append_right (Nat.le_refl _)]
  simp
/-! ### methods -/
theorem tyV_list (sim : Sim G m H S) (hK : X.K = G.K) {d : D} {v : V} (h : Rep G m H d v) (e : (lstOf S d).isSome = true) : tyV X.K "list" v H := by
  obtain ⟨xs, e⟩ := Option.isSome_iff_exists.mp e
  obtain ⟨l, vs, rfl, _, _, q⟩ := rep_lstOf sim h e
  exact .inl ⟨rfl, vs, .of q⟩
theorem ex_meth0 (O : XOk G cl N sc W X) (mi : MI) (hmi : miN mi = "clear" ∨ miN mi = "reverse") {apos : Pos} (ho : PE X a (tE G W ra)) (pa : plainA a = true) (ln : (apos.endLine == pos.line) = true) :
    PE X (.Call (.Attribute a (miN mi) apos) [] [] pos) (tE G W fun τ S => (ra τ S).bind fun x S => if (lstOf S x).isSome then methB mi x [] S else .bad) := by
  have go : ∀ σ H Q, tE G W (fun τ S => (ra τ S).bind fun x S => if (lstOf S x).isSome then methB mi x [] S else .bad) σ H Q → tBM0 X.K "list" (fun x vs H Q => ∃ m S a as, Rep G m H a x ∧ RepL G m H as vs ∧ Sim G m H S ∧ P0 G m H (methB mi a as S) Q) (tE G W ra) σ H Q := by
    rintro σ H Q ⟨m, τ, S, rel, sim, q⟩
    refine tR.seq rel sim q fun m1 H1 d S1 v e1 rel1 sim1 r1 p => ?_
    by_cases c : (lstOf S1 d).isSome = true
    · rw [if_pos c] at p
      exact ⟨tyV_list sim1 O.K r1 c, m1, S1, d, [], r1, .nil, sim1, p.any (noex_methB _ _ _)⟩
    · rw [if_neg c] at p; exact p.elim
  cases mi
  case append => rcases hmi with h | h <;> exact absurd h (by decide)
  case clear => exact (pe_bm0 PySem.F.plainAttrs_list PySem.F.slot_list_clear PySem.F.type_list_clear (methB_ok (G := G) .clear) ho (plain_attr pa) ln).imp go
  case reverse => exact (pe_bm0 PySem.F.plainAttrs_list PySem.F.slot_list_reverse PySem.F.type_list_reverse (methB_ok (G := G) .reverse) ho (plain_attr pa) ln).imp go
theorem ex_app (O : XOk G cl N sc W X) {apos : Pos} (ho : PE X a (tE G W ra)) (ha : PA X [b] (tAs G W rs)) (pa : plainA a = true) (pb : plainE b = true) (ln : (apos.endLine == pos.line) = true) :
    PE X (.Call (.Attribute a "append" apos) [b] [] pos) (tE G W fun τ S => (ra τ S).bind fun x S => if (lstOf S x).isSome then (rs τ S).bind fun xs S => methB .append x xs S else .bad) := by
  refine (pe_bm PySem.F.plainAttrs_list PySem.F.slot_list_append PySem.F.type_list_append (methB_ok (G := G) .append) ho ha (plain_attr pa) ?_ ln (star_cons pb) (star_none rfl)).imp ?_
  · rw [star_cons pb]; rfl
  · rintro σ H Q ⟨m, τ, S, rel, sim, q⟩
    refine tR.seq rel sim q fun m1 H1 d S1 v e1 rel1 sim1 r1 p => ?_
    by_cases c : (lstOf S1 d).isSome = true
    · rw [if_pos c] at p
      exact ⟨tyV_list sim1 O.K r1 c, tR.seq rel1 sim1 p fun m2 H2 as S2 vs e2 rel2 sim2 r2 p2 => ⟨m2, S2, d, as, r1.ext e2, r2, sim2, p2.any (noex_methB _ _ _)⟩⟩
    · rw [if_neg c] at p; exact p.elim
end
end Ev
/-! Ev, part G5: targets, what is walked, comprehensions. -/
namespace Ev
open PySem L2
/-! ### targets -/
mutual
def CT.sl : CT → List Nat
  | .name i => [i]
  | .tup ts => CT.sls ts
def CT.sls : List CT → List Nat
  | [] => []
  | t :: ts => t.sl ++ CT.sls ts
end
/-- no slot but these has changed -/
def Chg (l : List Nat) (σ σ' : St) : Prop := ∀ i, i ∉ l → σ'[i]? = σ[i]?
def gT (G : GC) (t : CT) : TG := fun v σ H Q => ∃ m τ S d, RelS G m H σ τ ∧ Sim G m H S ∧ Rep G m H d v ∧ match bindT t d τ with
  | none => False
  | some τ' => ∀ σ', RelS G m H σ' τ' → Chg t.sl σ σ' → Q σ' H
def gTs (G : GC) (ts : List CT) : TGs := fun vs σ H Q => ∃ m τ S ds, RelS G m H σ τ ∧ Sim G m H S ∧ RepL G m H ds vs ∧ match bindTs ts ds τ with
  | none => False
  | some τ' => ∀ σ', RelS G m H σ' τ' → Chg (CT.sls ts) σ σ' → Q σ' H
theorem bindTs_len : ∀ {ts : List CT} {ds : List D} {τ τ' : Slots}, bindTs ts ds τ = some τ' → ds.length = ts.length
  | [], [], _, _, _ => rfl
  | [], _ :: _, _, _, h => by simp [bindTs] at h
  | _ :: _, [], _, _, h => by simp [bindTs] at h
  | t :: ts, d :: ds, τ, τ', h => by
    simp only [bindTs] at h
    split at h
    · simp [bindTs_len h]
    · cases h
theorem chkTs_len {N : List Str} {sc : Scope} {own : Option (List Nat)} : ∀ {ts : List CT} {es : List Expr}, chkTs N sc own ts es = true → es.length = ts.length
  | [], es, h => by simp only [chkTs, List.isEmpty_iff] at h; rw [h]; rfl
  | t :: ts, [], h => by simp [chkTs] at h
  | t :: ts, e :: es, h => by
    simp only [chkTs, Bool.and_eq_true] at h
    simp [chkTs_len h.2]
/-- where a frame stores: the names of so -/
structure SOk (N : List Str) (so : Scope) (X : Cx) : Prop where
  nd : X.N.Nodup
  eN : X.N = N
  put : ∀ x, sto so x = true → Loc X.env.scope x ∧ (X.fn x = true ∨ X.env.scope.names.lookup x = some .local)
section
variable {G : GC} {N : List Str} {so : Scope} {X : Cx} {own : Option (List Nat)}
mutual
theorem gt_ok (A : At G X) (O : SOk N so X) : ∀ {t : CT} {e : Expr}, chkT N so own t e = true → PG X e (gT G t) ∧ (∀ l, own = some l → ∀ i ∈ t.sl, i ∈ l)
  | .name i, e, h => by
    unfold chkT at h
    split at h
    · next x pos =>
      simp only [Bool.and_eq_true, decide_eq_true_eq] at h
      obtain ⟨⟨h1, h2⟩, h3⟩ := h
      obtain ⟨p1, p2⟩ := O.put x h2
      refine ⟨⟨fun pins s σ H v u Q I r hw => ?_⟩, fun l el j hj => ?_⟩
      · obtain ⟨m, τ, S, d, rel, sim, rd, hw⟩ := hw
        have hw : ∀ σ', RelS G m H σ' (τ.set i (some d)) → Chg [i] σ σ' → Q σ' H := hw
        exact (pg_name O.nd (by rw [O.eN]; exact h1) p1 p2).run pins s σ H v u Q I r (hw _ (rel.set rd) fun j hj => List.getElem?_set_ne (fun z => hj (by simp [z])))
      · subst el
        simp only [CT.sl, List.mem_singleton] at hj
        subst hj
        simpa using h3
    · cases h
  | .tup ts, e, h => by
    unfold chkT at h
    split at h
    · next es k pos =>
      simp only [Bool.and_eq_true] at h
      obtain ⟨h1, h2⟩ := h
      obtain ⟨p1, p2⟩ := gts_ok A O h1 h2
      refine ⟨⟨fun pins s σ H v u Q I r hw => ?_⟩, fun l el i hi => p2 l el i (by simpa only [CT.sl] using hi)⟩
      refine (pg_tup (n := ts.length) A.calm p1 (by rw [tgt_len, chkTs_len h1]) (tgt_none h2)).run pins s σ H v u Q I r ?_
      obtain ⟨m, τ, S, d, rel, sim, rd, hw⟩ := hw
      cases d <;> first | exact hw.elim | skip
      rename_i ds
      obtain ⟨a, xs, e1, z, rl, q⟩ := rep_tup rd
      have hw : match bindTs ts ds τ with
        | none => False
        | some τ' => ∀ σ', RelS G m H σ' τ' → Chg (CT.sls ts) σ σ' → Q σ' H := by
        simpa only [bindT, CT.sl] using hw
      refine ⟨a, xs, e1, by rw [A.K]; exact q, ?_, m, τ, S, ds, rel, sim, rl, hw⟩
      cases hb : bindTs ts ds τ with
      | none => rw [hb] at hw; exact hw.elim
      | some τ' => rw [rl.length]; exact bindTs_len hb
    · cases h
theorem gts_ok (A : At G X) (O : SOk N so X) : ∀ {ts : List CT} {es : List Expr}, chkTs N so own ts es = true → es.all plainT = true → PGs X es (gTs G ts) ∧ (∀ l, own = some l → ∀ i ∈ CT.sls ts, i ∈ l)
  | [], es, h, _ => by
    simp only [chkTs, List.isEmpty_iff] at h
    subst h
    refine ⟨⟨fun pins s σ H vs us Q I r hw => ?_⟩, fun l el i hi => by simp [CT.sls] at hi⟩
    refine pgs_nil.run pins s σ H vs us Q I r ?_
    obtain ⟨m, τ, S, ds, rel, sim, rl, hw⟩ := hw
    cases ds with
    | cons d ds => exact hw.elim
    | nil => simp only [RepL] at rl; exact ⟨rl, hw σ rel fun i _ => rfl⟩
  | t :: ts, [], h, _ => by simp [chkTs] at h
  | t :: ts, e :: es, h, hp => by
    simp only [chkTs, Bool.and_eq_true] at h
    rw [List.all_cons, Bool.and_eq_true] at hp
    obtain ⟨p1, p2⟩ := gt_ok A O h.1
    obtain ⟨r1, r2⟩ := gts_ok A O h.2 hp.2
    refine ⟨⟨fun pins s σ H vs us Q I r hw => ?_⟩, fun l el i hi => ?_⟩
    · refine (pgs_cons p1 r1 (tgt_cons hp.1)).run pins s σ H vs us Q I r ?_
      obtain ⟨m, τ, S, ds, rel, sim, rl, hw⟩ := hw
      cases ds with
      | nil => exact hw.elim
      | cons d ds =>
        simp only [RepL] at rl
        obtain ⟨v, vr, e1, rd, rl⟩ := rl
        refine ⟨v, vr, e1, m, τ, S, d, rel, sim, rd, ?_⟩
        simp only [bindTs] at hw
        cases hb : bindT t d τ with
        | none => rw [hb] at hw; exact hw.elim
        | some τ1 =>
          rw [hb] at hw
          replace hw : match bindTs ts ds τ1 with
            | none => False
            | some τ' => ∀ σ', RelS G m H σ' τ' → Chg (CT.sls (t :: ts)) σ σ' → Q σ' H := hw
          refine fun σ1 rel1 c1 => ⟨m, τ1, S, ds, rel1, sim, rl, ?_⟩
          cases hb2 : bindTs ts ds τ1 with
          | none => rw [hb2] at hw; exact hw.elim
          | some τ2 =>
            rw [hb2] at hw
            refine fun σ2 rel2 c2 => hw σ2 rel2 fun i hi => ?_
            simp only [CT.sls, List.mem_append, not_or] at hi
            exact (c2 i hi.2).trans (c1 i hi.1)
    · simp only [CT.sls, List.mem_append] at hi
      rcases hi with hi | hi
      · exact p2 l el i hi
      · exact r2 l el i hi
end
end
theorem wipe_chg {vs : List Nat} {σ σ' : St} (h : Chg vs σ σ') (hl : σ'.length = σ.length) : L2.wipe σ' vs = L2.wipe σ vs := by
  have key : ∀ (vs : List Nat) (σ : St) (i : Nat), (L2.wipe σ vs)[i]? = if i ∈ vs then (if i < σ.length then some none else none) else σ[i]? := by
    intro vs
    induction vs with
    | nil => intro σ i; simp [L2.wipe]
    | cons v vs ih =>
      intro σ i
      unfold L2.wipe
      rw [List.getElem?_set, wipe_length, ih]
      by_cases e : v = i
      · subst e; simp
      · rw [if_neg e]
        by_cases e2 : i ∈ vs
        · simp [e2]
        · have : ¬(i = v) := fun z => e z.symm
          simp [e2, this]
  apply List.ext_getElem?
  intro i
  rw [key, key, hl]
  by_cases e : i ∈ vs
  · simp [e]
  · simp only [e, if_false]
    exact h i e
theorem RelS.lens {G : GC} {m : List Addr} {H : Hp} {σ σ' : St} {τ τ' : Slots} (a : RelS G m H σ τ) (b : RelS G m H σ' τ') (h : τ'.length = τ.length) : σ'.length = σ.length := by rw [a.len, b.len, h]
mutual
theorem bindT_len : ∀ {t : CT} {d : D} {τ τ' : Slots}, bindT t d τ = some τ' → τ'.length = τ.length
  | .name i, d, τ, τ', h => by simp only [bindT, Option.some.injEq] at h; subst h; simp
  | .tup ts, .tup ds, τ, τ', h => bindTs_len2 (by simpa only [bindT] using h)
  | .tup ts, .non, _, _, h => by simp [bindT] at h
  | .tup ts, .bl _, _, _, h => by simp [bindT] at h
  | .tup ts, .int _, _, _, h => by simp [bindT] at h
  | .tup ts, .str _, _, _, h => by simp [bindT] at h
  | .tup ts, .lst _, _, _, h => by simp [bindT] at h
  | .tup ts, .scr _, _, _, h => by simp [bindT] at h
  | .tup ts, .loc _, _, _, h => by simp [bindT] at h
  | .tup ts, .fn _, _, _, h => by simp [bindT] at h
  | .tup ts, .cls _, _, _, h => by simp [bindT] at h
theorem bindTs_len2 : ∀ {ts : List CT} {ds : List D} {τ τ' : Slots}, bindTs ts ds τ = some τ' → τ'.length = τ.length
  | [], [], _, _, h => by simp only [bindTs, Option.some.injEq] at h; subst h; rfl
  | [], _ :: _, _, _, h => by simp [bindTs] at h
  | _ :: _, [], _, _, h => by simp [bindTs] at h
  | t :: ts, d :: ds, τ, τ', h => by
    simp only [bindTs] at h
    split at h
    · next τ1 e => exact (bindTs_len2 h).trans (bindT_len e)
    · cases h
end

/-! ### what is walked -/
section
variable {G : GC} {cl : Nat → List D → Store → R D} {N : List Str} {sc : Scope} {W : WX} {X : Cx} {ra rb rc : Slots → Store → R D} {a b c : Expr} {pos p : Pos} {es : List Expr} {rs : Slots → Store → R (List D)} {e tg : Expr}
abbrev tIt (G : GC) (W : WX) (r : Slots → Store → R Items) : TI := tR G W (fun m H I J => JW G m H I J) r
theorem pi_seq (he : PE X e (tE G W ra)) {R0 : TI} (hR : ∀ σ H R, R0 σ H R → tE G W ra σ H fun x H1 => ∃ a, x = .ref a ∧ (((∃ xs, SqL X.K H1 a xs) ∧ R (Itl X.K a) H1) ∨ ((∃ xs, SqT X.K H1 a xs) ∧ R (Itt X.K a) H1))) : PI X tg e R0 := by
  refine ⟨fun pins s σ H R I h => thn (he.run pins s σ H _ I (hR σ H R h)) fun v s1 ⟨x, H1, I1, r1, l, ex, q1⟩ => ?_⟩
  subst ex
  cases r1
  rcases q1 with ⟨⟨xs, hq⟩, q⟩ | ⟨⟨xs, hq⟩, q⟩
  · obtain ⟨its, rv, pl, hz⟩ := I1.list hq
    exact wpAny_pyIter_list pl.isList (pi_one I1 _ (turn_list l _) ⟨_, Heap.get?_push_size _ rfl, rfl, rfl⟩ q)
  · obtain ⟨its, rv, pl, hz⟩ := I1.tuple hq
    exact wpAny_pyIter_tuple (show s1.heap.IsTuple l its.toArray from pl) (pi_one I1 _ (turn_tuple l _) ⟨_, Heap.get?_push_size _ rfl, rfl, rfl⟩ q)
theorem it_val (O : XOk G cl N sc W X) (he : PE X e (tE G W ra)) : PI X tg e (tIt G W fun τ S => (ra τ S).bind fun x S => okO (itemsOf S x) S) := by
  refine pi_seq he fun σ H R ⟨m, τ, S, rel, sim, q⟩ => tR.seq rel sim q fun m1 H1 d S1 v e1 rel1 sim1 r1 p => ?_
  obtain ⟨I, ei, p⟩ := Post.o_ p
  rw [O.K]
  cases d with
  | lst xs =>
    simp only [itemsOf, Option.some.injEq] at ei; subst ei
    obtain ⟨l, vs, ev, z, r, q⟩ := walk_lst r1
    exact ⟨l, ev, .inl ⟨⟨vs, q _ _ (.refl _ _)⟩, Post.done (R1 := fun m H I J => JW G m H I J) p sim1 (jw_list z r q)⟩⟩
  | scr xs =>
    simp only [itemsOf, Option.some.injEq] at ei; subst ei
    obtain ⟨l, vs, ev, z, r, q⟩ := walk_scr r1
    exact ⟨l, ev, .inl ⟨⟨vs, q _ _ (.refl _ _)⟩, Post.done (R1 := fun m H I J => JW G m H I J) p sim1 (jw_list z r q)⟩⟩
  | tup xs =>
    simp only [itemsOf, Option.some.injEq] at ei; subst ei
    obtain ⟨l, vs, ev, z, r, q⟩ := walk_tp r1
    exact ⟨l, ev, .inr ⟨⟨vs, q _ _ (.refl _ _)⟩, Post.done (R1 := fun m H I J => JW G m H I J) p sim1 (jw_tup z r q)⟩⟩
  | loc n =>
    simp only [itemsOf] at ei
    split at ei
    · next xs ex =>
      simp only [Option.some.injEq] at ei; subst ei
      obtain ⟨l, hl, vs, h1, z, r⟩ := sim1.find ex
      simp only [Rep] at r1
      obtain ⟨l', ev, hl'⟩ := r1
      rw [hl] at hl'; cases hl'
      exact ⟨l, ev, .inl ⟨⟨vs, .of h1⟩, Post.done (R1 := fun m H I J => JW G m H I J) p sim1 (jw_loc (by rw [← r.length]; exact z) hl)⟩⟩
    · cases ei
  | _ => simp [itemsOf] at ei
theorem small_of {i j : Int} (h : smallR i j = true) : -(2 ^ 62) ≤ i ∧ i < 2 ^ 62 ∧ -(2 ^ 62) ≤ j ∧ j < 2 ^ 62 := by
  simp only [smallR, Bool.and_eq_true, decide_eq_true_eq] at h
  exact ⟨h.1.1.1, h.1.1.2, h.1.2, h.2⟩
theorem it_rng1 (O : XOk G cl N sc W X) (hg : glb sc "range" = true) (hb : G.T.blts.contains ("range" : Str) = true) (pa : plainE a = true) (ha : PE X a (tE G W ra)) : PI X tg (.Call (.Name "range" p) [a] [] pos) (tIt G W fun τ S => (ra τ S).bind fun x S => match x with
      | .int j => okIf (smallR 0 j && decide (j ≤ big)) { xs := rangeD 0 j } S
      | _ => .bad) := by
  obtain ⟨g1, g2, g3⟩ := glb_gl O hg
  refine (pi_range1 g1 (blt_none O hb) (pa_cons ha pa_nil (star_cons pa)) (star_cons pa)).imp fun σ H R ⟨m, τ, S, rel, sim, q⟩ => ?_
  refine tR.seq rel sim q fun m1 H1 d S1 v e1 rel1 sim1 r1 p => ?_
  cases d <;> first | exact p.elim | skip
  rename_i j
  simp only [Rep] at r1
  obtain ⟨c, p⟩ := Post.if_ p
  rw [Bool.and_eq_true, decide_eq_true_eq] at c
  obtain ⟨h1, h2, h3, h4⟩ := small_of c.1
  refine ⟨j, by rw [r1], h3, h4, ?_⟩
  have w := jw_range (G := G) (m := m1) (H := H1) (a := 0) (b := j) (by have := c.2; unfold big at this ⊢; omega)
  rw [Int.sub_zero] at w
  exact Post.done (R1 := fun m H I J => JW G m H I J) p sim1 w
theorem it_rng2 (O : XOk G cl N sc W X) (hg : glb sc "range" = true) (hb : G.T.blts.contains ("range" : Str) = true) (pa : plainE a = true) (pb : plainE b = true) (ha : PE X a (tE G W ra)) (hb' : PE X b (tE G W rb)) : PI X tg (.Call (.Name "range" p) [a, b] [] pos) (tIt G W fun τ S => (ra τ S).bind fun x S => (rb τ S).bind fun y S => match x, y with
      | .int i, .int j => okIf (smallR i j && decide (j - i ≤ big)) { xs := rangeD i j } S
      | _, _ => .bad) := by
  obtain ⟨g1, g2, g3⟩ := glb_gl O hg
  refine (pi_range2 g1 (blt_none O hb) (pa_cons ha (pa_cons hb' pa_nil (star_cons pb)) (star_cons pa)) (by rw [star_cons pa, star_cons pb]; rfl) (star_cons pb)).imp fun σ H R ⟨m, τ, S, rel, sim, q⟩ => ?_
  refine tR.seq rel sim q fun m1 H1 d S1 v e1 rel1 sim1 r1 p => tR.seq rel1 sim1 p fun m2 H2 d2 S2 v2 e2 rel2 sim2 r2 p2 => ?_
  cases d <;> first | exact p2.elim | skip
  cases d2 <;> first | exact p2.elim | skip
  rename_i i j
  simp only [Rep] at r1 r2
  obtain ⟨c, p⟩ := Post.if_ p2
  rw [Bool.and_eq_true, decide_eq_true_eq] at c
  refine ⟨i, j, by rw [r1, r2], small_of c.1, ?_⟩
  exact Post.done (R1 := fun m H I J => JW G m H I J) p sim2 (jw_range (by have := c.2; unfold big at this ⊢; omega))
theorem it_zip (O : XOk G cl N sc W X) {elts : List Expr} {kk : Nat} {tpos : Pos} (hg : glb sc "zip" = true) (hb : G.T.blts.contains ("zip" : Str) = true) (pa : plainE a = true) (pb : plainE b = true) (ha : PE X a (tE G W ra)) (hb' : PE X b (tE G W rb)) :
    PI X (.Tuple elts kk tpos) (.Call (.Name "zip" p) [a, b] [] pos) (tIt G W fun τ S => (ra τ S).bind fun x S => (rb τ S).bind fun y S => match x, y with
      | .tup xs, .tup ys => .ok { xs := zipD xs ys } S
      | .lst xs, .lst ys => .ok { xs := zipD xs ys } S
      | _, _ => .bad) := by
  obtain ⟨g1, g2, g3⟩ := glb_gl O hg
  refine (RZ.pi_zipA g1 (blt_none O hb) (pa_cons ha (pa_cons hb' pa_nil (star_cons pb)) (star_cons pa)) (star_cons pa) (by rw [star_cons pb]; rfl)).imp fun σ H R ⟨m, τ, S, rel, sim, q⟩ => ?_
  refine tR.seq rel sim q fun m1 H1 d S1 v e1 rel1 sim1 r1 p => tR.seq rel1 sim1 p fun m2 H2 d2 S2 v2 e2 rel2 sim2 r2 p2 => ?_
  cases d <;> first | exact p2.elim | skip
  · cases d2 <;> first | exact p2.elim | skip
    obtain ⟨l, vs, ev, z, r, q⟩ := walk_tp r1
    obtain ⟨l2, vs2, ev2, z2, r2', q2⟩ := walk_tp r2
    refine ⟨l, l2, vs, vs2, by rw [ev, ev2], .inr ⟨?_, ?_, ?_⟩⟩
    · rw [O.K]; exact q _ _ e2
    · rw [O.K]; exact q2 _ _ (.refl _ _)
    · rw [O.K]; exact Post.done (R1 := fun m H I J => JW G m H I J) p2 sim2 (jw_zipT z (r.ext e2) r2' fun m' H' e => ⟨q _ _ (e2.trans e), q2 _ _ e⟩)
  · cases d2 <;> first | exact p2.elim | skip
    obtain ⟨l, vs, ev, z, r, q⟩ := walk_lst r1
    obtain ⟨l2, vs2, ev2, z2, r2', q2⟩ := walk_lst r2
    refine ⟨l, l2, vs, vs2, by rw [ev, ev2], .inl ⟨?_, ?_, ?_⟩⟩
    · rw [O.K]; exact q _ _ e2
    · rw [O.K]; exact q2 _ _ (.refl _ _)
    · rw [O.K]; exact Post.done (R1 := fun m H I J => JW G m H I J) p2 sim2 (jw_zip z (r.ext e2) r2' fun m' H' e => ⟨q _ _ (e2.trans e), q2 _ _ e⟩)
theorem it_enumT (O : XOk G cl N sc W X) {elts : List Expr} {kk : Nat} {tpos : Pos} (hg : glb sc "enumerate" = true) (hb : G.T.blts.contains ("enumerate" : Str) = true) (pa : plainE a = true) (ha : PE X a (tE G W ra)) :
    PI X (.Tuple elts kk tpos) (.Call (.Name "enumerate" p) [a] [] pos) (tIt G W fun τ S => (ra τ S).bind fun x S => match x with
      | .tup xs => .ok { xs := enumD 0 xs } S
      | _ => .bad) := by
  obtain ⟨g1, g2, g3⟩ := glb_gl O hg
  refine (pi_enumT g1 (blt_none O hb) (pa_cons ha pa_nil (star_cons pa)) (star_cons pa)).imp fun σ H R ⟨m, τ, S, rel, sim, q⟩ => ?_
  refine tR.seq rel sim q fun m1 H1 d S1 v e1 rel1 sim1 r1 p => ?_
  cases d <;> first | exact p.elim | skip
  obtain ⟨l, vs, ev, z, r, q⟩ := walk_tp r1
  refine ⟨l, vs, by rw [ev], ?_, ?_⟩
  · rw [O.K]; exact q _ _ (.refl _ _)
  · rw [O.K]; exact Post.done (R1 := fun m H I J => JW G m H I J) p sim1 (jw_enumT z r q)
theorem it_enumL (O : XOk G cl N sc W X) {elts : List Expr} {kk : Nat} {tpos : Pos} (hg : glb sc "enumerate" = true) (hb : G.T.blts.contains ("enumerate" : Str) = true) (pa : plainE a = true) (ha : PE X a (tE G W ra)) :
    PI X (.Tuple elts kk tpos) (.Call (.Name "enumerate" p) [a] [] pos) (tIt G W fun τ S => (ra τ S).bind fun x S => match x with
      | .lst xs => .ok { xs := enumD 0 xs } S
      | _ => .bad) := by
  obtain ⟨g1, g2, g3⟩ := glb_gl O hg
  refine (pi_enum g1 (blt_none O hb) (pa_cons ha pa_nil (star_cons pa)) (star_cons pa)).imp fun σ H R ⟨m, τ, S, rel, sim, q⟩ => ?_
  refine tR.seq rel sim q fun m1 H1 d S1 v e1 rel1 sim1 r1 p => ?_
  cases d <;> first | exact p.elim | skip
  obtain ⟨l, vs, ev, z, r, q⟩ := walk_lst r1
  refine ⟨l, vs, by rw [ev], ?_, ?_⟩
  · rw [O.K]; exact q _ _ (.refl _ _)
  · rw [O.K]; exact Post.done (R1 := fun m H I J => JW G m H I J) p sim1 (jw_enum z r q)
end
end Ev
/-! Ev, part G6: comprehensions. -/
namespace Ev
open PySem L2
section
variable {G : GC} {m : List Addr} {H : Hp} {p : Addr}
/-- an object in the making becomes one that may change -/
theorem Cl.born {a : Addr} (n : Cl (G.up [p]) m a) : Cl G (m ++ [p]) a := by
  have h : a ≠ p ∧ a ∉ G.av := ⟨fun z => n.2 (List.mem_append.mpr (.inl (by simp [z]))), fun q => n.2 (List.mem_append.mpr (.inr q))⟩
  exact ⟨by simp only [List.mem_append, List.mem_singleton, not_or]; exact ⟨n.1, h.1⟩, h.2⟩
mutual
theorem Rep.born : ∀ {d : D} {v : V}, Rep (G.up [p]) m H d v → Rep G (m ++ [p]) H d v
  | .non, _, h => by simpa only [Rep] using h
  | .bl _, _, h => by simpa only [Rep] using h
  | .int _, _, h => by simpa only [Rep] using h
  | .str _, _, h => by simpa only [Rep] using h
  | .tup ds, _, h => by
    simp only [Rep] at h ⊢
    obtain ⟨a, xs, e1, hz, hl, q⟩ := h
    refine ⟨a, xs, e1, hz, RepL.born hl, ?_⟩
    rcases q with ⟨q, n⟩ | q
    · exact .inl ⟨q, n.born⟩
    · exact .inr q
  | .lst ds, _, h => by
    simp only [Rep] at h ⊢
    obtain ⟨a, xs, e1, hz, hl, q, n⟩ := h
    exact ⟨a, xs, e1, hz, RepL.born hl, q, n.born⟩
  | .scr ds, _, h => by
    simp only [Rep] at h ⊢
    obtain ⟨a, xs, e1, hz, hl, q⟩ := h
    refine ⟨a, xs, e1, hz, RepL.born hl, ?_⟩
    rcases q with ⟨q, n⟩ | q
    · exact .inl ⟨q, n.born⟩
    · exact .inr q
  | .loc n, _, h => by
    simp only [Rep] at h ⊢
    obtain ⟨a, e, h⟩ := h
    exact ⟨a, e, by rw [List.getElem?_append_left (List.getElem?_eq_some_iff.mp h).1]; exact h⟩
  | .fn f, _, h => by simp only [Rep] at h ⊢; exact h
  | .cls c, _, h => by simp only [Rep] at h ⊢; exact h
theorem RepL.born : ∀ {ds : List D} {vs : List V}, RepL (G.up [p]) m H ds vs → RepL G (m ++ [p]) H ds vs
  | [], _, h => by simpa only [RepL] using h
  | d :: ds, _, h => by
    simp only [RepL] at h ⊢
    obtain ⟨v, r, e1, h1, h2⟩ := h
    exact ⟨v, r, e1, Rep.born h1, RepL.born h2⟩
end
theorem PairD.born : ∀ {kvs : List (D × D)} {xs : List (NestedKey × Addr × Value)}, PairD (G.up [p]) m H kvs xs → PairD G (m ++ [p]) H kvs xs
  | [], _, h => h
  | (k, d) :: kvs, _, ⟨x, r, e1, e2, e3, h1, ⟨v, rv, h2⟩, h3⟩ => ⟨x, r, e1, e2, e3, h1.born, ⟨v, rv, h2.born⟩, PairD.born h3⟩
theorem RepO.born {a : Addr} : ∀ {o : MO}, RepO (G.up [p]) m H a o → RepO G (m ++ [p]) H a o
  | .list xs, ⟨vs, h, z, r⟩ => ⟨vs, h, z, r.born⟩
  | .dict _, ⟨xs, h, z, n, p, nd⟩ => ⟨xs, h, z, n, p.born, nd⟩
  | .ins _ _, h => h.elim
theorem Sim.born {S : Store} (s : Sim (G.up [p]) m H S) (np : p ∉ G.av) {o : MO} (ho : RepO (G.up [p]) m H p o) : Sim G (m ++ [p]) H (S ++ [o]) := by
  have lp := (s.live p (List.mem_append.mpr (.inl (by simp)))).2
  refine ⟨by simp [s.len], ?_, fun a ha => ⟨(s.live a (List.mem_append.mpr (.inr ha))).1, ?_⟩, fun n a y e1 e2 => ?_⟩
  · rw [List.nodup_append]
    refine ⟨s.nd, by simp, fun a ha b hb => ?_⟩
    simp at hb; subst hb
    exact fun z => lp (z ▸ ha)
  · have h1 := (s.live a (List.mem_append.mpr (.inr ha))).2
    simp only [List.mem_append, List.mem_singleton, not_or]
    exact ⟨h1, fun z => np (z ▸ ha)⟩
  · by_cases hn : n < m.length
    · rw [List.getElem?_append_left hn] at e1
      rw [List.getElem?_append_left (by rw [← s.len]; exact hn)] at e2
      exact (s.obj n a y e1 e2).born
    · have hn2 : n = m.length := by
        have := (List.getElem?_eq_some_iff.mp e1).1
        simp at this; omega
      subst hn2
      rw [List.getElem?_append_right (Nat.le_refl _)] at e1
      rw [s.len, List.getElem?_append_right (Nat.le_refl _)] at e2
      simp at e1 e2
      subst e1; subst e2
      exact ho.born
theorem Ext.upd {m1 : List Addr} {H1 : Hp} {o : HO} (e : Ext m1 H1 m H) (h : H1 p = none) : Ext m1 H1 m (upd H p o) :=
  ⟨e.pre, fun a u n q => ⟨by rw [upd_ne (fun z => by rw [z, h] at q; cases q)]; exact (e.keep a u n q).1, (e.keep a u n q).2⟩⟩
theorem Ext.born {m1 : List Addr} {H1 : Hp} (e : Ext m1 H1 m H) (h : H1 p = none) : Ext m1 H1 (m ++ [p]) H :=
  ⟨fun n a q => by rw [List.getElem?_append_left (List.getElem?_eq_some_iff.mp (e.pre n a q)).1]; exact e.pre n a q, fun a u n q => ⟨(e.keep a u n q).1, by
    simp only [List.mem_append, List.mem_singleton, not_or]
    exact ⟨(e.keep a u n q).2, fun z => by rw [z, h] at q; cases q⟩⟩⟩
end
section
variable {G : GC} {cl : Nat → List D → Store → R D} {N : List Str} {sc : Scope} {W : WX} {X : Cx}
theorem TabOk.up (T : TabOk G) (l : List Addr) : TabOk (G.up l) where
  con := fun x d h => by
    obtain ⟨u, v, h1, h2, h3⟩ := T.con x d h
    refine ⟨u, v, h1, h2, fun m H => ?_⟩
    exact ((h3 [] fun _ => none).up (l := l) fun _ _ => rfl).ext ⟨fun n a q => by simp at q, fun a o _ q => by cases q⟩
  blt := T.blt
  fns := T.fns
theorem XOk.blk (O : XOk G cl N sc W X) (p : Addr) (s : Shared) (H : Hp) (scope : Scope) (C : Addr) (cl' : List (Str × Addr)) (fp : List Addr) : XOk (G.up [p]) cl N (relS scope sc) W0 (X.blk s H scope (compEnvC scope cl' C X.env) fp) where
  K := O.K
  pr := O.pr
  wd := O.wd
  calm := O.calm
  un := O.un
  mg := O.mg
  eN := O.eN
  eS := by show relS scope X.env.scope = _; rw [O.eS]
  nd := O.nd
  tab := O.tab.up _
  tk := fun u s' ⟨_, _, _, _, _, _, _, _, _, _, _, _, _, _, _, _, w⟩ => w.elim
  fnat := fun l => by rw [GC.up_up]; exact O.fnat _
theorem SOk.blk (O : XOk G cl N sc W X) (s : Shared) (H : Hp) (scope : Scope) (C : Addr) (cl' : List (Str × Addr)) (fp : List Addr) : SOk N scope (X.blk s H scope (compEnvC scope cl' C X.env) fp) where
  nd := by show X.N.Nodup; rw [O.eN]; exact O.nd
  eN := O.eN
  put := fun x h => by
    unfold sto at h
    split at h
    · next e =>
      have e2 : (relS scope X.env.scope).names.lookup x = some .local := lookup_relS_keep (by decide) e
      exact ⟨.inl e2, .inr e2⟩
    · next e =>
      have e2 : (relS scope X.env.scope).names.lookup x = some .cell := lookup_relS_keep (by decide) e
      exact ⟨.inr e2, .inl (by show (scope.names.lookup x == some .cell) = true; rw [e]; rfl)⟩
    · cases h
/-- for some object in the making -/
def exT (f : Addr → TE) : TE := fun σ H Q => ∃ p, f p σ H Q
def exB (f : Addr → TT) : TT := fun σ H Q => ∃ p, f p σ H Q
def exG (f : Addr → TG) : TG := fun v σ H Q => ∃ p, f p v σ H Q
theorem pe_ex {e : Expr} {f : Addr → TE} (h : ∀ p, PE X e (f p)) : PE X e (exT f) := ⟨fun pins s σ H Q I ⟨p, q⟩ => (h p).run pins s σ H Q I q⟩
theorem pts_ex {e : List Expr} {f : Addr → TT} (h : ∀ p, PTs X e (f p)) : PTs X e (exB f) := ⟨fun pins s σ H Q I ⟨p, q⟩ => (h p).run pins s σ H Q I q⟩
theorem pg_ex {e : Expr} {f : Addr → TG} (h : ∀ p, PG X e (f p)) : PG X e (exG f) := ⟨fun pins s σ H v u Q I r ⟨p, q⟩ => (h p).run pins s σ H v u Q I r q⟩
theorem tests_no : PTs X [] (tB G W fun _ S => .ok true S) := ⟨fun pins s σ H Q I ⟨m, τ, S, rel, sim, q⟩ => pts_nil.run pins s σ H Q I (Post.done (R1 := fun _ _ (d v : Bool) => v = d) (d := true) q sim rfl)⟩
theorem tests_one {c : Expr} {r : Slots → Store → R Bool} (h : PT X c (tB G W r)) : PTs X [c] (tB G W r) := pts_one h

theorem wipe_wipe (σ : St) (vs : List Nat) : L2.wipe (L2.wipe σ vs) vs = L2.wipe σ vs := by
  refine wipe_chg (fun i hi => ?_) (wipe_length σ vs)
  induction vs with
  | nil => rfl
  | cons v vs ih =>
    simp only [List.mem_cons, not_or] at hi
    unfold L2.wipe
    rw [List.getElem?_set_ne (fun z => hi.1 z.symm)]
    exact ih hi.2
def lcG (G : GC) (t : CT) : TG := exG fun p => gT (G.up [p]) t
def lcT (G : GC) (rc : Slots → Store → R Bool) : TT := exB fun p => tB (G.up [p]) W0 rc
def lcE (G : GC) (re : Slots → Store → R D) : TE := exT fun p => tE (G.up [p]) W0 re
def lcR (mu : Bool) (t : CT) (own : List (Str × Nat)) (ri : Slots → Store → R Items) (rc : Slots → Store → R Bool) (re : Slots → Store → R D) : Slots → Store → R D :=
  fun τ S => (ri τ S).bind fun I S => (noR (compL I (bindT t) rc re I.xs (wipeS τ own) S)).bind fun ys S => mkL mu ys S
theorem lc_imp {mu : Bool} {t : CT} {own : List (Str × Nat)} {ri : Slots → Store → R Items} {rc : Slots → Store → R Bool} {re : Slots → Store → R D} (sub : ∀ i ∈ t.sl, i ∈ own.map (·.2)) {σ : St} {H : Hp} {Q : VK}
    (q : tE G W (lcR mu t own ri rc re) σ H Q) : tLc (tIt G W ri) (lcG G t) (lcT G rc) (lcE G re) (own.map (·.2)) σ H Q := by
  obtain ⟨m, τ, S, rel, sim, q⟩ := q
  refine tR.seq rel sim q fun m1 H1 I S1 J e1 rel1 sim1 jw p => fun D nD => ?_
  cases ec : compL I (bindT t) rc re I.xs (wipeS τ own) S1 with
  | bad => rw [ec] at p; exact p.elim
  | ex c pl S => rw [ec] at p; exact p.elim
  | ok ysF SF =>
    rw [ec] at p
    have p : PostE G W m1 σ H1 (mkL mu ysF SF) Q := p
    have fD : ∀ a ∈ [D], H1 a = none := fun a h => by cases List.mem_singleton.mp h; exact nD
    have nav : D ∉ G.av := fun h => by
      obtain ⟨⟨o, e⟩, _⟩ := sim1.live D h
      rw [nD] at e; cases e
    have inav : D ∈ (G.up [D]).av := List.mem_append.mpr (.inl (by simp))
    refine ⟨fun i k H' => k + i = I.xs.length ∧ ∃ m' S' vs ys zs, Ext m1 H1 m' H' ∧ Sim (G.up [D]) m' H' S' ∧ H' D = some (.lst vs) ∧ vs.length ≤ i ∧ RepL (G.up [D]) m' H' ys vs ∧ compL I (bindT t) rc re (I.xs.drop i) (wipeS τ own) S' = .ok zs SF ∧ ysF = ys ++ zs, ⟨I.xs.length, rfl, m1, S1, [], [], ysF, ?_, ?_, upd_same, Nat.le_refl _, .nil, by simpa using ec, rfl⟩, ?_⟩
    · exact (sim1.make nD).1
    · exact (sim1.make nD).2
    rintro i k H' ⟨hk, m', S', vs, ys, zs, ext, sim', hD, hv, rl, ec', ey⟩
    have few := jw.few
    by_cases hl : i < I.xs.length
    · right
      have ed : I.xs.drop i = I.xs[i] :: I.xs.drop (i + 1) := List.drop_eq_getElem_cons hl
      rw [ed] at ec'
      simp only [compL] at ec'
      cases st : I.still S' with
      | false => rw [st] at ec'; simp at ec'
      | true =>
        rw [st] at ec'
        simp only [if_true] at ec'
        obtain ⟨g1, g2⟩ := jw.go [D] i m' H' S' fD ext sim' st hl
        refine ⟨g1, fun H2 => ∃ k', k' < k ∧ k' + (i + 1) = I.xs.length ∧ ∃ m' S' vs ys zs, Ext m1 H1 m' H2 ∧ Sim (G.up [D]) m' H2 S' ∧ H2 D = some (.lst vs) ∧ vs.length ≤ i + 1 ∧ RepL (G.up [D]) m' H2 ys vs ∧ compL I (bindT t) rc re (I.xs.drop (i + 1)) (wipeS τ own) S' = .ok zs SF ∧ ysF = ys ++ zs, fun _ h => h, fun x H2 y => ?_⟩
        obtain ⟨ext2, sim2, d, exd, rd⟩ := g2 x H2 y
        rw [List.getElem?_eq_getElem hl, Option.some.injEq] at exd
        subst exd
        have ext12 := ext.trans ext2
        have relw : RelS (G.up [D]) m' H2 (L2.wipe σ (own.map (·.2))) (wipeS τ own) := ((rel1.up fD).ext ext12).wipe own
        refine ⟨D, m', wipeS τ own, S', I.xs[i], relw, sim2, rd, ?_⟩
        cases hb : bindT t I.xs[i] (wipeS τ own) with
        | none => rw [hb] at ec'; cases ec'
        | some τ' =>
          rw [hb] at ec'
          replace ec' : (rc τ' S').bind (fun b S => if b then (re τ' S).bind fun y S => (compL I (bindT t) rc re (I.xs.drop (i + 1)) (wipeS τ own) S).bind fun ys S => .ok (y :: ys) S else compL I (bindT t) rc re (I.xs.drop (i + 1)) (wipeS τ own) S) = .ok zs SF := ec'
          intro σ2 rel2 chg
          refine ⟨?_, D, m', τ', S', rel2, sim2, ?_⟩
          · have h1 := wipe_chg (vs := own.map (·.2)) (fun i hi => chg i fun h => hi (sub i h)) (relw.lens rel2 (bindT_len hb))
            rw [h1, wipe_wipe]
          cases hc : rc τ' S' with
          | bad => rw [hc] at ec'; cases ec'
          | ex _ _ _ => rw [hc] at ec'; cases ec'
          | ok b S3 =>
            rw [hc] at ec'
            intro m3 H3 b' ext3 sim3 eb
            subst eb
            cases b' with
            | false =>
              rw [if_neg Bool.false_ne_true]
              have keep := ext2.keep D _ (sim'.live D inav).2 hD
              have keep3 := ext3.keep D _ keep.2 keep.1
              exact ⟨k - 1, by omega, by omega, m3, S3, vs, ys, zs, ext12.trans ext3, sim3, keep3.1, by omega, (rl.ext ext2).ext ext3, ec', ey⟩
            | true =>
              rw [if_pos rfl]
              replace ec' : (re τ' S3).bind (fun y S => (compL I (bindT t) rc re (I.xs.drop (i + 1)) (wipeS τ own) S).bind fun ys S => .ok (y :: ys) S) = .ok zs SF := ec'
              refine ⟨D, m3, τ', S3, rel2.ext ext3, sim3, ?_⟩
              cases hr : re τ' S3 with
              | bad => rw [hr] at ec'; cases ec'
              | ex _ _ _ => rw [hr] at ec'; cases ec'
              | ok y4 S4 =>
                rw [hr] at ec'
                replace ec' : (compL I (bindT t) rc re (I.xs.drop (i + 1)) (wipeS τ own) S4).bind (fun ys S => .ok (y4 :: ys) S) = .ok zs SF := ec'
                cases hz : compL I (bindT t) rc re (I.xs.drop (i + 1)) (wipeS τ own) S4 with
                | bad => rw [hz] at ec'; cases ec'
                | ex _ _ _ => rw [hz] at ec'; cases ec'
                | ok zs4 S5 =>
                  rw [hz] at ec'
                  have e5 : y4 :: zs4 = zs ∧ S5 = SF := by
                    have q : R.ok (y4 :: zs4) S5 = R.ok zs SF := ec'
                    injection q with q1 q2
                    exact ⟨q1, q2⟩
                  obtain ⟨e5, e6⟩ := e5
                  subst e6
                  intro m4 H4 v4 ext4 sim4 r4
                  have keep := ext2.keep D _ (sim'.live D inav).2 hD
                  have keep3 := ext3.keep D _ keep.2 keep.1
                  have keep4 := ext4.keep D _ keep3.2 keep3.1
                  refine ⟨vs, keep4.1, by rw [← big_eq]; omega, k - 1, by omega, by omega, m4, S4, vs ++ [v4], ys ++ [y4], zs4, (ext12.trans (ext3.trans ext4)).upd nD, sim4.av inav, upd_same, by simp; omega, ?_, hz, by rw [ey, ← e5]; simp⟩
                  exact ((((rl.ext ext2).ext ext3).ext ext4).app (.cons r4 .nil)).av inav
    · left
      have hi2 : i = I.xs.length := by omega
      subst hi2
      rw [List.drop_length] at ec'
      simp only [compL] at ec'
      cases st : I.still S' with
      | false => rw [st] at ec'; simp at ec'
      | true =>
        rw [st] at ec'
        have e5 : [] = zs ∧ S' = SF := by
          have q : R.ok ([] : List Ev.D) S' = R.ok zs SF := by simpa using ec'
          injection q with q1 q2
          exact ⟨q1, q2⟩
        obtain ⟨e5, e6⟩ := e5
        subst e5; subst e6
        rw [List.append_nil] at ey
        subst ey
        refine ⟨jw.stop [D] m' H' S' ext sim' st, ?_⟩
        have hz : vs.length ≤ big := Nat.le_trans hv few
        cases mu with
        | false =>
          refine p m' H' (.ref D) ext sim'.dn ?_
          simp only [Rep]
          exact ⟨D, vs, rfl, hz, rl.dn, hD, (sim'.live D inav).2, nav⟩
        | true =>
          refine p (m' ++ [D]) H' (.ref D) (ext.born nD) (sim'.born nav ⟨vs, hD, hz, rl⟩) ?_
          simp only [Rep]
          refine ⟨D, rfl, ?_⟩
          rw [← sim'.len, List.getElem?_append_right (Nat.le_refl _)]
          simp
section
variable {elt tg iter : Expr} {ifs : List Expr} {scope : Scope} {own : List (Str × Nat)} {pos : Pos} {mu : Bool} {t : CT} {ri : Slots → Store → R Items} {rc : Slots → Store → R Bool} {re : Slots → Store → R D}
theorem lc_sub (O : XOk G cl N sc W X) (hg : chkT N scope (some (own.map (·.2))) t tg = true) : ∀ i ∈ t.sl, i ∈ own.map (·.2) :=
  (gt_ok (XOk.toAt (O.blk 0 X.s_0 X.H_0 scope 0 [] [])) (SOk.blk O X.s_0 X.H_0 scope 0 [] []) hg).2 _ rfl
theorem lc_g (O : XOk G cl N sc W X) (hg : chkT N scope (some (own.map (·.2))) t tg = true) (s : Shared) (H : Hp) (C : Addr) (cl' : List (Str × Addr)) (fp : List Addr) : PG (X.blk s H scope (compEnvC scope cl' C X.env) fp) tg (lcG G t) :=
  pg_ex fun p => (gt_ok (XOk.toAt (O.blk p s H scope C cl' fp)) (SOk.blk O s H scope C cl' fp) hg).1
theorem lc_bk (O : XOk G cl N sc W X) (ok : blkC N sc scope own = true) : BlkOk X.N X.env.scope scope own := by rw [O.eN, O.eS]; exact blkOk_by ok
theorem ex_comp (O : XOk G cl N sc W X)
    (hi : PI X tg iter (tIt G W ri)) (pl : plainE iter = true) (ok : blkC N sc scope own = true) (hg : chkT N scope (some (own.map (·.2))) t tg = true)
    (ht : ∀ p s H C cl' fp, PTs (X.blk s H scope (compEnvC scope cl' C X.env) fp) ifs (tB (G.up [p]) W0 rc)) (he : ∀ p s H C cl' fp, PE (X.blk s H scope (compEnvC scope cl' C X.env) fp) elt (tE (G.up [p]) W0 re)) :
    PE X (.ListComp elt [⟨tg, iter, ifs, 0⟩] scope pos) (tE G W (lcR mu t own ri rc re)) :=
  (pe_lc O.calm (by rw [O.eN]; exact O.nd) hi (lc_bk O ok) (g := lcG G t) (tt := lcT G rc) (te := lcE G re)
    (lc_g O hg) (fun s H C cl' fp => pts_ex fun p => ht p s H C cl' fp) (fun s H C cl' fp => pe_ex fun p => he p s H C cl' fp) (fun x => plain_fold pl x)).imp fun σ H Q q => lc_imp (lc_sub O hg) q
/-- name = comprehension, the name taken out of the frame for the while -/
theorem st_lc (O : XOk G cl N sc W X) {i : Nat} {y : Str} {py spos : Pos} (hy : N[i]? = some y) (hyl : X.env.scope.names.lookup y = some .local) (hsw : swapsWith (.ListComp elt [⟨tg, iter, ifs, 0⟩] scope pos) (some (.Name y py)) spos.line X.env = pure true)
    (hi : PI X tg iter (tIt G W ri)) (pl : plainE iter = true) (ok : blkC N sc scope own = true) (hg : chkT N scope (some (own.map (·.2))) t tg = true)
    (ht : ∀ p s H C cl' fp, PTs (X.blk s H scope (compEnvC scope cl' C X.env) fp) ifs (tB (G.up [p]) W0 rc)) (he : ∀ p s H C cl' fp, PE (X.blk s H scope (compEnvC scope cl' C X.env) fp) elt (tE (G.up [p]) W0 re)) :
    PS X (.Assign [.Name y py] (.ListComp elt [⟨tg, iter, ifs, 0⟩] scope pos) spos) (tAsg (tE G W (lcR mu t own ri rc re)) (gName i)) :=
  (ps_setLc O.calm (by rw [O.eN]; exact O.nd) (by rw [O.eN]; exact hy) hyl hsw hi (lc_bk O ok) (g := lcG G t) (tt := lcT G rc) (te := lcE G re)
    (lc_g O hg) (fun s H C cl' fp => pts_ex fun p => ht p s H C cl' fp) (fun s H C cl' fp => pe_ex fun p => he p s H C cl' fp) (fun x => plain_fold pl x)).imp fun D σ H q => lc_imp (lc_sub O hg) q
end
end
end Ev
/-! Ev, part H: what the checker has matched is what the evaluator says. -/
namespace Ev
open PySem L2
def Two (G : GC) (W : WX) (X : Cx) (e : Expr) (r : Slots → Store → R D) : Prop := PE X e (tE G W r) ∧ (plainF e = true → PT X e (tB G W (tst r)))
theorem two {G : GC} {W : WX} {X : Cx} {e : Expr} {r : Slots → Store → R D} (h : PE X e (tE G W r)) (hb : plainB e = true) : Two G W X e r := ⟨h, fun _ => pt_of h hb⟩
/-- and, or over a list -/
def Ands (op : PySem.BoolOp) (G : GC) (W : WX) (X : Cx) (vs : List Expr) (pos : Pos) (r : Slots → Store → R D) : Prop :=
  PE X (.BoolOp op vs pos) (tE G W r) ∧ (vs.all plainF = true → PW X (.BoolOp op vs pos) (tB G W (tst r)))
section
variable (cl : Nat → List D → Store → R D) (N : List Str)
mutual
theorem so : ∀ (ce : CE) {e : Expr} {sc : Scope} {G : GC} {W : WX} {X : Cx}, chk G.T N sc ce e = true → XOk G cl N sc W X → Two G W X e (ev cl ce)
  | .int i, e, sc, G, W, X, h, O => by
    unfold chk at h
    split at h
    · rw [beq_iff_eq] at h; subst h
      exact two (ex_c (d := .int i) pe_int fun m H => by simp only [Rep]) rfl
    · cases h
  | .bl b, e, sc, G, W, X, h, O => by
    unfold chk at h
    split at h
    · rw [beq_iff_eq] at h; subst h
      exact two (ex_c (d := .bl b) pe_bl fun m H => by simp only [Rep]) rfl
    · cases h
  | .non, e, sc, G, W, X, h, O => by
    unfold chk at h
    split at h
    · exact two (ex_c (d := .non) pe_non fun m H => by simp only [Rep]) rfl
    · cases h
  | .str x, e, sc, G, W, X, h, O => by
    unfold chk at h
    split at h
    · simp only [Bool.and_eq_true, beq_iff_eq, decide_eq_true_eq] at h
      obtain ⟨⟨h1, h2⟩, h3⟩ := h
      subst h1
      exact two (ex_c (d := .str x) pe_str fun m H => by simp only [Rep]; exact ⟨trivial, h2, h3⟩) rfl
    · cases h
  | .var i, e, sc, G, W, X, h, O => by
    unfold chk at h
    split at h
    · simp only [Bool.and_eq_true, decide_eq_true_eq] at h
      exact two (ex_var O h.1 h.2) rfl
    · cases h
  | .con x d, e, sc, G, W, X, h, O => by
    unfold chk at h
    split at h
    · simp only [Bool.and_eq_true, beq_iff_eq, decide_eq_true_eq] at h
      obtain ⟨⟨h1, h2⟩, h3⟩ := h
      subst h1
      exact two (ex_con O h2 h3) rfl
    · cases h
  | .fnv f, e, sc, G, W, X, h, O => by
    unfold chk at h
    split at h
    · simp only [Bool.and_eq_true] at h
      exact two (ex_fnv O h.1 h.2) rfl
    · cases h
  | .bin o a b, e, sc, G, W, X, h, O => by
    unfold chk at h
    split at h
    · simp only [Bool.and_eq_true, decide_eq_true_eq] at h
      obtain ⟨⟨h1, h2⟩, h3⟩ := h
      subst h1
      exact two (ex_bin O.toAt o (so a h2 O).1 (so b h3 O).1) rfl
    · cases h
  | .neg a, e, sc, G, W, X, h, O => by
    unfold chk at h
    split at h
    · exact two (ex_neg (so a h O).1) rfl
    · cases h
  | .not a, e, sc, G, W, X, h, O => by
    unfold chk at h
    split at h
    · rw [Bool.and_eq_true] at h
      have q := so a h.1 O
      exact ⟨ex_not q.1, fun _ => tx_not (q.2 h.2)⟩
    · cases h
  | .cmp o a b, e, sc, G, W, X, h, O => by
    unfold chk at h
    split at h
    · simp only [Bool.and_eq_true, decide_eq_true_eq] at h
      obtain ⟨⟨⟨h1, h2⟩, h3⟩, h4⟩ := h
      subst h1
      exact ⟨ex_cmp O.toAt o h4 (so a h2 O).1 (so b h3 O).1, fun _ => tx_cmp O.toAt o h4 (so a h2 O).1 (so b h3 O).1⟩
    · cases h
  | .chain o1 o2 a b c, e, sc, G, W, X, h, O => by
    unfold chk at h
    split at h
    · simp only [Bool.and_eq_true, decide_eq_true_eq] at h
      obtain ⟨⟨⟨⟨⟨h1, h0⟩, h2⟩, h3⟩, h4⟩, h5⟩ := h
      subst h1; subst h0
      exact ⟨ex_chain O.toAt o1 o2 h5 (so a h2 O).1 (so b h3 O).1 (so c h4 O).1, fun _ => tx_chain O.toAt o1 o2 h5 (so a h2 O).1 (so b h3 O).1 (so c h4 O).1⟩
    · cases h
  | .and es, e, sc, G, W, X, h, O => by
    unfold chk at h
    split at h
    · simp only [Bool.and_eq_true, Bool.not_eq_true'] at h
      have q := soAnd es h.1.1 h.2 O
      exact ⟨(q _).1, fun _ => ((q _).2 h.1.2).pt⟩
    · cases h
  | .or es, e, sc, G, W, X, h, O => by
    unfold chk at h
    split at h
    · simp only [Bool.and_eq_true, Bool.not_eq_true'] at h
      have q := soOr es h.1.1 h.2 O
      exact ⟨(q _).1, fun _ => ((q _).2 h.1.2).pt⟩
    · cases h
  | .ite c a b, e, sc, G, W, X, h, O => by
    unfold chk at h
    split at h
    · simp only [Bool.and_eq_true] at h
      obtain ⟨⟨⟨h1, h2⟩, h3⟩, h4⟩ := h
      exact ⟨ex_ite ((so c h1 O).2 h2) (so a h3 O).1 (so b h4 O).1, fun z => by simp [plainF] at z⟩
    · cases h
  | .tup es, e, sc, G, W, X, h, O => by
    unfold chk at h
    split at h
    · rw [Bool.and_eq_true] at h
      exact two (ex_tup (soL es h.1 h.2 O)) rfl
    · cases h
  | .lst mu es, e, sc, G, W, X, h, O => by
    unfold chk at h
    split at h
    · rw [Bool.and_eq_true] at h
      exact two (ex_lst (soL es h.1 h.2 O)) rfl
    · cases h
  | .idx a i, e, sc, G, W, X, h, O => by
    unfold chk at h
    split at h
    · simp only [Bool.and_eq_true] at h
      exact two (ex_idx O.toAt h.2 (so a h.1.1 O).1 (so i h.1.2 O).1) rfl
    · cases h
  | .sl a lo hi, e, sc, G, W, X, h, O => by
    unfold chk at h
    split at h
    · simp only [Bool.and_eq_true] at h
      exact two (ex_sl O.toAt (so a h.1.1 O).1 (soO lo h.1.2 O) (soO hi h.2 O)) rfl
    · cases h
  | .call f es, e, sc, G, W, X, h, O => by
    unfold chk at h
    split at h
    · next y p vs pos =>
      simp only [Bool.and_eq_true] at h
      obtain ⟨⟨⟨h1, h2⟩, h3⟩, h4⟩ := h
      cases vs with
      | nil =>
        cases es with
        | nil => exact two (ex_call0 O h1 h2) rfl
        | cons c cs => simp [chkL] at h3
      | cons v vs =>
        have q := soL es h3 h4 O
        rw [List.all_cons, Bool.and_eq_true] at h4
        exact two (ex_call1 O h1 h2 q h4.1 h4.2) rfl
    · cases h
  | .bi b es, e, sc, G, W, X, h, O => by
    unfold chk at h
    split at h
    · next y p v vs pos =>
      simp only [Bool.and_eq_true, beq_iff_eq] at h
      obtain ⟨⟨⟨⟨h1, h2⟩, h3⟩, h4⟩, h5⟩ := h
      subst h1
      have q := soL es h4 h5 O
      rw [List.all_cons, Bool.and_eq_true] at h5
      exact two (ex_bi O b h2 h3 q h5.1 h5.2) rfl
    · cases h
  | .isi a t, e, sc, G, W, X, h, O => by
    unfold chk at h
    split at h
    · simp only [Bool.and_eq_true, beq_iff_eq] at h
      obtain ⟨⟨⟨⟨⟨⟨⟨⟨h1, h2⟩, h3⟩, h4⟩, h5⟩, h6⟩, h7⟩, h8⟩, h9⟩ := h
      subst h1; subst h4
      obtain ⟨n, hn⟩ := Option.isSome_iff_exists.mp h9
      exact two (ex_isi O t hn h2 h3 h5 h6 (so a h7 O).1 h8) rfl
    · cases h
  | .lenset a, e, sc, G, W, X, h, O => by
    unfold chk at h
    split at h
    · simp only [Bool.and_eq_true, beq_iff_eq] at h
      obtain ⟨⟨⟨⟨⟨⟨⟨h1, h2⟩, h3⟩, h4⟩, h5⟩, h6⟩, h7⟩, h8⟩ := h
      subst h1; subst h4
      exact two (ex_lenset O h2 h3 h5 h6 (so a h7 O).1 h8) rfl
    · cases h
  | .meth m a es, e, sc, G, W, X, h, O => by
    unfold chk at h
    split at h
    · next o name ap vs cp =>
      simp only [Bool.and_eq_true] at h
      obtain ⟨⟨⟨⟨⟨⟨h1, h2⟩, h3⟩, h4⟩, h5⟩, h6⟩, h7⟩ := h
      rw [beq_iff_eq] at h1
      subst h1
      have q := (so a h2 O).1
      cases m with
      | append =>
        match vs, h5, h6, h7 with
        | [b], h5, h6, _ =>
          have r := soL es h5 h6 O
          rw [List.all_cons, Bool.and_eq_true] at h6
          exact two (ex_app O q r h3 h6.1 h4) rfl
      | clear =>
        rw [List.isEmpty_iff] at h7; subst h7
        cases es with
        | nil => exact two (ex_meth0 O .clear (.inl rfl) q h3 h4) rfl
        | cons c cs => simp [chkL] at h5
      | reverse =>
        rw [List.isEmpty_iff] at h7; subst h7
        cases es with
        | nil => exact two (ex_meth0 O .reverse (.inr rfl) q h3 h4) rfl
        | cons c cs => simp [chkL] at h5
    · cases h
  | .dict0, e, sc, G, W, X, h, O => by
    unfold chk at h
    split at h
    · exact two (ex_dict0 O) rfl
    · cases h
  | .comp mu own t it c e', e, sc, G, W, X, h, O => by
    unfold chk at h
    split at h
    · next elt tg iter ifs n scope pos =>
      simp only [Bool.and_eq_true] at h
      obtain ⟨⟨⟨⟨⟨⟨h1, h2⟩, h3⟩, h4⟩, h5⟩, h6⟩, h7⟩ := h
      rw [beq_iff_eq] at h1
      subst h1
      exact two (ex_comp O (soIt it h3 O) h4 h2 h5 (fun p s H C cl' fp => soF (G := G.up [p]) c h6 (O.blk p s H scope C cl' fp)) (fun p s H C cl' fp => (so (G := G.up [p]) e' h7 (O.blk p s H scope C cl' fp)).1)) rfl
    · cases h
theorem soO : ∀ (o : Option CE) {e : Option Expr} {sc : Scope} {G : GC} {W : WX} {X : Cx}, chkO G.T N sc o e = true → XOk G cl N sc W X → PO X e (tOI G W (evO cl o))
  | none, e, sc, G, W, X, h, O => by
    simp only [chkO, Option.isNone_iff_eq_none] at h
    subst h
    exact po_no
  | some c, none, sc, G, W, X, h, O => by simp [chkO] at h
  | some c, some e, sc, G, W, X, h, O => by
    simp only [chkO] at h
    exact po_yes (so c h O).1
theorem soF : ∀ (o : Option CE) {es : List Expr} {sc : Scope} {G : GC} {W : WX} {X : Cx}, chkF G.T N sc o es = true → XOk G cl N sc W X → PTs X es (tB G W (evC cl o))
  | none, e, sc, G, W, X, h, O => by
    simp only [chkF, List.isEmpty_iff] at h
    subst h
    exact tests_no
  | some c, [], sc, G, W, X, h, O => by simp [chkF] at h
  | some c, [e], sc, G, W, X, h, O => by
    simp only [chkF, Bool.and_eq_true] at h
    exact tests_one ((so c h.1 O).2 h.2)
  | some c, _ :: _ :: _, sc, G, W, X, h, O => by simp [chkF] at h
theorem soL : ∀ (cs : List CE) {es : List Expr} {sc : Scope} {G : GC} {W : WX} {X : Cx}, chkL G.T N sc cs es = true → es.all plainE = true → XOk G cl N sc W X → PA X es (tAs G W (evs cl cs))
  | [], es, sc, G, W, X, h, _, O => by
    simp only [chkL, List.isEmpty_iff] at h
    subst h
    exact as_nil
  | c :: cs, [], sc, G, W, X, h, _, O => by simp [chkL] at h
  | c :: cs, e :: es, sc, G, W, X, h, hp, O => by
    simp only [chkL, Bool.and_eq_true] at h
    rw [List.all_cons, Bool.and_eq_true] at hp
    exact as_cons hp.1 (so c h.1 O).1 (soL cs h.2 hp.2 O)
theorem soAnd : ∀ (cs : List CE) {es : List Expr} {sc : Scope} {G : GC} {W : WX} {X : Cx}, chkL G.T N sc cs es = true → es.isEmpty = false → XOk G cl N sc W X → ∀ pos, Ands .And G W X es pos (evAnd cl cs)
  | [], es, sc, G, W, X, h, h0, O, pos => by
    simp only [chkL] at h
    rw [h] at h0; cases h0
  | c :: cs, [], sc, G, W, X, h, _, O, pos => by simp [chkL] at h
  | [c], e :: es, sc, G, W, X, h, _, O, pos => by
    simp only [chkL, Bool.and_eq_true, List.isEmpty_iff] at h
    obtain ⟨h1, h2⟩ := h
    subst h2
    have q := so c h1 O
    exact ⟨pe_one q.1, fun hp => pw_and1 (q.2 (by simpa using hp))⟩
  | c :: c' :: cs, [e], sc, G, W, X, h, _, O, pos => by simp [chkL] at h
  | c :: c' :: cs, e :: e' :: es, sc, G, W, X, h, _, O, pos => by
    have h' : chk G.T N sc c e = true ∧ chkL G.T N sc (c' :: cs) (e' :: es) = true := by
      simpa only [chkL, Bool.and_eq_true] using h
    have q := so c h'.1 O
    have r := soAnd (c' :: cs) h'.2 rfl O pos
    refine ⟨ex_and q.1 r.1, fun hp => ?_⟩
    rw [List.all_cons, Bool.and_eq_true] at hp
    exact tx_and (q.2 hp.1) (r.2 hp.2)
theorem soOr : ∀ (cs : List CE) {es : List Expr} {sc : Scope} {G : GC} {W : WX} {X : Cx}, chkL G.T N sc cs es = true → es.isEmpty = false → XOk G cl N sc W X → ∀ pos, Ands .Or G W X es pos (evOr cl cs)
  | [], es, sc, G, W, X, h, h0, O, pos => by
    simp only [chkL] at h
    rw [h] at h0; cases h0
  | c :: cs, [], sc, G, W, X, h, _, O, pos => by simp [chkL] at h
  | [c], e :: es, sc, G, W, X, h, _, O, pos => by
    simp only [chkL, Bool.and_eq_true, List.isEmpty_iff] at h
    obtain ⟨h1, h2⟩ := h
    subst h2
    have q := so c h1 O
    exact ⟨pe_one q.1, fun hp => pw_or1 (q.2 (by simpa using hp))⟩
  | c :: c' :: cs, [e], sc, G, W, X, h, _, O, pos => by simp [chkL] at h
  | c :: c' :: cs, e :: e' :: es, sc, G, W, X, h, _, O, pos => by
    have h' : chk G.T N sc c e = true ∧ chkL G.T N sc (c' :: cs) (e' :: es) = true := by
      simpa only [chkL, Bool.and_eq_true] using h
    have q := so c h'.1 O
    have r := soOr (c' :: cs) h'.2 rfl O pos
    refine ⟨ex_or q.1 r.1, fun hp => ?_⟩
    rw [List.all_cons, Bool.and_eq_true] at hp
    exact tx_or (q.2 hp.1) (r.2 hp.2)
theorem soIt : ∀ (it : CIt) {t : CT} {tg e : Expr} {sc : Scope} {G : GC} {W : WX} {X : Cx}, chkIt G.T N sc it t tg e = true → XOk G cl N sc W X → PI X tg e (tIt G W (evIt cl it))
  | .val c, t, tg, e, sc, G, W, X, h, O => by
    simp only [chkIt] at h
    exact it_val O (so c h O).1
  | .rng1 c, t, tg, e, sc, G, W, X, h, O => by
    unfold chkIt at h
    split at h
    · simp only [Bool.and_eq_true, beq_iff_eq] at h
      obtain ⟨⟨⟨⟨h1, h2⟩, h3⟩, h4⟩, h5⟩ := h
      subst h1
      exact it_rng1 O h2 h3 h5 (so c h4 O).1
    · cases h
  | .rng2 a b, t, tg, e, sc, G, W, X, h, O => by
    unfold chkIt at h
    split at h
    · simp only [Bool.and_eq_true, beq_iff_eq] at h
      obtain ⟨⟨⟨⟨⟨⟨h1, h2⟩, h3⟩, h4⟩, h5⟩, h6⟩, h7⟩ := h
      subst h1
      exact it_rng2 O h2 h3 h6 h7 (so a h4 O).1 (so b h5 O).1
    · cases h
  | .enum true c, t, tg, e, sc, G, W, X, h, O => by
    unfold chkIt at h
    rw [Bool.and_eq_true] at h
    obtain ⟨h0, h⟩ := h
    split at h
    · simp only [Bool.and_eq_true, beq_iff_eq] at h
      obtain ⟨⟨⟨⟨h1, h2⟩, h3⟩, h4⟩, h5⟩ := h
      subst h1
      unfold isTup at h0
      split at h0
      · exact it_enumT O h2 h3 h5 (so c h4 O).1
      · cases h0
    · cases h
  | .enum false c, t, tg, e, sc, G, W, X, h, O => by
    unfold chkIt at h
    rw [Bool.and_eq_true] at h
    obtain ⟨h0, h⟩ := h
    split at h
    · simp only [Bool.and_eq_true, beq_iff_eq] at h
      obtain ⟨⟨⟨⟨h1, h2⟩, h3⟩, h4⟩, h5⟩ := h
      subst h1
      unfold isTup at h0
      split at h0
      · exact it_enumL O h2 h3 h5 (so c h4 O).1
      · cases h0
    · cases h
  | .zip a b, t, tg, e, sc, G, W, X, h, O => by
    unfold chkIt at h
    rw [Bool.and_eq_true] at h
    obtain ⟨h0, h⟩ := h
    split at h
    · simp only [Bool.and_eq_true, beq_iff_eq] at h
      obtain ⟨⟨⟨⟨⟨⟨h1, h2⟩, h3⟩, h4⟩, h5⟩, h6⟩, h7⟩ := h
      subst h1
      unfold isTup at h0
      split at h0
      · exact it_zip O h2 h3 h6 h7 (so a h4 O).1 (so b h5 O).1
      · cases h0
    · cases h
end
end
end Ev
/-! Ev, part I: statements. -/
namespace Ev
open PySem L2
def PostS (G : GC) (W : WX) (m : List Addr) (H : Hp) (r : RS) (E : Ends) : Prop :=
  match r with
  | .nx τ S => ∀ m' H' σ', Ext m H m' H' → Sim G m' H' S → RelS G m' H' σ' τ → E.nx σ' H'
  | .bk τ S => ∀ m' H' σ', Ext m H m' H' → Sim G m' H' S → RelS G m' H' σ' τ → E.bk σ' H'
  | .ct τ S => ∀ m' H' σ', Ext m H m' H' → Sim G m' H' S → RelS G m' H' σ' τ → E.ct σ' H'
  | .rt d S => ∀ m' H' v, Ext m H m' H' → Sim G m' H' S → Rep G m' H' d v → E.rt v H'
  | .ex c pl τ S => ∀ m' H' σ' cls dd, Ext m H m' H' → Sim G m' H' S → RelS G m' H' σ' τ → RepX G m' H' c pl cls dd → W cls dd σ' H'
  | .bad => False
def tS (G : GC) (W : WX) (r : Slots → Store → RS) : TS := fun E σ H => ∃ m τ S, RelS G m H σ τ ∧ Sim G m H S ∧ PostS G W m H (r τ S) E
section
variable {G : GC} {W : WX} {m m' : List Addr} {H H' : Hp} {S : Store} {σ : St} {τ : Slots} {α β : Type} {R1 : List Addr → Hp → α → β → Prop} {E : Ends}
theorem PostS.on {r : RS} (h : PostS G W m H r E) (e : Ext m H m' H') : PostS G W m' H' r E := by
  cases r with
  | nx τ S => exact fun m2 H2 σ' e2 => h m2 H2 σ' (e.trans e2)
  | bk τ S => exact fun m2 H2 σ' e2 => h m2 H2 σ' (e.trans e2)
  | ct τ S => exact fun m2 H2 σ' e2 => h m2 H2 σ' (e.trans e2)
  | rt d S => exact fun m2 H2 v e2 => h m2 H2 v (e.trans e2)
  | ex c pl τ S => exact fun m2 H2 σ' cls dd e2 => h m2 H2 σ' cls dd (e.trans e2)
  | bad => exact h
theorem PostS.seq {r : R α} {f : α → Store → RS} {Q' : β → Hp → Prop} (rel : RelS G m H σ τ) (h : PostS G W m H (r.bindS τ f) E)
    (k : ∀ m' H' d S' v, Ext m H m' H' → RelS G m' H' σ τ → Sim G m' H' S' → R1 m' H' d v → PostS G W m' H' (f d S') E → Q' v H') : Post G W R1 m σ H r Q' := by
  cases r with
  | bad => exact h
  | ex c pl S => exact fun m' H' cls dd e s x => h m' H' σ cls dd e s (rel.ext e) x
  | ok d S => exact fun m' H' v e s q => k m' H' d S v e (rel.ext e) s q (PostS.on h e)
theorem tS.seq {r : Slots → Store → R α} {f : α → Store → RS} {Q' : β → Hp → Prop} (rel : RelS G m H σ τ) (sim : Sim G m H S) (h : PostS G W m H ((r τ S).bindS τ f) E)
    (k : ∀ m' H' d S' v, Ext m H m' H' → RelS G m' H' σ τ → Sim G m' H' S' → R1 m' H' d v → PostS G W m' H' (f d S') E → Q' v H') : tR G W R1 r σ H Q' := ⟨m, τ, S, rel, sim, h.seq rel k⟩
theorem PostS.tst {r : R D} {F : D → Store → RS} {Q' : Bool → Hp → Prop} (rel : RelS G m H σ τ) (h : PostS G W m H (r.bindS τ F) E) (k0 : ∀ d S', truth d = none → F d S' = .bad)
    (k : ∀ m' H' d S' b, Ext m H m' H' → RelS G m' H' σ τ → Sim G m' H' S' → truth d = some b → PostS G W m' H' (F d S') E → Q' b H') : Post G W (fun _ _ d v => v = d) m σ H (r.bind fun x S => okO (truth x) S) Q' := by
  cases r with
  | bad => exact h
  | ex c pl S => exact fun m' H' cls dd e s x => h m' H' σ cls dd e s (rel.ext e) x
  | ok d S =>
    show Post G W _ m σ H (okO (truth d) S) Q'
    cases et : truth d with
    | none =>
      have h2 : PostS G W m H (F d S) E := h
      rw [k0 d S et] at h2
      exact h2
    | some b =>
      intro m' H' v e s q
      subst q
      exact k m' H' d S v e (rel.ext e) s et (PostS.on h e)
end
section
variable {G : GC} {cl : Nat → List D → Store → R D} {N : List Str} {sc : Scope} {W : WX} {X : Cx} {ra rb rc : Slots → Store → R D} {a b c e tg : Expr} {pos : Pos}
/-- where a def's body runs -/
structure FOk (N : List Str) (so : Scope) (X : Cx) : Prop extends SOk N so X where
  pas : PassesOwn (model X.prog X.w) X.A X.env X.xe
  bk : X.env.blockKind = .function
/-! ### stores -/
theorem nm_imp {i : Nat} {E : Ends} {σ : St} {H : Hp} (q : tS G W (fun τ S => (ra τ S).bindS τ fun x S => .nx (τ.set i (some x)) S) E σ H) : tAsg (tE G W ra) (gName i) E σ H := by
  obtain ⟨m, τ, S, rel, sim, q⟩ := q
  exact tS.seq rel sim q fun m1 H1 d S1 v e1 rel1 sim1 r1 p => p m1 H1 _ (.refl _ _) sim1 (rel1.set r1)
theorem st_set (O : XOk G cl N sc W X) (F : FOk N sc X) {i : Nat} {x : Str} {p : Pos} (hN : N[i]? = some x) (hx : sto sc x = true) (he : PE X e (tE G W ra)) (hs : swapsWith e (some (.Name x p)) pos.line X.env = pure false) :
    PS X (.Assign [.Name x p] e pos) (tS G W fun τ S => (ra τ S).bindS τ fun x S => .nx (τ.set i (some x)) S) := by
  obtain ⟨p1, p2⟩ := F.put x hx
  exact (ps_set F.nd (by rw [F.eN]; exact hN) p1 he hs p2).imp fun E σ H q => nm_imp q
theorem swaps_no (h : plainC e = true) {t : Option Expr} {l : Nat} {env : Env} : swapsWith e t l env = pure false := plain_swaps h
/-- does the store of a comprehension swap the name out -/
def swB (sc : Scope) (x : Str) (p : Pos) (s : Scope) (q : Pos) : Bool := sc.names.lookup x == some .local && p.line == q.line && !(s.names.any fun y => y.1 == x && (y.2 == .local || y.2 == .cell))
theorem swaps_lc (F : FOk N sc X) (eS : X.env.scope = sc) {elt : Expr} {gens : List Comprehension} {s : Scope} {q p : Pos} {x : Str} {l : Nat} : swapsWith (.ListComp elt gens s q) (some (.Name x p)) l X.env = pure (swB sc x p s q) := by
  have e1 : swapsWith (.ListComp elt gens s q) (some (.Name x p)) l X.env = pure (X.env.blockKind == .function && X.env.kindOf x == some .local && p.line == q.line && !(s.names.any fun y => y.1 == x && (y.2 == .local || y.2 == .cell))) := rfl
  rw [e1, F.bk]
  subst eS
  rfl
/-- target = value, by a tuple of targets -/
theorem st_tgt (O : XOk G cl N sc W X) (F : FOk N sc X) {t : CT} (hT : chkT N sc none t tg = true) (he : PE X e (tE G W ra)) (pc : plainC e = true) (pt : plainT tg = true) (hw : swappedStores [tg] e X.env = pure none) :
    PS X (.Assign [tg] e pos) (tS G W fun τ S => (ra τ S).bindS τ fun x S => match bindT t x τ with
      | some τ => .nx τ S
      | none => .bad) := by
  refine (ps_asg he (gt_ok O.toAt F.toSOk hT).1 (swaps_no pc) hw (by rw [tgt_cons pt]; rfl)).imp fun E σ H ⟨m, τ, S, rel, sim, q⟩ => ?_
  refine tS.seq rel sim q fun m1 H1 d S1 v e1 rel1 sim1 r1 p => ⟨m1, τ, S1, d, rel1, sim1, r1, ?_⟩
  cases hb : bindT t d τ with
  | none => rw [hb] at p; exact p
  | some τ' =>
    rw [hb] at p
    exact fun σ' rel' _ => p m1 H1 σ' (.refl _ _) sim1 rel'
theorem sw_none (h : ∀ vs k p, e ≠ .Tuple vs k p) {ts : List Expr} {k : Nat} {p : Pos} {env : Env} : swappedStores [.Tuple ts k p] e env = pure none := by
  cases e <;> first | rfl | exact absurd rfl (h _ _ _)
/-- the names that a pair's store would swap -/
def swN (sc : Scope) (ts : List Expr) : List Str := ts.filterMap fun
  | .Name id pos => if sc.names.lookup id == some .local && pos.line == (ts.head?.map (·.pos.line)).getD 0 then some id else none
  | _ => none
theorem sw_folded {ts vs : List Expr} {k k2 : Nat} {p p2 : Pos} {env : Env} (h : (vs.all (foldedForSure 8) || (swN env.scope ts).length != ts.length) = true) : swappedStores [.Tuple ts k p] (.Tuple vs k2 p2) env = pure none := by
  have e : (swN env.scope ts).length = (List.filterMap (fun | Expr.Name id pos => if env.kindOf id == some .local && pos.line == (ts.head?.map (·.pos.line)).getD 0 then some id else none | _ => none) ts).length := rfl
  rw [Bool.or_eq_true] at h
  rcases h with h | h
  · simp only [swappedStores, h, if_true]
    repeat' split
    all_goals rfl
  · simp only [swappedStores]
    split
    · rfl
    split
    · rfl
    split
    · rfl
    · next hn =>
      exfalso
      apply hn
      rw [Bool.or_eq_true]
      exact .inl h
/-- o[i] = value -/
theorem st_setI (O : XOk G cl N sc W X) {p2 : Pos} (he : PE X e (tE G W rc)) (ho : PE X a (tE G W ra)) (hi : PE X b (tE G W rb)) (pc : plainC e = true)
    (ha : ∀ v, assign (.Subscript a b p2) X.env v = (do
      let ov ← holding [v] (eval a X.env)
      let iv ← holding [v, ov] (eval b X.env)
      standAt p2
      holding [v, ov, iv] (setItem ov iv v)
      release [v, ov, iv] [])) :
    PS X (.Assign [.Subscript a b p2] e pos) (tS G W fun τ S => (rc τ S).bindS τ fun v S => (ra τ S).bindS τ fun x S => (rb τ S).bindS τ fun y S => match setIt x y v S with
      | some S => .nx τ S
      | none => .bad) := by
  have hset : PSet X (fun o i v H Q => rSetL o i v H Q ∨ rSetD G o i v H Q) := fun pins s σ H o i v ov iv u Q I ro ri rv h => h.elim (set_list pins s σ H o i v ov iv u Q I ro ri rv) (set_dct O.toAt pins s σ H o i v ov iv u Q I ro ri rv)
  refine (ps_asg (pos := pos) he (pg_sub ho hi hset ha) (show swapsWithSole [.Subscript a b p2] e pos.line X.env = pure false from swaps_no (t := some (.Subscript a b p2)) (l := pos.line) (env := X.env) pc)).imp fun E σ H ⟨m, τ, S, rel, sim, q⟩ => ?_
  refine tS.seq rel sim q fun m1 H1 d S1 v e1 rel1 sim1 r1 p => tS.seq rel1 sim1 p fun m2 H2 d2 S2 v2 e2 rel2 sim2 r2 p2 => tS.seq rel2 sim2 p2 fun m3 H3 d3 S3 v3 e3 rel3 sim3 r3 p3 => ?_
  replace r2 := r2.ext e3
  replace r1 := (r1.ext e2).ext e3
  have key : ∀ n k xs j, d2 = .loc n → d3 = .int k → S3[n]? = some (.list xs) → ix xs.length k = some j → PostS G W m3 H3 (.nx τ (S3.set n (.list (xs.set j d)))) E → rSetL v2 v3 v H3 fun H3 => E.nx σ H3 := by
    rintro n k xs j rfl rfl hS hj h
    obtain ⟨l, hl, ws, h1, z, rw_⟩ := sim3.find hS
    simp only [Rep] at r2 r3
    obtain ⟨l', rfl, hl'⟩ := r2
    rw [hl] at hl'; cases hl'
    obtain ⟨ext, sim4⟩ := sim3.write (o := .lst (ws.set j v)) (x := .list (xs.set j d)) hl fun ext => ⟨_, upd_same, by rw [List.length_set]; exact z, (rw_.ext ext).set j (r1.ext ext)⟩
    exact ⟨l, ws, k, j, rfl, r3, h1, by rw [rw_.length]; exact hj, h m3 _ σ ext sim4 (rel3.ext ext)⟩
  have keyD : ∀ n kvs, d2 = .loc n → S3[n]? = some (.dict kvs) → keyT d3 = true → kvs.length < big → PostS G W m3 H3 (.nx τ (S3.set n (.dict (storeD kvs d3 d)))) E → rSetD G v2 v3 v H3 fun H3 => E.nx σ H3 := by
    rintro n kvs rfl hS hk hz h
    exact ⟨m3, S3, n, kvs, d3, d, r2, r3, r1, sim3, hS, hk, hz, fun m' H' ext sim4 => h m' H' σ ext sim4 (rel3.ext ext)⟩
  have other : ∀ n, d2 = .loc n → PostS G W m3 H3 (match (match S3[n]? with
    | some (.dict kvs) => if keyT d3 && decide (kvs.length < big) then some (S3.set n (.dict (storeD kvs d3 d))) else none
    | _ => none) with
      | some S => .nx τ S
      | none => .bad) E → rSetD G v2 v3 v H3 fun H3 => E.nx σ H3 := by
    intro n en p3
    split at p3
    · next S' hq =>
      split at hq
      · next kvs hS =>
        split at hq
        · next hc =>
          cases hq
          rw [Bool.and_eq_true, decide_eq_true_eq] at hc
          exact keyD n kvs en hS hc.1 hc.2 p3
        · cases hq
      · cases hq
    · exact p3.elim
  cases d2 <;> first | (simp [setIt, PostS] at p3; done) | skip
  rename_i n
  cases d3 <;> first | exact .inr (other n rfl p3) | skip
  rename_i k
  simp only [setIt] at p3
  split at p3
  · next S' hq =>
    split at hq
    · next xs hS =>
      simp only [Option.map_eq_some_iff] at hq
      obtain ⟨j, hj, rfl⟩ := hq
      exact .inl (key n k xs j rfl rfl hS hj p3)
    · cases hq
  · exact p3.elim
/-- a, b = x, y -/
theorem set_all2 {i j : Nat} {ds : List D} {τ : Slots} : setAll [i, j] ds τ = match ds with
    | [x, y] => some ((τ.set i (some x)).set j (some y))
    | _ => none := by
  match ds with
  | [] => rfl
  | [_] => rfl
  | [_, _] => rfl
  | _ :: _ :: _ :: _ => rfl
theorem set_all3 {i j k : Nat} {ds : List D} {τ : Slots} : setAll [i, j, k] ds τ = match ds with
    | [x, y, z] => some (((τ.set i (some x)).set j (some y)).set k (some z))
    | _ => none := by
  match ds with
  | [] => rfl
  | [_] => rfl
  | [_, _] => rfl
  | [_, _, _] => rfl
  | _ :: _ :: _ :: _ :: _ => rfl
variable {rs : Slots → Store → R (List D)}
theorem sw_pair {x y : Str} {a b : Expr} {px py p p2 : Pos} {k k2 : Nat} (F : FOk N sc X) (eS : X.env.scope = sc) (hx : sc.names.lookup x = some .local) (hy : sc.names.lookup y = some .local) (hne : x ≠ y) (hl : (py.line == px.line) = true)
    (pa : plainE a = true) (pb : plainE b = true) (h1 : [a, b].all (foldedForSure 8) = false) (h2 : [a, b].all (constantsAlone 8) = false) : swappedStores [.Tuple [.Name x px, .Name y py] k p] (.Tuple [a, b] k2 p2) X.env = pure (some [x, y]) := by
  subst eS
  have kx : X.env.kindOf x = some .local := hx
  have ky : X.env.kindOf y = some .local := hy
  have hp1 : (Expr.pos (.Name x px)).line = px.line := rfl
  simp only [swappedStores, h1, h2, F.bk, kx, ky, List.filterMap_cons, List.filterMap_nil, List.head?_cons, Option.map_some, Option.getD_some, hp1, beq_self_eq_true, hl, Bool.and_self, if_true, List.length_cons, List.length_nil]
  have hd : ([x, y] : List Str).eraseDups = [x, y] := by
    rw [List.eraseDups_cons]
    have : ([y].filter fun b => !b == x) = [y] := by simp [Ne.symm hne]
    rw [this, List.eraseDups_cons]; rfl
  simp [hd]
  rintro (h | h) <;> (split at h <;> simp_all [plainE])
theorem st_par2 (O : XOk G cl N sc W X) (F : FOk N sc X) {i j : Nat} {x y : Str} {px py p p2 : Pos} {k k2 : Nat} (hi : N[i]? = some x) (hj : N[j]? = some y) (hx : sc.names.lookup x = some .local) (hy : sc.names.lookup y = some .local) (hne : x ≠ y)
    (hl : (py.line == px.line) = true) (pa : plainE a = true) (pb : plainE b = true) (h1 : [a, b].all (foldedForSure 8) = false) (h2 : [a, b].all (constantsAlone 8) = false) (ha : PA X [a, b] (tAs G W rs)) :
    PS X (.Assign [.Tuple [.Name x px, .Name y py] k p] (.Tuple [a, b] k2 p2) pos) (tS G W fun τ S => (rs τ S).bindS τ fun xs S => match setAll [i, j] xs τ with
      | some τ => .nx τ S
      | none => .bad) := by
  have hij : i ≠ j := fun z => hne (by subst z; rw [hi] at hj; exact Option.some.inj hj)
  refine (ps_par O.calm F.nd (by rw [F.eN]; exact hi) (by rw [F.eN]; exact hj) hij (by rw [O.eS]; exact hx) (by rw [O.eS]; exact hy) ha (sw_pair F O.eS hx hy hne hl pa pb h1 h2) rfl).imp fun E σ H ⟨m, τ, S, rel, sim, q⟩ => ?_
  refine tS.seq rel sim q fun m1 H1 ds S1 vs e1 rel1 sim1 r1 pp => ?_
  rw [set_all2] at pp
  match ds, r1, pp with
  | [], _, pp => exact pp.elim
  | [_], _, pp => exact pp.elim
  | _ :: _ :: _ :: _, _, pp => exact pp.elim
  | [d1, d2], r1, pp =>
    obtain ⟨v, w, ev, r1, r2⟩ := rep2 r1
    exact ⟨v, w, ev, pp m1 H1 _ (.refl _ _) sim1 ((rel1.set r1).set r2)⟩
theorem sw_three {x y z : Str} {a b c : Expr} {px py pz p p2 : Pos} {k k2 : Nat} (F : FOk N sc X) (eS : X.env.scope = sc) (hx : sc.names.lookup x = some .local) (hy : sc.names.lookup y = some .local) (hz : sc.names.lookup z = some .local) (hxy : x ≠ y) (hxz : x ≠ z) (hyz : y ≠ z)
    (hl : (py.line == px.line) = true) (hl2 : (pz.line == px.line) = true) (pa : plainE a = true) (pb : plainE b = true) (pc : plainE c = true) (h1 : [a, b, c].all (foldedForSure 8) = false) (h2 : [a, b, c].all (constantsAlone 8) = false) :
    swappedStores [.Tuple [.Name x px, .Name y py, .Name z pz] k p] (.Tuple [a, b, c] k2 p2) X.env = pure (some [x, y, z]) := by
  subst eS
  have kx : X.env.kindOf x = some .local := hx
  have ky : X.env.kindOf y = some .local := hy
  have kz : X.env.kindOf z = some .local := hz
  have hp1 : (Expr.pos (.Name x px)).line = px.line := rfl
  simp only [swappedStores, h1, h2, F.bk, kx, ky, kz, List.filterMap_cons, List.filterMap_nil, List.head?_cons, Option.map_some, Option.getD_some, hp1, beq_self_eq_true, hl, hl2, Bool.and_self, if_true, List.length_cons, List.length_nil]
  have hd : ([x, y, z] : List Str).eraseDups = [x, y, z] := by
    rw [List.eraseDups_cons]
    have : ([y, z].filter fun b => !b == x) = [y, z] := by simp [Ne.symm hxy, Ne.symm hxz]
    rw [this, List.eraseDups_cons]
    have : ([z].filter fun b => !b == y) = [z] := by simp [Ne.symm hyz]
    rw [this, List.eraseDups_cons]; rfl
  simp [hd]
  rintro (h | h | h) <;> (split at h <;> simp_all [plainE])
theorem st_par3 (O : XOk G cl N sc W X) (F : FOk N sc X) {i j l : Nat} {x y z : Str} {px py pz p p2 : Pos} {k k2 : Nat} (hi : N[i]? = some x) (hj : N[j]? = some y) (hk : N[l]? = some z) (hx : sc.names.lookup x = some .local) (hy : sc.names.lookup y = some .local) (hz : sc.names.lookup z = some .local) (hxy : x ≠ y) (hxz : x ≠ z) (hyz : y ≠ z)
    (hl : (py.line == px.line) = true) (hl2 : (pz.line == px.line) = true) (pa : plainE a = true) (pb : plainE b = true) (pc : plainE c = true) (h1 : [a, b, c].all (foldedForSure 8) = false) (h2 : [a, b, c].all (constantsAlone 8) = false) (ha : PA X [a, b, c] (tAs G W rs)) :
    PS X (.Assign [.Tuple [.Name x px, .Name y py, .Name z pz] k p] (.Tuple [a, b, c] k2 p2) pos) (tS G W fun τ S => (rs τ S).bindS τ fun xs S => match setAll [i, j, l] xs τ with
      | some τ => .nx τ S
      | none => .bad) := by
  have ne : ∀ {i j : Nat} {x y : Str}, N[i]? = some x → N[j]? = some y → x ≠ y → i ≠ j := fun h1 h2 h e => h (by subst e; rw [h1] at h2; exact Option.some.inj h2)
  refine (ps_par3 O.calm F.nd (by rw [F.eN]; exact hi) (by rw [F.eN]; exact hj) (by rw [F.eN]; exact hk) (ne hi hj hxy) (ne hi hk hxz) (ne hj hk hyz) (by rw [O.eS]; exact hx) (by rw [O.eS]; exact hy) (by rw [O.eS]; exact hz) ha (sw_three F O.eS hx hy hz hxy hxz hyz hl hl2 pa pb pc h1 h2) rfl).imp fun E σ H ⟨m, τ, S, rel, sim, q⟩ => ?_
  refine tS.seq rel sim q fun m1 H1 ds S1 vs e1 rel1 sim1 r1 pp => ?_
  rw [set_all3] at pp
  match ds, r1, pp with
  | [], _, pp => exact pp.elim
  | [_], _, pp => exact pp.elim
  | [_, _], _, pp => exact pp.elim
  | _ :: _ :: _ :: _ :: _, _, pp => exact pp.elim
  | [d1, d2, d3], r1, pp =>
    simp only [RepL] at r1
    obtain ⟨v1, _, rfl, q1, v2, _, rfl, q2, v3, _, rfl, q3, rfl⟩ := r1
    exact ⟨v1, v2, v3, rfl, pp m1 H1 _ (.refl _ _) sim1 (((rel1.set q1).set q2).set q3)⟩

/-! ### the rest -/
theorem st_ret (he : PE X e (tE G W ra)) : PS X (.Return (some e) pos) (tS G W fun τ S => (ra τ S).bindS τ fun x S => .rt x S) :=
  (ps_ret he).imp fun E σ H ⟨m, τ, S, rel, sim, q⟩ => tS.seq rel sim q fun m1 H1 d S1 v e1 rel1 sim1 r1 p => p m1 H1 v (.refl _ _) sim1 r1
theorem st_retN : PS X (.Return none pos) (tS G W fun _ S => .rt .non S) :=
  ps_retN.imp fun E σ H ⟨m, τ, S, rel, sim, q⟩ => q m H .non (.refl _ _) sim (by simp only [Rep])
theorem st_ex (he : PE X e (tE G W ra)) (pc : plainC e = true) : PS X (.Expr e pos) (tS G W fun τ S => (ra τ S).bindS τ fun _ S => .nx τ S) :=
  (ps_expr he (swaps_no pc)).imp fun E σ H ⟨m, τ, S, rel, sim, q⟩ => tS.seq rel sim q fun m1 H1 d S1 v e1 rel1 sim1 r1 p => p m1 H1 σ (.refl _ _) sim1 rel1
theorem st_pass : PS X (.Pass pos) (tS G W fun τ S => .nx τ S) := ps_pass.imp fun E σ H ⟨m, τ, S, rel, sim, q⟩ => q m H σ (.refl _ _) sim rel
theorem st_brk : PS X (.Break pos) (tS G W fun τ S => .bk τ S) := ps_break.imp fun E σ H ⟨m, τ, S, rel, sim, q⟩ => q m H σ (.refl _ _) sim rel
theorem st_cnt : PS X (.Continue pos) (tS G W fun τ S => .ct τ S) := ps_continue.imp fun E σ H ⟨m, τ, S, rel, sim, q⟩ => q m H σ (.refl _ _) sim rel
theorem st_never {st : Stmt} : PS X st (tS G W fun _ _ => .bad) := ⟨fun pins s σ H E I ⟨m, τ, S, rel, sim, q⟩ => q.elim⟩
variable {xs ys : List Stmt} {p q : Slots → Store → RS}
theorem st_if (hc : PT X c (tB G W (tst rc))) (ha : PSs X xs (tS G W p)) (hb : PSs X ys (tS G W q)) : PS X (.If c xs ys pos) (tS G W fun τ S => (rc τ S).bindS τ fun x S => match truth x with
      | some true => p τ S
      | some false => q τ S
      | none => .bad) := by
  refine (ps_if hc ha hb).imp fun E σ H ⟨m, τ, S, rel, sim, w⟩ => ⟨m, τ, S, rel, sim, w.tst rel (fun d S' et => by rw [et]) fun m1 H1 d S1 k e1 rel1 sim1 et w1 => ?_⟩
  rw [et] at w1
  cases k with
  | false => rw [if_neg Bool.false_ne_true]; exact ⟨m1, τ, S1, rel1, sim1, w1⟩
  | true => rw [if_pos rfl]; exact ⟨m1, τ, S1, rel1, sim1, w1⟩
theorem sts_nil : PSs X [] (tS G W fun τ S => .nx τ S) := pss_nil.imp fun E σ H ⟨m, τ, S, rel, sim, w⟩ => w m H σ (.refl _ _) sim rel
theorem sts_cons {st : Stmt} (h1 : PS X st (tS G W p)) (h2 : PSs X xs (tS G W q)) : PSs X (st :: xs) (tS G W fun τ S => match p τ S with
      | .nx τ S => q τ S
      | r => r) := by
  refine (pss_cons h1 h2).imp fun E σ H ⟨m, τ, S, rel, sim, w⟩ => ⟨m, τ, S, rel, sim, ?_⟩
  have w : PostS G W m H (match p τ S with
      | .nx τ S => q τ S
      | r => r) E := w
  cases hp : p τ S with
  | nx τ1 S1 =>
    rw [hp] at w
    exact fun m1 H1 σ1 e1 sim1 rel1 => ⟨m1, τ1, S1, rel1, sim1, PostS.on w e1⟩
  | bk τ1 S1 => rw [hp] at w; exact w
  | ct τ1 S1 => rw [hp] at w; exact w
  | rt d S1 => rw [hp] at w; exact w
  | ex c pl τ1 S1 => rw [hp] at w; exact w
  | bad => rw [hp] at w; exact w
/-- a loop's body, behind it more turns -/
theorem turnS {E : Ends} {m : List Addr} {H : Hp} {r : RS} {f : Slots → Store → RS} {Nx : St → Hp → Prop}
    (w : PostS G W m H (match r with
      | .nx τ S => f τ S
      | .ct τ S => f τ S
      | .bk τ S => .nx τ S
      | r => r) E) (k : ∀ m' H' σ' τ S, Ext m H m' H' → Sim G m' H' S → RelS G m' H' σ' τ → PostS G W m' H' (f τ S) E → Nx σ' H') :
    PostS G W m H r { E with nx := Nx, ct := Nx, bk := E.nx } := by
  cases r with
  | nx τ1 S1 => exact fun m1 H1 σ1 e1 sim1 rel1 => k m1 H1 σ1 τ1 S1 e1 sim1 rel1 (PostS.on w e1)
  | ct τ1 S1 => exact fun m1 H1 σ1 e1 sim1 rel1 => k m1 H1 σ1 τ1 S1 e1 sim1 rel1 (PostS.on w e1)
  | bk τ1 S1 => exact w
  | rt d S1 => exact w
  | ex c pl τ1 S1 => exact w
  | bad => exact w
theorem st_wh (F : FOk N sc X) (hc : PT X c (tB G W (tst rc))) (hb : PSs X xs (tS G W p)) (n : Nat) : PS X (.While c xs [] pos) (tS G W fun τ S => whL rc p n τ S) := by
  refine (ps_while F.pas hc hb).imp fun E σ H ⟨m, τ, S, rel, sim, w⟩ => ?_
  refine ⟨fun n σ H => ∃ m τ S, RelS G m H σ τ ∧ Sim G m H S ∧ PostS G W m H (whL rc p n τ S) E, ⟨n, m, τ, S, rel, sim, w⟩, ?_⟩
  rintro n σ H ⟨m, τ, S, rel, sim, w⟩
  cases n with
  | zero => exact w.elim
  | succ n =>
    simp only [whL] at w
    refine ⟨m, τ, S, rel, sim, w.tst rel (fun d S' et => by rw [et]) fun m1 H1 d S1 k e1 rel1 sim1 et w1 => ?_⟩
    rw [et] at w1
    cases k with
    | false => rw [if_neg Bool.false_ne_true]; exact w1 m1 H1 σ (.refl _ _) sim1 rel1
    | true =>
      rw [if_pos rfl]
      exact ⟨fun σ' H' => ∃ n', n' < n + 1 ∧ ∃ m τ S, RelS G m H' σ' τ ∧ Sim G m H' S ∧ PostS G W m H' (whL rc p n' τ S) E, fun _ _ h => h, m1, τ, S1, rel1, sim1,
        turnS w1 fun m2 H2 σ2 τ2 S2 e2 sim2 rel2 w2 => ⟨n, Nat.lt_succ_self _, m2, τ2, S2, rel2, sim2, w2⟩⟩
theorem st_for (O : XOk G cl N sc W X) (F : FOk N sc X) {iter : Expr} {t : CT} {ri : Slots → Store → R Items} (hi : PI X tg iter (tIt G W ri)) (pl : plainE iter = true) (hg : chkT N sc none t tg = true) (hb : PSs X xs (tS G W p)) :
    PS X (.For tg iter xs [] pos) (tS G W fun τ S => (ri τ S).bindS τ fun I S => forL I (bindT t) p I.xs τ S) := by
  refine (ps_for F.pas O.calm hi (gt_ok O.toAt F.toSOk hg).1 hb (fun x => plain_fold pl x)).imp fun E σ H ⟨m, τ, S, rel, sim, w⟩ => ?_
  refine tS.seq rel sim w fun m1 H1 I S1 J e1 rel1 sim1 jw w1 => ?_
  refine ⟨fun i k σ H => k + i = I.xs.length ∧ ∃ m τ S, Ext m1 H1 m H ∧ RelS G m H σ τ ∧ Sim G m H S ∧ PostS G W m H (forL I (bindT t) p (I.xs.drop i) τ S) E, ⟨I.xs.length, rfl, m1, τ, S1, .refl _ _, rel1, sim1, by simpa using w1⟩, ?_⟩
  rintro i k σ H ⟨hk, m, τ, S, ext, rel, sim, w⟩
  by_cases hl : i < I.xs.length
  · right
    have ed : I.xs.drop i = I.xs[i] :: I.xs.drop (i + 1) := List.drop_eq_getElem_cons hl
    rw [ed] at w
    simp only [forL] at w
    cases st : I.still S with
    | false => rw [st] at w; exact w.elim
    | true =>
      rw [st] at w
      simp only [if_true] at w
      obtain ⟨g1, g2⟩ := jw.go [] i m H S (fun a h => by simp at h) ext sim st hl
      refine ⟨g1, fun σ' H' => ∃ k', k' < k ∧ k' + (i + 1) = I.xs.length ∧ ∃ m τ S, Ext m1 H1 m H' ∧ RelS G m H' σ' τ ∧ Sim G m H' S ∧ PostS G W m H' (forL I (bindT t) p (I.xs.drop (i + 1)) τ S) E, fun _ _ h => h, fun x H2 y => ?_⟩
      obtain ⟨ext2, sim2, d, exd, rd⟩ := g2 x H2 y
      rw [List.getElem?_eq_getElem hl, Option.some.injEq] at exd
      subst exd
      refine ⟨m, τ, S, I.xs[i], rel.ext ext2, sim2, rd, ?_⟩
      cases hb : bindT t I.xs[i] τ with
      | none => rw [hb] at w; exact w.elim
      | some τ' =>
        rw [hb] at w
        refine fun σ2 rel2 _ => ⟨m, τ', S, rel2, sim2, ?_⟩
        exact turnS (PostS.on w ext2) fun m3 H3 σ3 τ3 S3 e3 sim3 rel3 w3 => ⟨k - 1, by omega, by omega, m3, τ3, S3, ext.trans (ext2.trans e3), rel3, sim3, w3⟩
  · left
    have hi2 : i = I.xs.length := by omega
    subst hi2
    rw [List.drop_length] at w
    simp only [forL] at w
    cases st : I.still S with
    | false => rw [st] at w; exact w.elim
    | true =>
      rw [st] at w
      exact ⟨jw.stop [] m H S ext sim st, w m H σ (.refl _ _) sim rel⟩
end
end Ev
/-! Ev, part J: statements against the text; defs. -/
namespace Ev
open PySem L2
def setOk (e : CE) (v : Expr) : Bool := match e, v with
  | .comp .., .ListComp _ _ _ _ => true
  | _, v => plainC v
def swNone (sc : Scope) (ts : List Expr) (v : Expr) : Bool := match v with
  | .Tuple vs _ _ => vs.all (foldedForSure 8) || (swN sc ts).length != ts.length
  | _ => true
def twoNames (N : List Str) (sc : Scope) (i j : Nat) (x y : Str) (px py : Pos) : Bool :=
  decide (N[i]? = some x) && decide (N[j]? = some y) && decide (sc.names.lookup x = some .local) && decide (sc.names.lookup y = some .local) && (x != y) && (py.line == px.line)
section
variable (T : Tab) (N : List Str) (sc : Scope)
mutual
def chkS : CS → Stmt → Bool
  | .set i e, st => match st with
    | .Assign [.Name x _] v _ => decide (N[i]? = some x) && sto sc x && chk T N sc e v && setOk e v
    | _ => false
  | .par is es, st => match is, st with
    | [i, j], .Assign [.Tuple [.Name x px, .Name y py] _ _] (.Tuple [a, b] _ _) _ => twoNames N sc i j x y px py && chkL T N sc es [a, b] && plainE a && plainE b && !([a, b].all (foldedForSure 8)) && !([a, b].all (constantsAlone 8))
    | [i, j, l], .Assign [.Tuple [.Name x px, .Name y py, .Name z pz] _ _] (.Tuple [a, b, c] _ _) _ =>
      twoNames N sc i j x y px py && twoNames N sc i l x z px pz && twoNames N sc j l y z py pz && chkL T N sc es [a, b, c] && plainE a && plainE b && plainE c && !([a, b, c].all (foldedForSure 8)) && !([a, b, c].all (constantsAlone 8))
    | _, _ => false
  | .tgt t e, st => match st with
    | .Assign [.Tuple ts k p] v _ => chkT N sc none t (.Tuple ts k p) && chk T N sc e v && plainC v && swNone sc ts v
    | _ => false
  | .setI o i e, st => match st with
    | .Assign [.Subscript a b _] v _ => chk T N sc o a && chk T N sc i b && plainI b && chk T N sc e v && plainC v
    | _ => false
  | .ret e, st => match st with
    | .Return (some v) _ => chk T N sc e v
    | _ => false
  | .retN, st => match st with
    | .Return none _ => true
    | _ => false
  | .ifs c a b, st => match st with
    | .If t xs ys _ => chk T N sc c t && plainF t && chkB a xs && chkB b ys
    | _ => false
  | .wh c b, st => match st with
    | .While t xs [] _ => chk T N sc c t && plainF t && chkB b xs
    | _ => false
  | .fors t it b, st => match st with
    | .For tg iter xs [] _ => chkIt T N sc it t tg iter && plainE iter && chkT N sc none t tg && chkB b xs
    | _ => false
  | .ex e, st => match st with
    | .Expr v _ => chk T N sc e v && plainC v
    | _ => false
  | .brk, st => match st with
    | .Break _ => true
    | _ => false
  | .cnt, st => match st with
    | .Continue _ => true
    | _ => false
  | .pass, st => match st with
    | .Pass _ => true
    | _ => false
  | .never, _ => true
def chkB : List CS → List Stmt → Bool
  | [], sts => sts.isEmpty
  | s :: r, sts => match sts with
    | st :: sts => chkS s st && chkB r sts
    | [] => false
end
end
theorem two_names {N : List Str} {sc : Scope} {i j : Nat} {x y : Str} {px py : Pos} (h : twoNames N sc i j x y px py = true) :
    N[i]? = some x ∧ N[j]? = some y ∧ sc.names.lookup x = some .local ∧ sc.names.lookup y = some .local ∧ x ≠ y ∧ (py.line == px.line) = true := by
  simp only [twoNames, Bool.and_eq_true, decide_eq_true_eq, bne_iff_ne, ne_eq] at h
  exact ⟨h.1.1.1.1.1, h.1.1.1.1.2, h.1.1.1.2, h.1.1.2, h.1.2, h.2⟩
section
variable (cl : Nat → List D → Store → R D) (N : List Str) {sc : Scope} {G : GC} {W : WX} {X : Cx}
theorem so_set (O : XOk G cl N sc W X) (F : FOk N sc X) {i : Nat} {x : Str} {p pos : Pos} {e : CE} {v : Expr} (hN : N[i]? = some x) (hx : sto sc x = true) (h : chk G.T N sc e v = true) (h2 : setOk e v = true) :
    PS X (.Assign [.Name x p] v pos) (tS G W (evS cl (.set i e))) := by
  by_cases pc : plainC v = true
  · exact st_set O F hN hx (so cl N e h O).1 (swaps_no pc)
  · cases e with
    | comp mu own t it c e' =>
      have h' := h
      unfold chk at h
      split at h
      · next elt tg iter ifs n scope q =>
        simp only [Bool.and_eq_true] at h
        obtain ⟨⟨⟨⟨⟨⟨h1, hk⟩, h3⟩, h4⟩, h5⟩, h6⟩, h7⟩ := h
        rw [beq_iff_eq] at h1
        subst h1
        cases hs : swB sc x p scope q with
        | false => exact st_set O F hN hx (so cl N _ h' O).1 (by rw [swaps_lc F O.eS, hs])
        | true =>
          have hl : X.env.scope.names.lookup x = some .local := by
            rw [O.eS]
            simp only [swB, Bool.and_eq_true] at hs
            exact beq_iff_eq.mp hs.1.1
          exact (st_lc O hN hl (by rw [swaps_lc F O.eS, hs]) (soIt cl N it h3 O) h4 hk h5 (fun p s H C cl' fp => soF (G := G.up [p]) cl N c h6 (O.blk p s H scope C cl' fp)) (fun p s H C cl' fp => (so (G := G.up [p]) cl N e' h7 (O.blk p s H scope C cl' fp)).1)).imp fun E σ H q => nm_imp q
      · cases h
    | _ => exact absurd h2 (by unfold setOk; exact pc)
mutual
theorem soS (O : XOk G cl N sc W X) (F : FOk N sc X) : ∀ (s : CS) {st : Stmt}, chkS G.T N sc s st = true → PS X st (tS G W (evS cl s))
  | .set i e, st, h => by
    unfold chkS at h
    split at h
    · simp only [Bool.and_eq_true, decide_eq_true_eq] at h
      exact so_set cl N O F h.1.1.1 h.1.1.2 h.1.2 h.2
    · cases h
  | .par is es, st, h => by
    unfold chkS at h
    split at h
    · simp only [Bool.and_eq_true, Bool.not_eq_true'] at h
      obtain ⟨⟨⟨⟨⟨h1, h2⟩, h3⟩, h4⟩, h5⟩, h6⟩ := h
      obtain ⟨n1, n2, n3, n4, n5, n6⟩ := two_names h1
      exact st_par2 O F n1 n2 n3 n4 n5 n6 h3 h4 h5 h6 (soL cl N es h2 (by simp [h3, h4]) O)
    · simp only [Bool.and_eq_true, Bool.not_eq_true'] at h
      obtain ⟨⟨⟨⟨⟨⟨⟨⟨h1, h1'⟩, h1''⟩, h2⟩, h3⟩, h4⟩, h4'⟩, h5⟩, h6⟩ := h
      obtain ⟨n1, n2, n3, n4, n5, n6⟩ := two_names h1
      obtain ⟨m1, m2, m3, m4, m5, m6⟩ := two_names h1'
      obtain ⟨k1, k2, k3, k4, k5, k6⟩ := two_names h1''
      exact st_par3 O F n1 n2 m2 n3 n4 m4 n5 m5 k5 n6 m6 h3 h4 h4' h5 h6 (soL cl N es h2 (by simp [h3, h4, h4']) O)
    · cases h
  | .tgt t e, st, h => by
    unfold chkS at h
    split at h
    · next ts k p v pos =>
      simp only [Bool.and_eq_true] at h
      obtain ⟨⟨⟨h1, h2⟩, h3⟩, h4⟩ := h
      refine st_tgt O F h1 (so cl N e h2 O).1 h3 rfl ?_
      cases v with
      | Tuple vs k2 p2 => exact sw_folded (by rw [O.eS]; exact h4)
      | _ => exact sw_none (by intro _ _ _ z; cases z)
    · cases h
  | .setI o i e, st, h => by
    unfold chkS at h
    split at h
    · next a b p2 v pos =>
      simp only [Bool.and_eq_true] at h
      obtain ⟨⟨⟨⟨h1, h2⟩, h3⟩, h4⟩, h5⟩ := h
      refine st_setI O (so cl N e h4 O).1 (so cl N o h1 O).1 (so cl N i h2 O).1 h5 fun v => ?_
      cases b <;> first | rfl | (simp [plainI] at h3)
    · cases h
  | .ret e, st, h => by
    unfold chkS at h
    split at h
    · exact st_ret (so cl N e h O).1
    · cases h
  | .retN, st, h => by
    unfold chkS at h
    split at h
    · exact st_retN
    · cases h
  | .ifs c a b, st, h => by
    unfold chkS at h
    split at h
    · simp only [Bool.and_eq_true] at h
      obtain ⟨⟨⟨h1, h2⟩, h3⟩, h4⟩ := h
      exact st_if ((so cl N c h1 O).2 h2) (soB O F a h3) (soB O F b h4)
    · cases h
  | .wh c b, st, h => by
    unfold chkS at h
    split at h
    · simp only [Bool.and_eq_true] at h
      obtain ⟨⟨h1, h2⟩, h3⟩ := h
      exact st_wh F ((so cl N c h1 O).2 h2) (soB O F b h3) fuel
    · cases h
  | .fors t it b, st, h => by
    unfold chkS at h
    split at h
    · simp only [Bool.and_eq_true] at h
      obtain ⟨⟨⟨h1, h2⟩, h3⟩, h4⟩ := h
      exact st_for O F (soIt cl N it h1 O) h2 h3 (soB O F b h4)
    · cases h
  | .ex e, st, h => by
    unfold chkS at h
    split at h
    · rw [Bool.and_eq_true] at h
      exact st_ex (so cl N e h.1 O).1 h.2
    · cases h
  | .brk, st, h => by
    unfold chkS at h
    split at h
    · exact st_brk
    · cases h
  | .cnt, st, h => by
    unfold chkS at h
    split at h
    · exact st_cnt
    · cases h
  | .pass, st, h => by
    unfold chkS at h
    split at h
    · exact st_pass
    · cases h
  | .never, st, h => st_never
theorem soB (O : XOk G cl N sc W X) (F : FOk N sc X) : ∀ (b : List CS) {sts : List Stmt}, chkB G.T N sc b sts = true → PSs X sts (tS G W (evB cl b))
  | [], sts, h => by
    simp only [chkB, List.isEmpty_iff] at h
    subst h
    exact sts_nil
  | s :: r, [], h => by simp [chkB] at h
  | s :: r, st :: sts, h => by
    simp only [chkB, Bool.and_eq_true] at h
    exact sts_cons (soS O F s h.1) (soB O F r h.2)
end
end

/-! ### defs -/
/-- a def of the top, its compact body -/
def FnFact (G : GC) (x : Str) (d : FD) : Prop := ∃ (a : Addr) (fd : FuncData) (ps N : List Str) (sc : Scope) (params : Arguments) (body : List Stmt),
  FunD G.K x x params body sc [] [] a fd ∧ G.mg x = some (.ref a) ∧ FnScope N ps sc ∧ ps.length = d.np ∧ N.length = d.ns ∧ Binds G.K fd ps [] ∧ chkB G.T N sc d.body body = true
structure Facts (G : GC) (base : Heap) : Prop where
  con : ∀ (x : Str) (d : D), G.T.cons.lookup x = some d → ∃ u v, G.mg x = some u ∧ RelV v u ∧ ∀ m H, Rep G m H d v
  blt : ∀ x ∈ G.T.blts, G.mg x = none
  fns : ∀ (f : Nat) (x : Str) (d : FD), G.T.fns[f]? = some (x, d) → FnFact G x d
theorem Facts.tab {G : GC} {base : Heap} (F : Facts G base) : TabOk G where
  con := F.con
  blt := F.blt
  fns := fun f x d h => by
    obtain ⟨a, fd, ps, N, sc, params, body, F1, mg, _⟩ := F.fns f x d h
    exact ⟨a, mg, F1.kp⟩
theorem entry_rel {G : GC} {m : List Addr} {H : Hp} {as : List D} {vs : List V} {N : List Str} {ns : Nat} (r : RepL G m H as vs) (hN : N.length = ns) (hl : vs.length ≤ N.length) : RelS G m H (L2.start N vs) (entry ns as) := by
  have e := r.length
  refine ⟨by simp [L2.start, entry]; omega, fun i d h => ?_⟩
  unfold entry at h
  by_cases hi : i < as.length
  · rw [List.getElem?_append_left (by simpa using hi), List.getElem?_map] at h
    cases ha : as[i]? with
    | none => rw [ha] at h; cases h
    | some d' =>
      rw [ha] at h
      simp only [Option.map_some, Option.some.injEq] at h
      subst h
      obtain ⟨v, hv, rv⟩ := r.get ha
      refine ⟨v, ?_, rv⟩
      unfold L2.start
      rw [List.getElem?_append_left (by simp; omega), List.getElem?_map, hv]; rfl
  · rw [List.getElem?_append_right (by simpa using hi), List.getElem?_replicate] at h
    split at h <;> cases h
def spF (G : GC) (cl : Nat → List D → Store → R D) (d : FD) : Sp := fun vs H Q E => ∃ as m S, as.length = d.np ∧ RepL G m H as vs ∧ Sim G m H S ∧ PostE G (fun c dd _ H' => E c dd H') m [] H (endB (evB cl d.body (entry d.ns as) S)) Q
/-- one def, its callees a level below -/
theorem fn_step {G : GC} {base : Heap} (F : Facts G base) {k : Nat} {cl : Nat → List D → Store → R D} (ih : ∀ (l : List Addr) (A : Around), Room k A → FnAt (G.up l) G.P G.w base A cl) (l : List Addr) {x : Str} {d : FD} {a : Addr} {fd : FuncData} {ps N : List Str} {sc : Scope} {params : Arguments} {body : List Stmt}
    (F1 : FunD G.K x x params body sc [] [] a fd) (fs : FnScope N ps sc) (hp : ps.length = d.np) (hn : N.length = d.ns) (hc : chkB G.T N sc d.body body = true) : FnOk G.P G.w G.K G.mg base (L2.CX G.P G.w) (k + 1) a fd ps (spF (G.up l) cl d) := by
  refine F1.ok fs (fun vs H Q E ⟨as, m, S, hl, rl, _⟩ => by rw [rl.length, hl, hp]) fun cdv A outer s H vs Q E hr ⟨as, m, S, hl, rl, sim, h⟩ => ?_
  have O : XOk (G.up l) cl N sc (fun c dd _ H' => E c dd H') (cxOf (L2.CX G.P G.w) G.P G.w G.K G.mg base N x sc a cdv A outer s H E) := {
    K := rfl
    pr := rfl
    wd := rfl
    calm := rfl
    un := by have := hr.un; show (A.deeper _).units + 65 < cLine; omega
    mg := rfl
    eN := rfl
    eS := rfl
    nd := fs.nd
    tab := F.tab.up l
    tk := takes_of rfl rfl rfl rfl
    fnat := fun l' => by rw [GC.up_up]; exact ih _ _ hr }
  have FO : FOk N sc (cxOf (L2.CX G.P G.w) G.P G.w G.K G.mg base N x sc a cdv A outer s H E) := {
    nd := fs.nd
    eN := rfl
    put := fun y hy => by
      refine ⟨?_, .inl rfl⟩
      unfold sto at hy
      split at hy
      · exact .inl (by assumption)
      · exact .inr (by assumption)
      · cases hy
    pas := passes_of rfl
    bk := by
      show (if sc.kind.isAnnotationScope then ScopeKind.function else sc.kind) = .function
      rw [fs.kind]; rfl }
  refine ⟨tS (G.up l) (fun c dd _ H' => E c dd H') (evB cl d.body), soB _ N O FO d.body hc, m, entry d.ns as, S, entry_rel rl hn (by rw [rl.length, hl, ← hp, ← fs.pre, List.length_take]; omega), sim, ?_⟩
  revert h
  generalize evB cl d.body (entry d.ns as) S = z
  intro h
  cases z with
  | nx τ S' => exact fun m' H' σ' e s' rel => h m' H' .non e s' (by simp only [Rep])
  | rt dd S' => exact h
  | bk τ S' => exact h.elim
  | ct τ S' => exact h.elim
  | ex c pl τ S' => exact fun m' H' σ' cls dd e s' rel x => h m' H' cls dd e s' x
  | bad => exact h.elim
theorem fns_ok {G : GC} {base : Heap} (F : Facts G base) : ∀ (k : Nat) (l : List Addr) (A : Around), Room k A → FnAt (G.up l) G.P G.w base A (evF (G.T.fns.map (·.2)) k) := by
  intro k
  induction k with
  | zero => intro l A hr f x d a hf ha outer s H us vs as m S Q E e0 r rl sim h; exact h.elim
  | succ k ih =>
    intro l A hr f x d a hf ha outer s H us vs as m S Q E e0 r rl sim h
    obtain ⟨a', fd, ps, N, sc, params, body, F1, mg, fs, hp, hn, hb, hc⟩ := F.fns f x d hf
    have ok := fn_step F ih l F1 fs hp hn hc
    rw [show (G.up l).mg x = G.mg x from rfl, mg] at ha
    cases ha
    have hf2 : (G.T.fns.map (·.2))[f]? = some d := by
      rw [List.getElem?_map, show G.T.fns[f]? = some (x, d) from hf]; rfl
    have h' : PostE (G.up l) (fun c dd _ H' => E c dd H') m [] H (if as.length = d.np then endB (evB (evF (G.T.fns.map (·.2)) k) d.body (entry d.ns as) S) else .bad) Q := by
      have e : evF (G.T.fns.map (·.2)) (k + 1) f as S = if as.length = d.np then endB (evB (evF (G.T.fns.map (·.2)) k) d.body (entry d.ns as) S) else .bad := by
        simp only [evF, hf2]
      rw [e] at h
      exact h
    by_cases hl : as.length = d.np
    · rw [if_pos hl] at h'
      have KX : G.K.In s.heap := e0.mod.kin.keeps fun b o e => (e0.bs b o e).1
      have hlen : us.length = ps.length := by rw [← r.length, rl.length, hl, hp]
      have bt : BindsTo s fd ⟨us, []⟩ (ps.zip us) := by
        have q := hb s us KX (by simpa using hlen)
        simpa using q
      exact ok.run A outer s H ⟨us, []⟩ us vs Q E hr e0 bt r ⟨as, m, S, hl, rl, sim, h'⟩
    · rw [if_neg hl] at h'; exact h'.elim
end Ev
/-! Ev, part K: the head's facts, the law's end. -/
namespace Ev
open PySem L2
/-- a def of the top as it is printed -/
structure Ent where
  x : Str
  st : Stmt
  ps : List Str
  N : List Str
  body : List CS
def Ent.fd (e : Ent) : FD := ⟨e.ps.length, e.N.length, e.body⟩
def Ent.dd (e : Ent) : He.DefD := ⟨(e.x, none), e.x, e.x, defArgs e.st, defBody e.st, defScope e.st, [], []⟩
def tabOf (L : List Ent) (cons : List (Str × D)) (cls blts : List Str) : Tab := ⟨L.map fun e => (e.x, e.fd), cons, cls, blts⟩
def Ent.ok (T : Tab) (e : Ent) : Bool := C8.scC e.N e.ps (defScope e.st) && chkB T e.N (defScope e.st) e.body (defBody e.st)
/-- its parameters are plain -/
def Ent.bnd (e : Ent) : Prop := ∀ (kV doc pm : Value) (an : Option Addr) (cdv ct : Value) (us : List Value), us.length = e.ps.length → bindArgs (PySem.W.fnOf e.x e.x (defArgs e.st) (defBody e.st) (defScope e.st) .none kV doc pm an cdv ct) ⟨us, []⟩ = pure (e.ps.zip us)
/-! ### constants -/
def dvOf : D → Option He.Dv
  | .int i => some (.int i)
  | .str x => if PyData.strOk x && decide (x.length ≤ big) then some (.str x) else none
  | .bl b => some (.bl b)
  | .non => some .non
  | _ => none
def dvsOf : List D → Option (List He.Dv)
  | [] => some []
  | d :: r => match dvOf d, dvsOf r with
    | some v, some vs => some (v :: vs)
    | _, _ => none
theorem dv_rep {G : GC} {K : PySem.W.Frag} {d : D} {v : He.Dv} (h : dvOf d = some v) (m : List Addr) (H : Hp) : Rep G m H d (v.v K) := by
  cases d <;> simp only [dvOf] at h
  case int i => cases h; simp only [Rep, He.Dv.v]
  case bl i => cases h; simp only [Rep, He.Dv.v]
  case non => cases h; simp only [Rep, He.Dv.v]
  case str x =>
    split at h
    · next c =>
      cases h
      rw [Bool.and_eq_true, decide_eq_true_eq] at c
      simp only [Rep, He.Dv.v]
      exact ⟨trivial, c.1, c.2⟩
    · cases h
  all_goals cases h
theorem dvs_rep {G : GC} {K : PySem.W.Frag} (m : List Addr) (H : Hp) : ∀ {ds : List D} {vs : List He.Dv}, dvsOf ds = some vs → RepL G m H ds (vs.map (He.Dv.v K))
  | [], vs, h => by simp only [dvsOf, Option.some.injEq] at h; subst h; exact .nil
  | d :: r, vs, h => by
    simp only [dvsOf] at h
    split at h
    · next v ws e1 e2 => cases h; exact .cons (dv_rep e1 m H) (dvs_rep m H e2)
    · cases h
def conB (K : PySem.W.Frag) (q : Str × D) : Bool := match q.2 with
  | .int i => (He.Fa.int q.1 i).ok K
  | .tup ds => (He.Fa.glo q.1).ok K && decide (ds.length ≤ big) && (match dvsOf ds with
    | some vs => He.tupB K q.1 vs
    | none => false)
  | _ => false
/-- what the head is asked besides the defs -/
def extB (T : Tab) (K : PySem.W.Frag) : Bool := (T.fns.all fun f => (He.Fa.glo f.1).ok K) && (T.blts.all fun x => (He.Fa.free x).ok K) && T.cons.all (conB K)
def obsE (n : Nat) (T : Tab) (fn : List He.DefD) (g : Addr → Option Obj) : He.AlD := ((He.obsDG n [] fn g).1 && extB T (He.frG g (He.asD g n)), (He.obsDG n [] fn g).2)
def SaysE (T : Tab) (fn : List He.DefD) (K : PySem.W.Frag) : Prop := He.SaysD [] fn K ∧ extB T K = true
def hookE (n : Nat) (T : Tab) (fn : List He.DefD) : PySem.W.Hook where
  α := He.AlD
  obs := fun s => obsE n T fn s.heap.get?
  val := fun _ => He.valD fn
  says := fun _ h => ∃ K : PySem.W.Frag, K.In h ∧ SaysE T fn K
  of := fun _ s e => by
    have e1 : ((He.obsDG n [] fn s.heap.get?).1 && extB T (He.frG s.heap.get? (He.asD s.heap.get? n))) = true := congrArg (fun z : He.AlD => z.1) e
    have e2 : (He.obsDG n [] fn s.heap.get?).2 = fn.map He.DefD.val := congrArg (fun z : He.AlD => z.2) e
    rw [Bool.and_eq_true] at e1
    exact ⟨_, He.frG_in, Prod.ext e1.1 e2, e1.2⟩
  keeps := fun _ _ _ ⟨K, hK, c⟩ k => ⟨K, PySem.W.Frag.In.keeps hK k, c⟩
theorem obsE_eq {n : Nat} {T : Tab} {fn : List He.DefD} {g : Addr → Option Obj} {s : Shared} (h : ∀ a, g a = s.heap.get? a) : obsE n T fn g = (hookE n T fn).obs s := by
  have e : g = s.heap.get? := funext h
  rw [e] <;> rfl
section
variable {L : List Ent} {cons : List (Str × D)} {cls blts : List Str}
theorem lookup_mem {α : Type} {x : Str} {v : α} : ∀ {l : List (Str × α)}, l.lookup x = some v → (x, v) ∈ l
  | [], h => by simp at h
  | (k, w) :: r, h => by
    rw [List.lookup_cons] at h
    cases e : x == k with
    | true => rw [e] at h; simp at h; rw [beq_iff_eq] at e; subst e; subst h; exact List.mem_cons_self
    | false => rw [e] at h; exact List.mem_cons_of_mem _ (lookup_mem h)
theorem facts_of {P : Program} {w : World} {K : PySem.W.Frag} {h base : Heap} {mg : Str → Option Value} (X : K.In h) (Gn : h.Ns mainGlobals mg) (c : SaysE (tabOf L cons cls blts) (L.map Ent.dd) K)
    (ok : L.all (Ent.ok (tabOf L cons cls blts)) = true) (bnd : ∀ e ∈ L, e.bnd) : Facts ⟨K, mg, tabOf L cons cls blts, P, w, []⟩ base := by
  obtain ⟨c1, c2⟩ := c
  simp only [extB, Bool.and_eq_true] at c2
  obtain ⟨⟨k1, k2⟩, k3⟩ := c2
  refine ⟨fun x d hx => ?_, fun x hx => He.free_ok X Gn (List.all_eq_true.mp k2 x hx), fun f x d hf => ?_⟩
  · have q := List.all_eq_true.mp k3 _ (lookup_mem hx)
    unfold conB at q
    split at q
    · next i e =>
      obtain ⟨t, ht⟩ := He.int_ok X Gn q
      replace e : d = .int i := e
      subst e
      exact ⟨_, .int i, ht, ⟨t, rfl⟩, fun m H => by simp only [Rep]⟩
    · next ds e =>
      replace e : d = .tup ds := e
      subst e
      simp only [Bool.and_eq_true, decide_eq_true_eq] at q
      obtain ⟨⟨q1, q2⟩, q3⟩ := q
      split at q3
      · next vs ev =>
        refine ⟨_, .ref (He.ga K x), He.glo_ok X Gn q1, rfl, fun m H => ?_⟩
        have r := dvs_rep (G := ⟨K, mg, tabOf L cons cls blts, P, w, []⟩) (K := K) m H ev
        simp only [Rep]
        exact ⟨He.ga K x, _, rfl, by rw [r.length]; exact q2, r, .inr fun H' => He.tupB_ok q3 H'⟩
      · cases q3
    · cases q
  · have hf' : (L.map fun e => (e.x, e.fd))[f]? = some (x, d) := hf
    rw [List.getElem?_map] at hf'
    cases he : L[f]? with
    | none => rw [he] at hf'; cases hf'
    | some e =>
      rw [he] at hf'
      simp only [Option.map_some, Option.some.injEq, Prod.mk.injEq] at hf'
      obtain ⟨rfl, rfl⟩ := hf'
      have hm := List.mem_of_getElem? he
      have o := List.all_eq_true.mp ok e hm
      unfold Ent.ok at o
      rw [Bool.and_eq_true] at o
      obtain ⟨fd, F⟩ := c1.def_ f (d := e.dd) (by rw [List.getElem?_map, he]; rfl)
      have F' : FunD K e.x e.x (defArgs e.st) (defBody e.st) (defScope e.st) [] [] (He.ga K e.x) fd := F
      have g := He.glo_ok X Gn (List.all_eq_true.mp k1 (e.x, e.fd) (List.mem_map.mpr ⟨e, hm, rfl⟩))
      exact ⟨He.ga K e.x, fd, e.ps, e.N, defScope e.st, defArgs e.st, defBody e.st, F', g, C8.fnScope_by o.1, rfl, rfl, F'.bindsN fun kV doc pm an cdv ct us hl => bnd e hm kV doc pm an cdv ct us hl, o.2⟩
/-- what an exception may be, in any world -/
def CXa (P : Program) : CXT := fun outer H s E e s' => ∃ w, L2.CX P w outer H s E e s'
theorem fn_cx {P : Program} {w : World} {K : PySem.W.Frag} {mg : Str → Option Value} {base : Heap} {k : Nat} {f : Addr} {fd : FuncData} {ps : List Str} {sp : Sp} (F : FnOk P w K mg base (L2.CX P w) k f fd ps sp) : FnOk P w K mg base (CXa P) k f fd ps sp :=
  ⟨F.len, fun A outer s H args us vs Q E hr e0 hb r hs => codeAny_mono (F.run A outer s H args us vs Q E hr e0 hb r hs) fun r s' h => by
    cases r with
    | ok f => cases f <;> exact h
    | error e => exact ⟨w, h⟩⟩
/-- the script as a datum -/
def script (ns : List Int) : D := .scr (ns.map D.int)
theorem rep_script {G : GC} {H : Hp} {a : Addr} {ns : List Int} (hav : G.av = []) (hl : ns.length ≤ big) (h : SqL G.K H a (ns.map V.int)) : Rep G [] H (script ns) (.ref a) := by
  unfold script
  simp only [Rep]
  refine ⟨a, ns.map V.int, rfl, by rw [List.length_map]; exact hl, repL_ofInts ns, ?_⟩
  rcases h with h | h
  · exact .inl ⟨h, by simp, by rw [hav]; simp⟩
  · exact .inr fun H' => .inr h
theorem sim_none {G : GC} {H : Hp} (hav : G.av = []) : Sim G [] H [] := ⟨rfl, List.nodup_nil, fun a h => by rw [hav] at h; simp at h, fun n a o h => by simp at h⟩
/-- the law's def as walk_ofE wants it -/
theorem law_end {P : Program} {w : World} {K : PySem.W.Frag} {h : Heap} {mg : Str → Option Value} {x y : Str} {fa : Addr} (X : K.In h) (Gn : h.Ns mainGlobals mg) (c : SaysE (tabOf L cons cls blts) (L.map Ent.dd) K)
    (ok : L.all (Ent.ok (tabOf L cons cls blts)) = true) (bnd : ∀ e ∈ L, e.bnd) (i k : Nat) (e : Ent) (he : L[i]? = some e) (hx : e.x = x) (hp : e.ps = [y]) (hmg : mg x = some (.ref fa)) (n : Nat) (hn : n ≤ big)
    (law : ∀ ns : List Int, ns.length ≤ n → ∃ S, evF (L.map Ent.fd) (k + 1) i [script ns] [] = .ok (.bl true) S) :
    ∃ (fd : FuncData) (sp : Sp), (∀ (s : Shared) (u : Value), BindsTo s fd ⟨[u], []⟩ [(y, u)]) ∧
      (∀ (H : Hp) (a : Addr) (ns : List Int), ns.length ≤ n → Only H → SqL K H a (ns.map V.int) → sp [.ref a] H (fun v _ => v = .bl true) fun _ _ _ => False) ∧
      ∀ base : Heap, K.In base → base.Ns mainGlobals mg → FnOk P w K mg base (CXa P) (k + 1) fa fd [y] sp := by
  subst hx
  have em : (L.map Ent.fd) = ((tabOf L cons cls blts).fns.map (·.2)) := by simp [tabOf, Function.comp_def]
  have hm := List.mem_of_getElem? he
  obtain ⟨fd, F⟩ := c.1.def_ i (d := e.dd) (by rw [List.getElem?_map, he]; rfl)
  have F' : FunD K e.x e.x (defArgs e.st) (defBody e.st) (defScope e.st) [] [] (He.ga K e.x) fd := F
  have hfd : (tabOf L cons cls blts).fns[i]? = some (e.x, e.fd) := by simp [tabOf, he]
  refine ⟨fd, spF ⟨K, mg, tabOf L cons cls blts, P, w, []⟩ (evF (L.map Ent.fd) k) e.fd, fun s u => ?_, fun H a ns hl _ hS => ?_, fun base _ _ => ?_⟩
  · have q := FunD.bindsA (ps := e.ps) F' (fun kV doc pm an cdv ct us hl => bnd e hm kV doc pm an cdv ct us hl) s [u] (by rw [hp]; rfl)
    rw [hp] at q
    exact q
  · obtain ⟨S, hS2⟩ := law ns hl
    have hf2 : (L.map Ent.fd)[i]? = some e.fd := by rw [List.getElem?_map, he]; rfl
    have hnp : e.fd.np = 1 := by show e.ps.length = 1; rw [hp]; rfl
    simp only [evF, hf2, List.length_singleton, hnp, if_true] at hS2
    refine ⟨[script ns], [], [], hnp.symm, .cons (rep_script rfl (Nat.le_trans hl hn) hS) .nil, sim_none rfl, ?_⟩
    rw [hS2]
    exact fun m' H' v _ _ r => by simpa only [Rep] using r
  · have F := facts_of (P := P) (w := w) (base := base) X Gn c ok bnd
    have o := List.all_eq_true.mp ok e hm
    unfold Ent.ok at o
    rw [Bool.and_eq_true] at o
    have e1 : He.ga K e.x = fa := by
      have k1 := c.2
      simp only [extB, Bool.and_eq_true] at k1
      have g := He.glo_ok X Gn (List.all_eq_true.mp k1.1.1 (e.x, e.fd) (List.mem_map.mpr ⟨e, hm, rfl⟩))
      have := g.symm.trans hmg
      cases this; rfl
    have q := fn_step F (fun l A hr => fns_ok F k l A hr) [] (d := e.fd) F' (C8.fnScope_by o.1) rfl rfl o.2
    rw [hp, e1, ← em] at q
    exact fn_cx q
end
end Ev
/-! ### the text of the law: printed by gen.py -/
namespace Lw
open PySem L2 Ev
def top (i : Nat) : Stmt := PySem.Challenge.pw_barredhalves_k04_whole_worst_by_all_rows.main.body.getD i (.Pass ⟨0, 0, 0, 0⟩)
def e0 : Ent := ⟨"is_from", top 6, ["value", "low", "high"], ["value", "low", "high"],
    [.ret (.and [.isi (.var 0) .int, .not (.isi (.var 0) .bool), .chain .le .le (.var 1) (.var 0) (.var 2)])]⟩
def e1 : Ent := ⟨"is_good_rule", top 7, ["value"], ["value", "places", "place"],
    [.ifs (.or [.not (.isi (.var 0) .tup), .cmp .ne (.bi .len [.var 0]) (.int 3), .not (.call 0 [.idx (.var 0) (.int 0), .int 1, .int 9]), .not (.isi (.idx (.var 0) (.int 1)) .bool)])
      ([.ret (.bl false)])
      ([]),
    .set 1 (.idx (.var 0) (.int 2)),
    .ifs (.or [.not (.isi (.var 1) .tup), .not (.chain .le .le (.int 1) (.bi .len [.var 1]) (.int 4))])
      ([.ret (.bl false)])
      ([]),
    .ret (.and [.bi .all [.comp false [("place", 2)] (.name 2) (.val (.var 1)) none (.call 0 [.var 2, .neg (.int 3), .int 3])], .cmp .eq (.lenset (.var 1)) (.bi .len [.var 1])])]⟩
def e2 : Ent := ⟨"middle_of", top 8, ["rule", "low", "high"], ["rule", "low", "high"],
    [.ret (.bin .add (.var 1) (.bin .fdiv (.bin .add (.bin .sub (.var 2) (.var 1)) (.bi .int [.idx (.var 0) (.int 1)])) (.int 2)))]⟩
def e3 : Ent := ⟨"row_with", top 9, ["barred", "edition"], ["barred", "edition", "below", "above"],
    [.set 2 (.var 1),
    .wh (.cmp .mem (.bin .sub (.var 2) (.int 1)) (.var 0))
      ([.set 2 (.bin .sub (.var 2) (.int 1))]),
    .set 3 (.var 1),
    .wh (.cmp .mem (.bin .add (.var 3) (.int 1)) (.var 0))
      ([.set 3 (.bin .add (.var 3) (.int 1))]),
    .ret (.bin .add (.bin .sub (.var 3) (.var 2)) (.int 1))]⟩
def e4 : Ent := ⟨"next_of", top 10, ["rule", "low", "high", "barred"], ["rule", "low", "high", "barred", "middle", "place", "edition"],
    [.ifs (.cmp .le (.bin .sub (.var 2) (.var 1)) (.idx (.var 0) (.int 0)))
      ([.ret (.non)])
      ([]),
    .set 4 (.call 2 [.var 0, .var 1, .var 2]),
    .fors (.name 5) (.val (.idx (.var 0) (.int 2)))
      ([.set 6 (.bin .add (.var 4) (.var 5)),
      .ifs (.and [.chain .lt .lt (.var 1) (.var 6) (.var 2), .cmp .nmem (.var 6) (.var 3)])
        ([.ret (.var 6)])
        ([])]),
    .ret (.non)]⟩
def e5 : Ent := ⟨"need_length", top 11, ["value"], ["value"],
    [.ifs (.not (.call 0 [.var 0, .int 1, .con "MOST" (.int 1000000000000000000000000000000)]))
      ([.never])
      ([])]⟩
def e6 : Ent := ⟨"need_run", top 12, ["value"], ["value"],
    [.ifs (.not (.call 0 [.var 0, .int 0, .int 2]))
      ([.never])
      ([])]⟩
def e7 : Ent := ⟨"need_rule", top 13, ["value"], ["value"],
    [.ifs (.not (.call 1 [.var 0]))
      ([.never])
      ([])]⟩
def e8 : Ent := ⟨"ends_behind", top 15, ["rule", "run", "long", "barred"], ["rule", "run", "long", "barred", "found", "many", "here", "edition", "above", "other", "below"],
    [.par [4, 5, 6] [.lst false [], .int 0, .var 3],
    .set 7 (.call 4 [.var 0, .int 0, .var 2, .var 6]),
    .wh (.cmp .notN (.var 7) (.non))
      ([.set 8 (.bi .tuple [.comp false [("other", 9)] (.name 9) (.val (.var 6)) (some (.cmp .gt (.var 9) (.var 7))) (.bin .sub (.var 9) (.var 7))]),
      .set 10 (.bi .tuple [.comp false [("other", 9)] (.name 9) (.val (.var 6)) (some (.cmp .lt (.var 9) (.var 7))) (.var 9)]),
      .set 4 (.bin .add (.var 4) (.lst false [.tup [.var 5, .bin .sub (.var 2) (.var 7), .var 8], .tup [.var 5, .var 7, .var 10]])),
      .ifs (.cmp .gt (.call 3 [.var 6, .var 7]) (.var 1))
        ([.ret (.tup [.var 4, .non])])
        ([]),
      .par [5, 6] [.bin .add (.var 5) (.int 1), .bi .tuple [.bi .sorted [.comp false [("other", 9)] (.name 9) (.val (.bin .add (.var 6) (.tup [.var 7]))) none (.bi .int [.var 9])]]],
      .set 7 (.call 4 [.var 0, .int 0, .var 2, .var 6])]),
    .ret (.tup [.var 4, .var 5])]⟩
def e9 : Ent := ⟨"tries_of", top 16, ["rule", "run", "long", "barred", "known"], ["rule", "run", "long", "barred", "known", "ends", "stuck", "most", "many", "length", "inside"],
    [.ifs (.cmp .nmem (.tup [.var 2, .var 3]) (.var 4))
      ([.tgt (.tup [.name 5, .name 6]) (.call 8 [.var 0, .var 1, .var 2, .var 3]),
      .set 7 (.ite (.cmp .isN (.var 6) (.non)) (.int 0) (.var 6)),
      .fors (.tup [.name 8, .name 9, .name 10]) (.val (.var 5))
        ([.set 7 (.bi .max2 [.var 7, .bin .add (.bin .add (.var 8) (.int 1)) (.call 9 [.var 0, .var 1, .var 9, .var 10, .var 4])])]),
      .setI (.var 4) (.tup [.var 2, .var 3]) (.var 7)])
      ([]),
    .ret (.idx (.var 4) (.tup [.var 2, .var 3]))]⟩
def e10 : Ent := ⟨"open_of", top 17, ["rule", "run", "long", "barred", "known"], ["rule", "run", "long", "barred", "known", "ends", "stuck", "most", "many", "length", "inside"],
    [.ifs (.cmp .nmem (.tup [.var 2, .var 3]) (.var 4))
      ([.tgt (.tup [.name 5, .name 6]) (.call 8 [.var 0, .var 1, .var 2, .var 3]),
      .set 7 (.ite (.cmp .isN (.var 6) (.non)) (.int 1) (.var 2)),
      .fors (.tup [.name 8, .name 9, .name 10]) (.val (.var 5))
        ([.set 7 (.bi .max2 [.var 7, .call 10 [.var 0, .var 1, .var 9, .var 10, .var 4]])]),
      .setI (.var 4) (.tup [.var 2, .var 3]) (.var 7)])
      ([]),
    .ret (.idx (.var 4) (.tup [.var 2, .var 3]))]⟩
def e11 : Ent := ⟨"bars_allowed", top 18, ["rule", "run"], ["rule", "run", "many"],
    [.set 2 (.int 0),
    .wh (.and [.cmp .lt (.var 2) (.bi .len [.idx (.var 0) (.int 2)]), .cmp .le (.call 3 [.sl (.idx (.var 0) (.int 2)) none (some (.var 2)), .idx (.idx (.var 0) (.int 2)) (.var 2)]) (.var 1)])
      ([.set 2 (.bin .add (.var 2) (.int 1))]),
    .ret (.var 2)]⟩
def e12 : Ent := ⟨"log_from", top 20, ["rule", "run", "low", "high", "barred", "known"], ["rule", "run", "low", "high", "barred", "known", "here", "edition", "due", "log", "above", "other", "below", "told"],
    [.set 6 (.bi .tuple [.comp false [("edition", 7)] (.name 7) (.val (.var 4)) (some (.chain .lt .lt (.var 2) (.var 7) (.var 3))) (.bin .sub (.var 7) (.var 2))]),
    .par [8, 9] [.call 9 [.var 0, .var 1, .bin .sub (.var 3) (.var 2), .var 6, .var 5], .tup []],
    .set 7 (.call 4 [.var 0, .int 0, .bin .sub (.var 3) (.var 2), .var 6]),
    .wh (.cmp .notN (.var 7) (.non))
      ([.set 10 (.bi .tuple [.comp false [("other", 11)] (.name 11) (.val (.var 6)) (some (.cmp .gt (.var 11) (.var 7))) (.bin .sub (.var 11) (.var 7))]),
      .set 12 (.bi .tuple [.comp false [("other", 11)] (.name 11) (.val (.var 6)) (some (.cmp .lt (.var 11) (.var 7))) (.var 11)]),
      .set 13 (.bi .tuple [.comp false [("other", 11)] (.name 11) (.val (.var 6)) none (.bin .add (.var 2) (.var 11))]),
      .ifs (.cmp .eq (.bin .add (.bin .add (.bi .len [.var 9]) (.int 1)) (.call 9 [.var 0, .var 1, .bin .sub (.bin .sub (.var 3) (.var 2)) (.var 7), .var 10, .var 5])) (.var 8))
        ([.ret (.bin .add (.bin .add (.var 9) (.tup [.tup [.bin .add (.var 2) (.var 7), .str "good"]])) (.call 12 [.var 0, .var 1, .bin .add (.var 2) (.var 7), .var 3, .var 13, .var 5]))])
        ([]),
      .ifs (.cmp .eq (.bin .add (.bin .add (.bi .len [.var 9]) (.int 1)) (.call 9 [.var 0, .var 1, .var 7, .var 12, .var 5])) (.var 8))
        ([.ret (.bin .add (.bin .add (.var 9) (.tup [.tup [.bin .add (.var 2) (.var 7), .str "bad"]])) (.call 12 [.var 0, .var 1, .var 2, .bin .add (.var 2) (.var 7), .var 13, .var 5]))])
        ([]),
      .set 9 (.bin .add (.var 9) (.tup [.tup [.bin .add (.var 2) (.var 7), .str "barred"]])),
      .set 6 (.bi .tuple [.bi .sorted [.comp false [("other", 11)] (.name 11) (.val (.bin .add (.var 6) (.tup [.var 7]))) none (.bi .int [.var 11])]]),
      .set 7 (.call 4 [.var 0, .int 0, .bin .sub (.var 3) (.var 2), .var 6])]),
    .ret (.var 9)]⟩
def e13 : Ent := ⟨"worst", top 21, ["rule", "n", "run"], ["rule", "n", "run"],
    [.ex (.call 7 [.var 0]),
    .ex (.call 5 [.var 1]),
    .ex (.call 6 [.var 2]),
    .ret (.call 9 [.var 0, .var 2, .var 1, .tup [], .dict0])]⟩
def e14 : Ent := ⟨"worst_log", top 22, ["rule", "n", "run"], ["rule", "n", "run"],
    [.ex (.call 7 [.var 0]),
    .ex (.call 5 [.var 1]),
    .ex (.call 6 [.var 2]),
    .ret (.call 12 [.var 0, .var 2, .int 0, .var 1, .tup [], .dict0])]⟩
def e15 : Ent := ⟨"can_always", top 25, ["rule", "run"], ["rule", "run"],
    [.ret (.cmp .eq (.call 11 [.var 0, .var 1]) (.bi .len [.idx (.var 0) (.int 2)]))]⟩
def e16 : Ent := ⟨"longest_open", top 26, ["rule", "n", "run"], ["rule", "n", "run"],
    [.ex (.call 7 [.var 0]),
    .ex (.call 5 [.var 1]),
    .ex (.call 6 [.var 2]),
    .ret (.ite (.and [.call 15 [.var 0, .var 2], .cmp .gt (.var 1) (.con "FAR" (.int 200))]) (.var 1) (.call 10 [.var 0, .var 2, .var 1, .tup [], .dict0]))]⟩
def e17 : Ent := ⟨"_law_pail", top 28, ["script", "k"], ["script", "k", "cell"],
    [.set 2 (.ite (.cmp .lt (.var 1) (.bi .len [.var 0])) (.bi .abs [.bi .int [.idx (.var 0) (.var 1)]]) (.bin .add (.bin .mul (.int 89) (.var 1)) (.int 53))),
    .ret (.lst true [.ite (.cmp .ge (.var 2) (.bin .pow (.int 10) (.int 18))) (.var 2) (.int 0), .bin .mod (.bi .int [.bin .add (.bin .add (.bin .mod (.bi .int [.var 2]) (.int 2147478259)) (.bin .mul (.int 70061) (.var 1))) (.int 401)]) (.int 2147478259)])]⟩
def e18 : Ent := ⟨"_law_cup", top 29, ["pail", "wide"], ["pail", "wide", "found", "stirred"],
    [.ifs (.cmp .gt (.idx (.var 0) (.int 0)) (.int 0))
      ([.set 2 (.bin .mod (.bi .int [.idx (.var 0) (.int 0)]) (.var 1)),
      .setI (.var 0) (.int 0) (.bin .fdiv (.bi .int [.idx (.var 0) (.int 0)]) (.var 1)),
      .ret (.var 2)])
      ([]),
    .setI (.var 0) (.int 1) (.bin .mod (.bi .int [.bin .add (.bin .mul (.idx (.var 0) (.int 1)) (.int 51203)) (.int 3407)]) (.int 2147478259)),
    .set 3 (.bin .mod (.bin .mul (.bi .int [.idx (.var 0) (.int 1)]) (.bin .add (.bin .fdiv (.bi .int [.idx (.var 0) (.int 1)]) (.int 53)) (.int 37))) (.int 2147478253)),
    .ret (.bin .mod (.bi .int [.bin .fdiv (.bi .int [.var 3]) (.int 25)]) (.var 1))]⟩
def e19 : Ent := ⟨"_law_any", top 30, ["pail", "things"], ["pail", "things"],
    [.ret (.idx (.var 1) (.call 18 [.var 0, .bi .len [.var 1]]))]⟩
def e20 : Ent := ⟨"_law_a_rule", top 31, ["pail"], ["pail", "found", "turn", "here"],
    [.set 1 (.lst true [.call 19 [.var 0, .lst false [.int 0, .int 0, .int 0, .int 1, .neg (.int 1), .bin .sub (.call 18 [.var 0, .int 7]) (.int 3)]]]),
    .fors (.name 2) (.rng1 (.call 18 [.var 0, .int 4]))
      ([.set 3 (.bin .sub (.call 18 [.var 0, .int 7]) (.int 3)),
      .ifs (.cmp .nmem (.var 3) (.var 1))
        ([.ex (.meth .append (.var 1) [.var 3])])
        ([])]),
    .ret (.tup [.call 19 [.var 0, .lst false [.int 1, .int 1, .int 1, .int 1, .int 2, .int 3]], .cmp .eq (.call 18 [.var 0, .int 2]) (.int 1), .bi .tuple [.var 1]])]⟩
def e21 : Ent := ⟨"_law_row", top 32, ["barred_so", "edition"], ["barred_so", "edition", "many", "below", "above"],
    [.par [2, 3, 4] [.int 1, .bin .sub (.var 1) (.int 1), .bin .add (.var 1) (.int 1)],
    .wh (.cmp .mem (.var 3) (.var 0))
      ([.par [2, 3] [.bin .add (.var 2) (.int 1), .bin .sub (.var 3) (.int 1)]]),
    .wh (.cmp .mem (.var 4) (.var 0))
      ([.par [2, 4] [.bin .add (.var 2) (.int 1), .bin .add (.var 4) (.int 1)]]),
    .ret (.var 2)]⟩
def e22 : Ent := ⟨"_law_next", top 33, ["home", "low", "high", "barred_so"], ["home", "low", "high", "barred_so", "half", "rest", "middle", "some", "here", "edition"],
    [.ifs (.cmp .le (.bin .sub (.var 2) (.var 1)) (.idx (.var 0) (.int 0)))
      ([.ret (.non)])
      ([]),
    .tgt (.tup [.name 4, .name 5]) (.bi .divmod [.bin .sub (.var 2) (.var 1), .int 2]),
    .set 6 (.bin .add (.bin .add (.var 1) (.var 4)) (.ite (.idx (.var 0) (.int 1)) (.var 5) (.int 0))),
    .set 7 (.comp false [("here", 8)] (.name 8) (.val (.idx (.var 0) (.int 2))) (some (.chain .lt .lt (.int 0) (.bin .sub (.bin .add (.var 6) (.var 8)) (.var 1)) (.bin .sub (.var 2) (.var 1)))) (.bin .add (.var 6) (.var 8))),
    .set 7 (.comp false [("edition", 9)] (.name 9) (.val (.var 7)) (some (.cmp .nmem (.var 9) (.var 3))) (.var 9)),
    .ret (.ite (.cmp .ne (.var 7) (.lst false [])) (.idx (.var 7) (.int 0)) (.non))]⟩
def e23 : Ent := ⟨"_law_led", top 34, ["home", "many", "turn_so", "barred_so"], ["home", "many", "turn_so", "barred_so", "low", "high", "log_so", "edition", "word", "known", "late", "told"],
    [.par [4, 5, 6] [.int 0, .var 1, .tup []],
    .set 7 (.call 22 [.var 0, .var 4, .var 5, .tup []]),
    .wh (.cmp .notN (.var 7) (.non))
      ([.set 8 (.ite (.cmp .mem (.var 7) (.var 3)) (.str "barred") (.ite (.cmp .lt (.var 7) (.var 2)) (.str "good") (.str "bad"))),
      .set 6 (.bin .add (.var 6) (.tup [.tup [.var 7, .var 8]])),
      .set 4 (.ite (.cmp .eq (.var 8) (.str "good")) (.var 7) (.var 4)),
      .set 5 (.ite (.cmp .eq (.var 8) (.str "bad")) (.var 7) (.var 5)),
      .set 9 (.comp false [("late", 10), ("told", 11)] (.tup [.name 10, .name 11]) (.val (.var 6)) (some (.cmp .eq (.var 11) (.str "barred"))) (.var 10)),
      .set 7 (.call 22 [.var 0, .var 4, .var 5, .var 9])]),
    .ret (.tup [.var 6, .tup [.var 4, .var 5]])]⟩
def e24 : Ent := ⟨"_law_lots", top 35, ["many", "runs_so"], ["many", "runs_so", "found", "edition", "longer_so", "lot"],
    [.set 2 (.lst false [.tup []]),
    .fors (.name 3) (.rng2 (.int 1) (.var 0))
      ([.set 4 (.comp false [("lot", 5)] (.name 5) (.val (.var 2)) (some (.and [.cmp .gt (.var 1) (.int 0), .cmp .le (.call 21 [.var 5, .var 3]) (.var 1)])) (.bin .add (.var 5) (.tup [.var 3]))),
      .set 2 (.bin .add (.var 2) (.var 4))]),
    .ret (.var 2)]⟩
def e25 : Ent := ⟨"_law_right", top 36, ["home", "many", "runs_so"], ["home", "many", "runs_so", "logs_so", "wide", "lot", "here", "log_so", "low", "high", "due", "told"],
    [.par [3, 4] [.lst false [], .int 0],
    .fors (.name 5) (.val (.call 24 [.var 1, .var 2]))
      ([.fors (.name 6) (.rng2 (.int 1) (.bin .add (.var 1) (.int 1)))
        ([.tgt (.tup [.name 7, .tup [.name 8, .name 9]]) (.call 23 [.var 0, .var 1, .var 6, .var 5]),
        .par [3, 4] [.bin .add (.var 3) (.lst false [.var 7]), .bi .max2 [.var 4, .bin .sub (.var 9) (.var 8)]]])]),
    .set 10 (.bi .max1 [.comp false [("log_so", 7)] (.name 7) (.val (.var 3)) none (.bi .len [.var 7])]),
    .ifs (.or [.cmp .ne (.call 13 [.var 0, .var 1, .var 2]) (.var 10), .cmp .ne (.call 16 [.var 0, .var 1, .var 2]) (.var 4)])
      ([.ret (.bl false)])
      ([]),
    .set 11 (.call 14 [.var 0, .var 1, .var 2]),
    .ret (.and [.cmp .eq (.bi .len [.var 11]) (.var 10), .cmp .mem (.var 11) (.var 3)])]⟩
def e26 : Ent := ⟨"law", top 37, ["script"], ["script", "k", "pail", "turn", "plain", "right", "out", "home", "many", "runs_so"],
    [.fors (.name 1) (.rng1 (.bi .max2 [.int 4, .bi .min2 [.int 9, .bin .add (.bi .len [.var 0]) (.int 3)]]))
      ([.set 2 (.call 17 [.var 0, .var 1]),
      .fors (.name 3) (.rng1 (.int 4))
        ([.ifs (.not (.call 25 [.call 20 [.var 2], .bin .add (.int 1) (.call 18 [.var 2, .int 8]), .call 18 [.var 2, .int 3]]))
          ([.ret (.bl false)])
          ([])])]),
    .tgt (.tup [.name 4, .name 5, .name 6]) (.tup [.tup [.int 1, .bl false, .tup [.int 0]], .tup [.int 1, .bl false, .tup [.int 0, .int 1, .int 2, .int 3]], .tup [.int 1, .bl false, .tup [.int 0, .int 1, .neg (.int 1)]]]),
    .fors (.tup [.name 7, .name 8, .name 9]) (.val (.lst false [.tup [.var 6, .int 5, .int 2], .tup [.var 5, .int 7, .int 2], .tup [.var 5, .int 8, .int 1], .tup [.var 4, .int 9, .int 0], .tup [.tup [.int 1, .bl true, .tup [.int 3, .neg (.int 3)]], .int 8, .int 1]]))
      ([.ifs (.not (.call 25 [.var 7, .var 8, .var 9]))
        ([.ret (.bl false)])
        ([])]),
    .ret (.and [.cmp .eq (.call 13 [.var 6, .int 5, .int 2]) (.int 4), .cmp .eq (.call 13 [.var 5, .int 8, .int 1]) (.int 5), .cmp .eq (.call 16 [.var 4, .int 8, .int 1]) (.int 8)])]⟩
def L : List Ent := [e0, e1, e2, e3, e4, e5, e6, e7, e8, e9, e10, e11, e12, e13, e14, e15, e16, e17, e18, e19, e20, e21, e22, e23, e24, e25, e26]
def cons : List (Str × D) := [("MOST", .int 1000000000000000000000000000000), ("FAR", .int 200)]
def blts : List Str := ["isinstance", "int", "bool", "tuple", "len", "all", "set", "sorted", "max", "abs", "range", "divmod", "min"]
def tab : Tab := tabOf L cons [] blts
theorem ok0 : e0.ok tab = true := by decide +kernel
theorem ok1 : e1.ok tab = true := by decide +kernel
theorem ok2 : e2.ok tab = true := by decide +kernel
theorem ok3 : e3.ok tab = true := by decide +kernel
theorem ok4 : e4.ok tab = true := by decide +kernel
theorem ok5 : e5.ok tab = true := by decide +kernel
theorem ok6 : e6.ok tab = true := by decide +kernel
theorem ok7 : e7.ok tab = true := by decide +kernel
theorem ok8 : e8.ok tab = true := by decide +kernel
theorem ok9 : e9.ok tab = true := by decide +kernel
theorem ok10 : e10.ok tab = true := by decide +kernel
theorem ok11 : e11.ok tab = true := by decide +kernel
theorem ok12 : e12.ok tab = true := by decide +kernel
theorem ok13 : e13.ok tab = true := by decide +kernel
theorem ok14 : e14.ok tab = true := by decide +kernel
theorem ok15 : e15.ok tab = true := by decide +kernel
theorem ok16 : e16.ok tab = true := by decide +kernel
theorem ok17 : e17.ok tab = true := by decide +kernel
theorem ok18 : e18.ok tab = true := by decide +kernel
theorem ok19 : e19.ok tab = true := by decide +kernel
theorem ok20 : e20.ok tab = true := by decide +kernel
theorem ok21 : e21.ok tab = true := by decide +kernel
theorem ok22 : e22.ok tab = true := by decide +kernel
theorem ok23 : e23.ok tab = true := by decide +kernel
theorem ok24 : e24.ok tab = true := by decide +kernel
theorem ok25 : e25.ok tab = true := by decide +kernel
theorem ok26 : e26.ok tab = true := by decide +kernel
theorem oks : L.all (Ent.ok tab) = true := by
  simp only [L, List.all_cons, List.all_nil, Bool.and_true, Bool.and_eq_true]
  exact ⟨ok0, ok1, ok2, ok3, ok4, ok5, ok6, ok7, ok8, ok9, ok10, ok11, ok12, ok13, ok14, ok15, ok16, ok17, ok18, ok19, ok20, ok21, ok22, ok23, ok24, ok25, ok26⟩
theorem bd0 : e0.bnd := fun _ _ _ _ _ _ us hl => match us, hl with | [_, _, _], _ => rfl
theorem bd1 : e1.bnd := fun _ _ _ _ _ _ us hl => match us, hl with | [_], _ => rfl
theorem bd2 : e2.bnd := fun _ _ _ _ _ _ us hl => match us, hl with | [_, _, _], _ => rfl
theorem bd3 : e3.bnd := fun _ _ _ _ _ _ us hl => match us, hl with | [_, _], _ => rfl
theorem bd4 : e4.bnd := fun _ _ _ _ _ _ us hl => match us, hl with | [_, _, _, _], _ => rfl
theorem bd5 : e5.bnd := fun _ _ _ _ _ _ us hl => match us, hl with | [_], _ => rfl
theorem bd6 : e6.bnd := fun _ _ _ _ _ _ us hl => match us, hl with | [_], _ => rfl
theorem bd7 : e7.bnd := fun _ _ _ _ _ _ us hl => match us, hl with | [_], _ => rfl
theorem bd8 : e8.bnd := fun _ _ _ _ _ _ us hl => match us, hl with | [_, _, _, _], _ => rfl
theorem bd9 : e9.bnd := fun _ _ _ _ _ _ us hl => match us, hl with | [_, _, _, _, _], _ => rfl
theorem bd10 : e10.bnd := fun _ _ _ _ _ _ us hl => match us, hl with | [_, _, _, _, _], _ => rfl
theorem bd11 : e11.bnd := fun _ _ _ _ _ _ us hl => match us, hl with | [_, _], _ => rfl
theorem bd12 : e12.bnd := fun _ _ _ _ _ _ us hl => match us, hl with | [_, _, _, _, _, _], _ => rfl
theorem bd13 : e13.bnd := fun _ _ _ _ _ _ us hl => match us, hl with | [_, _, _], _ => rfl
theorem bd14 : e14.bnd := fun _ _ _ _ _ _ us hl => match us, hl with | [_, _, _], _ => rfl
theorem bd15 : e15.bnd := fun _ _ _ _ _ _ us hl => match us, hl with | [_, _], _ => rfl
theorem bd16 : e16.bnd := fun _ _ _ _ _ _ us hl => match us, hl with | [_, _, _], _ => rfl
theorem bd17 : e17.bnd := fun _ _ _ _ _ _ us hl => match us, hl with | [_, _], _ => rfl
theorem bd18 : e18.bnd := fun _ _ _ _ _ _ us hl => match us, hl with | [_, _], _ => rfl
theorem bd19 : e19.bnd := fun _ _ _ _ _ _ us hl => match us, hl with | [_, _], _ => rfl
theorem bd20 : e20.bnd := fun _ _ _ _ _ _ us hl => match us, hl with | [_], _ => rfl
theorem bd21 : e21.bnd := fun _ _ _ _ _ _ us hl => match us, hl with | [_, _], _ => rfl
theorem bd22 : e22.bnd := fun _ _ _ _ _ _ us hl => match us, hl with | [_, _, _, _], _ => rfl
theorem bd23 : e23.bnd := fun _ _ _ _ _ _ us hl => match us, hl with | [_, _, _, _], _ => rfl
theorem bd24 : e24.bnd := fun _ _ _ _ _ _ us hl => match us, hl with | [_, _], _ => rfl
theorem bd25 : e25.bnd := fun _ _ _ _ _ _ us hl => match us, hl with | [_, _, _], _ => rfl
theorem bd26 : e26.bnd := fun _ _ _ _ _ _ us hl => match us, hl with | [_], _ => rfl
theorem bnd : ∀ e ∈ L, e.bnd := by
  intro e h
  simp only [L, List.mem_cons, List.not_mem_nil, or_false] at h
  rcases h with rfl | rfl | rfl | rfl | rfl | rfl | rfl | rfl | rfl | rfl | rfl | rfl | rfl | rfl | rfl | rfl | rfl | rfl | rfl | rfl | rfl | rfl | rfl | rfl | rfl | rfl | rfl
  · exact bd0
  · exact bd1
  · exact bd2
  · exact bd3
  · exact bd4
  · exact bd5
  · exact bd6
  · exact bd7
  · exact bd8
  · exact bd9
  · exact bd10
  · exact bd11
  · exact bd12
  · exact bd13
  · exact bd14
  · exact bd15
  · exact bd16
  · exact bd17
  · exact bd18
  · exact bd19
  · exact bd20
  · exact bd21
  · exact bd22
  · exact bd23
  · exact bd24
  · exact bd25
  · exact bd26
def fs : List FD := L.map Ent.fd
theorem u0 (n : Nat) (a0 a1 a2 : D) (S : Store) : evF fs (n + 1) 0 [a0, a1, a2] S = endB (evB (evF fs n)
    [.ret (.and [.isi (.var 0) .int, .not (.isi (.var 0) .bool), .chain .le .le (.var 1) (.var 0) (.var 2)])] [some a0, some a1, some a2] S) := rfl
theorem u1 (n : Nat) (a0 : D) (S : Store) : evF fs (n + 1) 1 [a0] S = endB (evB (evF fs n)
    [.ifs (.or [.not (.isi (.var 0) .tup), .cmp .ne (.bi .len [.var 0]) (.int 3), .not (.call 0 [.idx (.var 0) (.int 0), .int 1, .int 9]), .not (.isi (.idx (.var 0) (.int 1)) .bool)])
      ([.ret (.bl false)])
      ([]),
    .set 1 (.idx (.var 0) (.int 2)),
    .ifs (.or [.not (.isi (.var 1) .tup), .not (.chain .le .le (.int 1) (.bi .len [.var 1]) (.int 4))])
      ([.ret (.bl false)])
      ([]),
    .ret (.and [.bi .all [.comp false [("place", 2)] (.name 2) (.val (.var 1)) none (.call 0 [.var 2, .neg (.int 3), .int 3])], .cmp .eq (.lenset (.var 1)) (.bi .len [.var 1])])] [some a0, none, none] S) := rfl
theorem u2 (n : Nat) (a0 a1 a2 : D) (S : Store) : evF fs (n + 1) 2 [a0, a1, a2] S = endB (evB (evF fs n)
    [.ret (.bin .add (.var 1) (.bin .fdiv (.bin .add (.bin .sub (.var 2) (.var 1)) (.bi .int [.idx (.var 0) (.int 1)])) (.int 2)))] [some a0, some a1, some a2] S) := rfl
theorem u3 (n : Nat) (a0 a1 : D) (S : Store) : evF fs (n + 1) 3 [a0, a1] S = endB (evB (evF fs n)
    [.set 2 (.var 1),
    .wh (.cmp .mem (.bin .sub (.var 2) (.int 1)) (.var 0))
      ([.set 2 (.bin .sub (.var 2) (.int 1))]),
    .set 3 (.var 1),
    .wh (.cmp .mem (.bin .add (.var 3) (.int 1)) (.var 0))
      ([.set 3 (.bin .add (.var 3) (.int 1))]),
    .ret (.bin .add (.bin .sub (.var 3) (.var 2)) (.int 1))] [some a0, some a1, none, none] S) := rfl
theorem u4 (n : Nat) (a0 a1 a2 a3 : D) (S : Store) : evF fs (n + 1) 4 [a0, a1, a2, a3] S = endB (evB (evF fs n)
    [.ifs (.cmp .le (.bin .sub (.var 2) (.var 1)) (.idx (.var 0) (.int 0)))
      ([.ret (.non)])
      ([]),
    .set 4 (.call 2 [.var 0, .var 1, .var 2]),
    .fors (.name 5) (.val (.idx (.var 0) (.int 2)))
      ([.set 6 (.bin .add (.var 4) (.var 5)),
      .ifs (.and [.chain .lt .lt (.var 1) (.var 6) (.var 2), .cmp .nmem (.var 6) (.var 3)])
        ([.ret (.var 6)])
        ([])]),
    .ret (.non)] [some a0, some a1, some a2, some a3, none, none, none] S) := rfl
theorem u5 (n : Nat) (a0 : D) (S : Store) : evF fs (n + 1) 5 [a0] S = endB (evB (evF fs n)
    [.ifs (.not (.call 0 [.var 0, .int 1, .con "MOST" (.int 1000000000000000000000000000000)]))
      ([.never])
      ([])] [some a0] S) := rfl
theorem u6 (n : Nat) (a0 : D) (S : Store) : evF fs (n + 1) 6 [a0] S = endB (evB (evF fs n)
    [.ifs (.not (.call 0 [.var 0, .int 0, .int 2]))
      ([.never])
      ([])] [some a0] S) := rfl
theorem u7 (n : Nat) (a0 : D) (S : Store) : evF fs (n + 1) 7 [a0] S = endB (evB (evF fs n)
    [.ifs (.not (.call 1 [.var 0]))
      ([.never])
      ([])] [some a0] S) := rfl
theorem u8 (n : Nat) (a0 a1 a2 a3 : D) (S : Store) : evF fs (n + 1) 8 [a0, a1, a2, a3] S = endB (evB (evF fs n)
    [.par [4, 5, 6] [.lst false [], .int 0, .var 3],
    .set 7 (.call 4 [.var 0, .int 0, .var 2, .var 6]),
    .wh (.cmp .notN (.var 7) (.non))
      ([.set 8 (.bi .tuple [.comp false [("other", 9)] (.name 9) (.val (.var 6)) (some (.cmp .gt (.var 9) (.var 7))) (.bin .sub (.var 9) (.var 7))]),
      .set 10 (.bi .tuple [.comp false [("other", 9)] (.name 9) (.val (.var 6)) (some (.cmp .lt (.var 9) (.var 7))) (.var 9)]),
      .set 4 (.bin .add (.var 4) (.lst false [.tup [.var 5, .bin .sub (.var 2) (.var 7), .var 8], .tup [.var 5, .var 7, .var 10]])),
      .ifs (.cmp .gt (.call 3 [.var 6, .var 7]) (.var 1))
        ([.ret (.tup [.var 4, .non])])
        ([]),
      .par [5, 6] [.bin .add (.var 5) (.int 1), .bi .tuple [.bi .sorted [.comp false [("other", 9)] (.name 9) (.val (.bin .add (.var 6) (.tup [.var 7]))) none (.bi .int [.var 9])]]],
      .set 7 (.call 4 [.var 0, .int 0, .var 2, .var 6])]),
    .ret (.tup [.var 4, .var 5])] [some a0, some a1, some a2, some a3, none, none, none, none, none, none, none] S) := rfl
theorem u9 (n : Nat) (a0 a1 a2 a3 a4 : D) (S : Store) : evF fs (n + 1) 9 [a0, a1, a2, a3, a4] S = endB (evB (evF fs n)
    [.ifs (.cmp .nmem (.tup [.var 2, .var 3]) (.var 4))
      ([.tgt (.tup [.name 5, .name 6]) (.call 8 [.var 0, .var 1, .var 2, .var 3]),
      .set 7 (.ite (.cmp .isN (.var 6) (.non)) (.int 0) (.var 6)),
      .fors (.tup [.name 8, .name 9, .name 10]) (.val (.var 5))
        ([.set 7 (.bi .max2 [.var 7, .bin .add (.bin .add (.var 8) (.int 1)) (.call 9 [.var 0, .var 1, .var 9, .var 10, .var 4])])]),
      .setI (.var 4) (.tup [.var 2, .var 3]) (.var 7)])
      ([]),
    .ret (.idx (.var 4) (.tup [.var 2, .var 3]))] [some a0, some a1, some a2, some a3, some a4, none, none, none, none, none, none] S) := rfl
theorem u10 (n : Nat) (a0 a1 a2 a3 a4 : D) (S : Store) : evF fs (n + 1) 10 [a0, a1, a2, a3, a4] S = endB (evB (evF fs n)
    [.ifs (.cmp .nmem (.tup [.var 2, .var 3]) (.var 4))
      ([.tgt (.tup [.name 5, .name 6]) (.call 8 [.var 0, .var 1, .var 2, .var 3]),
      .set 7 (.ite (.cmp .isN (.var 6) (.non)) (.int 1) (.var 2)),
      .fors (.tup [.name 8, .name 9, .name 10]) (.val (.var 5))
        ([.set 7 (.bi .max2 [.var 7, .call 10 [.var 0, .var 1, .var 9, .var 10, .var 4]])]),
      .setI (.var 4) (.tup [.var 2, .var 3]) (.var 7)])
      ([]),
    .ret (.idx (.var 4) (.tup [.var 2, .var 3]))] [some a0, some a1, some a2, some a3, some a4, none, none, none, none, none, none] S) := rfl
theorem u11 (n : Nat) (a0 a1 : D) (S : Store) : evF fs (n + 1) 11 [a0, a1] S = endB (evB (evF fs n)
    [.set 2 (.int 0),
    .wh (.and [.cmp .lt (.var 2) (.bi .len [.idx (.var 0) (.int 2)]), .cmp .le (.call 3 [.sl (.idx (.var 0) (.int 2)) none (some (.var 2)), .idx (.idx (.var 0) (.int 2)) (.var 2)]) (.var 1)])
      ([.set 2 (.bin .add (.var 2) (.int 1))]),
    .ret (.var 2)] [some a0, some a1, none] S) := rfl
theorem u12 (n : Nat) (a0 a1 a2 a3 a4 a5 : D) (S : Store) : evF fs (n + 1) 12 [a0, a1, a2, a3, a4, a5] S = endB (evB (evF fs n)
    [.set 6 (.bi .tuple [.comp false [("edition", 7)] (.name 7) (.val (.var 4)) (some (.chain .lt .lt (.var 2) (.var 7) (.var 3))) (.bin .sub (.var 7) (.var 2))]),
    .par [8, 9] [.call 9 [.var 0, .var 1, .bin .sub (.var 3) (.var 2), .var 6, .var 5], .tup []],
    .set 7 (.call 4 [.var 0, .int 0, .bin .sub (.var 3) (.var 2), .var 6]),
    .wh (.cmp .notN (.var 7) (.non))
      ([.set 10 (.bi .tuple [.comp false [("other", 11)] (.name 11) (.val (.var 6)) (some (.cmp .gt (.var 11) (.var 7))) (.bin .sub (.var 11) (.var 7))]),
      .set 12 (.bi .tuple [.comp false [("other", 11)] (.name 11) (.val (.var 6)) (some (.cmp .lt (.var 11) (.var 7))) (.var 11)]),
      .set 13 (.bi .tuple [.comp false [("other", 11)] (.name 11) (.val (.var 6)) none (.bin .add (.var 2) (.var 11))]),
      .ifs (.cmp .eq (.bin .add (.bin .add (.bi .len [.var 9]) (.int 1)) (.call 9 [.var 0, .var 1, .bin .sub (.bin .sub (.var 3) (.var 2)) (.var 7), .var 10, .var 5])) (.var 8))
        ([.ret (.bin .add (.bin .add (.var 9) (.tup [.tup [.bin .add (.var 2) (.var 7), .str "good"]])) (.call 12 [.var 0, .var 1, .bin .add (.var 2) (.var 7), .var 3, .var 13, .var 5]))])
        ([]),
      .ifs (.cmp .eq (.bin .add (.bin .add (.bi .len [.var 9]) (.int 1)) (.call 9 [.var 0, .var 1, .var 7, .var 12, .var 5])) (.var 8))
        ([.ret (.bin .add (.bin .add (.var 9) (.tup [.tup [.bin .add (.var 2) (.var 7), .str "bad"]])) (.call 12 [.var 0, .var 1, .var 2, .bin .add (.var 2) (.var 7), .var 13, .var 5]))])
        ([]),
      .set 9 (.bin .add (.var 9) (.tup [.tup [.bin .add (.var 2) (.var 7), .str "barred"]])),
      .set 6 (.bi .tuple [.bi .sorted [.comp false [("other", 11)] (.name 11) (.val (.bin .add (.var 6) (.tup [.var 7]))) none (.bi .int [.var 11])]]),
      .set 7 (.call 4 [.var 0, .int 0, .bin .sub (.var 3) (.var 2), .var 6])]),
    .ret (.var 9)] [some a0, some a1, some a2, some a3, some a4, some a5, none, none, none, none, none, none, none, none] S) := rfl
theorem u13 (n : Nat) (a0 a1 a2 : D) (S : Store) : evF fs (n + 1) 13 [a0, a1, a2] S = endB (evB (evF fs n)
    [.ex (.call 7 [.var 0]),
    .ex (.call 5 [.var 1]),
    .ex (.call 6 [.var 2]),
    .ret (.call 9 [.var 0, .var 2, .var 1, .tup [], .dict0])] [some a0, some a1, some a2] S) := rfl
theorem u14 (n : Nat) (a0 a1 a2 : D) (S : Store) : evF fs (n + 1) 14 [a0, a1, a2] S = endB (evB (evF fs n)
    [.ex (.call 7 [.var 0]),
    .ex (.call 5 [.var 1]),
    .ex (.call 6 [.var 2]),
    .ret (.call 12 [.var 0, .var 2, .int 0, .var 1, .tup [], .dict0])] [some a0, some a1, some a2] S) := rfl
theorem u15 (n : Nat) (a0 a1 : D) (S : Store) : evF fs (n + 1) 15 [a0, a1] S = endB (evB (evF fs n)
    [.ret (.cmp .eq (.call 11 [.var 0, .var 1]) (.bi .len [.idx (.var 0) (.int 2)]))] [some a0, some a1] S) := rfl
theorem u16 (n : Nat) (a0 a1 a2 : D) (S : Store) : evF fs (n + 1) 16 [a0, a1, a2] S = endB (evB (evF fs n)
    [.ex (.call 7 [.var 0]),
    .ex (.call 5 [.var 1]),
    .ex (.call 6 [.var 2]),
    .ret (.ite (.and [.call 15 [.var 0, .var 2], .cmp .gt (.var 1) (.con "FAR" (.int 200))]) (.var 1) (.call 10 [.var 0, .var 2, .var 1, .tup [], .dict0]))] [some a0, some a1, some a2] S) := rfl
theorem u17 (n : Nat) (a0 a1 : D) (S : Store) : evF fs (n + 1) 17 [a0, a1] S = endB (evB (evF fs n)
    [.set 2 (.ite (.cmp .lt (.var 1) (.bi .len [.var 0])) (.bi .abs [.bi .int [.idx (.var 0) (.var 1)]]) (.bin .add (.bin .mul (.int 89) (.var 1)) (.int 53))),
    .ret (.lst true [.ite (.cmp .ge (.var 2) (.bin .pow (.int 10) (.int 18))) (.var 2) (.int 0), .bin .mod (.bi .int [.bin .add (.bin .add (.bin .mod (.bi .int [.var 2]) (.int 2147478259)) (.bin .mul (.int 70061) (.var 1))) (.int 401)]) (.int 2147478259)])] [some a0, some a1, none] S) := rfl
theorem u18 (n : Nat) (a0 a1 : D) (S : Store) : evF fs (n + 1) 18 [a0, a1] S = endB (evB (evF fs n)
    [.ifs (.cmp .gt (.idx (.var 0) (.int 0)) (.int 0))
      ([.set 2 (.bin .mod (.bi .int [.idx (.var 0) (.int 0)]) (.var 1)),
      .setI (.var 0) (.int 0) (.bin .fdiv (.bi .int [.idx (.var 0) (.int 0)]) (.var 1)),
      .ret (.var 2)])
      ([]),
    .setI (.var 0) (.int 1) (.bin .mod (.bi .int [.bin .add (.bin .mul (.idx (.var 0) (.int 1)) (.int 51203)) (.int 3407)]) (.int 2147478259)),
    .set 3 (.bin .mod (.bin .mul (.bi .int [.idx (.var 0) (.int 1)]) (.bin .add (.bin .fdiv (.bi .int [.idx (.var 0) (.int 1)]) (.int 53)) (.int 37))) (.int 2147478253)),
    .ret (.bin .mod (.bi .int [.bin .fdiv (.bi .int [.var 3]) (.int 25)]) (.var 1))] [some a0, some a1, none, none] S) := rfl
theorem u19 (n : Nat) (a0 a1 : D) (S : Store) : evF fs (n + 1) 19 [a0, a1] S = endB (evB (evF fs n)
    [.ret (.idx (.var 1) (.call 18 [.var 0, .bi .len [.var 1]]))] [some a0, some a1] S) := rfl
theorem u20 (n : Nat) (a0 : D) (S : Store) : evF fs (n + 1) 20 [a0] S = endB (evB (evF fs n)
    [.set 1 (.lst true [.call 19 [.var 0, .lst false [.int 0, .int 0, .int 0, .int 1, .neg (.int 1), .bin .sub (.call 18 [.var 0, .int 7]) (.int 3)]]]),
    .fors (.name 2) (.rng1 (.call 18 [.var 0, .int 4]))
      ([.set 3 (.bin .sub (.call 18 [.var 0, .int 7]) (.int 3)),
      .ifs (.cmp .nmem (.var 3) (.var 1))
        ([.ex (.meth .append (.var 1) [.var 3])])
        ([])]),
    .ret (.tup [.call 19 [.var 0, .lst false [.int 1, .int 1, .int 1, .int 1, .int 2, .int 3]], .cmp .eq (.call 18 [.var 0, .int 2]) (.int 1), .bi .tuple [.var 1]])] [some a0, none, none, none] S) := rfl
theorem u21 (n : Nat) (a0 a1 : D) (S : Store) : evF fs (n + 1) 21 [a0, a1] S = endB (evB (evF fs n)
    [.par [2, 3, 4] [.int 1, .bin .sub (.var 1) (.int 1), .bin .add (.var 1) (.int 1)],
    .wh (.cmp .mem (.var 3) (.var 0))
      ([.par [2, 3] [.bin .add (.var 2) (.int 1), .bin .sub (.var 3) (.int 1)]]),
    .wh (.cmp .mem (.var 4) (.var 0))
      ([.par [2, 4] [.bin .add (.var 2) (.int 1), .bin .add (.var 4) (.int 1)]]),
    .ret (.var 2)] [some a0, some a1, none, none, none] S) := rfl
theorem u22 (n : Nat) (a0 a1 a2 a3 : D) (S : Store) : evF fs (n + 1) 22 [a0, a1, a2, a3] S = endB (evB (evF fs n)
    [.ifs (.cmp .le (.bin .sub (.var 2) (.var 1)) (.idx (.var 0) (.int 0)))
      ([.ret (.non)])
      ([]),
    .tgt (.tup [.name 4, .name 5]) (.bi .divmod [.bin .sub (.var 2) (.var 1), .int 2]),
    .set 6 (.bin .add (.bin .add (.var 1) (.var 4)) (.ite (.idx (.var 0) (.int 1)) (.var 5) (.int 0))),
    .set 7 (.comp false [("here", 8)] (.name 8) (.val (.idx (.var 0) (.int 2))) (some (.chain .lt .lt (.int 0) (.bin .sub (.bin .add (.var 6) (.var 8)) (.var 1)) (.bin .sub (.var 2) (.var 1)))) (.bin .add (.var 6) (.var 8))),
    .set 7 (.comp false [("edition", 9)] (.name 9) (.val (.var 7)) (some (.cmp .nmem (.var 9) (.var 3))) (.var 9)),
    .ret (.ite (.cmp .ne (.var 7) (.lst false [])) (.idx (.var 7) (.int 0)) (.non))] [some a0, some a1, some a2, some a3, none, none, none, none, none, none] S) := rfl
theorem u23 (n : Nat) (a0 a1 a2 a3 : D) (S : Store) : evF fs (n + 1) 23 [a0, a1, a2, a3] S = endB (evB (evF fs n)
    [.par [4, 5, 6] [.int 0, .var 1, .tup []],
    .set 7 (.call 22 [.var 0, .var 4, .var 5, .tup []]),
    .wh (.cmp .notN (.var 7) (.non))
      ([.set 8 (.ite (.cmp .mem (.var 7) (.var 3)) (.str "barred") (.ite (.cmp .lt (.var 7) (.var 2)) (.str "good") (.str "bad"))),
      .set 6 (.bin .add (.var 6) (.tup [.tup [.var 7, .var 8]])),
      .set 4 (.ite (.cmp .eq (.var 8) (.str "good")) (.var 7) (.var 4)),
      .set 5 (.ite (.cmp .eq (.var 8) (.str "bad")) (.var 7) (.var 5)),
      .set 9 (.comp false [("late", 10), ("told", 11)] (.tup [.name 10, .name 11]) (.val (.var 6)) (some (.cmp .eq (.var 11) (.str "barred"))) (.var 10)),
      .set 7 (.call 22 [.var 0, .var 4, .var 5, .var 9])]),
    .ret (.tup [.var 6, .tup [.var 4, .var 5]])] [some a0, some a1, some a2, some a3, none, none, none, none, none, none, none, none] S) := rfl
theorem u24 (n : Nat) (a0 a1 : D) (S : Store) : evF fs (n + 1) 24 [a0, a1] S = endB (evB (evF fs n)
    [.set 2 (.lst false [.tup []]),
    .fors (.name 3) (.rng2 (.int 1) (.var 0))
      ([.set 4 (.comp false [("lot", 5)] (.name 5) (.val (.var 2)) (some (.and [.cmp .gt (.var 1) (.int 0), .cmp .le (.call 21 [.var 5, .var 3]) (.var 1)])) (.bin .add (.var 5) (.tup [.var 3]))),
      .set 2 (.bin .add (.var 2) (.var 4))]),
    .ret (.var 2)] [some a0, some a1, none, none, none, none] S) := rfl
theorem u25 (n : Nat) (a0 a1 a2 : D) (S : Store) : evF fs (n + 1) 25 [a0, a1, a2] S = endB (evB (evF fs n)
    [.par [3, 4] [.lst false [], .int 0],
    .fors (.name 5) (.val (.call 24 [.var 1, .var 2]))
      ([.fors (.name 6) (.rng2 (.int 1) (.bin .add (.var 1) (.int 1)))
        ([.tgt (.tup [.name 7, .tup [.name 8, .name 9]]) (.call 23 [.var 0, .var 1, .var 6, .var 5]),
        .par [3, 4] [.bin .add (.var 3) (.lst false [.var 7]), .bi .max2 [.var 4, .bin .sub (.var 9) (.var 8)]]])]),
    .set 10 (.bi .max1 [.comp false [("log_so", 7)] (.name 7) (.val (.var 3)) none (.bi .len [.var 7])]),
    .ifs (.or [.cmp .ne (.call 13 [.var 0, .var 1, .var 2]) (.var 10), .cmp .ne (.call 16 [.var 0, .var 1, .var 2]) (.var 4)])
      ([.ret (.bl false)])
      ([]),
    .set 11 (.call 14 [.var 0, .var 1, .var 2]),
    .ret (.and [.cmp .eq (.bi .len [.var 11]) (.var 10), .cmp .mem (.var 11) (.var 3)])] [some a0, some a1, some a2, none, none, none, none, none, none, none, none, none] S) := rfl
theorem u26 (n : Nat) (a0 : D) (S : Store) : evF fs (n + 1) 26 [a0] S = endB (evB (evF fs n)
    [.fors (.name 1) (.rng1 (.bi .max2 [.int 4, .bi .min2 [.int 9, .bin .add (.bi .len [.var 0]) (.int 3)]]))
      ([.set 2 (.call 17 [.var 0, .var 1]),
      .fors (.name 3) (.rng1 (.int 4))
        ([.ifs (.not (.call 25 [.call 20 [.var 2], .bin .add (.int 1) (.call 18 [.var 2, .int 8]), .call 18 [.var 2, .int 3]]))
          ([.ret (.bl false)])
          ([])])]),
    .tgt (.tup [.name 4, .name 5, .name 6]) (.tup [.tup [.int 1, .bl false, .tup [.int 0]], .tup [.int 1, .bl false, .tup [.int 0, .int 1, .int 2, .int 3]], .tup [.int 1, .bl false, .tup [.int 0, .int 1, .neg (.int 1)]]]),
    .fors (.tup [.name 7, .name 8, .name 9]) (.val (.lst false [.tup [.var 6, .int 5, .int 2], .tup [.var 5, .int 7, .int 2], .tup [.var 5, .int 8, .int 1], .tup [.var 4, .int 9, .int 0], .tup [.tup [.int 1, .bl true, .tup [.int 3, .neg (.int 3)]], .int 8, .int 1]]))
      ([.ifs (.not (.call 25 [.var 7, .var 8, .var 9]))
        ([.ret (.bl false)])
        ([])]),
    .ret (.and [.cmp .eq (.call 13 [.var 6, .int 5, .int 2]) (.int 4), .cmp .eq (.call 13 [.var 5, .int 8, .int 1]) (.int 5), .cmp .eq (.call 16 [.var 4, .int 8, .int 1]) (.int 8)])] [some a0, none, none, none, none, none, none, none, none, none] S) := rfl
end Lw
/-! ### the head, the end: printed by head.py -/
namespace Lw
open PySem L2 Ev
def loose0 : List Str := ["__name__", "HalfError", "InvalidNumber", "InvalidRule", "MOST", "is_from", "is_good_rule", "middle_of", "row_with", "next_of", "need_length", "need_run", "need_rule", "ends_behind", "tries_of", "open_of", "bars_allowed", "log_from", "worst", "worst_log", "FAR", "can_always", "longest_open", "_law_pail", "_law_cup", "_law_any", "_law_a_rule", "_law_row", "_law_next", "_law_led"]
def loose1 : List Str := ["_law_lots", "_law_right"]
def loose : List Str := loose0 ++ loose1
abbrev Rw : PySem.W.OpenRow := PySem.W.OpenLaw.row PySem.Challenge.rw_barredhalves_k04_whole_worst_by_all_rows
def dds : List He.DefD := L.map Ent.dd
abbrev hk : PySem.W.Hook := hookE 4 tab dds
def ob (s : PySem.W.SharedT) : He.AlD := obsE 4 tab dds (HandSHeadRun.getT s)
theorem ob_eq (s : PySem.W.SharedT) : ob s = hk.obs s.abs := obsE_eq (HandSHeadRun.getT_eq s)
theorem run (w : World) : HandSHeadRun.RunEq Rw (PySem.W.view Rw.prog [37]) hk ob 8000 loose w := by
  intro os
  kernel_rfl
/-- the law over the evaluator -/
def Holds : Prop := ∀ ns : List Int, ns.length ≤ 63 → ∃ S, evF (L.map Ent.fd) (20 + 1) 26 [script ns] [] = .ok (.bl true) S
end Lw
open PySem PySem.W PySem.Calls PyProof.Rows in
theorem Lw.end_ (hol : Lw.Holds) : PySem.Challenge.rw_barredhalves_k04_whole_worst_by_all_rows.Holds := by
  w_on; o_law
  refine HandSHeadRun.head_any (r := OpenLaw.row PySem.Challenge.rw_barredhalves_k04_whole_worst_by_all_rows) (q := view (OpenLaw.row PySem.Challenge.rw_barredhalves_k04_whole_worst_by_all_rows).prog [37]) (H := Lw.hk) (ob := Lw.ob) (M := 8000) (loose := Lw.loose)
    (d := HandSHeadRun.topDef (OpenLaw.row PySem.Challenge.rw_barredhalves_k04_whole_worst_by_all_rows).prog 37) (kwd := []) Lw.ob_eq
    (by kernel_rfl) (fun s => by kernel_rfl) Lw.run (by kernel_rfl) (by kernel_rfl) (by kernel_rfl) (by rfl) (by first | assumption | decide +kernel) (by decide +kernel) ⟨rfl, rfl, rfl, rfl, rfl, by decide +kernel⟩ ?hw ?hc
  case hw => w_witness2
  case hc =>
    refine L2.walk_ofE (l := PySem.Challenge.rw_barredhalves_k04_whole_worst_by_all_rows) (n := 63) (k := 20 + 1) (x := "script") (CX := Ev.CXa PySem.Challenge.rw_barredhalves_k04_whole_worst_by_all_rows.prog) rfl (by decide) (by kernel_rfl) ⟨rfl, by decide, by decide⟩ ?F
      (fun _ _ _ _ ⟨_, _, _, _, _, _, _, _, _, _, _, _, _, z⟩ => z)
    intro w mg fa h Y G hmg0
    obtain ⟨K, KX, c⟩ := Y
    have hmg : mg ("law" : PySem.Str) = some (.ref fa) := by
      have e : (HandSHeadRun.topDef (OpenLaw.row PySem.Challenge.rw_barredhalves_k04_whole_worst_by_all_rows).prog 37).name = ("law" : PySem.Str) := by kernel_rfl
      rw [← e]
      exact hmg0
    obtain ⟨fd, sp, h1, h2, h3⟩ := Ev.law_end (P := PySem.Challenge.rw_barredhalves_k04_whole_worst_by_all_rows.prog) (w := w) (L := Lw.L) (x := "law") (y := "script") KX G c Lw.oks Lw.bnd 26 20 Lw.e26 rfl rfl rfl hmg 63 (by decide) hol
    exact ⟨K, fd, sp, KX, h1, h2, h3⟩
/-! plain lemmas about the evaluator -/
namespace Ev
/-- a step that the kernel is not to look at again -/
theorem nr {α : Sort _} {a b : α} (h : a = b) : a = b := h
/-! ### the evaluator, step by step: what comes behind a step is named, so that nobody looks at it before its time -/
def seqB (cl : Nat → List D → Store → R D) (r : List CS) (x : RS) : RS := match x with
  | .nx τ S => evB cl r τ S
  | r => r
def iteB {α : Type} (o : Option Bool) (p q bad : α) : α := match o with
  | some true => p
  | some false => q
  | none => bad
section
variable (cl : Nat → List D → Store → R D) (τ : Slots) (S : Store) (a b c : CE) (es : List CE)
def forB (t : CT) (b : List CS) (τ : Slots) (I : Items) (S : Store) : RS := forL I (bindT t) (evB cl b) I.xs τ S
def whB (c : CE) (b : List CS) (τ : Slots) (S : Store) : RS := whL (ev cl c) (evB cl b) fuel τ S
def compB (t : CT) (c : Option CE) (e : CE) (τ : Slots) (I : Items) (S : Store) : R (List D) := noR (compL I (bindT t) (evC cl c) (ev cl e) I.xs τ S)
theorem e_int (i : Int) : ev cl (.int i) τ S = .ok (.int i) S := nr rfl
theorem e_bl (i : Bool) : ev cl (.bl i) τ S = .ok (.bl i) S := nr rfl
theorem e_non : ev cl .non τ S = .ok .non S := nr rfl
theorem e_str (i : PySem.Str) : ev cl (.str i) τ S = .ok (.str i) S := nr rfl
theorem e_var (i : Nat) : ev cl (.var i) τ S = okO (τ[i]?).join S := nr rfl
theorem e_con (x : PySem.Str) (d : D) : ev cl (.con x d) τ S = .ok d S := nr rfl
theorem e_fnv (f : Nat) : ev cl (.fnv f) τ S = .ok (.fn f) S := nr rfl
def kBin (o : BO) (x y : D) (S : Store) : R D := binop o x y S
def kBin1 (o : BO) (b : CE) (τ : Slots) (x : D) (S : Store) : R D := (ev cl b τ S).bind (kBin o x)
theorem e_bin (o : BO) : ev cl (.bin o a b) τ S = (ev cl a τ S).bind (kBin1 cl o b τ) := nr rfl
theorem y_bin1 (o : BO) (x : D) : kBin1 cl o b τ x S = (ev cl b τ S).bind (kBin o x) := nr rfl
theorem y_bin (o : BO) (x y : D) : kBin o x y S = binop o x y S := nr rfl
theorem e_neg : ev cl (.neg a) τ S = (ev cl a τ S).bind neg := nr rfl
def kNot (x : D) (S : Store) : R D := (okO (truth x) S).bind fun b S => .ok (.bl (!b)) S
theorem e_not : ev cl (.not a) τ S = (ev cl a τ S).bind kNot := nr rfl
theorem y_not (g : Bool) : kNot (.bl g) S = .ok (.bl (!g)) S := nr rfl
theorem y_notI (i : Int) : kNot (.int i) S = .ok (.bl (!(i != 0))) S := nr rfl
def kCmp (o : CO) (x y : D) (S : Store) : R D := cmpop o x y S
def kCmp1 (o : CO) (b : CE) (τ : Slots) (x : D) (S : Store) : R D := (ev cl b τ S).bind (kCmp o x)
theorem e_cmp (o : CO) : ev cl (.cmp o a b) τ S = (ev cl a τ S).bind (kCmp1 cl o b τ) := nr rfl
theorem y_cmp1 (o : CO) (x : D) : kCmp1 cl o b τ x S = (ev cl b τ S).bind (kCmp o x) := nr rfl
theorem y_cmp (o : CO) (x y : D) : kCmp o x y S = cmpop o x y S := nr rfl
def kCh3 (o : CO) (c : CE) (τ : Slots) (y z : D) (S : Store) : R D := match z with
  | .bl true => (ev cl c τ S).bind (kCmp o y)
  | .bl false => .ok (.bl false) S
  | _ => .bad
def kCh2 (o1 o2 : CO) (c : CE) (τ : Slots) (x y : D) (S : Store) : R D := (cmpop o1 x y S).bind (kCh3 cl o2 c τ y)
def kCh1 (o1 o2 : CO) (b c : CE) (τ : Slots) (x : D) (S : Store) : R D := (ev cl b τ S).bind (kCh2 cl o1 o2 c τ x)
theorem e_chain (o1 o2 : CO) : ev cl (.chain o1 o2 a b c) τ S = (ev cl a τ S).bind (kCh1 cl o1 o2 b c τ) := nr rfl
theorem y_ch1 (o1 o2 : CO) (x : D) : kCh1 cl o1 o2 b c τ x S = (ev cl b τ S).bind (kCh2 cl o1 o2 c τ x) := nr rfl
theorem y_ch2 (o1 o2 : CO) (x y : D) : kCh2 cl o1 o2 c τ x y S = (cmpop o1 x y S).bind (kCh3 cl o2 c τ y) := nr rfl
theorem y_ch3 (o : CO) (y : D) (g : Bool) : kCh3 cl o c τ y (.bl g) S = bif g then (ev cl c τ S).bind (kCmp o y) else .ok (.bl false) S := by cases g <;> rfl
theorem e_and : ev cl (.and es) τ S = evAnd cl es τ S := nr rfl
theorem e_or : ev cl (.or es) τ S = evOr cl es τ S := nr rfl
theorem e_and1 : evAnd cl [a] τ S = ev cl a τ S := nr rfl
theorem e_or1 : evOr cl [a] τ S = ev cl a τ S := nr rfl
def kAnd (es : List CE) (τ : Slots) (x : D) (S : Store) : R D := match x with
  | .bl true => evAnd cl es τ S
  | .bl false => .ok (.bl false) S
  | _ => .bad
def kOr (es : List CE) (τ : Slots) (x : D) (S : Store) : R D := match x with
  | .bl true => .ok (.bl true) S
  | .bl false => evOr cl es τ S
  | _ => .bad
theorem e_and2 : evAnd cl (a :: b :: es) τ S = (ev cl a τ S).bind (kAnd cl (b :: es) τ) := nr rfl
theorem e_or2 : evOr cl (a :: b :: es) τ S = (ev cl a τ S).bind (kOr cl (b :: es) τ) := nr rfl
theorem y_and (g : Bool) : kAnd cl es τ (.bl g) S = bif g then evAnd cl es τ S else .ok (.bl false) S := by cases g <;> rfl
theorem y_or (g : Bool) : kOr cl es τ (.bl g) S = bif g then .ok (.bl true) S else evOr cl es τ S := by cases g <;> rfl
def kIte (a b : CE) (τ : Slots) (x : D) (S : Store) : R D := iteB (truth x) (ev cl a τ S) (ev cl b τ S) .bad
theorem e_ite : ev cl (.ite c a b) τ S = (ev cl c τ S).bind (kIte cl a b τ) := nr rfl
theorem y_ite (g : Bool) : kIte cl a b τ (.bl g) S = bif g then ev cl a τ S else ev cl b τ S := by cases g <;> rfl
def kTup (xs : List D) (S : Store) : R D := okIf (decide (xs.length ≤ big)) (.tup xs) S
theorem e_tup : ev cl (.tup es) τ S = (evs cl es τ S).bind kTup := nr rfl
theorem y_tup0 : kTup [] S = .ok (.tup []) S := nr rfl
theorem y_tup1 (x : D) : kTup [x] S = .ok (.tup [x]) S := nr rfl
theorem y_tup2 (x y : D) : kTup [x, y] S = .ok (.tup [x, y]) S := nr rfl
theorem y_tup3 (x y z : D) : kTup [x, y, z] S = .ok (.tup [x, y, z]) S := nr rfl
theorem y_tup4 (x y z w : D) : kTup [x, y, z, w] S = .ok (.tup [x, y, z, w]) S := nr rfl
theorem y_tup5 (x y z w v : D) : kTup [x, y, z, w, v] S = .ok (.tup [x, y, z, w, v]) S := nr rfl
def kLst (mu : Bool) (xs : List D) (S : Store) : R D := if xs.length ≤ big then mkL mu xs S else .bad
theorem e_lst (mu : Bool) : ev cl (.lst mu es) τ S = (evs cl es τ S).bind (kLst mu) := nr rfl
theorem y_lst (mu : Bool) (xs : List D) (h : xs.length ≤ 1000) : kLst mu xs S = mkL mu xs S := if_pos (Nat.le_trans h (by decide))
def kIdx (x y : D) (S : Store) : R D := getIx x y S
def kIdx1 (b : CE) (τ : Slots) (x : D) (S : Store) : R D := (ev cl b τ S).bind (kIdx x)
theorem e_idx : ev cl (.idx a b) τ S = (ev cl a τ S).bind (kIdx1 cl b τ) := nr rfl
theorem y_idx1 (x : D) : kIdx1 cl b τ x S = (ev cl b τ S).bind (kIdx x) := nr rfl
theorem y_idx (x y : D) : kIdx x y S = getIx x y S := nr rfl
def kSl3 (x : D) (l h : Option Int) (S : Store) : R D := getSl x l h S
def kSl2 (hi : Option CE) (τ : Slots) (x : D) (l : Option Int) (S : Store) : R D := (evO cl hi τ S).bind (kSl3 x l)
def kSl1 (lo hi : Option CE) (τ : Slots) (x : D) (S : Store) : R D := (evO cl lo τ S).bind (kSl2 cl hi τ x)
theorem e_sl (lo hi : Option CE) : ev cl (.sl a lo hi) τ S = (ev cl a τ S).bind (kSl1 cl lo hi τ) := nr rfl
theorem y_sl1 (lo hi : Option CE) (x : D) : kSl1 cl lo hi τ x S = (evO cl lo τ S).bind (kSl2 cl hi τ x) := nr rfl
theorem y_sl2 (hi : Option CE) (x : D) (l : Option Int) : kSl2 cl hi τ x l S = (evO cl hi τ S).bind (kSl3 x l) := nr rfl
theorem y_sl3 (x : D) (l h : Option Int) : kSl3 x l h S = getSl x l h S := nr rfl
theorem e_call (f : Nat) : ev cl (.call f es) τ S = (evs cl es τ S).bind (cl f) := nr rfl
def kBi (f : BI) (xs : List D) (S : Store) : R D := callB f xs S
theorem e_bi (f : BI) : ev cl (.bi f es) τ S = (evs cl es τ S).bind (kBi f) := nr rfl
theorem y_bi (f : BI) (xs : List D) : kBi f xs S = callB f xs S := nr rfl
def kIsi (t : Ty) (x : D) (S : Store) : R D := (okO (isTy t x S) S).bind fun b S => .ok (.bl b) S
theorem e_isi (t : Ty) : ev cl (.isi a t) τ S = (ev cl a τ S).bind (kIsi t) := nr rfl
theorem y_isi (t : Ty) (x : D) {g : Bool} (h : isTy t x S = some g) : kIsi t x S = .ok (.bl g) S := by unfold kIsi; rw [h]; rfl
theorem y_isiI (i : Int) : kIsi .int (.int i) S = .ok (.bl true) S := nr rfl
theorem y_isiB (i : Int) : kIsi .bool (.int i) S = .ok (.bl false) S := nr rfl
theorem y_isiB2 (g : Bool) : kIsi .bool (.bl g) S = .ok (.bl true) S := nr rfl
theorem y_isiI2 (g : Bool) : kIsi .int (.bl g) S = .ok (.bl true) S := nr rfl
theorem y_isiT (xs : List D) : kIsi .tup (.tup xs) S = .ok (.bl true) S := nr rfl
theorem y_isiS (x : PySem.Str) : kIsi .str (.str x) S = .ok (.bl true) S := nr rfl
theorem y_isiL (xs : List D) : kIsi .list (.lst xs) S = .ok (.bl true) S := nr rfl
def lenSet (x : D) (S : Store) : R D := match (seqOf S x).bind allI with
      | some ns => okIf (decide (ns.length < 4000)) (.int (unlike ns).length) S
      | none => .bad
theorem e_lenset : ev cl (.lenset a) τ S = (ev cl a τ S).bind lenSet := nr rfl
def kMeth2 (m : MI) (x : D) (xs : List D) (S : Store) : R D := methB m x xs S
def kMeth (m : MI) (es : List CE) (τ : Slots) (x : D) (S : Store) : R D := if (lstOf S x).isSome then (evs cl es τ S).bind (kMeth2 m x) else .bad
theorem e_meth (m : MI) : ev cl (.meth m a es) τ S = (ev cl a τ S).bind (kMeth cl m es τ) := nr rfl
theorem y_meth (m : MI) (n : Nat) {xs : List D} (h : S[n]? = some (.list xs)) : kMeth cl m es τ (.loc n) S = (evs cl es τ S).bind (kMeth2 m (.loc n)) := by
  unfold kMeth
  rw [if_pos (by simp only [lstOf, h]; rfl)]
theorem y_meth2 (m : MI) (x : D) (xs : List D) : kMeth2 m x xs S = methB m x xs S := nr rfl
def kMk (mu : Bool) (ys : List D) (S : Store) : R D := mkL mu ys S
def kComp (mu : Bool) (own : List (PySem.Str × Nat)) (t : CT) (c : Option CE) (e : CE) (τ : Slots) (I : Items) (S : Store) : R D := (compB cl t c e (wipeS τ own) I S).bind (kMk mu)
theorem e_comp (mu : Bool) (own : List (PySem.Str × Nat)) (t : CT) (it : CIt) (c : Option CE) : ev cl (.comp mu own t it c a) τ S = (evIt cl it τ S).bind (kComp cl mu own t c a τ) := nr rfl
theorem y_comp (mu : Bool) (own : List (PySem.Str × Nat)) (t : CT) (c : Option CE) (I : Items) : kComp cl mu own t c a τ I S = (compB cl t c a (wipeS τ own) I S).bind (kMk mu) := nr rfl
theorem y_mk (xs : List D) : kMk false xs S = .ok (.lst xs) S := nr rfl
theorem y_mkT (xs : List D) : kMk true xs S = .ok (.loc S.length) (S ++ [.list xs]) := nr rfl
theorem m_f (xs : List D) : mkL false xs S = .ok (.lst xs) S := nr rfl
theorem m_t (xs : List D) : mkL true xs S = .ok (.loc S.length) (S ++ [.list xs]) := nr rfl
theorem e_o0 : evO cl none τ S = .ok none S := nr rfl
def asI (x : D) (S : Store) : R (Option Int) := match x with
      | .int i => .ok (some i) S
      | _ => .bad
theorem asI_int (i : Int) : asI (.int i) S = .ok (some i) S := nr rfl
theorem e_o1 : evO cl (some a) τ S = (ev cl a τ S).bind asI := nr rfl
def kTr (x : D) (S : Store) : R Bool := okO (truth x) S
theorem y_trB (g : Bool) : kTr (.bl g) S = .ok g S := nr rfl
theorem e_c0 : evC cl none τ S = .ok true S := nr rfl
theorem e_c1 : evC cl (some c) τ S = (ev cl c τ S).bind kTr := nr rfl
theorem e_nil : evs cl [] τ S = .ok [] S := nr rfl
def kCon (x : D) (xs : List D) (S : Store) : R (List D) := .ok (x :: xs) S
def kEs (es : List CE) (τ : Slots) (x : D) (S : Store) : R (List D) := (evs cl es τ S).bind (kCon x)
theorem e_cons : evs cl (a :: es) τ S = (ev cl a τ S).bind (kEs cl es τ) := nr rfl
theorem y_es (x : D) : kEs cl es τ x S = (evs cl es τ S).bind (kCon x) := nr rfl
theorem y_con (x : D) (xs : List D) : kCon x xs S = .ok (x :: xs) S := nr rfl
def kVal (x : D) (S : Store) : R Items := okO (itemsOf S x) S
theorem i_val : evIt cl (.val a) τ S = (ev cl a τ S).bind kVal := nr rfl
theorem y_valT (xs : List D) : kVal (.tup xs) S = .ok { xs := xs } S := nr rfl
theorem y_valL (xs : List D) : kVal (.lst xs) S = .ok { xs := xs } S := nr rfl
def rngR (x y : D) (S : Store) : R Items := match x, y with
      | .int i, .int j => okIf (smallR i j && decide (j - i ≤ big)) { xs := rangeD i j } S
      | _, _ => .bad
def kRng (b : CE) (τ : Slots) (x : D) (S : Store) : R Items := (ev cl b τ S).bind (rngR x)
theorem i_rng2 : evIt cl (.rng2 a b) τ S = (ev cl a τ S).bind (kRng cl b τ) := nr rfl
theorem y_rng (x : D) : kRng cl b τ x S = (ev cl b τ S).bind (rngR x) := nr rfl
def rngS (x : D) (S : Store) : R Items := match x with
      | .int j => okIf (smallR 0 j && decide (j ≤ big)) { xs := rangeD 0 j } S
      | _ => .bad
theorem i_rng1 : evIt cl (.rng1 a) τ S = (ev cl a τ S).bind rngS := nr rfl
def enuT (x : D) (S : Store) : R Items := match x with
      | .tup xs => .ok { xs := enumD 0 xs } S
      | _ => .bad
theorem enuT_tup (xs : List D) : enuT (.tup xs) S = .ok { xs := enumD 0 xs } S := nr rfl
theorem i_enuT : evIt cl (.enum true a) τ S = (ev cl a τ S).bind enuT := nr rfl
def zipR (x y : D) (S : Store) : R Items := match x, y with
      | .tup xs, .tup ys => .ok { xs := zipD xs ys } S
      | .lst xs, .lst ys => .ok { xs := zipD xs ys } S
      | _, _ => .bad
def kZip (b : CE) (τ : Slots) (x : D) (S : Store) : R Items := (ev cl b τ S).bind (zipR x)
theorem i_zip : evIt cl (.zip a b) τ S = (ev cl a τ S).bind (kZip cl b τ) := nr rfl
theorem y_zip (x : D) : kZip cl b τ x S = (ev cl b τ S).bind (zipR x) := nr rfl
theorem z_bind {α β : Type} (a : α) (f : α → Store → R β) : (R.ok a S).bind f = f a S := nr rfl
theorem z_bindS {α : Type} (a : α) (f : α → Store → RS) : (R.ok a S).bindS τ f = f a S := nr rfl
theorem z_o {α : Type} (a : α) : okO (some a) S = .ok a S := nr rfl
theorem z_if {α : Type} (a : α) : okIf true a S = .ok a S := nr rfl
theorem z_no {α : Type} (a : α) : noR (R.ok a S) = .ok a S := nr rfl
variable (s : CS) (r p q : List CS) (i : Nat)
def kSet (i : Nat) (τ : Slots) (x : D) (S : Store) : RS := .nx (τ.set i (some x)) S
theorem t_set : evS cl (.set i a) τ S = (ev cl a τ S).bindS τ (kSet i τ) := nr rfl
theorem y_set (x : D) : kSet i τ x S = .nx (τ.set i (some x)) S := nr rfl
def setA (is : List Nat) (τ : Slots) (xs : List D) (S : Store) : RS := match setAll is xs τ with
      | some τ => .nx τ S
      | none => .bad
theorem setA_nil : setA [] τ [] S = .nx τ S := nr rfl
theorem setA_cons (is : List Nat) (d : D) (ds : List D) : setA (i :: is) τ (d :: ds) S = setA is (τ.set i (some d)) ds S := nr rfl
theorem t_par (is : List Nat) : evS cl (.par is es) τ S = (evs cl es τ S).bindS τ (setA is τ) := nr rfl
def tgtA (t : CT) (τ : Slots) (x : D) (S : Store) : RS := match bindT t x τ with
      | some τ => .nx τ S
      | none => .bad
theorem tgtA_name (x : D) : tgtA (.name i) τ x S = .nx (τ.set i (some x)) S := nr rfl
theorem tgtA_pair (j : Nat) (x y : D) : tgtA (.tup [.name i, .name j]) τ (.tup [x, y]) S = .nx ((τ.set i (some x)).set j (some y)) S := nr rfl
theorem tgtA_three (j k : Nat) (x y z : D) : tgtA (.tup [.name i, .name j, .name k]) τ (.tup [x, y, z]) S = .nx (((τ.set i (some x)).set j (some y)).set k (some z)) S := nr rfl
theorem t_tgt (t : CT) : evS cl (.tgt t a) τ S = (ev cl a τ S).bindS τ (tgtA t τ) := nr rfl
def putA (x v : D) (τ : Slots) (y : D) (S : Store) : RS := match setIt x y v S with
      | some S => .nx τ S
      | none => .bad
def kPut2 (b : CE) (v : D) (τ : Slots) (x : D) (S : Store) : RS := (ev cl b τ S).bindS τ (putA x v τ)
def kPut1 (a b : CE) (τ : Slots) (v : D) (S : Store) : RS := (ev cl a τ S).bindS τ (kPut2 cl b v τ)
theorem t_setI : evS cl (.setI a b c) τ S = (ev cl c τ S).bindS τ (kPut1 cl a b τ) := nr rfl
theorem y_put1 (v : D) : kPut1 cl a b τ v S = (ev cl a τ S).bindS τ (kPut2 cl b v τ) := nr rfl
theorem y_put2 (v x : D) : kPut2 cl b v τ x S = (ev cl b τ S).bindS τ (putA x v τ) := nr rfl
def kRet (x : D) (S : Store) : RS := .rt x S
theorem t_ret : evS cl (.ret a) τ S = (ev cl a τ S).bindS τ kRet := nr rfl
theorem y_ret (x : D) : kRet x S = .rt x S := nr rfl
theorem t_retN : evS cl .retN τ S = .rt .non S := nr rfl
def kIfs (p q : List CS) (τ : Slots) (x : D) (S : Store) : RS := iteB (truth x) (evB cl p τ S) (evB cl q τ S) .bad
theorem t_ifs : evS cl (.ifs c p q) τ S = (ev cl c τ S).bindS τ (kIfs cl p q τ) := nr rfl
theorem y_ifs (g : Bool) : kIfs cl p q τ (.bl g) S = bif g then evB cl p τ S else evB cl q τ S := by cases g <;> rfl
theorem t_wh : evS cl (.wh c p) τ S = whB cl c p τ S := nr rfl
theorem t_fors (t : CT) (it : CIt) : evS cl (.fors t it p) τ S = (evIt cl it τ S).bindS τ (forB cl t p τ) := nr rfl
def kEx (τ : Slots) (x : D) (S : Store) : RS := .nx τ S
theorem t_ex : evS cl (.ex a) τ S = (ev cl a τ S).bindS τ (kEx τ) := nr rfl
theorem y_ex (x : D) : kEx τ x S = .nx τ S := nr rfl
theorem t_brk : evS cl .brk τ S = .bk τ S := nr rfl
theorem t_cnt : evS cl .cnt τ S = .ct τ S := nr rfl
theorem t_pass : evS cl .pass τ S = .nx τ S := nr rfl
theorem t_nil : evB cl [] τ S = .nx τ S := nr rfl
theorem t_cons : evB cl (s :: r) τ S = seqB cl r (evS cl s τ S) := nr rfl
theorem q_nx : seqB cl r (.nx τ S) = evB cl r τ S := nr rfl
theorem q_rt (d : D) : seqB cl r (.rt d S) = .rt d S := nr rfl
theorem q_bk : seqB cl r (.bk τ S) = .bk τ S := nr rfl
theorem q_ct : seqB cl r (.ct τ S) = .ct τ S := nr rfl
theorem q_if (g : Bool) (p q : RS) : seqB cl r (bif g then p else q) = bif g then seqB cl r p else seqB cl r q := by cases g <;> rfl
theorem n_if (g : Bool) (p q : RS) : endB (bif g then p else q) = bif g then endB p else endB q := by cases g <;> rfl
theorem n_rt (d : D) : endB (.rt d S) = .ok d S := nr rfl
theorem n_nx : endB (.nx τ S) = .ok .non S := nr rfl
theorem g_ok {α : Type} (g : Bool) (x y : α) : (bif g then R.ok x S else .ok y S) = .ok (bif g then x else y) S := by cases g <;> rfl
theorem g_bl (g x y : Bool) : (bif g then D.bl x else .bl y) = .bl (bif g then x else y) := by cases g <;> rfl
theorem g_int (g : Bool) (x y : Int) : (bif g then D.int x else .int y) = .int (bif g then x else y) := by cases g <;> rfl
theorem g_bind {α β : Type} (g : Bool) (x y : R α) (f : α → Store → R β) : (bif g then x else y).bind f = bif g then x.bind f else y.bind f := by cases g <;> rfl
theorem g_bindS {α : Type} (g : Bool) (x y : R α) (f : α → Store → RS) : (bif g then x else y).bindS τ f = bif g then x.bindS τ f else y.bindS τ f := by cases g <;> rfl
end
/-! ### operations, one by one -/
section
variable (i j : Int) (S : Store) (a b : PySem.Str) (p q : Bool) (xs ys : List D)
theorem b_add : binop .add (.int i) (.int j) S = .ok (.int (i + j)) S := nr rfl
theorem b_sub : binop .sub (.int i) (.int j) S = .ok (.int (i - j)) S := nr rfl
theorem b_mul : binop .mul (.int i) (.int j) S = okIf (mulOk i j) (.int (i * j)) S := nr rfl
theorem b_div : binop .fdiv (.int i) (.int j) S = okIf (divOk j) (.int (i / j)) S := nr rfl
theorem b_mod : binop .mod (.int i) (.int j) S = okIf (decide (0 < j)) (.int (i % j)) S := nr rfl
theorem b_pow : binop .pow (.int i) (.int j) S = okIf (decide (0 ≤ j) && decide (j ≤ 1000000) && decide (i.natAbs < 2 ^ 64)) (.int (i ^ j.toNat)) S := nr rfl
theorem b_cat : binop .add (.str a) (.str b) S = okIf (decide (a.length + b.length ≤ big)) (.str (a ++ b)) S := nr rfl
theorem b_catT : binop .add (.tup xs) (.tup ys) S = okIf (decide (xs.length + ys.length ≤ big)) (.tup (xs ++ ys)) S := nr rfl
theorem b_catL : binop .add (.lst xs) (.lst ys) S = okIf (decide (xs.length + ys.length ≤ big)) (.lst (xs ++ ys)) S := nr rfl
theorem c_lt : cmpop .lt (.int i) (.int j) S = .ok (.bl (decide (i < j))) S := nr rfl
theorem c_le : cmpop .le (.int i) (.int j) S = .ok (.bl (decide (i ≤ j))) S := nr rfl
theorem c_gt : cmpop .gt (.int i) (.int j) S = .ok (.bl (decide (j < i))) S := nr rfl
theorem c_ge : cmpop .ge (.int i) (.int j) S = .ok (.bl (decide (j ≤ i))) S := nr rfl
theorem c_eqI : cmpop .eq (.int i) (.int j) S = .ok (.bl (i == j)) S := nr rfl
theorem c_neI : cmpop .ne (.int i) (.int j) S = .ok (.bl (!(i == j))) S := nr rfl
theorem c_eqS : cmpop .eq (.str a) (.str b) S = .ok (.bl (a == b)) S := nr rfl
theorem c_neS : cmpop .ne (.str a) (.str b) S = .ok (.bl (!(a == b))) S := nr rfl
theorem c_eqB : cmpop .eq (.bl p) (.bl q) S = .ok (.bl (p == q)) S := nr rfl
theorem c_neB : cmpop .ne (.bl p) (.bl q) S = .ok (.bl (!(p == q))) S := nr rfl
theorem c_isN (d : D) : cmpop .isN d .non S = .ok (.bl (d.same .non)) S := nr rfl
theorem c_notN (d : D) : cmpop .notN d .non S = .ok (.bl (!d.same .non)) S := nr rfl
theorem flat_ints (n : Nat) (ns : List Int) : D.flatL n (ns.map .int) = true := by induction ns with
  | nil => rfl
  | cons m r ih => simp [D.flatL, D.flat, ih]
theorem any_ints (ns : List Int) : ((ns.map D.int).any fun z => D.eqv z (.int i)) = decide (i ∈ ns) := by
  induction ns with
  | nil => rfl
  | cons m r ih =>
    simp only [List.map_cons, List.any_cons, ih, D.eqv, List.mem_cons]
    by_cases h : m = i
    · simp [h]
    · simp [h, Ne.symm h]
theorem c_memL (ns : List Int) : cmpop .mem (.int i) (.lst (ns.map .int)) S = .ok (.bl (decide (i ∈ ns))) S := by
  simp only [cmpop, seqOf, flat_ints, any_ints]; rfl
theorem c_nmemL (ns : List Int) : cmpop .nmem (.int i) (.lst (ns.map .int)) S = .ok (.bl (!decide (i ∈ ns))) S := by
  simp only [cmpop, seqOf, flat_ints, any_ints]; rfl
theorem c_memT (ns : List Int) : cmpop .mem (.int i) (.tup (ns.map .int)) S = .ok (.bl (decide (i ∈ ns))) S := by
  simp only [cmpop, seqOf, flat_ints, any_ints]; rfl
theorem c_nmemT (ns : List Int) : cmpop .nmem (.int i) (.tup (ns.map .int)) S = .ok (.bl (!decide (i ∈ ns))) S := by
  simp only [cmpop, seqOf, flat_ints, any_ints]; rfl
theorem k_lenT : callB .len [.tup xs] S = .ok (.int xs.length) S := nr rfl
theorem k_lenL : callB .len [.lst xs] S = .ok (.int xs.length) S := nr rfl
theorem k_lenR : callB .len [.scr xs] S = .ok (.int xs.length) S := nr rfl
theorem k_lenS : callB .len [.str a] S = .ok (.int a.length) S := nr rfl
theorem k_intI : callB .int [.int i] S = .ok (.int i) S := nr rfl
theorem k_intB : callB .int [.bl p] S = .ok (.int (b2 p)) S := nr rfl
theorem k_abs : callB .abs [.int i] S = .ok (.int (if i < 0 then -i else i)) S := nr rfl
theorem k_tupL : callB .tuple [.lst xs] S = .ok (.tup xs) S := nr rfl
theorem k_tupT : callB .tuple [.tup xs] S = .ok (.tup xs) S := nr rfl
theorem k_max2 : callB .max2 [.int i, .int j] S = .ok (.int (if j > i then j else i)) S := nr rfl
theorem k_min2 : callB .min2 [.int i, .int j] S = .ok (.int (if j < i then j else i)) S := nr rfl
theorem k_divmod : callB .divmod [.int i, .int j] S = okIf (decide (0 < j) && decide (j < 1073741824)) (.tup [.int (i / j), .int (i % j)]) S := nr rfl
theorem allI_ints (ns : List Int) : allI (ns.map .int) = some ns := by induction ns with
  | nil => rfl
  | cons m r ih => simp [allI, ih]
theorem allB_bls (ns : List Bool) : allB (ns.map .bl) = some ns := by induction ns with
  | nil => rfl
  | cons m r ih => simp [allB, ih]
theorem k_all (bs : List Bool) : callB .all [.lst (bs.map .bl)] S = .ok (.bl (bs.all id)) S := by
  simp only [callB, lstOf, Option.bind_some, allB_bls]
theorem k_sorted (ns : List Int) : callB .sorted [.lst (ns.map .int)] S = .ok (.lst ((isort ns).map .int)) S := by
  simp only [callB, lstOf, Option.bind_some, allI_ints]
theorem k_sum (ns : List Int) : callB .sum [.lst (ns.map .int)] S = .ok (.int ns.sum) S := by
  simp only [callB, lstOf, Option.bind_some, allI_ints]
theorem mulOk_r (h1 : -(2 ^ 64) < j) (h2 : j < 2 ^ 64) : mulOk i j = true := by
  simp only [mulOk, Bool.or_eq_true, Bool.and_eq_true, decide_eq_true_eq]
  exact .inl (.inr ⟨h1, h2⟩)
theorem mulOk_l (h1 : -(2 ^ 64) < i) (h2 : i < 2 ^ 64) : mulOk i j = true := by
  simp only [mulOk, Bool.or_eq_true, Bool.and_eq_true, decide_eq_true_eq]
  exact .inl (.inl ⟨h1, h2⟩)
theorem divOk_small (h1 : 0 < j) (h2 : j < 2 ^ 62) : divOk j = true := by
  have h : j.natAbs < 2 ^ 62 := by omega
  have h3 : j.natAbs.log2 < 62 := (Nat.log2_lt (by omega)).mpr h
  simp only [divOk, Bool.and_eq_true, decide_eq_true_eq]
  exact ⟨h1, by omega⟩
theorem ix_at {n : Nat} {k : Nat} (h : k < n) : Ev.ix n (k : Int) = some k := by
  unfold Ev.ix L2.ixN
  rw [if_pos (by omega), if_pos (by omega)]; simp
theorem ix_0 (n : Nat) : Ev.ix (n + 1) 0 = some 0 := ix_at (k := 0) (by omega)
theorem ix_1 (n : Nat) : Ev.ix (n + 2) 1 = some 1 := ix_at (k := 1) (by omega)
theorem ix_2 (n : Nat) : Ev.ix (n + 3) 2 = some 2 := ix_at (k := 2) (by omega)
theorem sl_to (xs : List D) (k : Nat) : getSl (.tup xs) none (some (k : Int)) S = .ok (.tup (xs.take k)) S := by
  have e : cut xs none (some (k : Int)) = xs.take k := by
    unfold cut
    rw [HT.sIx_none, HT.sIx_nat]
    simp only [List.drop_zero, Nat.sub_zero]
    by_cases h : k ≤ xs.length
    · rw [Nat.min_eq_left h]
    · rw [Nat.min_eq_right (by omega), List.take_of_length_le (Nat.le_refl _), List.take_of_length_le (by omega)]
  show R.ok (D.tup (cut xs none (some (k : Int)))) S = _
  rw [e]
end
/-! ### loops by their items -/
theorem comp_run {X : Type} {I : Items} {bt : D → Slots → Option Slots} {c : Slots → Store → R Bool} {e : Slots → Store → R D} (enc : X → D) (p : X → Bool) (f : X → D) (τ : Slots) (S : Store) (hI : I.gd = none)
    : ∀ (l : List X), (∀ x ∈ l, ∃ τ1, bt (enc x) τ = some τ1 ∧ c τ1 S = .ok (p x) S ∧ (p x = true → e τ1 S = .ok (f x) S)) → compL I bt c e (l.map enc) τ S = .ok ((l.filter p).map f) S := by
  intro l
  have st : I.still S = true := by simp [Items.still, hI]
  induction l with
  | nil => intro _; simp [compL, st]
  | cons x l ih =>
    intro h
    obtain ⟨τ1, h1, h2, h3⟩ := h x List.mem_cons_self
    have h4 := ih fun y hy => h y (List.mem_cons_of_mem _ hy)
    simp only [List.map_cons, compL, st, if_true, h1, h2, R.bind_ok]
    cases hp : p x with
    | false => simp [hp, h4]
    | true => simp [hp, h3 hp, h4]
theorem for_run {A X : Type} {I : Items} {bt : D → Slots → Option Slots} {b : Slots → Store → RS} (enc : X → D) (Inv : A → Slots → Store → Prop) (step : A → X → A) (hI : I.gd = none) :
    ∀ (l : List X), (∀ x ∈ l, ∀ a τ S, Inv a τ S → ∃ τ1, bt (enc x) τ = some τ1 ∧ ∃ τ2 S2, (b τ1 S = .nx τ2 S2 ∨ b τ1 S = .ct τ2 S2) ∧ Inv (step a x) τ2 S2) → ∀ a τ S, Inv a τ S →
      ∃ τ' S', forL I bt b (l.map enc) τ S = .nx τ' S' ∧ Inv (l.foldl step a) τ' S' := by
  intro l
  have st : ∀ S, I.still S = true := by simp [Items.still, hI]
  induction l with
  | nil => intro _ a τ S h; exact ⟨τ, S, by simp [forL, st], h⟩
  | cons x l ih =>
    intro h a τ S hi
    obtain ⟨τ1, h1, τ2, S2, h2, h3⟩ := h x List.mem_cons_self a τ S hi
    obtain ⟨τ', S', h4, h5⟩ := ih (fun y hy => h y (List.mem_cons_of_mem _ hy)) (step a x) τ2 S2 h3
    refine ⟨τ', S', ?_, h5⟩
    simp only [List.map_cons, forL, st, if_true, h1]
    rcases h2 with h2 | h2 <;> rw [h2] <;> exact h4
/-- a loop that may return -/
def goR {A X : Type} (step : A → X → Sum A D) : List X → A → Sum A D
  | [], a => .inl a
  | x :: l, a => match step a x with
    | .inl a' => goR step l a'
    | .inr d => .inr d
theorem for_ret {A X : Type} {I : Items} {bt : D → Slots → Option Slots} {b : Slots → Store → RS} (enc : X → D) (Inv : A → Slots → Store → Prop) (step : A → X → Sum A D) (hI : I.gd = none) (S : Store) :
    ∀ (l : List X), (∀ x ∈ l, ∀ a τ, Inv a τ S → ∃ τ1, bt (enc x) τ = some τ1 ∧ (∀ a', step a x = .inl a' → ∃ τ2, (b τ1 S = .nx τ2 S ∨ b τ1 S = .ct τ2 S) ∧ Inv a' τ2 S) ∧ (∀ d, step a x = .inr d → b τ1 S = .rt d S)) → ∀ a τ, Inv a τ S →
      (∀ a', goR step l a = .inl a' → ∃ τ', forL I bt b (l.map enc) τ S = .nx τ' S ∧ Inv a' τ' S) ∧ (∀ d, goR step l a = .inr d → forL I bt b (l.map enc) τ S = .rt d S) := by
  intro l
  have st : ∀ S, I.still S = true := by simp [Items.still, hI]
  induction l with
  | nil =>
    intro _ a τ h
    refine ⟨fun a' e => ?_, fun d e => by simp [goR] at e⟩
    simp only [goR, Sum.inl.injEq] at e
    subst e
    exact ⟨τ, by simp [forL, st], h⟩
  | cons x l ih =>
    intro h a τ hi
    obtain ⟨τ1, h1, h2, h3⟩ := h x List.mem_cons_self a τ hi
    simp only [List.map_cons, forL, st, if_true, h1, goR]
    cases hs : step a x with
    | inl a' =>
      obtain ⟨τ2, h4, h5⟩ := h2 a' hs
      have := ih (fun y hy => h y (List.mem_cons_of_mem _ hy)) a' τ2 h5
      rcases h4 with h4 | h4 <;> rw [h4] <;> exact this
    | inr d =>
      rw [h3 d hs]
      exact ⟨fun a' e => by simp at e, fun d' e => by simp at e; rw [e]⟩
/-- a while by its turns -/
theorem wh_run {A : Type} {c : Slots → Store → R D} {b : Slots → Store → RS} (Inv : A → Slots → Store → Prop) (cond : A → Bool) (next : A → A) (S : Store)
    (hc : ∀ a τ, Inv a τ S → c τ S = .ok (.bl (cond a)) S) (hb : ∀ a τ, Inv a τ S → cond a = true → ∃ τ2, b τ S = .nx τ2 S ∧ Inv (next a) τ2 S) :
    ∀ (n : Nat) (m : Nat) a τ, Inv a τ S → (∀ i, i < n → cond (Nat.repeat next i a) = true) → cond (Nat.repeat next n a) = false → n < m → ∃ τ', whL c b m τ S = .nx τ' S ∧ Inv (Nat.repeat next n a) τ' S := by
  have sh : ∀ n (a : A), Nat.repeat next (n + 1) a = Nat.repeat next n (next a) := by
    intro n
    induction n with
    | zero => intro a; rfl
    | succ n ih =>
      intro a
      show next (Nat.repeat next (n + 1) a) = next (Nat.repeat next n (next a))
      rw [ih]
  intro n
  induction n with
  | zero =>
    intro m a τ hi _ h0 hm
    obtain ⟨m, rfl⟩ : ∃ m', m = m' + 1 := ⟨m - 1, by omega⟩
    refine ⟨τ, ?_, hi⟩
    have h0 : cond a = false := h0
    simp [whL, hc a τ hi, h0, truth]
  | succ n ih =>
    intro m a τ hi h1 h0 hm
    obtain ⟨m, rfl⟩ : ∃ m', m = m' + 1 := ⟨m - 1, by omega⟩
    have ha : cond a = true := h1 0 (by omega)
    obtain ⟨τ2, hb2, hi2⟩ := hb a τ hi ha
    obtain ⟨τ', h2, h3⟩ := ih m (next a) τ2 hi2 (fun i hi => by rw [← sh]; exact h1 (i + 1) (by omega)) (by rw [← sh]; exact h0) (by omega)
    refine ⟨τ', ?_, by rw [sh]; exact h3⟩
    simp only [whL, hc a τ hi, ha, R.bindS_ok, truth, hb2]
    exact h2
/-! ### more of data -/
theorem k_allF {X : Type} (g : X → Bool) (l : List X) (S : Store) : callB .all [.lst (l.map fun x => .bl (g x))] S = .ok (.bl (l.all g)) S := by
  have e : (l.map fun x => D.bl (g x)) = (l.map g).map .bl := by simp
  rw [e, k_all, List.all_map]; rfl
theorem enumD_map {X : Type} (f : X → D) : ∀ (l : List X) (k : Nat), enumD k (l.map f) = (l.zipIdx k).map fun p => .tup [.int (p.2 : Nat), f p.1]
  | [], _ => rfl
  | x :: l, k => by simp [enumD, enumD_map f l (k + 1)]
theorem rangeD_map (j : Nat) : rangeD 0 (j : Int) = (List.range j).map fun i => .int (i : Nat) := by
  simp [rangeD]
theorem rngS_nat (j : Nat) (h : j ≤ big) (S : Store) : rngS (.int (j : Nat)) S = .ok { xs := (List.range j).map fun i => .int (i : Nat) } S := by
  have e : smallR 0 (j : Int) = true := by
    simp only [smallR, Bool.and_eq_true, decide_eq_true_eq]
    unfold big at h
    omega
  show okIf (smallR 0 (j : Int) && decide ((j : Int) ≤ (big : Nat))) ({ xs := rangeD 0 (j : Int) } : Items) S = _
  rw [e, rangeD_map, decide_eq_true (by omega : (j : Int) ≤ (big : Nat))]; rfl
/-- an int or None -/
def eO : Option Int → D
  | none => .non
  | some i => .int i
theorem c_eqOI (o : Option Int) (i : Int) (S : Store) : cmpop .eq (eO o) (.int i) S = .ok (.bl (o == some i)) S := by cases o <;> rfl
theorem c_neOI (o : Option Int) (i : Int) (S : Store) : cmpop .ne (eO o) (.int i) S = .ok (.bl (!(o == some i))) S := by cases o <;> rfl
theorem c_eqOO (o p : Option Int) (S : Store) : cmpop .eq (eO o) (eO p) S = .ok (.bl (o == p)) S := by cases o <;> cases p <;> rfl
theorem c_neOO (o p : Option Int) (S : Store) : cmpop .ne (eO o) (eO p) S = .ok (.bl (!(o == p))) S := by cases o <;> cases p <;> rfl
theorem same_eO (o : Option Int) : (eO o).same .non = o.isNone := by cases o <;> rfl
theorem eqv_ints : ∀ a b : List Int, D.eqvL (a.map .int) (b.map .int) = decide (a = b)
  | [], [] => rfl
  | [], _ :: _ => rfl
  | _ :: _, [] => rfl
  | x :: a, y :: b => by
    simp only [List.map_cons, D.eqvL, D.eqv, eqv_ints a b, List.cons.injEq]
    by_cases h : x = y <;> simp [h]
theorem flat_lint (n : Nat) (ns : List Int) : D.flat (n + 1) (.lst (ns.map .int)) = true := by simp [D.flat, flat_ints]
theorem flat_tint (n : Nat) (ns : List Int) : D.flat (n + 1) (.tup (ns.map .int)) = true := by simp [D.flat, flat_ints]
theorem c_eqLI (a b : List Int) (S : Store) : cmpop .eq (.lst (a.map .int)) (.lst (b.map .int)) S = .ok (.bl (decide (a = b))) S := by
  show okIf (D.flat (59 + 1) (.lst (a.map .int)) && D.flat (59 + 1) (.lst (b.map .int))) (D.bl (D.eqvL (a.map .int) (b.map .int))) S = _
  rw [flat_lint, flat_lint, eqv_ints]; rfl
theorem c_neLI (a b : List Int) (S : Store) : cmpop .ne (.lst (a.map .int)) (.lst (b.map .int)) S = .ok (.bl (!decide (a = b))) S := by
  show okIf (D.flat (59 + 1) (.lst (a.map .int)) && D.flat (59 + 1) (.lst (b.map .int))) (D.bl (!D.eqvL (a.map .int) (b.map .int))) S = _
  rw [flat_lint, flat_lint, eqv_ints]; rfl
theorem c_eqL0 (a : List Int) (S : Store) : cmpop .eq (.lst (a.map .int)) (.lst []) S = .ok (.bl (decide (a = []))) S := c_eqLI a [] S
theorem c_neL0 (a : List Int) (S : Store) : cmpop .ne (.lst (a.map .int)) (.lst []) S = .ok (.bl (!decide (a = []))) S := c_neLI a [] S
theorem c_neT2 (a b c d : Int) (S : Store) : cmpop .ne (.tup [.int a, .int b]) (.tup [.int c, .int d]) S = .ok (.bl (!(decide (a = c) && decide (b = d)))) S := by
  show okIf true (D.bl (!((a == c) && ((b == d) && true)))) S = _
  by_cases h1 : a = c <;> by_cases h2 : b = d <;> simp [h1, h2]
theorem tgtA_nest (i j k : Nat) (τ : Slots) (x y z : D) (S : Store) : tgtA (.tup [.name i, .tup [.name j, .name k]]) τ (.tup [x, .tup [y, z]]) S = .nx (((τ.set i (some x)).set j (some y)).set k (some z)) S := rfl
theorem lenSet_T (ns : List Int) (h : ns.length < 4000) (S : Store) : lenSet (.tup (ns.map .int)) S = .ok (.int (unlike ns).length) S := by
  show (match (some (ns.map D.int)).bind allI with
    | some ns => okIf (decide (ns.length < 4000)) (D.int (unlike ns).length) S
    | none => .bad) = _
  rw [Option.bind_some, allI_ints]
  show okIf (decide (ns.length < 4000)) _ S = _
  rw [decide_eq_true h]; rfl
theorem unlike_of : ∀ (ns acc : List Int), (acc ++ ns).Nodup → ns.foldl unl acc = acc ++ ns
  | [], acc, _ => by simp
  | n :: r, acc, h => by
    have hn : n ∉ acc := fun q => by
      rw [List.nodup_append] at h
      exact h.2.2 n q n List.mem_cons_self rfl
    have e : unl acc n = acc ++ [n] := by
      unfold unl
      rw [if_neg]
      simpa using hn
    rw [List.foldl_cons, e, unlike_of r (acc ++ [n]) (by simpa using h)]
    simp
theorem unlike_nd {ns : List Int} (h : ns.Nodup) : unlike ns = ns := by
  have q := unlike_of ns [] (by simpa using h)
  simpa [unlike] using q
/-! ### stores -/
theorem mulOk_mod {x m j : Int} (h1 : 0 < m) (h2 : m < 2 ^ 64) : mulOk (x % m) j = true := by
  have := Int.emod_nonneg x (show m ≠ 0 by omega)
  have := Int.emod_lt_of_pos x h1
  exact mulOk_l _ _ (by omega) (by omega)
theorem putA_at {S : Store} {p : Nat} {xs : List D} {k : Int} {j : Nat} (h : S[p]? = some (.list xs)) (hj : Ev.ix xs.length k = some j) (v : D) (τ : Slots) : putA (.loc p) v τ (.int k) S = .nx τ (S.set p (.list (xs.set j v))) := by
  simp only [putA, setIt, h, hj, Option.map_some]
theorem set_at {S : Store} {p : Nat} {o o' : MO} (h : S[p]? = some o) : (S.set p o')[p]? = some o' := List.getElem?_set_self (List.getElem?_eq_some_iff.mp h).1
theorem set_off {S : Store} {p q : Nat} {o' : MO} (h : q ≠ p) : (S.set p o')[q]? = S[q]? := List.getElem?_set_ne h.symm
theorem c_memLoc {S : Store} {q : Nat} {ns : List Int} (h : S[q]? = some (.list (ns.map .int))) (i : Int) : cmpop .mem (.int i) (.loc q) S = .ok (.bl (decide (i ∈ ns))) S := by
  simp only [cmpop, seqOf, h, flat_ints, any_ints]; rfl
theorem c_nmemLoc {S : Store} {q : Nat} {ns : List Int} (h : S[q]? = some (.list (ns.map .int))) (i : Int) : cmpop .nmem (.int i) (.loc q) S = .ok (.bl (!decide (i ∈ ns))) S := by
  simp only [cmpop, seqOf, h, flat_ints, any_ints]; rfl
theorem k_tupLoc {S : Store} {q : Nat} {xs : List D} (h : S[q]? = some (.list xs)) : callB .tuple [.loc q] S = .ok (.tup xs) S := by
  simp only [callB, lstOf, h]
theorem k_lenLoc {S : Store} {q : Nat} {xs : List D} (h : S[q]? = some (.list xs)) : callB .len [.loc q] S = .ok (.int xs.length) S := by
  simp only [callB, seqOf, h]
theorem m_append {S : Store} {q : Nat} {xs : List D} (h : S[q]? = some (.list xs)) (hl : xs.length < 1000000) (y : D) : methB .append (.loc q) [y] S = .ok .non (S.set q (.list (xs ++ [y]))) := by
  have e : xs.length < big := Nat.lt_trans hl (by decide)
  simp only [methB, h, decide_eq_true e]; rfl
theorem app_new (S : Store) (o : MO) : (S ++ [o])[S.length]? = some o := by simp
theorem app_old {S : Store} {p : Nat} {o : MO} (h : S[p]? = some o) (o' : MO) : (S ++ [o'])[p]? = some o := by
  rw [List.getElem?_append_left (List.getElem?_eq_some_iff.mp h).1]; exact h
theorem at_lt {S : Store} {p : Nat} {o : MO} (h : S[p]? = some o) : p < S.length := (List.getElem?_eq_some_iff.mp h).1
/-- two numbers stand at p -/
def Two2 (S : Store) (p : Nat) : Prop := ∃ a b : Int, S[p]? = some (.list [.int a, .int b])
/-! ### how often a test holds in a row -/
def stop (p : Nat → Bool) : Nat → Nat
  | 0 => 0
  | n + 1 => if p 0 then stop (fun i => p (i + 1)) n + 1 else 0
theorem stop_le (p : Nat → Bool) : ∀ n, stop p n ≤ n := by
  intro n
  induction n generalizing p with
  | zero => exact Nat.le_refl _
  | succ n ih =>
    unfold stop
    split
    · have := ih fun i => p (i + 1); omega
    · omega
theorem stop_lt (p : Nat → Bool) (n : Nat) : ∀ i, i < stop p n → p i = true := by
  induction n generalizing p with
  | zero => intro i h; simp [stop] at h
  | succ n ih =>
    intro i h
    unfold stop at h
    split at h
    · next hp =>
      cases i with
      | zero => exact hp
      | succ i => exact ih (fun i => p (i + 1)) i (by omega)
    · omega
theorem stop_at (p : Nat → Bool) (n : Nat) (h : stop p n < n) : p (stop p n) = false := by
  induction n generalizing p with
  | zero => omega
  | succ n ih =>
    unfold stop at h ⊢
    by_cases hp : p 0 = true
    · rw [if_pos hp] at h ⊢
      exact ih (fun i => p (i + 1)) (by omega)
    · rw [if_neg hp]
      simpa using hp
theorem nodup_sub : ∀ (l m : List Int), l.Nodup → (∀ x ∈ l, x ∈ m) → l.length ≤ m.length
  | [], m, _, _ => Nat.zero_le _
  | x :: l, m, hn, hs => by
    rw [List.nodup_cons] at hn
    have hx := hs x List.mem_cons_self
    have h := nodup_sub l (m.erase x) hn.2 fun y hy => (List.mem_erase_of_ne (fun (e : y = x) => hn.1 (by rw [← e]; exact hy))).mpr (hs y (List.mem_cons_of_mem _ hy))
    rw [List.length_erase_of_mem hx] at h
    have := List.length_pos_of_mem hx
    simp only [List.length_cons]
    omega
theorem inj_nodup (f : Nat → Int) (hf : ∀ i j, f i = f j → i = j) (n : Nat) : ((List.range n).map f).Nodup := by
  induction n with
  | zero => simp
  | succ n ih =>
    rw [List.range_succ, List.map_append, List.nodup_append]
    refine ⟨ih, by simp, fun a ha b hb e => ?_⟩
    obtain ⟨i, hi, rfl⟩ := List.mem_map.mp ha
    simp only [List.map_cons, List.map_nil, List.mem_singleton] at hb
    subst hb
    have := hf i n e
    simp at hi; omega
theorem stop_in (bs : List Int) (f : Nat → Int) (hf : ∀ i j, f i = f j → i = j) : stop (fun i => decide (f i ∈ bs)) (bs.length + 1) < bs.length + 1 := by
  refine Nat.lt_of_le_of_ne (stop_le _ _) fun e => ?_
  have h := stop_lt (fun i => decide (f i ∈ bs)) (bs.length + 1)
  rw [e] at h
  have q := nodup_sub ((List.range (bs.length + 1)).map f) bs (inj_nodup f hf _) fun x hx => by
    obtain ⟨i, hi, rfl⟩ := List.mem_map.mp hx
    simpa using h i (by simpa using hi)
  simp at q; omega
/-- how many stand in a row below, above -/
def dns (bs : List Int) (e : Int) : Nat := stop (fun i => decide (e - 1 - (i : Int) ∈ bs)) (bs.length + 1)
def ups (bs : List Int) (e : Int) : Nat := stop (fun i => decide (e + 1 + (i : Int) ∈ bs)) (bs.length + 1)
theorem dns_lt (bs : List Int) (e : Int) : dns bs e < bs.length + 1 := stop_in bs (fun i => e - 1 - (i : Int)) fun i j (h : e - 1 - (i : Int) = e - 1 - (j : Int)) => by omega
theorem ups_lt (bs : List Int) (e : Int) : ups bs e < bs.length + 1 := stop_in bs (fun i => e + 1 + (i : Int)) fun i j (h : e + 1 + (i : Int) = e + 1 + (j : Int)) => by omega
theorem dns_in {bs : List Int} {e : Int} {i : Nat} (h : i < dns bs e) : e - 1 - (i : Int) ∈ bs := by simpa using stop_lt _ _ i h
theorem ups_in {bs : List Int} {e : Int} {i : Nat} (h : i < ups bs e) : e + 1 + (i : Int) ∈ bs := by simpa using stop_lt _ _ i h
theorem dns_out (bs : List Int) (e : Int) : e - 1 - (dns bs e : Int) ∉ bs := by
  have h := stop_at _ _ (dns_lt bs e)
  exact of_decide_eq_false h
theorem ups_out (bs : List Int) (e : Int) : e + 1 + (ups bs e : Int) ∉ bs := by
  have h := stop_at _ _ (ups_lt bs e)
  exact of_decide_eq_false h
theorem dns_perm {a b : List Int} (h : a.Perm b) (e : Int) : dns a e = dns b e := by
  unfold dns
  rw [h.length_eq]
  congr 1
  funext i
  simp [h.mem_iff]
theorem ups_perm {a b : List Int} (h : a.Perm b) (e : Int) : ups a e = ups b e := by
  unfold ups
  rw [h.length_eq]
  congr 1
  funext i
  simp [h.mem_iff]
theorem rep_sub (n : Nat) (a : Int) : Nat.repeat (fun x : Int => x - 1) n a = a - n := by
  induction n with
  | zero => simp [Nat.repeat]
  | succ n ih => simp only [Nat.repeat, ih]; omega
theorem rep_add (n : Nat) (a : Int) : Nat.repeat (fun x : Int => x + 1) n a = a + n := by
  induction n with
  | zero => simp [Nat.repeat]
  | succ n ih => simp only [Nat.repeat, ih]; omega
theorem rep_pairS (n : Nat) (m a : Int) : Nat.repeat (fun x : Int × Int => (x.1 + 1, x.2 - 1)) n (m, a) = (m + n, a - n) := by
  induction n with
  | zero => simp [Nat.repeat]
  | succ n ih => simp only [Nat.repeat, ih]; ext <;> simp <;> omega
theorem rep_pairA (n : Nat) (m a : Int) : Nat.repeat (fun x : Int × Int => (x.1 + 1, x.2 + 1)) n (m, a) = (m + n, a + n) := by
  induction n with
  | zero => simp [Nat.repeat]
  | succ n ih => simp only [Nat.repeat, ih]; ext <;> simp <;> omega
/-! ### the loops that the steps leave: take them by «generalize hf : forB _ _ _ _ _ _ = z» -/
theorem forB_run {cl : Nat → List D → Store → R D} {t : CT} {b : List CS} {τ : Slots} {S : Store} {z : RS} {A X : Type} {l : List X} {enc : X → D} (hf : forB cl t b τ { xs := l.map enc } S = z)
    (Inv : A → Slots → Prop) (step : A → X → A) (a : A) (h : ∀ x ∈ l, ∀ a τ, Inv a τ → ∃ τ1, bindT t (enc x) τ = some τ1 ∧ ∃ τ2, (evB cl b τ1 S = .nx τ2 S ∨ evB cl b τ1 S = .ct τ2 S) ∧ Inv (step a x) τ2) (h0 : Inv a τ) :
    ∃ τ', z = .nx τ' S ∧ Inv (l.foldl step a) τ' := by
  obtain ⟨τ', S', h1, h2, h3⟩ := for_run (I := { xs := l.map enc }) (bt := bindT t) (b := evB cl b) enc (fun a τ S' => S' = S ∧ Inv a τ) step rfl l (fun x hx a τ S' ⟨e, hi⟩ => by
    subst e
    obtain ⟨τ1, h1, τ2, h2, h3⟩ := h x hx a τ hi
    exact ⟨τ1, h1, τ2, S', h2, rfl, h3⟩) a τ S ⟨rfl, h0⟩
  subst h2
  exact ⟨τ', hf.symm.trans h1, h3⟩
/-- .. the store may change -/
theorem forB_runS {cl : Nat → List D → Store → R D} {t : CT} {b : List CS} {τ : Slots} {S : Store} {z : RS} {A X : Type} {l : List X} {enc : X → D} (hf : forB cl t b τ { xs := l.map enc } S = z)
    (Inv : A → Slots → Store → Prop) (step : A → X → A) (a : A) (h : ∀ x ∈ l, ∀ a τ S, Inv a τ S → ∃ τ1, bindT t (enc x) τ = some τ1 ∧ ∃ τ2 S2, (evB cl b τ1 S = .nx τ2 S2 ∨ evB cl b τ1 S = .ct τ2 S2) ∧ Inv (step a x) τ2 S2) (h0 : Inv a τ S) :
    ∃ τ' S', z = .nx τ' S' ∧ Inv (l.foldl step a) τ' S' := by
  obtain ⟨τ', S', h1, h2⟩ := for_run (I := { xs := l.map enc }) (bt := bindT t) (b := evB cl b) enc Inv step rfl l h a τ S h0
  exact ⟨τ', S', hf.symm.trans h1, h2⟩
/-- .. what is kept alone -/
theorem forB_inv {cl : Nat → List D → Store → R D} {t : CT} {b : List CS} {τ : Slots} {S : Store} {z : RS} {X : Type} {l : List X} {enc : X → D} (hf : forB cl t b τ { xs := l.map enc } S = z)
    (Inv : Slots → Store → Prop) (h : ∀ x ∈ l, ∀ τ S, Inv τ S → ∃ τ1, bindT t (enc x) τ = some τ1 ∧ ∃ τ2 S2, (evB cl b τ1 S = .nx τ2 S2 ∨ evB cl b τ1 S = .ct τ2 S2) ∧ Inv τ2 S2) (h0 : Inv τ S) :
    ∃ τ' S', z = .nx τ' S' ∧ Inv τ' S' := by
  obtain ⟨τ', S', h1, h2⟩ := forB_runS hf (fun (_ : Unit) => Inv) (fun _ _ => ()) () (fun x hx _ τ S hi => h x hx τ S hi) h0
  exact ⟨τ', S', h1, h2⟩
theorem forB_ret {cl : Nat → List D → Store → R D} {t : CT} {b : List CS} {τ : Slots} {S : Store} {z : RS} {A X : Type} {l : List X} {enc : X → D} (hf : forB cl t b τ { xs := l.map enc } S = z)
    (Inv : A → Slots → Prop) (step : A → X → Sum A D) (a : A) (h : ∀ x ∈ l, ∀ a τ, Inv a τ → ∃ τ1, bindT t (enc x) τ = some τ1 ∧ (∀ a', step a x = .inl a' → ∃ τ2, (evB cl b τ1 S = .nx τ2 S ∨ evB cl b τ1 S = .ct τ2 S) ∧ Inv a' τ2) ∧ (∀ d, step a x = .inr d → evB cl b τ1 S = .rt d S)) (h0 : Inv a τ) :
    (∀ a', goR step l a = .inl a' → ∃ τ', z = .nx τ' S ∧ Inv a' τ') ∧ (∀ d, goR step l a = .inr d → z = .rt d S) := by
  obtain ⟨h1, h2⟩ := for_ret (I := { xs := l.map enc }) (bt := bindT t) (b := evB cl b) enc (fun a τ _ => Inv a τ) step rfl S l h a τ h0
  refine ⟨fun a' e => ?_, fun d e => hf.symm.trans (h2 d e)⟩
  obtain ⟨τ', h3, h4⟩ := h1 a' e
  exact ⟨τ', hf.symm.trans h3, h4⟩
theorem compB_run {cl : Nat → List D → Store → R D} {t : CT} {c : Option CE} {e : CE} {τ : Slots} {S : Store} {z : R (List D)} {X : Type} {l : List X} {enc : X → D} (hf : compB cl t c e τ { xs := l.map enc } S = z)
    (p : X → Bool) (f : X → D) (h : ∀ x ∈ l, ∃ τ1, bindT t (enc x) τ = some τ1 ∧ evC cl c τ1 S = .ok (p x) S ∧ (p x = true → ev cl e τ1 S = .ok (f x) S)) : z = .ok ((l.filter p).map f) S := by
  have q := comp_run (I := { xs := l.map enc }) (bt := bindT t) (c := evC cl c) (e := ev cl e) enc p f τ S rfl l h
  rw [← hf]
  unfold compB
  rw [q]
  rfl
/-- .. without a test -/
theorem compB_map {cl : Nat → List D → Store → R D} {t : CT} {e : CE} {τ : Slots} {S : Store} {z : R (List D)} {X : Type} {l : List X} {enc : X → D} (hf : compB cl t none e τ { xs := l.map enc } S = z)
    (f : X → D) (h : ∀ x ∈ l, ∃ τ1, bindT t (enc x) τ = some τ1 ∧ ev cl e τ1 S = .ok (f x) S) : z = .ok (l.map f) S := by
  have q := compB_run hf (fun _ => true) f fun x hx => by
    obtain ⟨τ1, h1, h2⟩ := h x hx
    exact ⟨τ1, h1, rfl, fun _ => h2⟩
  rw [q, List.filter_eq_self.mpr (fun _ _ => rfl)]
theorem whB_run {cl : Nat → List D → Store → R D} {c : CE} {b : List CS} {τ : Slots} {S : Store} {z : RS} {A : Type} (hf : whB cl c b τ S = z) (Inv : A → Slots → Prop) (cond : A → Bool) (next : A → A) (a : A) (n : Nat)
    (hc : ∀ a τ, Inv a τ → ev cl c τ S = .ok (.bl (cond a)) S) (hb : ∀ a τ, Inv a τ → cond a = true → ∃ τ2, evB cl b τ S = .nx τ2 S ∧ Inv (next a) τ2)
    (h1 : ∀ i, i < n → cond (Nat.repeat next i a) = true) (h2 : cond (Nat.repeat next n a) = false) (hn : n < fuel) (h0 : Inv a τ) : ∃ τ', z = .nx τ' S ∧ Inv (Nat.repeat next n a) τ' := by
  obtain ⟨τ', h3, h4⟩ := wh_run (c := ev cl c) (b := evB cl b) (fun a τ _ => Inv a τ) cond next S hc hb n fuel a τ h0 h1 h2 hn
  exact ⟨τ', hf.symm.trans h3, h4⟩
end Ev
namespace Lw
open PySem L2 Ev
/-! ### rules -/
theorem s_is_from (n : Nat) (i l h : Int) (S : Store) : evF fs (n + 1) 0 [.int i, .int l, .int h] S = .ok (.bl (decide (l ≤ i) && decide (i ≤ h))) S := by
  rw [u0]
  simp only [e_int, e_bl, e_non, e_str, e_var, e_con, e_fnv, e_bin, y_bin1, y_bin, e_neg, e_not, y_not, y_notI, e_cmp, y_cmp1, y_cmp, e_chain, y_ch1, y_ch2, y_ch3, e_and, e_or, e_and1, e_or1, e_and2, e_or2, y_and, y_or, e_ite, y_ite, e_tup, y_tup0, y_tup1, y_tup2, y_tup3, y_tup4, y_tup5, e_lst, y_lst, e_idx, y_idx1, y_idx, e_sl, y_sl1, y_sl2, y_sl3, e_call, e_bi, y_bi, e_isi, y_isiI, y_isiB, y_isiB2, y_isiI2, y_isiT, y_isiS, y_isiL, e_lenset, e_meth, y_meth2, e_comp, y_comp, y_mk, y_mkT, m_f, m_t, e_o0, asI_int, e_o1, y_trB, e_c0, e_c1, e_nil, e_cons, y_es, y_con, i_val, y_valT, y_valL, i_rng2, y_rng, i_rng1, enuT_tup, i_enuT, i_zip, y_zip, t_set, y_set, setA_nil, setA_cons, t_par, tgtA_name, tgtA_pair, tgtA_three, t_tgt, t_setI, y_put1, y_put2, t_ret, y_ret, t_retN, t_ifs, y_ifs, t_wh, t_fors, t_ex, y_ex, t_brk, t_cnt, t_pass, t_nil, t_cons, q_nx, q_rt, q_bk, q_ct, q_if, n_if, n_rt, n_nx, g_ok, g_bl, g_int, g_bind, g_bindS, z_bind, z_bindS, z_o, z_if, z_no, List.getElem?_cons_zero, List.getElem?_cons_succ, Option.join_some, List.set_cons_zero, List.set_cons_succ, neg, getIx, seqOf, lstOf, rd, itemsOf, wipeS, D.same, ix_0, ix_1, ix_2, sl_to, b_add, b_sub, b_mul, b_div, b_mod, b_pow, b_cat, b_catT, b_catL, c_lt, c_le, c_gt, c_ge, c_eqI, c_neI, c_eqS, c_neS, c_eqB, c_neB, c_isN, c_notN, c_memL, c_nmemL, c_memT, c_nmemT, k_lenT, k_lenL, k_lenR, k_lenS, k_intI, k_intB, k_abs, k_tupL, k_tupT, k_max2, k_min2, k_divmod, k_all, k_sorted, k_sum, List.length_cons, List.length_nil, List.length_map, if_true, Bool.true_and, Bool.and_true, Bool.not_true, Bool.not_false, decide_true, Bool.false_eq_true, if_false, Int.reduceLT, Int.reduceLE, Int.reduceNeg, Int.reducePow, Int.reduceAdd, Int.reduceSub, Int.reduceMul, Nat.reduceAdd, Nat.reducePow, Nat.reduceLT, Nat.reduceLeDiff, Int.reduceEq, cond_true, cond_false, Bool.cond_false_right, Bool.cond_false_left, Bool.cond_true_left, Bool.cond_true_right]
structure Rl where
  n : Int
  up : Bool
  ps : List Int
def eRl (r : Rl) : D := .tup [.int r.n, .bl r.up, .tup (r.ps.map .int)]
theorem dk2 : divOk 2 = true := divOk_small 2 (by decide) (by decide)
theorem s_middle (n : Nat) (r : Rl) (lo hi : Int) (S : Store) : evF fs (n + 1) 2 [eRl r, .int lo, .int hi] S = .ok (.int (lo + (hi - lo + b2 r.up) / 2)) S := by
  rw [u2]
  simp only [e_int, e_bl, e_non, e_str, e_var, e_con, e_fnv, e_bin, y_bin1, y_bin, e_neg, e_not, y_not, y_notI, e_cmp, y_cmp1, y_cmp, e_chain, y_ch1, y_ch2, y_ch3, e_and, e_or, e_and1, e_or1, e_and2, e_or2, y_and, y_or, e_ite, y_ite, e_tup, y_tup0, y_tup1, y_tup2, y_tup3, y_tup4, y_tup5, e_lst, y_lst, e_idx, y_idx1, y_idx, e_sl, y_sl1, y_sl2, y_sl3, e_call, e_bi, y_bi, e_isi, y_isiI, y_isiB, y_isiB2, y_isiI2, y_isiT, y_isiS, y_isiL, e_lenset, e_meth, y_meth2, e_comp, y_comp, y_mk, y_mkT, m_f, m_t, e_o0, asI_int, e_o1, y_trB, e_c0, e_c1, e_nil, e_cons, y_es, y_con, i_val, y_valT, y_valL, i_rng2, y_rng, i_rng1, enuT_tup, i_enuT, i_zip, y_zip, t_set, y_set, setA_nil, setA_cons, t_par, tgtA_name, tgtA_pair, tgtA_three, t_tgt, t_setI, y_put1, y_put2, t_ret, y_ret, t_retN, t_ifs, y_ifs, t_wh, t_fors, t_ex, y_ex, t_brk, t_cnt, t_pass, t_nil, t_cons, q_nx, q_rt, q_bk, q_ct, q_if, n_if, n_rt, n_nx, g_ok, g_bl, g_int, g_bind, g_bindS, z_bind, z_bindS, z_o, z_if, z_no, List.getElem?_cons_zero, List.getElem?_cons_succ, Option.join_some, List.set_cons_zero, List.set_cons_succ, neg, getIx, seqOf, lstOf, rd, itemsOf, wipeS, D.same, ix_0, ix_1, ix_2, sl_to, b_add, b_sub, b_mul, b_div, b_mod, b_pow, b_cat, b_catT, b_catL, c_lt, c_le, c_gt, c_ge, c_eqI, c_neI, c_eqS, c_neS, c_eqB, c_neB, c_isN, c_notN, c_memL, c_nmemL, c_memT, c_nmemT, k_lenT, k_lenL, k_lenR, k_lenS, k_intI, k_intB, k_abs, k_tupL, k_tupT, k_max2, k_min2, k_divmod, k_all, k_sorted, k_sum, List.length_cons, List.length_nil, List.length_map, if_true, Bool.true_and, Bool.and_true, Bool.not_true, Bool.not_false, decide_true, Bool.false_eq_true, if_false, Int.reduceLT, Int.reduceLE, Int.reduceNeg, Int.reducePow, Int.reduceAdd, Int.reduceSub, Int.reduceMul, Nat.reduceAdd, Nat.reducePow, Nat.reduceLT, Nat.reduceLeDiff, Int.reduceEq, cond_true, cond_false, Bool.cond_false_right, Bool.cond_false_left, Bool.cond_true_left, Bool.cond_true_right, eRl, dk2]
def rowW (bs : List Int) (e : Int) : Int := (dns bs e : Int) + (ups bs e : Int) + 1
theorem rowW_perm {a b : List Int} (h : a.Perm b) (e : Int) : rowW a e = rowW b e := by unfold rowW; rw [dns_perm h, ups_perm h]
theorem s_row (n : Nat) (bs : List Int) (B : D) (hB : ∀ i S, cmpop .mem (.int i) B S = .ok (.bl (decide (i ∈ bs))) S) (e : Int) (hb : bs.length < 1000) (S : Store) : evF fs (n + 1) 3 [B, .int e] S = .ok (.int (rowW bs e)) S := by
  rw [u3]
  simp only [e_int, e_bl, e_non, e_str, e_var, e_con, e_fnv, e_bin, y_bin1, y_bin, e_neg, e_not, y_not, y_notI, e_cmp, y_cmp1, y_cmp, e_chain, y_ch1, y_ch2, y_ch3, e_and, e_or, e_and1, e_or1, e_and2, e_or2, y_and, y_or, e_ite, y_ite, e_tup, y_tup0, y_tup1, y_tup2, y_tup3, y_tup4, y_tup5, e_lst, y_lst, e_idx, y_idx1, y_idx, e_sl, y_sl1, y_sl2, y_sl3, e_call, e_bi, y_bi, e_isi, y_isiI, y_isiB, y_isiB2, y_isiI2, y_isiT, y_isiS, y_isiL, e_lenset, e_meth, y_meth2, e_comp, y_comp, y_mk, y_mkT, m_f, m_t, e_o0, asI_int, e_o1, y_trB, e_c0, e_c1, e_nil, e_cons, y_es, y_con, i_val, y_valT, y_valL, i_rng2, y_rng, i_rng1, enuT_tup, i_enuT, i_zip, y_zip, t_set, y_set, setA_nil, setA_cons, t_par, tgtA_name, tgtA_pair, tgtA_three, t_tgt, t_setI, y_put1, y_put2, t_ret, y_ret, t_retN, t_ifs, y_ifs, t_wh, t_fors, t_ex, y_ex, t_brk, t_cnt, t_pass, t_nil, t_cons, q_nx, q_rt, q_bk, q_ct, q_if, n_if, n_rt, n_nx, g_ok, g_bl, g_int, g_bind, g_bindS, z_bind, z_bindS, z_o, z_if, z_no, List.getElem?_cons_zero, List.getElem?_cons_succ, Option.join_some, List.set_cons_zero, List.set_cons_succ, neg, getIx, seqOf, lstOf, rd, itemsOf, wipeS, D.same, ix_0, ix_1, ix_2, sl_to, b_add, b_sub, b_mul, b_div, b_mod, b_pow, b_cat, b_catT, b_catL, c_lt, c_le, c_gt, c_ge, c_eqI, c_neI, c_eqS, c_neS, c_eqB, c_neB, c_isN, c_notN, c_memL, c_nmemL, c_memT, c_nmemT, k_lenT, k_lenL, k_lenR, k_lenS, k_intI, k_intB, k_abs, k_tupL, k_tupT, k_max2, k_min2, k_divmod, k_all, k_sorted, k_sum, List.length_cons, List.length_nil, List.length_map, if_true, Bool.true_and, Bool.and_true, Bool.not_true, Bool.not_false, decide_true, Bool.false_eq_true, if_false, Int.reduceLT, Int.reduceLE, Int.reduceNeg, Int.reducePow, Int.reduceAdd, Int.reduceSub, Int.reduceMul, Nat.reduceAdd, Nat.reducePow, Nat.reduceLT, Nat.reduceLeDiff, Int.reduceEq, cond_true, cond_false, Bool.cond_false_right, Bool.cond_false_left, Bool.cond_true_left, Bool.cond_true_right]
  generalize hf : whB _ _ _ _ _ = z
  obtain ⟨τ', rfl, x, rfl⟩ := whB_run hf (fun (a : Int) τ => ∃ x, τ = [some B, some (.int e), some (.int a), x]) (fun a => decide (a - 1 ∈ bs)) (fun a => a - 1) e (dns bs e) (by
    rintro a τ ⟨x, rfl⟩
    simp only [e_int, e_bl, e_non, e_str, e_var, e_con, e_fnv, e_bin, y_bin1, y_bin, e_neg, e_not, y_not, y_notI, e_cmp, y_cmp1, y_cmp, e_chain, y_ch1, y_ch2, y_ch3, e_and, e_or, e_and1, e_or1, e_and2, e_or2, y_and, y_or, e_ite, y_ite, e_tup, y_tup0, y_tup1, y_tup2, y_tup3, y_tup4, y_tup5, e_lst, y_lst, e_idx, y_idx1, y_idx, e_sl, y_sl1, y_sl2, y_sl3, e_call, e_bi, y_bi, e_isi, y_isiI, y_isiB, y_isiB2, y_isiI2, y_isiT, y_isiS, y_isiL, e_lenset, e_meth, y_meth2, e_comp, y_comp, y_mk, y_mkT, m_f, m_t, e_o0, asI_int, e_o1, y_trB, e_c0, e_c1, e_nil, e_cons, y_es, y_con, i_val, y_valT, y_valL, i_rng2, y_rng, i_rng1, enuT_tup, i_enuT, i_zip, y_zip, t_set, y_set, setA_nil, setA_cons, t_par, tgtA_name, tgtA_pair, tgtA_three, t_tgt, t_setI, y_put1, y_put2, t_ret, y_ret, t_retN, t_ifs, y_ifs, t_wh, t_fors, t_ex, y_ex, t_brk, t_cnt, t_pass, t_nil, t_cons, q_nx, q_rt, q_bk, q_ct, q_if, n_if, n_rt, n_nx, g_ok, g_bl, g_int, g_bind, g_bindS, z_bind, z_bindS, z_o, z_if, z_no, List.getElem?_cons_zero, List.getElem?_cons_succ, Option.join_some, List.set_cons_zero, List.set_cons_succ, neg, getIx, seqOf, lstOf, rd, itemsOf, wipeS, D.same, ix_0, ix_1, ix_2, sl_to, b_add, b_sub, b_mul, b_div, b_mod, b_pow, b_cat, b_catT, b_catL, c_lt, c_le, c_gt, c_ge, c_eqI, c_neI, c_eqS, c_neS, c_eqB, c_neB, c_isN, c_notN, c_memL, c_nmemL, c_memT, c_nmemT, k_lenT, k_lenL, k_lenR, k_lenS, k_intI, k_intB, k_abs, k_tupL, k_tupT, k_max2, k_min2, k_divmod, k_all, k_sorted, k_sum, List.length_cons, List.length_nil, List.length_map, if_true, Bool.true_and, Bool.and_true, Bool.not_true, Bool.not_false, decide_true, Bool.false_eq_true, if_false, Int.reduceLT, Int.reduceLE, Int.reduceNeg, Int.reducePow, Int.reduceAdd, Int.reduceSub, Int.reduceMul, Nat.reduceAdd, Nat.reducePow, Nat.reduceLT, Nat.reduceLeDiff, Int.reduceEq, cond_true, cond_false, Bool.cond_false_right, Bool.cond_false_left, Bool.cond_true_left, Bool.cond_true_right, hB]) (by
    rintro a τ ⟨x, rfl⟩ -
    refine ⟨_, ?_, x, rfl⟩
    simp only [e_int, e_bl, e_non, e_str, e_var, e_con, e_fnv, e_bin, y_bin1, y_bin, e_neg, e_not, y_not, y_notI, e_cmp, y_cmp1, y_cmp, e_chain, y_ch1, y_ch2, y_ch3, e_and, e_or, e_and1, e_or1, e_and2, e_or2, y_and, y_or, e_ite, y_ite, e_tup, y_tup0, y_tup1, y_tup2, y_tup3, y_tup4, y_tup5, e_lst, y_lst, e_idx, y_idx1, y_idx, e_sl, y_sl1, y_sl2, y_sl3, e_call, e_bi, y_bi, e_isi, y_isiI, y_isiB, y_isiB2, y_isiI2, y_isiT, y_isiS, y_isiL, e_lenset, e_meth, y_meth2, e_comp, y_comp, y_mk, y_mkT, m_f, m_t, e_o0, asI_int, e_o1, y_trB, e_c0, e_c1, e_nil, e_cons, y_es, y_con, i_val, y_valT, y_valL, i_rng2, y_rng, i_rng1, enuT_tup, i_enuT, i_zip, y_zip, t_set, y_set, setA_nil, setA_cons, t_par, tgtA_name, tgtA_pair, tgtA_three, t_tgt, t_setI, y_put1, y_put2, t_ret, y_ret, t_retN, t_ifs, y_ifs, t_wh, t_fors, t_ex, y_ex, t_brk, t_cnt, t_pass, t_nil, t_cons, q_nx, q_rt, q_bk, q_ct, q_if, n_if, n_rt, n_nx, g_ok, g_bl, g_int, g_bind, g_bindS, z_bind, z_bindS, z_o, z_if, z_no, List.getElem?_cons_zero, List.getElem?_cons_succ, Option.join_some, List.set_cons_zero, List.set_cons_succ, neg, getIx, seqOf, lstOf, rd, itemsOf, wipeS, D.same, ix_0, ix_1, ix_2, sl_to, b_add, b_sub, b_mul, b_div, b_mod, b_pow, b_cat, b_catT, b_catL, c_lt, c_le, c_gt, c_ge, c_eqI, c_neI, c_eqS, c_neS, c_eqB, c_neB, c_isN, c_notN, c_memL, c_nmemL, c_memT, c_nmemT, k_lenT, k_lenL, k_lenR, k_lenS, k_intI, k_intB, k_abs, k_tupL, k_tupT, k_max2, k_min2, k_divmod, k_all, k_sorted, k_sum, List.length_cons, List.length_nil, List.length_map, if_true, Bool.true_and, Bool.and_true, Bool.not_true, Bool.not_false, decide_true, Bool.false_eq_true, if_false, Int.reduceLT, Int.reduceLE, Int.reduceNeg, Int.reducePow, Int.reduceAdd, Int.reduceSub, Int.reduceMul, Nat.reduceAdd, Nat.reducePow, Nat.reduceLT, Nat.reduceLeDiff, Int.reduceEq, cond_true, cond_false, Bool.cond_false_right, Bool.cond_false_left, Bool.cond_true_left, Bool.cond_true_right]) (fun i hi => by
      rw [rep_sub]
      have := dns_in hi
      simp only [decide_eq_true_eq]
      rwa [show e - (i : Int) - 1 = e - 1 - (i : Int) by omega]) (by
      rw [rep_sub]
      have := dns_out bs e
      simp only [decide_eq_false_iff_not]
      rwa [show e - (dns bs e : Int) - 1 = e - 1 - (dns bs e : Int) by omega]) (by have := dns_lt bs e; show _ < 1000000000; omega) ⟨none, rfl⟩
  rw [rep_sub]
  simp only [e_int, e_bl, e_non, e_str, e_var, e_con, e_fnv, e_bin, y_bin1, y_bin, e_neg, e_not, y_not, y_notI, e_cmp, y_cmp1, y_cmp, e_chain, y_ch1, y_ch2, y_ch3, e_and, e_or, e_and1, e_or1, e_and2, e_or2, y_and, y_or, e_ite, y_ite, e_tup, y_tup0, y_tup1, y_tup2, y_tup3, y_tup4, y_tup5, e_lst, y_lst, e_idx, y_idx1, y_idx, e_sl, y_sl1, y_sl2, y_sl3, e_call, e_bi, y_bi, e_isi, y_isiI, y_isiB, y_isiB2, y_isiI2, y_isiT, y_isiS, y_isiL, e_lenset, e_meth, y_meth2, e_comp, y_comp, y_mk, y_mkT, m_f, m_t, e_o0, asI_int, e_o1, y_trB, e_c0, e_c1, e_nil, e_cons, y_es, y_con, i_val, y_valT, y_valL, i_rng2, y_rng, i_rng1, enuT_tup, i_enuT, i_zip, y_zip, t_set, y_set, setA_nil, setA_cons, t_par, tgtA_name, tgtA_pair, tgtA_three, t_tgt, t_setI, y_put1, y_put2, t_ret, y_ret, t_retN, t_ifs, y_ifs, t_wh, t_fors, t_ex, y_ex, t_brk, t_cnt, t_pass, t_nil, t_cons, q_nx, q_rt, q_bk, q_ct, q_if, n_if, n_rt, n_nx, g_ok, g_bl, g_int, g_bind, g_bindS, z_bind, z_bindS, z_o, z_if, z_no, List.getElem?_cons_zero, List.getElem?_cons_succ, Option.join_some, List.set_cons_zero, List.set_cons_succ, neg, getIx, seqOf, lstOf, rd, itemsOf, wipeS, D.same, ix_0, ix_1, ix_2, sl_to, b_add, b_sub, b_mul, b_div, b_mod, b_pow, b_cat, b_catT, b_catL, c_lt, c_le, c_gt, c_ge, c_eqI, c_neI, c_eqS, c_neS, c_eqB, c_neB, c_isN, c_notN, c_memL, c_nmemL, c_memT, c_nmemT, k_lenT, k_lenL, k_lenR, k_lenS, k_intI, k_intB, k_abs, k_tupL, k_tupT, k_max2, k_min2, k_divmod, k_all, k_sorted, k_sum, List.length_cons, List.length_nil, List.length_map, if_true, Bool.true_and, Bool.and_true, Bool.not_true, Bool.not_false, decide_true, Bool.false_eq_true, if_false, Int.reduceLT, Int.reduceLE, Int.reduceNeg, Int.reducePow, Int.reduceAdd, Int.reduceSub, Int.reduceMul, Nat.reduceAdd, Nat.reducePow, Nat.reduceLT, Nat.reduceLeDiff, Int.reduceEq, cond_true, cond_false, Bool.cond_false_right, Bool.cond_false_left, Bool.cond_true_left, Bool.cond_true_right]
  generalize hf : whB _ _ _ _ _ = z
  obtain ⟨τ', rfl, x, rfl⟩ := whB_run hf (fun (a : Int) τ => ∃ x, τ = [some B, x, some (.int (e - (dns bs e : Int))), some (.int a)]) (fun a => decide (a + 1 ∈ bs)) (fun a => a + 1) e (ups bs e) (by
    rintro a τ ⟨x, rfl⟩
    simp only [e_int, e_bl, e_non, e_str, e_var, e_con, e_fnv, e_bin, y_bin1, y_bin, e_neg, e_not, y_not, y_notI, e_cmp, y_cmp1, y_cmp, e_chain, y_ch1, y_ch2, y_ch3, e_and, e_or, e_and1, e_or1, e_and2, e_or2, y_and, y_or, e_ite, y_ite, e_tup, y_tup0, y_tup1, y_tup2, y_tup3, y_tup4, y_tup5, e_lst, y_lst, e_idx, y_idx1, y_idx, e_sl, y_sl1, y_sl2, y_sl3, e_call, e_bi, y_bi, e_isi, y_isiI, y_isiB, y_isiB2, y_isiI2, y_isiT, y_isiS, y_isiL, e_lenset, e_meth, y_meth2, e_comp, y_comp, y_mk, y_mkT, m_f, m_t, e_o0, asI_int, e_o1, y_trB, e_c0, e_c1, e_nil, e_cons, y_es, y_con, i_val, y_valT, y_valL, i_rng2, y_rng, i_rng1, enuT_tup, i_enuT, i_zip, y_zip, t_set, y_set, setA_nil, setA_cons, t_par, tgtA_name, tgtA_pair, tgtA_three, t_tgt, t_setI, y_put1, y_put2, t_ret, y_ret, t_retN, t_ifs, y_ifs, t_wh, t_fors, t_ex, y_ex, t_brk, t_cnt, t_pass, t_nil, t_cons, q_nx, q_rt, q_bk, q_ct, q_if, n_if, n_rt, n_nx, g_ok, g_bl, g_int, g_bind, g_bindS, z_bind, z_bindS, z_o, z_if, z_no, List.getElem?_cons_zero, List.getElem?_cons_succ, Option.join_some, List.set_cons_zero, List.set_cons_succ, neg, getIx, seqOf, lstOf, rd, itemsOf, wipeS, D.same, ix_0, ix_1, ix_2, sl_to, b_add, b_sub, b_mul, b_div, b_mod, b_pow, b_cat, b_catT, b_catL, c_lt, c_le, c_gt, c_ge, c_eqI, c_neI, c_eqS, c_neS, c_eqB, c_neB, c_isN, c_notN, c_memL, c_nmemL, c_memT, c_nmemT, k_lenT, k_lenL, k_lenR, k_lenS, k_intI, k_intB, k_abs, k_tupL, k_tupT, k_max2, k_min2, k_divmod, k_all, k_sorted, k_sum, List.length_cons, List.length_nil, List.length_map, if_true, Bool.true_and, Bool.and_true, Bool.not_true, Bool.not_false, decide_true, Bool.false_eq_true, if_false, Int.reduceLT, Int.reduceLE, Int.reduceNeg, Int.reducePow, Int.reduceAdd, Int.reduceSub, Int.reduceMul, Nat.reduceAdd, Nat.reducePow, Nat.reduceLT, Nat.reduceLeDiff, Int.reduceEq, cond_true, cond_false, Bool.cond_false_right, Bool.cond_false_left, Bool.cond_true_left, Bool.cond_true_right, hB]) (by
    rintro a τ ⟨x, rfl⟩ -
    refine ⟨_, ?_, x, rfl⟩
    simp only [e_int, e_bl, e_non, e_str, e_var, e_con, e_fnv, e_bin, y_bin1, y_bin, e_neg, e_not, y_not, y_notI, e_cmp, y_cmp1, y_cmp, e_chain, y_ch1, y_ch2, y_ch3, e_and, e_or, e_and1, e_or1, e_and2, e_or2, y_and, y_or, e_ite, y_ite, e_tup, y_tup0, y_tup1, y_tup2, y_tup3, y_tup4, y_tup5, e_lst, y_lst, e_idx, y_idx1, y_idx, e_sl, y_sl1, y_sl2, y_sl3, e_call, e_bi, y_bi, e_isi, y_isiI, y_isiB, y_isiB2, y_isiI2, y_isiT, y_isiS, y_isiL, e_lenset, e_meth, y_meth2, e_comp, y_comp, y_mk, y_mkT, m_f, m_t, e_o0, asI_int, e_o1, y_trB, e_c0, e_c1, e_nil, e_cons, y_es, y_con, i_val, y_valT, y_valL, i_rng2, y_rng, i_rng1, enuT_tup, i_enuT, i_zip, y_zip, t_set, y_set, setA_nil, setA_cons, t_par, tgtA_name, tgtA_pair, tgtA_three, t_tgt, t_setI, y_put1, y_put2, t_ret, y_ret, t_retN, t_ifs, y_ifs, t_wh, t_fors, t_ex, y_ex, t_brk, t_cnt, t_pass, t_nil, t_cons, q_nx, q_rt, q_bk, q_ct, q_if, n_if, n_rt, n_nx, g_ok, g_bl, g_int, g_bind, g_bindS, z_bind, z_bindS, z_o, z_if, z_no, List.getElem?_cons_zero, List.getElem?_cons_succ, Option.join_some, List.set_cons_zero, List.set_cons_succ, neg, getIx, seqOf, lstOf, rd, itemsOf, wipeS, D.same, ix_0, ix_1, ix_2, sl_to, b_add, b_sub, b_mul, b_div, b_mod, b_pow, b_cat, b_catT, b_catL, c_lt, c_le, c_gt, c_ge, c_eqI, c_neI, c_eqS, c_neS, c_eqB, c_neB, c_isN, c_notN, c_memL, c_nmemL, c_memT, c_nmemT, k_lenT, k_lenL, k_lenR, k_lenS, k_intI, k_intB, k_abs, k_tupL, k_tupT, k_max2, k_min2, k_divmod, k_all, k_sorted, k_sum, List.length_cons, List.length_nil, List.length_map, if_true, Bool.true_and, Bool.and_true, Bool.not_true, Bool.not_false, decide_true, Bool.false_eq_true, if_false, Int.reduceLT, Int.reduceLE, Int.reduceNeg, Int.reducePow, Int.reduceAdd, Int.reduceSub, Int.reduceMul, Nat.reduceAdd, Nat.reducePow, Nat.reduceLT, Nat.reduceLeDiff, Int.reduceEq, cond_true, cond_false, Bool.cond_false_right, Bool.cond_false_left, Bool.cond_true_left, Bool.cond_true_right]) (fun i hi => by
      rw [rep_add]
      have := ups_in hi
      simp only [decide_eq_true_eq]
      rwa [show e + (i : Int) + 1 = e + 1 + (i : Int) by omega]) (by
      rw [rep_add]
      have := ups_out bs e
      simp only [decide_eq_false_iff_not]
      rwa [show e + (ups bs e : Int) + 1 = e + 1 + (ups bs e : Int) by omega]) (by have := ups_lt bs e; show _ < 1000000000; omega) ⟨_, rfl⟩
  rw [rep_add]
  simp only [e_int, e_bl, e_non, e_str, e_var, e_con, e_fnv, e_bin, y_bin1, y_bin, e_neg, e_not, y_not, y_notI, e_cmp, y_cmp1, y_cmp, e_chain, y_ch1, y_ch2, y_ch3, e_and, e_or, e_and1, e_or1, e_and2, e_or2, y_and, y_or, e_ite, y_ite, e_tup, y_tup0, y_tup1, y_tup2, y_tup3, y_tup4, y_tup5, e_lst, y_lst, e_idx, y_idx1, y_idx, e_sl, y_sl1, y_sl2, y_sl3, e_call, e_bi, y_bi, e_isi, y_isiI, y_isiB, y_isiB2, y_isiI2, y_isiT, y_isiS, y_isiL, e_lenset, e_meth, y_meth2, e_comp, y_comp, y_mk, y_mkT, m_f, m_t, e_o0, asI_int, e_o1, y_trB, e_c0, e_c1, e_nil, e_cons, y_es, y_con, i_val, y_valT, y_valL, i_rng2, y_rng, i_rng1, enuT_tup, i_enuT, i_zip, y_zip, t_set, y_set, setA_nil, setA_cons, t_par, tgtA_name, tgtA_pair, tgtA_three, t_tgt, t_setI, y_put1, y_put2, t_ret, y_ret, t_retN, t_ifs, y_ifs, t_wh, t_fors, t_ex, y_ex, t_brk, t_cnt, t_pass, t_nil, t_cons, q_nx, q_rt, q_bk, q_ct, q_if, n_if, n_rt, n_nx, g_ok, g_bl, g_int, g_bind, g_bindS, z_bind, z_bindS, z_o, z_if, z_no, List.getElem?_cons_zero, List.getElem?_cons_succ, Option.join_some, List.set_cons_zero, List.set_cons_succ, neg, getIx, seqOf, lstOf, rd, itemsOf, wipeS, D.same, ix_0, ix_1, ix_2, sl_to, b_add, b_sub, b_mul, b_div, b_mod, b_pow, b_cat, b_catT, b_catL, c_lt, c_le, c_gt, c_ge, c_eqI, c_neI, c_eqS, c_neS, c_eqB, c_neB, c_isN, c_notN, c_memL, c_nmemL, c_memT, c_nmemT, k_lenT, k_lenL, k_lenR, k_lenS, k_intI, k_intB, k_abs, k_tupL, k_tupT, k_max2, k_min2, k_divmod, k_all, k_sorted, k_sum, List.length_cons, List.length_nil, List.length_map, if_true, Bool.true_and, Bool.and_true, Bool.not_true, Bool.not_false, decide_true, Bool.false_eq_true, if_false, Int.reduceLT, Int.reduceLE, Int.reduceNeg, Int.reducePow, Int.reduceAdd, Int.reduceSub, Int.reduceMul, Nat.reduceAdd, Nat.reducePow, Nat.reduceLT, Nat.reduceLeDiff, Int.reduceEq, cond_true, cond_false, Bool.cond_false_right, Bool.cond_false_left, Bool.cond_true_left, Bool.cond_true_right, rowW]
  congr 2
  omega
def MOST : Int := 1000000000000000000000000000000
def mid (r : Rl) (lo hi : Int) : Int := lo + (hi - lo + b2 r.up) / 2
def nxt (r : Rl) (lo hi : Int) (bs : List Int) : Option Int :=
  if hi - lo ≤ r.n then none else (r.ps.map (mid r lo hi + ·)).find? fun e => decide (lo < e) && decide (e < hi) && !decide (e ∈ bs)
theorem goR_find (f : Int → Int) (p : Int → Bool) : ∀ (l : List Int), goR (fun (_ : Unit) x => if p (f x) then .inr (D.int (f x)) else .inl ()) l () = match (l.map f).find? p with
    | none => .inl ()
    | some e => .inr (.int e)
  | [] => rfl
  | x :: l => by
    simp only [goR, List.map_cons, List.find?_cons]
    cases h : p (f x) with
    | true => simp
    | false => simpa using goR_find f p l
theorem s_next_of (n : Nat) (r : Rl) (lo hi : Int) (bs : List Int) (B : D) (hB : ∀ i S, cmpop .nmem (.int i) B S = .ok (.bl (!decide (i ∈ bs))) S) (S : Store) : evF fs (n + 2) 4 [eRl r, .int lo, .int hi, B] S = .ok (eO (nxt r lo hi bs)) S := by
  rw [u4]
  unfold nxt
  by_cases h : hi - lo ≤ r.n
  · rw [if_pos h]
    rw [show eRl r = .tup [.int r.n, .bl r.up, .tup (r.ps.map .int)] from rfl]
    simp only [e_int, e_bl, e_non, e_str, e_var, e_con, e_fnv, e_bin, y_bin1, y_bin, e_neg, e_not, y_not, y_notI, e_cmp, y_cmp1, y_cmp, e_chain, y_ch1, y_ch2, y_ch3, e_and, e_or, e_and1, e_or1, e_and2, e_or2, y_and, y_or, e_ite, y_ite, e_tup, y_tup0, y_tup1, y_tup2, y_tup3, y_tup4, y_tup5, e_lst, y_lst, e_idx, y_idx1, y_idx, e_sl, y_sl1, y_sl2, y_sl3, e_call, e_bi, y_bi, e_isi, y_isiI, y_isiB, y_isiB2, y_isiI2, y_isiT, y_isiS, y_isiL, e_lenset, e_meth, y_meth2, e_comp, y_comp, y_mk, y_mkT, m_f, m_t, e_o0, asI_int, e_o1, y_trB, e_c0, e_c1, e_nil, e_cons, y_es, y_con, i_val, y_valT, y_valL, i_rng2, y_rng, i_rng1, enuT_tup, i_enuT, i_zip, y_zip, t_set, y_set, setA_nil, setA_cons, t_par, tgtA_name, tgtA_pair, tgtA_three, t_tgt, t_setI, y_put1, y_put2, t_ret, y_ret, t_retN, t_ifs, y_ifs, t_wh, t_fors, t_ex, y_ex, t_brk, t_cnt, t_pass, t_nil, t_cons, q_nx, q_rt, q_bk, q_ct, q_if, n_if, n_rt, n_nx, g_ok, g_bl, g_int, g_bind, g_bindS, z_bind, z_bindS, z_o, z_if, z_no, List.getElem?_cons_zero, List.getElem?_cons_succ, Option.join_some, List.set_cons_zero, List.set_cons_succ, neg, getIx, seqOf, lstOf, rd, itemsOf, wipeS, D.same, ix_0, ix_1, ix_2, sl_to, b_add, b_sub, b_mul, b_div, b_mod, b_pow, b_cat, b_catT, b_catL, c_lt, c_le, c_gt, c_ge, c_eqI, c_neI, c_eqS, c_neS, c_eqB, c_neB, c_isN, c_notN, c_memL, c_nmemL, c_memT, c_nmemT, k_lenT, k_lenL, k_lenR, k_lenS, k_intI, k_intB, k_abs, k_tupL, k_tupT, k_max2, k_min2, k_divmod, k_all, k_sorted, k_sum, List.length_cons, List.length_nil, List.length_map, if_true, Bool.true_and, Bool.and_true, Bool.not_true, Bool.not_false, decide_true, Bool.false_eq_true, if_false, Int.reduceLT, Int.reduceLE, Int.reduceNeg, Int.reducePow, Int.reduceAdd, Int.reduceSub, Int.reduceMul, Nat.reduceAdd, Nat.reducePow, Nat.reduceLT, Nat.reduceLeDiff, Int.reduceEq, cond_true, cond_false, Bool.cond_false_right, Bool.cond_false_left, Bool.cond_true_left, Bool.cond_true_right, h]
    rfl
  · rw [if_neg h]
    have sm := fun S => s_middle n r lo hi S
    rw [show eRl r = .tup [.int r.n, .bl r.up, .tup (r.ps.map .int)] from rfl] at sm ⊢
    simp only [e_int, e_bl, e_non, e_str, e_var, e_con, e_fnv, e_bin, y_bin1, y_bin, e_neg, e_not, y_not, y_notI, e_cmp, y_cmp1, y_cmp, e_chain, y_ch1, y_ch2, y_ch3, e_and, e_or, e_and1, e_or1, e_and2, e_or2, y_and, y_or, e_ite, y_ite, e_tup, y_tup0, y_tup1, y_tup2, y_tup3, y_tup4, y_tup5, e_lst, y_lst, e_idx, y_idx1, y_idx, e_sl, y_sl1, y_sl2, y_sl3, e_call, e_bi, y_bi, e_isi, y_isiI, y_isiB, y_isiB2, y_isiI2, y_isiT, y_isiS, y_isiL, e_lenset, e_meth, y_meth2, e_comp, y_comp, y_mk, y_mkT, m_f, m_t, e_o0, asI_int, e_o1, y_trB, e_c0, e_c1, e_nil, e_cons, y_es, y_con, i_val, y_valT, y_valL, i_rng2, y_rng, i_rng1, enuT_tup, i_enuT, i_zip, y_zip, t_set, y_set, setA_nil, setA_cons, t_par, tgtA_name, tgtA_pair, tgtA_three, t_tgt, t_setI, y_put1, y_put2, t_ret, y_ret, t_retN, t_ifs, y_ifs, t_wh, t_fors, t_ex, y_ex, t_brk, t_cnt, t_pass, t_nil, t_cons, q_nx, q_rt, q_bk, q_ct, q_if, n_if, n_rt, n_nx, g_ok, g_bl, g_int, g_bind, g_bindS, z_bind, z_bindS, z_o, z_if, z_no, List.getElem?_cons_zero, List.getElem?_cons_succ, Option.join_some, List.set_cons_zero, List.set_cons_succ, neg, getIx, seqOf, lstOf, rd, itemsOf, wipeS, D.same, ix_0, ix_1, ix_2, sl_to, b_add, b_sub, b_mul, b_div, b_mod, b_pow, b_cat, b_catT, b_catL, c_lt, c_le, c_gt, c_ge, c_eqI, c_neI, c_eqS, c_neS, c_eqB, c_neB, c_isN, c_notN, c_memL, c_nmemL, c_memT, c_nmemT, k_lenT, k_lenL, k_lenR, k_lenS, k_intI, k_intB, k_abs, k_tupL, k_tupT, k_max2, k_min2, k_divmod, k_all, k_sorted, k_sum, List.length_cons, List.length_nil, List.length_map, if_true, Bool.true_and, Bool.and_true, Bool.not_true, Bool.not_false, decide_true, Bool.false_eq_true, if_false, Int.reduceLT, Int.reduceLE, Int.reduceNeg, Int.reducePow, Int.reduceAdd, Int.reduceSub, Int.reduceMul, Nat.reduceAdd, Nat.reducePow, Nat.reduceLT, Nat.reduceLeDiff, Int.reduceEq, cond_true, cond_false, Bool.cond_false_right, Bool.cond_false_left, Bool.cond_true_left, Bool.cond_true_right, h, decide_false, sm]
    generalize hf : forB _ _ _ _ _ _ = z
    obtain ⟨q1, q2⟩ := forB_ret hf (fun (_ : Unit) τ => ∃ x y, τ = [some (.tup [.int r.n, .bl r.up, .tup (r.ps.map .int)]), some (.int lo), some (.int hi), some B, some (.int (mid r lo hi)), x, y])
      (fun _ x => if (decide (lo < mid r lo hi + x) && decide (mid r lo hi + x < hi) && !decide (mid r lo hi + x ∈ bs)) = true then .inr (D.int (mid r lo hi + x)) else .inl ()) () (by
      rintro x - _ τ ⟨y, w, rfl⟩
      refine ⟨_, rfl, fun a' e => ?_, fun d e => ?_⟩
      · split at e
        · cases e
        · next hn =>
          refine ⟨_, .inl ?_, some (.int x), some (.int (mid r lo hi + x)), rfl⟩
          simp only [e_int, e_bl, e_non, e_str, e_var, e_con, e_fnv, e_bin, y_bin1, y_bin, e_neg, e_not, y_not, y_notI, e_cmp, y_cmp1, y_cmp, e_chain, y_ch1, y_ch2, y_ch3, e_and, e_or, e_and1, e_or1, e_and2, e_or2, y_and, y_or, e_ite, y_ite, e_tup, y_tup0, y_tup1, y_tup2, y_tup3, y_tup4, y_tup5, e_lst, y_lst, e_idx, y_idx1, y_idx, e_sl, y_sl1, y_sl2, y_sl3, e_call, e_bi, y_bi, e_isi, y_isiI, y_isiB, y_isiB2, y_isiI2, y_isiT, y_isiS, y_isiL, e_lenset, e_meth, y_meth2, e_comp, y_comp, y_mk, y_mkT, m_f, m_t, e_o0, asI_int, e_o1, y_trB, e_c0, e_c1, e_nil, e_cons, y_es, y_con, i_val, y_valT, y_valL, i_rng2, y_rng, i_rng1, enuT_tup, i_enuT, i_zip, y_zip, t_set, y_set, setA_nil, setA_cons, t_par, tgtA_name, tgtA_pair, tgtA_three, t_tgt, t_setI, y_put1, y_put2, t_ret, y_ret, t_retN, t_ifs, y_ifs, t_wh, t_fors, t_ex, y_ex, t_brk, t_cnt, t_pass, t_nil, t_cons, q_nx, q_rt, q_bk, q_ct, q_if, n_if, n_rt, n_nx, g_ok, g_bl, g_int, g_bind, g_bindS, z_bind, z_bindS, z_o, z_if, z_no, List.getElem?_cons_zero, List.getElem?_cons_succ, Option.join_some, List.set_cons_zero, List.set_cons_succ, neg, getIx, seqOf, lstOf, rd, itemsOf, wipeS, D.same, ix_0, ix_1, ix_2, sl_to, b_add, b_sub, b_mul, b_div, b_mod, b_pow, b_cat, b_catT, b_catL, c_lt, c_le, c_gt, c_ge, c_eqI, c_neI, c_eqS, c_neS, c_eqB, c_neB, c_isN, c_notN, c_memL, c_nmemL, c_memT, c_nmemT, k_lenT, k_lenL, k_lenR, k_lenS, k_intI, k_intB, k_abs, k_tupL, k_tupT, k_max2, k_min2, k_divmod, k_all, k_sorted, k_sum, List.length_cons, List.length_nil, List.length_map, if_true, Bool.true_and, Bool.and_true, Bool.not_true, Bool.not_false, decide_true, Bool.false_eq_true, if_false, Int.reduceLT, Int.reduceLE, Int.reduceNeg, Int.reducePow, Int.reduceAdd, Int.reduceSub, Int.reduceMul, Nat.reduceAdd, Nat.reducePow, Nat.reduceLT, Nat.reduceLeDiff, Int.reduceEq, cond_true, cond_false, Bool.cond_false_right, Bool.cond_false_left, Bool.cond_true_left, Bool.cond_true_right, hB]
          by_cases h1 : lo < mid r lo hi + x <;> by_cases h2 : mid r lo hi + x < hi <;> by_cases h3 : mid r lo hi + x ∈ bs <;> simp [h1, h2, h3] at hn ⊢
      · split at e
        · next hn =>
          cases e
          simp only [Bool.and_eq_true, decide_eq_true_eq, Bool.not_eq_true', decide_eq_false_iff_not] at hn
          obtain ⟨⟨h1, h2⟩, h3⟩ := hn
          simp only [e_int, e_bl, e_non, e_str, e_var, e_con, e_fnv, e_bin, y_bin1, y_bin, e_neg, e_not, y_not, y_notI, e_cmp, y_cmp1, y_cmp, e_chain, y_ch1, y_ch2, y_ch3, e_and, e_or, e_and1, e_or1, e_and2, e_or2, y_and, y_or, e_ite, y_ite, e_tup, y_tup0, y_tup1, y_tup2, y_tup3, y_tup4, y_tup5, e_lst, y_lst, e_idx, y_idx1, y_idx, e_sl, y_sl1, y_sl2, y_sl3, e_call, e_bi, y_bi, e_isi, y_isiI, y_isiB, y_isiB2, y_isiI2, y_isiT, y_isiS, y_isiL, e_lenset, e_meth, y_meth2, e_comp, y_comp, y_mk, y_mkT, m_f, m_t, e_o0, asI_int, e_o1, y_trB, e_c0, e_c1, e_nil, e_cons, y_es, y_con, i_val, y_valT, y_valL, i_rng2, y_rng, i_rng1, enuT_tup, i_enuT, i_zip, y_zip, t_set, y_set, setA_nil, setA_cons, t_par, tgtA_name, tgtA_pair, tgtA_three, t_tgt, t_setI, y_put1, y_put2, t_ret, y_ret, t_retN, t_ifs, y_ifs, t_wh, t_fors, t_ex, y_ex, t_brk, t_cnt, t_pass, t_nil, t_cons, q_nx, q_rt, q_bk, q_ct, q_if, n_if, n_rt, n_nx, g_ok, g_bl, g_int, g_bind, g_bindS, z_bind, z_bindS, z_o, z_if, z_no, List.getElem?_cons_zero, List.getElem?_cons_succ, Option.join_some, List.set_cons_zero, List.set_cons_succ, neg, getIx, seqOf, lstOf, rd, itemsOf, wipeS, D.same, ix_0, ix_1, ix_2, sl_to, b_add, b_sub, b_mul, b_div, b_mod, b_pow, b_cat, b_catT, b_catL, c_lt, c_le, c_gt, c_ge, c_eqI, c_neI, c_eqS, c_neS, c_eqB, c_neB, c_isN, c_notN, c_memL, c_nmemL, c_memT, c_nmemT, k_lenT, k_lenL, k_lenR, k_lenS, k_intI, k_intB, k_abs, k_tupL, k_tupT, k_max2, k_min2, k_divmod, k_all, k_sorted, k_sum, List.length_cons, List.length_nil, List.length_map, if_true, Bool.true_and, Bool.and_true, Bool.not_true, Bool.not_false, decide_true, Bool.false_eq_true, if_false, Int.reduceLT, Int.reduceLE, Int.reduceNeg, Int.reducePow, Int.reduceAdd, Int.reduceSub, Int.reduceMul, Nat.reduceAdd, Nat.reducePow, Nat.reduceLT, Nat.reduceLeDiff, Int.reduceEq, cond_true, cond_false, Bool.cond_false_right, Bool.cond_false_left, Bool.cond_true_left, Bool.cond_true_right, hB, h1, h2, h3, decide_false]
        · cases e) ⟨none, none, rfl⟩
    have g := goR_find (mid r lo hi + ·) (fun e => decide (lo < e) && decide (e < hi) && !decide (e ∈ bs)) r.ps
    cases hz : (r.ps.map (mid r lo hi + ·)).find? fun e => decide (lo < e) && decide (e < hi) && !decide (e ∈ bs) with
    | none =>
      rw [hz] at g
      obtain ⟨τ', rfl, x, y, rfl⟩ := q1 () g
      simp only [e_int, e_bl, e_non, e_str, e_var, e_con, e_fnv, e_bin, y_bin1, y_bin, e_neg, e_not, y_not, y_notI, e_cmp, y_cmp1, y_cmp, e_chain, y_ch1, y_ch2, y_ch3, e_and, e_or, e_and1, e_or1, e_and2, e_or2, y_and, y_or, e_ite, y_ite, e_tup, y_tup0, y_tup1, y_tup2, y_tup3, y_tup4, y_tup5, e_lst, y_lst, e_idx, y_idx1, y_idx, e_sl, y_sl1, y_sl2, y_sl3, e_call, e_bi, y_bi, e_isi, y_isiI, y_isiB, y_isiB2, y_isiI2, y_isiT, y_isiS, y_isiL, e_lenset, e_meth, y_meth2, e_comp, y_comp, y_mk, y_mkT, m_f, m_t, e_o0, asI_int, e_o1, y_trB, e_c0, e_c1, e_nil, e_cons, y_es, y_con, i_val, y_valT, y_valL, i_rng2, y_rng, i_rng1, enuT_tup, i_enuT, i_zip, y_zip, t_set, y_set, setA_nil, setA_cons, t_par, tgtA_name, tgtA_pair, tgtA_three, t_tgt, t_setI, y_put1, y_put2, t_ret, y_ret, t_retN, t_ifs, y_ifs, t_wh, t_fors, t_ex, y_ex, t_brk, t_cnt, t_pass, t_nil, t_cons, q_nx, q_rt, q_bk, q_ct, q_if, n_if, n_rt, n_nx, g_ok, g_bl, g_int, g_bind, g_bindS, z_bind, z_bindS, z_o, z_if, z_no, List.getElem?_cons_zero, List.getElem?_cons_succ, Option.join_some, List.set_cons_zero, List.set_cons_succ, neg, getIx, seqOf, lstOf, rd, itemsOf, wipeS, D.same, ix_0, ix_1, ix_2, sl_to, b_add, b_sub, b_mul, b_div, b_mod, b_pow, b_cat, b_catT, b_catL, c_lt, c_le, c_gt, c_ge, c_eqI, c_neI, c_eqS, c_neS, c_eqB, c_neB, c_isN, c_notN, c_memL, c_nmemL, c_memT, c_nmemT, k_lenT, k_lenL, k_lenR, k_lenS, k_intI, k_intB, k_abs, k_tupL, k_tupT, k_max2, k_min2, k_divmod, k_all, k_sorted, k_sum, List.length_cons, List.length_nil, List.length_map, if_true, Bool.true_and, Bool.and_true, Bool.not_true, Bool.not_false, decide_true, Bool.false_eq_true, if_false, Int.reduceLT, Int.reduceLE, Int.reduceNeg, Int.reducePow, Int.reduceAdd, Int.reduceSub, Int.reduceMul, Nat.reduceAdd, Nat.reducePow, Nat.reduceLT, Nat.reduceLeDiff, Int.reduceEq, cond_true, cond_false, Bool.cond_false_right, Bool.cond_false_left, Bool.cond_true_left, Bool.cond_true_right]
      rfl
    | some e =>
      rw [hz] at g
      rw [q2 _ g]
      rfl
def okR (r : Rl) : Bool := decide (1 ≤ r.n) && decide (r.n ≤ 9) && decide (1 ≤ r.ps.length) && decide (r.ps.length ≤ 4) && (r.ps.all fun x => decide (-3 ≤ x) && decide (x ≤ 3)) && decide ((unlike r.ps).length = r.ps.length)
theorem s_good_rule (n : Nat) (r : Rl) (h : okR r = true) (S : Store) : evF fs (n + 2) 1 [eRl r] S = .ok (.bl true) S := by
  rw [u1]
  simp only [okR, Bool.and_eq_true, decide_eq_true_eq] at h
  obtain ⟨⟨⟨⟨⟨h1, h2⟩, h3⟩, h4⟩, h5⟩, h6⟩ := h
  have e : ((((0 : Nat) + 1 + 1 + 1 : Nat) : Int) == 3) = true := rfl
  have h3' : (1 : Int) ≤ (r.ps.length : Nat) := by omega
  have h4' : ((r.ps.length : Nat) : Int) ≤ 4 := by omega
  rw [show eRl r = .tup [.int r.n, .bl r.up, .tup (r.ps.map .int)] from rfl]
  simp only [e_int, e_bl, e_non, e_str, e_var, e_con, e_fnv, e_bin, y_bin1, y_bin, e_neg, e_not, y_not, y_notI, e_cmp, y_cmp1, y_cmp, e_chain, y_ch1, y_ch2, y_ch3, e_and, e_or, e_and1, e_or1, e_and2, e_or2, y_and, y_or, e_ite, y_ite, e_tup, y_tup0, y_tup1, y_tup2, y_tup3, y_tup4, y_tup5, e_lst, y_lst, e_idx, y_idx1, y_idx, e_sl, y_sl1, y_sl2, y_sl3, e_call, e_bi, y_bi, e_isi, y_isiI, y_isiB, y_isiB2, y_isiI2, y_isiT, y_isiS, y_isiL, e_lenset, e_meth, y_meth2, e_comp, y_comp, y_mk, y_mkT, m_f, m_t, e_o0, asI_int, e_o1, y_trB, e_c0, e_c1, e_nil, e_cons, y_es, y_con, i_val, y_valT, y_valL, i_rng2, y_rng, i_rng1, enuT_tup, i_enuT, i_zip, y_zip, t_set, y_set, setA_nil, setA_cons, t_par, tgtA_name, tgtA_pair, tgtA_three, t_tgt, t_setI, y_put1, y_put2, t_ret, y_ret, t_retN, t_ifs, y_ifs, t_wh, t_fors, t_ex, y_ex, t_brk, t_cnt, t_pass, t_nil, t_cons, q_nx, q_rt, q_bk, q_ct, q_if, n_if, n_rt, n_nx, g_ok, g_bl, g_int, g_bind, g_bindS, z_bind, z_bindS, z_o, z_if, z_no, List.getElem?_cons_zero, List.getElem?_cons_succ, Option.join_some, List.set_cons_zero, List.set_cons_succ, neg, getIx, seqOf, lstOf, rd, itemsOf, wipeS, D.same, ix_0, ix_1, ix_2, sl_to, b_add, b_sub, b_mul, b_div, b_mod, b_pow, b_cat, b_catT, b_catL, c_lt, c_le, c_gt, c_ge, c_eqI, c_neI, c_eqS, c_neS, c_eqB, c_neB, c_isN, c_notN, c_memL, c_nmemL, c_memT, c_nmemT, k_lenT, k_lenL, k_lenR, k_lenS, k_intI, k_intB, k_abs, k_tupL, k_tupT, k_max2, k_min2, k_divmod, k_all, k_sorted, k_sum, List.length_cons, List.length_nil, List.length_map, if_true, Bool.true_and, Bool.and_true, Bool.not_true, Bool.not_false, decide_true, Bool.false_eq_true, if_false, Int.reduceLT, Int.reduceLE, Int.reduceNeg, Int.reducePow, Int.reduceAdd, Int.reduceSub, Int.reduceMul, Nat.reduceAdd, Nat.reducePow, Nat.reduceLT, Nat.reduceLeDiff, Int.reduceEq, cond_true, cond_false, Bool.cond_false_right, Bool.cond_false_left, Bool.cond_true_left, Bool.cond_true_right, e, s_is_from, h1, h2, h3', h4']
  generalize hf : compB _ _ _ _ _ _ _ = z
  have q := compB_map hf (fun x => .bl (decide (-3 ≤ x) && decide (x ≤ 3))) (by
    rintro x -
    refine ⟨_, rfl, ?_⟩
    simp only [e_int, e_bl, e_non, e_str, e_var, e_con, e_fnv, e_bin, y_bin1, y_bin, e_neg, e_not, y_not, y_notI, e_cmp, y_cmp1, y_cmp, e_chain, y_ch1, y_ch2, y_ch3, e_and, e_or, e_and1, e_or1, e_and2, e_or2, y_and, y_or, e_ite, y_ite, e_tup, y_tup0, y_tup1, y_tup2, y_tup3, y_tup4, y_tup5, e_lst, y_lst, e_idx, y_idx1, y_idx, e_sl, y_sl1, y_sl2, y_sl3, e_call, e_bi, y_bi, e_isi, y_isiI, y_isiB, y_isiB2, y_isiI2, y_isiT, y_isiS, y_isiL, e_lenset, e_meth, y_meth2, e_comp, y_comp, y_mk, y_mkT, m_f, m_t, e_o0, asI_int, e_o1, y_trB, e_c0, e_c1, e_nil, e_cons, y_es, y_con, i_val, y_valT, y_valL, i_rng2, y_rng, i_rng1, enuT_tup, i_enuT, i_zip, y_zip, t_set, y_set, setA_nil, setA_cons, t_par, tgtA_name, tgtA_pair, tgtA_three, t_tgt, t_setI, y_put1, y_put2, t_ret, y_ret, t_retN, t_ifs, y_ifs, t_wh, t_fors, t_ex, y_ex, t_brk, t_cnt, t_pass, t_nil, t_cons, q_nx, q_rt, q_bk, q_ct, q_if, n_if, n_rt, n_nx, g_ok, g_bl, g_int, g_bind, g_bindS, z_bind, z_bindS, z_o, z_if, z_no, List.getElem?_cons_zero, List.getElem?_cons_succ, Option.join_some, List.set_cons_zero, List.set_cons_succ, neg, getIx, seqOf, lstOf, rd, itemsOf, wipeS, D.same, ix_0, ix_1, ix_2, sl_to, b_add, b_sub, b_mul, b_div, b_mod, b_pow, b_cat, b_catT, b_catL, c_lt, c_le, c_gt, c_ge, c_eqI, c_neI, c_eqS, c_neS, c_eqB, c_neB, c_isN, c_notN, c_memL, c_nmemL, c_memT, c_nmemT, k_lenT, k_lenL, k_lenR, k_lenS, k_intI, k_intB, k_abs, k_tupL, k_tupT, k_max2, k_min2, k_divmod, k_all, k_sorted, k_sum, List.length_cons, List.length_nil, List.length_map, if_true, Bool.true_and, Bool.and_true, Bool.not_true, Bool.not_false, decide_true, Bool.false_eq_true, if_false, Int.reduceLT, Int.reduceLE, Int.reduceNeg, Int.reducePow, Int.reduceAdd, Int.reduceSub, Int.reduceMul, Nat.reduceAdd, Nat.reducePow, Nat.reduceLT, Nat.reduceLeDiff, Int.reduceEq, cond_true, cond_false, Bool.cond_false_right, Bool.cond_false_left, Bool.cond_true_left, Bool.cond_true_right, s_is_from])
  subst q
  simp only [e_int, e_bl, e_non, e_str, e_var, e_con, e_fnv, e_bin, y_bin1, y_bin, e_neg, e_not, y_not, y_notI, e_cmp, y_cmp1, y_cmp, e_chain, y_ch1, y_ch2, y_ch3, e_and, e_or, e_and1, e_or1, e_and2, e_or2, y_and, y_or, e_ite, y_ite, e_tup, y_tup0, y_tup1, y_tup2, y_tup3, y_tup4, y_tup5, e_lst, y_lst, e_idx, y_idx1, y_idx, e_sl, y_sl1, y_sl2, y_sl3, e_call, e_bi, y_bi, e_isi, y_isiI, y_isiB, y_isiB2, y_isiI2, y_isiT, y_isiS, y_isiL, e_lenset, e_meth, y_meth2, e_comp, y_comp, y_mk, y_mkT, m_f, m_t, e_o0, asI_int, e_o1, y_trB, e_c0, e_c1, e_nil, e_cons, y_es, y_con, i_val, y_valT, y_valL, i_rng2, y_rng, i_rng1, enuT_tup, i_enuT, i_zip, y_zip, t_set, y_set, setA_nil, setA_cons, t_par, tgtA_name, tgtA_pair, tgtA_three, t_tgt, t_setI, y_put1, y_put2, t_ret, y_ret, t_retN, t_ifs, y_ifs, t_wh, t_fors, t_ex, y_ex, t_brk, t_cnt, t_pass, t_nil, t_cons, q_nx, q_rt, q_bk, q_ct, q_if, n_if, n_rt, n_nx, g_ok, g_bl, g_int, g_bind, g_bindS, z_bind, z_bindS, z_o, z_if, z_no, List.getElem?_cons_zero, List.getElem?_cons_succ, Option.join_some, List.set_cons_zero, List.set_cons_succ, neg, getIx, seqOf, lstOf, rd, itemsOf, wipeS, D.same, ix_0, ix_1, ix_2, sl_to, b_add, b_sub, b_mul, b_div, b_mod, b_pow, b_cat, b_catT, b_catL, c_lt, c_le, c_gt, c_ge, c_eqI, c_neI, c_eqS, c_neS, c_eqB, c_neB, c_isN, c_notN, c_memL, c_nmemL, c_memT, c_nmemT, k_lenT, k_lenL, k_lenR, k_lenS, k_intI, k_intB, k_abs, k_tupL, k_tupT, k_max2, k_min2, k_divmod, k_all, k_sorted, k_sum, List.length_cons, List.length_nil, List.length_map, if_true, Bool.true_and, Bool.and_true, Bool.not_true, Bool.not_false, decide_true, Bool.false_eq_true, if_false, Int.reduceLT, Int.reduceLE, Int.reduceNeg, Int.reducePow, Int.reduceAdd, Int.reduceSub, Int.reduceMul, Nat.reduceAdd, Nat.reducePow, Nat.reduceLT, Nat.reduceLeDiff, Int.reduceEq, cond_true, cond_false, Bool.cond_false_right, Bool.cond_false_left, Bool.cond_true_left, Bool.cond_true_right, k_allF, h5, lenSet_T r.ps (by omega), h6, beq_self_eq_true]
theorem s_need_length (n : Nat) (m : Int) (hm : 1 ≤ m ∧ m ≤ MOST) (S : Store) : evF fs (n + 2) 5 [.int m] S = .ok .non S := by
  rw [u5]
  have h2 : m ≤ 1000000000000000000000000000000 := hm.2
  simp only [e_int, e_bl, e_non, e_str, e_var, e_con, e_fnv, e_bin, y_bin1, y_bin, e_neg, e_not, y_not, y_notI, e_cmp, y_cmp1, y_cmp, e_chain, y_ch1, y_ch2, y_ch3, e_and, e_or, e_and1, e_or1, e_and2, e_or2, y_and, y_or, e_ite, y_ite, e_tup, y_tup0, y_tup1, y_tup2, y_tup3, y_tup4, y_tup5, e_lst, y_lst, e_idx, y_idx1, y_idx, e_sl, y_sl1, y_sl2, y_sl3, e_call, e_bi, y_bi, e_isi, y_isiI, y_isiB, y_isiB2, y_isiI2, y_isiT, y_isiS, y_isiL, e_lenset, e_meth, y_meth2, e_comp, y_comp, y_mk, y_mkT, m_f, m_t, e_o0, asI_int, e_o1, y_trB, e_c0, e_c1, e_nil, e_cons, y_es, y_con, i_val, y_valT, y_valL, i_rng2, y_rng, i_rng1, enuT_tup, i_enuT, i_zip, y_zip, t_set, y_set, setA_nil, setA_cons, t_par, tgtA_name, tgtA_pair, tgtA_three, t_tgt, t_setI, y_put1, y_put2, t_ret, y_ret, t_retN, t_ifs, y_ifs, t_wh, t_fors, t_ex, y_ex, t_brk, t_cnt, t_pass, t_nil, t_cons, q_nx, q_rt, q_bk, q_ct, q_if, n_if, n_rt, n_nx, g_ok, g_bl, g_int, g_bind, g_bindS, z_bind, z_bindS, z_o, z_if, z_no, List.getElem?_cons_zero, List.getElem?_cons_succ, Option.join_some, List.set_cons_zero, List.set_cons_succ, neg, getIx, seqOf, lstOf, rd, itemsOf, wipeS, D.same, ix_0, ix_1, ix_2, sl_to, b_add, b_sub, b_mul, b_div, b_mod, b_pow, b_cat, b_catT, b_catL, c_lt, c_le, c_gt, c_ge, c_eqI, c_neI, c_eqS, c_neS, c_eqB, c_neB, c_isN, c_notN, c_memL, c_nmemL, c_memT, c_nmemT, k_lenT, k_lenL, k_lenR, k_lenS, k_intI, k_intB, k_abs, k_tupL, k_tupT, k_max2, k_min2, k_divmod, k_all, k_sorted, k_sum, List.length_cons, List.length_nil, List.length_map, if_true, Bool.true_and, Bool.and_true, Bool.not_true, Bool.not_false, decide_true, Bool.false_eq_true, if_false, Int.reduceLT, Int.reduceLE, Int.reduceNeg, Int.reducePow, Int.reduceAdd, Int.reduceSub, Int.reduceMul, Nat.reduceAdd, Nat.reducePow, Nat.reduceLT, Nat.reduceLeDiff, Int.reduceEq, cond_true, cond_false, Bool.cond_false_right, Bool.cond_false_left, Bool.cond_true_left, Bool.cond_true_right, s_is_from, hm.1, h2]
theorem s_need_run (n : Nat) (run : Int) (hr : 0 ≤ run ∧ run ≤ 2) (S : Store) : evF fs (n + 2) 6 [.int run] S = .ok .non S := by
  rw [u6]
  simp only [e_int, e_bl, e_non, e_str, e_var, e_con, e_fnv, e_bin, y_bin1, y_bin, e_neg, e_not, y_not, y_notI, e_cmp, y_cmp1, y_cmp, e_chain, y_ch1, y_ch2, y_ch3, e_and, e_or, e_and1, e_or1, e_and2, e_or2, y_and, y_or, e_ite, y_ite, e_tup, y_tup0, y_tup1, y_tup2, y_tup3, y_tup4, y_tup5, e_lst, y_lst, e_idx, y_idx1, y_idx, e_sl, y_sl1, y_sl2, y_sl3, e_call, e_bi, y_bi, e_isi, y_isiI, y_isiB, y_isiB2, y_isiI2, y_isiT, y_isiS, y_isiL, e_lenset, e_meth, y_meth2, e_comp, y_comp, y_mk, y_mkT, m_f, m_t, e_o0, asI_int, e_o1, y_trB, e_c0, e_c1, e_nil, e_cons, y_es, y_con, i_val, y_valT, y_valL, i_rng2, y_rng, i_rng1, enuT_tup, i_enuT, i_zip, y_zip, t_set, y_set, setA_nil, setA_cons, t_par, tgtA_name, tgtA_pair, tgtA_three, t_tgt, t_setI, y_put1, y_put2, t_ret, y_ret, t_retN, t_ifs, y_ifs, t_wh, t_fors, t_ex, y_ex, t_brk, t_cnt, t_pass, t_nil, t_cons, q_nx, q_rt, q_bk, q_ct, q_if, n_if, n_rt, n_nx, g_ok, g_bl, g_int, g_bind, g_bindS, z_bind, z_bindS, z_o, z_if, z_no, List.getElem?_cons_zero, List.getElem?_cons_succ, Option.join_some, List.set_cons_zero, List.set_cons_succ, neg, getIx, seqOf, lstOf, rd, itemsOf, wipeS, D.same, ix_0, ix_1, ix_2, sl_to, b_add, b_sub, b_mul, b_div, b_mod, b_pow, b_cat, b_catT, b_catL, c_lt, c_le, c_gt, c_ge, c_eqI, c_neI, c_eqS, c_neS, c_eqB, c_neB, c_isN, c_notN, c_memL, c_nmemL, c_memT, c_nmemT, k_lenT, k_lenL, k_lenR, k_lenS, k_intI, k_intB, k_abs, k_tupL, k_tupT, k_max2, k_min2, k_divmod, k_all, k_sorted, k_sum, List.length_cons, List.length_nil, List.length_map, if_true, Bool.true_and, Bool.and_true, Bool.not_true, Bool.not_false, decide_true, Bool.false_eq_true, if_false, Int.reduceLT, Int.reduceLE, Int.reduceNeg, Int.reducePow, Int.reduceAdd, Int.reduceSub, Int.reduceMul, Nat.reduceAdd, Nat.reducePow, Nat.reduceLT, Nat.reduceLeDiff, Int.reduceEq, cond_true, cond_false, Bool.cond_false_right, Bool.cond_false_left, Bool.cond_true_left, Bool.cond_true_right, s_is_from, hr.1, hr.2]
theorem s_need_rule (n : Nat) (r : Rl) (h : okR r = true) (S : Store) : evF fs (n + 3) 7 [eRl r] S = .ok .non S := by
  rw [u7]
  simp only [e_int, e_bl, e_non, e_str, e_var, e_con, e_fnv, e_bin, y_bin1, y_bin, e_neg, e_not, y_not, y_notI, e_cmp, y_cmp1, y_cmp, e_chain, y_ch1, y_ch2, y_ch3, e_and, e_or, e_and1, e_or1, e_and2, e_or2, y_and, y_or, e_ite, y_ite, e_tup, y_tup0, y_tup1, y_tup2, y_tup3, y_tup4, y_tup5, e_lst, y_lst, e_idx, y_idx1, y_idx, e_sl, y_sl1, y_sl2, y_sl3, e_call, e_bi, y_bi, e_isi, y_isiI, y_isiB, y_isiB2, y_isiI2, y_isiT, y_isiS, y_isiL, e_lenset, e_meth, y_meth2, e_comp, y_comp, y_mk, y_mkT, m_f, m_t, e_o0, asI_int, e_o1, y_trB, e_c0, e_c1, e_nil, e_cons, y_es, y_con, i_val, y_valT, y_valL, i_rng2, y_rng, i_rng1, enuT_tup, i_enuT, i_zip, y_zip, t_set, y_set, setA_nil, setA_cons, t_par, tgtA_name, tgtA_pair, tgtA_three, t_tgt, t_setI, y_put1, y_put2, t_ret, y_ret, t_retN, t_ifs, y_ifs, t_wh, t_fors, t_ex, y_ex, t_brk, t_cnt, t_pass, t_nil, t_cons, q_nx, q_rt, q_bk, q_ct, q_if, n_if, n_rt, n_nx, g_ok, g_bl, g_int, g_bind, g_bindS, z_bind, z_bindS, z_o, z_if, z_no, List.getElem?_cons_zero, List.getElem?_cons_succ, Option.join_some, List.set_cons_zero, List.set_cons_succ, neg, getIx, seqOf, lstOf, rd, itemsOf, wipeS, D.same, ix_0, ix_1, ix_2, sl_to, b_add, b_sub, b_mul, b_div, b_mod, b_pow, b_cat, b_catT, b_catL, c_lt, c_le, c_gt, c_ge, c_eqI, c_neI, c_eqS, c_neS, c_eqB, c_neB, c_isN, c_notN, c_memL, c_nmemL, c_memT, c_nmemT, k_lenT, k_lenL, k_lenR, k_lenS, k_intI, k_intB, k_abs, k_tupL, k_tupT, k_max2, k_min2, k_divmod, k_all, k_sorted, k_sum, List.length_cons, List.length_nil, List.length_map, if_true, Bool.true_and, Bool.and_true, Bool.not_true, Bool.not_false, decide_true, Bool.false_eq_true, if_false, Int.reduceLT, Int.reduceLE, Int.reduceNeg, Int.reducePow, Int.reduceAdd, Int.reduceSub, Int.reduceMul, Nat.reduceAdd, Nat.reducePow, Nat.reduceLT, Nat.reduceLeDiff, Int.reduceEq, cond_true, cond_false, Bool.cond_false_right, Bool.cond_false_left, Bool.cond_true_left, Bool.cond_true_right, s_good_rule n r h]
end Lw
namespace Lw
open PySem L2 Ev
/-! ### the law's own pail -/
theorem s_cup (n p : Nat) (a b w : Int) (S : Store) (hS : S[p]? = some (.list [.int a, .int b])) (hw : 0 < w) (hw2 : w < 2 ^ 62) :
    ∃ r a' b', evF fs (n + 1) 18 [.loc p, .int w] S = .ok (.int r) (S.set p (.list [.int a', .int b'])) ∧ 0 ≤ r ∧ r < w := by
  rw [u18]
  have hd : divOk w = true := divOk_small w hw hw2
  have e : ∃ r a' b', endB (evB (evF fs n) e18.body [some (.loc p), some (.int w), none, none] S) = .ok (.int (r % w)) (S.set p (.list [.int a', .int b'])) := by
    unfold e18
    by_cases h : 0 < a
    · simp only [e_int, e_bl, e_non, e_str, e_var, e_con, e_fnv, e_bin, y_bin1, y_bin, e_neg, e_not, y_not, y_notI, e_cmp, y_cmp1, y_cmp, e_chain, y_ch1, y_ch2, y_ch3, e_and, e_or, e_and1, e_or1, e_and2, e_or2, y_and, y_or, e_ite, y_ite, e_tup, y_tup0, y_tup1, y_tup2, y_tup3, y_tup4, y_tup5, e_lst, y_lst, e_idx, y_idx1, y_idx, e_sl, y_sl1, y_sl2, y_sl3, e_call, e_bi, y_bi, e_isi, y_isiI, y_isiB, y_isiB2, y_isiI2, y_isiT, y_isiS, y_isiL, e_lenset, e_meth, y_meth2, e_comp, y_comp, y_mk, y_mkT, m_f, m_t, e_o0, asI_int, e_o1, y_trB, e_c0, e_c1, e_nil, e_cons, y_es, y_con, i_val, y_valT, y_valL, i_rng2, y_rng, i_rng1, enuT_tup, i_enuT, i_zip, y_zip, t_set, y_set, setA_nil, setA_cons, t_par, tgtA_name, tgtA_pair, tgtA_three, t_tgt, t_setI, y_put1, y_put2, t_ret, y_ret, t_retN, t_ifs, y_ifs, t_wh, t_fors, t_ex, y_ex, t_brk, t_cnt, t_pass, t_nil, t_cons, q_nx, q_rt, q_bk, q_ct, q_if, n_if, n_rt, n_nx, g_ok, g_bl, g_int, g_bind, g_bindS, z_bind, z_bindS, z_o, z_if, z_no, List.getElem?_cons_zero, List.getElem?_cons_succ, Option.join_some, List.set_cons_zero, List.set_cons_succ, neg, getIx, seqOf, lstOf, rd, itemsOf, wipeS, D.same, ix_0, ix_1, ix_2, sl_to, b_add, b_sub, b_mul, b_div, b_mod, b_pow, b_cat, b_catT, b_catL, c_lt, c_le, c_gt, c_ge, c_eqI, c_neI, c_eqS, c_neS, c_eqB, c_neB, c_isN, c_notN, c_memL, c_nmemL, c_memT, c_nmemT, k_lenT, k_lenL, k_lenR, k_lenS, k_intI, k_intB, k_abs, k_tupL, k_tupT, k_max2, k_min2, k_divmod, k_all, k_sorted, k_sum, List.length_cons, List.length_nil, List.length_map, if_true, Bool.true_and, Bool.and_true, Bool.not_true, Bool.not_false, decide_true, Bool.false_eq_true, if_false, Int.reduceLT, Int.reduceLE, Int.reduceNeg, Int.reducePow, Int.reduceAdd, Int.reduceSub, Int.reduceMul, Nat.reduceAdd, Nat.reducePow, Nat.reduceLT, Nat.reduceLeDiff, Int.reduceEq, cond_true, cond_false, Bool.cond_false_right, Bool.cond_false_left, Bool.cond_true_left, Bool.cond_true_right, hS, h, hw, hd]
      rw [putA_at hS (ix_0 1)]
      simp only [e_int, e_bl, e_non, e_str, e_var, e_con, e_fnv, e_bin, y_bin1, y_bin, e_neg, e_not, y_not, y_notI, e_cmp, y_cmp1, y_cmp, e_chain, y_ch1, y_ch2, y_ch3, e_and, e_or, e_and1, e_or1, e_and2, e_or2, y_and, y_or, e_ite, y_ite, e_tup, y_tup0, y_tup1, y_tup2, y_tup3, y_tup4, y_tup5, e_lst, y_lst, e_idx, y_idx1, y_idx, e_sl, y_sl1, y_sl2, y_sl3, e_call, e_bi, y_bi, e_isi, y_isiI, y_isiB, y_isiB2, y_isiI2, y_isiT, y_isiS, y_isiL, e_lenset, e_meth, y_meth2, e_comp, y_comp, y_mk, y_mkT, m_f, m_t, e_o0, asI_int, e_o1, y_trB, e_c0, e_c1, e_nil, e_cons, y_es, y_con, i_val, y_valT, y_valL, i_rng2, y_rng, i_rng1, enuT_tup, i_enuT, i_zip, y_zip, t_set, y_set, setA_nil, setA_cons, t_par, tgtA_name, tgtA_pair, tgtA_three, t_tgt, t_setI, y_put1, y_put2, t_ret, y_ret, t_retN, t_ifs, y_ifs, t_wh, t_fors, t_ex, y_ex, t_brk, t_cnt, t_pass, t_nil, t_cons, q_nx, q_rt, q_bk, q_ct, q_if, n_if, n_rt, n_nx, g_ok, g_bl, g_int, g_bind, g_bindS, z_bind, z_bindS, z_o, z_if, z_no, List.getElem?_cons_zero, List.getElem?_cons_succ, Option.join_some, List.set_cons_zero, List.set_cons_succ, neg, getIx, seqOf, lstOf, rd, itemsOf, wipeS, D.same, ix_0, ix_1, ix_2, sl_to, b_add, b_sub, b_mul, b_div, b_mod, b_pow, b_cat, b_catT, b_catL, c_lt, c_le, c_gt, c_ge, c_eqI, c_neI, c_eqS, c_neS, c_eqB, c_neB, c_isN, c_notN, c_memL, c_nmemL, c_memT, c_nmemT, k_lenT, k_lenL, k_lenR, k_lenS, k_intI, k_intB, k_abs, k_tupL, k_tupT, k_max2, k_min2, k_divmod, k_all, k_sorted, k_sum, List.length_cons, List.length_nil, List.length_map, if_true, Bool.true_and, Bool.and_true, Bool.not_true, Bool.not_false, decide_true, Bool.false_eq_true, if_false, Int.reduceLT, Int.reduceLE, Int.reduceNeg, Int.reducePow, Int.reduceAdd, Int.reduceSub, Int.reduceMul, Nat.reduceAdd, Nat.reducePow, Nat.reduceLT, Nat.reduceLeDiff, Int.reduceEq, cond_true, cond_false, Bool.cond_false_right, Bool.cond_false_left, Bool.cond_true_left, Bool.cond_true_right]
      exact ⟨_, _, _, rfl⟩
    · simp only [e_int, e_bl, e_non, e_str, e_var, e_con, e_fnv, e_bin, y_bin1, y_bin, e_neg, e_not, y_not, y_notI, e_cmp, y_cmp1, y_cmp, e_chain, y_ch1, y_ch2, y_ch3, e_and, e_or, e_and1, e_or1, e_and2, e_or2, y_and, y_or, e_ite, y_ite, e_tup, y_tup0, y_tup1, y_tup2, y_tup3, y_tup4, y_tup5, e_lst, y_lst, e_idx, y_idx1, y_idx, e_sl, y_sl1, y_sl2, y_sl3, e_call, e_bi, y_bi, e_isi, y_isiI, y_isiB, y_isiB2, y_isiI2, y_isiT, y_isiS, y_isiL, e_lenset, e_meth, y_meth2, e_comp, y_comp, y_mk, y_mkT, m_f, m_t, e_o0, asI_int, e_o1, y_trB, e_c0, e_c1, e_nil, e_cons, y_es, y_con, i_val, y_valT, y_valL, i_rng2, y_rng, i_rng1, enuT_tup, i_enuT, i_zip, y_zip, t_set, y_set, setA_nil, setA_cons, t_par, tgtA_name, tgtA_pair, tgtA_three, t_tgt, t_setI, y_put1, y_put2, t_ret, y_ret, t_retN, t_ifs, y_ifs, t_wh, t_fors, t_ex, y_ex, t_brk, t_cnt, t_pass, t_nil, t_cons, q_nx, q_rt, q_bk, q_ct, q_if, n_if, n_rt, n_nx, g_ok, g_bl, g_int, g_bind, g_bindS, z_bind, z_bindS, z_o, z_if, z_no, List.getElem?_cons_zero, List.getElem?_cons_succ, Option.join_some, List.set_cons_zero, List.set_cons_succ, neg, getIx, seqOf, lstOf, rd, itemsOf, wipeS, D.same, ix_0, ix_1, ix_2, sl_to, b_add, b_sub, b_mul, b_div, b_mod, b_pow, b_cat, b_catT, b_catL, c_lt, c_le, c_gt, c_ge, c_eqI, c_neI, c_eqS, c_neS, c_eqB, c_neB, c_isN, c_notN, c_memL, c_nmemL, c_memT, c_nmemT, k_lenT, k_lenL, k_lenR, k_lenS, k_intI, k_intB, k_abs, k_tupL, k_tupT, k_max2, k_min2, k_divmod, k_all, k_sorted, k_sum, List.length_cons, List.length_nil, List.length_map, if_true, Bool.true_and, Bool.and_true, Bool.not_true, Bool.not_false, decide_true, Bool.false_eq_true, if_false, Int.reduceLT, Int.reduceLE, Int.reduceNeg, Int.reducePow, Int.reduceAdd, Int.reduceSub, Int.reduceMul, Nat.reduceAdd, Nat.reducePow, Nat.reduceLT, Nat.reduceLeDiff, Int.reduceEq, cond_true, cond_false, Bool.cond_false_right, Bool.cond_false_left, Bool.cond_true_left, Bool.cond_true_right, hS, h, decide_false, mulOk_r]
      rw [putA_at hS (ix_1 0)]
      simp only [e_int, e_bl, e_non, e_str, e_var, e_con, e_fnv, e_bin, y_bin1, y_bin, e_neg, e_not, y_not, y_notI, e_cmp, y_cmp1, y_cmp, e_chain, y_ch1, y_ch2, y_ch3, e_and, e_or, e_and1, e_or1, e_and2, e_or2, y_and, y_or, e_ite, y_ite, e_tup, y_tup0, y_tup1, y_tup2, y_tup3, y_tup4, y_tup5, e_lst, y_lst, e_idx, y_idx1, y_idx, e_sl, y_sl1, y_sl2, y_sl3, e_call, e_bi, y_bi, e_isi, y_isiI, y_isiB, y_isiB2, y_isiI2, y_isiT, y_isiS, y_isiL, e_lenset, e_meth, y_meth2, e_comp, y_comp, y_mk, y_mkT, m_f, m_t, e_o0, asI_int, e_o1, y_trB, e_c0, e_c1, e_nil, e_cons, y_es, y_con, i_val, y_valT, y_valL, i_rng2, y_rng, i_rng1, enuT_tup, i_enuT, i_zip, y_zip, t_set, y_set, setA_nil, setA_cons, t_par, tgtA_name, tgtA_pair, tgtA_three, t_tgt, t_setI, y_put1, y_put2, t_ret, y_ret, t_retN, t_ifs, y_ifs, t_wh, t_fors, t_ex, y_ex, t_brk, t_cnt, t_pass, t_nil, t_cons, q_nx, q_rt, q_bk, q_ct, q_if, n_if, n_rt, n_nx, g_ok, g_bl, g_int, g_bind, g_bindS, z_bind, z_bindS, z_o, z_if, z_no, List.getElem?_cons_zero, List.getElem?_cons_succ, Option.join_some, List.set_cons_zero, List.set_cons_succ, neg, getIx, seqOf, lstOf, rd, itemsOf, wipeS, D.same, ix_0, ix_1, ix_2, sl_to, b_add, b_sub, b_mul, b_div, b_mod, b_pow, b_cat, b_catT, b_catL, c_lt, c_le, c_gt, c_ge, c_eqI, c_neI, c_eqS, c_neS, c_eqB, c_neB, c_isN, c_notN, c_memL, c_nmemL, c_memT, c_nmemT, k_lenT, k_lenL, k_lenR, k_lenS, k_intI, k_intB, k_abs, k_tupL, k_tupT, k_max2, k_min2, k_divmod, k_all, k_sorted, k_sum, List.length_cons, List.length_nil, List.length_map, if_true, Bool.true_and, Bool.and_true, Bool.not_true, Bool.not_false, decide_true, Bool.false_eq_true, if_false, Int.reduceLT, Int.reduceLE, Int.reduceNeg, Int.reducePow, Int.reduceAdd, Int.reduceSub, Int.reduceMul, Nat.reduceAdd, Nat.reducePow, Nat.reduceLT, Nat.reduceLeDiff, Int.reduceEq, cond_true, cond_false, Bool.cond_false_right, Bool.cond_false_left, Bool.cond_true_left, Bool.cond_true_right, set_at hS, mulOk_mod, divOk_small, hw]
      exact ⟨_, _, _, rfl⟩
  obtain ⟨r, a', b', e⟩ := e
  exact ⟨r % w, a', b', e, Int.emod_nonneg _ (by omega), Int.emod_lt_of_pos _ hw⟩
theorem s_pail (n : Nat) (ns : List Int) (k : Nat) (S : Store) : ∃ a b : Int, evF fs (n + 1) 17 [script ns, .int (k : Nat)] S = .ok (.loc S.length) (S ++ [.list [.int a, .int b]]) := by
  rw [u17]
  have hp : binop .pow (.int 10) (.int 18) S = .ok (.int 1000000000000000000) S := rfl
  unfold script
  by_cases h : k < ns.length
  · have h' : (k : Int) < (ns.length : Nat) := by omega
    simp only [e_int, e_bl, e_non, e_str, e_var, e_con, e_fnv, e_bin, y_bin1, y_bin, e_neg, e_not, y_not, y_notI, e_cmp, y_cmp1, y_cmp, e_chain, y_ch1, y_ch2, y_ch3, e_and, e_or, e_and1, e_or1, e_and2, e_or2, y_and, y_or, e_ite, y_ite, e_tup, y_tup0, y_tup1, y_tup2, y_tup3, y_tup4, y_tup5, e_lst, y_lst, e_idx, y_idx1, y_idx, e_sl, y_sl1, y_sl2, y_sl3, e_call, e_bi, y_bi, e_isi, y_isiI, y_isiB, y_isiB2, y_isiI2, y_isiT, y_isiS, y_isiL, e_lenset, e_meth, y_meth2, e_comp, y_comp, y_mk, y_mkT, m_f, m_t, e_o0, asI_int, e_o1, y_trB, e_c0, e_c1, e_nil, e_cons, y_es, y_con, i_val, y_valT, y_valL, i_rng2, y_rng, i_rng1, enuT_tup, i_enuT, i_zip, y_zip, t_set, y_set, setA_nil, setA_cons, t_par, tgtA_name, tgtA_pair, tgtA_three, t_tgt, t_setI, y_put1, y_put2, t_ret, y_ret, t_retN, t_ifs, y_ifs, t_wh, t_fors, t_ex, y_ex, t_brk, t_cnt, t_pass, t_nil, t_cons, q_nx, q_rt, q_bk, q_ct, q_if, n_if, n_rt, n_nx, g_ok, g_bl, g_int, g_bind, g_bindS, z_bind, z_bindS, z_o, z_if, z_no, List.getElem?_cons_zero, List.getElem?_cons_succ, Option.join_some, List.set_cons_zero, List.set_cons_succ, neg, getIx, seqOf, lstOf, rd, itemsOf, wipeS, D.same, ix_0, ix_1, ix_2, sl_to, b_add, b_sub, b_mul, b_div, b_mod, b_pow, b_cat, b_catT, b_catL, c_lt, c_le, c_gt, c_ge, c_eqI, c_neI, c_eqS, c_neS, c_eqB, c_neB, c_isN, c_notN, c_memL, c_nmemL, c_memT, c_nmemT, k_lenT, k_lenL, k_lenR, k_lenS, k_intI, k_intB, k_abs, k_tupL, k_tupT, k_max2, k_min2, k_divmod, k_all, k_sorted, k_sum, List.length_cons, List.length_nil, List.length_map, if_true, Bool.true_and, Bool.and_true, Bool.not_true, Bool.not_false, decide_true, Bool.false_eq_true, if_false, Int.reduceLT, Int.reduceLE, Int.reduceNeg, Int.reducePow, Int.reduceAdd, Int.reduceSub, Int.reduceMul, Nat.reduceAdd, Nat.reducePow, Nat.reduceLT, Nat.reduceLeDiff, Int.reduceEq, cond_true, cond_false, Bool.cond_false_right, Bool.cond_false_left, Bool.cond_true_left, Bool.cond_true_right, h', ix_at h, List.getElem?_map, List.getElem?_eq_getElem h, Option.map_some, hp, mulOk_r, mulOk_l]
    exact ⟨_, _, rfl⟩
  · have h' : ¬ (k : Int) < (ns.length : Nat) := by omega
    simp only [e_int, e_bl, e_non, e_str, e_var, e_con, e_fnv, e_bin, y_bin1, y_bin, e_neg, e_not, y_not, y_notI, e_cmp, y_cmp1, y_cmp, e_chain, y_ch1, y_ch2, y_ch3, e_and, e_or, e_and1, e_or1, e_and2, e_or2, y_and, y_or, e_ite, y_ite, e_tup, y_tup0, y_tup1, y_tup2, y_tup3, y_tup4, y_tup5, e_lst, y_lst, e_idx, y_idx1, y_idx, e_sl, y_sl1, y_sl2, y_sl3, e_call, e_bi, y_bi, e_isi, y_isiI, y_isiB, y_isiB2, y_isiI2, y_isiT, y_isiS, y_isiL, e_lenset, e_meth, y_meth2, e_comp, y_comp, y_mk, y_mkT, m_f, m_t, e_o0, asI_int, e_o1, y_trB, e_c0, e_c1, e_nil, e_cons, y_es, y_con, i_val, y_valT, y_valL, i_rng2, y_rng, i_rng1, enuT_tup, i_enuT, i_zip, y_zip, t_set, y_set, setA_nil, setA_cons, t_par, tgtA_name, tgtA_pair, tgtA_three, t_tgt, t_setI, y_put1, y_put2, t_ret, y_ret, t_retN, t_ifs, y_ifs, t_wh, t_fors, t_ex, y_ex, t_brk, t_cnt, t_pass, t_nil, t_cons, q_nx, q_rt, q_bk, q_ct, q_if, n_if, n_rt, n_nx, g_ok, g_bl, g_int, g_bind, g_bindS, z_bind, z_bindS, z_o, z_if, z_no, List.getElem?_cons_zero, List.getElem?_cons_succ, Option.join_some, List.set_cons_zero, List.set_cons_succ, neg, getIx, seqOf, lstOf, rd, itemsOf, wipeS, D.same, ix_0, ix_1, ix_2, sl_to, b_add, b_sub, b_mul, b_div, b_mod, b_pow, b_cat, b_catT, b_catL, c_lt, c_le, c_gt, c_ge, c_eqI, c_neI, c_eqS, c_neS, c_eqB, c_neB, c_isN, c_notN, c_memL, c_nmemL, c_memT, c_nmemT, k_lenT, k_lenL, k_lenR, k_lenS, k_intI, k_intB, k_abs, k_tupL, k_tupT, k_max2, k_min2, k_divmod, k_all, k_sorted, k_sum, List.length_cons, List.length_nil, List.length_map, if_true, Bool.true_and, Bool.and_true, Bool.not_true, Bool.not_false, decide_true, Bool.false_eq_true, if_false, Int.reduceLT, Int.reduceLE, Int.reduceNeg, Int.reducePow, Int.reduceAdd, Int.reduceSub, Int.reduceMul, Nat.reduceAdd, Nat.reducePow, Nat.reduceLT, Nat.reduceLeDiff, Int.reduceEq, cond_true, cond_false, Bool.cond_false_right, Bool.cond_false_left, Bool.cond_true_left, Bool.cond_true_right, h', decide_false, hp, mulOk_r, mulOk_l]
    exact ⟨_, _, rfl⟩
theorem s_cupN (n p : Nat) (w : Int) (S : Store) (hS : Two2 S p) (hw : 0 < w) (hw2 : w < 2 ^ 62) :
    ∃ (r : Nat) (o : MO), evF fs (n + 1) 18 [.loc p, .int w] S = .ok (.int (r : Nat)) (S.set p o) ∧ (r : Int) < w ∧ Two2 (S.set p o) p := by
  obtain ⟨a, b, hS⟩ := hS
  obtain ⟨r, a', b', e, h1, h2⟩ := s_cup n p a b w S hS hw hw2
  exact ⟨r.toNat, _, by rw [e]; congr; omega, by omega, a', b', set_at hS⟩
theorem s_any (n p : Nat) (ds : List D) (S : Store) (hS : Two2 S p) (h0 : 0 < ds.length) (hl : ds.length < 1000000) :
    ∃ d ∈ ds, ∃ o, evF fs (n + 2) 19 [.loc p, .lst ds] S = .ok d (S.set p o) ∧ Two2 (S.set p o) p := by
  obtain ⟨r, o, e, h1, h2⟩ := s_cupN n p (ds.length : Nat) S hS (by omega) (by omega)
  have hr : r < ds.length := by omega
  refine ⟨ds[r], List.getElem_mem hr, o, ?_, h2⟩
  rw [u19]
  simp only [e_int, e_bl, e_non, e_str, e_var, e_con, e_fnv, e_bin, y_bin1, y_bin, e_neg, e_not, y_not, y_notI, e_cmp, y_cmp1, y_cmp, e_chain, y_ch1, y_ch2, y_ch3, e_and, e_or, e_and1, e_or1, e_and2, e_or2, y_and, y_or, e_ite, y_ite, e_tup, y_tup0, y_tup1, y_tup2, y_tup3, y_tup4, y_tup5, e_lst, y_lst, e_idx, y_idx1, y_idx, e_sl, y_sl1, y_sl2, y_sl3, e_call, e_bi, y_bi, e_isi, y_isiI, y_isiB, y_isiB2, y_isiI2, y_isiT, y_isiS, y_isiL, e_lenset, e_meth, y_meth2, e_comp, y_comp, y_mk, y_mkT, m_f, m_t, e_o0, asI_int, e_o1, y_trB, e_c0, e_c1, e_nil, e_cons, y_es, y_con, i_val, y_valT, y_valL, i_rng2, y_rng, i_rng1, enuT_tup, i_enuT, i_zip, y_zip, t_set, y_set, setA_nil, setA_cons, t_par, tgtA_name, tgtA_pair, tgtA_three, t_tgt, t_setI, y_put1, y_put2, t_ret, y_ret, t_retN, t_ifs, y_ifs, t_wh, t_fors, t_ex, y_ex, t_brk, t_cnt, t_pass, t_nil, t_cons, q_nx, q_rt, q_bk, q_ct, q_if, n_if, n_rt, n_nx, g_ok, g_bl, g_int, g_bind, g_bindS, z_bind, z_bindS, z_o, z_if, z_no, List.getElem?_cons_zero, List.getElem?_cons_succ, Option.join_some, List.set_cons_zero, List.set_cons_succ, neg, getIx, seqOf, lstOf, rd, itemsOf, wipeS, D.same, ix_0, ix_1, ix_2, sl_to, b_add, b_sub, b_mul, b_div, b_mod, b_pow, b_cat, b_catT, b_catL, c_lt, c_le, c_gt, c_ge, c_eqI, c_neI, c_eqS, c_neS, c_eqB, c_neB, c_isN, c_notN, c_memL, c_nmemL, c_memT, c_nmemT, k_lenT, k_lenL, k_lenR, k_lenS, k_intI, k_intB, k_abs, k_tupL, k_tupT, k_max2, k_min2, k_divmod, k_all, k_sorted, k_sum, List.length_cons, List.length_nil, List.length_map, if_true, Bool.true_and, Bool.and_true, Bool.not_true, Bool.not_false, decide_true, Bool.false_eq_true, if_false, Int.reduceLT, Int.reduceLE, Int.reduceNeg, Int.reducePow, Int.reduceAdd, Int.reduceSub, Int.reduceMul, Nat.reduceAdd, Nat.reducePow, Nat.reduceLT, Nat.reduceLeDiff, Int.reduceEq, cond_true, cond_false, Bool.cond_false_right, Bool.cond_false_left, Bool.cond_true_left, Bool.cond_true_right, e, ix_at hr, List.getElem?_eq_getElem hr]
theorem b_in {v : Int} {n : Nat} (h : (n : Int) < v) : (0 : Int) ≤ n := by omega
theorem s_a_rule (n p : Nat) (S : Store) (hS : Two2 S p) : ∃ r S', evF fs (n + 3) 20 [.loc p] S = .ok (eRl r) S' ∧ okR r = true ∧ Two2 S' p := by
  rw [u20]
  obtain ⟨r1, o1, e1, h1, k1⟩ := s_cupN (n + 1) p 7 S hS (by omega) (by omega)
  obtain ⟨d, hd, o2, e2, k2⟩ := s_any n p [.int 0, .int 0, .int 0, .int 1, .int (-1), .int ((r1 : Int) - 3)] _ k1 (by simp) (by simp)
  simp only [e_int, e_bl, e_non, e_str, e_var, e_con, e_fnv, e_bin, y_bin1, y_bin, e_neg, e_not, y_not, y_notI, e_cmp, y_cmp1, y_cmp, e_chain, y_ch1, y_ch2, y_ch3, e_and, e_or, e_and1, e_or1, e_and2, e_or2, y_and, y_or, e_ite, y_ite, e_tup, y_tup0, y_tup1, y_tup2, y_tup3, y_tup4, y_tup5, e_lst, y_lst, e_idx, y_idx1, y_idx, e_sl, y_sl1, y_sl2, y_sl3, e_call, e_bi, y_bi, e_isi, y_isiI, y_isiB, y_isiB2, y_isiI2, y_isiT, y_isiS, y_isiL, e_lenset, e_meth, y_meth2, e_comp, y_comp, y_mk, y_mkT, m_f, m_t, e_o0, asI_int, e_o1, y_trB, e_c0, e_c1, e_nil, e_cons, y_es, y_con, i_val, y_valT, y_valL, i_rng2, y_rng, i_rng1, enuT_tup, i_enuT, i_zip, y_zip, t_set, y_set, setA_nil, setA_cons, t_par, tgtA_name, tgtA_pair, tgtA_three, t_tgt, t_setI, y_put1, y_put2, t_ret, y_ret, t_retN, t_ifs, y_ifs, t_wh, t_fors, t_ex, y_ex, t_brk, t_cnt, t_pass, t_nil, t_cons, q_nx, q_rt, q_bk, q_ct, q_if, n_if, n_rt, n_nx, g_ok, g_bl, g_int, g_bind, g_bindS, z_bind, z_bindS, z_o, z_if, z_no, List.getElem?_cons_zero, List.getElem?_cons_succ, Option.join_some, List.set_cons_zero, List.set_cons_succ, neg, getIx, seqOf, lstOf, rd, itemsOf, wipeS, D.same, ix_0, ix_1, ix_2, sl_to, b_add, b_sub, b_mul, b_div, b_mod, b_pow, b_cat, b_catT, b_catL, c_lt, c_le, c_gt, c_ge, c_eqI, c_neI, c_eqS, c_neS, c_eqB, c_neB, c_isN, c_notN, c_memL, c_nmemL, c_memT, c_nmemT, k_lenT, k_lenL, k_lenR, k_lenS, k_intI, k_intB, k_abs, k_tupL, k_tupT, k_max2, k_min2, k_divmod, k_all, k_sorted, k_sum, List.length_cons, List.length_nil, List.length_map, if_true, Bool.true_and, Bool.and_true, Bool.not_true, Bool.not_false, decide_true, Bool.false_eq_true, if_false, Int.reduceLT, Int.reduceLE, Int.reduceNeg, Int.reducePow, Int.reduceAdd, Int.reduceSub, Int.reduceMul, Nat.reduceAdd, Nat.reducePow, Nat.reduceLT, Nat.reduceLeDiff, Int.reduceEq, cond_true, cond_false, Bool.cond_false_right, Bool.cond_false_left, Bool.cond_true_left, Bool.cond_true_right, e1, e2]
  obtain ⟨v, rfl, hv⟩ : ∃ v, d = .int v ∧ (-3 ≤ v ∧ v ≤ 3) := by
    simp only [List.mem_cons, List.not_mem_nil, or_false] at hd
    rcases hd with rfl | rfl | rfl | rfl | rfl | rfl <;> exact ⟨_, rfl, by omega, by omega⟩
  generalize hT : (S.set p o1).set p o2 = T at *
  obtain ⟨a, b, k2'⟩ := k2
  have k3 : Two2 (T ++ [.list [.int v]]) p := ⟨a, b, app_old k2' _⟩
  obtain ⟨r4, o4, e4, h4, k4⟩ := s_cupN (n + 1) p 4 _ k3 (by omega) (by omega)
  simp only [e_int, e_bl, e_non, e_str, e_var, e_con, e_fnv, e_bin, y_bin1, y_bin, e_neg, e_not, y_not, y_notI, e_cmp, y_cmp1, y_cmp, e_chain, y_ch1, y_ch2, y_ch3, e_and, e_or, e_and1, e_or1, e_and2, e_or2, y_and, y_or, e_ite, y_ite, e_tup, y_tup0, y_tup1, y_tup2, y_tup3, y_tup4, y_tup5, e_lst, y_lst, e_idx, y_idx1, y_idx, e_sl, y_sl1, y_sl2, y_sl3, e_call, e_bi, y_bi, e_isi, y_isiI, y_isiB, y_isiB2, y_isiI2, y_isiT, y_isiS, y_isiL, e_lenset, e_meth, y_meth2, e_comp, y_comp, y_mk, y_mkT, m_f, m_t, e_o0, asI_int, e_o1, y_trB, e_c0, e_c1, e_nil, e_cons, y_es, y_con, i_val, y_valT, y_valL, i_rng2, y_rng, i_rng1, enuT_tup, i_enuT, i_zip, y_zip, t_set, y_set, setA_nil, setA_cons, t_par, tgtA_name, tgtA_pair, tgtA_three, t_tgt, t_setI, y_put1, y_put2, t_ret, y_ret, t_retN, t_ifs, y_ifs, t_wh, t_fors, t_ex, y_ex, t_brk, t_cnt, t_pass, t_nil, t_cons, q_nx, q_rt, q_bk, q_ct, q_if, n_if, n_rt, n_nx, g_ok, g_bl, g_int, g_bind, g_bindS, z_bind, z_bindS, z_o, z_if, z_no, List.getElem?_cons_zero, List.getElem?_cons_succ, Option.join_some, List.set_cons_zero, List.set_cons_succ, neg, getIx, seqOf, lstOf, rd, itemsOf, wipeS, D.same, ix_0, ix_1, ix_2, sl_to, b_add, b_sub, b_mul, b_div, b_mod, b_pow, b_cat, b_catT, b_catL, c_lt, c_le, c_gt, c_ge, c_eqI, c_neI, c_eqS, c_neS, c_eqB, c_neB, c_isN, c_notN, c_memL, c_nmemL, c_memT, c_nmemT, k_lenT, k_lenL, k_lenR, k_lenS, k_intI, k_intB, k_abs, k_tupL, k_tupT, k_max2, k_min2, k_divmod, k_all, k_sorted, k_sum, List.length_cons, List.length_nil, List.length_map, if_true, Bool.true_and, Bool.and_true, Bool.not_true, Bool.not_false, decide_true, Bool.false_eq_true, if_false, Int.reduceLT, Int.reduceLE, Int.reduceNeg, Int.reducePow, Int.reduceAdd, Int.reduceSub, Int.reduceMul, Nat.reduceAdd, Nat.reducePow, Nat.reduceLT, Nat.reduceLeDiff, Int.reduceEq, cond_true, cond_false, Bool.cond_false_right, Bool.cond_false_left, Bool.cond_true_left, Bool.cond_true_right, y_lst, e4]
  rw [rngS_nat r4 (by have : big = 16777216 := rfl; omega)]
  simp only [e_int, e_bl, e_non, e_str, e_var, e_con, e_fnv, e_bin, y_bin1, y_bin, e_neg, e_not, y_not, y_notI, e_cmp, y_cmp1, y_cmp, e_chain, y_ch1, y_ch2, y_ch3, e_and, e_or, e_and1, e_or1, e_and2, e_or2, y_and, y_or, e_ite, y_ite, e_tup, y_tup0, y_tup1, y_tup2, y_tup3, y_tup4, y_tup5, e_lst, y_lst, e_idx, y_idx1, y_idx, e_sl, y_sl1, y_sl2, y_sl3, e_call, e_bi, y_bi, e_isi, y_isiI, y_isiB, y_isiB2, y_isiI2, y_isiT, y_isiS, y_isiL, e_lenset, e_meth, y_meth2, e_comp, y_comp, y_mk, y_mkT, m_f, m_t, e_o0, asI_int, e_o1, y_trB, e_c0, e_c1, e_nil, e_cons, y_es, y_con, i_val, y_valT, y_valL, i_rng2, y_rng, i_rng1, enuT_tup, i_enuT, i_zip, y_zip, t_set, y_set, setA_nil, setA_cons, t_par, tgtA_name, tgtA_pair, tgtA_three, t_tgt, t_setI, y_put1, y_put2, t_ret, y_ret, t_retN, t_ifs, y_ifs, t_wh, t_fors, t_ex, y_ex, t_brk, t_cnt, t_pass, t_nil, t_cons, q_nx, q_rt, q_bk, q_ct, q_if, n_if, n_rt, n_nx, g_ok, g_bl, g_int, g_bind, g_bindS, z_bind, z_bindS, z_o, z_if, z_no, List.getElem?_cons_zero, List.getElem?_cons_succ, Option.join_some, List.set_cons_zero, List.set_cons_succ, neg, getIx, seqOf, lstOf, rd, itemsOf, wipeS, D.same, ix_0, ix_1, ix_2, sl_to, b_add, b_sub, b_mul, b_div, b_mod, b_pow, b_cat, b_catT, b_catL, c_lt, c_le, c_gt, c_ge, c_eqI, c_neI, c_eqS, c_neS, c_eqB, c_neB, c_isN, c_notN, c_memL, c_nmemL, c_memT, c_nmemT, k_lenT, k_lenL, k_lenR, k_lenS, k_intI, k_intB, k_abs, k_tupL, k_tupT, k_max2, k_min2, k_divmod, k_all, k_sorted, k_sum, List.length_cons, List.length_nil, List.length_map, if_true, Bool.true_and, Bool.and_true, Bool.not_true, Bool.not_false, decide_true, Bool.false_eq_true, if_false, Int.reduceLT, Int.reduceLE, Int.reduceNeg, Int.reducePow, Int.reduceAdd, Int.reduceSub, Int.reduceMul, Nat.reduceAdd, Nat.reducePow, Nat.reduceLT, Nat.reduceLeDiff, Int.reduceEq, cond_true, cond_false, Bool.cond_false_right, Bool.cond_false_left, Bool.cond_true_left, Bool.cond_true_right]
  generalize hf : forB _ _ _ _ _ _ = z
  have hq : T.length ≠ p := by have := at_lt k2'; omega
  obtain ⟨τ', S', rfl, xs, x, y, rfl, w1, w2, w3, w4, w5, w6⟩ := forB_runS hf (fun (a : Nat) τ S => ∃ (xs : List Int) (x y : Option D), τ = [some (.loc p), some (.loc T.length), x, y] ∧ Two2 S p ∧ S[T.length]? = some (.list (xs.map .int)) ∧ xs.Nodup ∧ 1 ≤ xs.length ∧ xs.length ≤ a + 1 ∧ ∀ x ∈ xs, -3 ≤ x ∧ x ≤ 3)
    (fun a _ => a + 1) 0 (by
    rintro i - a τ S ⟨xs, x, y, rfl, g1, g2, g3, g4, g5, g6⟩
    refine ⟨_, rfl, ?_⟩
    obtain ⟨r5, o5, e5, h5, k5⟩ := s_cupN (n + 1) p 7 S g1 (by omega) (by omega)
    have g7 : (S.set p o5)[T.length]? = some (.list (xs.map .int)) := by rw [set_off hq]; exact g2
    simp only [e_int, e_bl, e_non, e_str, e_var, e_con, e_fnv, e_bin, y_bin1, y_bin, e_neg, e_not, y_not, y_notI, e_cmp, y_cmp1, y_cmp, e_chain, y_ch1, y_ch2, y_ch3, e_and, e_or, e_and1, e_or1, e_and2, e_or2, y_and, y_or, e_ite, y_ite, e_tup, y_tup0, y_tup1, y_tup2, y_tup3, y_tup4, y_tup5, e_lst, y_lst, e_idx, y_idx1, y_idx, e_sl, y_sl1, y_sl2, y_sl3, e_call, e_bi, y_bi, e_isi, y_isiI, y_isiB, y_isiB2, y_isiI2, y_isiT, y_isiS, y_isiL, e_lenset, e_meth, y_meth2, e_comp, y_comp, y_mk, y_mkT, m_f, m_t, e_o0, asI_int, e_o1, y_trB, e_c0, e_c1, e_nil, e_cons, y_es, y_con, i_val, y_valT, y_valL, i_rng2, y_rng, i_rng1, enuT_tup, i_enuT, i_zip, y_zip, t_set, y_set, setA_nil, setA_cons, t_par, tgtA_name, tgtA_pair, tgtA_three, t_tgt, t_setI, y_put1, y_put2, t_ret, y_ret, t_retN, t_ifs, y_ifs, t_wh, t_fors, t_ex, y_ex, t_brk, t_cnt, t_pass, t_nil, t_cons, q_nx, q_rt, q_bk, q_ct, q_if, n_if, n_rt, n_nx, g_ok, g_bl, g_int, g_bind, g_bindS, z_bind, z_bindS, z_o, z_if, z_no, List.getElem?_cons_zero, List.getElem?_cons_succ, Option.join_some, List.set_cons_zero, List.set_cons_succ, neg, getIx, seqOf, lstOf, rd, itemsOf, wipeS, D.same, ix_0, ix_1, ix_2, sl_to, b_add, b_sub, b_mul, b_div, b_mod, b_pow, b_cat, b_catT, b_catL, c_lt, c_le, c_gt, c_ge, c_eqI, c_neI, c_eqS, c_neS, c_eqB, c_neB, c_isN, c_notN, c_memL, c_nmemL, c_memT, c_nmemT, k_lenT, k_lenL, k_lenR, k_lenS, k_intI, k_intB, k_abs, k_tupL, k_tupT, k_max2, k_min2, k_divmod, k_all, k_sorted, k_sum, List.length_cons, List.length_nil, List.length_map, if_true, Bool.true_and, Bool.and_true, Bool.not_true, Bool.not_false, decide_true, Bool.false_eq_true, if_false, Int.reduceLT, Int.reduceLE, Int.reduceNeg, Int.reducePow, Int.reduceAdd, Int.reduceSub, Int.reduceMul, Nat.reduceAdd, Nat.reducePow, Nat.reduceLT, Nat.reduceLeDiff, Int.reduceEq, cond_true, cond_false, Bool.cond_false_right, Bool.cond_false_left, Bool.cond_true_left, Bool.cond_true_right, e5, c_nmemLoc g7]
    by_cases hm : ((r5 : Int) - 3) ∈ xs
    · refine ⟨[some (.loc p), some (.loc T.length), some (.int (i : Nat)), some (.int ((r5 : Int) - 3))], S.set p o5, .inl ?_, xs, _, _, rfl, k5, g7, g3, g4, by omega, g6⟩
      simp only [hm, decide_true, Bool.not_true, cond_false]
    · refine ⟨[some (.loc p), some (.loc T.length), some (.int (i : Nat)), some (.int ((r5 : Int) - 3))], (S.set p o5).set T.length (.list ((xs ++ [(r5 : Int) - 3]).map .int)), .inl ?_, xs ++ [(r5 : Int) - 3], _, _, rfl, ?_, set_at g7, ?_, by simp, by simp; omega, ?_⟩
      · simp only [hm, decide_false, Bool.not_false, cond_true, e_int, e_bl, e_non, e_str, e_var, e_con, e_fnv, e_bin, y_bin1, y_bin, e_neg, e_not, y_not, y_notI, e_cmp, y_cmp1, y_cmp, e_chain, y_ch1, y_ch2, y_ch3, e_and, e_or, e_and1, e_or1, e_and2, e_or2, y_and, y_or, e_ite, y_ite, e_tup, y_tup0, y_tup1, y_tup2, y_tup3, y_tup4, y_tup5, e_lst, y_lst, e_idx, y_idx1, y_idx, e_sl, y_sl1, y_sl2, y_sl3, e_call, e_bi, y_bi, e_isi, y_isiI, y_isiB, y_isiB2, y_isiI2, y_isiT, y_isiS, y_isiL, e_lenset, e_meth, y_meth2, e_comp, y_comp, y_mk, y_mkT, m_f, m_t, e_o0, asI_int, e_o1, y_trB, e_c0, e_c1, e_nil, e_cons, y_es, y_con, i_val, y_valT, y_valL, i_rng2, y_rng, i_rng1, enuT_tup, i_enuT, i_zip, y_zip, t_set, y_set, setA_nil, setA_cons, t_par, tgtA_name, tgtA_pair, tgtA_three, t_tgt, t_setI, y_put1, y_put2, t_ret, y_ret, t_retN, t_ifs, y_ifs, t_wh, t_fors, t_ex, y_ex, t_brk, t_cnt, t_pass, t_nil, t_cons, q_nx, q_rt, q_bk, q_ct, q_if, n_if, n_rt, n_nx, g_ok, g_bl, g_int, g_bind, g_bindS, z_bind, z_bindS, z_o, z_if, z_no, List.getElem?_cons_zero, List.getElem?_cons_succ, Option.join_some, List.set_cons_zero, List.set_cons_succ, neg, getIx, seqOf, lstOf, rd, itemsOf, wipeS, D.same, ix_0, ix_1, ix_2, sl_to, b_add, b_sub, b_mul, b_div, b_mod, b_pow, b_cat, b_catT, b_catL, c_lt, c_le, c_gt, c_ge, c_eqI, c_neI, c_eqS, c_neS, c_eqB, c_neB, c_isN, c_notN, c_memL, c_nmemL, c_memT, c_nmemT, k_lenT, k_lenL, k_lenR, k_lenS, k_intI, k_intB, k_abs, k_tupL, k_tupT, k_max2, k_min2, k_divmod, k_all, k_sorted, k_sum, List.length_cons, List.length_nil, List.length_map, if_true, Bool.true_and, Bool.and_true, Bool.not_true, Bool.not_false, decide_true, Bool.false_eq_true, if_false, Int.reduceLT, Int.reduceLE, Int.reduceNeg, Int.reducePow, Int.reduceAdd, Int.reduceSub, Int.reduceMul, Nat.reduceAdd, Nat.reducePow, Nat.reduceLT, Nat.reduceLeDiff, Int.reduceEq, cond_true, cond_false, Bool.cond_false_right, Bool.cond_false_left, Bool.cond_true_left, Bool.cond_true_right]
        rw [y_meth _ _ _ _ _ _ g7]
        simp only [e_int, e_bl, e_non, e_str, e_var, e_con, e_fnv, e_bin, y_bin1, y_bin, e_neg, e_not, y_not, y_notI, e_cmp, y_cmp1, y_cmp, e_chain, y_ch1, y_ch2, y_ch3, e_and, e_or, e_and1, e_or1, e_and2, e_or2, y_and, y_or, e_ite, y_ite, e_tup, y_tup0, y_tup1, y_tup2, y_tup3, y_tup4, y_tup5, e_lst, y_lst, e_idx, y_idx1, y_idx, e_sl, y_sl1, y_sl2, y_sl3, e_call, e_bi, y_bi, e_isi, y_isiI, y_isiB, y_isiB2, y_isiI2, y_isiT, y_isiS, y_isiL, e_lenset, e_meth, y_meth2, e_comp, y_comp, y_mk, y_mkT, m_f, m_t, e_o0, asI_int, e_o1, y_trB, e_c0, e_c1, e_nil, e_cons, y_es, y_con, i_val, y_valT, y_valL, i_rng2, y_rng, i_rng1, enuT_tup, i_enuT, i_zip, y_zip, t_set, y_set, setA_nil, setA_cons, t_par, tgtA_name, tgtA_pair, tgtA_three, t_tgt, t_setI, y_put1, y_put2, t_ret, y_ret, t_retN, t_ifs, y_ifs, t_wh, t_fors, t_ex, y_ex, t_brk, t_cnt, t_pass, t_nil, t_cons, q_nx, q_rt, q_bk, q_ct, q_if, n_if, n_rt, n_nx, g_ok, g_bl, g_int, g_bind, g_bindS, z_bind, z_bindS, z_o, z_if, z_no, List.getElem?_cons_zero, List.getElem?_cons_succ, Option.join_some, List.set_cons_zero, List.set_cons_succ, neg, getIx, seqOf, lstOf, rd, itemsOf, wipeS, D.same, ix_0, ix_1, ix_2, sl_to, b_add, b_sub, b_mul, b_div, b_mod, b_pow, b_cat, b_catT, b_catL, c_lt, c_le, c_gt, c_ge, c_eqI, c_neI, c_eqS, c_neS, c_eqB, c_neB, c_isN, c_notN, c_memL, c_nmemL, c_memT, c_nmemT, k_lenT, k_lenL, k_lenR, k_lenS, k_intI, k_intB, k_abs, k_tupL, k_tupT, k_max2, k_min2, k_divmod, k_all, k_sorted, k_sum, List.length_cons, List.length_nil, List.length_map, if_true, Bool.true_and, Bool.and_true, Bool.not_true, Bool.not_false, decide_true, Bool.false_eq_true, if_false, Int.reduceLT, Int.reduceLE, Int.reduceNeg, Int.reducePow, Int.reduceAdd, Int.reduceSub, Int.reduceMul, Nat.reduceAdd, Nat.reducePow, Nat.reduceLT, Nat.reduceLeDiff, Int.reduceEq, cond_true, cond_false, Bool.cond_false_right, Bool.cond_false_left, Bool.cond_true_left, Bool.cond_true_right]
        have := nodup_sub xs [-3, -2, -1, 0, 1, 2, 3] g3 fun x hx => by have := g6 x hx; simp; omega
        simp only [List.length_cons, List.length_nil] at this
        rw [m_append g7 (by simp; omega)]
        simp only [e_int, e_bl, e_non, e_str, e_var, e_con, e_fnv, e_bin, y_bin1, y_bin, e_neg, e_not, y_not, y_notI, e_cmp, y_cmp1, y_cmp, e_chain, y_ch1, y_ch2, y_ch3, e_and, e_or, e_and1, e_or1, e_and2, e_or2, y_and, y_or, e_ite, y_ite, e_tup, y_tup0, y_tup1, y_tup2, y_tup3, y_tup4, y_tup5, e_lst, y_lst, e_idx, y_idx1, y_idx, e_sl, y_sl1, y_sl2, y_sl3, e_call, e_bi, y_bi, e_isi, y_isiI, y_isiB, y_isiB2, y_isiI2, y_isiT, y_isiS, y_isiL, e_lenset, e_meth, y_meth2, e_comp, y_comp, y_mk, y_mkT, m_f, m_t, e_o0, asI_int, e_o1, y_trB, e_c0, e_c1, e_nil, e_cons, y_es, y_con, i_val, y_valT, y_valL, i_rng2, y_rng, i_rng1, enuT_tup, i_enuT, i_zip, y_zip, t_set, y_set, setA_nil, setA_cons, t_par, tgtA_name, tgtA_pair, tgtA_three, t_tgt, t_setI, y_put1, y_put2, t_ret, y_ret, t_retN, t_ifs, y_ifs, t_wh, t_fors, t_ex, y_ex, t_brk, t_cnt, t_pass, t_nil, t_cons, q_nx, q_rt, q_bk, q_ct, q_if, n_if, n_rt, n_nx, g_ok, g_bl, g_int, g_bind, g_bindS, z_bind, z_bindS, z_o, z_if, z_no, List.getElem?_cons_zero, List.getElem?_cons_succ, Option.join_some, List.set_cons_zero, List.set_cons_succ, neg, getIx, seqOf, lstOf, rd, itemsOf, wipeS, D.same, ix_0, ix_1, ix_2, sl_to, b_add, b_sub, b_mul, b_div, b_mod, b_pow, b_cat, b_catT, b_catL, c_lt, c_le, c_gt, c_ge, c_eqI, c_neI, c_eqS, c_neS, c_eqB, c_neB, c_isN, c_notN, c_memL, c_nmemL, c_memT, c_nmemT, k_lenT, k_lenL, k_lenR, k_lenS, k_intI, k_intB, k_abs, k_tupL, k_tupT, k_max2, k_min2, k_divmod, k_all, k_sorted, k_sum, List.length_cons, List.length_nil, List.length_map, if_true, Bool.true_and, Bool.and_true, Bool.not_true, Bool.not_false, decide_true, Bool.false_eq_true, if_false, Int.reduceLT, Int.reduceLE, Int.reduceNeg, Int.reducePow, Int.reduceAdd, Int.reduceSub, Int.reduceMul, Nat.reduceAdd, Nat.reducePow, Nat.reduceLT, Nat.reduceLeDiff, Int.reduceEq, cond_true, cond_false, Bool.cond_false_right, Bool.cond_false_left, Bool.cond_true_left, Bool.cond_true_right, List.map_append, List.map_cons, List.map_nil]
      · obtain ⟨a, b, k5⟩ := k5
        exact ⟨a, b, by rw [set_off (Ne.symm hq)]; exact k5⟩
      · rw [List.nodup_append]
        refine ⟨g3, by simp, fun a ha b hb e => ?_⟩
        simp only [List.mem_singleton] at hb
        subst hb; subst e
        exact hm ha
      · intro x hx
        rcases List.mem_append.mp hx with hx | hx
        · exact g6 x hx
        · simp only [List.mem_singleton] at hx; omega) ⟨[v], none, none, rfl, k4, by rw [set_off hq]; exact app_new _ _, by simp, by simp, by simp, by simpa using hv⟩
  obtain ⟨d6, hd6, o6, e6, k6⟩ := s_any n p [.int 1, .int 1, .int 1, .int 1, .int 2, .int 3] _ w1 (by simp) (by simp)
  obtain ⟨r7, o7, e7, h7, k7⟩ := s_cupN (n + 1) p 2 _ k6 (by omega) (by omega)
  obtain ⟨u, rfl, hu⟩ : ∃ v, d6 = .int v ∧ (1 ≤ v ∧ v ≤ 3) := by
    simp only [List.mem_cons, List.not_mem_nil, or_false] at hd6
    rcases hd6 with rfl | rfl | rfl | rfl | rfl | rfl <;> exact ⟨_, rfl, by omega, by omega⟩
  have w7 : ((S'.set p o6).set p o7)[T.length]? = some (.list (xs.map .int)) := by rw [set_off hq, set_off hq]; exact w2
  simp only [e_int, e_bl, e_non, e_str, e_var, e_con, e_fnv, e_bin, y_bin1, y_bin, e_neg, e_not, y_not, y_notI, e_cmp, y_cmp1, y_cmp, e_chain, y_ch1, y_ch2, y_ch3, e_and, e_or, e_and1, e_or1, e_and2, e_or2, y_and, y_or, e_ite, y_ite, e_tup, y_tup0, y_tup1, y_tup2, y_tup3, y_tup4, y_tup5, e_lst, y_lst, e_idx, y_idx1, y_idx, e_sl, y_sl1, y_sl2, y_sl3, e_call, e_bi, y_bi, e_isi, y_isiI, y_isiB, y_isiB2, y_isiI2, y_isiT, y_isiS, y_isiL, e_lenset, e_meth, y_meth2, e_comp, y_comp, y_mk, y_mkT, m_f, m_t, e_o0, asI_int, e_o1, y_trB, e_c0, e_c1, e_nil, e_cons, y_es, y_con, i_val, y_valT, y_valL, i_rng2, y_rng, i_rng1, enuT_tup, i_enuT, i_zip, y_zip, t_set, y_set, setA_nil, setA_cons, t_par, tgtA_name, tgtA_pair, tgtA_three, t_tgt, t_setI, y_put1, y_put2, t_ret, y_ret, t_retN, t_ifs, y_ifs, t_wh, t_fors, t_ex, y_ex, t_brk, t_cnt, t_pass, t_nil, t_cons, q_nx, q_rt, q_bk, q_ct, q_if, n_if, n_rt, n_nx, g_ok, g_bl, g_int, g_bind, g_bindS, z_bind, z_bindS, z_o, z_if, z_no, List.getElem?_cons_zero, List.getElem?_cons_succ, Option.join_some, List.set_cons_zero, List.set_cons_succ, neg, getIx, seqOf, lstOf, rd, itemsOf, wipeS, D.same, ix_0, ix_1, ix_2, sl_to, b_add, b_sub, b_mul, b_div, b_mod, b_pow, b_cat, b_catT, b_catL, c_lt, c_le, c_gt, c_ge, c_eqI, c_neI, c_eqS, c_neS, c_eqB, c_neB, c_isN, c_notN, c_memL, c_nmemL, c_memT, c_nmemT, k_lenT, k_lenL, k_lenR, k_lenS, k_intI, k_intB, k_abs, k_tupL, k_tupT, k_max2, k_min2, k_divmod, k_all, k_sorted, k_sum, List.length_cons, List.length_nil, List.length_map, if_true, Bool.true_and, Bool.and_true, Bool.not_true, Bool.not_false, decide_true, Bool.false_eq_true, if_false, Int.reduceLT, Int.reduceLE, Int.reduceNeg, Int.reducePow, Int.reduceAdd, Int.reduceSub, Int.reduceMul, Nat.reduceAdd, Nat.reducePow, Nat.reduceLT, Nat.reduceLeDiff, Int.reduceEq, cond_true, cond_false, Bool.cond_false_right, Bool.cond_false_left, Bool.cond_true_left, Bool.cond_true_right, e6, e7, k_tupLoc w7]
  refine ⟨⟨u, (r7 : Int) == 1, xs⟩, _, rfl, ?_, k7⟩
  have hl : (List.range r4).foldl (fun a _ => a + 1) 0 = r4 := by
    have : ∀ (l : List Nat) (k : Nat), l.foldl (fun a _ => a + 1) k = k + l.length := by
      intro l
      induction l with
      | nil => simp
      | cons x l ih => intro k; simp [ih]; omega
    rw [this]; simp
  rw [hl] at w5
  simp only [okR, Bool.and_eq_true, decide_eq_true_eq, List.all_eq_true, unlike_nd w3]
  refine ⟨⟨⟨⟨⟨by omega, by omega⟩, by omega⟩, by omega⟩, fun x hx => by simpa using w6 x hx⟩, trivial⟩
end Lw
namespace Lw
open PySem L2 Ev
/-! ### the game: how many tries a rule needs at the worst -/
theorem nxt_some {r : Rl} {lo hi : Int} {B : List Int} {e : Int} (h : nxt r lo hi B = some e) : lo < e ∧ e < hi ∧ e ∉ B ∧ r.n < hi - lo ∧ ∃ p ∈ r.ps, e = mid r lo hi + p := by
  unfold nxt at h
  split at h
  · cases h
  · next hn =>
    have h1 := List.find?_some h
    have h2 := List.mem_of_find?_eq_some h
    simp only [Bool.and_eq_true, decide_eq_true_eq, Bool.not_eq_true', decide_eq_false_iff_not] at h1
    obtain ⟨p, hp, e'⟩ := List.mem_map.mp h2
    exact ⟨h1.1.1, h1.1.2, h1.2, by omega, p, hp, e'.symm⟩
def ab (e : Int) (B : List Int) : List Int := (B.filter fun o => decide (e < o)).map fun o => o - e
def be (e : Int) (B : List Int) : List Int := B.filter fun o => decide (o < e)
def add (e : Int) (B : List Int) : List Int := isort (B ++ [e])
theorem mem_add {e : Int} {B : List Int} (x : Int) : x ∈ add e B ↔ x ∈ B ∨ x = e := by
  unfold add
  rw [(isort_perm _).mem_iff]; simp
/-- places that are still free -/
def cnt (r : Rl) (L : Int) (B : List Int) : Nat := (r.ps.filter fun p => !decide (mid r 0 L + p ∈ B)).length
theorem filter_lt {α : Type} (p q : α → Bool) : ∀ (l : List α), (∀ x ∈ l, q x = true → p x = true) → (∃ x ∈ l, p x = true ∧ q x = false) → (l.filter q).length < (l.filter p).length
  | [], _, ⟨x, hx, _⟩ => by simp at hx
  | y :: l, h, ⟨x, hx, h1, h2⟩ => by
    have hl : (l.filter q).length ≤ (l.filter p).length := by
      rw [← List.countP_eq_length_filter, ← List.countP_eq_length_filter]
      exact List.countP_mono_left fun z hz => h z (List.mem_cons_of_mem _ hz)
    rcases List.mem_cons.mp hx with rfl | hx
    · rw [List.filter_cons_of_pos h1, List.filter_cons_of_neg (by simp [h2])]
      simp; omega
    · have ih := filter_lt p q l (fun z hz => h z (List.mem_cons_of_mem _ hz)) ⟨x, hx, h1, h2⟩
      by_cases hq : q y = true
      · rw [List.filter_cons_of_pos hq, List.filter_cons_of_pos (h y List.mem_cons_self hq)]
        simpa using ih
      · rw [List.filter_cons_of_neg hq]
        by_cases hp : p y = true
        · rw [List.filter_cons_of_pos hp]; simp; omega
        · rw [List.filter_cons_of_neg hp]; exact ih
theorem cnt_add {r : Rl} {L : Int} {B : List Int} {e : Int} (h : nxt r 0 L B = some e) : cnt r L (add e B) < cnt r L B := by
  obtain ⟨_, _, h3, _, p, hp, he⟩ := nxt_some h
  refine filter_lt _ _ _ (fun x _ hx => ?_) ⟨p, hp, ?_, ?_⟩
  · simp only [Bool.not_eq_true', decide_eq_false_iff_not, mem_add, not_or] at hx ⊢
    exact hx.1
  · simp only [Bool.not_eq_true', decide_eq_false_iff_not, ← he]; exact h3
  · simp only [Bool.not_eq_false', decide_eq_true_eq, mem_add, ← he]; exact .inr trivial
theorem cnt_le (r : Rl) (L : Int) (B : List Int) : cnt r L B ≤ r.ps.length := List.length_filter_le _ _
def mu (r : Rl) (L : Int) (B : List Int) : Nat := (r.ps.length + 1) * L.toNat + cnt r L B
theorem mu_less {r : Rl} {L L' : Int} {B B' : List Int} (h0 : 0 < L) (h : L' < L) : mu r L' B' < mu r L B := by
  have h1 := cnt_le r L' B'
  have h2 : L'.toNat + 1 ≤ L.toNat := by omega
  have h3 := Nat.mul_le_mul_left (r.ps.length + 1) h2
  rw [Nat.mul_add] at h3
  unfold mu
  omega
theorem mu_add {r : Rl} {L : Int} {B : List Int} {e : Int} (h : nxt r 0 L B = some e) : mu r L (add e B) < mu r L B := by
  have := cnt_add h
  unfold mu; omega
def T (r : Rl) (run : Int) (L : Int) (B : List Int) : Int := match h : nxt r 0 L B with
  | none => 0
  | some e => 1 + (if rowW B e ≤ run then max (max (T r run (L - e) (ab e B)) (T r run e (be e B))) (T r run L (add e B)) else max (T r run (L - e) (ab e B)) (T r run e (be e B)))
termination_by mu r L B
decreasing_by
  · obtain ⟨h1, h2, _⟩ := nxt_some h; exact mu_less (by omega) (by omega)
  · obtain ⟨h1, h2, _⟩ := nxt_some h; exact mu_less (by omega) (by omega)
  · exact mu_add h
  · obtain ⟨h1, h2, _⟩ := nxt_some h; exact mu_less (by omega) (by omega)
  · obtain ⟨h1, h2, _⟩ := nxt_some h; exact mu_less (by omega) (by omega)
theorem T_none {r : Rl} {run L : Int} {B : List Int} (h : nxt r 0 L B = none) : T r run L B = 0 := by
  rw [T]; split
  · rfl
  · next e he => rw [h] at he; cases he
theorem T_some {r : Rl} {run L : Int} {B : List Int} {e : Int} (h : nxt r 0 L B = some e) : T r run L B = 1 + (if rowW B e ≤ run then max (max (T r run (L - e) (ab e B)) (T r run e (be e B))) (T r run L (add e B)) else max (T r run (L - e) (ab e B)) (T r run e (be e B))) := by
  rw [T]; split
  · next he => rw [h] at he; cases he
  · next e' he => rw [h] at he; cases he; rfl
theorem T_nonneg (r : Rl) (run : Int) : ∀ (k : Nat) (L : Int) (B : List Int), mu r L B < k → 0 ≤ T r run L B
  | 0, _, _, h => by omega
  | k + 1, L, B, h => by
    cases e : nxt r 0 L B with
    | none => rw [T_none e]; exact Int.le_refl _
    | some e' =>
      obtain ⟨h1, h2, _⟩ := nxt_some e
      rw [T_some e]
      have a := T_nonneg r run k (L - e') (ab e' B) (by have := mu_less (r := r) (L := L) (L' := L - e') (B := B) (B' := ab e' B) (by omega) (by omega); omega)
      split <;> omega
theorem T_ge (r : Rl) (run L : Int) (B : List Int) : 0 ≤ T r run L B := T_nonneg r run (mu r L B + 1) L B (Nat.lt_succ_self _)
/-- how wide a stretch may be left -/
def Op (r : Rl) (run : Int) (L : Int) (B : List Int) : Int := match h : nxt r 0 L B with
  | none => L
  | some e => (if rowW B e ≤ run then max (max (Op r run (L - e) (ab e B)) (Op r run e (be e B))) (Op r run L (add e B)) else max (Op r run (L - e) (ab e B)) (Op r run e (be e B)))
termination_by mu r L B
decreasing_by
  · obtain ⟨h1, h2, _⟩ := nxt_some h; exact mu_less (by omega) (by omega)
  · obtain ⟨h1, h2, _⟩ := nxt_some h; exact mu_less (by omega) (by omega)
  · exact mu_add h
  · obtain ⟨h1, h2, _⟩ := nxt_some h; exact mu_less (by omega) (by omega)
  · obtain ⟨h1, h2, _⟩ := nxt_some h; exact mu_less (by omega) (by omega)
theorem Op_none {r : Rl} {run L : Int} {B : List Int} (h : nxt r 0 L B = none) : Op r run L B = L := by
  rw [Op]; split
  · rfl
  · next e he => rw [h] at he; cases he
theorem Op_some {r : Rl} {run L : Int} {B : List Int} {e : Int} (h : nxt r 0 L B = some e) : Op r run L B = (if rowW B e ≤ run then max (max (Op r run (L - e) (ab e B)) (Op r run e (be e B))) (Op r run L (add e B)) else max (Op r run (L - e) (ab e B)) (Op r run e (be e B))) := by
  rw [Op]; split
  · next he => rw [h] at he; cases he
  · next e' he => rw [h] at he; cases he; rfl
/-! ### the ends of a chain of barred tries -/
abbrev En := Int × Int × List Int
def ends (r : Rl) (run L : Int) (B : List Int) (many : Int) : List En × Option Int := match h : nxt r 0 L B with
  | none => ([], some many)
  | some e => if run < rowW B e then ([(many, L - e, ab e B), (many, e, be e B)], none) else
    ([(many, L - e, ab e B), (many, e, be e B)] ++ (ends r run L (add e B) (many + 1)).1, (ends r run L (add e B) (many + 1)).2)
termination_by cnt r L B
decreasing_by all_goals exact cnt_add h
theorem ends_none {r : Rl} {run L : Int} {B : List Int} {many : Int} (h : nxt r 0 L B = none) : ends r run L B many = ([], some many) := by
  rw [ends]; split
  · rfl
  · next e he => rw [h] at he; cases he
theorem ends_some {r : Rl} {run L : Int} {B : List Int} {many : Int} {e : Int} (h : nxt r 0 L B = some e) : ends r run L B many = if run < rowW B e then ([(many, L - e, ab e B), (many, e, be e B)], none) else
    ([(many, L - e, ab e B), (many, e, be e B)] ++ (ends r run L (add e B) (many + 1)).1, (ends r run L (add e B) (many + 1)).2) := by
  rw [ends]; split
  · next he => rw [h] at he; cases he
  · next e' he => rw [h] at he; cases he; rfl
theorem fold_max (f : En → Int) : ∀ (l : List En) (a b : Int), l.foldl (fun m x => max m (f x)) (max a b) = max a (l.foldl (fun m x => max m (f x)) b)
  | [], a, b => rfl
  | x :: l, a, b => by
    simp only [List.foldl_cons]
    rw [Int.max_assoc]
    exact fold_max f l a (max b (f x))
def s0 : Option Int → Int
  | none => 0
  | some k => k
theorem ends_T (r : Rl) (run L : Int) : ∀ (k : Nat) (B : List Int) (many : Int), cnt r L B < k → 0 ≤ many →
    (ends r run L B many).1.foldl (fun m x => max m (x.1 + 1 + T r run x.2.1 x.2.2)) (s0 (ends r run L B many).2) = many + T r run L B
  | 0, _, _, h, _ => by omega
  | k + 1, B, many, h, h0 => by
    cases e : nxt r 0 L B with
    | none => rw [ends_none e, T_none e]; simp [s0]
    | some e' =>
      have t1 := T_ge r run (L - e') (ab e' B)
      have t2 := T_ge r run e' (be e' B)
      rw [ends_some e, T_some e]
      by_cases hr : run < rowW B e'
      · rw [if_pos hr, if_neg (by omega)]
        simp only [List.foldl_cons, List.foldl_nil, s0]
        omega
      · rw [if_neg hr, if_pos (by omega)]
        have ih := ends_T r run L k (add e' B) (many + 1) (by have := cnt_add e; omega) (by omega)
        rw [List.foldl_append]
        simp only [List.foldl_cons, List.foldl_nil]
        rw [show max (max (s0 (ends r run L (add e' B) (many + 1)).2) (many + 1 + T r run (L - e') (ab e' B))) (many + 1 + T r run e' (be e' B)) = max (max (many + 1 + T r run (L - e') (ab e' B)) (many + 1 + T r run e' (be e' B))) (s0 (ends r run L (add e' B) (many + 1)).2) by omega]
        rw [fold_max, ih]
        omega
def o0 (L : Int) : Option Int → Int
  | none => 1
  | some _ => L
theorem Op_pos (r : Rl) (run : Int) : ∀ (k : Nat) (L : Int) (B : List Int), mu r L B < k → 0 < L → 0 < Op r run L B
  | 0, _, _, h, _ => by omega
  | k + 1, L, B, h, h0 => by
    cases e : nxt r 0 L B with
    | none => rw [Op_none e]; exact h0
    | some e' =>
      obtain ⟨h1, h2, _⟩ := nxt_some e
      rw [Op_some e]
      have a := Op_pos r run k (L - e') (ab e' B) (by have := mu_less (r := r) (L := L) (L' := L - e') (B := B) (B' := ab e' B) (by omega) (by omega); omega) (by omega)
      split <;> omega
theorem Op_ge (r : Rl) (run L : Int) (B : List Int) (h : 0 < L) : 0 < Op r run L B := Op_pos r run (mu r L B + 1) L B (Nat.lt_succ_self _) h
theorem ends_O (r : Rl) (run L : Int) : ∀ (k : Nat) (B : List Int) (many : Int), cnt r L B < k →
    (ends r run L B many).1.foldl (fun m x => max m (Op r run x.2.1 x.2.2)) (o0 L (ends r run L B many).2) = Op r run L B
  | 0, _, _, h => by omega
  | k + 1, B, many, h => by
    cases e : nxt r 0 L B with
    | none => rw [ends_none e, Op_none e]; simp [o0]
    | some e' =>
      obtain ⟨h1, h2, _⟩ := nxt_some e
      have t1 := Op_ge r run (L - e') (ab e' B) (by omega)
      have t2 := Op_ge r run e' (be e' B) (by omega)
      rw [ends_some e, Op_some e]
      by_cases hr : run < rowW B e'
      · rw [if_pos hr, if_neg (by omega)]
        simp only [List.foldl_cons, List.foldl_nil, o0]
        omega
      · rw [if_neg hr, if_pos (by omega)]
        have ih := ends_O r run L k (add e' B) (many + 1) (by have := cnt_add e; omega)
        rw [List.foldl_append]
        simp only [List.foldl_cons, List.foldl_nil]
        rw [show max (max (o0 L (ends r run L (add e' B) (many + 1)).2) (Op r run (L - e') (ab e' B))) (Op r run e' (be e' B)) = max (max (Op r run (L - e') (ab e' B)) (Op r run e' (be e' B))) (o0 L (ends r run L (add e' B) (many + 1)).2) by omega]
        rw [fold_max, ih]
end Lw
namespace Lw
open PySem L2 Ev
/-! ### ends_behind -/
def eB (B : List Int) : D := .tup (B.map .int)
def eEn (x : En) : D := .tup [.int x.1, .int x.2.1, eB x.2.2]
theorem eB_mem (B : List Int) (i : Int) (S : Store) : cmpop .mem (.int i) (eB B) S = .ok (.bl (decide (i ∈ B))) S := c_memT i S B
theorem eB_nmem (B : List Int) (i : Int) (S : Store) : cmpop .nmem (.int i) (eB B) S = .ok (.bl (!decide (i ∈ B))) S := c_nmemT i S B
theorem kVal_eB (B : List Int) (S : Store) : kVal (eB B) S = .ok { xs := B.map .int } S := rfl
theorem notN_eO (o : Option Int) (S : Store) : cmpop .notN (eO o) .non S = .ok (.bl o.isSome) S := by cases o <;> rfl
/-- the three rows of numbers that a chain makes -/
theorem c_ab {cl : Nat → List D → Store → R D} (i j : Nat) (B : List Int) (e : Int) (S : Store) (τ : Slots) (hi : i < τ.length) (hj : j ≠ i) (h2 : τ[j]? = some (some (.int e))) :
    compB cl (.name i) (some (.cmp .gt (.var i) (.var j))) (.bin .sub (.var i) (.var j)) τ { xs := B.map .int } S = .ok ((ab e B).map .int) S := by
  generalize hf : compB _ _ _ _ _ _ _ = z
  have q := compB_run hf (fun o => decide (e < o)) (fun o => .int (o - e)) (by
    rintro o -
    have g1 : (τ.set i (some (.int o)))[i]? = some (some (.int o)) := List.getElem?_set_self hi
    have g2 : (τ.set i (some (.int o)))[j]? = some (some (.int e)) := by rw [List.getElem?_set_ne (Ne.symm hj)]; exact h2
    refine ⟨_, rfl, ?_, fun _ => ?_⟩
    · simp only [e_int, e_bl, e_non, e_str, e_var, e_con, e_fnv, e_bin, y_bin1, y_bin, e_neg, e_not, y_not, y_notI, e_cmp, y_cmp1, y_cmp, e_chain, y_ch1, y_ch2, y_ch3, e_and, e_or, e_and1, e_or1, e_and2, e_or2, y_and, y_or, e_ite, y_ite, e_tup, y_tup0, y_tup1, y_tup2, y_tup3, y_tup4, y_tup5, e_lst, y_lst, e_idx, y_idx1, y_idx, e_sl, y_sl1, y_sl2, y_sl3, e_call, e_bi, y_bi, e_isi, y_isiI, y_isiB, y_isiB2, y_isiI2, y_isiT, y_isiS, y_isiL, e_lenset, e_meth, y_meth2, e_comp, y_comp, y_mk, y_mkT, m_f, m_t, e_o0, asI_int, e_o1, y_trB, e_c0, e_c1, e_nil, e_cons, y_es, y_con, i_val, y_valT, y_valL, i_rng2, y_rng, i_rng1, enuT_tup, i_enuT, i_zip, y_zip, t_set, y_set, setA_nil, setA_cons, t_par, tgtA_name, tgtA_pair, tgtA_three, t_tgt, t_setI, y_put1, y_put2, t_ret, y_ret, t_retN, t_ifs, y_ifs, t_wh, t_fors, t_ex, y_ex, t_brk, t_cnt, t_pass, t_nil, t_cons, q_nx, q_rt, q_bk, q_ct, q_if, n_if, n_rt, n_nx, g_ok, g_bl, g_int, g_bind, g_bindS, z_bind, z_bindS, z_o, z_if, z_no, List.getElem?_cons_zero, List.getElem?_cons_succ, Option.join_some, List.set_cons_zero, List.set_cons_succ, neg, getIx, seqOf, lstOf, rd, itemsOf, wipeS, D.same, ix_0, ix_1, ix_2, sl_to, b_add, b_sub, b_mul, b_div, b_mod, b_pow, b_cat, b_catT, b_catL, c_lt, c_le, c_gt, c_ge, c_eqI, c_neI, c_eqS, c_neS, c_eqB, c_neB, c_isN, c_notN, c_memL, c_nmemL, c_memT, c_nmemT, k_lenT, k_lenL, k_lenR, k_lenS, k_intI, k_intB, k_abs, k_tupL, k_tupT, k_max2, k_min2, k_divmod, k_all, k_sorted, k_sum, List.length_cons, List.length_nil, List.length_map, if_true, Bool.true_and, Bool.and_true, Bool.not_true, Bool.not_false, decide_true, Bool.false_eq_true, if_false, Int.reduceLT, Int.reduceLE, Int.reduceNeg, Int.reducePow, Int.reduceAdd, Int.reduceSub, Int.reduceMul, Nat.reduceAdd, Nat.reducePow, Nat.reduceLT, Nat.reduceLeDiff, Int.reduceEq, cond_true, cond_false, Bool.cond_false_right, Bool.cond_false_left, Bool.cond_true_left, Bool.cond_true_right, g1, g2]
    · simp only [e_int, e_bl, e_non, e_str, e_var, e_con, e_fnv, e_bin, y_bin1, y_bin, e_neg, e_not, y_not, y_notI, e_cmp, y_cmp1, y_cmp, e_chain, y_ch1, y_ch2, y_ch3, e_and, e_or, e_and1, e_or1, e_and2, e_or2, y_and, y_or, e_ite, y_ite, e_tup, y_tup0, y_tup1, y_tup2, y_tup3, y_tup4, y_tup5, e_lst, y_lst, e_idx, y_idx1, y_idx, e_sl, y_sl1, y_sl2, y_sl3, e_call, e_bi, y_bi, e_isi, y_isiI, y_isiB, y_isiB2, y_isiI2, y_isiT, y_isiS, y_isiL, e_lenset, e_meth, y_meth2, e_comp, y_comp, y_mk, y_mkT, m_f, m_t, e_o0, asI_int, e_o1, y_trB, e_c0, e_c1, e_nil, e_cons, y_es, y_con, i_val, y_valT, y_valL, i_rng2, y_rng, i_rng1, enuT_tup, i_enuT, i_zip, y_zip, t_set, y_set, setA_nil, setA_cons, t_par, tgtA_name, tgtA_pair, tgtA_three, t_tgt, t_setI, y_put1, y_put2, t_ret, y_ret, t_retN, t_ifs, y_ifs, t_wh, t_fors, t_ex, y_ex, t_brk, t_cnt, t_pass, t_nil, t_cons, q_nx, q_rt, q_bk, q_ct, q_if, n_if, n_rt, n_nx, g_ok, g_bl, g_int, g_bind, g_bindS, z_bind, z_bindS, z_o, z_if, z_no, List.getElem?_cons_zero, List.getElem?_cons_succ, Option.join_some, List.set_cons_zero, List.set_cons_succ, neg, getIx, seqOf, lstOf, rd, itemsOf, wipeS, D.same, ix_0, ix_1, ix_2, sl_to, b_add, b_sub, b_mul, b_div, b_mod, b_pow, b_cat, b_catT, b_catL, c_lt, c_le, c_gt, c_ge, c_eqI, c_neI, c_eqS, c_neS, c_eqB, c_neB, c_isN, c_notN, c_memL, c_nmemL, c_memT, c_nmemT, k_lenT, k_lenL, k_lenR, k_lenS, k_intI, k_intB, k_abs, k_tupL, k_tupT, k_max2, k_min2, k_divmod, k_all, k_sorted, k_sum, List.length_cons, List.length_nil, List.length_map, if_true, Bool.true_and, Bool.and_true, Bool.not_true, Bool.not_false, decide_true, Bool.false_eq_true, if_false, Int.reduceLT, Int.reduceLE, Int.reduceNeg, Int.reducePow, Int.reduceAdd, Int.reduceSub, Int.reduceMul, Nat.reduceAdd, Nat.reducePow, Nat.reduceLT, Nat.reduceLeDiff, Int.reduceEq, cond_true, cond_false, Bool.cond_false_right, Bool.cond_false_left, Bool.cond_true_left, Bool.cond_true_right, g1, g2])
  rw [q]
  simp [ab]
theorem c_be {cl : Nat → List D → Store → R D} (i j : Nat) (B : List Int) (e : Int) (S : Store) (τ : Slots) (hi : i < τ.length) (hj : j ≠ i) (h2 : τ[j]? = some (some (.int e))) :
    compB cl (.name i) (some (.cmp .lt (.var i) (.var j))) (.var i) τ { xs := B.map .int } S = .ok ((be e B).map .int) S := by
  generalize hf : compB _ _ _ _ _ _ _ = z
  have q := compB_run hf (fun o => decide (o < e)) (fun o => .int o) (by
    rintro o -
    have g1 : (τ.set i (some (.int o)))[i]? = some (some (.int o)) := List.getElem?_set_self hi
    have g2 : (τ.set i (some (.int o)))[j]? = some (some (.int e)) := by rw [List.getElem?_set_ne (Ne.symm hj)]; exact h2
    refine ⟨_, rfl, ?_, fun _ => ?_⟩
    · simp only [e_int, e_bl, e_non, e_str, e_var, e_con, e_fnv, e_bin, y_bin1, y_bin, e_neg, e_not, y_not, y_notI, e_cmp, y_cmp1, y_cmp, e_chain, y_ch1, y_ch2, y_ch3, e_and, e_or, e_and1, e_or1, e_and2, e_or2, y_and, y_or, e_ite, y_ite, e_tup, y_tup0, y_tup1, y_tup2, y_tup3, y_tup4, y_tup5, e_lst, y_lst, e_idx, y_idx1, y_idx, e_sl, y_sl1, y_sl2, y_sl3, e_call, e_bi, y_bi, e_isi, y_isiI, y_isiB, y_isiB2, y_isiI2, y_isiT, y_isiS, y_isiL, e_lenset, e_meth, y_meth2, e_comp, y_comp, y_mk, y_mkT, m_f, m_t, e_o0, asI_int, e_o1, y_trB, e_c0, e_c1, e_nil, e_cons, y_es, y_con, i_val, y_valT, y_valL, i_rng2, y_rng, i_rng1, enuT_tup, i_enuT, i_zip, y_zip, t_set, y_set, setA_nil, setA_cons, t_par, tgtA_name, tgtA_pair, tgtA_three, t_tgt, t_setI, y_put1, y_put2, t_ret, y_ret, t_retN, t_ifs, y_ifs, t_wh, t_fors, t_ex, y_ex, t_brk, t_cnt, t_pass, t_nil, t_cons, q_nx, q_rt, q_bk, q_ct, q_if, n_if, n_rt, n_nx, g_ok, g_bl, g_int, g_bind, g_bindS, z_bind, z_bindS, z_o, z_if, z_no, List.getElem?_cons_zero, List.getElem?_cons_succ, Option.join_some, List.set_cons_zero, List.set_cons_succ, neg, getIx, seqOf, lstOf, rd, itemsOf, wipeS, D.same, ix_0, ix_1, ix_2, sl_to, b_add, b_sub, b_mul, b_div, b_mod, b_pow, b_cat, b_catT, b_catL, c_lt, c_le, c_gt, c_ge, c_eqI, c_neI, c_eqS, c_neS, c_eqB, c_neB, c_isN, c_notN, c_memL, c_nmemL, c_memT, c_nmemT, k_lenT, k_lenL, k_lenR, k_lenS, k_intI, k_intB, k_abs, k_tupL, k_tupT, k_max2, k_min2, k_divmod, k_all, k_sorted, k_sum, List.length_cons, List.length_nil, List.length_map, if_true, Bool.true_and, Bool.and_true, Bool.not_true, Bool.not_false, decide_true, Bool.false_eq_true, if_false, Int.reduceLT, Int.reduceLE, Int.reduceNeg, Int.reducePow, Int.reduceAdd, Int.reduceSub, Int.reduceMul, Nat.reduceAdd, Nat.reducePow, Nat.reduceLT, Nat.reduceLeDiff, Int.reduceEq, cond_true, cond_false, Bool.cond_false_right, Bool.cond_false_left, Bool.cond_true_left, Bool.cond_true_right, g1, g2]
    · simp only [e_int, e_bl, e_non, e_str, e_var, e_con, e_fnv, e_bin, y_bin1, y_bin, e_neg, e_not, y_not, y_notI, e_cmp, y_cmp1, y_cmp, e_chain, y_ch1, y_ch2, y_ch3, e_and, e_or, e_and1, e_or1, e_and2, e_or2, y_and, y_or, e_ite, y_ite, e_tup, y_tup0, y_tup1, y_tup2, y_tup3, y_tup4, y_tup5, e_lst, y_lst, e_idx, y_idx1, y_idx, e_sl, y_sl1, y_sl2, y_sl3, e_call, e_bi, y_bi, e_isi, y_isiI, y_isiB, y_isiB2, y_isiI2, y_isiT, y_isiS, y_isiL, e_lenset, e_meth, y_meth2, e_comp, y_comp, y_mk, y_mkT, m_f, m_t, e_o0, asI_int, e_o1, y_trB, e_c0, e_c1, e_nil, e_cons, y_es, y_con, i_val, y_valT, y_valL, i_rng2, y_rng, i_rng1, enuT_tup, i_enuT, i_zip, y_zip, t_set, y_set, setA_nil, setA_cons, t_par, tgtA_name, tgtA_pair, tgtA_three, t_tgt, t_setI, y_put1, y_put2, t_ret, y_ret, t_retN, t_ifs, y_ifs, t_wh, t_fors, t_ex, y_ex, t_brk, t_cnt, t_pass, t_nil, t_cons, q_nx, q_rt, q_bk, q_ct, q_if, n_if, n_rt, n_nx, g_ok, g_bl, g_int, g_bind, g_bindS, z_bind, z_bindS, z_o, z_if, z_no, List.getElem?_cons_zero, List.getElem?_cons_succ, Option.join_some, List.set_cons_zero, List.set_cons_succ, neg, getIx, seqOf, lstOf, rd, itemsOf, wipeS, D.same, ix_0, ix_1, ix_2, sl_to, b_add, b_sub, b_mul, b_div, b_mod, b_pow, b_cat, b_catT, b_catL, c_lt, c_le, c_gt, c_ge, c_eqI, c_neI, c_eqS, c_neS, c_eqB, c_neB, c_isN, c_notN, c_memL, c_nmemL, c_memT, c_nmemT, k_lenT, k_lenL, k_lenR, k_lenS, k_intI, k_intB, k_abs, k_tupL, k_tupT, k_max2, k_min2, k_divmod, k_all, k_sorted, k_sum, List.length_cons, List.length_nil, List.length_map, if_true, Bool.true_and, Bool.and_true, Bool.not_true, Bool.not_false, decide_true, Bool.false_eq_true, if_false, Int.reduceLT, Int.reduceLE, Int.reduceNeg, Int.reducePow, Int.reduceAdd, Int.reduceSub, Int.reduceMul, Nat.reduceAdd, Nat.reducePow, Nat.reduceLT, Nat.reduceLeDiff, Int.reduceEq, cond_true, cond_false, Bool.cond_false_right, Bool.cond_false_left, Bool.cond_true_left, Bool.cond_true_right, g1])
  rw [q]
  rfl
theorem c_ints {cl : Nat → List D → Store → R D} (i : Nat) (B : List Int) (S : Store) (τ : Slots) (hi : i < τ.length) :
    compB cl (.name i) none (.bi .int [.var i]) τ { xs := B.map .int } S = .ok (B.map .int) S := by
  generalize hf : compB _ _ _ _ _ _ _ = z
  have q := compB_map hf (fun o => .int o) (by
    rintro o -
    have g1 : (τ.set i (some (.int o)))[i]? = some (some (.int o)) := List.getElem?_set_self hi
    refine ⟨_, rfl, ?_⟩
    simp only [e_int, e_bl, e_non, e_str, e_var, e_con, e_fnv, e_bin, y_bin1, y_bin, e_neg, e_not, y_not, y_notI, e_cmp, y_cmp1, y_cmp, e_chain, y_ch1, y_ch2, y_ch3, e_and, e_or, e_and1, e_or1, e_and2, e_or2, y_and, y_or, e_ite, y_ite, e_tup, y_tup0, y_tup1, y_tup2, y_tup3, y_tup4, y_tup5, e_lst, y_lst, e_idx, y_idx1, y_idx, e_sl, y_sl1, y_sl2, y_sl3, e_call, e_bi, y_bi, e_isi, y_isiI, y_isiB, y_isiB2, y_isiI2, y_isiT, y_isiS, y_isiL, e_lenset, e_meth, y_meth2, e_comp, y_comp, y_mk, y_mkT, m_f, m_t, e_o0, asI_int, e_o1, y_trB, e_c0, e_c1, e_nil, e_cons, y_es, y_con, i_val, y_valT, y_valL, i_rng2, y_rng, i_rng1, enuT_tup, i_enuT, i_zip, y_zip, t_set, y_set, setA_nil, setA_cons, t_par, tgtA_name, tgtA_pair, tgtA_three, t_tgt, t_setI, y_put1, y_put2, t_ret, y_ret, t_retN, t_ifs, y_ifs, t_wh, t_fors, t_ex, y_ex, t_brk, t_cnt, t_pass, t_nil, t_cons, q_nx, q_rt, q_bk, q_ct, q_if, n_if, n_rt, n_nx, g_ok, g_bl, g_int, g_bind, g_bindS, z_bind, z_bindS, z_o, z_if, z_no, List.getElem?_cons_zero, List.getElem?_cons_succ, Option.join_some, List.set_cons_zero, List.set_cons_succ, neg, getIx, seqOf, lstOf, rd, itemsOf, wipeS, D.same, ix_0, ix_1, ix_2, sl_to, b_add, b_sub, b_mul, b_div, b_mod, b_pow, b_cat, b_catT, b_catL, c_lt, c_le, c_gt, c_ge, c_eqI, c_neI, c_eqS, c_neS, c_eqB, c_neB, c_isN, c_notN, c_memL, c_nmemL, c_memT, c_nmemT, k_lenT, k_lenL, k_lenR, k_lenS, k_intI, k_intB, k_abs, k_tupL, k_tupT, k_max2, k_min2, k_divmod, k_all, k_sorted, k_sum, List.length_cons, List.length_nil, List.length_map, if_true, Bool.true_and, Bool.and_true, Bool.not_true, Bool.not_false, decide_true, Bool.false_eq_true, if_false, Int.reduceLT, Int.reduceLE, Int.reduceNeg, Int.reducePow, Int.reduceAdd, Int.reduceSub, Int.reduceMul, Nat.reduceAdd, Nat.reducePow, Nat.reduceLT, Nat.reduceLeDiff, Int.reduceEq, cond_true, cond_false, Bool.cond_false_right, Bool.cond_false_left, Bool.cond_true_left, Bool.cond_true_right, g1])
  rw [q]
theorem add_D (B : List Int) (e : Int) (hl : B.length < 1000) (S : Store) : binop .add (eB B) (.tup [.int e]) S = .ok (eB (B ++ [e])) S := by
  unfold eB
  rw [b_catT, List.length_map, List.length_singleton, decide_eq_true (by have : big = 16777216 := rfl; omega), z_if]
  simp
theorem add_L (xs ys : List D) (h : xs.length + ys.length < 100000) (S : Store) : binop .add (.lst xs) (.lst ys) S = .ok (.lst (xs ++ ys)) S := by
  rw [b_catL, decide_eq_true (by have : big = 16777216 := rfl; omega), z_if]
def chainC : CE := .cmp .notN (.var 7) (.non)
def chainB : List CS := [.set 8 (.bi .tuple [.comp false [("other", 9)] (.name 9) (.val (.var 6)) (some (.cmp .gt (.var 9) (.var 7))) (.bin .sub (.var 9) (.var 7))]),
      .set 10 (.bi .tuple [.comp false [("other", 9)] (.name 9) (.val (.var 6)) (some (.cmp .lt (.var 9) (.var 7))) (.var 9)]),
      .set 4 (.bin .add (.var 4) (.lst false [.tup [.var 5, .bin .sub (.var 2) (.var 7), .var 8], .tup [.var 5, .var 7, .var 10]])),
      .ifs (.cmp .gt (.call 3 [.var 6, .var 7]) (.var 1))
        ([.ret (.tup [.var 4, .non])])
        ([]),
      .par [5, 6] [.bin .add (.var 5) (.int 1), .bi .tuple [.bi .sorted [.comp false [("other", 9)] (.name 9) (.val (.bin .add (.var 6) (.tup [.var 7]))) none (.bi .int [.var 9])]]],
      .set 7 (.call 4 [.var 0, .int 0, .var 2, .var 6])]
def chainT (r : Rl) (run L : Int) (B0 : D) (found : List En) (many : Int) (B : List Int) (j8 j10 : Option D) : Slots :=
  [some (eRl r), some (.int run), some (.int L), some B0, some (.lst (found.map eEn)), some (.int many), some (eB B), some (eO (nxt r 0 L B)), j8, none, j10]
theorem chain_turn (n : Nat) (r : Rl) (run L : Int) (B0 : D) (found : List En) (many : Int) (B : List Int) (j8 j10 : Option D) (e : Int) (he : nxt r 0 L B = some e) (hl : B.length < 900) (hf : found.length < 10000) (S : Store) :
    evB (evF fs (n + 2)) chainB (chainT r run L B0 found many B j8 j10) S = if run < rowW B e then .rt (.tup [.lst ((found ++ [(many, L - e, ab e B), (many, e, be e B)]).map eEn), .non]) S
      else .nx (chainT r run L B0 (found ++ [(many, L - e, ab e B), (many, e, be e B)]) (many + 1) (add e B) (some (eB (ab e B))) (some (eB (be e B)))) S := by
  unfold chainB chainT
  rw [he]
  simp only [e_int, e_bl, e_non, e_str, e_var, e_con, e_fnv, e_bin, y_bin1, y_bin, e_neg, e_not, y_not, y_notI, e_cmp, y_cmp1, y_cmp, e_chain, y_ch1, y_ch2, y_ch3, e_and, e_or, e_and1, e_or1, e_and2, e_or2, y_and, y_or, e_ite, y_ite, e_tup, y_tup0, y_tup1, y_tup2, y_tup3, y_tup4, y_tup5, e_lst, y_lst, e_idx, y_idx1, y_idx, e_sl, y_sl1, y_sl2, y_sl3, e_call, e_bi, y_bi, e_isi, y_isiI, y_isiB, y_isiB2, y_isiI2, y_isiT, y_isiS, y_isiL, e_lenset, e_meth, y_meth2, e_comp, y_comp, y_mk, y_mkT, m_f, m_t, e_o0, asI_int, e_o1, y_trB, e_c0, e_c1, e_nil, e_cons, y_es, y_con, i_val, y_valT, y_valL, i_rng2, y_rng, i_rng1, enuT_tup, i_enuT, i_zip, y_zip, t_set, y_set, setA_nil, setA_cons, t_par, tgtA_name, tgtA_pair, tgtA_three, t_tgt, t_setI, y_put1, y_put2, t_ret, y_ret, t_retN, t_ifs, y_ifs, t_wh, t_fors, t_ex, y_ex, t_brk, t_cnt, t_pass, t_nil, t_cons, q_nx, q_rt, q_bk, q_ct, q_if, n_if, n_rt, n_nx, g_ok, g_bl, g_int, g_bind, g_bindS, z_bind, z_bindS, z_o, z_if, z_no, List.getElem?_cons_zero, List.getElem?_cons_succ, Option.join_some, List.set_cons_zero, List.set_cons_succ, neg, getIx, seqOf, lstOf, rd, itemsOf, wipeS, D.same, ix_0, ix_1, ix_2, sl_to, b_add, b_sub, b_mul, b_div, b_mod, b_pow, b_cat, b_catT, b_catL, c_lt, c_le, c_gt, c_ge, c_eqI, c_neI, c_eqS, c_neS, c_eqB, c_neB, c_isN, c_notN, c_memL, c_nmemL, c_memT, c_nmemT, k_lenT, k_lenL, k_lenR, k_lenS, k_intI, k_intB, k_abs, k_tupL, k_tupT, k_max2, k_min2, k_divmod, k_all, k_sorted, k_sum, List.length_cons, List.length_nil, List.length_map, if_true, Bool.true_and, Bool.and_true, Bool.not_true, Bool.not_false, decide_true, Bool.false_eq_true, if_false, Int.reduceLT, Int.reduceLE, Int.reduceNeg, Int.reducePow, Int.reduceAdd, Int.reduceSub, Int.reduceMul, Nat.reduceAdd, Nat.reducePow, Nat.reduceLT, Nat.reduceLeDiff, Int.reduceEq, cond_true, cond_false, Bool.cond_false_right, Bool.cond_false_left, Bool.cond_true_left, Bool.cond_true_right, eO, kVal_eB]
  rw [c_ab 9 7 B e S _ (by simp) (by decide) rfl]
  simp only [e_int, e_bl, e_non, e_str, e_var, e_con, e_fnv, e_bin, y_bin1, y_bin, e_neg, e_not, y_not, y_notI, e_cmp, y_cmp1, y_cmp, e_chain, y_ch1, y_ch2, y_ch3, e_and, e_or, e_and1, e_or1, e_and2, e_or2, y_and, y_or, e_ite, y_ite, e_tup, y_tup0, y_tup1, y_tup2, y_tup3, y_tup4, y_tup5, e_lst, y_lst, e_idx, y_idx1, y_idx, e_sl, y_sl1, y_sl2, y_sl3, e_call, e_bi, y_bi, e_isi, y_isiI, y_isiB, y_isiB2, y_isiI2, y_isiT, y_isiS, y_isiL, e_lenset, e_meth, y_meth2, e_comp, y_comp, y_mk, y_mkT, m_f, m_t, e_o0, asI_int, e_o1, y_trB, e_c0, e_c1, e_nil, e_cons, y_es, y_con, i_val, y_valT, y_valL, i_rng2, y_rng, i_rng1, enuT_tup, i_enuT, i_zip, y_zip, t_set, y_set, setA_nil, setA_cons, t_par, tgtA_name, tgtA_pair, tgtA_three, t_tgt, t_setI, y_put1, y_put2, t_ret, y_ret, t_retN, t_ifs, y_ifs, t_wh, t_fors, t_ex, y_ex, t_brk, t_cnt, t_pass, t_nil, t_cons, q_nx, q_rt, q_bk, q_ct, q_if, n_if, n_rt, n_nx, g_ok, g_bl, g_int, g_bind, g_bindS, z_bind, z_bindS, z_o, z_if, z_no, List.getElem?_cons_zero, List.getElem?_cons_succ, Option.join_some, List.set_cons_zero, List.set_cons_succ, neg, getIx, seqOf, lstOf, rd, itemsOf, wipeS, D.same, ix_0, ix_1, ix_2, sl_to, b_add, b_sub, b_mul, b_div, b_mod, b_pow, b_cat, b_catT, b_catL, c_lt, c_le, c_gt, c_ge, c_eqI, c_neI, c_eqS, c_neS, c_eqB, c_neB, c_isN, c_notN, c_memL, c_nmemL, c_memT, c_nmemT, k_lenT, k_lenL, k_lenR, k_lenS, k_intI, k_intB, k_abs, k_tupL, k_tupT, k_max2, k_min2, k_divmod, k_all, k_sorted, k_sum, List.length_cons, List.length_nil, List.length_map, if_true, Bool.true_and, Bool.and_true, Bool.not_true, Bool.not_false, decide_true, Bool.false_eq_true, if_false, Int.reduceLT, Int.reduceLE, Int.reduceNeg, Int.reducePow, Int.reduceAdd, Int.reduceSub, Int.reduceMul, Nat.reduceAdd, Nat.reducePow, Nat.reduceLT, Nat.reduceLeDiff, Int.reduceEq, cond_true, cond_false, Bool.cond_false_right, Bool.cond_false_left, Bool.cond_true_left, Bool.cond_true_right, kVal_eB]
  rw [c_be 9 7 B e S _ (by simp) (by decide) rfl]
  have hb : decide (found.length + 2 ≤ big) = true := decide_eq_true (by have : big = 16777216 := rfl; omega)
  simp only [e_int, e_bl, e_non, e_str, e_var, e_con, e_fnv, e_bin, y_bin1, y_bin, e_neg, e_not, y_not, y_notI, e_cmp, y_cmp1, y_cmp, e_chain, y_ch1, y_ch2, y_ch3, e_and, e_or, e_and1, e_or1, e_and2, e_or2, y_and, y_or, e_ite, y_ite, e_tup, y_tup0, y_tup1, y_tup2, y_tup3, y_tup4, y_tup5, e_lst, y_lst, e_idx, y_idx1, y_idx, e_sl, y_sl1, y_sl2, y_sl3, e_call, e_bi, y_bi, e_isi, y_isiI, y_isiB, y_isiB2, y_isiI2, y_isiT, y_isiS, y_isiL, e_lenset, e_meth, y_meth2, e_comp, y_comp, y_mk, y_mkT, m_f, m_t, e_o0, asI_int, e_o1, y_trB, e_c0, e_c1, e_nil, e_cons, y_es, y_con, i_val, y_valT, y_valL, i_rng2, y_rng, i_rng1, enuT_tup, i_enuT, i_zip, y_zip, t_set, y_set, setA_nil, setA_cons, t_par, tgtA_name, tgtA_pair, tgtA_three, t_tgt, t_setI, y_put1, y_put2, t_ret, y_ret, t_retN, t_ifs, y_ifs, t_wh, t_fors, t_ex, y_ex, t_brk, t_cnt, t_pass, t_nil, t_cons, q_nx, q_rt, q_bk, q_ct, q_if, n_if, n_rt, n_nx, g_ok, g_bl, g_int, g_bind, g_bindS, z_bind, z_bindS, z_o, z_if, z_no, List.getElem?_cons_zero, List.getElem?_cons_succ, Option.join_some, List.set_cons_zero, List.set_cons_succ, neg, getIx, seqOf, lstOf, rd, itemsOf, wipeS, D.same, ix_0, ix_1, ix_2, sl_to, b_add, b_sub, b_mul, b_div, b_mod, b_pow, b_cat, b_catT, b_catL, c_lt, c_le, c_gt, c_ge, c_eqI, c_neI, c_eqS, c_neS, c_eqB, c_neB, c_isN, c_notN, c_memL, c_nmemL, c_memT, c_nmemT, k_lenT, k_lenL, k_lenR, k_lenS, k_intI, k_intB, k_abs, k_tupL, k_tupT, k_max2, k_min2, k_divmod, k_all, k_sorted, k_sum, List.length_cons, List.length_nil, List.length_map, if_true, Bool.true_and, Bool.and_true, Bool.not_true, Bool.not_false, decide_true, Bool.false_eq_true, if_false, Int.reduceLT, Int.reduceLE, Int.reduceNeg, Int.reducePow, Int.reduceAdd, Int.reduceSub, Int.reduceMul, Nat.reduceAdd, Nat.reducePow, Nat.reduceLT, Nat.reduceLeDiff, Int.reduceEq, cond_true, cond_false, Bool.cond_false_right, Bool.cond_false_left, Bool.cond_true_left, Bool.cond_true_right, y_lst, hb]
  have hw := s_row (n + 1) B (eB B) (eB_mem B) e (by omega) S
  simp only [e_int, e_bl, e_non, e_str, e_var, e_con, e_fnv, e_bin, y_bin1, y_bin, e_neg, e_not, y_not, y_notI, e_cmp, y_cmp1, y_cmp, e_chain, y_ch1, y_ch2, y_ch3, e_and, e_or, e_and1, e_or1, e_and2, e_or2, y_and, y_or, e_ite, y_ite, e_tup, y_tup0, y_tup1, y_tup2, y_tup3, y_tup4, y_tup5, e_lst, y_lst, e_idx, y_idx1, y_idx, e_sl, y_sl1, y_sl2, y_sl3, e_call, e_bi, y_bi, e_isi, y_isiI, y_isiB, y_isiB2, y_isiI2, y_isiT, y_isiS, y_isiL, e_lenset, e_meth, y_meth2, e_comp, y_comp, y_mk, y_mkT, m_f, m_t, e_o0, asI_int, e_o1, y_trB, e_c0, e_c1, e_nil, e_cons, y_es, y_con, i_val, y_valT, y_valL, i_rng2, y_rng, i_rng1, enuT_tup, i_enuT, i_zip, y_zip, t_set, y_set, setA_nil, setA_cons, t_par, tgtA_name, tgtA_pair, tgtA_three, t_tgt, t_setI, y_put1, y_put2, t_ret, y_ret, t_retN, t_ifs, y_ifs, t_wh, t_fors, t_ex, y_ex, t_brk, t_cnt, t_pass, t_nil, t_cons, q_nx, q_rt, q_bk, q_ct, q_if, n_if, n_rt, n_nx, g_ok, g_bl, g_int, g_bind, g_bindS, z_bind, z_bindS, z_o, z_if, z_no, List.getElem?_cons_zero, List.getElem?_cons_succ, Option.join_some, List.set_cons_zero, List.set_cons_succ, neg, getIx, seqOf, lstOf, rd, itemsOf, wipeS, D.same, ix_0, ix_1, ix_2, sl_to, b_add, b_sub, b_mul, b_div, b_mod, b_pow, b_cat, b_catT, b_catL, c_lt, c_le, c_gt, c_ge, c_eqI, c_neI, c_eqS, c_neS, c_eqB, c_neB, c_isN, c_notN, c_memL, c_nmemL, c_memT, c_nmemT, k_lenT, k_lenL, k_lenR, k_lenS, k_intI, k_intB, k_abs, k_tupL, k_tupT, k_max2, k_min2, k_divmod, k_all, k_sorted, k_sum, List.length_cons, List.length_nil, List.length_map, if_true, Bool.true_and, Bool.and_true, Bool.not_true, Bool.not_false, decide_true, Bool.false_eq_true, if_false, Int.reduceLT, Int.reduceLE, Int.reduceNeg, Int.reducePow, Int.reduceAdd, Int.reduceSub, Int.reduceMul, Nat.reduceAdd, Nat.reducePow, Nat.reduceLT, Nat.reduceLeDiff, Int.reduceEq, cond_true, cond_false, Bool.cond_false_right, Bool.cond_false_left, Bool.cond_true_left, Bool.cond_true_right, hw]
  have e1 : List.map eEn found ++ [D.tup [.int many, .int (L - e), .tup ((ab e B).map .int)], D.tup [.int many, .int e, .tup ((be e B).map .int)]] = (found ++ [(many, L - e, ab e B), (many, e, be e B)]).map eEn := by simp [eEn, eB]
  rw [e1]
  by_cases hr : run < rowW B e
  · simp only [hr, decide_true, cond_true, if_true]
  · simp only [hr, decide_false, cond_false, if_false, e_int, e_bl, e_non, e_str, e_var, e_con, e_fnv, e_bin, y_bin1, y_bin, e_neg, e_not, y_not, y_notI, e_cmp, y_cmp1, y_cmp, e_chain, y_ch1, y_ch2, y_ch3, e_and, e_or, e_and1, e_or1, e_and2, e_or2, y_and, y_or, e_ite, y_ite, e_tup, y_tup0, y_tup1, y_tup2, y_tup3, y_tup4, y_tup5, e_lst, y_lst, e_idx, y_idx1, y_idx, e_sl, y_sl1, y_sl2, y_sl3, e_call, e_bi, y_bi, e_isi, y_isiI, y_isiB, y_isiB2, y_isiI2, y_isiT, y_isiS, y_isiL, e_lenset, e_meth, y_meth2, e_comp, y_comp, y_mk, y_mkT, m_f, m_t, e_o0, asI_int, e_o1, y_trB, e_c0, e_c1, e_nil, e_cons, y_es, y_con, i_val, y_valT, y_valL, i_rng2, y_rng, i_rng1, enuT_tup, i_enuT, i_zip, y_zip, t_set, y_set, setA_nil, setA_cons, t_par, tgtA_name, tgtA_pair, tgtA_three, t_tgt, t_setI, y_put1, y_put2, t_ret, y_ret, t_retN, t_ifs, y_ifs, t_wh, t_fors, t_ex, y_ex, t_brk, t_cnt, t_pass, t_nil, t_cons, q_nx, q_rt, q_bk, q_ct, q_if, n_if, n_rt, n_nx, g_ok, g_bl, g_int, g_bind, g_bindS, z_bind, z_bindS, z_o, z_if, z_no, List.getElem?_cons_zero, List.getElem?_cons_succ, Option.join_some, List.set_cons_zero, List.set_cons_succ, neg, getIx, seqOf, lstOf, rd, itemsOf, wipeS, D.same, ix_0, ix_1, ix_2, sl_to, b_add, b_sub, b_mul, b_div, b_mod, b_pow, b_cat, b_catT, b_catL, c_lt, c_le, c_gt, c_ge, c_eqI, c_neI, c_eqS, c_neS, c_eqB, c_neB, c_isN, c_notN, c_memL, c_nmemL, c_memT, c_nmemT, k_lenT, k_lenL, k_lenR, k_lenS, k_intI, k_intB, k_abs, k_tupL, k_tupT, k_max2, k_min2, k_divmod, k_all, k_sorted, k_sum, List.length_cons, List.length_nil, List.length_map, if_true, Bool.true_and, Bool.and_true, Bool.not_true, Bool.not_false, decide_true, Bool.false_eq_true, if_false, Int.reduceLT, Int.reduceLE, Int.reduceNeg, Int.reducePow, Int.reduceAdd, Int.reduceSub, Int.reduceMul, Nat.reduceAdd, Nat.reducePow, Nat.reduceLT, Nat.reduceLeDiff, Int.reduceEq, cond_true, cond_false, Bool.cond_false_right, Bool.cond_false_left, Bool.cond_true_left, Bool.cond_true_right]
    rw [add_D B e (by omega)]
    simp only [e_int, e_bl, e_non, e_str, e_var, e_con, e_fnv, e_bin, y_bin1, y_bin, e_neg, e_not, y_not, y_notI, e_cmp, y_cmp1, y_cmp, e_chain, y_ch1, y_ch2, y_ch3, e_and, e_or, e_and1, e_or1, e_and2, e_or2, y_and, y_or, e_ite, y_ite, e_tup, y_tup0, y_tup1, y_tup2, y_tup3, y_tup4, y_tup5, e_lst, y_lst, e_idx, y_idx1, y_idx, e_sl, y_sl1, y_sl2, y_sl3, e_call, e_bi, y_bi, e_isi, y_isiI, y_isiB, y_isiB2, y_isiI2, y_isiT, y_isiS, y_isiL, e_lenset, e_meth, y_meth2, e_comp, y_comp, y_mk, y_mkT, m_f, m_t, e_o0, asI_int, e_o1, y_trB, e_c0, e_c1, e_nil, e_cons, y_es, y_con, i_val, y_valT, y_valL, i_rng2, y_rng, i_rng1, enuT_tup, i_enuT, i_zip, y_zip, t_set, y_set, setA_nil, setA_cons, t_par, tgtA_name, tgtA_pair, tgtA_three, t_tgt, t_setI, y_put1, y_put2, t_ret, y_ret, t_retN, t_ifs, y_ifs, t_wh, t_fors, t_ex, y_ex, t_brk, t_cnt, t_pass, t_nil, t_cons, q_nx, q_rt, q_bk, q_ct, q_if, n_if, n_rt, n_nx, g_ok, g_bl, g_int, g_bind, g_bindS, z_bind, z_bindS, z_o, z_if, z_no, List.getElem?_cons_zero, List.getElem?_cons_succ, Option.join_some, List.set_cons_zero, List.set_cons_succ, neg, getIx, seqOf, lstOf, rd, itemsOf, wipeS, D.same, ix_0, ix_1, ix_2, sl_to, b_add, b_sub, b_mul, b_div, b_mod, b_pow, b_cat, b_catT, b_catL, c_lt, c_le, c_gt, c_ge, c_eqI, c_neI, c_eqS, c_neS, c_eqB, c_neB, c_isN, c_notN, c_memL, c_nmemL, c_memT, c_nmemT, k_lenT, k_lenL, k_lenR, k_lenS, k_intI, k_intB, k_abs, k_tupL, k_tupT, k_max2, k_min2, k_divmod, k_all, k_sorted, k_sum, List.length_cons, List.length_nil, List.length_map, if_true, Bool.true_and, Bool.and_true, Bool.not_true, Bool.not_false, decide_true, Bool.false_eq_true, if_false, Int.reduceLT, Int.reduceLE, Int.reduceNeg, Int.reducePow, Int.reduceAdd, Int.reduceSub, Int.reduceMul, Nat.reduceAdd, Nat.reducePow, Nat.reduceLT, Nat.reduceLeDiff, Int.reduceEq, cond_true, cond_false, Bool.cond_false_right, Bool.cond_false_left, Bool.cond_true_left, Bool.cond_true_right, kVal_eB]
    rw [c_ints 9 (B ++ [e]) S _ (by simp)]
    simp only [e_int, e_bl, e_non, e_str, e_var, e_con, e_fnv, e_bin, y_bin1, y_bin, e_neg, e_not, y_not, y_notI, e_cmp, y_cmp1, y_cmp, e_chain, y_ch1, y_ch2, y_ch3, e_and, e_or, e_and1, e_or1, e_and2, e_or2, y_and, y_or, e_ite, y_ite, e_tup, y_tup0, y_tup1, y_tup2, y_tup3, y_tup4, y_tup5, e_lst, y_lst, e_idx, y_idx1, y_idx, e_sl, y_sl1, y_sl2, y_sl3, e_call, e_bi, y_bi, e_isi, y_isiI, y_isiB, y_isiB2, y_isiI2, y_isiT, y_isiS, y_isiL, e_lenset, e_meth, y_meth2, e_comp, y_comp, y_mk, y_mkT, m_f, m_t, e_o0, asI_int, e_o1, y_trB, e_c0, e_c1, e_nil, e_cons, y_es, y_con, i_val, y_valT, y_valL, i_rng2, y_rng, i_rng1, enuT_tup, i_enuT, i_zip, y_zip, t_set, y_set, setA_nil, setA_cons, t_par, tgtA_name, tgtA_pair, tgtA_three, t_tgt, t_setI, y_put1, y_put2, t_ret, y_ret, t_retN, t_ifs, y_ifs, t_wh, t_fors, t_ex, y_ex, t_brk, t_cnt, t_pass, t_nil, t_cons, q_nx, q_rt, q_bk, q_ct, q_if, n_if, n_rt, n_nx, g_ok, g_bl, g_int, g_bind, g_bindS, z_bind, z_bindS, z_o, z_if, z_no, List.getElem?_cons_zero, List.getElem?_cons_succ, Option.join_some, List.set_cons_zero, List.set_cons_succ, neg, getIx, seqOf, lstOf, rd, itemsOf, wipeS, D.same, ix_0, ix_1, ix_2, sl_to, b_add, b_sub, b_mul, b_div, b_mod, b_pow, b_cat, b_catT, b_catL, c_lt, c_le, c_gt, c_ge, c_eqI, c_neI, c_eqS, c_neS, c_eqB, c_neB, c_isN, c_notN, c_memL, c_nmemL, c_memT, c_nmemT, k_lenT, k_lenL, k_lenR, k_lenS, k_intI, k_intB, k_abs, k_tupL, k_tupT, k_max2, k_min2, k_divmod, k_all, k_sorted, k_sum, List.length_cons, List.length_nil, List.length_map, if_true, Bool.true_and, Bool.and_true, Bool.not_true, Bool.not_false, decide_true, Bool.false_eq_true, if_false, Int.reduceLT, Int.reduceLE, Int.reduceNeg, Int.reducePow, Int.reduceAdd, Int.reduceSub, Int.reduceMul, Nat.reduceAdd, Nat.reducePow, Nat.reduceLT, Nat.reduceLeDiff, Int.reduceEq, cond_true, cond_false, Bool.cond_false_right, Bool.cond_false_left, Bool.cond_true_left, Bool.cond_true_right]
    have hn := s_next_of n r 0 L (add e B) (eB (add e B)) (eB_nmem _) S
    have e2 : D.tup ((isort (B ++ [e])).map .int) = eB (add e B) := rfl
    simp only [e_int, e_bl, e_non, e_str, e_var, e_con, e_fnv, e_bin, y_bin1, y_bin, e_neg, e_not, y_not, y_notI, e_cmp, y_cmp1, y_cmp, e_chain, y_ch1, y_ch2, y_ch3, e_and, e_or, e_and1, e_or1, e_and2, e_or2, y_and, y_or, e_ite, y_ite, e_tup, y_tup0, y_tup1, y_tup2, y_tup3, y_tup4, y_tup5, e_lst, y_lst, e_idx, y_idx1, y_idx, e_sl, y_sl1, y_sl2, y_sl3, e_call, e_bi, y_bi, e_isi, y_isiI, y_isiB, y_isiB2, y_isiI2, y_isiT, y_isiS, y_isiL, e_lenset, e_meth, y_meth2, e_comp, y_comp, y_mk, y_mkT, m_f, m_t, e_o0, asI_int, e_o1, y_trB, e_c0, e_c1, e_nil, e_cons, y_es, y_con, i_val, y_valT, y_valL, i_rng2, y_rng, i_rng1, enuT_tup, i_enuT, i_zip, y_zip, t_set, y_set, setA_nil, setA_cons, t_par, tgtA_name, tgtA_pair, tgtA_three, t_tgt, t_setI, y_put1, y_put2, t_ret, y_ret, t_retN, t_ifs, y_ifs, t_wh, t_fors, t_ex, y_ex, t_brk, t_cnt, t_pass, t_nil, t_cons, q_nx, q_rt, q_bk, q_ct, q_if, n_if, n_rt, n_nx, g_ok, g_bl, g_int, g_bind, g_bindS, z_bind, z_bindS, z_o, z_if, z_no, List.getElem?_cons_zero, List.getElem?_cons_succ, Option.join_some, List.set_cons_zero, List.set_cons_succ, neg, getIx, seqOf, lstOf, rd, itemsOf, wipeS, D.same, ix_0, ix_1, ix_2, sl_to, b_add, b_sub, b_mul, b_div, b_mod, b_pow, b_cat, b_catT, b_catL, c_lt, c_le, c_gt, c_ge, c_eqI, c_neI, c_eqS, c_neS, c_eqB, c_neB, c_isN, c_notN, c_memL, c_nmemL, c_memT, c_nmemT, k_lenT, k_lenL, k_lenR, k_lenS, k_intI, k_intB, k_abs, k_tupL, k_tupT, k_max2, k_min2, k_divmod, k_all, k_sorted, k_sum, List.length_cons, List.length_nil, List.length_map, if_true, Bool.true_and, Bool.and_true, Bool.not_true, Bool.not_false, decide_true, Bool.false_eq_true, if_false, Int.reduceLT, Int.reduceLE, Int.reduceNeg, Int.reducePow, Int.reduceAdd, Int.reduceSub, Int.reduceMul, Nat.reduceAdd, Nat.reducePow, Nat.reduceLT, Nat.reduceLeDiff, Int.reduceEq, cond_true, cond_false, Bool.cond_false_right, Bool.cond_false_left, Bool.cond_true_left, Bool.cond_true_right, e2, hn]
    rfl
theorem chain_run (n : Nat) (r : Rl) (run L : Int) (B0 : D) (S : Store) : ∀ (m : Nat) (B : List Int) (many : Int) (found : List En) (j8 j10 : Option D), cnt r L B < m → B.length + cnt r L B < 900 → found.length + 2 * cnt r L B < 9000 →
    match (ends r run L B many).2 with
    | some k => ∃ B' i8 i10, whL (ev (evF fs (n + 2)) chainC) (evB (evF fs (n + 2)) chainB) m (chainT r run L B0 found many B j8 j10) S = .nx (chainT r run L B0 (found ++ (ends r run L B many).1) k B' i8 i10) S
    | none => whL (ev (evF fs (n + 2)) chainC) (evB (evF fs (n + 2)) chainB) m (chainT r run L B0 found many B j8 j10) S = .rt (.tup [.lst ((found ++ (ends r run L B many).1).map eEn), .non]) S := by
  intro m
  induction m with
  | zero => intro B many found j8 j10 h; omega
  | succ m ih =>
    intro B many found j8 j10 h h1 h2
    have hc : ev (evF fs (n + 2)) chainC (chainT r run L B0 found many B j8 j10) S = .ok (.bl (nxt r 0 L B).isSome) S := by
      unfold chainC chainT
      simp only [e_int, e_bl, e_non, e_str, e_var, e_con, e_fnv, e_bin, y_bin1, y_bin, e_neg, e_not, y_not, y_notI, e_cmp, y_cmp1, y_cmp, e_chain, y_ch1, y_ch2, y_ch3, e_and, e_or, e_and1, e_or1, e_and2, e_or2, y_and, y_or, e_ite, y_ite, e_tup, y_tup0, y_tup1, y_tup2, y_tup3, y_tup4, y_tup5, e_lst, y_lst, e_idx, y_idx1, y_idx, e_sl, y_sl1, y_sl2, y_sl3, e_call, e_bi, y_bi, e_isi, y_isiI, y_isiB, y_isiB2, y_isiI2, y_isiT, y_isiS, y_isiL, e_lenset, e_meth, y_meth2, e_comp, y_comp, y_mk, y_mkT, m_f, m_t, e_o0, asI_int, e_o1, y_trB, e_c0, e_c1, e_nil, e_cons, y_es, y_con, i_val, y_valT, y_valL, i_rng2, y_rng, i_rng1, enuT_tup, i_enuT, i_zip, y_zip, t_set, y_set, setA_nil, setA_cons, t_par, tgtA_name, tgtA_pair, tgtA_three, t_tgt, t_setI, y_put1, y_put2, t_ret, y_ret, t_retN, t_ifs, y_ifs, t_wh, t_fors, t_ex, y_ex, t_brk, t_cnt, t_pass, t_nil, t_cons, q_nx, q_rt, q_bk, q_ct, q_if, n_if, n_rt, n_nx, g_ok, g_bl, g_int, g_bind, g_bindS, z_bind, z_bindS, z_o, z_if, z_no, List.getElem?_cons_zero, List.getElem?_cons_succ, Option.join_some, List.set_cons_zero, List.set_cons_succ, neg, getIx, seqOf, lstOf, rd, itemsOf, wipeS, D.same, ix_0, ix_1, ix_2, sl_to, b_add, b_sub, b_mul, b_div, b_mod, b_pow, b_cat, b_catT, b_catL, c_lt, c_le, c_gt, c_ge, c_eqI, c_neI, c_eqS, c_neS, c_eqB, c_neB, c_isN, c_notN, c_memL, c_nmemL, c_memT, c_nmemT, k_lenT, k_lenL, k_lenR, k_lenS, k_intI, k_intB, k_abs, k_tupL, k_tupT, k_max2, k_min2, k_divmod, k_all, k_sorted, k_sum, List.length_cons, List.length_nil, List.length_map, if_true, Bool.true_and, Bool.and_true, Bool.not_true, Bool.not_false, decide_true, Bool.false_eq_true, if_false, Int.reduceLT, Int.reduceLE, Int.reduceNeg, Int.reducePow, Int.reduceAdd, Int.reduceSub, Int.reduceMul, Nat.reduceAdd, Nat.reducePow, Nat.reduceLT, Nat.reduceLeDiff, Int.reduceEq, cond_true, cond_false, Bool.cond_false_right, Bool.cond_false_left, Bool.cond_true_left, Bool.cond_true_right, same_eO]
      cases nxt r 0 L B <;> rfl
    cases e : nxt r 0 L B with
    | none =>
      rw [ends_none e]
      refine ⟨B, j8, j10, ?_⟩
      simp only [whL, hc, e, Option.isSome_none, R.bindS_ok, truth, List.append_nil]
    | some e' =>
      have hq := cnt_add e
      have ht := chain_turn n r run L B0 found many B j8 j10 e' e (by omega) (by omega) S
      rw [ends_some e]
      by_cases hr : run < rowW B e'
      · rw [if_pos hr] at ht ⊢
        simp only [whL, hc, e, Option.isSome_some, R.bindS_ok, truth, ht]
      · rw [if_neg hr] at ht ⊢
        have hlen : (add e' B).length = B.length + 1 := by unfold add; rw [(isort_perm _).length_eq]; simp
        have q := ih (add e' B) (many + 1) (found ++ [(many, L - e', ab e' B), (many, e', be e' B)]) (some (eB (ab e' B))) (some (eB (be e' B))) (by omega) (by omega) (by simp; omega)
        have hs : whL (ev (evF fs (n + 2)) chainC) (evB (evF fs (n + 2)) chainB) (m + 1) (chainT r run L B0 found many B j8 j10) S =
            whL (ev (evF fs (n + 2)) chainC) (evB (evF fs (n + 2)) chainB) m (chainT r run L B0 (found ++ [(many, L - e', ab e' B), (many, e', be e' B)]) (many + 1) (add e' B) (some (eB (ab e' B))) (some (eB (be e' B)))) S := by
          simp only [whL, hc, e, Option.isSome_some, R.bindS_ok, truth, ht]
        simp only [List.append_assoc] at q ⊢
        rw [hs]
        exact q
theorem s_ends (n : Nat) (r : Rl) (run L : Int) (B : List Int) (hl : B.length < 500) (hp : r.ps.length ≤ 4) (S : Store) : evF fs (n + 3) 8 [eRl r, .int run, .int L, eB B] S = .ok (.tup [.lst ((ends r run L B 0).1.map eEn), eO (ends r run L B 0).2]) S := by
  rw [u8]
  have hn := s_next_of n r 0 L B (eB B) (eB_nmem _) S
  simp only [e_int, e_bl, e_non, e_str, e_var, e_con, e_fnv, e_bin, y_bin1, y_bin, e_neg, e_not, y_not, y_notI, e_cmp, y_cmp1, y_cmp, e_chain, y_ch1, y_ch2, y_ch3, e_and, e_or, e_and1, e_or1, e_and2, e_or2, y_and, y_or, e_ite, y_ite, e_tup, y_tup0, y_tup1, y_tup2, y_tup3, y_tup4, y_tup5, e_lst, y_lst, e_idx, y_idx1, y_idx, e_sl, y_sl1, y_sl2, y_sl3, e_call, e_bi, y_bi, e_isi, y_isiI, y_isiB, y_isiB2, y_isiI2, y_isiT, y_isiS, y_isiL, e_lenset, e_meth, y_meth2, e_comp, y_comp, y_mk, y_mkT, m_f, m_t, e_o0, asI_int, e_o1, y_trB, e_c0, e_c1, e_nil, e_cons, y_es, y_con, i_val, y_valT, y_valL, i_rng2, y_rng, i_rng1, enuT_tup, i_enuT, i_zip, y_zip, t_set, y_set, setA_nil, setA_cons, t_par, tgtA_name, tgtA_pair, tgtA_three, t_tgt, t_setI, y_put1, y_put2, t_ret, y_ret, t_retN, t_ifs, y_ifs, t_wh, t_fors, t_ex, y_ex, t_brk, t_cnt, t_pass, t_nil, t_cons, q_nx, q_rt, q_bk, q_ct, q_if, n_if, n_rt, n_nx, g_ok, g_bl, g_int, g_bind, g_bindS, z_bind, z_bindS, z_o, z_if, z_no, List.getElem?_cons_zero, List.getElem?_cons_succ, Option.join_some, List.set_cons_zero, List.set_cons_succ, neg, getIx, seqOf, lstOf, rd, itemsOf, wipeS, D.same, ix_0, ix_1, ix_2, sl_to, b_add, b_sub, b_mul, b_div, b_mod, b_pow, b_cat, b_catT, b_catL, c_lt, c_le, c_gt, c_ge, c_eqI, c_neI, c_eqS, c_neS, c_eqB, c_neB, c_isN, c_notN, c_memL, c_nmemL, c_memT, c_nmemT, k_lenT, k_lenL, k_lenR, k_lenS, k_intI, k_intB, k_abs, k_tupL, k_tupT, k_max2, k_min2, k_divmod, k_all, k_sorted, k_sum, List.length_cons, List.length_nil, List.length_map, if_true, Bool.true_and, Bool.and_true, Bool.not_true, Bool.not_false, decide_true, Bool.false_eq_true, if_false, Int.reduceLT, Int.reduceLE, Int.reduceNeg, Int.reducePow, Int.reduceAdd, Int.reduceSub, Int.reduceMul, Nat.reduceAdd, Nat.reducePow, Nat.reduceLT, Nat.reduceLeDiff, Int.reduceEq, cond_true, cond_false, Bool.cond_false_right, Bool.cond_false_left, Bool.cond_true_left, Bool.cond_true_right, y_lst, hn]
  have hc := cnt_le r L B
  have q := chain_run n r run L (eB B) S fuel B 0 [] none none (by show _ < 1000000000; omega) (by omega) (by simp; omega)
  have e : whB (evF fs (n + 2)) (.cmp .notN (.var 7) (.non)) chainB (chainT r run L (eB B) [] 0 B none none) S = whL (ev (evF fs (n + 2)) chainC) (evB (evF fs (n + 2)) chainB) fuel (chainT r run L (eB B) [] 0 B none none) S := rfl
  unfold chainB chainT at e
  simp only [List.map_nil] at e
  rw [e]
  cases h : (ends r run L B 0).2 with
  | none =>
    rw [h] at q
    unfold chainB chainT at q
    simp only [List.map_nil, List.nil_append] at q
    rw [q]
    simp only [e_int, e_bl, e_non, e_str, e_var, e_con, e_fnv, e_bin, y_bin1, y_bin, e_neg, e_not, y_not, y_notI, e_cmp, y_cmp1, y_cmp, e_chain, y_ch1, y_ch2, y_ch3, e_and, e_or, e_and1, e_or1, e_and2, e_or2, y_and, y_or, e_ite, y_ite, e_tup, y_tup0, y_tup1, y_tup2, y_tup3, y_tup4, y_tup5, e_lst, y_lst, e_idx, y_idx1, y_idx, e_sl, y_sl1, y_sl2, y_sl3, e_call, e_bi, y_bi, e_isi, y_isiI, y_isiB, y_isiB2, y_isiI2, y_isiT, y_isiS, y_isiL, e_lenset, e_meth, y_meth2, e_comp, y_comp, y_mk, y_mkT, m_f, m_t, e_o0, asI_int, e_o1, y_trB, e_c0, e_c1, e_nil, e_cons, y_es, y_con, i_val, y_valT, y_valL, i_rng2, y_rng, i_rng1, enuT_tup, i_enuT, i_zip, y_zip, t_set, y_set, setA_nil, setA_cons, t_par, tgtA_name, tgtA_pair, tgtA_three, t_tgt, t_setI, y_put1, y_put2, t_ret, y_ret, t_retN, t_ifs, y_ifs, t_wh, t_fors, t_ex, y_ex, t_brk, t_cnt, t_pass, t_nil, t_cons, q_nx, q_rt, q_bk, q_ct, q_if, n_if, n_rt, n_nx, g_ok, g_bl, g_int, g_bind, g_bindS, z_bind, z_bindS, z_o, z_if, z_no, List.getElem?_cons_zero, List.getElem?_cons_succ, Option.join_some, List.set_cons_zero, List.set_cons_succ, neg, getIx, seqOf, lstOf, rd, itemsOf, wipeS, D.same, ix_0, ix_1, ix_2, sl_to, b_add, b_sub, b_mul, b_div, b_mod, b_pow, b_cat, b_catT, b_catL, c_lt, c_le, c_gt, c_ge, c_eqI, c_neI, c_eqS, c_neS, c_eqB, c_neB, c_isN, c_notN, c_memL, c_nmemL, c_memT, c_nmemT, k_lenT, k_lenL, k_lenR, k_lenS, k_intI, k_intB, k_abs, k_tupL, k_tupT, k_max2, k_min2, k_divmod, k_all, k_sorted, k_sum, List.length_cons, List.length_nil, List.length_map, if_true, Bool.true_and, Bool.and_true, Bool.not_true, Bool.not_false, decide_true, Bool.false_eq_true, if_false, Int.reduceLT, Int.reduceLE, Int.reduceNeg, Int.reducePow, Int.reduceAdd, Int.reduceSub, Int.reduceMul, Nat.reduceAdd, Nat.reducePow, Nat.reduceLT, Nat.reduceLeDiff, Int.reduceEq, cond_true, cond_false, Bool.cond_false_right, Bool.cond_false_left, Bool.cond_true_left, Bool.cond_true_right]
    rfl
  | some k =>
    rw [h] at q
    obtain ⟨B', j8, j10, q⟩ := q
    unfold chainB chainT at q
    simp only [List.map_nil, List.nil_append] at q
    rw [q]
    simp only [e_int, e_bl, e_non, e_str, e_var, e_con, e_fnv, e_bin, y_bin1, y_bin, e_neg, e_not, y_not, y_notI, e_cmp, y_cmp1, y_cmp, e_chain, y_ch1, y_ch2, y_ch3, e_and, e_or, e_and1, e_or1, e_and2, e_or2, y_and, y_or, e_ite, y_ite, e_tup, y_tup0, y_tup1, y_tup2, y_tup3, y_tup4, y_tup5, e_lst, y_lst, e_idx, y_idx1, y_idx, e_sl, y_sl1, y_sl2, y_sl3, e_call, e_bi, y_bi, e_isi, y_isiI, y_isiB, y_isiB2, y_isiI2, y_isiT, y_isiS, y_isiL, e_lenset, e_meth, y_meth2, e_comp, y_comp, y_mk, y_mkT, m_f, m_t, e_o0, asI_int, e_o1, y_trB, e_c0, e_c1, e_nil, e_cons, y_es, y_con, i_val, y_valT, y_valL, i_rng2, y_rng, i_rng1, enuT_tup, i_enuT, i_zip, y_zip, t_set, y_set, setA_nil, setA_cons, t_par, tgtA_name, tgtA_pair, tgtA_three, t_tgt, t_setI, y_put1, y_put2, t_ret, y_ret, t_retN, t_ifs, y_ifs, t_wh, t_fors, t_ex, y_ex, t_brk, t_cnt, t_pass, t_nil, t_cons, q_nx, q_rt, q_bk, q_ct, q_if, n_if, n_rt, n_nx, g_ok, g_bl, g_int, g_bind, g_bindS, z_bind, z_bindS, z_o, z_if, z_no, List.getElem?_cons_zero, List.getElem?_cons_succ, Option.join_some, List.set_cons_zero, List.set_cons_succ, neg, getIx, seqOf, lstOf, rd, itemsOf, wipeS, D.same, ix_0, ix_1, ix_2, sl_to, b_add, b_sub, b_mul, b_div, b_mod, b_pow, b_cat, b_catT, b_catL, c_lt, c_le, c_gt, c_ge, c_eqI, c_neI, c_eqS, c_neS, c_eqB, c_neB, c_isN, c_notN, c_memL, c_nmemL, c_memT, c_nmemT, k_lenT, k_lenL, k_lenR, k_lenS, k_intI, k_intB, k_abs, k_tupL, k_tupT, k_max2, k_min2, k_divmod, k_all, k_sorted, k_sum, List.length_cons, List.length_nil, List.length_map, if_true, Bool.true_and, Bool.and_true, Bool.not_true, Bool.not_false, decide_true, Bool.false_eq_true, if_false, Int.reduceLT, Int.reduceLE, Int.reduceNeg, Int.reducePow, Int.reduceAdd, Int.reduceSub, Int.reduceMul, Nat.reduceAdd, Nat.reducePow, Nat.reduceLT, Nat.reduceLeDiff, Int.reduceEq, cond_true, cond_false, Bool.cond_false_right, Bool.cond_false_left, Bool.cond_true_left, Bool.cond_true_right]
    rfl
end Lw
namespace Lw
open PySem L2 Ev
/-! ### dicts of numbers -/
abbrev Ky := Int × List Int
def eK (x : Ky) : D := .tup [.int x.1, eB x.2]
theorem eB_inj {a b : List Int} (h : eB a = eB b) : a = b := by
  unfold eB at h
  injection h with h
  have e := congrArg allI h
  rw [allI_ints, allI_ints] at e
  exact Option.some.inj e
theorem eK_inj {a b : Ky} (h : eK a = eK b) : a = b := by
  unfold eK at h
  injection h with h
  injection h with h1 h2
  injection h1 with h1
  injection h2 with h2 _
  exact Prod.ext h1 (eB_inj h2)
theorem key_ints (n : Nat) (ns : List Int) : D.keyL n (ns.map .int) = true := by induction ns with
  | nil => rfl
  | cons m r ih => simp [D.keyL, D.key, ih]
theorem eK_key (x : Ky) : keyT (eK x) = true := by
  show (true && (D.keyL 6 (x.2.map .int) && true)) = true
  rw [key_ints]; rfl
theorem nodup_subG {α : Type} [DecidableEq α] : ∀ (l m : List α), l.Nodup → (∀ x ∈ l, x ∈ m) → l.length ≤ m.length
  | [], m, _, _ => Nat.zero_le _
  | x :: l, m, hn, hs => by
    rw [List.nodup_cons] at hn
    have hx := hs x List.mem_cons_self
    have h := nodup_subG l (m.erase x) hn.2 fun y hy => (List.mem_erase_of_ne (fun (e : y = x) => hn.1 (by rw [← e]; exact hy))).mpr (hs y (List.mem_cons_of_mem _ hy))
    rw [List.length_erase_of_mem hx] at h
    have := List.length_pos_of_mem hx
    simp only [List.length_cons]
    omega
def kvOf (val : Ky → Int) (ks : List Ky) : List (D × D) := ks.map fun x => (eK x, .int (val x))
theorem look_kv (val : Ky → Int) (x : Ky) : ∀ ks : List Ky, lookD (kvOf val ks) (eK x) = if x ∈ ks then some (.int (val x)) else none
  | [] => rfl
  | y :: ks => by
    have ih := look_kv val x ks
    unfold kvOf lookD at ih ⊢
    rw [List.map_cons, List.find?_cons]
    by_cases h : y = x
    · subst h; simp
    · have h2 : ¬ eK y = eK x := fun e => h (eK_inj e)
      have h3 : ¬ x = y := fun e => h e.symm
      simp only [h2, decide_false, List.mem_cons, h3, false_or]
      exact ih
theorem store_new (val : Ky → Int) (x : Ky) (ks : List Ky) (h : x ∉ ks) : storeD (kvOf val ks) (eK x) (.int (val x)) = kvOf val (ks ++ [x]) := by
  unfold storeD
  rw [look_kv, if_neg h]
  simp [kvOf]
theorem store_old (val : Ky → Int) (x : Ky) (ks : List Ky) (h : x ∈ ks) : storeD (kvOf val ks) (eK x) (.int (val x)) = kvOf val ks := by
  unfold storeD
  rw [look_kv, if_pos h]
  simp only [Option.isSome_some, if_true, kvOf, List.map_map]
  refine List.map_congr_left fun y _ => ?_
  simp only [Function.comp]
  split
  · next e => rw [eK_inj e]
  · rfl
theorem c_nmemD {S : Store} {p : Nat} {kvs : List (D × D)} (h : S[p]? = some (.dict kvs)) {d : D} (hk : keyT d = true) : cmpop .nmem d (.loc p) S = .ok (.bl (!(lookD kvs d).isSome)) S := by
  simp only [cmpop, seqOf, h, dictOf, hk]; rfl
theorem g_dct {S : Store} {p : Nat} {kvs : List (D × D)} (h : S[p]? = some (.dict kvs)) {xs : List D} (hk : keyT (.tup xs) = true) {v : D} (hv : lookD kvs (.tup xs) = some v) : getIx (.loc p) (.tup xs) S = .ok v S := by
  simp only [getIx, dictOf, h, hk, if_true, hv]; rfl
theorem putA_dct {S : Store} {p : Nat} {kvs : List (D × D)} (h : S[p]? = some (.dict kvs)) {xs : List D} (hk : keyT (.tup xs) = true) (hz : kvs.length < big) (v : D) (τ : Slots) : putA (.loc p) v τ (.tup xs) S = .nx τ (S.set p (.dict (storeD kvs (.tup xs) v))) := by
  simp only [putA, setIt, h, hk, decide_eq_true hz, Bool.and_self, if_true]
theorem set_same {S : Store} {p : Nat} {o : MO} (h : S[p]? = some o) : S.set p o = S := by
  obtain ⟨h1, e⟩ := List.getElem?_eq_some_iff.mp h
  rw [← e]; simp
/-- what may be asked: few, and closed -/
structure Cov (r : Rl) (run : Int) (C : List Ky) (ρ : Int → Nat) : Prop where
  pl : r.ps.length ≤ 4
  few : C.length < big
  len : ∀ x ∈ C, x.2.length < 500
  next : ∀ L B e, (L, B) ∈ C → nxt r 0 L B = some e → (L - e, ab e B) ∈ C ∧ (e, be e B) ∈ C ∧ ρ (L - e) < ρ L ∧ ρ e < ρ L ∧ (rowW B e ≤ run → (L, add e B) ∈ C)
def Memo (val : Ky → Int) (C : List Ky) (S : Store) (p : Nat) : Prop := ∃ ks : List Ky, S[p]? = some (.dict (kvOf val ks)) ∧ ks.Nodup ∧ ∀ x ∈ ks, x ∈ C
section
variable {r : Rl} {run : Int} {C : List Ky} {ρ : Int → Nat}
theorem ends_in (cov : Cov r run C ρ) (L : Int) : ∀ (k : Nat) (B : List Int) (many : Int), cnt r L B < k → (L, B) ∈ C → ∀ x ∈ (ends r run L B many).1, (x.2.1, x.2.2) ∈ C ∧ ρ x.2.1 < ρ L
  | 0, _, _, h, _ => by omega
  | k + 1, B, many, h, hC => by
    cases e : nxt r 0 L B with
    | none => rw [ends_none e]; intro x hx; simp at hx
    | some e' =>
      obtain ⟨c1, c2, c3, c4, c5⟩ := cov.next L B e' hC e
      rw [ends_some e]
      by_cases hr : run < rowW B e'
      · rw [if_pos hr]
        intro x hx
        simp only [List.mem_cons, List.not_mem_nil, or_false] at hx
        rcases hx with rfl | rfl
        · exact ⟨c1, c3⟩
        · exact ⟨c2, c4⟩
      · rw [if_neg hr]
        intro x hx
        simp only [List.mem_append, List.mem_cons, List.not_mem_nil, or_false] at hx
        rcases hx with (rfl | rfl) | hx
        · exact ⟨c1, c3⟩
        · exact ⟨c2, c4⟩
        · exact ends_in cov L k (add e' B) (many + 1) (by have := cnt_add e; omega) (c5 (by omega)) x hx
theorem memo_put {val : Ky → Int} (hC : C.length < big) {S : Store} {p : Nat} (m : Memo val C S p) {x : Ky} (hx : x ∈ C) (τ : Slots) : ∃ o, putA (.loc p) (.int (val x)) τ (eK x) S = .nx τ (S.set p o) ∧ ∃ ks : List Ky, (S.set p o)[p]? = some (.dict (kvOf val ks)) ∧ ks.Nodup ∧ (∀ x ∈ ks, x ∈ C) ∧ x ∈ ks := by
  obtain ⟨ks, h1, h2, h3⟩ := m
  have hz : (kvOf val ks).length < big := by
    have := nodup_subG ks C h2 h3
    simp only [kvOf, List.length_map]; omega
  have hp := putA_dct h1 (eK_key x) hz (.int (val x)) τ
  by_cases h : x ∈ ks
  · refine ⟨_, hp, ks, ?_, h2, h3, h⟩
    rw [set_at h1]
    rw [show D.tup [.int x.1, eB x.2] = eK x from rfl, store_old val x ks h]
  · refine ⟨_, hp, ks ++ [x], ?_, ?_, ?_, by simp⟩
    · rw [set_at h1]
      rw [show D.tup [.int x.1, eB x.2] = eK x from rfl, store_new val x ks h]
    · rw [List.nodup_append]
      exact ⟨h2, by simp, fun a ha b hb e => by simp only [List.mem_singleton] at hb; subst hb; subst e; exact h ha⟩
    · intro y hy
      rcases List.mem_append.mp hy with hy | hy
      · exact h3 y hy
      · simp only [List.mem_singleton] at hy; subst hy; exact hx
theorem s0_D (o : Option Int) : (bif (eO o).same .non then D.int 0 else eO o) = .int (s0 o) := by cases o <;> rfl
theorem o0_D (L : Int) (o : Option Int) : (bif (eO o).same .non then D.int 1 else D.int L) = .int (o0 L o) := by cases o <;> rfl
theorem max_if (a b : Int) : (if b > a then b else a) = max a b := by
  by_cases h : b > a
  · rw [if_pos h]; omega
  · rw [if_neg h]; omega
def vT (r : Rl) (run : Int) (x : Ky) : Int := T r run x.1 x.2
theorem s_tries (cov : Cov r run C ρ) : ∀ (k : Nat) (L : Int) (B : List Int), ρ L < k → (L, B) ∈ C → ∀ (n : Nat) (S : Store) (p : Nat), ρ L + 5 ≤ n → Memo (vT r run) C S p →
    ∃ o, evF fs n 9 [eRl r, .int run, .int L, eB B, .loc p] S = .ok (.int (T r run L B)) (S.set p o) ∧ Memo (vT r run) C (S.set p o) p := by
  intro k
  induction k with
  | zero => intro L B h; omega
  | succ k ih =>
    intro L B hk hC n S p hn hm
    obtain ⟨m, rfl⟩ : ∃ m, n = m + 3 + 1 := ⟨n - 4, by omega⟩
    rw [u9]
    obtain ⟨ks, h1, h2, h3⟩ := id hm
    have ekx : ∀ (L : Int) (B : List Int), D.tup [.int L, eB B] = eK (L, B) := fun _ _ => rfl
    by_cases hx : (L, B) ∈ ks
    · have e1 : cmpop .nmem (eK (L, B)) (.loc p) S = .ok (.bl false) S := by rw [c_nmemD h1 (eK_key _), look_kv, if_pos hx]; rfl
      have e2 : getIx (.loc p) (eK (L, B)) S = .ok (.int (T r run L B)) S := g_dct h1 (eK_key (L, B)) (by rw [show D.tup [.int (L, B).1, eB (L, B).2] = eK (L, B) from rfl, look_kv, if_pos hx]; rfl)
      refine ⟨.dict (kvOf (vT r run) ks), ?_, by rw [set_same h1]; exact hm⟩
      rw [set_same h1]
      simp only [e_int, e_bl, e_non, e_str, e_var, e_con, e_fnv, e_bin, y_bin1, y_bin, e_neg, e_not, y_not, y_notI, e_cmp, y_cmp1, y_cmp, e_chain, y_ch1, y_ch2, y_ch3, e_and, e_or, e_and1, e_or1, e_and2, e_or2, y_and, y_or, e_ite, y_ite, e_tup, y_tup0, y_tup1, y_tup2, y_tup3, y_tup4, y_tup5, e_lst, y_lst, e_idx, y_idx1, y_idx, e_sl, y_sl1, y_sl2, y_sl3, e_call, e_bi, y_bi, e_isi, y_isiI, y_isiB, y_isiB2, y_isiI2, y_isiT, y_isiS, y_isiL, e_lenset, e_meth, y_meth2, e_comp, y_comp, y_mk, y_mkT, m_f, m_t, e_o0, asI_int, e_o1, y_trB, e_c0, e_c1, e_nil, e_cons, y_es, y_con, i_val, y_valT, y_valL, i_rng2, y_rng, i_rng1, enuT_tup, i_enuT, i_zip, y_zip, t_set, y_set, setA_nil, setA_cons, t_par, tgtA_name, tgtA_pair, tgtA_three, t_tgt, t_setI, y_put1, y_put2, t_ret, y_ret, t_retN, t_ifs, y_ifs, t_wh, t_fors, t_ex, y_ex, t_brk, t_cnt, t_pass, t_nil, t_cons, q_nx, q_rt, q_bk, q_ct, q_if, n_if, n_rt, n_nx, g_ok, g_bl, g_int, g_bind, g_bindS, z_bind, z_bindS, z_o, z_if, z_no, List.getElem?_cons_zero, List.getElem?_cons_succ, Option.join_some, List.set_cons_zero, List.set_cons_succ, neg, wipeS, D.same, ix_0, ix_1, ix_2, sl_to, b_add, b_sub, b_mul, b_div, b_mod, b_pow, b_cat, b_catT, b_catL, c_lt, c_le, c_gt, c_ge, c_eqI, c_neI, c_eqS, c_neS, c_eqB, c_neB, c_isN, c_notN, c_memL, c_nmemL, c_memT, c_nmemT, k_lenT, k_lenL, k_lenR, k_lenS, k_intI, k_intB, k_abs, k_tupL, k_tupT, k_max2, k_min2, k_divmod, k_all, k_sorted, k_sum, List.length_cons, List.length_nil, List.length_map, if_true, Bool.true_and, Bool.and_true, Bool.not_true, Bool.not_false, decide_true, Bool.false_eq_true, if_false, Int.reduceLT, Int.reduceLE, Int.reduceNeg, Int.reducePow, Int.reduceAdd, Int.reduceSub, Int.reduceMul, Nat.reduceAdd, Nat.reducePow, Nat.reduceLT, Nat.reduceLeDiff, Int.reduceEq, cond_true, cond_false, Bool.cond_false_right, Bool.cond_false_left, Bool.cond_true_left, Bool.cond_true_right, ekx, e1, e2]
    · have e1 : cmpop .nmem (eK (L, B)) (.loc p) S = .ok (.bl true) S := by rw [c_nmemD h1 (eK_key _), look_kv, if_neg hx]; rfl
      have he := s_ends m r run L B (cov.len _ hC) cov.pl S
      simp only [e_int, e_bl, e_non, e_str, e_var, e_con, e_fnv, e_bin, y_bin1, y_bin, e_neg, e_not, y_not, y_notI, e_cmp, y_cmp1, y_cmp, e_chain, y_ch1, y_ch2, y_ch3, e_and, e_or, e_and1, e_or1, e_and2, e_or2, y_and, y_or, e_ite, y_ite, e_tup, y_tup0, y_tup1, y_tup2, y_tup3, y_tup4, y_tup5, e_lst, y_lst, e_idx, y_idx1, y_idx, e_sl, y_sl1, y_sl2, y_sl3, e_call, e_bi, y_bi, e_isi, y_isiI, y_isiB, y_isiB2, y_isiI2, y_isiT, y_isiS, y_isiL, e_lenset, e_meth, y_meth2, e_comp, y_comp, y_mk, y_mkT, m_f, m_t, e_o0, asI_int, e_o1, y_trB, e_c0, e_c1, e_nil, e_cons, y_es, y_con, i_val, y_valT, y_valL, i_rng2, y_rng, i_rng1, enuT_tup, i_enuT, i_zip, y_zip, t_set, y_set, setA_nil, setA_cons, t_par, tgtA_name, tgtA_pair, tgtA_three, t_tgt, t_setI, y_put1, y_put2, t_ret, y_ret, t_retN, t_ifs, y_ifs, t_wh, t_fors, t_ex, y_ex, t_brk, t_cnt, t_pass, t_nil, t_cons, q_nx, q_rt, q_bk, q_ct, q_if, n_if, n_rt, n_nx, g_ok, g_bl, g_int, g_bind, g_bindS, z_bind, z_bindS, z_o, z_if, z_no, List.getElem?_cons_zero, List.getElem?_cons_succ, Option.join_some, List.set_cons_zero, List.set_cons_succ, neg, wipeS, D.same, ix_0, ix_1, ix_2, sl_to, b_add, b_sub, b_mul, b_div, b_mod, b_pow, b_cat, b_catT, b_catL, c_lt, c_le, c_gt, c_ge, c_eqI, c_neI, c_eqS, c_neS, c_eqB, c_neB, c_isN, c_notN, c_memL, c_nmemL, c_memT, c_nmemT, k_lenT, k_lenL, k_lenR, k_lenS, k_intI, k_intB, k_abs, k_tupL, k_tupT, k_max2, k_min2, k_divmod, k_all, k_sorted, k_sum, List.length_cons, List.length_nil, List.length_map, if_true, Bool.true_and, Bool.and_true, Bool.not_true, Bool.not_false, decide_true, Bool.false_eq_true, if_false, Int.reduceLT, Int.reduceLE, Int.reduceNeg, Int.reducePow, Int.reduceAdd, Int.reduceSub, Int.reduceMul, Nat.reduceAdd, Nat.reducePow, Nat.reduceLT, Nat.reduceLeDiff, Int.reduceEq, cond_true, cond_false, Bool.cond_false_right, Bool.cond_false_left, Bool.cond_true_left, Bool.cond_true_right, ekx, e1, he, s0_D]
      generalize hf : forB _ _ _ _ _ _ = z
      obtain ⟨τ', S', rfl, j8, j9, j10, rfl, o, rfl, hm'⟩ := forB_runS hf (fun (a : Int) τ S' => ∃ j8 j9 j10, τ = [some (eRl r), some (.int run), some (.int L), some (eB B), some (.loc p), some (.lst ((ends r run L B 0).1.map eEn)), some (eO (ends r run L B 0).2), some (.int a), j8, j9, j10] ∧ ∃ o, S' = S.set p o ∧ Memo (vT r run) C S' p)
        (fun m x => max m (x.1 + 1 + T r run x.2.1 x.2.2)) (s0 (ends r run L B 0).2) (by
        rintro x hx a τ S' ⟨j8, j9, j10, rfl, o, rfl, hm'⟩
        obtain ⟨c1, c2⟩ := ends_in cov L _ B 0 (Nat.lt_succ_self _) hC x hx
        refine ⟨_, rfl, ?_⟩
        obtain ⟨o', et, hm2⟩ := ih x.2.1 x.2.2 (by omega) c1 (m + 3) (S.set p o) p (by omega) hm'
        rw [List.set_set] at et hm2
        refine ⟨[some (eRl r), some (.int run), some (.int L), some (eB B), some (.loc p), some (.lst ((ends r run L B 0).1.map eEn)), some (eO (ends r run L B 0).2), some (.int (max a (x.1 + 1 + T r run x.2.1 x.2.2))), some (.int x.1), some (.int x.2.1), some (eB x.2.2)], S.set p o', .inl ?_, _, _, _, rfl, o', rfl, hm2⟩
        simp only [e_int, e_bl, e_non, e_str, e_var, e_con, e_fnv, e_bin, y_bin1, y_bin, e_neg, e_not, y_not, y_notI, e_cmp, y_cmp1, y_cmp, e_chain, y_ch1, y_ch2, y_ch3, e_and, e_or, e_and1, e_or1, e_and2, e_or2, y_and, y_or, e_ite, y_ite, e_tup, y_tup0, y_tup1, y_tup2, y_tup3, y_tup4, y_tup5, e_lst, y_lst, e_idx, y_idx1, y_idx, e_sl, y_sl1, y_sl2, y_sl3, e_call, e_bi, y_bi, e_isi, y_isiI, y_isiB, y_isiB2, y_isiI2, y_isiT, y_isiS, y_isiL, e_lenset, e_meth, y_meth2, e_comp, y_comp, y_mk, y_mkT, m_f, m_t, e_o0, asI_int, e_o1, y_trB, e_c0, e_c1, e_nil, e_cons, y_es, y_con, i_val, y_valT, y_valL, i_rng2, y_rng, i_rng1, enuT_tup, i_enuT, i_zip, y_zip, t_set, y_set, setA_nil, setA_cons, t_par, tgtA_name, tgtA_pair, tgtA_three, t_tgt, t_setI, y_put1, y_put2, t_ret, y_ret, t_retN, t_ifs, y_ifs, t_wh, t_fors, t_ex, y_ex, t_brk, t_cnt, t_pass, t_nil, t_cons, q_nx, q_rt, q_bk, q_ct, q_if, n_if, n_rt, n_nx, g_ok, g_bl, g_int, g_bind, g_bindS, z_bind, z_bindS, z_o, z_if, z_no, List.getElem?_cons_zero, List.getElem?_cons_succ, Option.join_some, List.set_cons_zero, List.set_cons_succ, neg, wipeS, D.same, ix_0, ix_1, ix_2, sl_to, b_add, b_sub, b_mul, b_div, b_mod, b_pow, b_cat, b_catT, b_catL, c_lt, c_le, c_gt, c_ge, c_eqI, c_neI, c_eqS, c_neS, c_eqB, c_neB, c_isN, c_notN, c_memL, c_nmemL, c_memT, c_nmemT, k_lenT, k_lenL, k_lenR, k_lenS, k_intI, k_intB, k_abs, k_tupL, k_tupT, k_max2, k_min2, k_divmod, k_all, k_sorted, k_sum, List.length_cons, List.length_nil, List.length_map, if_true, Bool.true_and, Bool.and_true, Bool.not_true, Bool.not_false, decide_true, Bool.false_eq_true, if_false, Int.reduceLT, Int.reduceLE, Int.reduceNeg, Int.reducePow, Int.reduceAdd, Int.reduceSub, Int.reduceMul, Nat.reduceAdd, Nat.reducePow, Nat.reduceLT, Nat.reduceLeDiff, Int.reduceEq, cond_true, cond_false, Bool.cond_false_right, Bool.cond_false_left, Bool.cond_true_left, Bool.cond_true_right, et, max_if]) ⟨_, _, _, rfl, .dict (kvOf (vT r run) ks), (set_same h1).symm, hm⟩
      rw [ends_T r run L _ B 0 (Nat.lt_succ_self _) (by omega), Int.zero_add]
      obtain ⟨o', hp, ks', g1, g2, g3, g4⟩ := memo_put cov.few hm' hC [some (eRl r), some (.int run), some (.int L), some (eB B), some (.loc p), some (.lst ((ends r run L B 0).1.map eEn)), some (eO (ends r run L B 0).2), some (.int (T r run L B)), j8, j9, j10]
      rw [List.set_set] at hp g1
      have e2 : getIx (.loc p) (eK (L, B)) (S.set p o') = .ok (.int (T r run L B)) (S.set p o') := g_dct g1 (eK_key (L, B)) (by rw [show D.tup [.int (L, B).1, eB (L, B).2] = eK (L, B) from rfl, look_kv, if_pos g4]; rfl)
      have hp' : putA (.loc p) (.int (T r run L B)) [some (eRl r), some (.int run), some (.int L), some (eB B), some (.loc p), some (.lst ((ends r run L B 0).1.map eEn)), some (eO (ends r run L B 0).2), some (.int (T r run L B)), j8, j9, j10] (eK (L, B)) (S.set p o) = _ := hp
      simp only [e_int, e_bl, e_non, e_str, e_var, e_con, e_fnv, e_bin, y_bin1, y_bin, e_neg, e_not, y_not, y_notI, e_cmp, y_cmp1, y_cmp, e_chain, y_ch1, y_ch2, y_ch3, e_and, e_or, e_and1, e_or1, e_and2, e_or2, y_and, y_or, e_ite, y_ite, e_tup, y_tup0, y_tup1, y_tup2, y_tup3, y_tup4, y_tup5, e_lst, y_lst, e_idx, y_idx1, y_idx, e_sl, y_sl1, y_sl2, y_sl3, e_call, e_bi, y_bi, e_isi, y_isiI, y_isiB, y_isiB2, y_isiI2, y_isiT, y_isiS, y_isiL, e_lenset, e_meth, y_meth2, e_comp, y_comp, y_mk, y_mkT, m_f, m_t, e_o0, asI_int, e_o1, y_trB, e_c0, e_c1, e_nil, e_cons, y_es, y_con, i_val, y_valT, y_valL, i_rng2, y_rng, i_rng1, enuT_tup, i_enuT, i_zip, y_zip, t_set, y_set, setA_nil, setA_cons, t_par, tgtA_name, tgtA_pair, tgtA_three, t_tgt, t_setI, y_put1, y_put2, t_ret, y_ret, t_retN, t_ifs, y_ifs, t_wh, t_fors, t_ex, y_ex, t_brk, t_cnt, t_pass, t_nil, t_cons, q_nx, q_rt, q_bk, q_ct, q_if, n_if, n_rt, n_nx, g_ok, g_bl, g_int, g_bind, g_bindS, z_bind, z_bindS, z_o, z_if, z_no, List.getElem?_cons_zero, List.getElem?_cons_succ, Option.join_some, List.set_cons_zero, List.set_cons_succ, neg, wipeS, D.same, ix_0, ix_1, ix_2, sl_to, b_add, b_sub, b_mul, b_div, b_mod, b_pow, b_cat, b_catT, b_catL, c_lt, c_le, c_gt, c_ge, c_eqI, c_neI, c_eqS, c_neS, c_eqB, c_neB, c_isN, c_notN, c_memL, c_nmemL, c_memT, c_nmemT, k_lenT, k_lenL, k_lenR, k_lenS, k_intI, k_intB, k_abs, k_tupL, k_tupT, k_max2, k_min2, k_divmod, k_all, k_sorted, k_sum, List.length_cons, List.length_nil, List.length_map, if_true, Bool.true_and, Bool.and_true, Bool.not_true, Bool.not_false, decide_true, Bool.false_eq_true, if_false, Int.reduceLT, Int.reduceLE, Int.reduceNeg, Int.reducePow, Int.reduceAdd, Int.reduceSub, Int.reduceMul, Nat.reduceAdd, Nat.reducePow, Nat.reduceLT, Nat.reduceLeDiff, Int.reduceEq, cond_true, cond_false, Bool.cond_false_right, Bool.cond_false_left, Bool.cond_true_left, Bool.cond_true_right, ekx, hp', e2]
      exact ⟨o', rfl, ks', g1, g2, g3⟩
theorem o0_I (L : Int) (o : Option Int) : (bif (eO o).same .non then (1 : Int) else L) = o0 L o := by cases o <;> rfl
def vO (r : Rl) (run : Int) (x : Ky) : Int := Op r run x.1 x.2
theorem s_open (cov : Cov r run C ρ) : ∀ (k : Nat) (L : Int) (B : List Int), ρ L < k → (L, B) ∈ C → ∀ (n : Nat) (S : Store) (p : Nat), ρ L + 5 ≤ n → Memo (vO r run) C S p →
    ∃ o, evF fs n 10 [eRl r, .int run, .int L, eB B, .loc p] S = .ok (.int (Op r run L B)) (S.set p o) ∧ Memo (vO r run) C (S.set p o) p := by
  intro k
  induction k with
  | zero => intro L B h; omega
  | succ k ih =>
    intro L B hk hC n S p hn hm
    obtain ⟨m, rfl⟩ : ∃ m, n = m + 3 + 1 := ⟨n - 4, by omega⟩
    rw [u10]
    obtain ⟨ks, h1, h2, h3⟩ := id hm
    have ekx : ∀ (L : Int) (B : List Int), D.tup [.int L, eB B] = eK (L, B) := fun _ _ => rfl
    by_cases hx : (L, B) ∈ ks
    · have e1 : cmpop .nmem (eK (L, B)) (.loc p) S = .ok (.bl false) S := by rw [c_nmemD h1 (eK_key _), look_kv, if_pos hx]; rfl
      have e2 : getIx (.loc p) (eK (L, B)) S = .ok (.int (Op r run L B)) S := g_dct h1 (eK_key (L, B)) (by rw [show D.tup [.int (L, B).1, eB (L, B).2] = eK (L, B) from rfl, look_kv, if_pos hx]; rfl)
      refine ⟨.dict (kvOf (vO r run) ks), ?_, by rw [set_same h1]; exact hm⟩
      rw [set_same h1]
      simp only [e_int, e_bl, e_non, e_str, e_var, e_con, e_fnv, e_bin, y_bin1, y_bin, e_neg, e_not, y_not, y_notI, e_cmp, y_cmp1, y_cmp, e_chain, y_ch1, y_ch2, y_ch3, e_and, e_or, e_and1, e_or1, e_and2, e_or2, y_and, y_or, e_ite, y_ite, e_tup, y_tup0, y_tup1, y_tup2, y_tup3, y_tup4, y_tup5, e_lst, y_lst, e_idx, y_idx1, y_idx, e_sl, y_sl1, y_sl2, y_sl3, e_call, e_bi, y_bi, e_isi, y_isiI, y_isiB, y_isiB2, y_isiI2, y_isiT, y_isiS, y_isiL, e_lenset, e_meth, y_meth2, e_comp, y_comp, y_mk, y_mkT, m_f, m_t, e_o0, asI_int, e_o1, y_trB, e_c0, e_c1, e_nil, e_cons, y_es, y_con, i_val, y_valT, y_valL, i_rng2, y_rng, i_rng1, enuT_tup, i_enuT, i_zip, y_zip, t_set, y_set, setA_nil, setA_cons, t_par, tgtA_name, tgtA_pair, tgtA_three, t_tgt, t_setI, y_put1, y_put2, t_ret, y_ret, t_retN, t_ifs, y_ifs, t_wh, t_fors, t_ex, y_ex, t_brk, t_cnt, t_pass, t_nil, t_cons, q_nx, q_rt, q_bk, q_ct, q_if, n_if, n_rt, n_nx, g_ok, g_bl, g_int, g_bind, g_bindS, z_bind, z_bindS, z_o, z_if, z_no, List.getElem?_cons_zero, List.getElem?_cons_succ, Option.join_some, List.set_cons_zero, List.set_cons_succ, neg, wipeS, D.same, ix_0, ix_1, ix_2, sl_to, b_add, b_sub, b_mul, b_div, b_mod, b_pow, b_cat, b_catT, b_catL, c_lt, c_le, c_gt, c_ge, c_eqI, c_neI, c_eqS, c_neS, c_eqB, c_neB, c_isN, c_notN, c_memL, c_nmemL, c_memT, c_nmemT, k_lenT, k_lenL, k_lenR, k_lenS, k_intI, k_intB, k_abs, k_tupL, k_tupT, k_max2, k_min2, k_divmod, k_all, k_sorted, k_sum, List.length_cons, List.length_nil, List.length_map, if_true, Bool.true_and, Bool.and_true, Bool.not_true, Bool.not_false, decide_true, Bool.false_eq_true, if_false, Int.reduceLT, Int.reduceLE, Int.reduceNeg, Int.reducePow, Int.reduceAdd, Int.reduceSub, Int.reduceMul, Nat.reduceAdd, Nat.reducePow, Nat.reduceLT, Nat.reduceLeDiff, Int.reduceEq, cond_true, cond_false, Bool.cond_false_right, Bool.cond_false_left, Bool.cond_true_left, Bool.cond_true_right, ekx, e1, e2]
    · have e1 : cmpop .nmem (eK (L, B)) (.loc p) S = .ok (.bl true) S := by rw [c_nmemD h1 (eK_key _), look_kv, if_neg hx]; rfl
      have he := s_ends m r run L B (cov.len _ hC) cov.pl S
      simp only [e_int, e_bl, e_non, e_str, e_var, e_con, e_fnv, e_bin, y_bin1, y_bin, e_neg, e_not, y_not, y_notI, e_cmp, y_cmp1, y_cmp, e_chain, y_ch1, y_ch2, y_ch3, e_and, e_or, e_and1, e_or1, e_and2, e_or2, y_and, y_or, e_ite, y_ite, e_tup, y_tup0, y_tup1, y_tup2, y_tup3, y_tup4, y_tup5, e_lst, y_lst, e_idx, y_idx1, y_idx, e_sl, y_sl1, y_sl2, y_sl3, e_call, e_bi, y_bi, e_isi, y_isiI, y_isiB, y_isiB2, y_isiI2, y_isiT, y_isiS, y_isiL, e_lenset, e_meth, y_meth2, e_comp, y_comp, y_mk, y_mkT, m_f, m_t, e_o0, asI_int, e_o1, y_trB, e_c0, e_c1, e_nil, e_cons, y_es, y_con, i_val, y_valT, y_valL, i_rng2, y_rng, i_rng1, enuT_tup, i_enuT, i_zip, y_zip, t_set, y_set, setA_nil, setA_cons, t_par, tgtA_name, tgtA_pair, tgtA_three, t_tgt, t_setI, y_put1, y_put2, t_ret, y_ret, t_retN, t_ifs, y_ifs, t_wh, t_fors, t_ex, y_ex, t_brk, t_cnt, t_pass, t_nil, t_cons, q_nx, q_rt, q_bk, q_ct, q_if, n_if, n_rt, n_nx, g_ok, g_bl, g_int, g_bind, g_bindS, z_bind, z_bindS, z_o, z_if, z_no, List.getElem?_cons_zero, List.getElem?_cons_succ, Option.join_some, List.set_cons_zero, List.set_cons_succ, neg, wipeS, D.same, ix_0, ix_1, ix_2, sl_to, b_add, b_sub, b_mul, b_div, b_mod, b_pow, b_cat, b_catT, b_catL, c_lt, c_le, c_gt, c_ge, c_eqI, c_neI, c_eqS, c_neS, c_eqB, c_neB, c_isN, c_notN, c_memL, c_nmemL, c_memT, c_nmemT, k_lenT, k_lenL, k_lenR, k_lenS, k_intI, k_intB, k_abs, k_tupL, k_tupT, k_max2, k_min2, k_divmod, k_all, k_sorted, k_sum, List.length_cons, List.length_nil, List.length_map, if_true, Bool.true_and, Bool.and_true, Bool.not_true, Bool.not_false, decide_true, Bool.false_eq_true, if_false, Int.reduceLT, Int.reduceLE, Int.reduceNeg, Int.reducePow, Int.reduceAdd, Int.reduceSub, Int.reduceMul, Nat.reduceAdd, Nat.reducePow, Nat.reduceLT, Nat.reduceLeDiff, Int.reduceEq, cond_true, cond_false, Bool.cond_false_right, Bool.cond_false_left, Bool.cond_true_left, Bool.cond_true_right, ekx, e1, he, o0_I]
      generalize hf : forB _ _ _ _ _ _ = z
      obtain ⟨τ', S', rfl, j8, j9, j10, rfl, o, rfl, hm'⟩ := forB_runS hf (fun (a : Int) τ S' => ∃ j8 j9 j10, τ = [some (eRl r), some (.int run), some (.int L), some (eB B), some (.loc p), some (.lst ((ends r run L B 0).1.map eEn)), some (eO (ends r run L B 0).2), some (.int a), j8, j9, j10] ∧ ∃ o, S' = S.set p o ∧ Memo (vO r run) C S' p)
        (fun m x => max m (Op r run x.2.1 x.2.2)) (o0 L (ends r run L B 0).2) (by
        rintro x hx a τ S' ⟨j8, j9, j10, rfl, o, rfl, hm'⟩
        obtain ⟨c1, c2⟩ := ends_in cov L _ B 0 (Nat.lt_succ_self _) hC x hx
        refine ⟨_, rfl, ?_⟩
        obtain ⟨o', et, hm2⟩ := ih x.2.1 x.2.2 (by omega) c1 (m + 3) (S.set p o) p (by omega) hm'
        rw [List.set_set] at et hm2
        refine ⟨[some (eRl r), some (.int run), some (.int L), some (eB B), some (.loc p), some (.lst ((ends r run L B 0).1.map eEn)), some (eO (ends r run L B 0).2), some (.int (max a (Op r run x.2.1 x.2.2))), some (.int x.1), some (.int x.2.1), some (eB x.2.2)], S.set p o', .inl ?_, _, _, _, rfl, o', rfl, hm2⟩
        simp only [e_int, e_bl, e_non, e_str, e_var, e_con, e_fnv, e_bin, y_bin1, y_bin, e_neg, e_not, y_not, y_notI, e_cmp, y_cmp1, y_cmp, e_chain, y_ch1, y_ch2, y_ch3, e_and, e_or, e_and1, e_or1, e_and2, e_or2, y_and, y_or, e_ite, y_ite, e_tup, y_tup0, y_tup1, y_tup2, y_tup3, y_tup4, y_tup5, e_lst, y_lst, e_idx, y_idx1, y_idx, e_sl, y_sl1, y_sl2, y_sl3, e_call, e_bi, y_bi, e_isi, y_isiI, y_isiB, y_isiB2, y_isiI2, y_isiT, y_isiS, y_isiL, e_lenset, e_meth, y_meth2, e_comp, y_comp, y_mk, y_mkT, m_f, m_t, e_o0, asI_int, e_o1, y_trB, e_c0, e_c1, e_nil, e_cons, y_es, y_con, i_val, y_valT, y_valL, i_rng2, y_rng, i_rng1, enuT_tup, i_enuT, i_zip, y_zip, t_set, y_set, setA_nil, setA_cons, t_par, tgtA_name, tgtA_pair, tgtA_three, t_tgt, t_setI, y_put1, y_put2, t_ret, y_ret, t_retN, t_ifs, y_ifs, t_wh, t_fors, t_ex, y_ex, t_brk, t_cnt, t_pass, t_nil, t_cons, q_nx, q_rt, q_bk, q_ct, q_if, n_if, n_rt, n_nx, g_ok, g_bl, g_int, g_bind, g_bindS, z_bind, z_bindS, z_o, z_if, z_no, List.getElem?_cons_zero, List.getElem?_cons_succ, Option.join_some, List.set_cons_zero, List.set_cons_succ, neg, wipeS, D.same, ix_0, ix_1, ix_2, sl_to, b_add, b_sub, b_mul, b_div, b_mod, b_pow, b_cat, b_catT, b_catL, c_lt, c_le, c_gt, c_ge, c_eqI, c_neI, c_eqS, c_neS, c_eqB, c_neB, c_isN, c_notN, c_memL, c_nmemL, c_memT, c_nmemT, k_lenT, k_lenL, k_lenR, k_lenS, k_intI, k_intB, k_abs, k_tupL, k_tupT, k_max2, k_min2, k_divmod, k_all, k_sorted, k_sum, List.length_cons, List.length_nil, List.length_map, if_true, Bool.true_and, Bool.and_true, Bool.not_true, Bool.not_false, decide_true, Bool.false_eq_true, if_false, Int.reduceLT, Int.reduceLE, Int.reduceNeg, Int.reducePow, Int.reduceAdd, Int.reduceSub, Int.reduceMul, Nat.reduceAdd, Nat.reducePow, Nat.reduceLT, Nat.reduceLeDiff, Int.reduceEq, cond_true, cond_false, Bool.cond_false_right, Bool.cond_false_left, Bool.cond_true_left, Bool.cond_true_right, et, max_if]) ⟨_, _, _, rfl, .dict (kvOf (vO r run) ks), (set_same h1).symm, hm⟩
      rw [ends_O r run L _ B 0 (Nat.lt_succ_self _)]
      obtain ⟨o', hp, ks', g1, g2, g3, g4⟩ := memo_put cov.few hm' hC [some (eRl r), some (.int run), some (.int L), some (eB B), some (.loc p), some (.lst ((ends r run L B 0).1.map eEn)), some (eO (ends r run L B 0).2), some (.int (Op r run L B)), j8, j9, j10]
      rw [List.set_set] at hp g1
      have e2 : getIx (.loc p) (eK (L, B)) (S.set p o') = .ok (.int (Op r run L B)) (S.set p o') := g_dct g1 (eK_key (L, B)) (by rw [show D.tup [.int (L, B).1, eB (L, B).2] = eK (L, B) from rfl, look_kv, if_pos g4]; rfl)
      have hp' : putA (.loc p) (.int (Op r run L B)) [some (eRl r), some (.int run), some (.int L), some (eB B), some (.loc p), some (.lst ((ends r run L B 0).1.map eEn)), some (eO (ends r run L B 0).2), some (.int (Op r run L B)), j8, j9, j10] (eK (L, B)) (S.set p o) = _ := hp
      simp only [e_int, e_bl, e_non, e_str, e_var, e_con, e_fnv, e_bin, y_bin1, y_bin, e_neg, e_not, y_not, y_notI, e_cmp, y_cmp1, y_cmp, e_chain, y_ch1, y_ch2, y_ch3, e_and, e_or, e_and1, e_or1, e_and2, e_or2, y_and, y_or, e_ite, y_ite, e_tup, y_tup0, y_tup1, y_tup2, y_tup3, y_tup4, y_tup5, e_lst, y_lst, e_idx, y_idx1, y_idx, e_sl, y_sl1, y_sl2, y_sl3, e_call, e_bi, y_bi, e_isi, y_isiI, y_isiB, y_isiB2, y_isiI2, y_isiT, y_isiS, y_isiL, e_lenset, e_meth, y_meth2, e_comp, y_comp, y_mk, y_mkT, m_f, m_t, e_o0, asI_int, e_o1, y_trB, e_c0, e_c1, e_nil, e_cons, y_es, y_con, i_val, y_valT, y_valL, i_rng2, y_rng, i_rng1, enuT_tup, i_enuT, i_zip, y_zip, t_set, y_set, setA_nil, setA_cons, t_par, tgtA_name, tgtA_pair, tgtA_three, t_tgt, t_setI, y_put1, y_put2, t_ret, y_ret, t_retN, t_ifs, y_ifs, t_wh, t_fors, t_ex, y_ex, t_brk, t_cnt, t_pass, t_nil, t_cons, q_nx, q_rt, q_bk, q_ct, q_if, n_if, n_rt, n_nx, g_ok, g_bl, g_int, g_bind, g_bindS, z_bind, z_bindS, z_o, z_if, z_no, List.getElem?_cons_zero, List.getElem?_cons_succ, Option.join_some, List.set_cons_zero, List.set_cons_succ, neg, wipeS, D.same, ix_0, ix_1, ix_2, sl_to, b_add, b_sub, b_mul, b_div, b_mod, b_pow, b_cat, b_catT, b_catL, c_lt, c_le, c_gt, c_ge, c_eqI, c_neI, c_eqS, c_neS, c_eqB, c_neB, c_isN, c_notN, c_memL, c_nmemL, c_memT, c_nmemT, k_lenT, k_lenL, k_lenR, k_lenS, k_intI, k_intB, k_abs, k_tupL, k_tupT, k_max2, k_min2, k_divmod, k_all, k_sorted, k_sum, List.length_cons, List.length_nil, List.length_map, if_true, Bool.true_and, Bool.and_true, Bool.not_true, Bool.not_false, decide_true, Bool.false_eq_true, if_false, Int.reduceLT, Int.reduceLE, Int.reduceNeg, Int.reducePow, Int.reduceAdd, Int.reduceSub, Int.reduceMul, Nat.reduceAdd, Nat.reducePow, Nat.reduceLT, Nat.reduceLeDiff, Int.reduceEq, cond_true, cond_false, Bool.cond_false_right, Bool.cond_false_left, Bool.cond_true_left, Bool.cond_true_right, ekx, hp', e2]
      exact ⟨o', rfl, ks', g1, g2, g3⟩
end
end Lw
namespace Lw
open PySem L2 Ev
/-! ### words, logs -/
inductive Wd where
  | good | bad | barred
  deriving DecidableEq
def Wd.s : Wd → Str
  | .good => "good"
  | .bad => "bad"
  | .barred => "barred"
def eT (t : Int × Wd) : D := .tup [.int t.1, .str t.2.s]
def eLg (l : List (Int × Wd)) : D := .tup (l.map eT)
theorem w_good (w : Wd) : (w.s == "good") = decide (w = .good) := by cases w <;> decide +kernel
theorem w_bad (w : Wd) : (w.s == "bad") = decide (w = .bad) := by cases w <;> decide +kernel
theorem w_barred (w : Wd) : (w.s == "barred") = decide (w = .barred) := by cases w <;> decide +kernel
abbrev Lg := List (Int × Wd)
end Lw
namespace Lw
open PySem L2 Ev
/-! ### a longest log -/
def sh (e : Int) (l : Lg) : Lg := l.map fun t => (e + t.1, t.2)
def path (r : Rl) (run : Int) (L : Int) (B : List Int) : Lg := match h : nxt r 0 L B with
  | none => []
  | some e => if 1 + T r run (L - e) (ab e B) = T r run L B then (e, .good) :: sh e (path r run (L - e) (ab e B)) else if 1 + T r run e (be e B) = T r run L B then (e, .bad) :: path r run e (be e B) else (e, .barred) :: path r run L (add e B)
termination_by mu r L B
decreasing_by
  · obtain ⟨h1, h2, _⟩ := nxt_some h; exact mu_less (by omega) (by omega)
  · obtain ⟨h1, h2, _⟩ := nxt_some h; exact mu_less (by omega) (by omega)
  · exact mu_add h
theorem path_none {r : Rl} {run L : Int} {B : List Int} (h : nxt r 0 L B = none) : path r run L B = [] := by
  rw [path]; split
  · rfl
  · next e he => rw [h] at he; cases he
theorem path_some {r : Rl} {run L : Int} {B : List Int} {e : Int} (h : nxt r 0 L B = some e) : path r run L B = if 1 + T r run (L - e) (ab e B) = T r run L B then (e, .good) :: sh e (path r run (L - e) (ab e B)) else if 1 + T r run e (be e B) = T r run L B then (e, .bad) :: path r run e (be e B) else (e, .barred) :: path r run L (add e B) := by
  rw [path]; split
  · next he => rw [h] at he; cases he
  · next e' he => rw [h] at he; cases he; rfl
theorem sh_sh (a b : Int) (l : Lg) : sh a (sh b l) = sh (a + b) l := by simp [sh, Int.add_assoc]
/-- the tries of the path are as many as T says -/
theorem path_len (r : Rl) (run : Int) : ∀ (k : Nat) (L : Int) (B : List Int), mu r L B < k → ((path r run L B).length : Int) = T r run L B
  | 0, _, _, h => by omega
  | k + 1, L, B, h => by
    cases e : nxt r 0 L B with
    | none => rw [path_none e, T_none e]; rfl
    | some e' =>
      obtain ⟨h1, h2, _⟩ := nxt_some e
      have i1 := path_len r run k (L - e') (ab e' B) (by have := mu_less (r := r) (L := L) (L' := L - e') (B := B) (B' := ab e' B) (by omega) (by omega); omega)
      have i2 := path_len r run k e' (be e' B) (by have := mu_less (r := r) (L := L) (L' := e') (B := B) (B' := be e' B) (by omega) (by omega); omega)
      have i3 := path_len r run k L (add e' B) (by have := mu_add e; omega)
      have ht := T_some (run := run) e
      rw [path_some e]
      split
      · simp [sh, i1]; omega
      · split
        · simp [i2]; omega
        · simp only [List.length_cons]
          split at ht <;> omega
/-- where the path bars, it may -/
theorem path_bars {r : Rl} {run L : Int} {B : List Int} {e : Int} (h : nxt r 0 L B = some e) (h1 : ¬ 1 + T r run (L - e) (ab e B) = T r run L B) (h2 : ¬ 1 + T r run e (be e B) = T r run L B) : rowW B e ≤ run ∧ 1 + T r run L (add e B) = T r run L B := by
  have ht := T_some (run := run) h
  split at ht
  · next hr => exact ⟨hr, by omega⟩
  · omega
theorem c_told {cl : Nat → List D → Store → R D} (i j : Nat) (B : List Int) (lo : Int) (S : Store) (τ : Slots) (hi : i < τ.length) (hj : j ≠ i) (h2 : τ[j]? = some (some (.int lo))) :
    compB cl (.name i) none (.bin .add (.var j) (.var i)) τ { xs := B.map .int } S = .ok ((B.map (lo + ·)).map .int) S := by
  generalize hf : compB _ _ _ _ _ _ _ = z
  have q := compB_map hf (fun o => .int (lo + o)) (by
    rintro o -
    have g1 : (τ.set i (some (.int o)))[i]? = some (some (.int o)) := List.getElem?_set_self hi
    have g2 : (τ.set i (some (.int o)))[j]? = some (some (.int lo)) := by rw [List.getElem?_set_ne (Ne.symm hj)]; exact h2
    refine ⟨_, rfl, ?_⟩
    simp only [e_int, e_bl, e_non, e_str, e_var, e_con, e_fnv, e_bin, y_bin1, y_bin, e_neg, e_not, y_not, y_notI, e_cmp, y_cmp1, y_cmp, e_chain, y_ch1, y_ch2, y_ch3, e_and, e_or, e_and1, e_or1, e_and2, e_or2, y_and, y_or, e_ite, y_ite, e_tup, y_tup0, y_tup1, y_tup2, y_tup3, y_tup4, y_tup5, e_lst, y_lst, e_idx, y_idx1, y_idx, e_sl, y_sl1, y_sl2, y_sl3, e_call, e_bi, y_bi, e_isi, y_isiI, y_isiB, y_isiB2, y_isiI2, y_isiT, y_isiS, y_isiL, e_lenset, e_meth, y_meth2, e_comp, y_comp, y_mk, y_mkT, m_f, m_t, e_o0, asI_int, e_o1, y_trB, e_c0, e_c1, e_nil, e_cons, y_es, y_con, i_val, y_valT, y_valL, i_rng2, y_rng, i_rng1, enuT_tup, i_enuT, i_zip, y_zip, t_set, y_set, setA_nil, setA_cons, t_par, tgtA_name, tgtA_pair, tgtA_three, t_tgt, t_setI, y_put1, y_put2, t_ret, y_ret, t_retN, t_ifs, y_ifs, t_wh, t_fors, t_ex, y_ex, t_brk, t_cnt, t_pass, t_nil, t_cons, q_nx, q_rt, q_bk, q_ct, q_if, n_if, n_rt, n_nx, g_ok, g_bl, g_int, g_bind, g_bindS, z_bind, z_bindS, z_o, z_if, z_no, List.getElem?_cons_zero, List.getElem?_cons_succ, Option.join_some, List.set_cons_zero, List.set_cons_succ, neg, getIx, seqOf, lstOf, rd, itemsOf, wipeS, D.same, ix_0, ix_1, ix_2, sl_to, b_add, b_sub, b_mul, b_div, b_mod, b_pow, b_cat, b_catT, b_catL, c_lt, c_le, c_gt, c_ge, c_eqI, c_neI, c_eqS, c_neS, c_eqB, c_neB, c_isN, c_notN, c_memL, c_nmemL, c_memT, c_nmemT, k_lenT, k_lenL, k_lenR, k_lenS, k_intI, k_intB, k_abs, k_tupL, k_tupT, k_max2, k_min2, k_divmod, k_all, k_sorted, k_sum, List.length_cons, List.length_nil, List.length_map, if_true, Bool.true_and, Bool.and_true, Bool.not_true, Bool.not_false, decide_true, Bool.false_eq_true, if_false, Int.reduceLT, Int.reduceLE, Int.reduceNeg, Int.reducePow, Int.reduceAdd, Int.reduceSub, Int.reduceMul, Nat.reduceAdd, Nat.reducePow, Nat.reduceLT, Nat.reduceLeDiff, Int.reduceEq, cond_true, cond_false, Bool.cond_false_right, Bool.cond_false_left, Bool.cond_true_left, Bool.cond_true_right, g1, g2])
  rw [q]
  simp
/-- those within, from the low end -/
def within (lo hi : Int) (B : List Int) : List Int := (B.filter fun o => decide (lo < o) && decide (o < hi)).map fun o => o - lo
theorem c_within {cl : Nat → List D → Store → R D} (i j k : Nat) (B : List Int) (lo hi : Int) (S : Store) (τ : Slots) (hi' : i < τ.length) (hj : j ≠ i) (hk : k ≠ i) (h2 : τ[j]? = some (some (.int lo))) (h3 : τ[k]? = some (some (.int hi))) :
    compB cl (.name i) (some (.chain .lt .lt (.var j) (.var i) (.var k))) (.bin .sub (.var i) (.var j)) τ { xs := B.map .int } S = .ok ((within lo hi B).map .int) S := by
  generalize hf : compB _ _ _ _ _ _ _ = z
  have q := compB_run hf (fun o => decide (lo < o) && decide (o < hi)) (fun o => .int (o - lo)) (by
    rintro o -
    have g1 : (τ.set i (some (.int o)))[i]? = some (some (.int o)) := List.getElem?_set_self hi'
    have g2 : (τ.set i (some (.int o)))[j]? = some (some (.int lo)) := by rw [List.getElem?_set_ne (Ne.symm hj)]; exact h2
    have g3 : (τ.set i (some (.int o)))[k]? = some (some (.int hi)) := by rw [List.getElem?_set_ne (Ne.symm hk)]; exact h3
    refine ⟨_, rfl, ?_, fun _ => ?_⟩
    · simp only [e_int, e_bl, e_non, e_str, e_var, e_con, e_fnv, e_bin, y_bin1, y_bin, e_neg, e_not, y_not, y_notI, e_cmp, y_cmp1, y_cmp, e_chain, y_ch1, y_ch2, y_ch3, e_and, e_or, e_and1, e_or1, e_and2, e_or2, y_and, y_or, e_ite, y_ite, e_tup, y_tup0, y_tup1, y_tup2, y_tup3, y_tup4, y_tup5, e_lst, y_lst, e_idx, y_idx1, y_idx, e_sl, y_sl1, y_sl2, y_sl3, e_call, e_bi, y_bi, e_isi, y_isiI, y_isiB, y_isiB2, y_isiI2, y_isiT, y_isiS, y_isiL, e_lenset, e_meth, y_meth2, e_comp, y_comp, y_mk, y_mkT, m_f, m_t, e_o0, asI_int, e_o1, y_trB, e_c0, e_c1, e_nil, e_cons, y_es, y_con, i_val, y_valT, y_valL, i_rng2, y_rng, i_rng1, enuT_tup, i_enuT, i_zip, y_zip, t_set, y_set, setA_nil, setA_cons, t_par, tgtA_name, tgtA_pair, tgtA_three, t_tgt, t_setI, y_put1, y_put2, t_ret, y_ret, t_retN, t_ifs, y_ifs, t_wh, t_fors, t_ex, y_ex, t_brk, t_cnt, t_pass, t_nil, t_cons, q_nx, q_rt, q_bk, q_ct, q_if, n_if, n_rt, n_nx, g_ok, g_bl, g_int, g_bind, g_bindS, z_bind, z_bindS, z_o, z_if, z_no, List.getElem?_cons_zero, List.getElem?_cons_succ, Option.join_some, List.set_cons_zero, List.set_cons_succ, neg, getIx, seqOf, lstOf, rd, itemsOf, wipeS, D.same, ix_0, ix_1, ix_2, sl_to, b_add, b_sub, b_mul, b_div, b_mod, b_pow, b_cat, b_catT, b_catL, c_lt, c_le, c_gt, c_ge, c_eqI, c_neI, c_eqS, c_neS, c_eqB, c_neB, c_isN, c_notN, c_memL, c_nmemL, c_memT, c_nmemT, k_lenT, k_lenL, k_lenR, k_lenS, k_intI, k_intB, k_abs, k_tupL, k_tupT, k_max2, k_min2, k_divmod, k_all, k_sorted, k_sum, List.length_cons, List.length_nil, List.length_map, if_true, Bool.true_and, Bool.and_true, Bool.not_true, Bool.not_false, decide_true, Bool.false_eq_true, if_false, Int.reduceLT, Int.reduceLE, Int.reduceNeg, Int.reducePow, Int.reduceAdd, Int.reduceSub, Int.reduceMul, Nat.reduceAdd, Nat.reducePow, Nat.reduceLT, Nat.reduceLeDiff, Int.reduceEq, cond_true, cond_false, Bool.cond_false_right, Bool.cond_false_left, Bool.cond_true_left, Bool.cond_true_right, g1, g2, g3]
    · simp only [e_int, e_bl, e_non, e_str, e_var, e_con, e_fnv, e_bin, y_bin1, y_bin, e_neg, e_not, y_not, y_notI, e_cmp, y_cmp1, y_cmp, e_chain, y_ch1, y_ch2, y_ch3, e_and, e_or, e_and1, e_or1, e_and2, e_or2, y_and, y_or, e_ite, y_ite, e_tup, y_tup0, y_tup1, y_tup2, y_tup3, y_tup4, y_tup5, e_lst, y_lst, e_idx, y_idx1, y_idx, e_sl, y_sl1, y_sl2, y_sl3, e_call, e_bi, y_bi, e_isi, y_isiI, y_isiB, y_isiB2, y_isiI2, y_isiT, y_isiS, y_isiL, e_lenset, e_meth, y_meth2, e_comp, y_comp, y_mk, y_mkT, m_f, m_t, e_o0, asI_int, e_o1, y_trB, e_c0, e_c1, e_nil, e_cons, y_es, y_con, i_val, y_valT, y_valL, i_rng2, y_rng, i_rng1, enuT_tup, i_enuT, i_zip, y_zip, t_set, y_set, setA_nil, setA_cons, t_par, tgtA_name, tgtA_pair, tgtA_three, t_tgt, t_setI, y_put1, y_put2, t_ret, y_ret, t_retN, t_ifs, y_ifs, t_wh, t_fors, t_ex, y_ex, t_brk, t_cnt, t_pass, t_nil, t_cons, q_nx, q_rt, q_bk, q_ct, q_if, n_if, n_rt, n_nx, g_ok, g_bl, g_int, g_bind, g_bindS, z_bind, z_bindS, z_o, z_if, z_no, List.getElem?_cons_zero, List.getElem?_cons_succ, Option.join_some, List.set_cons_zero, List.set_cons_succ, neg, getIx, seqOf, lstOf, rd, itemsOf, wipeS, D.same, ix_0, ix_1, ix_2, sl_to, b_add, b_sub, b_mul, b_div, b_mod, b_pow, b_cat, b_catT, b_catL, c_lt, c_le, c_gt, c_ge, c_eqI, c_neI, c_eqS, c_neS, c_eqB, c_neB, c_isN, c_notN, c_memL, c_nmemL, c_memT, c_nmemT, k_lenT, k_lenL, k_lenR, k_lenS, k_intI, k_intB, k_abs, k_tupL, k_tupT, k_max2, k_min2, k_divmod, k_all, k_sorted, k_sum, List.length_cons, List.length_nil, List.length_map, if_true, Bool.true_and, Bool.and_true, Bool.not_true, Bool.not_false, decide_true, Bool.false_eq_true, if_false, Int.reduceLT, Int.reduceLE, Int.reduceNeg, Int.reducePow, Int.reduceAdd, Int.reduceSub, Int.reduceMul, Nat.reduceAdd, Nat.reducePow, Nat.reduceLT, Nat.reduceLeDiff, Int.reduceEq, cond_true, cond_false, Bool.cond_false_right, Bool.cond_false_left, Bool.cond_true_left, Bool.cond_true_right, g1, g2])
  rw [q]
  simp [within]
theorem within_ab (lo L e : Int) (B : List Int) (hB : ∀ b ∈ B, 0 < b ∧ b < L) : within (lo + e) (lo + L) (B.map (lo + ·)) = ab e B := by
  unfold within ab
  rw [List.filter_map, List.map_map]
  have e1 : B.filter ((fun o => decide (lo + e < o) && decide (o < lo + L)) ∘ (lo + ·)) = B.filter fun o => decide (e < o) := by
    refine List.filter_congr fun b hb => ?_
    have := hB b hb
    simp only [Function.comp]
    have h1 : decide (lo + b < lo + L) = true := decide_eq_true (by omega)
    rw [h1, Bool.and_true]
    congr 1; apply propext; omega
  rw [e1]
  refine List.map_congr_left fun b _ => ?_
  simp only [Function.comp]; omega
theorem within_be (lo L e : Int) (B : List Int) (hB : ∀ b ∈ B, 0 < b ∧ b < L) : within lo (lo + e) (B.map (lo + ·)) = be e B := by
  unfold within be
  rw [List.filter_map, List.map_map]
  have e1 : B.filter ((fun o => decide (lo < o) && decide (o < lo + e)) ∘ (lo + ·)) = B.filter fun o => decide (o < e) := by
    refine List.filter_congr fun b hb => ?_
    have := hB b hb
    simp only [Function.comp]
    have h1 : decide (lo < lo + b) = true := decide_eq_true (by omega)
    rw [h1, Bool.true_and]
    congr 1; apply propext; omega
  rw [e1]
  have : ((fun o => o - lo) ∘ (lo + ·)) = (id : Int → Int) := by funext b; simp only [Function.comp, id]; omega
  rw [this, List.map_id]
end Lw
namespace Lw
open PySem L2 Ev
def lgC : CE := .cmp .notN (.var 7) (.non)
def lgB : List CS := [.set 10 (.bi .tuple [.comp false [("other", 11)] (.name 11) (.val (.var 6)) (some (.cmp .gt (.var 11) (.var 7))) (.bin .sub (.var 11) (.var 7))]),
      .set 12 (.bi .tuple [.comp false [("other", 11)] (.name 11) (.val (.var 6)) (some (.cmp .lt (.var 11) (.var 7))) (.var 11)]),
      .set 13 (.bi .tuple [.comp false [("other", 11)] (.name 11) (.val (.var 6)) none (.bin .add (.var 2) (.var 11))]),
      .ifs (.cmp .eq (.bin .add (.bin .add (.bi .len [.var 9]) (.int 1)) (.call 9 [.var 0, .var 1, .bin .sub (.bin .sub (.var 3) (.var 2)) (.var 7), .var 10, .var 5])) (.var 8))
        ([.ret (.bin .add (.bin .add (.var 9) (.tup [.tup [.bin .add (.var 2) (.var 7), .str "good"]])) (.call 12 [.var 0, .var 1, .bin .add (.var 2) (.var 7), .var 3, .var 13, .var 5]))])
        ([]),
      .ifs (.cmp .eq (.bin .add (.bin .add (.bi .len [.var 9]) (.int 1)) (.call 9 [.var 0, .var 1, .var 7, .var 12, .var 5])) (.var 8))
        ([.ret (.bin .add (.bin .add (.var 9) (.tup [.tup [.bin .add (.var 2) (.var 7), .str "bad"]])) (.call 12 [.var 0, .var 1, .var 2, .bin .add (.var 2) (.var 7), .var 13, .var 5]))])
        ([]),
      .set 9 (.bin .add (.var 9) (.tup [.tup [.bin .add (.var 2) (.var 7), .str "barred"]])),
      .set 6 (.bi .tuple [.bi .sorted [.comp false [("other", 11)] (.name 11) (.val (.bin .add (.var 6) (.tup [.var 7]))) none (.bi .int [.var 11])]]),
      .set 7 (.call 4 [.var 0, .int 0, .bin .sub (.var 3) (.var 2), .var 6])]
def lgT (r : Rl) (run lo L : Int) (B0 : D) (p : Nat) (B : List Int) (due : Int) (l : Lg) (j10 j12 j13 : Option D) : Slots :=
  [some (eRl r), some (.int run), some (.int lo), some (.int (lo + L)), some B0, some (.loc p), some (eB B), some (eO (nxt r 0 L B)), some (.int due), some (eLg l), j10, none, j12, j13]
theorem lg_cat (l : Lg) (t : Int × Wd) (hl : l.length < 100000) (S : Store) : binop .add (eLg l) (.tup [.tup [.int t.1, .str t.2.s]]) S = .ok (eLg (l ++ [t])) S := by
  unfold eLg
  rw [b_catT, List.length_map, List.length_singleton, decide_eq_true (by have : big = 16777216 := rfl; omega), z_if]
  simp [eT]
theorem lg_catL (l m : Lg) (hl : l.length + m.length < 100000) (S : Store) : binop .add (eLg l) (eLg m) S = .ok (eLg (l ++ m)) S := by
  unfold eLg
  rw [b_catT, List.length_map, List.length_map, decide_eq_true (by have : big = 16777216 := rfl; omega), z_if]
  simp
theorem lg_len (l : Lg) (S : Store) : callB .len [eLg l] S = .ok (.int (l.length : Nat)) S := by
  unfold eLg; rw [k_lenT, List.length_map]
section
variable {r : Rl} {run : Int} {C : List Ky} {ρ : Int → Nat}
/-- what is asked of a cover besides: the barred ones lie within, no log is too long -/
structure CovL (r : Rl) (run : Int) (C : List Ky) : Prop where
  inn : ∀ x ∈ C, ∀ b ∈ x.2, 0 < b ∧ b < x.1
  few : ∀ x ∈ C, T r run x.1 x.2 < 10000
def LogOk (r : Rl) (run : Int) (C : List Ky) (ρ : Int → Nat) (k : Nat) : Prop := ∀ (L : Int) (B : List Int) (lo : Int) (B' : List Int), ρ L < k → (L, B) ∈ C → within lo (lo + L) B' = B → ∀ (n : Nat) (S : Store) (p : Nat), ρ L + 7 ≤ n → Memo (vT r run) C S p →
    ∃ o, evF fs n 12 [eRl r, .int run, .int lo, .int (lo + L), eB B', .loc p] S = .ok (eLg (sh lo (path r run L B))) (S.set p o) ∧ Memo (vT r run) C (S.set p o) p
theorem lg_turn (cov : Cov r run C ρ) (cl : CovL r run C) {k : Nat} (ih : LogOk r run C ρ k) (n : Nat) (lo L : Int) (B0 : D) (p : Nat) (B : List Int) (l : Lg) (j10 j12 j13 : Option D) (e : Int) (he : nxt r 0 L B = some e) (hC : (L, B) ∈ C) (hk : ρ L < k + 1) (hn : ρ L + 6 ≤ n + 2) (hl : l.length < 20000)
    (S : Store) (hm : Memo (vT r run) C S p) :
    (∃ o, (1 + T r run (L - e) (ab e B) = T r run L B ∨ 1 + T r run e (be e B) = T r run L B) ∧ evB (evF fs (n + 2)) lgB (lgT r run lo L B0 p B ((l.length : Nat) + T r run L B) l j10 j12 j13) S = .rt (eLg (l ++ sh lo (path r run L B))) (S.set p o) ∧ Memo (vT r run) C (S.set p o) p) ∨
    (∃ o i10 i12 i13, ¬ (1 + T r run (L - e) (ab e B) = T r run L B) ∧ ¬ (1 + T r run e (be e B) = T r run L B) ∧ evB (evF fs (n + 2)) lgB (lgT r run lo L B0 p B ((l.length : Nat) + T r run L B) l j10 j12 j13) S = .nx (lgT r run lo L B0 p (add e B) ((l.length : Nat) + T r run L B) (l ++ [(lo + e, .barred)]) i10 i12 i13) (S.set p o) ∧ Memo (vT r run) C (S.set p o) p) := by
  obtain ⟨c1, c2, c3, c4, c5⟩ := cov.next L B e hC he
  obtain ⟨n1, n2, _⟩ := nxt_some he
  have hB := cl.inn _ hC
  obtain ⟨o1, t1, m1⟩ := s_tries cov (ρ (L - e) + 1) (L - e) (ab e B) (by omega) c1 (n + 2) S p (by omega) hm
  obtain ⟨o2, t2, m2⟩ := s_tries cov (ρ e + 1) e (be e B) (by omega) c2 (n + 2) (S.set p o1) p (by omega) m1
  rw [List.set_set] at t2 m2
  have hLL : lo + L - lo - e = L - e := by omega
  have hLL2 : lo + L - lo = L := by omega
  have d1 : ((((l.length : Nat) : Int) + 1 + T r run (L - e) (ab e B)) == ((l.length : Nat) : Int) + T r run L B) = decide (1 + T r run (L - e) (ab e B) = T r run L B) := by
    rw [Bool.eq_iff_iff, beq_iff_eq, decide_eq_true_eq]; omega
  have d2 : ((((l.length : Nat) : Int) + 1 + T r run e (be e B)) == ((l.length : Nat) : Int) + T r run L B) = decide (1 + T r run e (be e B) = T r run L B) := by
    rw [Bool.eq_iff_iff, beq_iff_eq, decide_eq_true_eq]; omega
  have eab : D.tup ((ab e B).map .int) = eB (ab e B) := rfl
  have ebe : D.tup ((be e B).map .int) = eB (be e B) := rfl
  have eto : D.tup ((B.map (lo + ·)).map .int) = eB (B.map (lo + ·)) := rfl
  by_cases h1 : 1 + T r run (L - e) (ab e B) = T r run L B
  · left
    obtain ⟨o3, t3, m3⟩ := ih (L - e) (ab e B) (lo + e) (B.map (lo + ·)) (by omega) c1 (by rw [show lo + e + (L - e) = lo + L by omega]; exact within_ab lo L e B hB) (n + 2) (S.set p o1) p (by omega) m1
    rw [List.set_set] at t3 m3
    rw [show lo + e + (L - e) = lo + L by omega] at t3
    have hl2 := path_len r run _ (L - e) (ab e B) (Nat.lt_succ_self _)
    have hf := cl.few _ c1
    simp only at hf
    refine ⟨o3, .inl h1, ?_, m3⟩
    unfold lgB lgT
    rw [he]
    simp only [e_int, e_bl, e_non, e_str, e_var, e_con, e_fnv, e_bin, y_bin1, y_bin, e_neg, e_not, y_not, y_notI, e_cmp, y_cmp1, y_cmp, e_chain, y_ch1, y_ch2, y_ch3, e_and, e_or, e_and1, e_or1, e_and2, e_or2, y_and, y_or, e_ite, y_ite, e_tup, y_tup0, y_tup1, y_tup2, y_tup3, y_tup4, y_tup5, e_lst, y_lst, e_idx, y_idx1, y_idx, e_sl, y_sl1, y_sl2, y_sl3, e_call, e_bi, y_bi, e_isi, y_isiI, y_isiB, y_isiB2, y_isiI2, y_isiT, y_isiS, y_isiL, e_lenset, e_meth, y_meth2, e_comp, y_comp, y_mk, y_mkT, m_f, m_t, e_o0, asI_int, e_o1, y_trB, e_c0, e_c1, e_nil, e_cons, y_es, y_con, i_val, y_valT, y_valL, i_rng2, y_rng, i_rng1, enuT_tup, i_enuT, i_zip, y_zip, t_set, y_set, setA_nil, setA_cons, t_par, tgtA_name, tgtA_pair, tgtA_three, t_tgt, t_setI, y_put1, y_put2, t_ret, y_ret, t_retN, t_ifs, y_ifs, t_wh, t_fors, t_ex, y_ex, t_brk, t_cnt, t_pass, t_nil, t_cons, q_nx, q_rt, q_bk, q_ct, q_if, n_if, n_rt, n_nx, g_ok, g_bl, g_int, g_bind, g_bindS, z_bind, z_bindS, z_o, z_if, z_no, List.getElem?_cons_zero, List.getElem?_cons_succ, Option.join_some, List.set_cons_zero, List.set_cons_succ, neg, wipeS, D.same, ix_0, ix_1, ix_2, sl_to, b_add, b_sub, b_mul, b_div, b_mod, b_pow, b_cat, b_catT, b_catL, c_lt, c_le, c_gt, c_ge, c_eqI, c_neI, c_eqS, c_neS, c_eqB, c_neB, c_isN, c_notN, c_memL, c_nmemL, c_memT, c_nmemT, k_lenT, k_lenL, k_lenR, k_lenS, k_intI, k_intB, k_abs, k_tupL, k_tupT, k_max2, k_min2, k_divmod, k_all, k_sorted, k_sum, List.length_cons, List.length_nil, List.length_map, if_true, Bool.true_and, Bool.and_true, Bool.not_true, Bool.not_false, decide_true, Bool.false_eq_true, if_false, Int.reduceLT, Int.reduceLE, Int.reduceNeg, Int.reducePow, Int.reduceAdd, Int.reduceSub, Int.reduceMul, Nat.reduceAdd, Nat.reducePow, Nat.reduceLT, Nat.reduceLeDiff, Int.reduceEq, cond_true, cond_false, Bool.cond_false_right, Bool.cond_false_left, Bool.cond_true_left, Bool.cond_true_right, eO, kVal_eB]
    rw [c_ab 11 7 B e S _ (by simp) (by decide) rfl]
    simp only [e_int, e_bl, e_non, e_str, e_var, e_con, e_fnv, e_bin, y_bin1, y_bin, e_neg, e_not, y_not, y_notI, e_cmp, y_cmp1, y_cmp, e_chain, y_ch1, y_ch2, y_ch3, e_and, e_or, e_and1, e_or1, e_and2, e_or2, y_and, y_or, e_ite, y_ite, e_tup, y_tup0, y_tup1, y_tup2, y_tup3, y_tup4, y_tup5, e_lst, y_lst, e_idx, y_idx1, y_idx, e_sl, y_sl1, y_sl2, y_sl3, e_call, e_bi, y_bi, e_isi, y_isiI, y_isiB, y_isiB2, y_isiI2, y_isiT, y_isiS, y_isiL, e_lenset, e_meth, y_meth2, e_comp, y_comp, y_mk, y_mkT, m_f, m_t, e_o0, asI_int, e_o1, y_trB, e_c0, e_c1, e_nil, e_cons, y_es, y_con, i_val, y_valT, y_valL, i_rng2, y_rng, i_rng1, enuT_tup, i_enuT, i_zip, y_zip, t_set, y_set, setA_nil, setA_cons, t_par, tgtA_name, tgtA_pair, tgtA_three, t_tgt, t_setI, y_put1, y_put2, t_ret, y_ret, t_retN, t_ifs, y_ifs, t_wh, t_fors, t_ex, y_ex, t_brk, t_cnt, t_pass, t_nil, t_cons, q_nx, q_rt, q_bk, q_ct, q_if, n_if, n_rt, n_nx, g_ok, g_bl, g_int, g_bind, g_bindS, z_bind, z_bindS, z_o, z_if, z_no, List.getElem?_cons_zero, List.getElem?_cons_succ, Option.join_some, List.set_cons_zero, List.set_cons_succ, neg, wipeS, D.same, ix_0, ix_1, ix_2, sl_to, b_add, b_sub, b_mul, b_div, b_mod, b_pow, b_cat, b_catT, b_catL, c_lt, c_le, c_gt, c_ge, c_eqI, c_neI, c_eqS, c_neS, c_eqB, c_neB, c_isN, c_notN, c_memL, c_nmemL, c_memT, c_nmemT, k_lenT, k_lenL, k_lenR, k_lenS, k_intI, k_intB, k_abs, k_tupL, k_tupT, k_max2, k_min2, k_divmod, k_all, k_sorted, k_sum, List.length_cons, List.length_nil, List.length_map, if_true, Bool.true_and, Bool.and_true, Bool.not_true, Bool.not_false, decide_true, Bool.false_eq_true, if_false, Int.reduceLT, Int.reduceLE, Int.reduceNeg, Int.reducePow, Int.reduceAdd, Int.reduceSub, Int.reduceMul, Nat.reduceAdd, Nat.reducePow, Nat.reduceLT, Nat.reduceLeDiff, Int.reduceEq, cond_true, cond_false, Bool.cond_false_right, Bool.cond_false_left, Bool.cond_true_left, Bool.cond_true_right, kVal_eB]
    rw [c_be 11 7 B e S _ (by simp) (by decide) rfl]
    simp only [e_int, e_bl, e_non, e_str, e_var, e_con, e_fnv, e_bin, y_bin1, y_bin, e_neg, e_not, y_not, y_notI, e_cmp, y_cmp1, y_cmp, e_chain, y_ch1, y_ch2, y_ch3, e_and, e_or, e_and1, e_or1, e_and2, e_or2, y_and, y_or, e_ite, y_ite, e_tup, y_tup0, y_tup1, y_tup2, y_tup3, y_tup4, y_tup5, e_lst, y_lst, e_idx, y_idx1, y_idx, e_sl, y_sl1, y_sl2, y_sl3, e_call, e_bi, y_bi, e_isi, y_isiI, y_isiB, y_isiB2, y_isiI2, y_isiT, y_isiS, y_isiL, e_lenset, e_meth, y_meth2, e_comp, y_comp, y_mk, y_mkT, m_f, m_t, e_o0, asI_int, e_o1, y_trB, e_c0, e_c1, e_nil, e_cons, y_es, y_con, i_val, y_valT, y_valL, i_rng2, y_rng, i_rng1, enuT_tup, i_enuT, i_zip, y_zip, t_set, y_set, setA_nil, setA_cons, t_par, tgtA_name, tgtA_pair, tgtA_three, t_tgt, t_setI, y_put1, y_put2, t_ret, y_ret, t_retN, t_ifs, y_ifs, t_wh, t_fors, t_ex, y_ex, t_brk, t_cnt, t_pass, t_nil, t_cons, q_nx, q_rt, q_bk, q_ct, q_if, n_if, n_rt, n_nx, g_ok, g_bl, g_int, g_bind, g_bindS, z_bind, z_bindS, z_o, z_if, z_no, List.getElem?_cons_zero, List.getElem?_cons_succ, Option.join_some, List.set_cons_zero, List.set_cons_succ, neg, wipeS, D.same, ix_0, ix_1, ix_2, sl_to, b_add, b_sub, b_mul, b_div, b_mod, b_pow, b_cat, b_catT, b_catL, c_lt, c_le, c_gt, c_ge, c_eqI, c_neI, c_eqS, c_neS, c_eqB, c_neB, c_isN, c_notN, c_memL, c_nmemL, c_memT, c_nmemT, k_lenT, k_lenL, k_lenR, k_lenS, k_intI, k_intB, k_abs, k_tupL, k_tupT, k_max2, k_min2, k_divmod, k_all, k_sorted, k_sum, List.length_cons, List.length_nil, List.length_map, if_true, Bool.true_and, Bool.and_true, Bool.not_true, Bool.not_false, decide_true, Bool.false_eq_true, if_false, Int.reduceLT, Int.reduceLE, Int.reduceNeg, Int.reducePow, Int.reduceAdd, Int.reduceSub, Int.reduceMul, Nat.reduceAdd, Nat.reducePow, Nat.reduceLT, Nat.reduceLeDiff, Int.reduceEq, cond_true, cond_false, Bool.cond_false_right, Bool.cond_false_left, Bool.cond_true_left, Bool.cond_true_right, kVal_eB]
    rw [c_told 11 2 B lo S _ (by simp) (by decide) rfl]
    simp only [e_int, e_bl, e_non, e_str, e_var, e_con, e_fnv, e_bin, y_bin1, y_bin, e_neg, e_not, y_not, y_notI, e_cmp, y_cmp1, y_cmp, e_chain, y_ch1, y_ch2, y_ch3, e_and, e_or, e_and1, e_or1, e_and2, e_or2, y_and, y_or, e_ite, y_ite, e_tup, y_tup0, y_tup1, y_tup2, y_tup3, y_tup4, y_tup5, e_lst, y_lst, e_idx, y_idx1, y_idx, e_sl, y_sl1, y_sl2, y_sl3, e_call, e_bi, y_bi, e_isi, y_isiI, y_isiB, y_isiB2, y_isiI2, y_isiT, y_isiS, y_isiL, e_lenset, e_meth, y_meth2, e_comp, y_comp, y_mk, y_mkT, m_f, m_t, e_o0, asI_int, e_o1, y_trB, e_c0, e_c1, e_nil, e_cons, y_es, y_con, i_val, y_valT, y_valL, i_rng2, y_rng, i_rng1, enuT_tup, i_enuT, i_zip, y_zip, t_set, y_set, setA_nil, setA_cons, t_par, tgtA_name, tgtA_pair, tgtA_three, t_tgt, t_setI, y_put1, y_put2, t_ret, y_ret, t_retN, t_ifs, y_ifs, t_wh, t_fors, t_ex, y_ex, t_brk, t_cnt, t_pass, t_nil, t_cons, q_nx, q_rt, q_bk, q_ct, q_if, n_if, n_rt, n_nx, g_ok, g_bl, g_int, g_bind, g_bindS, z_bind, z_bindS, z_o, z_if, z_no, List.getElem?_cons_zero, List.getElem?_cons_succ, Option.join_some, List.set_cons_zero, List.set_cons_succ, neg, wipeS, D.same, ix_0, ix_1, ix_2, sl_to, b_add, b_sub, b_mul, b_div, b_mod, b_pow, b_cat, b_catT, b_catL, c_lt, c_le, c_gt, c_ge, c_eqI, c_neI, c_eqS, c_neS, c_eqB, c_neB, c_isN, c_notN, c_memL, c_nmemL, c_memT, c_nmemT, k_lenT, k_lenL, k_lenR, k_lenS, k_intI, k_intB, k_abs, k_tupL, k_tupT, k_max2, k_min2, k_divmod, k_all, k_sorted, k_sum, List.length_cons, List.length_nil, List.length_map, if_true, Bool.true_and, Bool.and_true, Bool.not_true, Bool.not_false, decide_true, Bool.false_eq_true, if_false, Int.reduceLT, Int.reduceLE, Int.reduceNeg, Int.reducePow, Int.reduceAdd, Int.reduceSub, Int.reduceMul, Nat.reduceAdd, Nat.reducePow, Nat.reduceLT, Nat.reduceLeDiff, Int.reduceEq, cond_true, cond_false, Bool.cond_false_right, Bool.cond_false_left, Bool.cond_true_left, Bool.cond_true_right, lg_len, hLL, eab, t1, d1, decide_eq_true h1, eto]
    have q := lg_cat l (lo + e, .good) (by omega) (S.set p o1)
    simp only [Wd.s] at q
    simp only [e_int, e_bl, e_non, e_str, e_var, e_con, e_fnv, e_bin, y_bin1, y_bin, e_neg, e_not, y_not, y_notI, e_cmp, y_cmp1, y_cmp, e_chain, y_ch1, y_ch2, y_ch3, e_and, e_or, e_and1, e_or1, e_and2, e_or2, y_and, y_or, e_ite, y_ite, e_tup, y_tup0, y_tup1, y_tup2, y_tup3, y_tup4, y_tup5, e_lst, y_lst, e_idx, y_idx1, y_idx, e_sl, y_sl1, y_sl2, y_sl3, e_call, e_bi, y_bi, e_isi, y_isiI, y_isiB, y_isiB2, y_isiI2, y_isiT, y_isiS, y_isiL, e_lenset, e_meth, y_meth2, e_comp, y_comp, y_mk, y_mkT, m_f, m_t, e_o0, asI_int, e_o1, y_trB, e_c0, e_c1, e_nil, e_cons, y_es, y_con, i_val, y_valT, y_valL, i_rng2, y_rng, i_rng1, enuT_tup, i_enuT, i_zip, y_zip, t_set, y_set, setA_nil, setA_cons, t_par, tgtA_name, tgtA_pair, tgtA_three, t_tgt, t_setI, y_put1, y_put2, t_ret, y_ret, t_retN, t_ifs, y_ifs, t_wh, t_fors, t_ex, y_ex, t_brk, t_cnt, t_pass, t_nil, t_cons, q_nx, q_rt, q_bk, q_ct, q_if, n_if, n_rt, n_nx, g_ok, g_bl, g_int, g_bind, g_bindS, z_bind, z_bindS, z_o, z_if, z_no, List.getElem?_cons_zero, List.getElem?_cons_succ, Option.join_some, List.set_cons_zero, List.set_cons_succ, neg, wipeS, D.same, ix_0, ix_1, ix_2, sl_to, b_add, b_sub, b_mul, b_div, b_mod, b_pow, b_cat, b_catT, b_catL, c_lt, c_le, c_gt, c_ge, c_eqI, c_neI, c_eqS, c_neS, c_eqB, c_neB, c_isN, c_notN, c_memL, c_nmemL, c_memT, c_nmemT, k_lenT, k_lenL, k_lenR, k_lenS, k_intI, k_intB, k_abs, k_tupL, k_tupT, k_max2, k_min2, k_divmod, k_all, k_sorted, k_sum, List.length_cons, List.length_nil, List.length_map, if_true, Bool.true_and, Bool.and_true, Bool.not_true, Bool.not_false, decide_true, Bool.false_eq_true, if_false, Int.reduceLT, Int.reduceLE, Int.reduceNeg, Int.reducePow, Int.reduceAdd, Int.reduceSub, Int.reduceMul, Nat.reduceAdd, Nat.reducePow, Nat.reduceLT, Nat.reduceLeDiff, Int.reduceEq, cond_true, cond_false, Bool.cond_false_right, Bool.cond_false_left, Bool.cond_true_left, Bool.cond_true_right, q, t3]
    rw [lg_catL _ _ (by simp [sh]; omega)]
    simp only [e_int, e_bl, e_non, e_str, e_var, e_con, e_fnv, e_bin, y_bin1, y_bin, e_neg, e_not, y_not, y_notI, e_cmp, y_cmp1, y_cmp, e_chain, y_ch1, y_ch2, y_ch3, e_and, e_or, e_and1, e_or1, e_and2, e_or2, y_and, y_or, e_ite, y_ite, e_tup, y_tup0, y_tup1, y_tup2, y_tup3, y_tup4, y_tup5, e_lst, y_lst, e_idx, y_idx1, y_idx, e_sl, y_sl1, y_sl2, y_sl3, e_call, e_bi, y_bi, e_isi, y_isiI, y_isiB, y_isiB2, y_isiI2, y_isiT, y_isiS, y_isiL, e_lenset, e_meth, y_meth2, e_comp, y_comp, y_mk, y_mkT, m_f, m_t, e_o0, asI_int, e_o1, y_trB, e_c0, e_c1, e_nil, e_cons, y_es, y_con, i_val, y_valT, y_valL, i_rng2, y_rng, i_rng1, enuT_tup, i_enuT, i_zip, y_zip, t_set, y_set, setA_nil, setA_cons, t_par, tgtA_name, tgtA_pair, tgtA_three, t_tgt, t_setI, y_put1, y_put2, t_ret, y_ret, t_retN, t_ifs, y_ifs, t_wh, t_fors, t_ex, y_ex, t_brk, t_cnt, t_pass, t_nil, t_cons, q_nx, q_rt, q_bk, q_ct, q_if, n_if, n_rt, n_nx, g_ok, g_bl, g_int, g_bind, g_bindS, z_bind, z_bindS, z_o, z_if, z_no, List.getElem?_cons_zero, List.getElem?_cons_succ, Option.join_some, List.set_cons_zero, List.set_cons_succ, neg, wipeS, D.same, ix_0, ix_1, ix_2, sl_to, b_add, b_sub, b_mul, b_div, b_mod, b_pow, b_cat, b_catT, b_catL, c_lt, c_le, c_gt, c_ge, c_eqI, c_neI, c_eqS, c_neS, c_eqB, c_neB, c_isN, c_notN, c_memL, c_nmemL, c_memT, c_nmemT, k_lenT, k_lenL, k_lenR, k_lenS, k_intI, k_intB, k_abs, k_tupL, k_tupT, k_max2, k_min2, k_divmod, k_all, k_sorted, k_sum, List.length_cons, List.length_nil, List.length_map, if_true, Bool.true_and, Bool.and_true, Bool.not_true, Bool.not_false, decide_true, Bool.false_eq_true, if_false, Int.reduceLT, Int.reduceLE, Int.reduceNeg, Int.reducePow, Int.reduceAdd, Int.reduceSub, Int.reduceMul, Nat.reduceAdd, Nat.reducePow, Nat.reduceLT, Nat.reduceLeDiff, Int.reduceEq, cond_true, cond_false, Bool.cond_false_right, Bool.cond_false_left, Bool.cond_true_left, Bool.cond_true_right]
    rw [path_some he, if_pos h1]
    simp [sh, Function.comp_def, Int.add_assoc]
  by_cases h2 : 1 + T r run e (be e B) = T r run L B
  · left
    obtain ⟨o3, t3, m3⟩ := ih e (be e B) lo (B.map (lo + ·)) (by omega) c2 (within_be lo L e B hB) (n + 2) (S.set p o2) p (by omega) m2
    rw [List.set_set] at t3 m3
    have hl2 := path_len r run _ e (be e B) (Nat.lt_succ_self _)
    have hf := cl.few _ c2
    simp only at hf
    refine ⟨o3, .inr h2, ?_, m3⟩
    unfold lgB lgT
    rw [he]
    simp only [e_int, e_bl, e_non, e_str, e_var, e_con, e_fnv, e_bin, y_bin1, y_bin, e_neg, e_not, y_not, y_notI, e_cmp, y_cmp1, y_cmp, e_chain, y_ch1, y_ch2, y_ch3, e_and, e_or, e_and1, e_or1, e_and2, e_or2, y_and, y_or, e_ite, y_ite, e_tup, y_tup0, y_tup1, y_tup2, y_tup3, y_tup4, y_tup5, e_lst, y_lst, e_idx, y_idx1, y_idx, e_sl, y_sl1, y_sl2, y_sl3, e_call, e_bi, y_bi, e_isi, y_isiI, y_isiB, y_isiB2, y_isiI2, y_isiT, y_isiS, y_isiL, e_lenset, e_meth, y_meth2, e_comp, y_comp, y_mk, y_mkT, m_f, m_t, e_o0, asI_int, e_o1, y_trB, e_c0, e_c1, e_nil, e_cons, y_es, y_con, i_val, y_valT, y_valL, i_rng2, y_rng, i_rng1, enuT_tup, i_enuT, i_zip, y_zip, t_set, y_set, setA_nil, setA_cons, t_par, tgtA_name, tgtA_pair, tgtA_three, t_tgt, t_setI, y_put1, y_put2, t_ret, y_ret, t_retN, t_ifs, y_ifs, t_wh, t_fors, t_ex, y_ex, t_brk, t_cnt, t_pass, t_nil, t_cons, q_nx, q_rt, q_bk, q_ct, q_if, n_if, n_rt, n_nx, g_ok, g_bl, g_int, g_bind, g_bindS, z_bind, z_bindS, z_o, z_if, z_no, List.getElem?_cons_zero, List.getElem?_cons_succ, Option.join_some, List.set_cons_zero, List.set_cons_succ, neg, wipeS, D.same, ix_0, ix_1, ix_2, sl_to, b_add, b_sub, b_mul, b_div, b_mod, b_pow, b_cat, b_catT, b_catL, c_lt, c_le, c_gt, c_ge, c_eqI, c_neI, c_eqS, c_neS, c_eqB, c_neB, c_isN, c_notN, c_memL, c_nmemL, c_memT, c_nmemT, k_lenT, k_lenL, k_lenR, k_lenS, k_intI, k_intB, k_abs, k_tupL, k_tupT, k_max2, k_min2, k_divmod, k_all, k_sorted, k_sum, List.length_cons, List.length_nil, List.length_map, if_true, Bool.true_and, Bool.and_true, Bool.not_true, Bool.not_false, decide_true, Bool.false_eq_true, if_false, Int.reduceLT, Int.reduceLE, Int.reduceNeg, Int.reducePow, Int.reduceAdd, Int.reduceSub, Int.reduceMul, Nat.reduceAdd, Nat.reducePow, Nat.reduceLT, Nat.reduceLeDiff, Int.reduceEq, cond_true, cond_false, Bool.cond_false_right, Bool.cond_false_left, Bool.cond_true_left, Bool.cond_true_right, eO, kVal_eB]
    rw [c_ab 11 7 B e S _ (by simp) (by decide) rfl]
    simp only [e_int, e_bl, e_non, e_str, e_var, e_con, e_fnv, e_bin, y_bin1, y_bin, e_neg, e_not, y_not, y_notI, e_cmp, y_cmp1, y_cmp, e_chain, y_ch1, y_ch2, y_ch3, e_and, e_or, e_and1, e_or1, e_and2, e_or2, y_and, y_or, e_ite, y_ite, e_tup, y_tup0, y_tup1, y_tup2, y_tup3, y_tup4, y_tup5, e_lst, y_lst, e_idx, y_idx1, y_idx, e_sl, y_sl1, y_sl2, y_sl3, e_call, e_bi, y_bi, e_isi, y_isiI, y_isiB, y_isiB2, y_isiI2, y_isiT, y_isiS, y_isiL, e_lenset, e_meth, y_meth2, e_comp, y_comp, y_mk, y_mkT, m_f, m_t, e_o0, asI_int, e_o1, y_trB, e_c0, e_c1, e_nil, e_cons, y_es, y_con, i_val, y_valT, y_valL, i_rng2, y_rng, i_rng1, enuT_tup, i_enuT, i_zip, y_zip, t_set, y_set, setA_nil, setA_cons, t_par, tgtA_name, tgtA_pair, tgtA_three, t_tgt, t_setI, y_put1, y_put2, t_ret, y_ret, t_retN, t_ifs, y_ifs, t_wh, t_fors, t_ex, y_ex, t_brk, t_cnt, t_pass, t_nil, t_cons, q_nx, q_rt, q_bk, q_ct, q_if, n_if, n_rt, n_nx, g_ok, g_bl, g_int, g_bind, g_bindS, z_bind, z_bindS, z_o, z_if, z_no, List.getElem?_cons_zero, List.getElem?_cons_succ, Option.join_some, List.set_cons_zero, List.set_cons_succ, neg, wipeS, D.same, ix_0, ix_1, ix_2, sl_to, b_add, b_sub, b_mul, b_div, b_mod, b_pow, b_cat, b_catT, b_catL, c_lt, c_le, c_gt, c_ge, c_eqI, c_neI, c_eqS, c_neS, c_eqB, c_neB, c_isN, c_notN, c_memL, c_nmemL, c_memT, c_nmemT, k_lenT, k_lenL, k_lenR, k_lenS, k_intI, k_intB, k_abs, k_tupL, k_tupT, k_max2, k_min2, k_divmod, k_all, k_sorted, k_sum, List.length_cons, List.length_nil, List.length_map, if_true, Bool.true_and, Bool.and_true, Bool.not_true, Bool.not_false, decide_true, Bool.false_eq_true, if_false, Int.reduceLT, Int.reduceLE, Int.reduceNeg, Int.reducePow, Int.reduceAdd, Int.reduceSub, Int.reduceMul, Nat.reduceAdd, Nat.reducePow, Nat.reduceLT, Nat.reduceLeDiff, Int.reduceEq, cond_true, cond_false, Bool.cond_false_right, Bool.cond_false_left, Bool.cond_true_left, Bool.cond_true_right, kVal_eB]
    rw [c_be 11 7 B e S _ (by simp) (by decide) rfl]
    simp only [e_int, e_bl, e_non, e_str, e_var, e_con, e_fnv, e_bin, y_bin1, y_bin, e_neg, e_not, y_not, y_notI, e_cmp, y_cmp1, y_cmp, e_chain, y_ch1, y_ch2, y_ch3, e_and, e_or, e_and1, e_or1, e_and2, e_or2, y_and, y_or, e_ite, y_ite, e_tup, y_tup0, y_tup1, y_tup2, y_tup3, y_tup4, y_tup5, e_lst, y_lst, e_idx, y_idx1, y_idx, e_sl, y_sl1, y_sl2, y_sl3, e_call, e_bi, y_bi, e_isi, y_isiI, y_isiB, y_isiB2, y_isiI2, y_isiT, y_isiS, y_isiL, e_lenset, e_meth, y_meth2, e_comp, y_comp, y_mk, y_mkT, m_f, m_t, e_o0, asI_int, e_o1, y_trB, e_c0, e_c1, e_nil, e_cons, y_es, y_con, i_val, y_valT, y_valL, i_rng2, y_rng, i_rng1, enuT_tup, i_enuT, i_zip, y_zip, t_set, y_set, setA_nil, setA_cons, t_par, tgtA_name, tgtA_pair, tgtA_three, t_tgt, t_setI, y_put1, y_put2, t_ret, y_ret, t_retN, t_ifs, y_ifs, t_wh, t_fors, t_ex, y_ex, t_brk, t_cnt, t_pass, t_nil, t_cons, q_nx, q_rt, q_bk, q_ct, q_if, n_if, n_rt, n_nx, g_ok, g_bl, g_int, g_bind, g_bindS, z_bind, z_bindS, z_o, z_if, z_no, List.getElem?_cons_zero, List.getElem?_cons_succ, Option.join_some, List.set_cons_zero, List.set_cons_succ, neg, wipeS, D.same, ix_0, ix_1, ix_2, sl_to, b_add, b_sub, b_mul, b_div, b_mod, b_pow, b_cat, b_catT, b_catL, c_lt, c_le, c_gt, c_ge, c_eqI, c_neI, c_eqS, c_neS, c_eqB, c_neB, c_isN, c_notN, c_memL, c_nmemL, c_memT, c_nmemT, k_lenT, k_lenL, k_lenR, k_lenS, k_intI, k_intB, k_abs, k_tupL, k_tupT, k_max2, k_min2, k_divmod, k_all, k_sorted, k_sum, List.length_cons, List.length_nil, List.length_map, if_true, Bool.true_and, Bool.and_true, Bool.not_true, Bool.not_false, decide_true, Bool.false_eq_true, if_false, Int.reduceLT, Int.reduceLE, Int.reduceNeg, Int.reducePow, Int.reduceAdd, Int.reduceSub, Int.reduceMul, Nat.reduceAdd, Nat.reducePow, Nat.reduceLT, Nat.reduceLeDiff, Int.reduceEq, cond_true, cond_false, Bool.cond_false_right, Bool.cond_false_left, Bool.cond_true_left, Bool.cond_true_right, kVal_eB]
    rw [c_told 11 2 B lo S _ (by simp) (by decide) rfl]
    simp only [e_int, e_bl, e_non, e_str, e_var, e_con, e_fnv, e_bin, y_bin1, y_bin, e_neg, e_not, y_not, y_notI, e_cmp, y_cmp1, y_cmp, e_chain, y_ch1, y_ch2, y_ch3, e_and, e_or, e_and1, e_or1, e_and2, e_or2, y_and, y_or, e_ite, y_ite, e_tup, y_tup0, y_tup1, y_tup2, y_tup3, y_tup4, y_tup5, e_lst, y_lst, e_idx, y_idx1, y_idx, e_sl, y_sl1, y_sl2, y_sl3, e_call, e_bi, y_bi, e_isi, y_isiI, y_isiB, y_isiB2, y_isiI2, y_isiT, y_isiS, y_isiL, e_lenset, e_meth, y_meth2, e_comp, y_comp, y_mk, y_mkT, m_f, m_t, e_o0, asI_int, e_o1, y_trB, e_c0, e_c1, e_nil, e_cons, y_es, y_con, i_val, y_valT, y_valL, i_rng2, y_rng, i_rng1, enuT_tup, i_enuT, i_zip, y_zip, t_set, y_set, setA_nil, setA_cons, t_par, tgtA_name, tgtA_pair, tgtA_three, t_tgt, t_setI, y_put1, y_put2, t_ret, y_ret, t_retN, t_ifs, y_ifs, t_wh, t_fors, t_ex, y_ex, t_brk, t_cnt, t_pass, t_nil, t_cons, q_nx, q_rt, q_bk, q_ct, q_if, n_if, n_rt, n_nx, g_ok, g_bl, g_int, g_bind, g_bindS, z_bind, z_bindS, z_o, z_if, z_no, List.getElem?_cons_zero, List.getElem?_cons_succ, Option.join_some, List.set_cons_zero, List.set_cons_succ, neg, wipeS, D.same, ix_0, ix_1, ix_2, sl_to, b_add, b_sub, b_mul, b_div, b_mod, b_pow, b_cat, b_catT, b_catL, c_lt, c_le, c_gt, c_ge, c_eqI, c_neI, c_eqS, c_neS, c_eqB, c_neB, c_isN, c_notN, c_memL, c_nmemL, c_memT, c_nmemT, k_lenT, k_lenL, k_lenR, k_lenS, k_intI, k_intB, k_abs, k_tupL, k_tupT, k_max2, k_min2, k_divmod, k_all, k_sorted, k_sum, List.length_cons, List.length_nil, List.length_map, if_true, Bool.true_and, Bool.and_true, Bool.not_true, Bool.not_false, decide_true, Bool.false_eq_true, if_false, Int.reduceLT, Int.reduceLE, Int.reduceNeg, Int.reducePow, Int.reduceAdd, Int.reduceSub, Int.reduceMul, Nat.reduceAdd, Nat.reducePow, Nat.reduceLT, Nat.reduceLeDiff, Int.reduceEq, cond_true, cond_false, Bool.cond_false_right, Bool.cond_false_left, Bool.cond_true_left, Bool.cond_true_right, lg_len, hLL, eab, t1, d1, decide_eq_false h1, eto]
    simp only [e_int, e_bl, e_non, e_str, e_var, e_con, e_fnv, e_bin, y_bin1, y_bin, e_neg, e_not, y_not, y_notI, e_cmp, y_cmp1, y_cmp, e_chain, y_ch1, y_ch2, y_ch3, e_and, e_or, e_and1, e_or1, e_and2, e_or2, y_and, y_or, e_ite, y_ite, e_tup, y_tup0, y_tup1, y_tup2, y_tup3, y_tup4, y_tup5, e_lst, y_lst, e_idx, y_idx1, y_idx, e_sl, y_sl1, y_sl2, y_sl3, e_call, e_bi, y_bi, e_isi, y_isiI, y_isiB, y_isiB2, y_isiI2, y_isiT, y_isiS, y_isiL, e_lenset, e_meth, y_meth2, e_comp, y_comp, y_mk, y_mkT, m_f, m_t, e_o0, asI_int, e_o1, y_trB, e_c0, e_c1, e_nil, e_cons, y_es, y_con, i_val, y_valT, y_valL, i_rng2, y_rng, i_rng1, enuT_tup, i_enuT, i_zip, y_zip, t_set, y_set, setA_nil, setA_cons, t_par, tgtA_name, tgtA_pair, tgtA_three, t_tgt, t_setI, y_put1, y_put2, t_ret, y_ret, t_retN, t_ifs, y_ifs, t_wh, t_fors, t_ex, y_ex, t_brk, t_cnt, t_pass, t_nil, t_cons, q_nx, q_rt, q_bk, q_ct, q_if, n_if, n_rt, n_nx, g_ok, g_bl, g_int, g_bind, g_bindS, z_bind, z_bindS, z_o, z_if, z_no, List.getElem?_cons_zero, List.getElem?_cons_succ, Option.join_some, List.set_cons_zero, List.set_cons_succ, neg, wipeS, D.same, ix_0, ix_1, ix_2, sl_to, b_add, b_sub, b_mul, b_div, b_mod, b_pow, b_cat, b_catT, b_catL, c_lt, c_le, c_gt, c_ge, c_eqI, c_neI, c_eqS, c_neS, c_eqB, c_neB, c_isN, c_notN, c_memL, c_nmemL, c_memT, c_nmemT, k_lenT, k_lenL, k_lenR, k_lenS, k_intI, k_intB, k_abs, k_tupL, k_tupT, k_max2, k_min2, k_divmod, k_all, k_sorted, k_sum, List.length_cons, List.length_nil, List.length_map, if_true, Bool.true_and, Bool.and_true, Bool.not_true, Bool.not_false, decide_true, Bool.false_eq_true, if_false, Int.reduceLT, Int.reduceLE, Int.reduceNeg, Int.reducePow, Int.reduceAdd, Int.reduceSub, Int.reduceMul, Nat.reduceAdd, Nat.reducePow, Nat.reduceLT, Nat.reduceLeDiff, Int.reduceEq, cond_true, cond_false, Bool.cond_false_right, Bool.cond_false_left, Bool.cond_true_left, Bool.cond_true_right, lg_len, ebe, t2, d2, decide_eq_true h2]
    have q := lg_cat l (lo + e, .bad) (by omega) (S.set p o2)
    simp only [Wd.s] at q
    simp only [e_int, e_bl, e_non, e_str, e_var, e_con, e_fnv, e_bin, y_bin1, y_bin, e_neg, e_not, y_not, y_notI, e_cmp, y_cmp1, y_cmp, e_chain, y_ch1, y_ch2, y_ch3, e_and, e_or, e_and1, e_or1, e_and2, e_or2, y_and, y_or, e_ite, y_ite, e_tup, y_tup0, y_tup1, y_tup2, y_tup3, y_tup4, y_tup5, e_lst, y_lst, e_idx, y_idx1, y_idx, e_sl, y_sl1, y_sl2, y_sl3, e_call, e_bi, y_bi, e_isi, y_isiI, y_isiB, y_isiB2, y_isiI2, y_isiT, y_isiS, y_isiL, e_lenset, e_meth, y_meth2, e_comp, y_comp, y_mk, y_mkT, m_f, m_t, e_o0, asI_int, e_o1, y_trB, e_c0, e_c1, e_nil, e_cons, y_es, y_con, i_val, y_valT, y_valL, i_rng2, y_rng, i_rng1, enuT_tup, i_enuT, i_zip, y_zip, t_set, y_set, setA_nil, setA_cons, t_par, tgtA_name, tgtA_pair, tgtA_three, t_tgt, t_setI, y_put1, y_put2, t_ret, y_ret, t_retN, t_ifs, y_ifs, t_wh, t_fors, t_ex, y_ex, t_brk, t_cnt, t_pass, t_nil, t_cons, q_nx, q_rt, q_bk, q_ct, q_if, n_if, n_rt, n_nx, g_ok, g_bl, g_int, g_bind, g_bindS, z_bind, z_bindS, z_o, z_if, z_no, List.getElem?_cons_zero, List.getElem?_cons_succ, Option.join_some, List.set_cons_zero, List.set_cons_succ, neg, wipeS, D.same, ix_0, ix_1, ix_2, sl_to, b_add, b_sub, b_mul, b_div, b_mod, b_pow, b_cat, b_catT, b_catL, c_lt, c_le, c_gt, c_ge, c_eqI, c_neI, c_eqS, c_neS, c_eqB, c_neB, c_isN, c_notN, c_memL, c_nmemL, c_memT, c_nmemT, k_lenT, k_lenL, k_lenR, k_lenS, k_intI, k_intB, k_abs, k_tupL, k_tupT, k_max2, k_min2, k_divmod, k_all, k_sorted, k_sum, List.length_cons, List.length_nil, List.length_map, if_true, Bool.true_and, Bool.and_true, Bool.not_true, Bool.not_false, decide_true, Bool.false_eq_true, if_false, Int.reduceLT, Int.reduceLE, Int.reduceNeg, Int.reducePow, Int.reduceAdd, Int.reduceSub, Int.reduceMul, Nat.reduceAdd, Nat.reducePow, Nat.reduceLT, Nat.reduceLeDiff, Int.reduceEq, cond_true, cond_false, Bool.cond_false_right, Bool.cond_false_left, Bool.cond_true_left, Bool.cond_true_right, q, t3]
    rw [lg_catL _ _ (by simp [sh]; omega)]
    simp only [e_int, e_bl, e_non, e_str, e_var, e_con, e_fnv, e_bin, y_bin1, y_bin, e_neg, e_not, y_not, y_notI, e_cmp, y_cmp1, y_cmp, e_chain, y_ch1, y_ch2, y_ch3, e_and, e_or, e_and1, e_or1, e_and2, e_or2, y_and, y_or, e_ite, y_ite, e_tup, y_tup0, y_tup1, y_tup2, y_tup3, y_tup4, y_tup5, e_lst, y_lst, e_idx, y_idx1, y_idx, e_sl, y_sl1, y_sl2, y_sl3, e_call, e_bi, y_bi, e_isi, y_isiI, y_isiB, y_isiB2, y_isiI2, y_isiT, y_isiS, y_isiL, e_lenset, e_meth, y_meth2, e_comp, y_comp, y_mk, y_mkT, m_f, m_t, e_o0, asI_int, e_o1, y_trB, e_c0, e_c1, e_nil, e_cons, y_es, y_con, i_val, y_valT, y_valL, i_rng2, y_rng, i_rng1, enuT_tup, i_enuT, i_zip, y_zip, t_set, y_set, setA_nil, setA_cons, t_par, tgtA_name, tgtA_pair, tgtA_three, t_tgt, t_setI, y_put1, y_put2, t_ret, y_ret, t_retN, t_ifs, y_ifs, t_wh, t_fors, t_ex, y_ex, t_brk, t_cnt, t_pass, t_nil, t_cons, q_nx, q_rt, q_bk, q_ct, q_if, n_if, n_rt, n_nx, g_ok, g_bl, g_int, g_bind, g_bindS, z_bind, z_bindS, z_o, z_if, z_no, List.getElem?_cons_zero, List.getElem?_cons_succ, Option.join_some, List.set_cons_zero, List.set_cons_succ, neg, wipeS, D.same, ix_0, ix_1, ix_2, sl_to, b_add, b_sub, b_mul, b_div, b_mod, b_pow, b_cat, b_catT, b_catL, c_lt, c_le, c_gt, c_ge, c_eqI, c_neI, c_eqS, c_neS, c_eqB, c_neB, c_isN, c_notN, c_memL, c_nmemL, c_memT, c_nmemT, k_lenT, k_lenL, k_lenR, k_lenS, k_intI, k_intB, k_abs, k_tupL, k_tupT, k_max2, k_min2, k_divmod, k_all, k_sorted, k_sum, List.length_cons, List.length_nil, List.length_map, if_true, Bool.true_and, Bool.and_true, Bool.not_true, Bool.not_false, decide_true, Bool.false_eq_true, if_false, Int.reduceLT, Int.reduceLE, Int.reduceNeg, Int.reducePow, Int.reduceAdd, Int.reduceSub, Int.reduceMul, Nat.reduceAdd, Nat.reducePow, Nat.reduceLT, Nat.reduceLeDiff, Int.reduceEq, cond_true, cond_false, Bool.cond_false_right, Bool.cond_false_left, Bool.cond_true_left, Bool.cond_true_right]
    rw [path_some he, if_neg h1, if_pos h2]
    simp [sh, Function.comp_def, Int.add_assoc]
  · right
    have hlen := cov.len _ hC
    simp only at hlen
    refine ⟨o2, some (eB (ab e B)), some (eB (be e B)), some (eB (B.map (lo + ·))), h1, h2, ?_, m2⟩
    unfold lgB lgT
    rw [he]
    simp only [e_int, e_bl, e_non, e_str, e_var, e_con, e_fnv, e_bin, y_bin1, y_bin, e_neg, e_not, y_not, y_notI, e_cmp, y_cmp1, y_cmp, e_chain, y_ch1, y_ch2, y_ch3, e_and, e_or, e_and1, e_or1, e_and2, e_or2, y_and, y_or, e_ite, y_ite, e_tup, y_tup0, y_tup1, y_tup2, y_tup3, y_tup4, y_tup5, e_lst, y_lst, e_idx, y_idx1, y_idx, e_sl, y_sl1, y_sl2, y_sl3, e_call, e_bi, y_bi, e_isi, y_isiI, y_isiB, y_isiB2, y_isiI2, y_isiT, y_isiS, y_isiL, e_lenset, e_meth, y_meth2, e_comp, y_comp, y_mk, y_mkT, m_f, m_t, e_o0, asI_int, e_o1, y_trB, e_c0, e_c1, e_nil, e_cons, y_es, y_con, i_val, y_valT, y_valL, i_rng2, y_rng, i_rng1, enuT_tup, i_enuT, i_zip, y_zip, t_set, y_set, setA_nil, setA_cons, t_par, tgtA_name, tgtA_pair, tgtA_three, t_tgt, t_setI, y_put1, y_put2, t_ret, y_ret, t_retN, t_ifs, y_ifs, t_wh, t_fors, t_ex, y_ex, t_brk, t_cnt, t_pass, t_nil, t_cons, q_nx, q_rt, q_bk, q_ct, q_if, n_if, n_rt, n_nx, g_ok, g_bl, g_int, g_bind, g_bindS, z_bind, z_bindS, z_o, z_if, z_no, List.getElem?_cons_zero, List.getElem?_cons_succ, Option.join_some, List.set_cons_zero, List.set_cons_succ, neg, wipeS, D.same, ix_0, ix_1, ix_2, sl_to, b_add, b_sub, b_mul, b_div, b_mod, b_pow, b_cat, b_catT, b_catL, c_lt, c_le, c_gt, c_ge, c_eqI, c_neI, c_eqS, c_neS, c_eqB, c_neB, c_isN, c_notN, c_memL, c_nmemL, c_memT, c_nmemT, k_lenT, k_lenL, k_lenR, k_lenS, k_intI, k_intB, k_abs, k_tupL, k_tupT, k_max2, k_min2, k_divmod, k_all, k_sorted, k_sum, List.length_cons, List.length_nil, List.length_map, if_true, Bool.true_and, Bool.and_true, Bool.not_true, Bool.not_false, decide_true, Bool.false_eq_true, if_false, Int.reduceLT, Int.reduceLE, Int.reduceNeg, Int.reducePow, Int.reduceAdd, Int.reduceSub, Int.reduceMul, Nat.reduceAdd, Nat.reducePow, Nat.reduceLT, Nat.reduceLeDiff, Int.reduceEq, cond_true, cond_false, Bool.cond_false_right, Bool.cond_false_left, Bool.cond_true_left, Bool.cond_true_right, eO, kVal_eB]
    rw [c_ab 11 7 B e S _ (by simp) (by decide) rfl]
    simp only [e_int, e_bl, e_non, e_str, e_var, e_con, e_fnv, e_bin, y_bin1, y_bin, e_neg, e_not, y_not, y_notI, e_cmp, y_cmp1, y_cmp, e_chain, y_ch1, y_ch2, y_ch3, e_and, e_or, e_and1, e_or1, e_and2, e_or2, y_and, y_or, e_ite, y_ite, e_tup, y_tup0, y_tup1, y_tup2, y_tup3, y_tup4, y_tup5, e_lst, y_lst, e_idx, y_idx1, y_idx, e_sl, y_sl1, y_sl2, y_sl3, e_call, e_bi, y_bi, e_isi, y_isiI, y_isiB, y_isiB2, y_isiI2, y_isiT, y_isiS, y_isiL, e_lenset, e_meth, y_meth2, e_comp, y_comp, y_mk, y_mkT, m_f, m_t, e_o0, asI_int, e_o1, y_trB, e_c0, e_c1, e_nil, e_cons, y_es, y_con, i_val, y_valT, y_valL, i_rng2, y_rng, i_rng1, enuT_tup, i_enuT, i_zip, y_zip, t_set, y_set, setA_nil, setA_cons, t_par, tgtA_name, tgtA_pair, tgtA_three, t_tgt, t_setI, y_put1, y_put2, t_ret, y_ret, t_retN, t_ifs, y_ifs, t_wh, t_fors, t_ex, y_ex, t_brk, t_cnt, t_pass, t_nil, t_cons, q_nx, q_rt, q_bk, q_ct, q_if, n_if, n_rt, n_nx, g_ok, g_bl, g_int, g_bind, g_bindS, z_bind, z_bindS, z_o, z_if, z_no, List.getElem?_cons_zero, List.getElem?_cons_succ, Option.join_some, List.set_cons_zero, List.set_cons_succ, neg, wipeS, D.same, ix_0, ix_1, ix_2, sl_to, b_add, b_sub, b_mul, b_div, b_mod, b_pow, b_cat, b_catT, b_catL, c_lt, c_le, c_gt, c_ge, c_eqI, c_neI, c_eqS, c_neS, c_eqB, c_neB, c_isN, c_notN, c_memL, c_nmemL, c_memT, c_nmemT, k_lenT, k_lenL, k_lenR, k_lenS, k_intI, k_intB, k_abs, k_tupL, k_tupT, k_max2, k_min2, k_divmod, k_all, k_sorted, k_sum, List.length_cons, List.length_nil, List.length_map, if_true, Bool.true_and, Bool.and_true, Bool.not_true, Bool.not_false, decide_true, Bool.false_eq_true, if_false, Int.reduceLT, Int.reduceLE, Int.reduceNeg, Int.reducePow, Int.reduceAdd, Int.reduceSub, Int.reduceMul, Nat.reduceAdd, Nat.reducePow, Nat.reduceLT, Nat.reduceLeDiff, Int.reduceEq, cond_true, cond_false, Bool.cond_false_right, Bool.cond_false_left, Bool.cond_true_left, Bool.cond_true_right, kVal_eB]
    rw [c_be 11 7 B e S _ (by simp) (by decide) rfl]
    simp only [e_int, e_bl, e_non, e_str, e_var, e_con, e_fnv, e_bin, y_bin1, y_bin, e_neg, e_not, y_not, y_notI, e_cmp, y_cmp1, y_cmp, e_chain, y_ch1, y_ch2, y_ch3, e_and, e_or, e_and1, e_or1, e_and2, e_or2, y_and, y_or, e_ite, y_ite, e_tup, y_tup0, y_tup1, y_tup2, y_tup3, y_tup4, y_tup5, e_lst, y_lst, e_idx, y_idx1, y_idx, e_sl, y_sl1, y_sl2, y_sl3, e_call, e_bi, y_bi, e_isi, y_isiI, y_isiB, y_isiB2, y_isiI2, y_isiT, y_isiS, y_isiL, e_lenset, e_meth, y_meth2, e_comp, y_comp, y_mk, y_mkT, m_f, m_t, e_o0, asI_int, e_o1, y_trB, e_c0, e_c1, e_nil, e_cons, y_es, y_con, i_val, y_valT, y_valL, i_rng2, y_rng, i_rng1, enuT_tup, i_enuT, i_zip, y_zip, t_set, y_set, setA_nil, setA_cons, t_par, tgtA_name, tgtA_pair, tgtA_three, t_tgt, t_setI, y_put1, y_put2, t_ret, y_ret, t_retN, t_ifs, y_ifs, t_wh, t_fors, t_ex, y_ex, t_brk, t_cnt, t_pass, t_nil, t_cons, q_nx, q_rt, q_bk, q_ct, q_if, n_if, n_rt, n_nx, g_ok, g_bl, g_int, g_bind, g_bindS, z_bind, z_bindS, z_o, z_if, z_no, List.getElem?_cons_zero, List.getElem?_cons_succ, Option.join_some, List.set_cons_zero, List.set_cons_succ, neg, wipeS, D.same, ix_0, ix_1, ix_2, sl_to, b_add, b_sub, b_mul, b_div, b_mod, b_pow, b_cat, b_catT, b_catL, c_lt, c_le, c_gt, c_ge, c_eqI, c_neI, c_eqS, c_neS, c_eqB, c_neB, c_isN, c_notN, c_memL, c_nmemL, c_memT, c_nmemT, k_lenT, k_lenL, k_lenR, k_lenS, k_intI, k_intB, k_abs, k_tupL, k_tupT, k_max2, k_min2, k_divmod, k_all, k_sorted, k_sum, List.length_cons, List.length_nil, List.length_map, if_true, Bool.true_and, Bool.and_true, Bool.not_true, Bool.not_false, decide_true, Bool.false_eq_true, if_false, Int.reduceLT, Int.reduceLE, Int.reduceNeg, Int.reducePow, Int.reduceAdd, Int.reduceSub, Int.reduceMul, Nat.reduceAdd, Nat.reducePow, Nat.reduceLT, Nat.reduceLeDiff, Int.reduceEq, cond_true, cond_false, Bool.cond_false_right, Bool.cond_false_left, Bool.cond_true_left, Bool.cond_true_right, kVal_eB]
    rw [c_told 11 2 B lo S _ (by simp) (by decide) rfl]
    simp only [e_int, e_bl, e_non, e_str, e_var, e_con, e_fnv, e_bin, y_bin1, y_bin, e_neg, e_not, y_not, y_notI, e_cmp, y_cmp1, y_cmp, e_chain, y_ch1, y_ch2, y_ch3, e_and, e_or, e_and1, e_or1, e_and2, e_or2, y_and, y_or, e_ite, y_ite, e_tup, y_tup0, y_tup1, y_tup2, y_tup3, y_tup4, y_tup5, e_lst, y_lst, e_idx, y_idx1, y_idx, e_sl, y_sl1, y_sl2, y_sl3, e_call, e_bi, y_bi, e_isi, y_isiI, y_isiB, y_isiB2, y_isiI2, y_isiT, y_isiS, y_isiL, e_lenset, e_meth, y_meth2, e_comp, y_comp, y_mk, y_mkT, m_f, m_t, e_o0, asI_int, e_o1, y_trB, e_c0, e_c1, e_nil, e_cons, y_es, y_con, i_val, y_valT, y_valL, i_rng2, y_rng, i_rng1, enuT_tup, i_enuT, i_zip, y_zip, t_set, y_set, setA_nil, setA_cons, t_par, tgtA_name, tgtA_pair, tgtA_three, t_tgt, t_setI, y_put1, y_put2, t_ret, y_ret, t_retN, t_ifs, y_ifs, t_wh, t_fors, t_ex, y_ex, t_brk, t_cnt, t_pass, t_nil, t_cons, q_nx, q_rt, q_bk, q_ct, q_if, n_if, n_rt, n_nx, g_ok, g_bl, g_int, g_bind, g_bindS, z_bind, z_bindS, z_o, z_if, z_no, List.getElem?_cons_zero, List.getElem?_cons_succ, Option.join_some, List.set_cons_zero, List.set_cons_succ, neg, wipeS, D.same, ix_0, ix_1, ix_2, sl_to, b_add, b_sub, b_mul, b_div, b_mod, b_pow, b_cat, b_catT, b_catL, c_lt, c_le, c_gt, c_ge, c_eqI, c_neI, c_eqS, c_neS, c_eqB, c_neB, c_isN, c_notN, c_memL, c_nmemL, c_memT, c_nmemT, k_lenT, k_lenL, k_lenR, k_lenS, k_intI, k_intB, k_abs, k_tupL, k_tupT, k_max2, k_min2, k_divmod, k_all, k_sorted, k_sum, List.length_cons, List.length_nil, List.length_map, if_true, Bool.true_and, Bool.and_true, Bool.not_true, Bool.not_false, decide_true, Bool.false_eq_true, if_false, Int.reduceLT, Int.reduceLE, Int.reduceNeg, Int.reducePow, Int.reduceAdd, Int.reduceSub, Int.reduceMul, Nat.reduceAdd, Nat.reducePow, Nat.reduceLT, Nat.reduceLeDiff, Int.reduceEq, cond_true, cond_false, Bool.cond_false_right, Bool.cond_false_left, Bool.cond_true_left, Bool.cond_true_right, lg_len, hLL, eab, t1, d1, decide_eq_false h1, eto]
    simp only [e_int, e_bl, e_non, e_str, e_var, e_con, e_fnv, e_bin, y_bin1, y_bin, e_neg, e_not, y_not, y_notI, e_cmp, y_cmp1, y_cmp, e_chain, y_ch1, y_ch2, y_ch3, e_and, e_or, e_and1, e_or1, e_and2, e_or2, y_and, y_or, e_ite, y_ite, e_tup, y_tup0, y_tup1, y_tup2, y_tup3, y_tup4, y_tup5, e_lst, y_lst, e_idx, y_idx1, y_idx, e_sl, y_sl1, y_sl2, y_sl3, e_call, e_bi, y_bi, e_isi, y_isiI, y_isiB, y_isiB2, y_isiI2, y_isiT, y_isiS, y_isiL, e_lenset, e_meth, y_meth2, e_comp, y_comp, y_mk, y_mkT, m_f, m_t, e_o0, asI_int, e_o1, y_trB, e_c0, e_c1, e_nil, e_cons, y_es, y_con, i_val, y_valT, y_valL, i_rng2, y_rng, i_rng1, enuT_tup, i_enuT, i_zip, y_zip, t_set, y_set, setA_nil, setA_cons, t_par, tgtA_name, tgtA_pair, tgtA_three, t_tgt, t_setI, y_put1, y_put2, t_ret, y_ret, t_retN, t_ifs, y_ifs, t_wh, t_fors, t_ex, y_ex, t_brk, t_cnt, t_pass, t_nil, t_cons, q_nx, q_rt, q_bk, q_ct, q_if, n_if, n_rt, n_nx, g_ok, g_bl, g_int, g_bind, g_bindS, z_bind, z_bindS, z_o, z_if, z_no, List.getElem?_cons_zero, List.getElem?_cons_succ, Option.join_some, List.set_cons_zero, List.set_cons_succ, neg, wipeS, D.same, ix_0, ix_1, ix_2, sl_to, b_add, b_sub, b_mul, b_div, b_mod, b_pow, b_cat, b_catT, b_catL, c_lt, c_le, c_gt, c_ge, c_eqI, c_neI, c_eqS, c_neS, c_eqB, c_neB, c_isN, c_notN, c_memL, c_nmemL, c_memT, c_nmemT, k_lenT, k_lenL, k_lenR, k_lenS, k_intI, k_intB, k_abs, k_tupL, k_tupT, k_max2, k_min2, k_divmod, k_all, k_sorted, k_sum, List.length_cons, List.length_nil, List.length_map, if_true, Bool.true_and, Bool.and_true, Bool.not_true, Bool.not_false, decide_true, Bool.false_eq_true, if_false, Int.reduceLT, Int.reduceLE, Int.reduceNeg, Int.reducePow, Int.reduceAdd, Int.reduceSub, Int.reduceMul, Nat.reduceAdd, Nat.reducePow, Nat.reduceLT, Nat.reduceLeDiff, Int.reduceEq, cond_true, cond_false, Bool.cond_false_right, Bool.cond_false_left, Bool.cond_true_left, Bool.cond_true_right, lg_len, ebe, t2, d2, decide_eq_false h2]
    have q := lg_cat l (lo + e, .barred) (by omega) (S.set p o2)
    simp only [Wd.s] at q
    simp only [e_int, e_bl, e_non, e_str, e_var, e_con, e_fnv, e_bin, y_bin1, y_bin, e_neg, e_not, y_not, y_notI, e_cmp, y_cmp1, y_cmp, e_chain, y_ch1, y_ch2, y_ch3, e_and, e_or, e_and1, e_or1, e_and2, e_or2, y_and, y_or, e_ite, y_ite, e_tup, y_tup0, y_tup1, y_tup2, y_tup3, y_tup4, y_tup5, e_lst, y_lst, e_idx, y_idx1, y_idx, e_sl, y_sl1, y_sl2, y_sl3, e_call, e_bi, y_bi, e_isi, y_isiI, y_isiB, y_isiB2, y_isiI2, y_isiT, y_isiS, y_isiL, e_lenset, e_meth, y_meth2, e_comp, y_comp, y_mk, y_mkT, m_f, m_t, e_o0, asI_int, e_o1, y_trB, e_c0, e_c1, e_nil, e_cons, y_es, y_con, i_val, y_valT, y_valL, i_rng2, y_rng, i_rng1, enuT_tup, i_enuT, i_zip, y_zip, t_set, y_set, setA_nil, setA_cons, t_par, tgtA_name, tgtA_pair, tgtA_three, t_tgt, t_setI, y_put1, y_put2, t_ret, y_ret, t_retN, t_ifs, y_ifs, t_wh, t_fors, t_ex, y_ex, t_brk, t_cnt, t_pass, t_nil, t_cons, q_nx, q_rt, q_bk, q_ct, q_if, n_if, n_rt, n_nx, g_ok, g_bl, g_int, g_bind, g_bindS, z_bind, z_bindS, z_o, z_if, z_no, List.getElem?_cons_zero, List.getElem?_cons_succ, Option.join_some, List.set_cons_zero, List.set_cons_succ, neg, wipeS, D.same, ix_0, ix_1, ix_2, sl_to, b_add, b_sub, b_mul, b_div, b_mod, b_pow, b_cat, b_catT, b_catL, c_lt, c_le, c_gt, c_ge, c_eqI, c_neI, c_eqS, c_neS, c_eqB, c_neB, c_isN, c_notN, c_memL, c_nmemL, c_memT, c_nmemT, k_lenT, k_lenL, k_lenR, k_lenS, k_intI, k_intB, k_abs, k_tupL, k_tupT, k_max2, k_min2, k_divmod, k_all, k_sorted, k_sum, List.length_cons, List.length_nil, List.length_map, if_true, Bool.true_and, Bool.and_true, Bool.not_true, Bool.not_false, decide_true, Bool.false_eq_true, if_false, Int.reduceLT, Int.reduceLE, Int.reduceNeg, Int.reducePow, Int.reduceAdd, Int.reduceSub, Int.reduceMul, Nat.reduceAdd, Nat.reducePow, Nat.reduceLT, Nat.reduceLeDiff, Int.reduceEq, cond_true, cond_false, Bool.cond_false_right, Bool.cond_false_left, Bool.cond_true_left, Bool.cond_true_right, q]
    rw [add_D B e (by omega)]
    simp only [e_int, e_bl, e_non, e_str, e_var, e_con, e_fnv, e_bin, y_bin1, y_bin, e_neg, e_not, y_not, y_notI, e_cmp, y_cmp1, y_cmp, e_chain, y_ch1, y_ch2, y_ch3, e_and, e_or, e_and1, e_or1, e_and2, e_or2, y_and, y_or, e_ite, y_ite, e_tup, y_tup0, y_tup1, y_tup2, y_tup3, y_tup4, y_tup5, e_lst, y_lst, e_idx, y_idx1, y_idx, e_sl, y_sl1, y_sl2, y_sl3, e_call, e_bi, y_bi, e_isi, y_isiI, y_isiB, y_isiB2, y_isiI2, y_isiT, y_isiS, y_isiL, e_lenset, e_meth, y_meth2, e_comp, y_comp, y_mk, y_mkT, m_f, m_t, e_o0, asI_int, e_o1, y_trB, e_c0, e_c1, e_nil, e_cons, y_es, y_con, i_val, y_valT, y_valL, i_rng2, y_rng, i_rng1, enuT_tup, i_enuT, i_zip, y_zip, t_set, y_set, setA_nil, setA_cons, t_par, tgtA_name, tgtA_pair, tgtA_three, t_tgt, t_setI, y_put1, y_put2, t_ret, y_ret, t_retN, t_ifs, y_ifs, t_wh, t_fors, t_ex, y_ex, t_brk, t_cnt, t_pass, t_nil, t_cons, q_nx, q_rt, q_bk, q_ct, q_if, n_if, n_rt, n_nx, g_ok, g_bl, g_int, g_bind, g_bindS, z_bind, z_bindS, z_o, z_if, z_no, List.getElem?_cons_zero, List.getElem?_cons_succ, Option.join_some, List.set_cons_zero, List.set_cons_succ, neg, wipeS, D.same, ix_0, ix_1, ix_2, sl_to, b_add, b_sub, b_mul, b_div, b_mod, b_pow, b_cat, b_catT, b_catL, c_lt, c_le, c_gt, c_ge, c_eqI, c_neI, c_eqS, c_neS, c_eqB, c_neB, c_isN, c_notN, c_memL, c_nmemL, c_memT, c_nmemT, k_lenT, k_lenL, k_lenR, k_lenS, k_intI, k_intB, k_abs, k_tupL, k_tupT, k_max2, k_min2, k_divmod, k_all, k_sorted, k_sum, List.length_cons, List.length_nil, List.length_map, if_true, Bool.true_and, Bool.and_true, Bool.not_true, Bool.not_false, decide_true, Bool.false_eq_true, if_false, Int.reduceLT, Int.reduceLE, Int.reduceNeg, Int.reducePow, Int.reduceAdd, Int.reduceSub, Int.reduceMul, Nat.reduceAdd, Nat.reducePow, Nat.reduceLT, Nat.reduceLeDiff, Int.reduceEq, cond_true, cond_false, Bool.cond_false_right, Bool.cond_false_left, Bool.cond_true_left, Bool.cond_true_right, kVal_eB]
    rw [c_ints 11 (B ++ [e]) _ _ (by simp)]
    have hn2 := s_next_of n r 0 L (add e B) (eB (add e B)) (eB_nmem _) (S.set p o2)
    have e2 : D.tup ((isort (B ++ [e])).map .int) = eB (add e B) := rfl
    simp only [e_int, e_bl, e_non, e_str, e_var, e_con, e_fnv, e_bin, y_bin1, y_bin, e_neg, e_not, y_not, y_notI, e_cmp, y_cmp1, y_cmp, e_chain, y_ch1, y_ch2, y_ch3, e_and, e_or, e_and1, e_or1, e_and2, e_or2, y_and, y_or, e_ite, y_ite, e_tup, y_tup0, y_tup1, y_tup2, y_tup3, y_tup4, y_tup5, e_lst, y_lst, e_idx, y_idx1, y_idx, e_sl, y_sl1, y_sl2, y_sl3, e_call, e_bi, y_bi, e_isi, y_isiI, y_isiB, y_isiB2, y_isiI2, y_isiT, y_isiS, y_isiL, e_lenset, e_meth, y_meth2, e_comp, y_comp, y_mk, y_mkT, m_f, m_t, e_o0, asI_int, e_o1, y_trB, e_c0, e_c1, e_nil, e_cons, y_es, y_con, i_val, y_valT, y_valL, i_rng2, y_rng, i_rng1, enuT_tup, i_enuT, i_zip, y_zip, t_set, y_set, setA_nil, setA_cons, t_par, tgtA_name, tgtA_pair, tgtA_three, t_tgt, t_setI, y_put1, y_put2, t_ret, y_ret, t_retN, t_ifs, y_ifs, t_wh, t_fors, t_ex, y_ex, t_brk, t_cnt, t_pass, t_nil, t_cons, q_nx, q_rt, q_bk, q_ct, q_if, n_if, n_rt, n_nx, g_ok, g_bl, g_int, g_bind, g_bindS, z_bind, z_bindS, z_o, z_if, z_no, List.getElem?_cons_zero, List.getElem?_cons_succ, Option.join_some, List.set_cons_zero, List.set_cons_succ, neg, wipeS, D.same, ix_0, ix_1, ix_2, sl_to, b_add, b_sub, b_mul, b_div, b_mod, b_pow, b_cat, b_catT, b_catL, c_lt, c_le, c_gt, c_ge, c_eqI, c_neI, c_eqS, c_neS, c_eqB, c_neB, c_isN, c_notN, c_memL, c_nmemL, c_memT, c_nmemT, k_lenT, k_lenL, k_lenR, k_lenS, k_intI, k_intB, k_abs, k_tupL, k_tupT, k_max2, k_min2, k_divmod, k_all, k_sorted, k_sum, List.length_cons, List.length_nil, List.length_map, if_true, Bool.true_and, Bool.and_true, Bool.not_true, Bool.not_false, decide_true, Bool.false_eq_true, if_false, Int.reduceLT, Int.reduceLE, Int.reduceNeg, Int.reducePow, Int.reduceAdd, Int.reduceSub, Int.reduceMul, Nat.reduceAdd, Nat.reducePow, Nat.reduceLT, Nat.reduceLeDiff, Int.reduceEq, cond_true, cond_false, Bool.cond_false_right, Bool.cond_false_left, Bool.cond_true_left, Bool.cond_true_right, hLL2, e2, hn2]
    rfl
theorem lg_run (cov : Cov r run C ρ) (cl : CovL r run C) {k : Nat} (ih : LogOk r run C ρ k) (n : Nat) (lo L : Int) (B0 : D) (p : Nat) (hk : ρ L < k + 1) (hn : ρ L + 6 ≤ n + 2) : ∀ (m : Nat) (B : List Int) (l : Lg) (j10 j12 j13 : Option D) (S : Store), cnt r L B < m → (L, B) ∈ C → l.length + cnt r L B < 20000 → Memo (vT r run) C S p →
    ∃ o, Memo (vT r run) C (S.set p o) p ∧ (whL (ev (evF fs (n + 2)) lgC) (evB (evF fs (n + 2)) lgB) m (lgT r run lo L B0 p B ((l.length : Nat) + T r run L B) l j10 j12 j13) S = .rt (eLg (l ++ sh lo (path r run L B))) (S.set p o) ∨
      ∃ τ', whL (ev (evF fs (n + 2)) lgC) (evB (evF fs (n + 2)) lgB) m (lgT r run lo L B0 p B ((l.length : Nat) + T r run L B) l j10 j12 j13) S = .nx τ' (S.set p o) ∧ τ'[9]? = some (some (eLg (l ++ sh lo (path r run L B))))) := by
  intro m
  induction m with
  | zero => intro B l j10 j12 j13 S h; omega
  | succ m ihm =>
    intro B l j10 j12 j13 S h hC hl hm
    have hc : ev (evF fs (n + 2)) lgC (lgT r run lo L B0 p B ((l.length : Nat) + T r run L B) l j10 j12 j13) S = .ok (.bl (nxt r 0 L B).isSome) S := by
      unfold lgC lgT
      simp only [e_int, e_bl, e_non, e_str, e_var, e_con, e_fnv, e_bin, y_bin1, y_bin, e_neg, e_not, y_not, y_notI, e_cmp, y_cmp1, y_cmp, e_chain, y_ch1, y_ch2, y_ch3, e_and, e_or, e_and1, e_or1, e_and2, e_or2, y_and, y_or, e_ite, y_ite, e_tup, y_tup0, y_tup1, y_tup2, y_tup3, y_tup4, y_tup5, e_lst, y_lst, e_idx, y_idx1, y_idx, e_sl, y_sl1, y_sl2, y_sl3, e_call, e_bi, y_bi, e_isi, y_isiI, y_isiB, y_isiB2, y_isiI2, y_isiT, y_isiS, y_isiL, e_lenset, e_meth, y_meth2, e_comp, y_comp, y_mk, y_mkT, m_f, m_t, e_o0, asI_int, e_o1, y_trB, e_c0, e_c1, e_nil, e_cons, y_es, y_con, i_val, y_valT, y_valL, i_rng2, y_rng, i_rng1, enuT_tup, i_enuT, i_zip, y_zip, t_set, y_set, setA_nil, setA_cons, t_par, tgtA_name, tgtA_pair, tgtA_three, t_tgt, t_setI, y_put1, y_put2, t_ret, y_ret, t_retN, t_ifs, y_ifs, t_wh, t_fors, t_ex, y_ex, t_brk, t_cnt, t_pass, t_nil, t_cons, q_nx, q_rt, q_bk, q_ct, q_if, n_if, n_rt, n_nx, g_ok, g_bl, g_int, g_bind, g_bindS, z_bind, z_bindS, z_o, z_if, z_no, List.getElem?_cons_zero, List.getElem?_cons_succ, Option.join_some, List.set_cons_zero, List.set_cons_succ, neg, getIx, seqOf, lstOf, rd, itemsOf, wipeS, D.same, ix_0, ix_1, ix_2, sl_to, b_add, b_sub, b_mul, b_div, b_mod, b_pow, b_cat, b_catT, b_catL, c_lt, c_le, c_gt, c_ge, c_eqI, c_neI, c_eqS, c_neS, c_eqB, c_neB, c_isN, c_notN, c_memL, c_nmemL, c_memT, c_nmemT, k_lenT, k_lenL, k_lenR, k_lenS, k_intI, k_intB, k_abs, k_tupL, k_tupT, k_max2, k_min2, k_divmod, k_all, k_sorted, k_sum, List.length_cons, List.length_nil, List.length_map, if_true, Bool.true_and, Bool.and_true, Bool.not_true, Bool.not_false, decide_true, Bool.false_eq_true, if_false, Int.reduceLT, Int.reduceLE, Int.reduceNeg, Int.reducePow, Int.reduceAdd, Int.reduceSub, Int.reduceMul, Nat.reduceAdd, Nat.reducePow, Nat.reduceLT, Nat.reduceLeDiff, Int.reduceEq, cond_true, cond_false, Bool.cond_false_right, Bool.cond_false_left, Bool.cond_true_left, Bool.cond_true_right, same_eO]
      cases nxt r 0 L B <;> rfl
    obtain ⟨ks, g1, g2, g3⟩ := id hm
    cases e : nxt r 0 L B with
    | none =>
      refine ⟨.dict (kvOf (vT r run) ks), by rw [set_same g1]; exact hm, .inr ⟨lgT r run lo L B0 p B ((l.length : Nat) + T r run L B) l j10 j12 j13, ?_, ?_⟩⟩
      · rw [set_same g1]
        simp only [whL, hc, e, Option.isSome_none, R.bindS_ok, truth]
      · rw [path_none e]; simp [lgT, sh]
    | some e' =>
      rcases lg_turn cov cl ih n lo L B0 p B l j10 j12 j13 e' e hC hk hn (by omega) S hm with ⟨o, h1, ht, hm'⟩ | ⟨o, i10, i12, i13, h1, h2, ht, hm'⟩
      · refine ⟨o, hm', .inl ?_⟩
        simp only [whL, hc, e, Option.isSome_some, R.bindS_ok, truth, ht]
      · obtain ⟨q1, q2⟩ := path_bars (run := run) e h1 h2
        have hq := cnt_add e
        obtain ⟨o', hm2, q⟩ := ihm (add e' B) (l ++ [(lo + e', .barred)]) i10 i12 i13 (S.set p o) (by omega) ((cov.next L B e' hC e).2.2.2.2 q1) (by simp; omega) hm'
        rw [List.set_set] at hm2 q
        have hs : whL (ev (evF fs (n + 2)) lgC) (evB (evF fs (n + 2)) lgB) (m + 1) (lgT r run lo L B0 p B ((l.length : Nat) + T r run L B) l j10 j12 j13) S =
            whL (ev (evF fs (n + 2)) lgC) (evB (evF fs (n + 2)) lgB) m (lgT r run lo L B0 p (add e' B) (((l ++ [(lo + e', Wd.barred)]).length : Nat) + T r run L (add e' B)) (l ++ [(lo + e', .barred)]) i10 i12 i13) (S.set p o) := by
          have hd : (((l ++ [(lo + e', Wd.barred)]).length : Nat) : Int) + T r run L (add e' B) = (l.length : Nat) + T r run L B := by simp; omega
          rw [hd]
          simp only [whL, hc, e, Option.isSome_some, R.bindS_ok, truth, ht]
        have hp : l ++ sh lo (path r run L B) = l ++ [(lo + e', .barred)] ++ sh lo (path r run L (add e' B)) := by
          rw [path_some e, if_neg h1, if_neg h2]; simp [sh]
        refine ⟨o', hm2, ?_⟩
        rw [hs, hp]
        exact q
theorem s_log (cov : Cov r run C ρ) (cl : CovL r run C) : ∀ k, LogOk r run C ρ k := by
  intro k
  induction k with
  | zero => intro L B lo B' h; omega
  | succ k ih =>
    intro L B lo B' hk hC hw n S p hn hm
    obtain ⟨q, rfl⟩ : ∃ q, n = q + 2 + 1 := ⟨n - 3, by omega⟩
    rw [u12]
    obtain ⟨o1, t1, m1⟩ := s_tries cov (ρ L + 1) L B (by omega) hC (q + 2) S p (by omega) hm
    have hLL2 : lo + L - lo = L := by omega
    simp only [e_int, e_bl, e_non, e_str, e_var, e_con, e_fnv, e_bin, y_bin1, y_bin, e_neg, e_not, y_not, y_notI, e_cmp, y_cmp1, y_cmp, e_chain, y_ch1, y_ch2, y_ch3, e_and, e_or, e_and1, e_or1, e_and2, e_or2, y_and, y_or, e_ite, y_ite, e_tup, y_tup0, y_tup1, y_tup2, y_tup3, y_tup4, y_tup5, e_lst, y_lst, e_idx, y_idx1, y_idx, e_sl, y_sl1, y_sl2, y_sl3, e_call, e_bi, y_bi, e_isi, y_isiI, y_isiB, y_isiB2, y_isiI2, y_isiT, y_isiS, y_isiL, e_lenset, e_meth, y_meth2, e_comp, y_comp, y_mk, y_mkT, m_f, m_t, e_o0, asI_int, e_o1, y_trB, e_c0, e_c1, e_nil, e_cons, y_es, y_con, i_val, y_valT, y_valL, i_rng2, y_rng, i_rng1, enuT_tup, i_enuT, i_zip, y_zip, t_set, y_set, setA_nil, setA_cons, t_par, tgtA_name, tgtA_pair, tgtA_three, t_tgt, t_setI, y_put1, y_put2, t_ret, y_ret, t_retN, t_ifs, y_ifs, t_wh, t_fors, t_ex, y_ex, t_brk, t_cnt, t_pass, t_nil, t_cons, q_nx, q_rt, q_bk, q_ct, q_if, n_if, n_rt, n_nx, g_ok, g_bl, g_int, g_bind, g_bindS, z_bind, z_bindS, z_o, z_if, z_no, List.getElem?_cons_zero, List.getElem?_cons_succ, Option.join_some, List.set_cons_zero, List.set_cons_succ, neg, wipeS, D.same, ix_0, ix_1, ix_2, sl_to, b_add, b_sub, b_mul, b_div, b_mod, b_pow, b_cat, b_catT, b_catL, c_lt, c_le, c_gt, c_ge, c_eqI, c_neI, c_eqS, c_neS, c_eqB, c_neB, c_isN, c_notN, c_memL, c_nmemL, c_memT, c_nmemT, k_lenT, k_lenL, k_lenR, k_lenS, k_intI, k_intB, k_abs, k_tupL, k_tupT, k_max2, k_min2, k_divmod, k_all, k_sorted, k_sum, List.length_cons, List.length_nil, List.length_map, if_true, Bool.true_and, Bool.and_true, Bool.not_true, Bool.not_false, decide_true, Bool.false_eq_true, if_false, Int.reduceLT, Int.reduceLE, Int.reduceNeg, Int.reducePow, Int.reduceAdd, Int.reduceSub, Int.reduceMul, Nat.reduceAdd, Nat.reducePow, Nat.reduceLT, Nat.reduceLeDiff, Int.reduceEq, cond_true, cond_false, Bool.cond_false_right, Bool.cond_false_left, Bool.cond_true_left, Bool.cond_true_right, kVal_eB]
    rw [c_within 7 2 3 B' lo (lo + L) S _ (by simp) (by decide) (by decide) rfl rfl]
    rw [hw]
    have eBB : D.tup (B.map .int) = eB B := rfl
    have hn2 := s_next_of q r 0 L B (eB B) (eB_nmem _) (S.set p o1)
    simp only [e_int, e_bl, e_non, e_str, e_var, e_con, e_fnv, e_bin, y_bin1, y_bin, e_neg, e_not, y_not, y_notI, e_cmp, y_cmp1, y_cmp, e_chain, y_ch1, y_ch2, y_ch3, e_and, e_or, e_and1, e_or1, e_and2, e_or2, y_and, y_or, e_ite, y_ite, e_tup, y_tup0, y_tup1, y_tup2, y_tup3, y_tup4, y_tup5, e_lst, y_lst, e_idx, y_idx1, y_idx, e_sl, y_sl1, y_sl2, y_sl3, e_call, e_bi, y_bi, e_isi, y_isiI, y_isiB, y_isiB2, y_isiI2, y_isiT, y_isiS, y_isiL, e_lenset, e_meth, y_meth2, e_comp, y_comp, y_mk, y_mkT, m_f, m_t, e_o0, asI_int, e_o1, y_trB, e_c0, e_c1, e_nil, e_cons, y_es, y_con, i_val, y_valT, y_valL, i_rng2, y_rng, i_rng1, enuT_tup, i_enuT, i_zip, y_zip, t_set, y_set, setA_nil, setA_cons, t_par, tgtA_name, tgtA_pair, tgtA_three, t_tgt, t_setI, y_put1, y_put2, t_ret, y_ret, t_retN, t_ifs, y_ifs, t_wh, t_fors, t_ex, y_ex, t_brk, t_cnt, t_pass, t_nil, t_cons, q_nx, q_rt, q_bk, q_ct, q_if, n_if, n_rt, n_nx, g_ok, g_bl, g_int, g_bind, g_bindS, z_bind, z_bindS, z_o, z_if, z_no, List.getElem?_cons_zero, List.getElem?_cons_succ, Option.join_some, List.set_cons_zero, List.set_cons_succ, neg, wipeS, D.same, ix_0, ix_1, ix_2, sl_to, b_add, b_sub, b_mul, b_div, b_mod, b_pow, b_cat, b_catT, b_catL, c_lt, c_le, c_gt, c_ge, c_eqI, c_neI, c_eqS, c_neS, c_eqB, c_neB, c_isN, c_notN, c_memL, c_nmemL, c_memT, c_nmemT, k_lenT, k_lenL, k_lenR, k_lenS, k_intI, k_intB, k_abs, k_tupL, k_tupT, k_max2, k_min2, k_divmod, k_all, k_sorted, k_sum, List.length_cons, List.length_nil, List.length_map, if_true, Bool.true_and, Bool.and_true, Bool.not_true, Bool.not_false, decide_true, Bool.false_eq_true, if_false, Int.reduceLT, Int.reduceLE, Int.reduceNeg, Int.reducePow, Int.reduceAdd, Int.reduceSub, Int.reduceMul, Nat.reduceAdd, Nat.reducePow, Nat.reduceLT, Nat.reduceLeDiff, Int.reduceEq, cond_true, cond_false, Bool.cond_false_right, Bool.cond_false_left, Bool.cond_true_left, Bool.cond_true_right, hLL2, eBB, t1, hn2]
    obtain ⟨o2, m2, hh⟩ := lg_run cov cl ih q lo L (eB B') p hk (by omega) fuel B [] none none none (S.set p o1) (by have := cnt_le r L B; have := cov.pl; show _ < 1000000000; omega) hC (by have := cnt_le r L B; have := cov.pl; simp; omega) m1
    rw [List.set_set] at m2 hh
    have e : whB (evF fs (q + 2)) (.cmp .notN (.var 7) (.non)) lgB (lgT r run lo L (eB B') p B ((([] : Lg).length : Nat) + T r run L B) [] none none none) (S.set p o1) = whL (ev (evF fs (q + 2)) lgC) (evB (evF fs (q + 2)) lgB) fuel (lgT r run lo L (eB B') p B ((([] : Lg).length : Nat) + T r run L B) [] none none none) (S.set p o1) := rfl
    unfold lgB lgT at e
    simp only [List.length_nil, Int.natCast_zero, Int.zero_add, eLg, List.map_nil] at e
    rw [e]
    unfold lgB lgT at hh
    simp only [List.length_nil, Int.natCast_zero, Int.zero_add, List.nil_append] at hh
    rw [show (eLg [] : D) = .tup [] from rfl] at hh
    refine ⟨o2, ?_, m2⟩
    rcases hh with hh | ⟨τ', hh, h9⟩
    · rw [hh]
      simp only [e_int, e_bl, e_non, e_str, e_var, e_con, e_fnv, e_bin, y_bin1, y_bin, e_neg, e_not, y_not, y_notI, e_cmp, y_cmp1, y_cmp, e_chain, y_ch1, y_ch2, y_ch3, e_and, e_or, e_and1, e_or1, e_and2, e_or2, y_and, y_or, e_ite, y_ite, e_tup, y_tup0, y_tup1, y_tup2, y_tup3, y_tup4, y_tup5, e_lst, y_lst, e_idx, y_idx1, y_idx, e_sl, y_sl1, y_sl2, y_sl3, e_call, e_bi, y_bi, e_isi, y_isiI, y_isiB, y_isiB2, y_isiI2, y_isiT, y_isiS, y_isiL, e_lenset, e_meth, y_meth2, e_comp, y_comp, y_mk, y_mkT, m_f, m_t, e_o0, asI_int, e_o1, y_trB, e_c0, e_c1, e_nil, e_cons, y_es, y_con, i_val, y_valT, y_valL, i_rng2, y_rng, i_rng1, enuT_tup, i_enuT, i_zip, y_zip, t_set, y_set, setA_nil, setA_cons, t_par, tgtA_name, tgtA_pair, tgtA_three, t_tgt, t_setI, y_put1, y_put2, t_ret, y_ret, t_retN, t_ifs, y_ifs, t_wh, t_fors, t_ex, y_ex, t_brk, t_cnt, t_pass, t_nil, t_cons, q_nx, q_rt, q_bk, q_ct, q_if, n_if, n_rt, n_nx, g_ok, g_bl, g_int, g_bind, g_bindS, z_bind, z_bindS, z_o, z_if, z_no, List.getElem?_cons_zero, List.getElem?_cons_succ, Option.join_some, List.set_cons_zero, List.set_cons_succ, neg, wipeS, D.same, ix_0, ix_1, ix_2, sl_to, b_add, b_sub, b_mul, b_div, b_mod, b_pow, b_cat, b_catT, b_catL, c_lt, c_le, c_gt, c_ge, c_eqI, c_neI, c_eqS, c_neS, c_eqB, c_neB, c_isN, c_notN, c_memL, c_nmemL, c_memT, c_nmemT, k_lenT, k_lenL, k_lenR, k_lenS, k_intI, k_intB, k_abs, k_tupL, k_tupT, k_max2, k_min2, k_divmod, k_all, k_sorted, k_sum, List.length_cons, List.length_nil, List.length_map, if_true, Bool.true_and, Bool.and_true, Bool.not_true, Bool.not_false, decide_true, Bool.false_eq_true, if_false, Int.reduceLT, Int.reduceLE, Int.reduceNeg, Int.reducePow, Int.reduceAdd, Int.reduceSub, Int.reduceMul, Nat.reduceAdd, Nat.reducePow, Nat.reduceLT, Nat.reduceLeDiff, Int.reduceEq, cond_true, cond_false, Bool.cond_false_right, Bool.cond_false_left, Bool.cond_true_left, Bool.cond_true_right]
    · rw [hh]
      simp only [e_int, e_bl, e_non, e_str, e_var, e_con, e_fnv, e_bin, y_bin1, y_bin, e_neg, e_not, y_not, y_notI, e_cmp, y_cmp1, y_cmp, e_chain, y_ch1, y_ch2, y_ch3, e_and, e_or, e_and1, e_or1, e_and2, e_or2, y_and, y_or, e_ite, y_ite, e_tup, y_tup0, y_tup1, y_tup2, y_tup3, y_tup4, y_tup5, e_lst, y_lst, e_idx, y_idx1, y_idx, e_sl, y_sl1, y_sl2, y_sl3, e_call, e_bi, y_bi, e_isi, y_isiI, y_isiB, y_isiB2, y_isiI2, y_isiT, y_isiS, y_isiL, e_lenset, e_meth, y_meth2, e_comp, y_comp, y_mk, y_mkT, m_f, m_t, e_o0, asI_int, e_o1, y_trB, e_c0, e_c1, e_nil, e_cons, y_es, y_con, i_val, y_valT, y_valL, i_rng2, y_rng, i_rng1, enuT_tup, i_enuT, i_zip, y_zip, t_set, y_set, setA_nil, setA_cons, t_par, tgtA_name, tgtA_pair, tgtA_three, t_tgt, t_setI, y_put1, y_put2, t_ret, y_ret, t_retN, t_ifs, y_ifs, t_wh, t_fors, t_ex, y_ex, t_brk, t_cnt, t_pass, t_nil, t_cons, q_nx, q_rt, q_bk, q_ct, q_if, n_if, n_rt, n_nx, g_ok, g_bl, g_int, g_bind, g_bindS, z_bind, z_bindS, z_o, z_if, z_no, List.getElem?_cons_zero, List.getElem?_cons_succ, Option.join_some, List.set_cons_zero, List.set_cons_succ, neg, wipeS, D.same, ix_0, ix_1, ix_2, sl_to, b_add, b_sub, b_mul, b_div, b_mod, b_pow, b_cat, b_catT, b_catL, c_lt, c_le, c_gt, c_ge, c_eqI, c_neI, c_eqS, c_neS, c_eqB, c_neB, c_isN, c_notN, c_memL, c_nmemL, c_memT, c_nmemT, k_lenT, k_lenL, k_lenR, k_lenS, k_intI, k_intB, k_abs, k_tupL, k_tupT, k_max2, k_min2, k_divmod, k_all, k_sorted, k_sum, List.length_cons, List.length_nil, List.length_map, if_true, Bool.true_and, Bool.and_true, Bool.not_true, Bool.not_false, decide_true, Bool.false_eq_true, if_false, Int.reduceLT, Int.reduceLE, Int.reduceNeg, Int.reducePow, Int.reduceAdd, Int.reduceSub, Int.reduceMul, Nat.reduceAdd, Nat.reducePow, Nat.reduceLT, Nat.reduceLeDiff, Int.reduceEq, cond_true, cond_false, Bool.cond_false_right, Bool.cond_false_left, Bool.cond_true_left, Bool.cond_true_right, h9]
end
end Lw
namespace Lw
open PySem L2 Ev
theorem e_dict0 (cl : Nat → List D → Store → R D) (τ : Slots) (S : Store) : ev cl .dict0 τ S = .ok (.loc S.length) (S ++ [.dict []]) := nr rfl
theorem memo_new (val : Ky → Int) (C : List Ky) (S : Store) : Memo val C (S ++ [.dict []]) S.length := ⟨[], by simp [kvOf], by simp, by simp⟩
/-- how many in the row are let -/
def okP (r : Rl) (run : Int) (a : Nat) : Bool := match r.ps[a]? with
  | some e => decide (rowW (r.ps.take a) e ≤ run)
  | none => false
theorem okP_lt {r : Rl} {run : Int} {a : Nat} (h : okP r run a = true) : a < r.ps.length := by
  unfold okP at h
  cases e : r.ps[a]? with
  | none => rw [e] at h; cases h
  | some x => exact (List.getElem?_eq_some_iff.mp e).1
theorem okP_stop (r : Rl) (run : Int) : ∀ (k a : Nat), r.ps.length ≤ a + k → ∃ n, n ≤ k ∧ (∀ i, i < n → okP r run (a + i) = true) ∧ okP r run (a + n) = false
  | 0, a, h => ⟨0, by omega, by intro i hi; omega, by
      cases e : okP r run (a + 0) with
      | false => rfl
      | true => have := okP_lt e; omega⟩
  | k + 1, a, h => by
    cases e : okP r run a with
    | false => exact ⟨0, by omega, by intro i hi; omega, by rw [Nat.add_zero]; exact e⟩
    | true =>
      obtain ⟨n, h1, h2, h3⟩ := okP_stop r run k (a + 1) (by omega)
      refine ⟨n + 1, by omega, fun i hi => ?_, by rw [show a + (n + 1) = a + 1 + n by omega]; exact h3⟩
      cases i with
      | zero => exact e
      | succ i => rw [show a + (i + 1) = a + 1 + i by omega]; exact h2 i (by omega)
theorem rep_suc (n a : Nat) : Nat.repeat (fun a : Nat => a + 1) n a = a + n := by
  induction n with
  | zero => rfl
  | succ n ih => show Nat.repeat _ n a + 1 = _; rw [ih]; omega
theorem s_bars (n : Nat) (r : Rl) (run : Int) (hp : r.ps.length ≤ 4) (S : Store) : ∃ k : Nat, evF fs (n + 2) 11 [eRl r, .int run] S = .ok (.int (k : Nat)) S := by
  rw [u11]
  obtain ⟨k, hk, h1, h2⟩ := okP_stop r run r.ps.length 0 (by omega)
  unfold eRl
  simp only [e_int, e_bl, e_non, e_str, e_var, e_con, e_fnv, e_bin, y_bin1, y_bin, e_neg, e_not, y_not, y_notI, e_cmp, y_cmp1, y_cmp, e_chain, y_ch1, y_ch2, y_ch3, e_and, e_or, e_and1, e_or1, e_and2, e_or2, y_and, y_or, e_ite, y_ite, e_tup, y_tup0, y_tup1, y_tup2, y_tup3, y_tup4, y_tup5, e_lst, y_lst, e_idx, y_idx1, y_idx, e_sl, y_sl1, y_sl2, y_sl3, e_call, e_bi, y_bi, e_isi, y_isiI, y_isiB, y_isiB2, y_isiI2, y_isiT, y_isiS, y_isiL, e_lenset, e_meth, y_meth2, e_comp, y_comp, y_mk, y_mkT, m_f, m_t, e_o0, asI_int, e_o1, y_trB, e_c0, e_c1, e_nil, e_cons, y_es, y_con, i_val, y_valT, y_valL, i_rng2, y_rng, i_rng1, enuT_tup, i_enuT, i_zip, y_zip, t_set, y_set, setA_nil, setA_cons, t_par, tgtA_name, tgtA_pair, tgtA_three, t_tgt, t_setI, y_put1, y_put2, t_ret, y_ret, t_retN, t_ifs, y_ifs, t_wh, t_fors, t_ex, y_ex, t_brk, t_cnt, t_pass, t_nil, t_cons, q_nx, q_rt, q_bk, q_ct, q_if, n_if, n_rt, n_nx, g_ok, g_bl, g_int, g_bind, g_bindS, z_bind, z_bindS, z_o, z_if, z_no, List.getElem?_cons_zero, List.getElem?_cons_succ, Option.join_some, List.set_cons_zero, List.set_cons_succ, neg, getIx, seqOf, lstOf, rd, itemsOf, wipeS, D.same, ix_0, ix_1, ix_2, sl_to, b_add, b_sub, b_mul, b_div, b_mod, b_pow, b_cat, b_catT, b_catL, c_lt, c_le, c_gt, c_ge, c_eqI, c_neI, c_eqS, c_neS, c_eqB, c_neB, c_isN, c_notN, c_memL, c_nmemL, c_memT, c_nmemT, k_lenT, k_lenL, k_lenR, k_lenS, k_intI, k_intB, k_abs, k_tupL, k_tupT, k_max2, k_min2, k_divmod, k_all, k_sorted, k_sum, List.length_cons, List.length_nil, List.length_map, if_true, Bool.true_and, Bool.and_true, Bool.not_true, Bool.not_false, decide_true, Bool.false_eq_true, if_false, Int.reduceLT, Int.reduceLE, Int.reduceNeg, Int.reducePow, Int.reduceAdd, Int.reduceSub, Int.reduceMul, Nat.reduceAdd, Nat.reducePow, Nat.reduceLT, Nat.reduceLeDiff, Int.reduceEq, cond_true, cond_false, Bool.cond_false_right, Bool.cond_false_left, Bool.cond_true_left, Bool.cond_true_right]
  generalize hf : whB _ _ _ _ _ = z
  obtain ⟨τ', rfl, rfl⟩ := whB_run hf (fun (a : Nat) τ => τ = [some (eRl r), some (.int run), some (.int (a : Nat))]) (okP r run) (fun a => a + 1) 0 k (by
    rintro a τ rfl
    unfold eRl
    simp only [e_int, e_bl, e_non, e_str, e_var, e_con, e_fnv, e_bin, y_bin1, y_bin, e_neg, e_not, y_not, y_notI, e_cmp, y_cmp1, y_cmp, e_chain, y_ch1, y_ch2, y_ch3, e_and, e_or, e_and1, e_or1, e_and2, e_or2, y_and, y_or, e_ite, y_ite, e_tup, y_tup0, y_tup1, y_tup2, y_tup3, y_tup4, y_tup5, e_lst, y_lst, e_idx, y_idx1, y_idx, e_sl, y_sl1, y_sl2, y_sl3, e_call, e_bi, y_bi, e_isi, y_isiI, y_isiB, y_isiB2, y_isiI2, y_isiT, y_isiS, y_isiL, e_lenset, e_meth, y_meth2, e_comp, y_comp, y_mk, y_mkT, m_f, m_t, e_o0, asI_int, e_o1, y_trB, e_c0, e_c1, e_nil, e_cons, y_es, y_con, i_val, y_valT, y_valL, i_rng2, y_rng, i_rng1, enuT_tup, i_enuT, i_zip, y_zip, t_set, y_set, setA_nil, setA_cons, t_par, tgtA_name, tgtA_pair, tgtA_three, t_tgt, t_setI, y_put1, y_put2, t_ret, y_ret, t_retN, t_ifs, y_ifs, t_wh, t_fors, t_ex, y_ex, t_brk, t_cnt, t_pass, t_nil, t_cons, q_nx, q_rt, q_bk, q_ct, q_if, n_if, n_rt, n_nx, g_ok, g_bl, g_int, g_bind, g_bindS, z_bind, z_bindS, z_o, z_if, z_no, List.getElem?_cons_zero, List.getElem?_cons_succ, Option.join_some, List.set_cons_zero, List.set_cons_succ, neg, getIx, seqOf, lstOf, rd, itemsOf, wipeS, D.same, ix_0, ix_1, ix_2, sl_to, b_add, b_sub, b_mul, b_div, b_mod, b_pow, b_cat, b_catT, b_catL, c_lt, c_le, c_gt, c_ge, c_eqI, c_neI, c_eqS, c_neS, c_eqB, c_neB, c_isN, c_notN, c_memL, c_nmemL, c_memT, c_nmemT, k_lenT, k_lenL, k_lenR, k_lenS, k_intI, k_intB, k_abs, k_tupL, k_tupT, k_max2, k_min2, k_divmod, k_all, k_sorted, k_sum, List.length_cons, List.length_nil, List.length_map, if_true, Bool.true_and, Bool.and_true, Bool.not_true, Bool.not_false, decide_true, Bool.false_eq_true, if_false, Int.reduceLT, Int.reduceLE, Int.reduceNeg, Int.reducePow, Int.reduceAdd, Int.reduceSub, Int.reduceMul, Nat.reduceAdd, Nat.reducePow, Nat.reduceLT, Nat.reduceLeDiff, Int.reduceEq, cond_true, cond_false, Bool.cond_false_right, Bool.cond_false_left, Bool.cond_true_left, Bool.cond_true_right]
    unfold okP
    by_cases ha : a < r.ps.length
    · have hr := s_row n (r.ps.take a) (.tup ((r.ps.take a).map .int)) (fun i S => by rw [c_memT]) (r.ps[a]) (by rw [List.length_take]; omega) S
      rw [List.getElem?_eq_getElem ha]
      have hd : decide ((a : Int) < (r.ps.length : Nat)) = true := decide_eq_true (by omega)
      simp only [e_int, e_bl, e_non, e_str, e_var, e_con, e_fnv, e_bin, y_bin1, y_bin, e_neg, e_not, y_not, y_notI, e_cmp, y_cmp1, y_cmp, e_chain, y_ch1, y_ch2, y_ch3, e_and, e_or, e_and1, e_or1, e_and2, e_or2, y_and, y_or, e_ite, y_ite, e_tup, y_tup0, y_tup1, y_tup2, y_tup3, y_tup4, y_tup5, e_lst, y_lst, e_idx, y_idx1, y_idx, e_sl, y_sl1, y_sl2, y_sl3, e_call, e_bi, y_bi, e_isi, y_isiI, y_isiB, y_isiB2, y_isiI2, y_isiT, y_isiS, y_isiL, e_lenset, e_meth, y_meth2, e_comp, y_comp, y_mk, y_mkT, m_f, m_t, e_o0, asI_int, e_o1, y_trB, e_c0, e_c1, e_nil, e_cons, y_es, y_con, i_val, y_valT, y_valL, i_rng2, y_rng, i_rng1, enuT_tup, i_enuT, i_zip, y_zip, t_set, y_set, setA_nil, setA_cons, t_par, tgtA_name, tgtA_pair, tgtA_three, t_tgt, t_setI, y_put1, y_put2, t_ret, y_ret, t_retN, t_ifs, y_ifs, t_wh, t_fors, t_ex, y_ex, t_brk, t_cnt, t_pass, t_nil, t_cons, q_nx, q_rt, q_bk, q_ct, q_if, n_if, n_rt, n_nx, g_ok, g_bl, g_int, g_bind, g_bindS, z_bind, z_bindS, z_o, z_if, z_no, List.getElem?_cons_zero, List.getElem?_cons_succ, Option.join_some, List.set_cons_zero, List.set_cons_succ, neg, getIx, seqOf, lstOf, rd, itemsOf, wipeS, D.same, ix_0, ix_1, ix_2, sl_to, b_add, b_sub, b_mul, b_div, b_mod, b_pow, b_cat, b_catT, b_catL, c_lt, c_le, c_gt, c_ge, c_eqI, c_neI, c_eqS, c_neS, c_eqB, c_neB, c_isN, c_notN, c_memL, c_nmemL, c_memT, c_nmemT, k_lenT, k_lenL, k_lenR, k_lenS, k_intI, k_intB, k_abs, k_tupL, k_tupT, k_max2, k_min2, k_divmod, k_all, k_sorted, k_sum, List.length_cons, List.length_nil, List.length_map, if_true, Bool.true_and, Bool.and_true, Bool.not_true, Bool.not_false, decide_true, Bool.false_eq_true, if_false, Int.reduceLT, Int.reduceLE, Int.reduceNeg, Int.reducePow, Int.reduceAdd, Int.reduceSub, Int.reduceMul, Nat.reduceAdd, Nat.reducePow, Nat.reduceLT, Nat.reduceLeDiff, Int.reduceEq, cond_true, cond_false, Bool.cond_false_right, Bool.cond_false_left, Bool.cond_true_left, Bool.cond_true_right, hd, ix_at ha, List.getElem?_map, List.getElem?_eq_getElem ha, Option.map_some, List.length_map, ← List.map_take, hr]
    · have hd : decide ((a : Int) < (r.ps.length : Nat)) = false := decide_eq_false (by omega)
      rw [List.getElem?_eq_none (by omega)]
      simp only [e_int, e_bl, e_non, e_str, e_var, e_con, e_fnv, e_bin, y_bin1, y_bin, e_neg, e_not, y_not, y_notI, e_cmp, y_cmp1, y_cmp, e_chain, y_ch1, y_ch2, y_ch3, e_and, e_or, e_and1, e_or1, e_and2, e_or2, y_and, y_or, e_ite, y_ite, e_tup, y_tup0, y_tup1, y_tup2, y_tup3, y_tup4, y_tup5, e_lst, y_lst, e_idx, y_idx1, y_idx, e_sl, y_sl1, y_sl2, y_sl3, e_call, e_bi, y_bi, e_isi, y_isiI, y_isiB, y_isiB2, y_isiI2, y_isiT, y_isiS, y_isiL, e_lenset, e_meth, y_meth2, e_comp, y_comp, y_mk, y_mkT, m_f, m_t, e_o0, asI_int, e_o1, y_trB, e_c0, e_c1, e_nil, e_cons, y_es, y_con, i_val, y_valT, y_valL, i_rng2, y_rng, i_rng1, enuT_tup, i_enuT, i_zip, y_zip, t_set, y_set, setA_nil, setA_cons, t_par, tgtA_name, tgtA_pair, tgtA_three, t_tgt, t_setI, y_put1, y_put2, t_ret, y_ret, t_retN, t_ifs, y_ifs, t_wh, t_fors, t_ex, y_ex, t_brk, t_cnt, t_pass, t_nil, t_cons, q_nx, q_rt, q_bk, q_ct, q_if, n_if, n_rt, n_nx, g_ok, g_bl, g_int, g_bind, g_bindS, z_bind, z_bindS, z_o, z_if, z_no, List.getElem?_cons_zero, List.getElem?_cons_succ, Option.join_some, List.set_cons_zero, List.set_cons_succ, neg, getIx, seqOf, lstOf, rd, itemsOf, wipeS, D.same, ix_0, ix_1, ix_2, sl_to, b_add, b_sub, b_mul, b_div, b_mod, b_pow, b_cat, b_catT, b_catL, c_lt, c_le, c_gt, c_ge, c_eqI, c_neI, c_eqS, c_neS, c_eqB, c_neB, c_isN, c_notN, c_memL, c_nmemL, c_memT, c_nmemT, k_lenT, k_lenL, k_lenR, k_lenS, k_intI, k_intB, k_abs, k_tupL, k_tupT, k_max2, k_min2, k_divmod, k_all, k_sorted, k_sum, List.length_cons, List.length_nil, List.length_map, if_true, Bool.true_and, Bool.and_true, Bool.not_true, Bool.not_false, decide_true, Bool.false_eq_true, if_false, Int.reduceLT, Int.reduceLE, Int.reduceNeg, Int.reducePow, Int.reduceAdd, Int.reduceSub, Int.reduceMul, Nat.reduceAdd, Nat.reducePow, Nat.reduceLT, Nat.reduceLeDiff, Int.reduceEq, cond_true, cond_false, Bool.cond_false_right, Bool.cond_false_left, Bool.cond_true_left, Bool.cond_true_right, hd]) (by
    rintro a τ rfl -
    refine ⟨_, ?_, rfl⟩
    simp only [e_int, e_bl, e_non, e_str, e_var, e_con, e_fnv, e_bin, y_bin1, y_bin, e_neg, e_not, y_not, y_notI, e_cmp, y_cmp1, y_cmp, e_chain, y_ch1, y_ch2, y_ch3, e_and, e_or, e_and1, e_or1, e_and2, e_or2, y_and, y_or, e_ite, y_ite, e_tup, y_tup0, y_tup1, y_tup2, y_tup3, y_tup4, y_tup5, e_lst, y_lst, e_idx, y_idx1, y_idx, e_sl, y_sl1, y_sl2, y_sl3, e_call, e_bi, y_bi, e_isi, y_isiI, y_isiB, y_isiB2, y_isiI2, y_isiT, y_isiS, y_isiL, e_lenset, e_meth, y_meth2, e_comp, y_comp, y_mk, y_mkT, m_f, m_t, e_o0, asI_int, e_o1, y_trB, e_c0, e_c1, e_nil, e_cons, y_es, y_con, i_val, y_valT, y_valL, i_rng2, y_rng, i_rng1, enuT_tup, i_enuT, i_zip, y_zip, t_set, y_set, setA_nil, setA_cons, t_par, tgtA_name, tgtA_pair, tgtA_three, t_tgt, t_setI, y_put1, y_put2, t_ret, y_ret, t_retN, t_ifs, y_ifs, t_wh, t_fors, t_ex, y_ex, t_brk, t_cnt, t_pass, t_nil, t_cons, q_nx, q_rt, q_bk, q_ct, q_if, n_if, n_rt, n_nx, g_ok, g_bl, g_int, g_bind, g_bindS, z_bind, z_bindS, z_o, z_if, z_no, List.getElem?_cons_zero, List.getElem?_cons_succ, Option.join_some, List.set_cons_zero, List.set_cons_succ, neg, getIx, seqOf, lstOf, rd, itemsOf, wipeS, D.same, ix_0, ix_1, ix_2, sl_to, b_add, b_sub, b_mul, b_div, b_mod, b_pow, b_cat, b_catT, b_catL, c_lt, c_le, c_gt, c_ge, c_eqI, c_neI, c_eqS, c_neS, c_eqB, c_neB, c_isN, c_notN, c_memL, c_nmemL, c_memT, c_nmemT, k_lenT, k_lenL, k_lenR, k_lenS, k_intI, k_intB, k_abs, k_tupL, k_tupT, k_max2, k_min2, k_divmod, k_all, k_sorted, k_sum, List.length_cons, List.length_nil, List.length_map, if_true, Bool.true_and, Bool.and_true, Bool.not_true, Bool.not_false, decide_true, Bool.false_eq_true, if_false, Int.reduceLT, Int.reduceLE, Int.reduceNeg, Int.reducePow, Int.reduceAdd, Int.reduceSub, Int.reduceMul, Nat.reduceAdd, Nat.reducePow, Nat.reduceLT, Nat.reduceLeDiff, Int.reduceEq, cond_true, cond_false, Bool.cond_false_right, Bool.cond_false_left, Bool.cond_true_left, Bool.cond_true_right]
    rfl) (fun i hi => by rw [rep_suc]; exact h1 i hi) (by rw [rep_suc]; exact h2) (by show _ < 1000000000; omega) rfl
  rw [rep_suc]
  refine ⟨0 + k, ?_⟩
  simp only [e_int, e_bl, e_non, e_str, e_var, e_con, e_fnv, e_bin, y_bin1, y_bin, e_neg, e_not, y_not, y_notI, e_cmp, y_cmp1, y_cmp, e_chain, y_ch1, y_ch2, y_ch3, e_and, e_or, e_and1, e_or1, e_and2, e_or2, y_and, y_or, e_ite, y_ite, e_tup, y_tup0, y_tup1, y_tup2, y_tup3, y_tup4, y_tup5, e_lst, y_lst, e_idx, y_idx1, y_idx, e_sl, y_sl1, y_sl2, y_sl3, e_call, e_bi, y_bi, e_isi, y_isiI, y_isiB, y_isiB2, y_isiI2, y_isiT, y_isiS, y_isiL, e_lenset, e_meth, y_meth2, e_comp, y_comp, y_mk, y_mkT, m_f, m_t, e_o0, asI_int, e_o1, y_trB, e_c0, e_c1, e_nil, e_cons, y_es, y_con, i_val, y_valT, y_valL, i_rng2, y_rng, i_rng1, enuT_tup, i_enuT, i_zip, y_zip, t_set, y_set, setA_nil, setA_cons, t_par, tgtA_name, tgtA_pair, tgtA_three, t_tgt, t_setI, y_put1, y_put2, t_ret, y_ret, t_retN, t_ifs, y_ifs, t_wh, t_fors, t_ex, y_ex, t_brk, t_cnt, t_pass, t_nil, t_cons, q_nx, q_rt, q_bk, q_ct, q_if, n_if, n_rt, n_nx, g_ok, g_bl, g_int, g_bind, g_bindS, z_bind, z_bindS, z_o, z_if, z_no, List.getElem?_cons_zero, List.getElem?_cons_succ, Option.join_some, List.set_cons_zero, List.set_cons_succ, neg, getIx, seqOf, lstOf, rd, itemsOf, wipeS, D.same, ix_0, ix_1, ix_2, sl_to, b_add, b_sub, b_mul, b_div, b_mod, b_pow, b_cat, b_catT, b_catL, c_lt, c_le, c_gt, c_ge, c_eqI, c_neI, c_eqS, c_neS, c_eqB, c_neB, c_isN, c_notN, c_memL, c_nmemL, c_memT, c_nmemT, k_lenT, k_lenL, k_lenR, k_lenS, k_intI, k_intB, k_abs, k_tupL, k_tupT, k_max2, k_min2, k_divmod, k_all, k_sorted, k_sum, List.length_cons, List.length_nil, List.length_map, if_true, Bool.true_and, Bool.and_true, Bool.not_true, Bool.not_false, decide_true, Bool.false_eq_true, if_false, Int.reduceLT, Int.reduceLE, Int.reduceNeg, Int.reducePow, Int.reduceAdd, Int.reduceSub, Int.reduceMul, Nat.reduceAdd, Nat.reducePow, Nat.reduceLT, Nat.reduceLeDiff, Int.reduceEq, cond_true, cond_false, Bool.cond_false_right, Bool.cond_false_left, Bool.cond_true_left, Bool.cond_true_right]
theorem s_can (n : Nat) (r : Rl) (run : Int) (hp : r.ps.length ≤ 4) (S : Store) : ∃ g : Bool, evF fs (n + 3) 15 [eRl r, .int run] S = .ok (.bl g) S := by
  obtain ⟨k, hk⟩ := s_bars n r run hp S
  refine ⟨((k : Nat) : Int) == (r.ps.length : Nat), ?_⟩
  rw [u15]
  unfold eRl at hk ⊢
  simp only [e_int, e_bl, e_non, e_str, e_var, e_con, e_fnv, e_bin, y_bin1, y_bin, e_neg, e_not, y_not, y_notI, e_cmp, y_cmp1, y_cmp, e_chain, y_ch1, y_ch2, y_ch3, e_and, e_or, e_and1, e_or1, e_and2, e_or2, y_and, y_or, e_ite, y_ite, e_tup, y_tup0, y_tup1, y_tup2, y_tup3, y_tup4, y_tup5, e_lst, y_lst, e_idx, y_idx1, y_idx, e_sl, y_sl1, y_sl2, y_sl3, e_call, e_bi, y_bi, e_isi, y_isiI, y_isiB, y_isiB2, y_isiI2, y_isiT, y_isiS, y_isiL, e_lenset, e_meth, y_meth2, e_comp, y_comp, y_mk, y_mkT, m_f, m_t, e_o0, asI_int, e_o1, y_trB, e_c0, e_c1, e_nil, e_cons, y_es, y_con, i_val, y_valT, y_valL, i_rng2, y_rng, i_rng1, enuT_tup, i_enuT, i_zip, y_zip, t_set, y_set, setA_nil, setA_cons, t_par, tgtA_name, tgtA_pair, tgtA_three, t_tgt, t_setI, y_put1, y_put2, t_ret, y_ret, t_retN, t_ifs, y_ifs, t_wh, t_fors, t_ex, y_ex, t_brk, t_cnt, t_pass, t_nil, t_cons, q_nx, q_rt, q_bk, q_ct, q_if, n_if, n_rt, n_nx, g_ok, g_bl, g_int, g_bind, g_bindS, z_bind, z_bindS, z_o, z_if, z_no, List.getElem?_cons_zero, List.getElem?_cons_succ, Option.join_some, List.set_cons_zero, List.set_cons_succ, neg, getIx, seqOf, lstOf, rd, itemsOf, wipeS, D.same, ix_0, ix_1, ix_2, sl_to, b_add, b_sub, b_mul, b_div, b_mod, b_pow, b_cat, b_catT, b_catL, c_lt, c_le, c_gt, c_ge, c_eqI, c_neI, c_eqS, c_neS, c_eqB, c_neB, c_isN, c_notN, c_memL, c_nmemL, c_memT, c_nmemT, k_lenT, k_lenL, k_lenR, k_lenS, k_intI, k_intB, k_abs, k_tupL, k_tupT, k_max2, k_min2, k_divmod, k_all, k_sorted, k_sum, List.length_cons, List.length_nil, List.length_map, if_true, Bool.true_and, Bool.and_true, Bool.not_true, Bool.not_false, decide_true, Bool.false_eq_true, if_false, Int.reduceLT, Int.reduceLE, Int.reduceNeg, Int.reducePow, Int.reduceAdd, Int.reduceSub, Int.reduceMul, Nat.reduceAdd, Nat.reducePow, Nat.reduceLT, Nat.reduceLeDiff, Int.reduceEq, cond_true, cond_false, Bool.cond_false_right, Bool.cond_false_left, Bool.cond_true_left, Bool.cond_true_right, hk]
section
variable {r : Rl} {run : Int} {C : List Ky} {ρ : Int → Nat}
theorem s_worst (cov : Cov r run C ρ) (m : Int) (hC : (m, []) ∈ C) (hR : okR r = true) (hm : 1 ≤ m ∧ m ≤ MOST) (hr : 0 ≤ run ∧ run ≤ 2) (n : Nat) (hn : ρ m + 5 ≤ n + 3) (S : Store) :
    ∃ o, evF fs (n + 4) 13 [eRl r, .int m, .int run] S = .ok (.int (T r run m [])) (S ++ [o]) := by
  rw [u13]
  obtain ⟨o, t1, m1⟩ := s_tries cov (ρ m + 1) m [] (by omega) hC (n + 3) (S ++ [.dict []]) S.length hn (memo_new _ _ _)
  refine ⟨o, ?_⟩
  simp only [eB, List.map_nil] at t1
  simp only [e_int, e_bl, e_non, e_str, e_var, e_con, e_fnv, e_bin, y_bin1, y_bin, e_neg, e_not, y_not, y_notI, e_cmp, y_cmp1, y_cmp, e_chain, y_ch1, y_ch2, y_ch3, e_and, e_or, e_and1, e_or1, e_and2, e_or2, y_and, y_or, e_ite, y_ite, e_tup, y_tup0, y_tup1, y_tup2, y_tup3, y_tup4, y_tup5, e_lst, y_lst, e_idx, y_idx1, y_idx, e_sl, y_sl1, y_sl2, y_sl3, e_call, e_bi, y_bi, e_isi, y_isiI, y_isiB, y_isiB2, y_isiI2, y_isiT, y_isiS, y_isiL, e_lenset, e_meth, y_meth2, e_comp, y_comp, y_mk, y_mkT, m_f, m_t, e_o0, asI_int, e_o1, y_trB, e_c0, e_c1, e_nil, e_cons, y_es, y_con, i_val, y_valT, y_valL, i_rng2, y_rng, i_rng1, enuT_tup, i_enuT, i_zip, y_zip, t_set, y_set, setA_nil, setA_cons, t_par, tgtA_name, tgtA_pair, tgtA_three, t_tgt, t_setI, y_put1, y_put2, t_ret, y_ret, t_retN, t_ifs, y_ifs, t_wh, t_fors, t_ex, y_ex, t_brk, t_cnt, t_pass, t_nil, t_cons, q_nx, q_rt, q_bk, q_ct, q_if, n_if, n_rt, n_nx, g_ok, g_bl, g_int, g_bind, g_bindS, z_bind, z_bindS, z_o, z_if, z_no, List.getElem?_cons_zero, List.getElem?_cons_succ, Option.join_some, List.set_cons_zero, List.set_cons_succ, neg, wipeS, D.same, ix_0, ix_1, ix_2, sl_to, b_add, b_sub, b_mul, b_div, b_mod, b_pow, b_cat, b_catT, b_catL, c_lt, c_le, c_gt, c_ge, c_eqI, c_neI, c_eqS, c_neS, c_eqB, c_neB, c_isN, c_notN, c_memL, c_nmemL, c_memT, c_nmemT, k_lenT, k_lenL, k_lenR, k_lenS, k_intI, k_intB, k_abs, k_tupL, k_tupT, k_max2, k_min2, k_divmod, k_all, k_sorted, k_sum, List.length_cons, List.length_nil, List.length_map, if_true, Bool.true_and, Bool.and_true, Bool.not_true, Bool.not_false, decide_true, Bool.false_eq_true, if_false, Int.reduceLT, Int.reduceLE, Int.reduceNeg, Int.reducePow, Int.reduceAdd, Int.reduceSub, Int.reduceMul, Nat.reduceAdd, Nat.reducePow, Nat.reduceLT, Nat.reduceLeDiff, Int.reduceEq, cond_true, cond_false, Bool.cond_false_right, Bool.cond_false_left, Bool.cond_true_left, Bool.cond_true_right, s_need_rule n r hR, s_need_length (n + 1) m hm, s_need_run (n + 1) run hr, e_dict0, t1]
  simp
theorem s_wlog (cov : Cov r run C ρ) (cl : CovL r run C) (m : Int) (hC : (m, []) ∈ C) (hR : okR r = true) (hm : 1 ≤ m ∧ m ≤ MOST) (hr : 0 ≤ run ∧ run ≤ 2) (n : Nat) (hn : ρ m + 7 ≤ n + 3) (S : Store) :
    ∃ o, evF fs (n + 4) 14 [eRl r, .int m, .int run] S = .ok (eLg (path r run m [])) (S ++ [o]) := by
  rw [u14]
  obtain ⟨o, t1, m1⟩ := s_log cov cl (ρ m + 1) m [] 0 [] (by omega) hC rfl (n + 3) (S ++ [.dict []]) S.length hn (memo_new _ _ _)
  refine ⟨o, ?_⟩
  have e : sh 0 (path r run m []) = path r run m [] := by simp [sh]
  rw [e, Int.zero_add] at t1
  simp only [eB, List.map_nil] at t1
  simp only [e_int, e_bl, e_non, e_str, e_var, e_con, e_fnv, e_bin, y_bin1, y_bin, e_neg, e_not, y_not, y_notI, e_cmp, y_cmp1, y_cmp, e_chain, y_ch1, y_ch2, y_ch3, e_and, e_or, e_and1, e_or1, e_and2, e_or2, y_and, y_or, e_ite, y_ite, e_tup, y_tup0, y_tup1, y_tup2, y_tup3, y_tup4, y_tup5, e_lst, y_lst, e_idx, y_idx1, y_idx, e_sl, y_sl1, y_sl2, y_sl3, e_call, e_bi, y_bi, e_isi, y_isiI, y_isiB, y_isiB2, y_isiI2, y_isiT, y_isiS, y_isiL, e_lenset, e_meth, y_meth2, e_comp, y_comp, y_mk, y_mkT, m_f, m_t, e_o0, asI_int, e_o1, y_trB, e_c0, e_c1, e_nil, e_cons, y_es, y_con, i_val, y_valT, y_valL, i_rng2, y_rng, i_rng1, enuT_tup, i_enuT, i_zip, y_zip, t_set, y_set, setA_nil, setA_cons, t_par, tgtA_name, tgtA_pair, tgtA_three, t_tgt, t_setI, y_put1, y_put2, t_ret, y_ret, t_retN, t_ifs, y_ifs, t_wh, t_fors, t_ex, y_ex, t_brk, t_cnt, t_pass, t_nil, t_cons, q_nx, q_rt, q_bk, q_ct, q_if, n_if, n_rt, n_nx, g_ok, g_bl, g_int, g_bind, g_bindS, z_bind, z_bindS, z_o, z_if, z_no, List.getElem?_cons_zero, List.getElem?_cons_succ, Option.join_some, List.set_cons_zero, List.set_cons_succ, neg, wipeS, D.same, ix_0, ix_1, ix_2, sl_to, b_add, b_sub, b_mul, b_div, b_mod, b_pow, b_cat, b_catT, b_catL, c_lt, c_le, c_gt, c_ge, c_eqI, c_neI, c_eqS, c_neS, c_eqB, c_neB, c_isN, c_notN, c_memL, c_nmemL, c_memT, c_nmemT, k_lenT, k_lenL, k_lenR, k_lenS, k_intI, k_intB, k_abs, k_tupL, k_tupT, k_max2, k_min2, k_divmod, k_all, k_sorted, k_sum, List.length_cons, List.length_nil, List.length_map, if_true, Bool.true_and, Bool.and_true, Bool.not_true, Bool.not_false, decide_true, Bool.false_eq_true, if_false, Int.reduceLT, Int.reduceLE, Int.reduceNeg, Int.reducePow, Int.reduceAdd, Int.reduceSub, Int.reduceMul, Nat.reduceAdd, Nat.reducePow, Nat.reduceLT, Nat.reduceLeDiff, Int.reduceEq, cond_true, cond_false, Bool.cond_false_right, Bool.cond_false_left, Bool.cond_true_left, Bool.cond_true_right, s_need_rule n r hR, s_need_length (n + 1) m hm, s_need_run (n + 1) run hr, e_dict0, t1]
  simp
theorem s_lopenN (cov : Cov r run C ρ) (m : Int) (hC : (m, []) ∈ C) (hR : okR r = true) (hm : 1 ≤ m ∧ m ≤ 200) (hr : 0 ≤ run ∧ run ≤ 2) (n : Nat) (hn : ρ m + 5 ≤ n + 3) (S : Store) :
    ∃ o, evF fs (n + 4) 16 [eRl r, .int m, .int run] S = .ok (.int (Op r run m [])) (S ++ [o]) := by
  rw [u16]
  obtain ⟨o, t1, m1⟩ := s_open cov (ρ m + 1) m [] (by omega) hC (n + 3) (S ++ [.dict []]) S.length hn (memo_new _ _ _)
  obtain ⟨g, hg⟩ := s_can n r run cov.pl S
  refine ⟨o, ?_⟩
  have hd : decide (m > 200) = false := decide_eq_false (by omega)
  simp only [eB, List.map_nil] at t1
  have hm2 : m ≤ MOST := by have : MOST = 1000000000000000000000000000000 := rfl; omega
  cases g <;>
  simp only [e_int, e_bl, e_non, e_str, e_var, e_con, e_fnv, e_bin, y_bin1, y_bin, e_neg, e_not, y_not, y_notI, e_cmp, y_cmp1, y_cmp, e_chain, y_ch1, y_ch2, y_ch3, e_and, e_or, e_and1, e_or1, e_and2, e_or2, y_and, y_or, e_ite, y_ite, e_tup, y_tup0, y_tup1, y_tup2, y_tup3, y_tup4, y_tup5, e_lst, y_lst, e_idx, y_idx1, y_idx, e_sl, y_sl1, y_sl2, y_sl3, e_call, e_bi, y_bi, e_isi, y_isiI, y_isiB, y_isiB2, y_isiI2, y_isiT, y_isiS, y_isiL, e_lenset, e_meth, y_meth2, e_comp, y_comp, y_mk, y_mkT, m_f, m_t, e_o0, asI_int, e_o1, y_trB, e_c0, e_c1, e_nil, e_cons, y_es, y_con, i_val, y_valT, y_valL, i_rng2, y_rng, i_rng1, enuT_tup, i_enuT, i_zip, y_zip, t_set, y_set, setA_nil, setA_cons, t_par, tgtA_name, tgtA_pair, tgtA_three, t_tgt, t_setI, y_put1, y_put2, t_ret, y_ret, t_retN, t_ifs, y_ifs, t_wh, t_fors, t_ex, y_ex, t_brk, t_cnt, t_pass, t_nil, t_cons, q_nx, q_rt, q_bk, q_ct, q_if, n_if, n_rt, n_nx, g_ok, g_bl, g_int, g_bind, g_bindS, z_bind, z_bindS, z_o, z_if, z_no, List.getElem?_cons_zero, List.getElem?_cons_succ, Option.join_some, List.set_cons_zero, List.set_cons_succ, neg, wipeS, D.same, ix_0, ix_1, ix_2, sl_to, b_add, b_sub, b_mul, b_div, b_mod, b_pow, b_cat, b_catT, b_catL, c_lt, c_le, c_gt, c_ge, c_eqI, c_neI, c_eqS, c_neS, c_eqB, c_neB, c_isN, c_notN, c_memL, c_nmemL, c_memT, c_nmemT, k_lenT, k_lenL, k_lenR, k_lenS, k_intI, k_intB, k_abs, k_tupL, k_tupT, k_max2, k_min2, k_divmod, k_all, k_sorted, k_sum, List.length_cons, List.length_nil, List.length_map, if_true, Bool.true_and, Bool.and_true, Bool.not_true, Bool.not_false, decide_true, Bool.false_eq_true, if_false, Int.reduceLT, Int.reduceLE, Int.reduceNeg, Int.reducePow, Int.reduceAdd, Int.reduceSub, Int.reduceMul, Nat.reduceAdd, Nat.reducePow, Nat.reduceLT, Nat.reduceLeDiff, Int.reduceEq, cond_true, cond_false, Bool.cond_false_right, Bool.cond_false_left, Bool.cond_true_left, Bool.cond_true_right, s_need_rule n r hR, s_need_length (n + 1) m ⟨hm.1, hm2⟩, s_need_run (n + 1) run hr, e_dict0, hg, hd, t1] <;>
  simp
end
end Lw
namespace Lw
open PySem L2 Ev
theorem s_lrow (n : Nat) (bs : List Int) (Bd : D) (hB : ∀ i S, cmpop .mem (.int i) Bd S = .ok (.bl (decide (i ∈ bs))) S) (e : Int) (hb : bs.length < 1000) (S : Store) : evF fs (n + 1) 21 [Bd, .int e] S = .ok (.int (rowW bs e)) S := by
  rw [u21]
  simp only [e_int, e_bl, e_non, e_str, e_var, e_con, e_fnv, e_bin, y_bin1, y_bin, e_neg, e_not, y_not, y_notI, e_cmp, y_cmp1, y_cmp, e_chain, y_ch1, y_ch2, y_ch3, e_and, e_or, e_and1, e_or1, e_and2, e_or2, y_and, y_or, e_ite, y_ite, e_tup, y_tup0, y_tup1, y_tup2, y_tup3, y_tup4, y_tup5, e_lst, y_lst, e_idx, y_idx1, y_idx, e_sl, y_sl1, y_sl2, y_sl3, e_call, e_bi, y_bi, e_isi, y_isiI, y_isiB, y_isiB2, y_isiI2, y_isiT, y_isiS, y_isiL, e_lenset, e_meth, y_meth2, e_comp, y_comp, y_mk, y_mkT, m_f, m_t, e_o0, asI_int, e_o1, y_trB, e_c0, e_c1, e_nil, e_cons, y_es, y_con, i_val, y_valT, y_valL, i_rng2, y_rng, i_rng1, enuT_tup, i_enuT, i_zip, y_zip, t_set, y_set, setA_nil, setA_cons, t_par, tgtA_name, tgtA_pair, tgtA_three, t_tgt, t_setI, y_put1, y_put2, t_ret, y_ret, t_retN, t_ifs, y_ifs, t_wh, t_fors, t_ex, y_ex, t_brk, t_cnt, t_pass, t_nil, t_cons, q_nx, q_rt, q_bk, q_ct, q_if, n_if, n_rt, n_nx, g_ok, g_bl, g_int, g_bind, g_bindS, z_bind, z_bindS, z_o, z_if, z_no, List.getElem?_cons_zero, List.getElem?_cons_succ, Option.join_some, List.set_cons_zero, List.set_cons_succ, neg, getIx, seqOf, lstOf, rd, itemsOf, wipeS, D.same, ix_0, ix_1, ix_2, sl_to, b_add, b_sub, b_mul, b_div, b_mod, b_pow, b_cat, b_catT, b_catL, c_lt, c_le, c_gt, c_ge, c_eqI, c_neI, c_eqS, c_neS, c_eqB, c_neB, c_isN, c_notN, c_memL, c_nmemL, c_memT, c_nmemT, k_lenT, k_lenL, k_lenR, k_lenS, k_intI, k_intB, k_abs, k_tupL, k_tupT, k_max2, k_min2, k_divmod, k_all, k_sorted, k_sum, List.length_cons, List.length_nil, List.length_map, if_true, Bool.true_and, Bool.and_true, Bool.not_true, Bool.not_false, decide_true, Bool.false_eq_true, if_false, Int.reduceLT, Int.reduceLE, Int.reduceNeg, Int.reducePow, Int.reduceAdd, Int.reduceSub, Int.reduceMul, Nat.reduceAdd, Nat.reducePow, Nat.reduceLT, Nat.reduceLeDiff, Int.reduceEq, cond_true, cond_false, Bool.cond_false_right, Bool.cond_false_left, Bool.cond_true_left, Bool.cond_true_right]
  generalize hf : whB _ _ _ _ _ = z
  obtain ⟨τ', rfl, rfl⟩ := whB_run hf (fun (a : Int × Int) τ => τ = [some Bd, some (.int e), some (.int a.1), some (.int a.2), some (.int (e + 1))]) (fun a => decide (a.2 ∈ bs)) (fun a => (a.1 + 1, a.2 - 1)) (1, e - 1) (dns bs e) (by
    rintro a τ rfl
    simp only [e_int, e_bl, e_non, e_str, e_var, e_con, e_fnv, e_bin, y_bin1, y_bin, e_neg, e_not, y_not, y_notI, e_cmp, y_cmp1, y_cmp, e_chain, y_ch1, y_ch2, y_ch3, e_and, e_or, e_and1, e_or1, e_and2, e_or2, y_and, y_or, e_ite, y_ite, e_tup, y_tup0, y_tup1, y_tup2, y_tup3, y_tup4, y_tup5, e_lst, y_lst, e_idx, y_idx1, y_idx, e_sl, y_sl1, y_sl2, y_sl3, e_call, e_bi, y_bi, e_isi, y_isiI, y_isiB, y_isiB2, y_isiI2, y_isiT, y_isiS, y_isiL, e_lenset, e_meth, y_meth2, e_comp, y_comp, y_mk, y_mkT, m_f, m_t, e_o0, asI_int, e_o1, y_trB, e_c0, e_c1, e_nil, e_cons, y_es, y_con, i_val, y_valT, y_valL, i_rng2, y_rng, i_rng1, enuT_tup, i_enuT, i_zip, y_zip, t_set, y_set, setA_nil, setA_cons, t_par, tgtA_name, tgtA_pair, tgtA_three, t_tgt, t_setI, y_put1, y_put2, t_ret, y_ret, t_retN, t_ifs, y_ifs, t_wh, t_fors, t_ex, y_ex, t_brk, t_cnt, t_pass, t_nil, t_cons, q_nx, q_rt, q_bk, q_ct, q_if, n_if, n_rt, n_nx, g_ok, g_bl, g_int, g_bind, g_bindS, z_bind, z_bindS, z_o, z_if, z_no, List.getElem?_cons_zero, List.getElem?_cons_succ, Option.join_some, List.set_cons_zero, List.set_cons_succ, neg, getIx, seqOf, lstOf, rd, itemsOf, wipeS, D.same, ix_0, ix_1, ix_2, sl_to, b_add, b_sub, b_mul, b_div, b_mod, b_pow, b_cat, b_catT, b_catL, c_lt, c_le, c_gt, c_ge, c_eqI, c_neI, c_eqS, c_neS, c_eqB, c_neB, c_isN, c_notN, c_memL, c_nmemL, c_memT, c_nmemT, k_lenT, k_lenL, k_lenR, k_lenS, k_intI, k_intB, k_abs, k_tupL, k_tupT, k_max2, k_min2, k_divmod, k_all, k_sorted, k_sum, List.length_cons, List.length_nil, List.length_map, if_true, Bool.true_and, Bool.and_true, Bool.not_true, Bool.not_false, decide_true, Bool.false_eq_true, if_false, Int.reduceLT, Int.reduceLE, Int.reduceNeg, Int.reducePow, Int.reduceAdd, Int.reduceSub, Int.reduceMul, Nat.reduceAdd, Nat.reducePow, Nat.reduceLT, Nat.reduceLeDiff, Int.reduceEq, cond_true, cond_false, Bool.cond_false_right, Bool.cond_false_left, Bool.cond_true_left, Bool.cond_true_right, hB]) (by
    rintro a τ rfl -
    refine ⟨_, ?_, rfl⟩
    simp only [e_int, e_bl, e_non, e_str, e_var, e_con, e_fnv, e_bin, y_bin1, y_bin, e_neg, e_not, y_not, y_notI, e_cmp, y_cmp1, y_cmp, e_chain, y_ch1, y_ch2, y_ch3, e_and, e_or, e_and1, e_or1, e_and2, e_or2, y_and, y_or, e_ite, y_ite, e_tup, y_tup0, y_tup1, y_tup2, y_tup3, y_tup4, y_tup5, e_lst, y_lst, e_idx, y_idx1, y_idx, e_sl, y_sl1, y_sl2, y_sl3, e_call, e_bi, y_bi, e_isi, y_isiI, y_isiB, y_isiB2, y_isiI2, y_isiT, y_isiS, y_isiL, e_lenset, e_meth, y_meth2, e_comp, y_comp, y_mk, y_mkT, m_f, m_t, e_o0, asI_int, e_o1, y_trB, e_c0, e_c1, e_nil, e_cons, y_es, y_con, i_val, y_valT, y_valL, i_rng2, y_rng, i_rng1, enuT_tup, i_enuT, i_zip, y_zip, t_set, y_set, setA_nil, setA_cons, t_par, tgtA_name, tgtA_pair, tgtA_three, t_tgt, t_setI, y_put1, y_put2, t_ret, y_ret, t_retN, t_ifs, y_ifs, t_wh, t_fors, t_ex, y_ex, t_brk, t_cnt, t_pass, t_nil, t_cons, q_nx, q_rt, q_bk, q_ct, q_if, n_if, n_rt, n_nx, g_ok, g_bl, g_int, g_bind, g_bindS, z_bind, z_bindS, z_o, z_if, z_no, List.getElem?_cons_zero, List.getElem?_cons_succ, Option.join_some, List.set_cons_zero, List.set_cons_succ, neg, getIx, seqOf, lstOf, rd, itemsOf, wipeS, D.same, ix_0, ix_1, ix_2, sl_to, b_add, b_sub, b_mul, b_div, b_mod, b_pow, b_cat, b_catT, b_catL, c_lt, c_le, c_gt, c_ge, c_eqI, c_neI, c_eqS, c_neS, c_eqB, c_neB, c_isN, c_notN, c_memL, c_nmemL, c_memT, c_nmemT, k_lenT, k_lenL, k_lenR, k_lenS, k_intI, k_intB, k_abs, k_tupL, k_tupT, k_max2, k_min2, k_divmod, k_all, k_sorted, k_sum, List.length_cons, List.length_nil, List.length_map, if_true, Bool.true_and, Bool.and_true, Bool.not_true, Bool.not_false, decide_true, Bool.false_eq_true, if_false, Int.reduceLT, Int.reduceLE, Int.reduceNeg, Int.reducePow, Int.reduceAdd, Int.reduceSub, Int.reduceMul, Nat.reduceAdd, Nat.reducePow, Nat.reduceLT, Nat.reduceLeDiff, Int.reduceEq, cond_true, cond_false, Bool.cond_false_right, Bool.cond_false_left, Bool.cond_true_left, Bool.cond_true_right]) (fun i hi => by rw [rep_pairS]; exact decide_eq_true (dns_in hi)) (by rw [rep_pairS]; exact decide_eq_false (dns_out bs e)) (by have := dns_lt bs e; show _ < 1000000000; omega) rfl
  rw [rep_pairS]
  simp only [e_int, e_bl, e_non, e_str, e_var, e_con, e_fnv, e_bin, y_bin1, y_bin, e_neg, e_not, y_not, y_notI, e_cmp, y_cmp1, y_cmp, e_chain, y_ch1, y_ch2, y_ch3, e_and, e_or, e_and1, e_or1, e_and2, e_or2, y_and, y_or, e_ite, y_ite, e_tup, y_tup0, y_tup1, y_tup2, y_tup3, y_tup4, y_tup5, e_lst, y_lst, e_idx, y_idx1, y_idx, e_sl, y_sl1, y_sl2, y_sl3, e_call, e_bi, y_bi, e_isi, y_isiI, y_isiB, y_isiB2, y_isiI2, y_isiT, y_isiS, y_isiL, e_lenset, e_meth, y_meth2, e_comp, y_comp, y_mk, y_mkT, m_f, m_t, e_o0, asI_int, e_o1, y_trB, e_c0, e_c1, e_nil, e_cons, y_es, y_con, i_val, y_valT, y_valL, i_rng2, y_rng, i_rng1, enuT_tup, i_enuT, i_zip, y_zip, t_set, y_set, setA_nil, setA_cons, t_par, tgtA_name, tgtA_pair, tgtA_three, t_tgt, t_setI, y_put1, y_put2, t_ret, y_ret, t_retN, t_ifs, y_ifs, t_wh, t_fors, t_ex, y_ex, t_brk, t_cnt, t_pass, t_nil, t_cons, q_nx, q_rt, q_bk, q_ct, q_if, n_if, n_rt, n_nx, g_ok, g_bl, g_int, g_bind, g_bindS, z_bind, z_bindS, z_o, z_if, z_no, List.getElem?_cons_zero, List.getElem?_cons_succ, Option.join_some, List.set_cons_zero, List.set_cons_succ, neg, getIx, seqOf, lstOf, rd, itemsOf, wipeS, D.same, ix_0, ix_1, ix_2, sl_to, b_add, b_sub, b_mul, b_div, b_mod, b_pow, b_cat, b_catT, b_catL, c_lt, c_le, c_gt, c_ge, c_eqI, c_neI, c_eqS, c_neS, c_eqB, c_neB, c_isN, c_notN, c_memL, c_nmemL, c_memT, c_nmemT, k_lenT, k_lenL, k_lenR, k_lenS, k_intI, k_intB, k_abs, k_tupL, k_tupT, k_max2, k_min2, k_divmod, k_all, k_sorted, k_sum, List.length_cons, List.length_nil, List.length_map, if_true, Bool.true_and, Bool.and_true, Bool.not_true, Bool.not_false, decide_true, Bool.false_eq_true, if_false, Int.reduceLT, Int.reduceLE, Int.reduceNeg, Int.reducePow, Int.reduceAdd, Int.reduceSub, Int.reduceMul, Nat.reduceAdd, Nat.reducePow, Nat.reduceLT, Nat.reduceLeDiff, Int.reduceEq, cond_true, cond_false, Bool.cond_false_right, Bool.cond_false_left, Bool.cond_true_left, Bool.cond_true_right]
  generalize hf : whB _ _ _ _ _ = z
  obtain ⟨τ', rfl, rfl⟩ := whB_run hf (fun (a : Int × Int) τ => τ = [some Bd, some (.int e), some (.int a.1), some (.int (e - 1 - (dns bs e : Int))), some (.int a.2)]) (fun a => decide (a.2 ∈ bs)) (fun a => (a.1 + 1, a.2 + 1)) (1 + (dns bs e : Int), e + 1) (ups bs e) (by
    rintro a τ rfl
    simp only [e_int, e_bl, e_non, e_str, e_var, e_con, e_fnv, e_bin, y_bin1, y_bin, e_neg, e_not, y_not, y_notI, e_cmp, y_cmp1, y_cmp, e_chain, y_ch1, y_ch2, y_ch3, e_and, e_or, e_and1, e_or1, e_and2, e_or2, y_and, y_or, e_ite, y_ite, e_tup, y_tup0, y_tup1, y_tup2, y_tup3, y_tup4, y_tup5, e_lst, y_lst, e_idx, y_idx1, y_idx, e_sl, y_sl1, y_sl2, y_sl3, e_call, e_bi, y_bi, e_isi, y_isiI, y_isiB, y_isiB2, y_isiI2, y_isiT, y_isiS, y_isiL, e_lenset, e_meth, y_meth2, e_comp, y_comp, y_mk, y_mkT, m_f, m_t, e_o0, asI_int, e_o1, y_trB, e_c0, e_c1, e_nil, e_cons, y_es, y_con, i_val, y_valT, y_valL, i_rng2, y_rng, i_rng1, enuT_tup, i_enuT, i_zip, y_zip, t_set, y_set, setA_nil, setA_cons, t_par, tgtA_name, tgtA_pair, tgtA_three, t_tgt, t_setI, y_put1, y_put2, t_ret, y_ret, t_retN, t_ifs, y_ifs, t_wh, t_fors, t_ex, y_ex, t_brk, t_cnt, t_pass, t_nil, t_cons, q_nx, q_rt, q_bk, q_ct, q_if, n_if, n_rt, n_nx, g_ok, g_bl, g_int, g_bind, g_bindS, z_bind, z_bindS, z_o, z_if, z_no, List.getElem?_cons_zero, List.getElem?_cons_succ, Option.join_some, List.set_cons_zero, List.set_cons_succ, neg, getIx, seqOf, lstOf, rd, itemsOf, wipeS, D.same, ix_0, ix_1, ix_2, sl_to, b_add, b_sub, b_mul, b_div, b_mod, b_pow, b_cat, b_catT, b_catL, c_lt, c_le, c_gt, c_ge, c_eqI, c_neI, c_eqS, c_neS, c_eqB, c_neB, c_isN, c_notN, c_memL, c_nmemL, c_memT, c_nmemT, k_lenT, k_lenL, k_lenR, k_lenS, k_intI, k_intB, k_abs, k_tupL, k_tupT, k_max2, k_min2, k_divmod, k_all, k_sorted, k_sum, List.length_cons, List.length_nil, List.length_map, if_true, Bool.true_and, Bool.and_true, Bool.not_true, Bool.not_false, decide_true, Bool.false_eq_true, if_false, Int.reduceLT, Int.reduceLE, Int.reduceNeg, Int.reducePow, Int.reduceAdd, Int.reduceSub, Int.reduceMul, Nat.reduceAdd, Nat.reducePow, Nat.reduceLT, Nat.reduceLeDiff, Int.reduceEq, cond_true, cond_false, Bool.cond_false_right, Bool.cond_false_left, Bool.cond_true_left, Bool.cond_true_right, hB]) (by
    rintro a τ rfl -
    refine ⟨_, ?_, rfl⟩
    simp only [e_int, e_bl, e_non, e_str, e_var, e_con, e_fnv, e_bin, y_bin1, y_bin, e_neg, e_not, y_not, y_notI, e_cmp, y_cmp1, y_cmp, e_chain, y_ch1, y_ch2, y_ch3, e_and, e_or, e_and1, e_or1, e_and2, e_or2, y_and, y_or, e_ite, y_ite, e_tup, y_tup0, y_tup1, y_tup2, y_tup3, y_tup4, y_tup5, e_lst, y_lst, e_idx, y_idx1, y_idx, e_sl, y_sl1, y_sl2, y_sl3, e_call, e_bi, y_bi, e_isi, y_isiI, y_isiB, y_isiB2, y_isiI2, y_isiT, y_isiS, y_isiL, e_lenset, e_meth, y_meth2, e_comp, y_comp, y_mk, y_mkT, m_f, m_t, e_o0, asI_int, e_o1, y_trB, e_c0, e_c1, e_nil, e_cons, y_es, y_con, i_val, y_valT, y_valL, i_rng2, y_rng, i_rng1, enuT_tup, i_enuT, i_zip, y_zip, t_set, y_set, setA_nil, setA_cons, t_par, tgtA_name, tgtA_pair, tgtA_three, t_tgt, t_setI, y_put1, y_put2, t_ret, y_ret, t_retN, t_ifs, y_ifs, t_wh, t_fors, t_ex, y_ex, t_brk, t_cnt, t_pass, t_nil, t_cons, q_nx, q_rt, q_bk, q_ct, q_if, n_if, n_rt, n_nx, g_ok, g_bl, g_int, g_bind, g_bindS, z_bind, z_bindS, z_o, z_if, z_no, List.getElem?_cons_zero, List.getElem?_cons_succ, Option.join_some, List.set_cons_zero, List.set_cons_succ, neg, getIx, seqOf, lstOf, rd, itemsOf, wipeS, D.same, ix_0, ix_1, ix_2, sl_to, b_add, b_sub, b_mul, b_div, b_mod, b_pow, b_cat, b_catT, b_catL, c_lt, c_le, c_gt, c_ge, c_eqI, c_neI, c_eqS, c_neS, c_eqB, c_neB, c_isN, c_notN, c_memL, c_nmemL, c_memT, c_nmemT, k_lenT, k_lenL, k_lenR, k_lenS, k_intI, k_intB, k_abs, k_tupL, k_tupT, k_max2, k_min2, k_divmod, k_all, k_sorted, k_sum, List.length_cons, List.length_nil, List.length_map, if_true, Bool.true_and, Bool.and_true, Bool.not_true, Bool.not_false, decide_true, Bool.false_eq_true, if_false, Int.reduceLT, Int.reduceLE, Int.reduceNeg, Int.reducePow, Int.reduceAdd, Int.reduceSub, Int.reduceMul, Nat.reduceAdd, Nat.reducePow, Nat.reduceLT, Nat.reduceLeDiff, Int.reduceEq, cond_true, cond_false, Bool.cond_false_right, Bool.cond_false_left, Bool.cond_true_left, Bool.cond_true_right]) (fun i hi => by rw [rep_pairA]; exact decide_eq_true (ups_in hi)) (by rw [rep_pairA]; exact decide_eq_false (ups_out bs e)) (by have := ups_lt bs e; show _ < 1000000000; omega) rfl
  rw [rep_pairA]
  simp only [e_int, e_bl, e_non, e_str, e_var, e_con, e_fnv, e_bin, y_bin1, y_bin, e_neg, e_not, y_not, y_notI, e_cmp, y_cmp1, y_cmp, e_chain, y_ch1, y_ch2, y_ch3, e_and, e_or, e_and1, e_or1, e_and2, e_or2, y_and, y_or, e_ite, y_ite, e_tup, y_tup0, y_tup1, y_tup2, y_tup3, y_tup4, y_tup5, e_lst, y_lst, e_idx, y_idx1, y_idx, e_sl, y_sl1, y_sl2, y_sl3, e_call, e_bi, y_bi, e_isi, y_isiI, y_isiB, y_isiB2, y_isiI2, y_isiT, y_isiS, y_isiL, e_lenset, e_meth, y_meth2, e_comp, y_comp, y_mk, y_mkT, m_f, m_t, e_o0, asI_int, e_o1, y_trB, e_c0, e_c1, e_nil, e_cons, y_es, y_con, i_val, y_valT, y_valL, i_rng2, y_rng, i_rng1, enuT_tup, i_enuT, i_zip, y_zip, t_set, y_set, setA_nil, setA_cons, t_par, tgtA_name, tgtA_pair, tgtA_three, t_tgt, t_setI, y_put1, y_put2, t_ret, y_ret, t_retN, t_ifs, y_ifs, t_wh, t_fors, t_ex, y_ex, t_brk, t_cnt, t_pass, t_nil, t_cons, q_nx, q_rt, q_bk, q_ct, q_if, n_if, n_rt, n_nx, g_ok, g_bl, g_int, g_bind, g_bindS, z_bind, z_bindS, z_o, z_if, z_no, List.getElem?_cons_zero, List.getElem?_cons_succ, Option.join_some, List.set_cons_zero, List.set_cons_succ, neg, getIx, seqOf, lstOf, rd, itemsOf, wipeS, D.same, ix_0, ix_1, ix_2, sl_to, b_add, b_sub, b_mul, b_div, b_mod, b_pow, b_cat, b_catT, b_catL, c_lt, c_le, c_gt, c_ge, c_eqI, c_neI, c_eqS, c_neS, c_eqB, c_neB, c_isN, c_notN, c_memL, c_nmemL, c_memT, c_nmemT, k_lenT, k_lenL, k_lenR, k_lenS, k_intI, k_intB, k_abs, k_tupL, k_tupT, k_max2, k_min2, k_divmod, k_all, k_sorted, k_sum, List.length_cons, List.length_nil, List.length_map, if_true, Bool.true_and, Bool.and_true, Bool.not_true, Bool.not_false, decide_true, Bool.false_eq_true, if_false, Int.reduceLT, Int.reduceLE, Int.reduceNeg, Int.reducePow, Int.reduceAdd, Int.reduceSub, Int.reduceMul, Nat.reduceAdd, Nat.reducePow, Nat.reduceLT, Nat.reduceLeDiff, Int.reduceEq, cond_true, cond_false, Bool.cond_false_right, Bool.cond_false_left, Bool.cond_true_left, Bool.cond_true_right, rowW]
  congr 2
  omega
theorem s_lnext (n : Nat) (r : Rl) (lo hi : Int) (bs : List Int) (Bd : D) (hB : ∀ i S, cmpop .nmem (.int i) Bd S = .ok (.bl (!decide (i ∈ bs))) S) (S : Store) : evF fs (n + 1) 22 [eRl r, .int lo, .int hi, Bd] S = .ok (eO (nxt r lo hi bs)) S := by
  rw [u22]
  unfold nxt
  rw [show eRl r = .tup [.int r.n, .bl r.up, .tup (r.ps.map .int)] from rfl]
  by_cases h : hi - lo ≤ r.n
  · rw [if_pos h]
    simp only [e_int, e_bl, e_non, e_str, e_var, e_con, e_fnv, e_bin, y_bin1, y_bin, e_neg, e_not, y_not, y_notI, e_cmp, y_cmp1, y_cmp, e_chain, y_ch1, y_ch2, y_ch3, e_and, e_or, e_and1, e_or1, e_and2, e_or2, y_and, y_or, e_ite, y_ite, e_tup, y_tup0, y_tup1, y_tup2, y_tup3, y_tup4, y_tup5, e_lst, y_lst, e_idx, y_idx1, y_idx, e_sl, y_sl1, y_sl2, y_sl3, e_call, e_bi, y_bi, e_isi, y_isiI, y_isiB, y_isiB2, y_isiI2, y_isiT, y_isiS, y_isiL, e_lenset, e_meth, y_meth2, e_comp, y_comp, y_mk, y_mkT, m_f, m_t, e_o0, asI_int, e_o1, y_trB, e_c0, e_c1, e_nil, e_cons, y_es, y_con, i_val, y_valT, y_valL, i_rng2, y_rng, i_rng1, enuT_tup, i_enuT, i_zip, y_zip, t_set, y_set, setA_nil, setA_cons, t_par, tgtA_name, tgtA_pair, tgtA_three, t_tgt, t_setI, y_put1, y_put2, t_ret, y_ret, t_retN, t_ifs, y_ifs, t_wh, t_fors, t_ex, y_ex, t_brk, t_cnt, t_pass, t_nil, t_cons, q_nx, q_rt, q_bk, q_ct, q_if, n_if, n_rt, n_nx, g_ok, g_bl, g_int, g_bind, g_bindS, z_bind, z_bindS, z_o, z_if, z_no, List.getElem?_cons_zero, List.getElem?_cons_succ, Option.join_some, List.set_cons_zero, List.set_cons_succ, neg, getIx, seqOf, lstOf, rd, itemsOf, wipeS, D.same, ix_0, ix_1, ix_2, sl_to, b_add, b_sub, b_mul, b_div, b_mod, b_pow, b_cat, b_catT, b_catL, c_lt, c_le, c_gt, c_ge, c_eqI, c_neI, c_eqS, c_neS, c_eqB, c_neB, c_isN, c_notN, c_memL, c_nmemL, c_memT, c_nmemT, k_lenT, k_lenL, k_lenR, k_lenS, k_intI, k_intB, k_abs, k_tupL, k_tupT, k_max2, k_min2, k_divmod, k_all, k_sorted, k_sum, List.length_cons, List.length_nil, List.length_map, if_true, Bool.true_and, Bool.and_true, Bool.not_true, Bool.not_false, decide_true, Bool.false_eq_true, if_false, Int.reduceLT, Int.reduceLE, Int.reduceNeg, Int.reducePow, Int.reduceAdd, Int.reduceSub, Int.reduceMul, Nat.reduceAdd, Nat.reducePow, Nat.reduceLT, Nat.reduceLeDiff, Int.reduceEq, cond_true, cond_false, Bool.cond_false_right, Bool.cond_false_left, Bool.cond_true_left, Bool.cond_true_right, h]
    rfl
  · rw [if_neg h]
    simp only [e_int, e_bl, e_non, e_str, e_var, e_con, e_fnv, e_bin, y_bin1, y_bin, e_neg, e_not, y_not, y_notI, e_cmp, y_cmp1, y_cmp, e_chain, y_ch1, y_ch2, y_ch3, e_and, e_or, e_and1, e_or1, e_and2, e_or2, y_and, y_or, e_ite, y_ite, e_tup, y_tup0, y_tup1, y_tup2, y_tup3, y_tup4, y_tup5, e_lst, y_lst, e_idx, y_idx1, y_idx, e_sl, y_sl1, y_sl2, y_sl3, e_call, e_bi, y_bi, e_isi, y_isiI, y_isiB, y_isiB2, y_isiI2, y_isiT, y_isiS, y_isiL, e_lenset, e_meth, y_meth2, e_comp, y_comp, y_mk, y_mkT, m_f, m_t, e_o0, asI_int, e_o1, y_trB, e_c0, e_c1, e_nil, e_cons, y_es, y_con, i_val, y_valT, y_valL, i_rng2, y_rng, i_rng1, enuT_tup, i_enuT, i_zip, y_zip, t_set, y_set, setA_nil, setA_cons, t_par, tgtA_name, tgtA_pair, tgtA_three, t_tgt, t_setI, y_put1, y_put2, t_ret, y_ret, t_retN, t_ifs, y_ifs, t_wh, t_fors, t_ex, y_ex, t_brk, t_cnt, t_pass, t_nil, t_cons, q_nx, q_rt, q_bk, q_ct, q_if, n_if, n_rt, n_nx, g_ok, g_bl, g_int, g_bind, g_bindS, z_bind, z_bindS, z_o, z_if, z_no, List.getElem?_cons_zero, List.getElem?_cons_succ, Option.join_some, List.set_cons_zero, List.set_cons_succ, neg, getIx, seqOf, lstOf, rd, itemsOf, wipeS, D.same, ix_0, ix_1, ix_2, sl_to, b_add, b_sub, b_mul, b_div, b_mod, b_pow, b_cat, b_catT, b_catL, c_lt, c_le, c_gt, c_ge, c_eqI, c_neI, c_eqS, c_neS, c_eqB, c_neB, c_isN, c_notN, c_memL, c_nmemL, c_memT, c_nmemT, k_lenT, k_lenL, k_lenR, k_lenS, k_intI, k_intB, k_abs, k_tupL, k_tupT, k_max2, k_min2, k_divmod, k_all, k_sorted, k_sum, List.length_cons, List.length_nil, List.length_map, if_true, Bool.true_and, Bool.and_true, Bool.not_true, Bool.not_false, decide_true, Bool.false_eq_true, if_false, Int.reduceLT, Int.reduceLE, Int.reduceNeg, Int.reducePow, Int.reduceAdd, Int.reduceSub, Int.reduceMul, Nat.reduceAdd, Nat.reducePow, Nat.reduceLT, Nat.reduceLeDiff, Int.reduceEq, cond_true, cond_false, Bool.cond_false_right, Bool.cond_false_left, Bool.cond_true_left, Bool.cond_true_right, h, decide_false]
    have em : lo + (hi - lo) / 2 + (bif r.up then (hi - lo) % 2 else 0) = mid r lo hi := by
      unfold mid b2
      cases r.up
      · simp
      · simp; omega
    rw [em]
    generalize hf : compB _ _ _ _ _ _ _ = z
    have q := compB_run hf (fun x => decide (lo < mid r lo hi + x) && decide (mid r lo hi + x < hi)) (fun x => .int (mid r lo hi + x)) (by
      rintro x -
      refine ⟨_, rfl, ?_, fun _ => ?_⟩
      · simp only [e_int, e_bl, e_non, e_str, e_var, e_con, e_fnv, e_bin, y_bin1, y_bin, e_neg, e_not, y_not, y_notI, e_cmp, y_cmp1, y_cmp, e_chain, y_ch1, y_ch2, y_ch3, e_and, e_or, e_and1, e_or1, e_and2, e_or2, y_and, y_or, e_ite, y_ite, e_tup, y_tup0, y_tup1, y_tup2, y_tup3, y_tup4, y_tup5, e_lst, y_lst, e_idx, y_idx1, y_idx, e_sl, y_sl1, y_sl2, y_sl3, e_call, e_bi, y_bi, e_isi, y_isiI, y_isiB, y_isiB2, y_isiI2, y_isiT, y_isiS, y_isiL, e_lenset, e_meth, y_meth2, e_comp, y_comp, y_mk, y_mkT, m_f, m_t, e_o0, asI_int, e_o1, y_trB, e_c0, e_c1, e_nil, e_cons, y_es, y_con, i_val, y_valT, y_valL, i_rng2, y_rng, i_rng1, enuT_tup, i_enuT, i_zip, y_zip, t_set, y_set, setA_nil, setA_cons, t_par, tgtA_name, tgtA_pair, tgtA_three, t_tgt, t_setI, y_put1, y_put2, t_ret, y_ret, t_retN, t_ifs, y_ifs, t_wh, t_fors, t_ex, y_ex, t_brk, t_cnt, t_pass, t_nil, t_cons, q_nx, q_rt, q_bk, q_ct, q_if, n_if, n_rt, n_nx, g_ok, g_bl, g_int, g_bind, g_bindS, z_bind, z_bindS, z_o, z_if, z_no, List.getElem?_cons_zero, List.getElem?_cons_succ, Option.join_some, List.set_cons_zero, List.set_cons_succ, neg, getIx, seqOf, lstOf, rd, itemsOf, wipeS, D.same, ix_0, ix_1, ix_2, sl_to, b_add, b_sub, b_mul, b_div, b_mod, b_pow, b_cat, b_catT, b_catL, c_lt, c_le, c_gt, c_ge, c_eqI, c_neI, c_eqS, c_neS, c_eqB, c_neB, c_isN, c_notN, c_memL, c_nmemL, c_memT, c_nmemT, k_lenT, k_lenL, k_lenR, k_lenS, k_intI, k_intB, k_abs, k_tupL, k_tupT, k_max2, k_min2, k_divmod, k_all, k_sorted, k_sum, List.length_cons, List.length_nil, List.length_map, if_true, Bool.true_and, Bool.and_true, Bool.not_true, Bool.not_false, decide_true, Bool.false_eq_true, if_false, Int.reduceLT, Int.reduceLE, Int.reduceNeg, Int.reducePow, Int.reduceAdd, Int.reduceSub, Int.reduceMul, Nat.reduceAdd, Nat.reducePow, Nat.reduceLT, Nat.reduceLeDiff, Int.reduceEq, cond_true, cond_false, Bool.cond_false_right, Bool.cond_false_left, Bool.cond_true_left, Bool.cond_true_right]
        have e1 : decide (0 < mid r lo hi + x - lo) = decide (lo < mid r lo hi + x) := by congr 1; apply propext; omega
        have e2 : decide (mid r lo hi + x - lo < hi - lo) = decide (mid r lo hi + x < hi) := by congr 1; apply propext; omega
        rw [e1, e2]
      · simp only [e_int, e_bl, e_non, e_str, e_var, e_con, e_fnv, e_bin, y_bin1, y_bin, e_neg, e_not, y_not, y_notI, e_cmp, y_cmp1, y_cmp, e_chain, y_ch1, y_ch2, y_ch3, e_and, e_or, e_and1, e_or1, e_and2, e_or2, y_and, y_or, e_ite, y_ite, e_tup, y_tup0, y_tup1, y_tup2, y_tup3, y_tup4, y_tup5, e_lst, y_lst, e_idx, y_idx1, y_idx, e_sl, y_sl1, y_sl2, y_sl3, e_call, e_bi, y_bi, e_isi, y_isiI, y_isiB, y_isiB2, y_isiI2, y_isiT, y_isiS, y_isiL, e_lenset, e_meth, y_meth2, e_comp, y_comp, y_mk, y_mkT, m_f, m_t, e_o0, asI_int, e_o1, y_trB, e_c0, e_c1, e_nil, e_cons, y_es, y_con, i_val, y_valT, y_valL, i_rng2, y_rng, i_rng1, enuT_tup, i_enuT, i_zip, y_zip, t_set, y_set, setA_nil, setA_cons, t_par, tgtA_name, tgtA_pair, tgtA_three, t_tgt, t_setI, y_put1, y_put2, t_ret, y_ret, t_retN, t_ifs, y_ifs, t_wh, t_fors, t_ex, y_ex, t_brk, t_cnt, t_pass, t_nil, t_cons, q_nx, q_rt, q_bk, q_ct, q_if, n_if, n_rt, n_nx, g_ok, g_bl, g_int, g_bind, g_bindS, z_bind, z_bindS, z_o, z_if, z_no, List.getElem?_cons_zero, List.getElem?_cons_succ, Option.join_some, List.set_cons_zero, List.set_cons_succ, neg, getIx, seqOf, lstOf, rd, itemsOf, wipeS, D.same, ix_0, ix_1, ix_2, sl_to, b_add, b_sub, b_mul, b_div, b_mod, b_pow, b_cat, b_catT, b_catL, c_lt, c_le, c_gt, c_ge, c_eqI, c_neI, c_eqS, c_neS, c_eqB, c_neB, c_isN, c_notN, c_memL, c_nmemL, c_memT, c_nmemT, k_lenT, k_lenL, k_lenR, k_lenS, k_intI, k_intB, k_abs, k_tupL, k_tupT, k_max2, k_min2, k_divmod, k_all, k_sorted, k_sum, List.length_cons, List.length_nil, List.length_map, if_true, Bool.true_and, Bool.and_true, Bool.not_true, Bool.not_false, decide_true, Bool.false_eq_true, if_false, Int.reduceLT, Int.reduceLE, Int.reduceNeg, Int.reducePow, Int.reduceAdd, Int.reduceSub, Int.reduceMul, Nat.reduceAdd, Nat.reducePow, Nat.reduceLT, Nat.reduceLeDiff, Int.reduceEq, cond_true, cond_false, Bool.cond_false_right, Bool.cond_false_left, Bool.cond_true_left, Bool.cond_true_right])
    subst q
    have e3 : List.map (fun x => D.int (mid r lo hi + x)) (r.ps.filter fun x => decide (lo < mid r lo hi + x) && decide (mid r lo hi + x < hi)) = ((r.ps.map (mid r lo hi + ·)).filter fun e => decide (lo < e) && decide (e < hi)).map .int := by
      rw [List.filter_map, List.map_map]; rfl
    rw [e3]
    simp only [e_int, e_bl, e_non, e_str, e_var, e_con, e_fnv, e_bin, y_bin1, y_bin, e_neg, e_not, y_not, y_notI, e_cmp, y_cmp1, y_cmp, e_chain, y_ch1, y_ch2, y_ch3, e_and, e_or, e_and1, e_or1, e_and2, e_or2, y_and, y_or, e_ite, y_ite, e_tup, y_tup0, y_tup1, y_tup2, y_tup3, y_tup4, y_tup5, e_lst, y_lst, e_idx, y_idx1, y_idx, e_sl, y_sl1, y_sl2, y_sl3, e_call, e_bi, y_bi, e_isi, y_isiI, y_isiB, y_isiB2, y_isiI2, y_isiT, y_isiS, y_isiL, e_lenset, e_meth, y_meth2, e_comp, y_comp, y_mk, y_mkT, m_f, m_t, e_o0, asI_int, e_o1, y_trB, e_c0, e_c1, e_nil, e_cons, y_es, y_con, i_val, y_valT, y_valL, i_rng2, y_rng, i_rng1, enuT_tup, i_enuT, i_zip, y_zip, t_set, y_set, setA_nil, setA_cons, t_par, tgtA_name, tgtA_pair, tgtA_three, t_tgt, t_setI, y_put1, y_put2, t_ret, y_ret, t_retN, t_ifs, y_ifs, t_wh, t_fors, t_ex, y_ex, t_brk, t_cnt, t_pass, t_nil, t_cons, q_nx, q_rt, q_bk, q_ct, q_if, n_if, n_rt, n_nx, g_ok, g_bl, g_int, g_bind, g_bindS, z_bind, z_bindS, z_o, z_if, z_no, List.getElem?_cons_zero, List.getElem?_cons_succ, Option.join_some, List.set_cons_zero, List.set_cons_succ, neg, getIx, seqOf, lstOf, rd, itemsOf, wipeS, D.same, ix_0, ix_1, ix_2, sl_to, b_add, b_sub, b_mul, b_div, b_mod, b_pow, b_cat, b_catT, b_catL, c_lt, c_le, c_gt, c_ge, c_eqI, c_neI, c_eqS, c_neS, c_eqB, c_neB, c_isN, c_notN, c_memL, c_nmemL, c_memT, c_nmemT, k_lenT, k_lenL, k_lenR, k_lenS, k_intI, k_intB, k_abs, k_tupL, k_tupT, k_max2, k_min2, k_divmod, k_all, k_sorted, k_sum, List.length_cons, List.length_nil, List.length_map, if_true, Bool.true_and, Bool.and_true, Bool.not_true, Bool.not_false, decide_true, Bool.false_eq_true, if_false, Int.reduceLT, Int.reduceLE, Int.reduceNeg, Int.reducePow, Int.reduceAdd, Int.reduceSub, Int.reduceMul, Nat.reduceAdd, Nat.reducePow, Nat.reduceLT, Nat.reduceLeDiff, Int.reduceEq, cond_true, cond_false, Bool.cond_false_right, Bool.cond_false_left, Bool.cond_true_left, Bool.cond_true_right]
    generalize hf : compB _ _ _ _ _ _ _ = z
    have q := compB_run hf (fun e => !decide (e ∈ bs)) (fun e => .int e) (by
      rintro x -
      refine ⟨_, rfl, ?_, fun _ => ?_⟩
      · simp only [e_int, e_bl, e_non, e_str, e_var, e_con, e_fnv, e_bin, y_bin1, y_bin, e_neg, e_not, y_not, y_notI, e_cmp, y_cmp1, y_cmp, e_chain, y_ch1, y_ch2, y_ch3, e_and, e_or, e_and1, e_or1, e_and2, e_or2, y_and, y_or, e_ite, y_ite, e_tup, y_tup0, y_tup1, y_tup2, y_tup3, y_tup4, y_tup5, e_lst, y_lst, e_idx, y_idx1, y_idx, e_sl, y_sl1, y_sl2, y_sl3, e_call, e_bi, y_bi, e_isi, y_isiI, y_isiB, y_isiB2, y_isiI2, y_isiT, y_isiS, y_isiL, e_lenset, e_meth, y_meth2, e_comp, y_comp, y_mk, y_mkT, m_f, m_t, e_o0, asI_int, e_o1, y_trB, e_c0, e_c1, e_nil, e_cons, y_es, y_con, i_val, y_valT, y_valL, i_rng2, y_rng, i_rng1, enuT_tup, i_enuT, i_zip, y_zip, t_set, y_set, setA_nil, setA_cons, t_par, tgtA_name, tgtA_pair, tgtA_three, t_tgt, t_setI, y_put1, y_put2, t_ret, y_ret, t_retN, t_ifs, y_ifs, t_wh, t_fors, t_ex, y_ex, t_brk, t_cnt, t_pass, t_nil, t_cons, q_nx, q_rt, q_bk, q_ct, q_if, n_if, n_rt, n_nx, g_ok, g_bl, g_int, g_bind, g_bindS, z_bind, z_bindS, z_o, z_if, z_no, List.getElem?_cons_zero, List.getElem?_cons_succ, Option.join_some, List.set_cons_zero, List.set_cons_succ, neg, getIx, seqOf, lstOf, rd, itemsOf, wipeS, D.same, ix_0, ix_1, ix_2, sl_to, b_add, b_sub, b_mul, b_div, b_mod, b_pow, b_cat, b_catT, b_catL, c_lt, c_le, c_gt, c_ge, c_eqI, c_neI, c_eqS, c_neS, c_eqB, c_neB, c_isN, c_notN, c_memL, c_nmemL, c_memT, c_nmemT, k_lenT, k_lenL, k_lenR, k_lenS, k_intI, k_intB, k_abs, k_tupL, k_tupT, k_max2, k_min2, k_divmod, k_all, k_sorted, k_sum, List.length_cons, List.length_nil, List.length_map, if_true, Bool.true_and, Bool.and_true, Bool.not_true, Bool.not_false, decide_true, Bool.false_eq_true, if_false, Int.reduceLT, Int.reduceLE, Int.reduceNeg, Int.reducePow, Int.reduceAdd, Int.reduceSub, Int.reduceMul, Nat.reduceAdd, Nat.reducePow, Nat.reduceLT, Nat.reduceLeDiff, Int.reduceEq, cond_true, cond_false, Bool.cond_false_right, Bool.cond_false_left, Bool.cond_true_left, Bool.cond_true_right, hB]
      · simp only [e_int, e_bl, e_non, e_str, e_var, e_con, e_fnv, e_bin, y_bin1, y_bin, e_neg, e_not, y_not, y_notI, e_cmp, y_cmp1, y_cmp, e_chain, y_ch1, y_ch2, y_ch3, e_and, e_or, e_and1, e_or1, e_and2, e_or2, y_and, y_or, e_ite, y_ite, e_tup, y_tup0, y_tup1, y_tup2, y_tup3, y_tup4, y_tup5, e_lst, y_lst, e_idx, y_idx1, y_idx, e_sl, y_sl1, y_sl2, y_sl3, e_call, e_bi, y_bi, e_isi, y_isiI, y_isiB, y_isiB2, y_isiI2, y_isiT, y_isiS, y_isiL, e_lenset, e_meth, y_meth2, e_comp, y_comp, y_mk, y_mkT, m_f, m_t, e_o0, asI_int, e_o1, y_trB, e_c0, e_c1, e_nil, e_cons, y_es, y_con, i_val, y_valT, y_valL, i_rng2, y_rng, i_rng1, enuT_tup, i_enuT, i_zip, y_zip, t_set, y_set, setA_nil, setA_cons, t_par, tgtA_name, tgtA_pair, tgtA_three, t_tgt, t_setI, y_put1, y_put2, t_ret, y_ret, t_retN, t_ifs, y_ifs, t_wh, t_fors, t_ex, y_ex, t_brk, t_cnt, t_pass, t_nil, t_cons, q_nx, q_rt, q_bk, q_ct, q_if, n_if, n_rt, n_nx, g_ok, g_bl, g_int, g_bind, g_bindS, z_bind, z_bindS, z_o, z_if, z_no, List.getElem?_cons_zero, List.getElem?_cons_succ, Option.join_some, List.set_cons_zero, List.set_cons_succ, neg, getIx, seqOf, lstOf, rd, itemsOf, wipeS, D.same, ix_0, ix_1, ix_2, sl_to, b_add, b_sub, b_mul, b_div, b_mod, b_pow, b_cat, b_catT, b_catL, c_lt, c_le, c_gt, c_ge, c_eqI, c_neI, c_eqS, c_neS, c_eqB, c_neB, c_isN, c_notN, c_memL, c_nmemL, c_memT, c_nmemT, k_lenT, k_lenL, k_lenR, k_lenS, k_intI, k_intB, k_abs, k_tupL, k_tupT, k_max2, k_min2, k_divmod, k_all, k_sorted, k_sum, List.length_cons, List.length_nil, List.length_map, if_true, Bool.true_and, Bool.and_true, Bool.not_true, Bool.not_false, decide_true, Bool.false_eq_true, if_false, Int.reduceLT, Int.reduceLE, Int.reduceNeg, Int.reducePow, Int.reduceAdd, Int.reduceSub, Int.reduceMul, Nat.reduceAdd, Nat.reducePow, Nat.reduceLT, Nat.reduceLeDiff, Int.reduceEq, cond_true, cond_false, Bool.cond_false_right, Bool.cond_false_left, Bool.cond_true_left, Bool.cond_true_right])
    subst q
    rw [List.filter_filter]
    have e4 : (fun a => (!decide (a ∈ bs)) && (decide (lo < a) && decide (a < hi))) = fun e => decide (lo < e) && decide (e < hi) && !decide (e ∈ bs) := by
      funext a
      cases decide (a ∈ bs) <;> cases decide (lo < a) <;> cases decide (a < hi) <;> rfl
    rw [e4]
    rw [← List.head?_filter]
    generalize (r.ps.map (mid r lo hi + ·)).filter (fun e => decide (lo < e) && decide (e < hi) && !decide (e ∈ bs)) = xs
    cases xs with
    | nil =>
      simp only [e_int, e_bl, e_non, e_str, e_var, e_con, e_fnv, e_bin, y_bin1, y_bin, e_neg, e_not, y_not, y_notI, e_cmp, y_cmp1, y_cmp, e_chain, y_ch1, y_ch2, y_ch3, e_and, e_or, e_and1, e_or1, e_and2, e_or2, y_and, y_or, e_ite, y_ite, e_tup, y_tup0, y_tup1, y_tup2, y_tup3, y_tup4, y_tup5, e_lst, y_lst, e_idx, y_idx1, y_idx, e_sl, y_sl1, y_sl2, y_sl3, e_call, e_bi, y_bi, e_isi, y_isiI, y_isiB, y_isiB2, y_isiI2, y_isiT, y_isiS, y_isiL, e_lenset, e_meth, y_meth2, e_comp, y_comp, y_mk, y_mkT, m_f, m_t, e_o0, asI_int, e_o1, y_trB, e_c0, e_c1, e_nil, e_cons, y_es, y_con, i_val, y_valT, y_valL, i_rng2, y_rng, i_rng1, enuT_tup, i_enuT, i_zip, y_zip, t_set, y_set, setA_nil, setA_cons, t_par, tgtA_name, tgtA_pair, tgtA_three, t_tgt, t_setI, y_put1, y_put2, t_ret, y_ret, t_retN, t_ifs, y_ifs, t_wh, t_fors, t_ex, y_ex, t_brk, t_cnt, t_pass, t_nil, t_cons, q_nx, q_rt, q_bk, q_ct, q_if, n_if, n_rt, n_nx, g_ok, g_bl, g_int, g_bind, g_bindS, z_bind, z_bindS, z_o, z_if, z_no, List.getElem?_cons_zero, List.getElem?_cons_succ, Option.join_some, List.set_cons_zero, List.set_cons_succ, neg, getIx, seqOf, lstOf, rd, itemsOf, wipeS, D.same, ix_0, ix_1, ix_2, sl_to, b_add, b_sub, b_mul, b_div, b_mod, b_pow, b_cat, b_catT, b_catL, c_lt, c_le, c_gt, c_ge, c_eqI, c_neI, c_eqS, c_neS, c_eqB, c_neB, c_isN, c_notN, c_memL, c_nmemL, c_memT, c_nmemT, k_lenT, k_lenL, k_lenR, k_lenS, k_intI, k_intB, k_abs, k_tupL, k_tupT, k_max2, k_min2, k_divmod, k_all, k_sorted, k_sum, List.length_cons, List.length_nil, List.length_map, if_true, Bool.true_and, Bool.and_true, Bool.not_true, Bool.not_false, decide_true, Bool.false_eq_true, if_false, Int.reduceLT, Int.reduceLE, Int.reduceNeg, Int.reducePow, Int.reduceAdd, Int.reduceSub, Int.reduceMul, Nat.reduceAdd, Nat.reducePow, Nat.reduceLT, Nat.reduceLeDiff, Int.reduceEq, cond_true, cond_false, Bool.cond_false_right, Bool.cond_false_left, Bool.cond_true_left, Bool.cond_true_right, List.map_nil]
      rfl
    | cons x xs =>
      have e5 : cmpop .ne (.lst ((x :: xs).map .int)) (.lst []) S = .ok (.bl true) S := by rw [c_neL0]; rfl
      simp only [e_int, e_bl, e_non, e_str, e_var, e_con, e_fnv, e_bin, y_bin1, y_bin, e_neg, e_not, y_not, y_notI, e_cmp, y_cmp1, y_cmp, e_chain, y_ch1, y_ch2, y_ch3, e_and, e_or, e_and1, e_or1, e_and2, e_or2, y_and, y_or, e_ite, y_ite, e_tup, y_tup0, y_tup1, y_tup2, y_tup3, y_tup4, y_tup5, e_lst, y_lst, e_idx, y_idx1, y_idx, e_sl, y_sl1, y_sl2, y_sl3, e_call, e_bi, y_bi, e_isi, y_isiI, y_isiB, y_isiB2, y_isiI2, y_isiT, y_isiS, y_isiL, e_lenset, e_meth, y_meth2, e_comp, y_comp, y_mk, y_mkT, m_f, m_t, e_o0, asI_int, e_o1, y_trB, e_c0, e_c1, e_nil, e_cons, y_es, y_con, i_val, y_valT, y_valL, i_rng2, y_rng, i_rng1, enuT_tup, i_enuT, i_zip, y_zip, t_set, y_set, setA_nil, setA_cons, t_par, tgtA_name, tgtA_pair, tgtA_three, t_tgt, t_setI, y_put1, y_put2, t_ret, y_ret, t_retN, t_ifs, y_ifs, t_wh, t_fors, t_ex, y_ex, t_brk, t_cnt, t_pass, t_nil, t_cons, q_nx, q_rt, q_bk, q_ct, q_if, n_if, n_rt, n_nx, g_ok, g_bl, g_int, g_bind, g_bindS, z_bind, z_bindS, z_o, z_if, z_no, List.getElem?_cons_zero, List.getElem?_cons_succ, Option.join_some, List.set_cons_zero, List.set_cons_succ, neg, getIx, seqOf, lstOf, rd, itemsOf, wipeS, D.same, ix_0, ix_1, ix_2, sl_to, b_add, b_sub, b_mul, b_div, b_mod, b_pow, b_cat, b_catT, b_catL, c_lt, c_le, c_gt, c_ge, c_eqI, c_neI, c_eqS, c_neS, c_eqB, c_neB, c_isN, c_notN, c_memL, c_nmemL, c_memT, c_nmemT, k_lenT, k_lenL, k_lenR, k_lenS, k_intI, k_intB, k_abs, k_tupL, k_tupT, k_max2, k_min2, k_divmod, k_all, k_sorted, k_sum, List.length_cons, List.length_nil, List.length_map, if_true, Bool.true_and, Bool.and_true, Bool.not_true, Bool.not_false, decide_true, Bool.false_eq_true, if_false, Int.reduceLT, Int.reduceLE, Int.reduceNeg, Int.reducePow, Int.reduceAdd, Int.reduceSub, Int.reduceMul, Nat.reduceAdd, Nat.reducePow, Nat.reduceLT, Nat.reduceLeDiff, Int.reduceEq, cond_true, cond_false, Bool.cond_false_right, Bool.cond_false_left, Bool.cond_true_left, Bool.cond_true_right, e5, List.map_cons]
      simp only [List.map_cons] at e5
      simp only [e_int, e_bl, e_non, e_str, e_var, e_con, e_fnv, e_bin, y_bin1, y_bin, e_neg, e_not, y_not, y_notI, e_cmp, y_cmp1, y_cmp, e_chain, y_ch1, y_ch2, y_ch3, e_and, e_or, e_and1, e_or1, e_and2, e_or2, y_and, y_or, e_ite, y_ite, e_tup, y_tup0, y_tup1, y_tup2, y_tup3, y_tup4, y_tup5, e_lst, y_lst, e_idx, y_idx1, y_idx, e_sl, y_sl1, y_sl2, y_sl3, e_call, e_bi, y_bi, e_isi, y_isiI, y_isiB, y_isiB2, y_isiI2, y_isiT, y_isiS, y_isiL, e_lenset, e_meth, y_meth2, e_comp, y_comp, y_mk, y_mkT, m_f, m_t, e_o0, asI_int, e_o1, y_trB, e_c0, e_c1, e_nil, e_cons, y_es, y_con, i_val, y_valT, y_valL, i_rng2, y_rng, i_rng1, enuT_tup, i_enuT, i_zip, y_zip, t_set, y_set, setA_nil, setA_cons, t_par, tgtA_name, tgtA_pair, tgtA_three, t_tgt, t_setI, y_put1, y_put2, t_ret, y_ret, t_retN, t_ifs, y_ifs, t_wh, t_fors, t_ex, y_ex, t_brk, t_cnt, t_pass, t_nil, t_cons, q_nx, q_rt, q_bk, q_ct, q_if, n_if, n_rt, n_nx, g_ok, g_bl, g_int, g_bind, g_bindS, z_bind, z_bindS, z_o, z_if, z_no, List.getElem?_cons_zero, List.getElem?_cons_succ, Option.join_some, List.set_cons_zero, List.set_cons_succ, neg, getIx, seqOf, lstOf, rd, itemsOf, wipeS, D.same, ix_0, ix_1, ix_2, sl_to, b_add, b_sub, b_mul, b_div, b_mod, b_pow, b_cat, b_catT, b_catL, c_lt, c_le, c_gt, c_ge, c_eqI, c_neI, c_eqS, c_neS, c_eqB, c_neB, c_isN, c_notN, c_memL, c_nmemL, c_memT, c_nmemT, k_lenT, k_lenL, k_lenR, k_lenS, k_intI, k_intB, k_abs, k_tupL, k_tupT, k_max2, k_min2, k_divmod, k_all, k_sorted, k_sum, List.length_cons, List.length_nil, List.length_map, if_true, Bool.true_and, Bool.and_true, Bool.not_true, Bool.not_false, decide_true, Bool.false_eq_true, if_false, Int.reduceLT, Int.reduceLE, Int.reduceNeg, Int.reducePow, Int.reduceAdd, Int.reduceSub, Int.reduceMul, Nat.reduceAdd, Nat.reducePow, Nat.reduceLT, Nat.reduceLeDiff, Int.reduceEq, cond_true, cond_false, Bool.cond_false_right, Bool.cond_false_left, Bool.cond_true_left, Bool.cond_true_right, e5]
      rfl
end Lw
namespace Lw
open PySem L2 Ev
/-! ### plays of the game: the tries, and the stretch that is left -/
inductive Play (r : Rl) (run : Int) : Int → Int → List Int → Lg → Int → Int → Prop
  | nil {lo L B} : nxt r 0 L B = none → Play r run lo L B [] lo (lo + L)
  | good {lo L B e l a b} : nxt r 0 L B = some e → Play r run (lo + e) (L - e) (ab e B) l a b → Play r run lo L B ((lo + e, .good) :: l) a b
  | bad {lo L B e l a b} : nxt r 0 L B = some e → Play r run lo e (be e B) l a b → Play r run lo L B ((lo + e, .bad) :: l) a b
  | bar {lo L B e l a b} : nxt r 0 L B = some e → rowW B e ≤ run → Play r run lo L (add e B) l a b → Play r run lo L B ((lo + e, .barred) :: l) a b
theorem play_T {r : Rl} {run lo L : Int} {B : List Int} {l : Lg} {a b : Int} (h : Play r run lo L B l a b) : ((l.length : Nat) : Int) ≤ T r run L B := by
  induction h with
  | nil h => rw [T_none h]; simp
  | good h _ ih => rw [T_some h]; simp only [List.length_cons]; split <;> omega
  | bad h _ ih => rw [T_some h]; simp only [List.length_cons]; split <;> omega
  | bar h h2 _ ih => rw [T_some h, if_pos h2]; simp only [List.length_cons]; omega
theorem play_O {r : Rl} {run lo L : Int} {B : List Int} {l : Lg} {a b : Int} (h : Play r run lo L B l a b) : b - a ≤ Op r run L B := by
  induction h with
  | nil h => rw [Op_none h]; omega
  | good h _ ih => rw [Op_some h]; split <;> omega
  | bad h _ ih => rw [Op_some h]; split <;> omega
  | bar h h2 _ ih => rw [Op_some h, if_pos h2]; omega
theorem play_in {r : Rl} {run lo L : Int} {B : List Int} {l : Lg} {a b : Int} (h : Play r run lo L B l a b) (hL : 0 < L) : lo ≤ a ∧ a < b ∧ b ≤ lo + L := by
  induction h with
  | nil h => omega
  | good h _ ih => have := nxt_some h; have := ih (by omega); omega
  | bad h _ ih => have := nxt_some h; have := ih (by omega); omega
  | bar h h2 _ ih => exact ih hL
theorem play_path (r : Rl) (run : Int) : ∀ (k : Nat) (lo L : Int) (B : List Int), mu r L B < k → ∃ a b, Play r run lo L B (sh lo (path r run L B)) a b
  | 0, _, _, _, h => by omega
  | k + 1, lo, L, B, h => by
    cases e : nxt r 0 L B with
    | none => rw [path_none e]; exact ⟨_, _, .nil e⟩
    | some e' =>
      obtain ⟨h1, h2, _⟩ := nxt_some e
      by_cases c1 : 1 + T r run (L - e') (ab e' B) = T r run L B
      · obtain ⟨a, b, i1⟩ := play_path r run k (lo + e') (L - e') (ab e' B) (by have := mu_less (r := r) (L := L) (L' := L - e') (B := B) (B' := ab e' B) (by omega) (by omega); omega)
        rw [path_some e, if_pos c1]
        refine ⟨a, b, ?_⟩
        have q := Play.good e i1
        rw [← sh_sh] at q
        exact q
      · by_cases c2 : 1 + T r run e' (be e' B) = T r run L B
        · obtain ⟨a, b, i1⟩ := play_path r run k lo e' (be e' B) (by have := mu_less (r := r) (L := L) (L' := e') (B := B) (B' := be e' B) (by omega) (by omega); omega)
          rw [path_some e, if_neg c1, if_pos c2]
          exact ⟨a, b, .bad e i1⟩
        · obtain ⟨a, b, i1⟩ := play_path r run k lo L (add e' B) (by have := mu_add e; omega)
          rw [path_some e, if_neg c1, if_neg c2]
          exact ⟨a, b, .bar e (path_bars e c1 c2).1 i1⟩
theorem play_wide (r : Rl) (run : Int) : ∀ (k : Nat) (lo L : Int) (B : List Int), mu r L B < k → ∃ l a b, Play r run lo L B l a b ∧ b - a = Op r run L B
  | 0, _, _, _, h => by omega
  | k + 1, lo, L, B, h => by
    cases e : nxt r 0 L B with
    | none => exact ⟨_, _, _, .nil e, by rw [Op_none e]; omega⟩
    | some e' =>
      obtain ⟨h1, h2, _⟩ := nxt_some e
      obtain ⟨l1, a1, b1, p1, w1⟩ := play_wide r run k (lo + e') (L - e') (ab e' B) (by have := mu_less (r := r) (L := L) (L' := L - e') (B := B) (B' := ab e' B) (by omega) (by omega); omega)
      obtain ⟨l2, a2, b2, p2, w2⟩ := play_wide r run k lo e' (be e' B) (by have := mu_less (r := r) (L := L) (L' := e') (B := B) (B' := be e' B) (by omega) (by omega); omega)
      obtain ⟨l3, a3, b3, p3, w3⟩ := play_wide r run k lo L (add e' B) (by have := mu_add e; omega)
      have ho := Op_some (run := run) e
      by_cases c1 : b1 - a1 = Op r run L B
      · exact ⟨_, _, _, .good e p1, c1⟩
      · by_cases c2 : b2 - a2 = Op r run L B
        · exact ⟨_, _, _, .bad e p2, c2⟩
        · by_cases hr : rowW B e' ≤ run
          · rw [if_pos hr] at ho
            exact ⟨_, _, _, .bar e hr p3, by omega⟩
          · rw [if_neg hr] at ho; omega
/-! ### the rows that the law leads -/
def row (r : Rl) (lot : List Int) (t : Int) (lo L : Int) (B : List Int) : Lg × Int × Int := match h : nxt r 0 L B with
  | none => ([], lo, lo + L)
  | some e => if lo + e ∈ lot then ((lo + e, .barred) :: (row r lot t lo L (add e B)).1, (row r lot t lo L (add e B)).2)
    else if lo + e < t then ((lo + e, .good) :: (row r lot t (lo + e) (L - e) (ab e B)).1, (row r lot t (lo + e) (L - e) (ab e B)).2)
    else ((lo + e, .bad) :: (row r lot t lo e (be e B)).1, (row r lot t lo e (be e B)).2)
termination_by mu r L B
decreasing_by
  all_goals first | exact mu_add h | (obtain ⟨h1, h2, _⟩ := nxt_some h; exact mu_less (by omega) (by omega))
theorem row_none {r : Rl} {lot : List Int} {t lo L : Int} {B : List Int} (h : nxt r 0 L B = none) : row r lot t lo L B = ([], lo, lo + L) := by
  rw [row]; split
  · rfl
  · next e he => rw [h] at he; cases he
theorem row_some {r : Rl} {lot : List Int} {t lo L : Int} {B : List Int} {e : Int} (h : nxt r 0 L B = some e) : row r lot t lo L B = if lo + e ∈ lot then ((lo + e, .barred) :: (row r lot t lo L (add e B)).1, (row r lot t lo L (add e B)).2)
    else if lo + e < t then ((lo + e, .good) :: (row r lot t (lo + e) (L - e) (ab e B)).1, (row r lot t (lo + e) (L - e) (ab e B)).2)
    else ((lo + e, .bad) :: (row r lot t lo e (be e B)).1, (row r lot t lo e (be e B)).2) := by
  rw [row]; split
  · next he => rw [h] at he; cases he
  · next e' he => rw [h] at he; cases he; rfl
/-- where the lot's rows are short, a row is a play -/
theorem row_play (r : Rl) (run : Int) (lot : List Int) (t : Int) (hs : ∀ x ∈ lot, rowW lot x ≤ run) : ∀ (k : Nat) (lo L : Int) (B : List Int), mu r L B < k → (∀ b ∈ B, lo + b ∈ lot) →
    (∀ (lo : Int) (B : List Int) (e : Int), (∀ b ∈ B, lo + b ∈ lot) → rowW B e ≤ rowW lot (lo + e)) → Play r run lo L B (row r lot t lo L B).1 (row r lot t lo L B).2.1 (row r lot t lo L B).2.2
  | 0, _, _, _, h, _, _ => by omega
  | k + 1, lo, L, B, h, hB, hm => by
    cases e : nxt r 0 L B with
    | none => rw [row_none e]; exact .nil e
    | some e' =>
      obtain ⟨h1, h2, _⟩ := nxt_some e
      rw [row_some e]
      by_cases c1 : lo + e' ∈ lot
      · rw [if_pos c1]
        refine .bar e (Int.le_trans (hm lo B e' hB) (hs _ c1)) (row_play r run lot t hs k lo L (add e' B) (by have := mu_add e; omega) (fun b hb => ?_) hm)
        rcases (mem_add b).mp hb with hb | rfl
        · exact hB b hb
        · exact c1
      · rw [if_neg c1]
        by_cases c2 : lo + e' < t
        · rw [if_pos c2]
          refine .good e (row_play r run lot t hs k (lo + e') (L - e') (ab e' B) (by have := mu_less (r := r) (L := L) (L' := L - e') (B := B) (B' := ab e' B) (by omega) (by omega); omega) (fun b hb => ?_) hm)
          obtain ⟨o, ho, rfl⟩ := List.mem_map.mp hb
          rw [show lo + e' + (o - e') = lo + o by omega]
          exact hB o (List.mem_filter.mp ho).1
        · rw [if_neg c2]
          exact .bad e (row_play r run lot t hs k lo e' (be e' B) (by have := mu_less (r := r) (L := L) (L' := e') (B := B) (B' := be e' B) (by omega) (by omega); omega) (fun b hb => hB b (List.mem_filter.mp hb).1) hm)
end Lw
namespace Lw
open PySem L2 Ev
/-! ### rows of neighbours -/
theorem dns_seg {A B : List Int} {x y : Int} (h : ∀ i : Nat, (∀ j : Nat, j ≤ i → x - 1 - j ∈ A) → y - 1 - i ∈ B) : dns A x ≤ dns B y := by
  rcases Nat.lt_or_ge (dns B y) (dns A x) with hl | hl
  · exact absurd (h (dns B y) fun j hj => dns_in (by omega)) (dns_out B y)
  · exact hl
theorem ups_seg {A B : List Int} {x y : Int} (h : ∀ i : Nat, (∀ j : Nat, j ≤ i → x + 1 + j ∈ A) → y + 1 + i ∈ B) : ups A x ≤ ups B y := by
  rcases Nat.lt_or_ge (ups B y) (ups A x) with hl | hl
  · exact absurd (h (ups B y) fun j hj => ups_in (by omega)) (ups_out B y)
  · exact hl
theorem rowW_mono {A B : List Int} {lo : Int} (h : ∀ b ∈ A, lo + b ∈ B) (e : Int) : rowW A e ≤ rowW B (lo + e) := by
  have h1 : dns A e ≤ dns B (lo + e) := dns_seg fun i hi => by
    rw [show lo + e - 1 - (i : Int) = lo + (e - 1 - i) by omega]; exact h _ (hi i (Nat.le_refl _))
  have h2 : ups A e ≤ ups B (lo + e) := ups_seg fun i hi => by
    rw [show lo + e + 1 + (i : Int) = lo + (e + 1 + i) by omega]; exact h _ (hi i (Nat.le_refl _))
  unfold rowW; omega
/-- rows do not go across the ends of a stretch -/
theorem rowW_seg {A B : List Int} {lo hi x : Int} (hx : lo < x ∧ x < hi) (h0 : lo ∉ A) (h1 : hi ∉ A) (h : ∀ y ∈ A, lo < y → y < hi → y - lo ∈ B) : rowW A x ≤ rowW B (x - lo) := by
  have g1 : dns A x ≤ dns B (x - lo) := dns_seg fun i hi => by
    have hlt : lo < x - 1 - (i : Int) := by
      rcases Int.lt_or_le lo (x - 1 - (i : Int)) with q | q
      · exact q
      · refine absurd ?_ h0
        have := hi (x - 1 - lo).toNat (by omega)
        rwa [show x - 1 - ((x - 1 - lo).toNat : Int) = lo by omega] at this
    have := h _ (hi i (Nat.le_refl _)) hlt (by omega)
    rwa [show x - lo - 1 - (i : Int) = x - 1 - i - lo by omega]
  have g2 : ups A x ≤ ups B (x - lo) := ups_seg fun i hi' => by
    have hlt : x + 1 + (i : Int) < hi := by
      rcases Int.lt_or_le (x + 1 + (i : Int)) hi with q | q
      · exact q
      · refine absurd ?_ h1
        have := hi' (hi - x - 1).toNat (by omega)
        rwa [show x + 1 + ((hi - x - 1).toNat : Int) = hi by omega] at this
    have := h _ (hi' i (Nat.le_refl _)) (by omega) hlt
    rwa [show x - lo + 1 + (i : Int) = x + 1 + i - lo by omega]
  unfold rowW; omega
theorem rowW_pos (A : List Int) (e : Int) : 1 ≤ rowW A e := by unfold rowW; omega
end Lw
namespace Lw
open PySem L2 Ev
/-! ### each play is a row that the law leads -/
def brd (l : Lg) : List Int := (l.filter fun t => decide (t.2 = .barred)).map (·.1)
theorem brd_bar (e : Int) (l : Lg) : brd ((e, .barred) :: l) = e :: brd l := rfl
theorem brd_good (e : Int) (l : Lg) : brd ((e, .good) :: l) = brd l := rfl
theorem brd_bad (e : Int) (l : Lg) : brd ((e, .bad) :: l) = brd l := rfl
theorem play_brd {r : Rl} {run lo L : Int} {B : List Int} {l : Lg} {a b : Int} (h : Play r run lo L B l a b) (hL : 0 < L) : ∀ x ∈ brd l, lo < x ∧ x < lo + L ∧ x - lo ∉ B := by
  induction h with
  | nil h => simp [brd]
  | @good lo L B e l a b h _ ih =>
    have hn := nxt_some h
    intro x hx
    have q := ih (by omega) x hx
    refine ⟨by omega, by omega, fun hb => q.2.2 (List.mem_map.mpr ⟨x - lo, List.mem_filter.mpr ⟨hb, decide_eq_true (by omega)⟩, by omega⟩)⟩
  | @bad lo L B e l a b h _ ih =>
    have hn := nxt_some h
    intro x hx
    have q := ih (by omega) x hx
    exact ⟨by omega, by omega, fun hb => q.2.2 (List.mem_filter.mpr ⟨hb, decide_eq_true (by omega)⟩)⟩
  | @bar lo L B e l a b h h2 _ ih =>
    have hn := nxt_some h
    intro x hx
    rw [brd_bar] at hx
    rcases List.mem_cons.mp hx with rfl | hx
    · exact ⟨by omega, by omega, by rw [show lo + e - lo = e by omega]; exact hn.2.2.1⟩
    · have q := ih hL x hx
      exact ⟨q.1, q.2.1, fun hb => q.2.2 ((mem_add _).mpr (.inl hb))⟩
theorem play_row {r : Rl} {run lo L : Int} {B : List Int} {l : Lg} {a b : Int} (h : Play r run lo L B l a b) (hL : 0 < L) (lot : List Int) (hs : ∀ x, lo < x → x < lo + L → (x ∈ lot ↔ x - lo ∈ B ∨ x ∈ brd l)) : row r lot b lo L B = (l, a, b) := by
  induction h with
  | nil h => rw [row_none h]
  | @good lo L B e l a b h hp ih =>
    have hn := nxt_some h
    have hi := play_in hp (by omega)
    have c1 : lo + e ∉ lot := fun hc => by
      rcases (hs (lo + e) (by omega) (by omega)).mp hc with q | q
      · rw [show lo + e - lo = e by omega] at q; exact hn.2.2.1 q
      · have := play_brd hp (by omega) _ q; omega
    have ih := ih (by omega) (fun x h1 h2 => by
      rw [hs x (by omega) (by omega)]
      rw [brd_good]
      refine or_congr ⟨fun q => List.mem_map.mpr ⟨x - lo, List.mem_filter.mpr ⟨q, decide_eq_true (by omega)⟩, by omega⟩, fun q => ?_⟩ Iff.rfl
      obtain ⟨o, ho, he⟩ := List.mem_map.mp q
      rw [show x - lo = o by omega]; exact (List.mem_filter.mp ho).1)
    rw [row_some h, if_neg c1, if_pos (by omega), ih]
  | @bad lo L B e l a b h hp ih =>
    have hn := nxt_some h
    have hi := play_in hp (by omega)
    have c1 : lo + e ∉ lot := fun hc => by
      rcases (hs (lo + e) (by omega) (by omega)).mp hc with q | q
      · rw [show lo + e - lo = e by omega] at q; exact hn.2.2.1 q
      · have := play_brd hp (by omega) _ q; omega
    have ih := ih (by omega) (fun x h1 h2 => by
      rw [hs x (by omega) (by omega)]
      rw [brd_bad]
      exact or_congr ⟨fun q => List.mem_filter.mpr ⟨q, decide_eq_true (by omega)⟩, fun q => (List.mem_filter.mp q).1⟩ Iff.rfl)
    rw [row_some h, if_neg c1, if_neg (by omega), ih]
  | @bar lo L B e l a b h h2 hp ih =>
    have hn := nxt_some h
    have c1 : lo + e ∈ lot := (hs (lo + e) (by omega) (by omega)).mpr (.inr (by rw [brd_bar]; exact List.mem_cons_self))
    have ih := ih hL (fun x h1 h2 => by
      rw [hs x h1 h2, brd_bar, mem_add, List.mem_cons]
      constructor
      · rintro (q | q | q)
        · exact .inl (.inl q)
        · exact .inl (.inr (by omega))
        · exact .inr q
      · rintro ((q | q) | q)
        · exact .inl q
        · exact .inr (.inl (by omega))
        · exact .inr (.inr q))
    rw [row_some h, if_pos c1, ih]
theorem dns_le {A : List Int} {x : Int} {k : Nat} (h : x - 1 - (k : Int) ∉ A) : dns A x ≤ k := by
  rcases Nat.lt_or_ge k (dns A x) with q | q
  · exact absurd (dns_in q) h
  · exact q
theorem ups_le {A : List Int} {x : Int} {k : Nat} (h : x + 1 + (k : Int) ∉ A) : ups A x ≤ k := by
  rcases Nat.lt_or_ge k (ups A x) with q | q
  · exact absurd (ups_in q) h
  · exact q
theorem dns_ge {A : List Int} {x : Int} {k : Nat} (h : ∀ i : Nat, i < k → x - 1 - (i : Int) ∈ A) : k ≤ dns A x := by
  rcases Nat.lt_or_ge (dns A x) k with q | q
  · exact absurd (h _ q) (dns_out A x)
  · exact q
theorem ups_ge {A : List Int} {x : Int} {k : Nat} (h : ∀ i : Nat, i < k → x + 1 + (i : Int) ∈ A) : k ≤ ups A x := by
  rcases Nat.lt_or_ge (ups A x) k with q | q
  · exact absurd (h _ q) (ups_out A x)
  · exact q
theorem rowW_add {B : List Int} {e x : Int} (he : e ∉ B) (hx : x ∈ B) : rowW (add e B) x ≤ max (rowW B x) (rowW B e) := by
  have hd := dns_out B x
  have hu := ups_out B x
  have hde := dns_out B e
  have hue := ups_out B e
  by_cases c1 : e = x - 1 - (dns B x : Int)
  · have a1 : dns (add e B) x ≤ dns B x + 1 + dns B e := dns_le (by
      rw [mem_add]; rintro (q | q)
      · exact hde (by rwa [show e - 1 - (dns B e : Int) = x - 1 - ((dns B x + 1 + dns B e : Nat) : Int) by omega])
      · omega)
    have a2 : ups (add e B) x ≤ ups B x := ups_le (by
      rw [mem_add]; rintro (q | q)
      · exact hu q
      · omega)
    have a3 : dns B x + 1 + ups B x ≤ ups B e := ups_ge (fun i hi => by
      rcases Nat.lt_trichotomy i (dns B x) with q | q | q
      · have := dns_in (bs := B) (e := x) (i := dns B x - 1 - i) (by omega)
        rwa [show x - 1 - ((dns B x - 1 - i : Nat) : Int) = e + 1 + i by omega] at this
      · rwa [show e + 1 + (i : Int) = x by omega]
      · have := ups_in (bs := B) (e := x) (i := i - dns B x - 1) (by omega)
        rwa [show x + 1 + ((i - dns B x - 1 : Nat) : Int) = e + 1 + i by omega] at this)
    unfold rowW; omega
  · by_cases c2 : e = x + 1 + (ups B x : Int)
    · have a1 : ups (add e B) x ≤ ups B x + 1 + ups B e := ups_le (by
        rw [mem_add]; rintro (q | q)
        · exact hue (by rwa [show e + 1 + (ups B e : Int) = x + 1 + ((ups B x + 1 + ups B e : Nat) : Int) by omega])
        · omega)
      have a2 : dns (add e B) x ≤ dns B x := dns_le (by
        rw [mem_add]; rintro (q | q)
        · exact hd q
        · omega)
      have a3 : ups B x + 1 + dns B x ≤ dns B e := dns_ge (fun i hi => by
        rcases Nat.lt_trichotomy i (ups B x) with q | q | q
        · have := ups_in (bs := B) (e := x) (i := ups B x - 1 - i) (by omega)
          rwa [show x + 1 + ((ups B x - 1 - i : Nat) : Int) = e - 1 - i by omega] at this
        · rwa [show e - 1 - (i : Int) = x by omega]
        · have := dns_in (bs := B) (e := x) (i := i - ups B x - 1) (by omega)
          rwa [show x - 1 - ((i - ups B x - 1 : Nat) : Int) = e - 1 - i by omega] at this)
      unfold rowW; omega
    · have a1 : dns (add e B) x ≤ dns B x := dns_le (by
        rw [mem_add]; rintro (q | q)
        · exact hd q
        · omega)
      have a2 : ups (add e B) x ≤ ups B x := ups_le (by
        rw [mem_add]; rintro (q | q)
        · exact hu q
        · omega)
      unfold rowW; omega
end Lw
namespace Lw
open PySem L2 Ev
/-! ### the bars of a play stand in short rows -/
theorem play_short {r : Rl} {run lo L : Int} {B : List Int} {l : Lg} {a b : Int} (h : Play r run lo L B l a b) (hL : 0 < L) (lot : List Int) (h0 : lo ∉ lot) (h1 : lo + L ∉ lot)
    (hs : ∀ x, lo < x → x < lo + L → (x ∈ lot ↔ x - lo ∈ B ∨ x ∈ brd l)) (hb : ∀ b ∈ B, rowW B b ≤ run) : ∀ x ∈ lot, lo < x → x < lo + L → rowW lot x ≤ run := by
  induction h with
  | @nil lo L B h =>
    intro x hx g1 g2
    have hx' := (hs x g1 g2).mp hx
    simp only [brd, List.filter_nil, List.map_nil, List.not_mem_nil, or_false] at hx' hs
    exact Int.le_trans (rowW_seg ⟨g1, g2⟩ h0 h1 fun y hy k1 k2 => (hs y k1 k2).mp hy) (hb _ hx')
  | @good lo L B e l a b h hp ih =>
    have hn := nxt_some h
    have c1 : lo + e ∉ lot := fun hc => by
      rcases (hs (lo + e) (by omega) (by omega)).mp hc with q | q
      · rw [show lo + e - lo = e by omega] at q; exact hn.2.2.1 q
      · have := play_brd hp (by omega) _ q; omega
    intro x hx g1 g2
    rcases Int.lt_trichotomy x (lo + e) with q | q | q
    · have hin : ∀ y ∈ lot, lo < y → y < lo + e → y - lo ∈ B := fun y hy k1 k2 => by
        rcases (hs y k1 (by omega)).mp hy with w | w
        · exact w
        · have := play_brd hp (by omega) _ w; omega
      exact Int.le_trans (rowW_seg ⟨g1, q⟩ h0 c1 hin) (hb _ (hin x hx g1 q))
    · subst q; exact absurd hx c1
    · refine ih (by omega) c1 (by rwa [show lo + e + (L - e) = lo + L by omega]) (fun y k1 k2 => ?_) (fun o ho => ?_) x hx q (by omega)
      · rw [hs y (by omega) (by omega), brd_good]
        refine or_congr ⟨fun q => List.mem_map.mpr ⟨y - lo, List.mem_filter.mpr ⟨q, decide_eq_true (by omega)⟩, by omega⟩, fun q => ?_⟩ Iff.rfl
        obtain ⟨o, ho, he⟩ := List.mem_map.mp q
        rw [show y - lo = o by omega]; exact (List.mem_filter.mp ho).1
      · obtain ⟨o', ho', rfl⟩ := List.mem_map.mp ho
        have w := rowW_mono (A := ab e B) (B := B) (lo := e) (fun b hb => by
          obtain ⟨o2, ho2, rfl⟩ := List.mem_map.mp hb
          rw [show e + (o2 - e) = o2 by omega]; exact (List.mem_filter.mp ho2).1) (o' - e)
        rw [show e + (o' - e) = o' by omega] at w
        exact Int.le_trans w (hb _ (List.mem_filter.mp ho').1)
  | @bad lo L B e l a b h hp ih =>
    have hn := nxt_some h
    have c1 : lo + e ∉ lot := fun hc => by
      rcases (hs (lo + e) (by omega) (by omega)).mp hc with q | q
      · rw [show lo + e - lo = e by omega] at q; exact hn.2.2.1 q
      · have := play_brd hp (by omega) _ q; omega
    intro x hx g1 g2
    rcases Int.lt_trichotomy x (lo + e) with q | q | q
    · refine ih (by omega) h0 c1 (fun y k1 k2 => ?_) (fun o ho => ?_) x hx g1 q
      · rw [hs y (by omega) (by omega), brd_bad]
        exact or_congr ⟨fun q => List.mem_filter.mpr ⟨q, decide_eq_true (by omega)⟩, fun q => (List.mem_filter.mp q).1⟩ Iff.rfl
      · have w := rowW_mono (A := be e B) (B := B) (lo := 0) (fun b hb => by
          rw [Int.zero_add]; exact (List.mem_filter.mp hb).1) o
        rw [Int.zero_add] at w
        exact Int.le_trans w (hb _ (List.mem_filter.mp ho).1)
    · subst q; exact absurd hx c1
    · have hin : ∀ y ∈ lot, lo + e < y → y < lo + L → y - (lo + e) ∈ ab e B := fun y hy k1 k2 => by
        rcases (hs y (by omega) k2).mp hy with w | w
        · exact List.mem_map.mpr ⟨y - lo, List.mem_filter.mpr ⟨w, decide_eq_true (by omega)⟩, by omega⟩
        · have := play_brd hp (by omega) _ w; omega
      have w := rowW_mono (A := ab e B) (B := B) (lo := e) (fun b hb => by
          obtain ⟨o2, ho2, rfl⟩ := List.mem_map.mp hb
          rw [show e + (o2 - e) = o2 by omega]; exact (List.mem_filter.mp ho2).1) (x - (lo + e))
      rw [show e + (x - (lo + e)) = x - lo by omega] at w
      have hxB : x - lo ∈ B := by
        rcases (hs x g1 g2).mp hx with w | w
        · exact w
        · have := play_brd hp (by omega) _ w; omega
      exact Int.le_trans (rowW_seg ⟨q, g2⟩ c1 h1 hin) (Int.le_trans w (hb _ hxB))
  | @bar lo L B e l a b h h2 hp ih =>
    have hn := nxt_some h
    refine ih hL h0 h1 (fun x k1 k2 => ?_) (fun o ho => ?_)
    · rw [hs x k1 k2, brd_bar, mem_add, List.mem_cons]
      constructor
      · rintro (q | q | q)
        · exact .inl (.inl q)
        · exact .inl (.inr (by omega))
        · exact .inr q
      · rintro ((q | q) | q)
        · exact .inl q
        · exact .inr (.inl (by omega))
        · exact .inr (.inr q)
    · rcases (mem_add o).mp ho with q | rfl
      · have := rowW_add hn.2.2.1 q; have := hb _ q; omega
      · have : rowW (add o B) o = rowW B o := by
          have a1 : dns (add o B) o = dns B o := Nat.le_antisymm (dns_le (by rw [mem_add]; rintro (q | q); exact dns_out B o q; omega)) (dns_ge fun i hi => (mem_add _).mpr (.inl (dns_in hi)))
          have a2 : ups (add o B) o = ups B o := Nat.le_antisymm (ups_le (by rw [mem_add]; rintro (q | q); exact ups_out B o q; omega)) (ups_ge fun i hi => (mem_add _).mpr (.inl (ups_in hi)))
          unfold rowW; rw [a1, a2]
        omega
end Lw
namespace Lw
open PySem L2 Ev
/-! ### all lots of barred editions -/
def lotP (run : Int) (e : Int) (lot : List Int) : Bool := decide (0 < run) && decide (rowW lot e ≤ run)
def lotsN (run : Int) : Nat → List (List Int)
  | 0 => [[]]
  | k + 1 => lotsN run k ++ ((lotsN run k).filter (lotP run ((k : Int) + 1))).map (· ++ [(k : Int) + 1])
theorem rowW_snoc {B : List Int} {e x : Int} (he : e ∉ B) (hx : x ∈ B) : rowW (B ++ [e]) x ≤ max (rowW B x) (rowW B e) := by
  have h := rowW_add he hx
  unfold add at h
  rwa [rowW_perm (isort_perm (B ++ [e])) x] at h
theorem rowW_self (B : List Int) (e : Int) : rowW (B ++ [e]) e = rowW B e := by
  have a1 : dns (B ++ [e]) e = dns B e := Nat.le_antisymm (dns_le (by simp only [List.mem_append, List.mem_singleton]; rintro (q | q); exact dns_out B e q; omega)) (dns_ge fun i hi => List.mem_append_left _ (dns_in hi))
  have a2 : ups (B ++ [e]) e = ups B e := Nat.le_antisymm (ups_le (by simp only [List.mem_append, List.mem_singleton]; rintro (q | q); exact ups_out B e q; omega)) (ups_ge fun i hi => List.mem_append_left _ (ups_in hi))
  unfold rowW; rw [a1, a2]
theorem lots_short (run : Int) : ∀ (k : Nat), ∀ lot ∈ lotsN run k, lot.length ≤ k ∧ ∀ x ∈ lot, (1 ≤ x ∧ x ≤ k) ∧ rowW lot x ≤ run
  | 0, lot, h => by simp only [lotsN, List.mem_singleton] at h; subst h; simp
  | k + 1, lot, h => by
    simp only [lotsN, List.mem_append, List.mem_map, List.mem_filter] at h
    rcases h with h | ⟨l, ⟨h1, h2⟩, rfl⟩
    · obtain ⟨q0, q⟩ := lots_short run k lot h
      exact ⟨by omega, fun x hx => ⟨by have := (q x hx).1; omega, (q x hx).2⟩⟩
    · obtain ⟨q0, q⟩ := lots_short run k l h1
      simp only [lotP, Bool.and_eq_true, decide_eq_true_eq] at h2
      have hn : (k : Int) + 1 ∉ l := fun hc => by have := (q _ hc).1; omega
      refine ⟨by simp; omega, fun x hx => ?_⟩
      rcases List.mem_append.mp hx with hx | hx
      · have := rowW_snoc hn hx
        have := q x hx
        exact ⟨by omega, by omega⟩
      · simp only [List.mem_singleton] at hx; subst hx
        exact ⟨by omega, by rw [rowW_self]; exact h2.2⟩
theorem lots_all (run : Int) (A : List Int) (hA : ∀ x ∈ A, 1 ≤ x ∧ rowW A x ≤ run) : ∀ (k : Nat), ∃ lot ∈ lotsN run k, ∀ x, x ∈ lot ↔ x ∈ A ∧ x ≤ k
  | 0 => ⟨[], by simp [lotsN], fun x => by
      simp only [List.not_mem_nil, false_iff]
      rintro ⟨h1, h2⟩
      have := hA x h1; omega⟩
  | k + 1 => by
    obtain ⟨lot, h1, h2⟩ := lots_all run A hA k
    by_cases hk : (k : Int) + 1 ∈ A
    · have hr := rowW_mono (A := lot) (B := A) (lo := 0) (fun b hb => by rw [Int.zero_add]; exact ((h2 b).mp hb).1) ((k : Int) + 1)
      rw [Int.zero_add] at hr
      have hp := hA _ hk
      have hq := rowW_pos lot ((k : Int) + 1)
      refine ⟨lot ++ [(k : Int) + 1], List.mem_append_right _ (List.mem_map.mpr ⟨lot, List.mem_filter.mpr ⟨h1, ?_⟩, rfl⟩), fun x => ?_⟩
      · simp only [lotP, Bool.and_eq_true, decide_eq_true_eq]; omega
      · rw [List.mem_append, h2, List.mem_singleton]
        constructor
        · rintro (q | rfl)
          · exact ⟨q.1, by omega⟩
          · exact ⟨hk, by omega⟩
        · rintro ⟨q1, q2⟩
          by_cases hx : x = (k : Int) + 1
          · exact .inr hx
          · exact .inl ⟨q1, by omega⟩
    · refine ⟨lot, List.mem_append_left _ h1, fun x => ?_⟩
      rw [h2]
      constructor
      · rintro ⟨q1, q2⟩; exact ⟨q1, by omega⟩
      · rintro ⟨q1, q2⟩
        refine ⟨q1, ?_⟩
        by_cases hx : x = (k : Int) + 1
        · subst hx; exact absurd q1 hk
        · omega
end Lw
namespace Lw
open PySem L2 Ev
/-! ### the law leads its rows -/
theorem mid_shift (r : Rl) (lo L : Int) : mid r lo (lo + L) = lo + mid r 0 L := by
  unfold mid; rw [show lo + L - lo = L by omega, Int.sub_zero]; omega
theorem find_shift (lo : Int) (p q : Int → Bool) : ∀ (l : List Int), (∀ x ∈ l, p (lo + x) = q x) → (l.map (lo + ·)).find? p = (l.find? q).map (lo + ·)
  | [], _ => rfl
  | x :: l, h => by
    have hx := h x List.mem_cons_self
    simp only [List.map_cons, List.find?_cons, hx]
    cases q x with
    | true => rfl
    | false => exact find_shift lo p q l fun y hy => h y (List.mem_cons_of_mem _ hy)
theorem nxt_shift (r : Rl) (lo L : Int) (B bs : List Int) (h : ∀ e, 0 < e → e < L → (lo + e ∈ bs ↔ e ∈ B)) : nxt r lo (lo + L) bs = (nxt r 0 L B).map (lo + ·) := by
  unfold nxt
  rw [mid_shift, show lo + L - lo = L by omega, Int.sub_zero]
  by_cases hn : L ≤ r.n
  · rw [if_pos hn, if_pos hn]; rfl
  · rw [if_neg hn, if_neg hn]
    have e : r.ps.map (lo + mid r 0 L + ·) = (r.ps.map (mid r 0 L + ·)).map (lo + ·) := by
      rw [List.map_map]; apply List.map_congr_left; intro x _; simp [Int.add_assoc]
    rw [e]
    apply find_shift
    intro x _
    rw [Bool.eq_iff_iff]
    simp only [Bool.and_eq_true, decide_eq_true_eq, Bool.not_eq_true', decide_eq_false_iff_not]
    constructor
    · rintro ⟨⟨a, b⟩, c⟩
      exact ⟨⟨by omega, by omega⟩, fun hc => c ((h x (by omega) (by omega)).mpr hc)⟩
    · rintro ⟨⟨a, b⟩, c⟩
      exact ⟨⟨by omega, by omega⟩, fun hc => c ((h x a b).mp hc)⟩
end Lw
namespace Lw
open PySem L2 Ev
def ledC : CE := .cmp .notN (.var 7) (.non)
def ledB : List CS := [.set 8 (.ite (.cmp .mem (.var 7) (.var 3)) (.str "barred") (.ite (.cmp .lt (.var 7) (.var 2)) (.str "good") (.str "bad"))),
      .set 6 (.bin .add (.var 6) (.tup [.tup [.var 7, .var 8]])),
      .set 4 (.ite (.cmp .eq (.var 8) (.str "good")) (.var 7) (.var 4)),
      .set 5 (.ite (.cmp .eq (.var 8) (.str "bad")) (.var 7) (.var 5)),
      .set 9 (.comp false [("late", 10), ("told", 11)] (.tup [.name 10, .name 11]) (.val (.var 6)) (some (.cmp .eq (.var 11) (.str "barred"))) (.var 10)),
      .set 7 (.call 22 [.var 0, .var 4, .var 5, .var 9])]
def wdOf (lot : List Int) (t e : Int) : Wd := if e ∈ lot then .barred else if e < t then .good else .bad
def ledT (r : Rl) (m t : Int) (lot : List Int) (lo hi : Int) (l : Lg) (o : Option Int) (j8 j9 : Option D) : Slots :=
  [some (eRl r), some (.int m), some (.int t), some (eB lot), some (.int lo), some (.int hi), some (eLg l), some (eO o), j8, j9, none, none]
theorem brd_snoc (l : Lg) (x : Int × Wd) : brd (l ++ [x]) = brd l ++ (if x.2 = .barred then [x.1] else []) := by
  unfold brd
  rw [List.filter_append, List.map_append]
  congr 1
  by_cases h : x.2 = .barred <;> simp [h]
theorem c_brd (cl : Nat → List D → Store → R D) (i j : Nat) (l : Lg) (S : Store) (τ : Slots) (h : ∀ t : Int × Wd, ∃ τ1, bindT (.tup [.name i, .name j]) (eT t) τ = some τ1 ∧ τ1[i]? = some (some (.int t.1)) ∧ τ1[j]? = some (some (.str t.2.s))) :
    compB cl (.tup [.name i, .name j]) (some (.cmp .eq (.var j) (.str "barred"))) (.var i) τ { xs := l.map eT } S = .ok ((brd l).map .int) S := by
  generalize hf : compB _ _ _ _ _ _ _ = z
  have q := compB_run hf (fun t => decide (t.2 = .barred)) (fun t => .int t.1) (by
    rintro t -
    obtain ⟨τ1, h1, h2, h3⟩ := h t
    refine ⟨τ1, h1, ?_, fun _ => ?_⟩
    · simp only [e_int, e_bl, e_non, e_str, e_var, e_con, e_fnv, e_bin, y_bin1, y_bin, e_neg, e_not, y_not, y_notI, e_cmp, y_cmp1, y_cmp, e_chain, y_ch1, y_ch2, y_ch3, e_and, e_or, e_and1, e_or1, e_and2, e_or2, y_and, y_or, e_ite, y_ite, e_tup, y_tup0, y_tup1, y_tup2, y_tup3, y_tup4, y_tup5, e_lst, y_lst, e_idx, y_idx1, y_idx, e_sl, y_sl1, y_sl2, y_sl3, e_call, e_bi, y_bi, e_isi, y_isiI, y_isiB, y_isiB2, y_isiI2, y_isiT, y_isiS, y_isiL, e_lenset, e_meth, y_meth2, e_comp, y_comp, y_mk, y_mkT, m_f, m_t, e_o0, asI_int, e_o1, y_trB, e_c0, e_c1, e_nil, e_cons, y_es, y_con, i_val, y_valT, y_valL, i_rng2, y_rng, i_rng1, enuT_tup, i_enuT, i_zip, y_zip, t_set, y_set, setA_nil, setA_cons, t_par, tgtA_name, tgtA_pair, tgtA_three, t_tgt, t_setI, y_put1, y_put2, t_ret, y_ret, t_retN, t_ifs, y_ifs, t_wh, t_fors, t_ex, y_ex, t_brk, t_cnt, t_pass, t_nil, t_cons, q_nx, q_rt, q_bk, q_ct, q_if, n_if, n_rt, n_nx, g_ok, g_bl, g_int, g_bind, g_bindS, z_bind, z_bindS, z_o, z_if, z_no, List.getElem?_cons_zero, List.getElem?_cons_succ, Option.join_some, List.set_cons_zero, List.set_cons_succ, neg, getIx, seqOf, lstOf, rd, itemsOf, wipeS, D.same, ix_0, ix_1, ix_2, sl_to, b_add, b_sub, b_mul, b_div, b_mod, b_pow, b_cat, b_catT, b_catL, c_lt, c_le, c_gt, c_ge, c_eqI, c_neI, c_eqS, c_neS, c_eqB, c_neB, c_isN, c_notN, c_memL, c_nmemL, c_memT, c_nmemT, k_lenT, k_lenL, k_lenR, k_lenS, k_intI, k_intB, k_abs, k_tupL, k_tupT, k_max2, k_min2, k_divmod, k_all, k_sorted, k_sum, List.length_cons, List.length_nil, List.length_map, if_true, Bool.true_and, Bool.and_true, Bool.not_true, Bool.not_false, decide_true, Bool.false_eq_true, if_false, Int.reduceLT, Int.reduceLE, Int.reduceNeg, Int.reducePow, Int.reduceAdd, Int.reduceSub, Int.reduceMul, Nat.reduceAdd, Nat.reducePow, Nat.reduceLT, Nat.reduceLeDiff, Int.reduceEq, cond_true, cond_false, Bool.cond_false_right, Bool.cond_false_left, Bool.cond_true_left, Bool.cond_true_right, h3, w_barred]
    · simp only [e_int, e_bl, e_non, e_str, e_var, e_con, e_fnv, e_bin, y_bin1, y_bin, e_neg, e_not, y_not, y_notI, e_cmp, y_cmp1, y_cmp, e_chain, y_ch1, y_ch2, y_ch3, e_and, e_or, e_and1, e_or1, e_and2, e_or2, y_and, y_or, e_ite, y_ite, e_tup, y_tup0, y_tup1, y_tup2, y_tup3, y_tup4, y_tup5, e_lst, y_lst, e_idx, y_idx1, y_idx, e_sl, y_sl1, y_sl2, y_sl3, e_call, e_bi, y_bi, e_isi, y_isiI, y_isiB, y_isiB2, y_isiI2, y_isiT, y_isiS, y_isiL, e_lenset, e_meth, y_meth2, e_comp, y_comp, y_mk, y_mkT, m_f, m_t, e_o0, asI_int, e_o1, y_trB, e_c0, e_c1, e_nil, e_cons, y_es, y_con, i_val, y_valT, y_valL, i_rng2, y_rng, i_rng1, enuT_tup, i_enuT, i_zip, y_zip, t_set, y_set, setA_nil, setA_cons, t_par, tgtA_name, tgtA_pair, tgtA_three, t_tgt, t_setI, y_put1, y_put2, t_ret, y_ret, t_retN, t_ifs, y_ifs, t_wh, t_fors, t_ex, y_ex, t_brk, t_cnt, t_pass, t_nil, t_cons, q_nx, q_rt, q_bk, q_ct, q_if, n_if, n_rt, n_nx, g_ok, g_bl, g_int, g_bind, g_bindS, z_bind, z_bindS, z_o, z_if, z_no, List.getElem?_cons_zero, List.getElem?_cons_succ, Option.join_some, List.set_cons_zero, List.set_cons_succ, neg, getIx, seqOf, lstOf, rd, itemsOf, wipeS, D.same, ix_0, ix_1, ix_2, sl_to, b_add, b_sub, b_mul, b_div, b_mod, b_pow, b_cat, b_catT, b_catL, c_lt, c_le, c_gt, c_ge, c_eqI, c_neI, c_eqS, c_neS, c_eqB, c_neB, c_isN, c_notN, c_memL, c_nmemL, c_memT, c_nmemT, k_lenT, k_lenL, k_lenR, k_lenS, k_intI, k_intB, k_abs, k_tupL, k_tupT, k_max2, k_min2, k_divmod, k_all, k_sorted, k_sum, List.length_cons, List.length_nil, List.length_map, if_true, Bool.true_and, Bool.and_true, Bool.not_true, Bool.not_false, decide_true, Bool.false_eq_true, if_false, Int.reduceLT, Int.reduceLE, Int.reduceNeg, Int.reducePow, Int.reduceAdd, Int.reduceSub, Int.reduceMul, Nat.reduceAdd, Nat.reducePow, Nat.reduceLT, Nat.reduceLeDiff, Int.reduceEq, cond_true, cond_false, Bool.cond_false_right, Bool.cond_false_left, Bool.cond_true_left, Bool.cond_true_right, h2])
  rw [q]
  simp [brd]
theorem led_turn (n : Nat) (r : Rl) (m t : Int) (lot : List Int) (lo hi : Int) (l : Lg) (e : Int) (j8 j9 : Option D) (hl : l.length < 10000) (S : Store) : ∃ i8 i9, evB (evF fs (n + 1)) ledB (ledT r m t lot lo hi l (some e) j8 j9) S =
    .nx (ledT r m t lot (if wdOf lot t e = .good then e else lo) (if wdOf lot t e = .bad then e else hi) (l ++ [(e, wdOf lot t e)]) (nxt r (if wdOf lot t e = .good then e else lo) (if wdOf lot t e = .bad then e else hi) (brd (l ++ [(e, wdOf lot t e)]))) i8 i9) S := by
  refine ⟨some (.str (wdOf lot t e).s), some (.lst ((brd (l ++ [(e, wdOf lot t e)])).map .int)), ?_⟩
  have hw : (bif decide (e ∈ lot) then D.str "barred" else bif decide (e < t) then .str "good" else .str "bad") = .str (wdOf lot t e).s := by
    unfold wdOf
    by_cases h1 : e ∈ lot
    · simp [h1, Wd.s]
    · by_cases h2 : e < t <;> simp [h1, h2, Wd.s]
  unfold ledB ledT eB
  simp only [e_int, e_bl, e_non, e_str, e_var, e_con, e_fnv, e_bin, y_bin1, y_bin, e_neg, e_not, y_not, y_notI, e_cmp, y_cmp1, y_cmp, e_chain, y_ch1, y_ch2, y_ch3, e_and, e_or, e_and1, e_or1, e_and2, e_or2, y_and, y_or, e_ite, y_ite, e_tup, y_tup0, y_tup1, y_tup2, y_tup3, y_tup4, y_tup5, e_lst, y_lst, e_idx, y_idx1, y_idx, e_sl, y_sl1, y_sl2, y_sl3, e_call, e_bi, y_bi, e_isi, y_isiI, y_isiB, y_isiB2, y_isiI2, y_isiT, y_isiS, y_isiL, e_lenset, e_meth, y_meth2, e_comp, y_comp, y_mk, y_mkT, m_f, m_t, e_o0, asI_int, e_o1, y_trB, e_c0, e_c1, e_nil, e_cons, y_es, y_con, i_val, y_valT, y_valL, i_rng2, y_rng, i_rng1, enuT_tup, i_enuT, i_zip, y_zip, t_set, y_set, setA_nil, setA_cons, t_par, tgtA_name, tgtA_pair, tgtA_three, t_tgt, t_setI, y_put1, y_put2, t_ret, y_ret, t_retN, t_ifs, y_ifs, t_wh, t_fors, t_ex, y_ex, t_brk, t_cnt, t_pass, t_nil, t_cons, q_nx, q_rt, q_bk, q_ct, q_if, n_if, n_rt, n_nx, g_ok, g_bl, g_int, g_bind, g_bindS, z_bind, z_bindS, z_o, z_if, z_no, List.getElem?_cons_zero, List.getElem?_cons_succ, Option.join_some, List.set_cons_zero, List.set_cons_succ, neg, wipeS, D.same, ix_0, ix_1, ix_2, sl_to, b_add, b_sub, b_mul, b_div, b_mod, b_pow, b_cat, b_catT, b_catL, c_lt, c_le, c_gt, c_ge, c_eqI, c_neI, c_eqS, c_neS, c_eqB, c_neB, c_isN, c_notN, c_memL, c_nmemL, c_memT, c_nmemT, k_lenT, k_lenL, k_lenR, k_lenS, k_intI, k_intB, k_abs, k_tupL, k_tupT, k_max2, k_min2, k_divmod, k_all, k_sorted, k_sum, List.length_cons, List.length_nil, List.length_map, if_true, Bool.true_and, Bool.and_true, Bool.not_true, Bool.not_false, decide_true, Bool.false_eq_true, if_false, Int.reduceLT, Int.reduceLE, Int.reduceNeg, Int.reducePow, Int.reduceAdd, Int.reduceSub, Int.reduceMul, Nat.reduceAdd, Nat.reducePow, Nat.reduceLT, Nat.reduceLeDiff, Int.reduceEq, cond_true, cond_false, Bool.cond_false_right, Bool.cond_false_left, Bool.cond_true_left, Bool.cond_true_right, eO]
  have q := lg_cat l (e, wdOf lot t e) (by omega) S
  rw [hw]
  generalize wdOf lot t e = w at q ⊢
  simp only at q
  simp only [e_int, e_bl, e_non, e_str, e_var, e_con, e_fnv, e_bin, y_bin1, y_bin, e_neg, e_not, y_not, y_notI, e_cmp, y_cmp1, y_cmp, e_chain, y_ch1, y_ch2, y_ch3, e_and, e_or, e_and1, e_or1, e_and2, e_or2, y_and, y_or, e_ite, y_ite, e_tup, y_tup0, y_tup1, y_tup2, y_tup3, y_tup4, y_tup5, e_lst, y_lst, e_idx, y_idx1, y_idx, e_sl, y_sl1, y_sl2, y_sl3, e_call, e_bi, y_bi, e_isi, y_isiI, y_isiB, y_isiB2, y_isiI2, y_isiT, y_isiS, y_isiL, e_lenset, e_meth, y_meth2, e_comp, y_comp, y_mk, y_mkT, m_f, m_t, e_o0, asI_int, e_o1, y_trB, e_c0, e_c1, e_nil, e_cons, y_es, y_con, i_val, y_valT, y_valL, i_rng2, y_rng, i_rng1, enuT_tup, i_enuT, i_zip, y_zip, t_set, y_set, setA_nil, setA_cons, t_par, tgtA_name, tgtA_pair, tgtA_three, t_tgt, t_setI, y_put1, y_put2, t_ret, y_ret, t_retN, t_ifs, y_ifs, t_wh, t_fors, t_ex, y_ex, t_brk, t_cnt, t_pass, t_nil, t_cons, q_nx, q_rt, q_bk, q_ct, q_if, n_if, n_rt, n_nx, g_ok, g_bl, g_int, g_bind, g_bindS, z_bind, z_bindS, z_o, z_if, z_no, List.getElem?_cons_zero, List.getElem?_cons_succ, Option.join_some, List.set_cons_zero, List.set_cons_succ, neg, wipeS, D.same, ix_0, ix_1, ix_2, sl_to, b_add, b_sub, b_mul, b_div, b_mod, b_pow, b_cat, b_catT, b_catL, c_lt, c_le, c_gt, c_ge, c_eqI, c_neI, c_eqS, c_neS, c_eqB, c_neB, c_isN, c_notN, c_memL, c_nmemL, c_memT, c_nmemT, k_lenT, k_lenL, k_lenR, k_lenS, k_intI, k_intB, k_abs, k_tupL, k_tupT, k_max2, k_min2, k_divmod, k_all, k_sorted, k_sum, List.length_cons, List.length_nil, List.length_map, if_true, Bool.true_and, Bool.and_true, Bool.not_true, Bool.not_false, decide_true, Bool.false_eq_true, if_false, Int.reduceLT, Int.reduceLE, Int.reduceNeg, Int.reducePow, Int.reduceAdd, Int.reduceSub, Int.reduceMul, Nat.reduceAdd, Nat.reducePow, Nat.reduceLT, Nat.reduceLeDiff, Int.reduceEq, cond_true, cond_false, Bool.cond_false_right, Bool.cond_false_left, Bool.cond_true_left, Bool.cond_true_right, q, w_good, w_bad]
  have z1 : (bif decide (w = .good) then e else lo) = (if w = .good then e else lo) := by by_cases h : w = .good <;> simp [h]
  have z2 : (bif decide (w = .bad) then e else hi) = (if w = .bad then e else hi) := by by_cases h : w = .bad <;> simp [h]
  rw [z1, z2]
  unfold eLg
  simp only [e_int, e_bl, e_non, e_str, e_var, e_con, e_fnv, e_bin, y_bin1, y_bin, e_neg, e_not, y_not, y_notI, e_cmp, y_cmp1, y_cmp, e_chain, y_ch1, y_ch2, y_ch3, e_and, e_or, e_and1, e_or1, e_and2, e_or2, y_and, y_or, e_ite, y_ite, e_tup, y_tup0, y_tup1, y_tup2, y_tup3, y_tup4, y_tup5, e_lst, y_lst, e_idx, y_idx1, y_idx, e_sl, y_sl1, y_sl2, y_sl3, e_call, e_bi, y_bi, e_isi, y_isiI, y_isiB, y_isiB2, y_isiI2, y_isiT, y_isiS, y_isiL, e_lenset, e_meth, y_meth2, e_comp, y_comp, y_mk, y_mkT, m_f, m_t, e_o0, asI_int, e_o1, y_trB, e_c0, e_c1, e_nil, e_cons, y_es, y_con, i_val, y_valT, y_valL, i_rng2, y_rng, i_rng1, enuT_tup, i_enuT, i_zip, y_zip, t_set, y_set, setA_nil, setA_cons, t_par, tgtA_name, tgtA_pair, tgtA_three, t_tgt, t_setI, y_put1, y_put2, t_ret, y_ret, t_retN, t_ifs, y_ifs, t_wh, t_fors, t_ex, y_ex, t_brk, t_cnt, t_pass, t_nil, t_cons, q_nx, q_rt, q_bk, q_ct, q_if, n_if, n_rt, n_nx, g_ok, g_bl, g_int, g_bind, g_bindS, z_bind, z_bindS, z_o, z_if, z_no, List.getElem?_cons_zero, List.getElem?_cons_succ, Option.join_some, List.set_cons_zero, List.set_cons_succ, neg, getIx, seqOf, lstOf, rd, itemsOf, wipeS, D.same, ix_0, ix_1, ix_2, sl_to, b_add, b_sub, b_mul, b_div, b_mod, b_pow, b_cat, b_catT, b_catL, c_lt, c_le, c_gt, c_ge, c_eqI, c_neI, c_eqS, c_neS, c_eqB, c_neB, c_isN, c_notN, c_memL, c_nmemL, c_memT, c_nmemT, k_lenT, k_lenL, k_lenR, k_lenS, k_intI, k_intB, k_abs, k_tupL, k_tupT, k_max2, k_min2, k_divmod, k_all, k_sorted, k_sum, List.length_cons, List.length_nil, List.length_map, if_true, Bool.true_and, Bool.and_true, Bool.not_true, Bool.not_false, decide_true, Bool.false_eq_true, if_false, Int.reduceLT, Int.reduceLE, Int.reduceNeg, Int.reducePow, Int.reduceAdd, Int.reduceSub, Int.reduceMul, Nat.reduceAdd, Nat.reducePow, Nat.reduceLT, Nat.reduceLeDiff, Int.reduceEq, cond_true, cond_false, Bool.cond_false_right, Bool.cond_false_left, Bool.cond_true_left, Bool.cond_true_right]
  rw [c_brd _ 10 11 _ S _ (fun x => ⟨_, rfl, rfl, rfl⟩)]
  simp only [e_int, e_bl, e_non, e_str, e_var, e_con, e_fnv, e_bin, y_bin1, y_bin, e_neg, e_not, y_not, y_notI, e_cmp, y_cmp1, y_cmp, e_chain, y_ch1, y_ch2, y_ch3, e_and, e_or, e_and1, e_or1, e_and2, e_or2, y_and, y_or, e_ite, y_ite, e_tup, y_tup0, y_tup1, y_tup2, y_tup3, y_tup4, y_tup5, e_lst, y_lst, e_idx, y_idx1, y_idx, e_sl, y_sl1, y_sl2, y_sl3, e_call, e_bi, y_bi, e_isi, y_isiI, y_isiB, y_isiB2, y_isiI2, y_isiT, y_isiS, y_isiL, e_lenset, e_meth, y_meth2, e_comp, y_comp, y_mk, y_mkT, m_f, m_t, e_o0, asI_int, e_o1, y_trB, e_c0, e_c1, e_nil, e_cons, y_es, y_con, i_val, y_valT, y_valL, i_rng2, y_rng, i_rng1, enuT_tup, i_enuT, i_zip, y_zip, t_set, y_set, setA_nil, setA_cons, t_par, tgtA_name, tgtA_pair, tgtA_three, t_tgt, t_setI, y_put1, y_put2, t_ret, y_ret, t_retN, t_ifs, y_ifs, t_wh, t_fors, t_ex, y_ex, t_brk, t_cnt, t_pass, t_nil, t_cons, q_nx, q_rt, q_bk, q_ct, q_if, n_if, n_rt, n_nx, g_ok, g_bl, g_int, g_bind, g_bindS, z_bind, z_bindS, z_o, z_if, z_no, List.getElem?_cons_zero, List.getElem?_cons_succ, Option.join_some, List.set_cons_zero, List.set_cons_succ, neg, wipeS, D.same, ix_0, ix_1, ix_2, sl_to, b_add, b_sub, b_mul, b_div, b_mod, b_pow, b_cat, b_catT, b_catL, c_lt, c_le, c_gt, c_ge, c_eqI, c_neI, c_eqS, c_neS, c_eqB, c_neB, c_isN, c_notN, c_memL, c_nmemL, c_memT, c_nmemT, k_lenT, k_lenL, k_lenR, k_lenS, k_intI, k_intB, k_abs, k_tupL, k_tupT, k_max2, k_min2, k_divmod, k_all, k_sorted, k_sum, List.length_cons, List.length_nil, List.length_map, if_true, Bool.true_and, Bool.and_true, Bool.not_true, Bool.not_false, decide_true, Bool.false_eq_true, if_false, Int.reduceLT, Int.reduceLE, Int.reduceNeg, Int.reducePow, Int.reduceAdd, Int.reduceSub, Int.reduceMul, Nat.reduceAdd, Nat.reducePow, Nat.reduceLT, Nat.reduceLeDiff, Int.reduceEq, cond_true, cond_false, Bool.cond_false_right, Bool.cond_false_left, Bool.cond_true_left, Bool.cond_true_right, y_lst]
  have hx := s_lnext n r (if w = .good then e else lo) (if w = .bad then e else hi) (brd (l ++ [(e, w)])) (.lst ((brd (l ++ [(e, w)])).map .int)) (fun i S => by rw [c_nmemL]) S
  simp only [e_int, e_bl, e_non, e_str, e_var, e_con, e_fnv, e_bin, y_bin1, y_bin, e_neg, e_not, y_not, y_notI, e_cmp, y_cmp1, y_cmp, e_chain, y_ch1, y_ch2, y_ch3, e_and, e_or, e_and1, e_or1, e_and2, e_or2, y_and, y_or, e_ite, y_ite, e_tup, y_tup0, y_tup1, y_tup2, y_tup3, y_tup4, y_tup5, e_lst, y_lst, e_idx, y_idx1, y_idx, e_sl, y_sl1, y_sl2, y_sl3, e_call, e_bi, y_bi, e_isi, y_isiI, y_isiB, y_isiB2, y_isiI2, y_isiT, y_isiS, y_isiL, e_lenset, e_meth, y_meth2, e_comp, y_comp, y_mk, y_mkT, m_f, m_t, e_o0, asI_int, e_o1, y_trB, e_c0, e_c1, e_nil, e_cons, y_es, y_con, i_val, y_valT, y_valL, i_rng2, y_rng, i_rng1, enuT_tup, i_enuT, i_zip, y_zip, t_set, y_set, setA_nil, setA_cons, t_par, tgtA_name, tgtA_pair, tgtA_three, t_tgt, t_setI, y_put1, y_put2, t_ret, y_ret, t_retN, t_ifs, y_ifs, t_wh, t_fors, t_ex, y_ex, t_brk, t_cnt, t_pass, t_nil, t_cons, q_nx, q_rt, q_bk, q_ct, q_if, n_if, n_rt, n_nx, g_ok, g_bl, g_int, g_bind, g_bindS, z_bind, z_bindS, z_o, z_if, z_no, List.getElem?_cons_zero, List.getElem?_cons_succ, Option.join_some, List.set_cons_zero, List.set_cons_succ, neg, wipeS, D.same, ix_0, ix_1, ix_2, sl_to, b_add, b_sub, b_mul, b_div, b_mod, b_pow, b_cat, b_catT, b_catL, c_lt, c_le, c_gt, c_ge, c_eqI, c_neI, c_eqS, c_neS, c_eqB, c_neB, c_isN, c_notN, c_memL, c_nmemL, c_memT, c_nmemT, k_lenT, k_lenL, k_lenR, k_lenS, k_intI, k_intB, k_abs, k_tupL, k_tupT, k_max2, k_min2, k_divmod, k_all, k_sorted, k_sum, List.length_cons, List.length_nil, List.length_map, if_true, Bool.true_and, Bool.and_true, Bool.not_true, Bool.not_false, decide_true, Bool.false_eq_true, if_false, Int.reduceLT, Int.reduceLE, Int.reduceNeg, Int.reducePow, Int.reduceAdd, Int.reduceSub, Int.reduceMul, Nat.reduceAdd, Nat.reducePow, Nat.reduceLT, Nat.reduceLeDiff, Int.reduceEq, cond_true, cond_false, Bool.cond_false_right, Bool.cond_false_left, Bool.cond_true_left, Bool.cond_true_right, hx]
  rfl
end Lw
namespace Lw
open PySem L2 Ev
theorem led_run (n : Nat) (r : Rl) (m t : Int) (lot : List Int) (S : Store) : ∀ (k : Nat) (lo L : Int) (B : List Int) (l : Lg) (j8 j9 : Option D), mu r L B < k → (∀ e, 0 < e → e < L → (lo + e ∈ brd l ↔ e ∈ B)) → l.length + mu r L B < 10000 →
    ∃ i8 i9, whL (ev (evF fs (n + 1)) ledC) (evB (evF fs (n + 1)) ledB) k (ledT r m t lot lo (lo + L) l ((nxt r 0 L B).map (lo + ·)) j8 j9) S =
      .nx (ledT r m t lot (row r lot t lo L B).2.1 (row r lot t lo L B).2.2 (l ++ (row r lot t lo L B).1) none i8 i9) S := by
  intro k
  induction k with
  | zero => intro lo L B l j8 j9 h; omega
  | succ k ih =>
    intro lo L B l j8 j9 h ha hl
    have hc : ev (evF fs (n + 1)) ledC (ledT r m t lot lo (lo + L) l ((nxt r 0 L B).map (lo + ·)) j8 j9) S = .ok (.bl (nxt r 0 L B).isSome) S := by
      unfold ledC ledT
      simp only [e_int, e_bl, e_non, e_str, e_var, e_con, e_fnv, e_bin, y_bin1, y_bin, e_neg, e_not, y_not, y_notI, e_cmp, y_cmp1, y_cmp, e_chain, y_ch1, y_ch2, y_ch3, e_and, e_or, e_and1, e_or1, e_and2, e_or2, y_and, y_or, e_ite, y_ite, e_tup, y_tup0, y_tup1, y_tup2, y_tup3, y_tup4, y_tup5, e_lst, y_lst, e_idx, y_idx1, y_idx, e_sl, y_sl1, y_sl2, y_sl3, e_call, e_bi, y_bi, e_isi, y_isiI, y_isiB, y_isiB2, y_isiI2, y_isiT, y_isiS, y_isiL, e_lenset, e_meth, y_meth2, e_comp, y_comp, y_mk, y_mkT, m_f, m_t, e_o0, asI_int, e_o1, y_trB, e_c0, e_c1, e_nil, e_cons, y_es, y_con, i_val, y_valT, y_valL, i_rng2, y_rng, i_rng1, enuT_tup, i_enuT, i_zip, y_zip, t_set, y_set, setA_nil, setA_cons, t_par, tgtA_name, tgtA_pair, tgtA_three, t_tgt, t_setI, y_put1, y_put2, t_ret, y_ret, t_retN, t_ifs, y_ifs, t_wh, t_fors, t_ex, y_ex, t_brk, t_cnt, t_pass, t_nil, t_cons, q_nx, q_rt, q_bk, q_ct, q_if, n_if, n_rt, n_nx, g_ok, g_bl, g_int, g_bind, g_bindS, z_bind, z_bindS, z_o, z_if, z_no, List.getElem?_cons_zero, List.getElem?_cons_succ, Option.join_some, List.set_cons_zero, List.set_cons_succ, neg, getIx, seqOf, lstOf, rd, itemsOf, wipeS, D.same, ix_0, ix_1, ix_2, sl_to, b_add, b_sub, b_mul, b_div, b_mod, b_pow, b_cat, b_catT, b_catL, c_lt, c_le, c_gt, c_ge, c_eqI, c_neI, c_eqS, c_neS, c_eqB, c_neB, c_isN, c_notN, c_memL, c_nmemL, c_memT, c_nmemT, k_lenT, k_lenL, k_lenR, k_lenS, k_intI, k_intB, k_abs, k_tupL, k_tupT, k_max2, k_min2, k_divmod, k_all, k_sorted, k_sum, List.length_cons, List.length_nil, List.length_map, if_true, Bool.true_and, Bool.and_true, Bool.not_true, Bool.not_false, decide_true, Bool.false_eq_true, if_false, Int.reduceLT, Int.reduceLE, Int.reduceNeg, Int.reducePow, Int.reduceAdd, Int.reduceSub, Int.reduceMul, Nat.reduceAdd, Nat.reducePow, Nat.reduceLT, Nat.reduceLeDiff, Int.reduceEq, cond_true, cond_false, Bool.cond_false_right, Bool.cond_false_left, Bool.cond_true_left, Bool.cond_true_right, same_eO]
      cases nxt r 0 L B <;> rfl
    cases e : nxt r 0 L B with
    | none =>
      refine ⟨j8, j9, ?_⟩
      rw [e] at hc
      rw [row_none e]
      simp only [whL, hc, Option.isSome_none, R.bindS_ok, truth, List.append_nil, Option.map_none]
      rfl
    | some e' =>
      obtain ⟨h1, h2, _⟩ := nxt_some e
      obtain ⟨i8, i9, ht⟩ := led_turn n r m t lot lo (lo + L) l (lo + e') j8 j9 (by omega) S
      rw [e] at hc
      rw [row_some e]
      simp only [Option.map_some] at hc ⊢
      have hs : ∀ τ2, evB (evF fs (n + 1)) ledB (ledT r m t lot lo (lo + L) l (some (lo + e')) j8 j9) S = .nx τ2 S → whL (ev (evF fs (n + 1)) ledC) (evB (evF fs (n + 1)) ledB) (k + 1) (ledT r m t lot lo (lo + L) l (some (lo + e')) j8 j9) S = whL (ev (evF fs (n + 1)) ledC) (evB (evF fs (n + 1)) ledB) k τ2 S := by
        intro τ2 h
        simp only [whL, hc, Option.isSome_some, R.bindS_ok, truth, h]
      rw [hs _ ht]
      by_cases c1 : lo + e' ∈ lot
      · have hw : wdOf lot t (lo + e') = .barred := by unfold wdOf; rw [if_pos c1]
        rw [hw, if_pos c1]
        have hb : ∀ e, 0 < e → e < L → (lo + e ∈ brd (l ++ [(lo + e', Wd.barred)]) ↔ e ∈ add e' B) := fun x g1 g2 => by
          rw [brd_snoc, if_pos rfl, List.mem_append, ha x g1 g2, mem_add, List.mem_singleton]
          exact or_congr Iff.rfl ⟨fun q => by omega, fun q => by omega⟩
        have hm := mu_add e
        obtain ⟨k8, k9, q⟩ := ih lo L (add e' B) (l ++ [(lo + e', .barred)]) i8 i9 (by omega) hb (by simp; omega)
        refine ⟨k8, k9, ?_⟩
        rw [← nxt_shift r lo L _ _ hb] at q
        simpa using q
      · rw [if_neg c1]
        by_cases c2 : lo + e' < t
        · have hw : wdOf lot t (lo + e') = .good := by unfold wdOf; rw [if_neg c1, if_pos c2]
          rw [hw, if_pos c2]
          have hb : ∀ e, 0 < e → e < L - e' → (lo + e' + e ∈ brd (l ++ [(lo + e', Wd.good)]) ↔ e ∈ ab e' B) := fun x g1 g2 => by
            rw [brd_snoc, if_neg (by simp), List.append_nil, show lo + e' + x = lo + (e' + x) by omega, ha (e' + x) (by omega) (by omega)]
            constructor
            · intro q; exact List.mem_map.mpr ⟨e' + x, List.mem_filter.mpr ⟨q, decide_eq_true (by omega)⟩, by omega⟩
            · intro q
              obtain ⟨o, ho, he⟩ := List.mem_map.mp q
              rw [show e' + x = o by omega]; exact (List.mem_filter.mp ho).1
          have hm := mu_less (r := r) (L := L) (L' := L - e') (B := B) (B' := ab e' B) (by omega) (by omega)
          obtain ⟨k8, k9, q⟩ := ih (lo + e') (L - e') (ab e' B) (l ++ [(lo + e', .good)]) i8 i9 (by omega) hb (by simp; omega)
          refine ⟨k8, k9, ?_⟩
          rw [← nxt_shift r (lo + e') (L - e') _ _ hb] at q
          rw [show lo + e' + (L - e') = lo + L by omega] at q
          simpa using q
        · have hw : wdOf lot t (lo + e') = .bad := by unfold wdOf; rw [if_neg c1, if_neg c2]
          rw [hw, if_neg c2]
          have hb : ∀ e, 0 < e → e < e' → (lo + e ∈ brd (l ++ [(lo + e', Wd.bad)]) ↔ e ∈ be e' B) := fun x g1 g2 => by
            rw [brd_snoc, if_neg (by simp), List.append_nil, ha x (by omega) (by omega)]
            exact ⟨fun q => List.mem_filter.mpr ⟨q, decide_eq_true (by omega)⟩, fun q => (List.mem_filter.mp q).1⟩
          have hm := mu_less (r := r) (L := L) (L' := e') (B := B) (B' := be e' B) (by omega) (by omega)
          obtain ⟨k8, k9, q⟩ := ih lo e' (be e' B) (l ++ [(lo + e', .bad)]) i8 i9 (by omega) hb (by simp; omega)
          refine ⟨k8, k9, ?_⟩
          rw [← nxt_shift r lo e' _ _ hb] at q
          simpa using q
end Lw
namespace Lw
open PySem L2 Ev
theorem s_led (n : Nat) (r : Rl) (m t : Int) (lot : List Int) (hf : mu r m [] < 10000) (S : Store) : evF fs (n + 2) 23 [eRl r, .int m, .int t, eB lot] S =
    .ok (.tup [eLg (row r lot t 0 m []).1, .tup [.int (row r lot t 0 m []).2.1, .int (row r lot t 0 m []).2.2]]) S := by
  rw [u23]
  have hx := s_lnext n r 0 m [] (.tup []) (fun i S => by rw [show (D.tup [] : D) = .tup (([] : List Int).map .int) from rfl, c_nmemT]) S
  simp only [e_int, e_bl, e_non, e_str, e_var, e_con, e_fnv, e_bin, y_bin1, y_bin, e_neg, e_not, y_not, y_notI, e_cmp, y_cmp1, y_cmp, e_chain, y_ch1, y_ch2, y_ch3, e_and, e_or, e_and1, e_or1, e_and2, e_or2, y_and, y_or, e_ite, y_ite, e_tup, y_tup0, y_tup1, y_tup2, y_tup3, y_tup4, y_tup5, e_lst, y_lst, e_idx, y_idx1, y_idx, e_sl, y_sl1, y_sl2, y_sl3, e_call, e_bi, y_bi, e_isi, y_isiI, y_isiB, y_isiB2, y_isiI2, y_isiT, y_isiS, y_isiL, e_lenset, e_meth, y_meth2, e_comp, y_comp, y_mk, y_mkT, m_f, m_t, e_o0, asI_int, e_o1, y_trB, e_c0, e_c1, e_nil, e_cons, y_es, y_con, i_val, y_valT, y_valL, i_rng2, y_rng, i_rng1, enuT_tup, i_enuT, i_zip, y_zip, t_set, y_set, setA_nil, setA_cons, t_par, tgtA_name, tgtA_pair, tgtA_three, t_tgt, t_setI, y_put1, y_put2, t_ret, y_ret, t_retN, t_ifs, y_ifs, t_wh, t_fors, t_ex, y_ex, t_brk, t_cnt, t_pass, t_nil, t_cons, q_nx, q_rt, q_bk, q_ct, q_if, n_if, n_rt, n_nx, g_ok, g_bl, g_int, g_bind, g_bindS, z_bind, z_bindS, z_o, z_if, z_no, List.getElem?_cons_zero, List.getElem?_cons_succ, Option.join_some, List.set_cons_zero, List.set_cons_succ, neg, wipeS, D.same, ix_0, ix_1, ix_2, sl_to, b_add, b_sub, b_mul, b_div, b_mod, b_pow, b_cat, b_catT, b_catL, c_lt, c_le, c_gt, c_ge, c_eqI, c_neI, c_eqS, c_neS, c_eqB, c_neB, c_isN, c_notN, c_memL, c_nmemL, c_memT, c_nmemT, k_lenT, k_lenL, k_lenR, k_lenS, k_intI, k_intB, k_abs, k_tupL, k_tupT, k_max2, k_min2, k_divmod, k_all, k_sorted, k_sum, List.length_cons, List.length_nil, List.length_map, if_true, Bool.true_and, Bool.and_true, Bool.not_true, Bool.not_false, decide_true, Bool.false_eq_true, if_false, Int.reduceLT, Int.reduceLE, Int.reduceNeg, Int.reducePow, Int.reduceAdd, Int.reduceSub, Int.reduceMul, Nat.reduceAdd, Nat.reducePow, Nat.reduceLT, Nat.reduceLeDiff, Int.reduceEq, cond_true, cond_false, Bool.cond_false_right, Bool.cond_false_left, Bool.cond_true_left, Bool.cond_true_right, hx]
  obtain ⟨i8, i9, q⟩ := led_run n r m t lot S fuel 0 m [] [] none none (by show _ < 1000000000; omega) (by simp [brd]) (by simpa using hf)
  have e : whB (evF fs (n + 1)) (.cmp .notN (.var 7) (.non)) ledB (ledT r m t lot 0 m [] (nxt r 0 m []) none none) S = whL (ev (evF fs (n + 1)) ledC) (evB (evF fs (n + 1)) ledB) fuel (ledT r m t lot 0 m [] (nxt r 0 m []) none none) S := rfl
  have hid : (nxt r 0 m []).map ((0 : Int) + ·) = nxt r 0 m [] := by cases nxt r 0 m [] <;> simp
  rw [hid, Int.zero_add, List.nil_append] at q
  rw [← e] at q
  unfold ledB ledT at q
  rw [show (eLg [] : D) = .tup [] from rfl] at q
  rw [q]
  simp only [e_int, e_bl, e_non, e_str, e_var, e_con, e_fnv, e_bin, y_bin1, y_bin, e_neg, e_not, y_not, y_notI, e_cmp, y_cmp1, y_cmp, e_chain, y_ch1, y_ch2, y_ch3, e_and, e_or, e_and1, e_or1, e_and2, e_or2, y_and, y_or, e_ite, y_ite, e_tup, y_tup0, y_tup1, y_tup2, y_tup3, y_tup4, y_tup5, e_lst, y_lst, e_idx, y_idx1, y_idx, e_sl, y_sl1, y_sl2, y_sl3, e_call, e_bi, y_bi, e_isi, y_isiI, y_isiB, y_isiB2, y_isiI2, y_isiT, y_isiS, y_isiL, e_lenset, e_meth, y_meth2, e_comp, y_comp, y_mk, y_mkT, m_f, m_t, e_o0, asI_int, e_o1, y_trB, e_c0, e_c1, e_nil, e_cons, y_es, y_con, i_val, y_valT, y_valL, i_rng2, y_rng, i_rng1, enuT_tup, i_enuT, i_zip, y_zip, t_set, y_set, setA_nil, setA_cons, t_par, tgtA_name, tgtA_pair, tgtA_three, t_tgt, t_setI, y_put1, y_put2, t_ret, y_ret, t_retN, t_ifs, y_ifs, t_wh, t_fors, t_ex, y_ex, t_brk, t_cnt, t_pass, t_nil, t_cons, q_nx, q_rt, q_bk, q_ct, q_if, n_if, n_rt, n_nx, g_ok, g_bl, g_int, g_bind, g_bindS, z_bind, z_bindS, z_o, z_if, z_no, List.getElem?_cons_zero, List.getElem?_cons_succ, Option.join_some, List.set_cons_zero, List.set_cons_succ, neg, wipeS, D.same, ix_0, ix_1, ix_2, sl_to, b_add, b_sub, b_mul, b_div, b_mod, b_pow, b_cat, b_catT, b_catL, c_lt, c_le, c_gt, c_ge, c_eqI, c_neI, c_eqS, c_neS, c_eqB, c_neB, c_isN, c_notN, c_memL, c_nmemL, c_memT, c_nmemT, k_lenT, k_lenL, k_lenR, k_lenS, k_intI, k_intB, k_abs, k_tupL, k_tupT, k_max2, k_min2, k_divmod, k_all, k_sorted, k_sum, List.length_cons, List.length_nil, List.length_map, if_true, Bool.true_and, Bool.and_true, Bool.not_true, Bool.not_false, decide_true, Bool.false_eq_true, if_false, Int.reduceLT, Int.reduceLE, Int.reduceNeg, Int.reducePow, Int.reduceAdd, Int.reduceSub, Int.reduceMul, Nat.reduceAdd, Nat.reducePow, Nat.reduceLT, Nat.reduceLeDiff, Int.reduceEq, cond_true, cond_false, Bool.cond_false_right, Bool.cond_false_left, Bool.cond_true_left, Bool.cond_true_right]
end Lw
namespace Lw
open PySem L2 Ev
theorem lots_len (run : Int) : ∀ k, (lotsN run k).length ≤ 2 ^ k
  | 0 => by simp [lotsN]
  | k + 1 => by
    have h := lots_len run k
    have h2 := List.length_filter_le (lotP run ((k : Int) + 1)) (lotsN run k)
    simp only [lotsN, List.length_append, List.length_map, Nat.pow_succ]; omega
theorem lotsN_fold (run : Int) (k : Nat) : (List.range k).foldl (fun found i => found ++ (found.filter (lotP run (((i : Nat) : Int) + 1))).map (· ++ [((i : Nat) : Int) + 1])) [[]] = lotsN run k := by
  induction k with
  | zero => rfl
  | succ k ih => rw [List.range_succ, List.foldl_append, ih]; rfl
end Lw
namespace Lw
open PySem L2 Ev
theorem rngR_one (k : Nat) (h : k < 1000) (S : Store) : rngR (.int 1) (.int ((k : Nat) + 1 : Int)) S = .ok { xs := (List.range k).map fun i => D.int ((i : Nat) + 1 : Int) } S := by
  have e : smallR 1 ((k : Int) + 1) = true := by
    simp only [smallR, Bool.and_eq_true, decide_eq_true_eq]
    omega
  have hb : decide ((k : Int) + 1 - 1 ≤ (big : Nat)) = true := decide_eq_true (by have : big = 16777216 := rfl; omega)
  show okIf (smallR 1 ((k : Int) + 1) && decide ((k : Int) + 1 - 1 ≤ (big : Nat))) ({ xs := rangeD 1 ((k : Int) + 1) } : Items) S = _
  have hr : rangeD 1 ((k : Int) + 1) = (List.range k).map fun i => D.int ((i : Nat) + 1 : Int) := by
    unfold rangeD
    rw [show ((k : Int) + 1 - 1).toNat = k by omega]
    apply List.map_congr_left
    intro i _
    rw [Int.add_comm]
  rw [e, hb, hr]
  rfl
theorem forL_idx {I : Items} (hI : ∀ S, I.still S = true) {bt : D → Slots → Option Slots} {b : Slots → Store → RS} {X : Type} (enc : X → D) (Inv : Nat → Slots → Store → Prop) : ∀ (l : List X) (j : Nat) (τ : Slots) (S : Store), Inv j τ S →
    (∀ i (hi : i < l.length) τ S, Inv (j + i) τ S → ∃ τ1, bt (enc l[i]) τ = some τ1 ∧ ∃ τ2 S2, (b τ1 S = .nx τ2 S2 ∨ b τ1 S = .ct τ2 S2) ∧ Inv (j + i + 1) τ2 S2) →
    ∃ τ' S', forL I bt b (l.map enc) τ S = .nx τ' S' ∧ Inv (j + l.length) τ' S'
  | [], j, τ, S, h0, _ => ⟨τ, S, by simp [forL, hI], h0⟩
  | x :: l, j, τ, S, h0, h => by
    obtain ⟨τ1, h1, τ2, S2, h2, h3⟩ := h 0 (by simp) τ S h0
    obtain ⟨τ', S', q1, q2⟩ := forL_idx hI (bt := bt) (b := b) enc Inv l (j + 1) τ2 S2 h3 (fun i hi τ S hv => by
      obtain ⟨t1, g1, t2, s2, g2, g3⟩ := h (i + 1) (by simp; omega) τ S (by rwa [show j + (i + 1) = j + 1 + i by omega])
      exact ⟨t1, by simpa using g1, t2, s2, g2, by rwa [show j + 1 + i + 1 = j + (i + 1) + 1 by omega]⟩)
    refine ⟨τ', S', ?_, by rw [List.length_cons, show j + (l.length + 1) = j + 1 + l.length by omega]; exact q2⟩
    simp only [List.getElem_cons_zero] at h1
    simp only [List.map_cons, forL, hI, if_true, h1]
    rcases h2 with h2 | h2 <;> simp only [h2] <;> exact q1
theorem forB_idx {cl : Nat → List D → Store → R D} {t : CT} {b : List CS} {τ : Slots} {S : Store} {z : RS} {X : Type} {l : List X} {enc : X → D} (hf : forB cl t b τ { xs := l.map enc } S = z) (Inv : Nat → Slots → Store → Prop)
    (h : ∀ i (hi : i < l.length) τ S, Inv i τ S → ∃ τ1, bindT t (enc l[i]) τ = some τ1 ∧ ∃ τ2 S2, (evB cl b τ1 S = .nx τ2 S2 ∨ evB cl b τ1 S = .ct τ2 S2) ∧ Inv (i + 1) τ2 S2) (h0 : Inv 0 τ S) : ∃ τ' S', z = .nx τ' S' ∧ Inv l.length τ' S' := by
  obtain ⟨τ', S', q1, q2⟩ := forL_idx (I := { xs := l.map enc }) (fun _ => rfl) (bt := bindT t) (b := evB cl b) enc Inv l 0 τ S h0 (fun i hi τ S hv => by
    rw [Nat.zero_add] at hv ⊢; exact h i hi τ S hv)
  rw [Nat.zero_add] at q2
  exact ⟨τ', S', hf.symm.trans q1, q2⟩
theorem s_lots (n k : Nat) (run : Int) (hk : k ≤ 8) (S : Store) : evF fs (n + 2) 24 [.int ((k : Nat) + 1 : Int), .int run] S = .ok (.lst ((lotsN run k).map eB)) S := by
  rw [u24]
  simp only [e_int, e_bl, e_non, e_str, e_var, e_con, e_fnv, e_bin, y_bin1, y_bin, e_neg, e_not, y_not, y_notI, e_cmp, y_cmp1, y_cmp, e_chain, y_ch1, y_ch2, y_ch3, e_and, e_or, e_and1, e_or1, e_and2, e_or2, y_and, y_or, e_ite, y_ite, e_tup, y_tup0, y_tup1, y_tup2, y_tup3, y_tup4, y_tup5, e_lst, y_lst, e_idx, y_idx1, y_idx, e_sl, y_sl1, y_sl2, y_sl3, e_call, e_bi, y_bi, e_isi, y_isiI, y_isiB, y_isiB2, y_isiI2, y_isiT, y_isiS, y_isiL, e_lenset, e_meth, y_meth2, e_comp, y_comp, y_mk, y_mkT, m_f, m_t, e_o0, asI_int, e_o1, y_trB, e_c0, e_c1, e_nil, e_cons, y_es, y_con, i_val, y_valT, y_valL, i_rng2, y_rng, i_rng1, enuT_tup, i_enuT, i_zip, y_zip, t_set, y_set, setA_nil, setA_cons, t_par, tgtA_name, tgtA_pair, tgtA_three, t_tgt, t_setI, y_put1, y_put2, t_ret, y_ret, t_retN, t_ifs, y_ifs, t_wh, t_fors, t_ex, y_ex, t_brk, t_cnt, t_pass, t_nil, t_cons, q_nx, q_rt, q_bk, q_ct, q_if, n_if, n_rt, n_nx, g_ok, g_bl, g_int, g_bind, g_bindS, z_bind, z_bindS, z_o, z_if, z_no, List.getElem?_cons_zero, List.getElem?_cons_succ, Option.join_some, List.set_cons_zero, List.set_cons_succ, neg, wipeS, D.same, ix_0, ix_1, ix_2, sl_to, b_add, b_sub, b_mul, b_div, b_mod, b_pow, b_cat, b_catT, b_catL, c_lt, c_le, c_gt, c_ge, c_eqI, c_neI, c_eqS, c_neS, c_eqB, c_neB, c_isN, c_notN, c_memL, c_nmemL, c_memT, c_nmemT, k_lenT, k_lenL, k_lenR, k_lenS, k_intI, k_intB, k_abs, k_tupL, k_tupT, k_max2, k_min2, k_divmod, k_all, k_sorted, k_sum, List.length_cons, List.length_nil, List.length_map, if_true, Bool.true_and, Bool.and_true, Bool.not_true, Bool.not_false, decide_true, Bool.false_eq_true, if_false, Int.reduceLT, Int.reduceLE, Int.reduceNeg, Int.reducePow, Int.reduceAdd, Int.reduceSub, Int.reduceMul, Nat.reduceAdd, Nat.reducePow, Nat.reduceLT, Nat.reduceLeDiff, Int.reduceEq, cond_true, cond_false, Bool.cond_false_right, Bool.cond_false_left, Bool.cond_true_left, Bool.cond_true_right]
  rw [rngR_one k (by omega)]
  simp only [e_int, e_bl, e_non, e_str, e_var, e_con, e_fnv, e_bin, y_bin1, y_bin, e_neg, e_not, y_not, y_notI, e_cmp, y_cmp1, y_cmp, e_chain, y_ch1, y_ch2, y_ch3, e_and, e_or, e_and1, e_or1, e_and2, e_or2, y_and, y_or, e_ite, y_ite, e_tup, y_tup0, y_tup1, y_tup2, y_tup3, y_tup4, y_tup5, e_lst, y_lst, e_idx, y_idx1, y_idx, e_sl, y_sl1, y_sl2, y_sl3, e_call, e_bi, y_bi, e_isi, y_isiI, y_isiB, y_isiB2, y_isiI2, y_isiT, y_isiS, y_isiL, e_lenset, e_meth, y_meth2, e_comp, y_comp, y_mk, y_mkT, m_f, m_t, e_o0, asI_int, e_o1, y_trB, e_c0, e_c1, e_nil, e_cons, y_es, y_con, i_val, y_valT, y_valL, i_rng2, y_rng, i_rng1, enuT_tup, i_enuT, i_zip, y_zip, t_set, y_set, setA_nil, setA_cons, t_par, tgtA_name, tgtA_pair, tgtA_three, t_tgt, t_setI, y_put1, y_put2, t_ret, y_ret, t_retN, t_ifs, y_ifs, t_wh, t_fors, t_ex, y_ex, t_brk, t_cnt, t_pass, t_nil, t_cons, q_nx, q_rt, q_bk, q_ct, q_if, n_if, n_rt, n_nx, g_ok, g_bl, g_int, g_bind, g_bindS, z_bind, z_bindS, z_o, z_if, z_no, List.getElem?_cons_zero, List.getElem?_cons_succ, Option.join_some, List.set_cons_zero, List.set_cons_succ, neg, wipeS, D.same, ix_0, ix_1, ix_2, sl_to, b_add, b_sub, b_mul, b_div, b_mod, b_pow, b_cat, b_catT, b_catL, c_lt, c_le, c_gt, c_ge, c_eqI, c_neI, c_eqS, c_neS, c_eqB, c_neB, c_isN, c_notN, c_memL, c_nmemL, c_memT, c_nmemT, k_lenT, k_lenL, k_lenR, k_lenS, k_intI, k_intB, k_abs, k_tupL, k_tupT, k_max2, k_min2, k_divmod, k_all, k_sorted, k_sum, List.length_cons, List.length_nil, List.length_map, if_true, Bool.true_and, Bool.and_true, Bool.not_true, Bool.not_false, decide_true, Bool.false_eq_true, if_false, Int.reduceLT, Int.reduceLE, Int.reduceNeg, Int.reducePow, Int.reduceAdd, Int.reduceSub, Int.reduceMul, Nat.reduceAdd, Nat.reducePow, Nat.reduceLT, Nat.reduceLeDiff, Int.reduceEq, cond_true, cond_false, Bool.cond_false_right, Bool.cond_false_left, Bool.cond_true_left, Bool.cond_true_right]
  generalize hf : forB _ _ _ _ _ _ = z
  obtain ⟨τ', S', rfl, rfl, a3, a4, a5, rfl⟩ := forB_idx hf (fun j τ S' => S' = S ∧ ∃ a3 a4 a5, τ = [some (.int ((k : Nat) + 1 : Int)), some (.int run), some (.lst ((lotsN run j).map eB)), a3, a4, a5]) (by
    rintro j hj τ S ⟨rfl, a3, a4, a5, rfl⟩
    rw [List.length_range] at hj
    rw [List.getElem_range]
    refine ⟨_, rfl, [some (.int ((k : Nat) + 1 : Int)), some (.int run), some (.lst ((lotsN run (j + 1)).map eB)), some (.int ((j : Nat) + 1 : Int)), some (.lst ((((lotsN run j).filter (lotP run ((j : Int) + 1))).map (· ++ [(j : Int) + 1])).map eB)), a5], S, .inl ?_, rfl, _, _, _, rfl⟩
    simp only [e_int, e_bl, e_non, e_str, e_var, e_con, e_fnv, e_bin, y_bin1, y_bin, e_neg, e_not, y_not, y_notI, e_cmp, y_cmp1, y_cmp, e_chain, y_ch1, y_ch2, y_ch3, e_and, e_or, e_and1, e_or1, e_and2, e_or2, y_and, y_or, e_ite, y_ite, e_tup, y_tup0, y_tup1, y_tup2, y_tup3, y_tup4, y_tup5, e_lst, y_lst, e_idx, y_idx1, y_idx, e_sl, y_sl1, y_sl2, y_sl3, e_call, e_bi, y_bi, e_isi, y_isiI, y_isiB, y_isiB2, y_isiI2, y_isiT, y_isiS, y_isiL, e_lenset, e_meth, y_meth2, e_comp, y_comp, y_mk, y_mkT, m_f, m_t, e_o0, asI_int, e_o1, y_trB, e_c0, e_c1, e_nil, e_cons, y_es, y_con, i_val, y_valT, y_valL, i_rng2, y_rng, i_rng1, enuT_tup, i_enuT, i_zip, y_zip, t_set, y_set, setA_nil, setA_cons, t_par, tgtA_name, tgtA_pair, tgtA_three, t_tgt, t_setI, y_put1, y_put2, t_ret, y_ret, t_retN, t_ifs, y_ifs, t_wh, t_fors, t_ex, y_ex, t_brk, t_cnt, t_pass, t_nil, t_cons, q_nx, q_rt, q_bk, q_ct, q_if, n_if, n_rt, n_nx, g_ok, g_bl, g_int, g_bind, g_bindS, z_bind, z_bindS, z_o, z_if, z_no, List.getElem?_cons_zero, List.getElem?_cons_succ, Option.join_some, List.set_cons_zero, List.set_cons_succ, neg, getIx, seqOf, lstOf, rd, itemsOf, wipeS, D.same, ix_0, ix_1, ix_2, sl_to, b_add, b_sub, b_mul, b_div, b_mod, b_pow, b_cat, b_catT, b_catL, c_lt, c_le, c_gt, c_ge, c_eqI, c_neI, c_eqS, c_neS, c_eqB, c_neB, c_isN, c_notN, c_memL, c_nmemL, c_memT, c_nmemT, k_lenT, k_lenL, k_lenR, k_lenS, k_intI, k_intB, k_abs, k_tupL, k_tupT, k_max2, k_min2, k_divmod, k_all, k_sorted, k_sum, List.length_cons, List.length_nil, List.length_map, if_true, Bool.true_and, Bool.and_true, Bool.not_true, Bool.not_false, decide_true, Bool.false_eq_true, if_false, Int.reduceLT, Int.reduceLE, Int.reduceNeg, Int.reducePow, Int.reduceAdd, Int.reduceSub, Int.reduceMul, Nat.reduceAdd, Nat.reducePow, Nat.reduceLT, Nat.reduceLeDiff, Int.reduceEq, cond_true, cond_false, Bool.cond_false_right, Bool.cond_false_left, Bool.cond_true_left, Bool.cond_true_right]
    generalize hg : compB _ _ _ _ _ _ _ = y
    have q := compB_run hg (lotP run ((j : Int) + 1)) (fun lot => eB (lot ++ [(j : Int) + 1])) (by
      intro lot hlot
      have hs := lots_short run j lot hlot
      have hr := s_lrow n lot (eB lot) (fun i S => by unfold eB; rw [c_memT]) ((j : Int) + 1) (by omega) S
      refine ⟨_, rfl, ?_, fun _ => ?_⟩
      · simp only [e_int, e_bl, e_non, e_str, e_var, e_con, e_fnv, e_bin, y_bin1, y_bin, e_neg, e_not, y_not, y_notI, e_cmp, y_cmp1, y_cmp, e_chain, y_ch1, y_ch2, y_ch3, e_and, e_or, e_and1, e_or1, e_and2, e_or2, y_and, y_or, e_ite, y_ite, e_tup, y_tup0, y_tup1, y_tup2, y_tup3, y_tup4, y_tup5, e_lst, y_lst, e_idx, y_idx1, y_idx, e_sl, y_sl1, y_sl2, y_sl3, e_call, e_bi, y_bi, e_isi, y_isiI, y_isiB, y_isiB2, y_isiI2, y_isiT, y_isiS, y_isiL, e_lenset, e_meth, y_meth2, e_comp, y_comp, y_mk, y_mkT, m_f, m_t, e_o0, asI_int, e_o1, y_trB, e_c0, e_c1, e_nil, e_cons, y_es, y_con, i_val, y_valT, y_valL, i_rng2, y_rng, i_rng1, enuT_tup, i_enuT, i_zip, y_zip, t_set, y_set, setA_nil, setA_cons, t_par, tgtA_name, tgtA_pair, tgtA_three, t_tgt, t_setI, y_put1, y_put2, t_ret, y_ret, t_retN, t_ifs, y_ifs, t_wh, t_fors, t_ex, y_ex, t_brk, t_cnt, t_pass, t_nil, t_cons, q_nx, q_rt, q_bk, q_ct, q_if, n_if, n_rt, n_nx, g_ok, g_bl, g_int, g_bind, g_bindS, z_bind, z_bindS, z_o, z_if, z_no, List.getElem?_cons_zero, List.getElem?_cons_succ, Option.join_some, List.set_cons_zero, List.set_cons_succ, neg, wipeS, D.same, ix_0, ix_1, ix_2, sl_to, b_add, b_sub, b_mul, b_div, b_mod, b_pow, b_cat, b_catT, b_catL, c_lt, c_le, c_gt, c_ge, c_eqI, c_neI, c_eqS, c_neS, c_eqB, c_neB, c_isN, c_notN, c_memL, c_nmemL, c_memT, c_nmemT, k_lenT, k_lenL, k_lenR, k_lenS, k_intI, k_intB, k_abs, k_tupL, k_tupT, k_max2, k_min2, k_divmod, k_all, k_sorted, k_sum, List.length_cons, List.length_nil, List.length_map, if_true, Bool.true_and, Bool.and_true, Bool.not_true, Bool.not_false, decide_true, Bool.false_eq_true, if_false, Int.reduceLT, Int.reduceLE, Int.reduceNeg, Int.reducePow, Int.reduceAdd, Int.reduceSub, Int.reduceMul, Nat.reduceAdd, Nat.reducePow, Nat.reduceLT, Nat.reduceLeDiff, Int.reduceEq, cond_true, cond_false, Bool.cond_false_right, Bool.cond_false_left, Bool.cond_true_left, Bool.cond_true_right, hr]
        rfl
      · unfold eB
        simp only [e_int, e_bl, e_non, e_str, e_var, e_con, e_fnv, e_bin, y_bin1, y_bin, e_neg, e_not, y_not, y_notI, e_cmp, y_cmp1, y_cmp, e_chain, y_ch1, y_ch2, y_ch3, e_and, e_or, e_and1, e_or1, e_and2, e_or2, y_and, y_or, e_ite, y_ite, e_tup, y_tup0, y_tup1, y_tup2, y_tup3, y_tup4, y_tup5, e_lst, y_lst, e_idx, y_idx1, y_idx, e_sl, y_sl1, y_sl2, y_sl3, e_call, e_bi, y_bi, e_isi, y_isiI, y_isiB, y_isiB2, y_isiI2, y_isiT, y_isiS, y_isiL, e_lenset, e_meth, y_meth2, e_comp, y_comp, y_mk, y_mkT, m_f, m_t, e_o0, asI_int, e_o1, y_trB, e_c0, e_c1, e_nil, e_cons, y_es, y_con, i_val, y_valT, y_valL, i_rng2, y_rng, i_rng1, enuT_tup, i_enuT, i_zip, y_zip, t_set, y_set, setA_nil, setA_cons, t_par, tgtA_name, tgtA_pair, tgtA_three, t_tgt, t_setI, y_put1, y_put2, t_ret, y_ret, t_retN, t_ifs, y_ifs, t_wh, t_fors, t_ex, y_ex, t_brk, t_cnt, t_pass, t_nil, t_cons, q_nx, q_rt, q_bk, q_ct, q_if, n_if, n_rt, n_nx, g_ok, g_bl, g_int, g_bind, g_bindS, z_bind, z_bindS, z_o, z_if, z_no, List.getElem?_cons_zero, List.getElem?_cons_succ, Option.join_some, List.set_cons_zero, List.set_cons_succ, neg, getIx, seqOf, lstOf, rd, itemsOf, wipeS, D.same, ix_0, ix_1, ix_2, sl_to, b_add, b_sub, b_mul, b_div, b_mod, b_pow, b_cat, b_catT, b_catL, c_lt, c_le, c_gt, c_ge, c_eqI, c_neI, c_eqS, c_neS, c_eqB, c_neB, c_isN, c_notN, c_memL, c_nmemL, c_memT, c_nmemT, k_lenT, k_lenL, k_lenR, k_lenS, k_intI, k_intB, k_abs, k_tupL, k_tupT, k_max2, k_min2, k_divmod, k_all, k_sorted, k_sum, List.length_cons, List.length_nil, List.length_map, if_true, Bool.true_and, Bool.and_true, Bool.not_true, Bool.not_false, decide_true, Bool.false_eq_true, if_false, Int.reduceLT, Int.reduceLE, Int.reduceNeg, Int.reducePow, Int.reduceAdd, Int.reduceSub, Int.reduceMul, Nat.reduceAdd, Nat.reducePow, Nat.reduceLT, Nat.reduceLeDiff, Int.reduceEq, cond_true, cond_false, Bool.cond_false_right, Bool.cond_false_left, Bool.cond_true_left, Bool.cond_true_right]
        rw [decide_eq_true (by have : big = 16777216 := rfl; simp; omega)]
        simp only [e_int, e_bl, e_non, e_str, e_var, e_con, e_fnv, e_bin, y_bin1, y_bin, e_neg, e_not, y_not, y_notI, e_cmp, y_cmp1, y_cmp, e_chain, y_ch1, y_ch2, y_ch3, e_and, e_or, e_and1, e_or1, e_and2, e_or2, y_and, y_or, e_ite, y_ite, e_tup, y_tup0, y_tup1, y_tup2, y_tup3, y_tup4, y_tup5, e_lst, y_lst, e_idx, y_idx1, y_idx, e_sl, y_sl1, y_sl2, y_sl3, e_call, e_bi, y_bi, e_isi, y_isiI, y_isiB, y_isiB2, y_isiI2, y_isiT, y_isiS, y_isiL, e_lenset, e_meth, y_meth2, e_comp, y_comp, y_mk, y_mkT, m_f, m_t, e_o0, asI_int, e_o1, y_trB, e_c0, e_c1, e_nil, e_cons, y_es, y_con, i_val, y_valT, y_valL, i_rng2, y_rng, i_rng1, enuT_tup, i_enuT, i_zip, y_zip, t_set, y_set, setA_nil, setA_cons, t_par, tgtA_name, tgtA_pair, tgtA_three, t_tgt, t_setI, y_put1, y_put2, t_ret, y_ret, t_retN, t_ifs, y_ifs, t_wh, t_fors, t_ex, y_ex, t_brk, t_cnt, t_pass, t_nil, t_cons, q_nx, q_rt, q_bk, q_ct, q_if, n_if, n_rt, n_nx, g_ok, g_bl, g_int, g_bind, g_bindS, z_bind, z_bindS, z_o, z_if, z_no, List.getElem?_cons_zero, List.getElem?_cons_succ, Option.join_some, List.set_cons_zero, List.set_cons_succ, neg, getIx, seqOf, lstOf, rd, itemsOf, wipeS, D.same, ix_0, ix_1, ix_2, sl_to, b_add, b_sub, b_mul, b_div, b_mod, b_pow, b_cat, b_catT, b_catL, c_lt, c_le, c_gt, c_ge, c_eqI, c_neI, c_eqS, c_neS, c_eqB, c_neB, c_isN, c_notN, c_memL, c_nmemL, c_memT, c_nmemT, k_lenT, k_lenL, k_lenR, k_lenS, k_intI, k_intB, k_abs, k_tupL, k_tupT, k_max2, k_min2, k_divmod, k_all, k_sorted, k_sum, List.length_cons, List.length_nil, List.length_map, if_true, Bool.true_and, Bool.and_true, Bool.not_true, Bool.not_false, decide_true, Bool.false_eq_true, if_false, Int.reduceLT, Int.reduceLE, Int.reduceNeg, Int.reducePow, Int.reduceAdd, Int.reduceSub, Int.reduceMul, Nat.reduceAdd, Nat.reducePow, Nat.reduceLT, Nat.reduceLeDiff, Int.reduceEq, cond_true, cond_false, Bool.cond_false_right, Bool.cond_false_left, Bool.cond_true_left, Bool.cond_true_right]
        simp)
    subst q
    have hz : (lotsN run j).length + ((lotsN run j).filter (lotP run ((j : Int) + 1))).length ≤ big := by
      have h1 := lots_len run j
      have h2 := List.length_filter_le (lotP run ((j : Int) + 1)) (lotsN run j)
      have h3 : 2 ^ j ≤ 2 ^ 8 := Nat.pow_le_pow_right (by omega) (by omega)
      have : big = 16777216 := rfl
      omega
    simp only [e_int, e_bl, e_non, e_str, e_var, e_con, e_fnv, e_bin, y_bin1, y_bin, e_neg, e_not, y_not, y_notI, e_cmp, y_cmp1, y_cmp, e_chain, y_ch1, y_ch2, y_ch3, e_and, e_or, e_and1, e_or1, e_and2, e_or2, y_and, y_or, e_ite, y_ite, e_tup, y_tup0, y_tup1, y_tup2, y_tup3, y_tup4, y_tup5, e_lst, y_lst, e_idx, y_idx1, y_idx, e_sl, y_sl1, y_sl2, y_sl3, e_call, e_bi, y_bi, e_isi, y_isiI, y_isiB, y_isiB2, y_isiI2, y_isiT, y_isiS, y_isiL, e_lenset, e_meth, y_meth2, e_comp, y_comp, y_mk, y_mkT, m_f, m_t, e_o0, asI_int, e_o1, y_trB, e_c0, e_c1, e_nil, e_cons, y_es, y_con, i_val, y_valT, y_valL, i_rng2, y_rng, i_rng1, enuT_tup, i_enuT, i_zip, y_zip, t_set, y_set, setA_nil, setA_cons, t_par, tgtA_name, tgtA_pair, tgtA_three, t_tgt, t_setI, y_put1, y_put2, t_ret, y_ret, t_retN, t_ifs, y_ifs, t_wh, t_fors, t_ex, y_ex, t_brk, t_cnt, t_pass, t_nil, t_cons, q_nx, q_rt, q_bk, q_ct, q_if, n_if, n_rt, n_nx, g_ok, g_bl, g_int, g_bind, g_bindS, z_bind, z_bindS, z_o, z_if, z_no, List.getElem?_cons_zero, List.getElem?_cons_succ, Option.join_some, List.set_cons_zero, List.set_cons_succ, neg, getIx, seqOf, lstOf, rd, itemsOf, wipeS, D.same, ix_0, ix_1, ix_2, sl_to, b_add, b_sub, b_mul, b_div, b_mod, b_pow, b_cat, b_catT, b_catL, c_lt, c_le, c_gt, c_ge, c_eqI, c_neI, c_eqS, c_neS, c_eqB, c_neB, c_isN, c_notN, c_memL, c_nmemL, c_memT, c_nmemT, k_lenT, k_lenL, k_lenR, k_lenS, k_intI, k_intB, k_abs, k_tupL, k_tupT, k_max2, k_min2, k_divmod, k_all, k_sorted, k_sum, List.length_cons, List.length_nil, List.length_map, if_true, Bool.true_and, Bool.and_true, Bool.not_true, Bool.not_false, decide_true, Bool.false_eq_true, if_false, Int.reduceLT, Int.reduceLE, Int.reduceNeg, Int.reducePow, Int.reduceAdd, Int.reduceSub, Int.reduceMul, Nat.reduceAdd, Nat.reducePow, Nat.reduceLT, Nat.reduceLeDiff, Int.reduceEq, cond_true, cond_false, Bool.cond_false_right, Bool.cond_false_left, Bool.cond_true_left, Bool.cond_true_right, y_lst]
    rw [decide_eq_true hz]
    simp only [e_int, e_bl, e_non, e_str, e_var, e_con, e_fnv, e_bin, y_bin1, y_bin, e_neg, e_not, y_not, y_notI, e_cmp, y_cmp1, y_cmp, e_chain, y_ch1, y_ch2, y_ch3, e_and, e_or, e_and1, e_or1, e_and2, e_or2, y_and, y_or, e_ite, y_ite, e_tup, y_tup0, y_tup1, y_tup2, y_tup3, y_tup4, y_tup5, e_lst, y_lst, e_idx, y_idx1, y_idx, e_sl, y_sl1, y_sl2, y_sl3, e_call, e_bi, y_bi, e_isi, y_isiI, y_isiB, y_isiB2, y_isiI2, y_isiT, y_isiS, y_isiL, e_lenset, e_meth, y_meth2, e_comp, y_comp, y_mk, y_mkT, m_f, m_t, e_o0, asI_int, e_o1, y_trB, e_c0, e_c1, e_nil, e_cons, y_es, y_con, i_val, y_valT, y_valL, i_rng2, y_rng, i_rng1, enuT_tup, i_enuT, i_zip, y_zip, t_set, y_set, setA_nil, setA_cons, t_par, tgtA_name, tgtA_pair, tgtA_three, t_tgt, t_setI, y_put1, y_put2, t_ret, y_ret, t_retN, t_ifs, y_ifs, t_wh, t_fors, t_ex, y_ex, t_brk, t_cnt, t_pass, t_nil, t_cons, q_nx, q_rt, q_bk, q_ct, q_if, n_if, n_rt, n_nx, g_ok, g_bl, g_int, g_bind, g_bindS, z_bind, z_bindS, z_o, z_if, z_no, List.getElem?_cons_zero, List.getElem?_cons_succ, Option.join_some, List.set_cons_zero, List.set_cons_succ, neg, getIx, seqOf, lstOf, rd, itemsOf, wipeS, D.same, ix_0, ix_1, ix_2, sl_to, b_add, b_sub, b_mul, b_div, b_mod, b_pow, b_cat, b_catT, b_catL, c_lt, c_le, c_gt, c_ge, c_eqI, c_neI, c_eqS, c_neS, c_eqB, c_neB, c_isN, c_notN, c_memL, c_nmemL, c_memT, c_nmemT, k_lenT, k_lenL, k_lenR, k_lenS, k_intI, k_intB, k_abs, k_tupL, k_tupT, k_max2, k_min2, k_divmod, k_all, k_sorted, k_sum, List.length_cons, List.length_nil, List.length_map, if_true, Bool.true_and, Bool.and_true, Bool.not_true, Bool.not_false, decide_true, Bool.false_eq_true, if_false, Int.reduceLT, Int.reduceLE, Int.reduceNeg, Int.reducePow, Int.reduceAdd, Int.reduceSub, Int.reduceMul, Nat.reduceAdd, Nat.reducePow, Nat.reduceLT, Nat.reduceLeDiff, Int.reduceEq, cond_true, cond_false, Bool.cond_false_right, Bool.cond_false_left, Bool.cond_true_left, Bool.cond_true_right]
    simp [lotsN, Function.comp_def]) ⟨rfl, none, none, none, rfl⟩
  simp only [e_int, e_bl, e_non, e_str, e_var, e_con, e_fnv, e_bin, y_bin1, y_bin, e_neg, e_not, y_not, y_notI, e_cmp, y_cmp1, y_cmp, e_chain, y_ch1, y_ch2, y_ch3, e_and, e_or, e_and1, e_or1, e_and2, e_or2, y_and, y_or, e_ite, y_ite, e_tup, y_tup0, y_tup1, y_tup2, y_tup3, y_tup4, y_tup5, e_lst, y_lst, e_idx, y_idx1, y_idx, e_sl, y_sl1, y_sl2, y_sl3, e_call, e_bi, y_bi, e_isi, y_isiI, y_isiB, y_isiB2, y_isiI2, y_isiT, y_isiS, y_isiL, e_lenset, e_meth, y_meth2, e_comp, y_comp, y_mk, y_mkT, m_f, m_t, e_o0, asI_int, e_o1, y_trB, e_c0, e_c1, e_nil, e_cons, y_es, y_con, i_val, y_valT, y_valL, i_rng2, y_rng, i_rng1, enuT_tup, i_enuT, i_zip, y_zip, t_set, y_set, setA_nil, setA_cons, t_par, tgtA_name, tgtA_pair, tgtA_three, t_tgt, t_setI, y_put1, y_put2, t_ret, y_ret, t_retN, t_ifs, y_ifs, t_wh, t_fors, t_ex, y_ex, t_brk, t_cnt, t_pass, t_nil, t_cons, q_nx, q_rt, q_bk, q_ct, q_if, n_if, n_rt, n_nx, g_ok, g_bl, g_int, g_bind, g_bindS, z_bind, z_bindS, z_o, z_if, z_no, List.getElem?_cons_zero, List.getElem?_cons_succ, Option.join_some, List.set_cons_zero, List.set_cons_succ, neg, getIx, seqOf, lstOf, rd, itemsOf, wipeS, D.same, ix_0, ix_1, ix_2, sl_to, b_add, b_sub, b_mul, b_div, b_mod, b_pow, b_cat, b_catT, b_catL, c_lt, c_le, c_gt, c_ge, c_eqI, c_neI, c_eqS, c_neS, c_eqB, c_neB, c_isN, c_notN, c_memL, c_nmemL, c_memT, c_nmemT, k_lenT, k_lenL, k_lenR, k_lenS, k_intI, k_intB, k_abs, k_tupL, k_tupT, k_max2, k_min2, k_divmod, k_all, k_sorted, k_sum, List.length_cons, List.length_nil, List.length_map, if_true, Bool.true_and, Bool.and_true, Bool.not_true, Bool.not_false, decide_true, Bool.false_eq_true, if_false, Int.reduceLT, Int.reduceLE, Int.reduceNeg, Int.reducePow, Int.reduceAdd, Int.reduceSub, Int.reduceMul, Nat.reduceAdd, Nat.reducePow, Nat.reduceLT, Nat.reduceLeDiff, Int.reduceEq, cond_true, cond_false, Bool.cond_false_right, Bool.cond_false_left, Bool.cond_true_left, Bool.cond_true_right, List.length_range]
end Lw
namespace Lw
open PySem L2 Ev
/-! ### all rows that the law leads -/
abbrev Rw3 := Lg × Int × Int
def rowsL (r : Rl) (k : Nat) (lot : List Int) : List Rw3 := (List.range (k + 1)).map fun t => row r lot (((t : Nat) : Int) + 1) 0 ((k : Int) + 1) []
def rowsN (r : Rl) (run : Int) (k : Nat) : List Rw3 := (lotsN run k).flatMap (rowsL r k)
theorem rows_play {r : Rl} {run : Int} {k : Nat} {x : Rw3} (h : x ∈ rowsN r run k) : Play r run 0 ((k : Int) + 1) [] x.1 x.2.1 x.2.2 := by
  obtain ⟨lot, h1, h2⟩ := List.mem_flatMap.mp h
  obtain ⟨t, ht, rfl⟩ := List.mem_map.mp h2
  have hs := (lots_short run k lot h1).2
  exact row_play r run lot _ (fun x hx => (hs x hx).2) _ 0 _ [] (Nat.lt_succ_self _) (by simp) fun lo B e hB => rowW_mono hB e
theorem play_rows {r : Rl} {run : Int} {k : Nat} {l : Lg} {a b : Int} (h : Play r run 0 ((k : Int) + 1) [] l a b) : (l, a, b) ∈ rowsN r run k := by
  have hb := play_brd h (by omega)
  have hi := play_in h (by omega)
  have h0 : (0 : Int) ∉ brd l := fun q => by have := hb _ q; omega
  have h1 : (0 : Int) + ((k : Int) + 1) ∉ brd l := fun q => by have := hb _ q; omega
  have hsh := play_short h (by omega) (brd l) h0 h1 (fun x _ _ => by simp) (by simp)
  obtain ⟨lot, g1, g2⟩ := lots_all run (brd l) (fun x hx => by have := hb x hx; exact ⟨by omega, hsh x hx (by omega) (by omega)⟩) k
  have hr := play_row h (by omega) lot (fun x q1 q2 => by rw [g2]; simp; omega)
  refine List.mem_flatMap.mpr ⟨lot, g1, List.mem_map.mpr ⟨(b - 1).toNat, List.mem_range.mpr (by omega), ?_⟩⟩
  rw [show ((((b - 1).toNat : Nat) : Int) + 1) = b by omega]
  exact hr
theorem rows_T {r : Rl} {run : Int} {k : Nat} : (∀ x ∈ rowsN r run k, ((x.1.length : Nat) : Int) ≤ T r run ((k : Int) + 1) []) ∧ ∃ x ∈ rowsN r run k, ((x.1.length : Nat) : Int) = T r run ((k : Int) + 1) [] ∧ x.1 = path r run ((k : Int) + 1) [] := by
  refine ⟨fun x hx => play_T (rows_play hx), ?_⟩
  obtain ⟨a, b, h⟩ := play_path r run _ 0 ((k : Int) + 1) [] (Nat.lt_succ_self _)
  have e : sh 0 (path r run ((k : Int) + 1) []) = path r run ((k : Int) + 1) [] := by simp [sh]
  rw [e] at h
  exact ⟨_, play_rows h, path_len r run _ _ _ (Nat.lt_succ_self _), rfl⟩
theorem rows_O {r : Rl} {run : Int} {k : Nat} : (∀ x ∈ rowsN r run k, x.2.2 - x.2.1 ≤ Op r run ((k : Int) + 1) []) ∧ ∃ x ∈ rowsN r run k, x.2.2 - x.2.1 = Op r run ((k : Int) + 1) [] := by
  refine ⟨fun x hx => play_O (rows_play hx), ?_⟩
  obtain ⟨l, a, b, h, hw⟩ := play_wide r run _ 0 ((k : Int) + 1) [] (Nat.lt_succ_self _)
  exact ⟨_, play_rows h, hw⟩
def stp (a : List Lg × Int) (x : Rw3) : List Lg × Int := (a.1 ++ [x.1], if x.2.2 - x.2.1 > a.2 then x.2.2 - x.2.1 else a.2)
theorem stp_logs : ∀ (l : List Rw3) (a : List Lg × Int), (l.foldl stp a).1 = a.1 ++ l.map (·.1)
  | [], a => by simp
  | x :: l, a => by rw [List.foldl_cons, stp_logs l]; simp [stp]
theorem stp_wide : ∀ (l : List Rw3) (a : List Lg × Int), a.2 ≤ (l.foldl stp a).2 ∧ (∀ x ∈ l, x.2.2 - x.2.1 ≤ (l.foldl stp a).2) ∧ ((l.foldl stp a).2 = a.2 ∨ ∃ x ∈ l, (l.foldl stp a).2 = x.2.2 - x.2.1)
  | [], a => by simp
  | x :: l, a => by
    obtain ⟨h1, h2, h3⟩ := stp_wide l (stp a x)
    rw [List.foldl_cons]
    have hs : (stp a x).2 = if x.2.2 - x.2.1 > a.2 then x.2.2 - x.2.1 else a.2 := rfl
    refine ⟨by split at hs <;> omega, fun y hy => ?_, ?_⟩
    · rcases List.mem_cons.mp hy with rfl | hy
      · split at hs <;> omega
      · exact h2 y hy
    · rcases h3 with h3 | ⟨y, hy, h3⟩
      · split at hs
        · exact .inr ⟨x, List.mem_cons_self, by omega⟩
        · exact .inl (by omega)
      · exact .inr ⟨y, List.mem_cons_of_mem _ hy, h3⟩
theorem fold_flat {α β γ : Type} (f : β → List γ) (g : α → γ → α) : ∀ (l : List β) (a : α), l.foldl (fun a x => (f x).foldl g a) a = (l.flatMap f).foldl g a
  | [], a => rfl
  | x :: l, a => by rw [List.foldl_cons, fold_flat f g l, List.flatMap_cons, List.foldl_append]
theorem rows_wide {r : Rl} {run : Int} {k : Nat} : ((rowsN r run k).foldl stp ([], 0)).2 = Op r run ((k : Int) + 1) [] := by
  obtain ⟨h1, h2, h3⟩ := stp_wide (rowsN r run k) ([], 0)
  obtain ⟨g1, x, g2, g3⟩ := rows_O (r := r) (run := run) (k := k)
  have hp := Op_ge r run ((k : Int) + 1) [] (by omega)
  have q := h2 x g2
  rcases h3 with h3 | ⟨y, hy, h3⟩
  · simp only at h3; omega
  · have := g1 y hy; omega
theorem rows_due {r : Rl} {run : Int} {k : Nat} : maxL ((rowsN r run k).map fun x => ((x.1.length : Nat) : Int)) = T r run ((k : Int) + 1) [] := by
  obtain ⟨g1, x, g2, g3, _⟩ := rows_T (r := r) (run := run) (k := k)
  have hx : ((x.1.length : Nat) : Int) ∈ (rowsN r run k).map fun x => ((x.1.length : Nat) : Int) := List.mem_map.mpr ⟨x, g2, rfl⟩
  obtain ⟨m1, m2⟩ := maxL_mem _ (List.length_pos_of_mem hx)
  obtain ⟨y, hy, e⟩ := List.mem_map.mp m1
  have q1 := m2 _ hx
  have q2 := g1 y hy
  omega
theorem rows_len (r : Rl) (run : Int) (k : Nat) (hk : k ≤ 8) : (rowsN r run k).length ≤ 2304 := by
  have h := lots_len run k
  have h3 : 2 ^ k ≤ 2 ^ 8 := Nat.pow_le_pow_right (by omega) (by omega)
  have e : (rowsN r run k).length = (lotsN run k).length * (k + 1) := by
    unfold rowsN
    rw [List.length_flatMap]
    have : (List.map (fun a => (rowsL r k a).length) (lotsN run k)) = List.replicate (lotsN run k).length (k + 1) := by
      rw [List.eq_replicate_iff]
      refine ⟨by simp, fun b hb => ?_⟩
      obtain ⟨a, _, rfl⟩ := List.mem_map.mp hb
      simp [rowsL]
    rw [this, List.sum_replicate_nat]
  rw [e]
  have : (lotsN run k).length * (k + 1) ≤ 256 * 9 := Nat.mul_le_mul (by omega) (by omega)
  omega
end Lw
namespace Lw
open PySem L2 Ev
/-! ### short stretches: a cover -/
structure Sub (L : Int) (B : List Int) : Prop where
  asc : B.Pairwise (· < ·)
  inn : ∀ b ∈ B, 0 < b ∧ b < L
theorem Sub.nil (L : Int) : Sub L [] := ⟨.nil, by simp⟩
theorem Sub.ab {L : Int} {B : List Int} (h : Sub L B) (e : Int) : Sub (L - e) (ab e B) := by
  refine ⟨?_, fun b hb => ?_⟩
  · unfold Lw.ab
    rw [List.pairwise_map]
    exact (h.asc.filter _).imp fun {a b} q => by omega
  · obtain ⟨o, ho, rfl⟩ := List.mem_map.mp hb
    obtain ⟨h1, h2⟩ := List.mem_filter.mp ho
    have := h.inn o h1
    have := of_decide_eq_true h2
    omega
theorem Sub.be {L : Int} {B : List Int} (h : Sub L B) (e : Int) : Sub e (be e B) := by
  refine ⟨h.asc.filter _, fun b hb => ?_⟩
  obtain ⟨h1, h2⟩ := List.mem_filter.mp hb
  have := h.inn b h1
  have := of_decide_eq_true h2
  omega
theorem asc_nodup : ∀ {B : List Int}, B.Pairwise (· < ·) → B.Nodup := fun h => h.imp fun {a b} q => by omega
theorem asc_of {B : List Int} (h : B.Pairwise (· ≤ ·)) (n : B.Nodup) : B.Pairwise (· < ·) := by
  have := h.and n
  exact this.imp fun {a b} q => by have := q.1; have := q.2; omega
theorem Sub.add {L : Int} {B : List Int} (h : Sub L B) {e : Int} (he : e ∉ B) (h0 : 0 < e) (h1 : e < L) : Sub L (add e B) := by
  refine ⟨asc_of (isort_sorted _) ?_, fun b hb => ?_⟩
  · refine (isort_perm _).nodup_iff.mpr ?_
    rw [List.nodup_append]
    exact ⟨asc_nodup h.asc, by simp, fun a ha b hb e2 => by simp only [List.mem_singleton] at hb; subst hb; subst e2; exact he ha⟩
  · rcases (mem_add b).mp hb with q | rfl
    · exact h.inn b q
    · exact ⟨h0, h1⟩
def subs : Nat → List (List Int)
  | 0 => [[]]
  | k + 1 => subs k ++ (subs k).map (· ++ [(k : Int) + 1])
theorem subs_len : ∀ k, (subs k).length = 2 ^ k
  | 0 => rfl
  | k + 1 => by simp only [subs, List.length_append, List.length_map, subs_len k, Nat.pow_succ]; omega
theorem subs_sub : ∀ (k : Nat) (B : List Int), B ∈ subs k → Sub ((k : Int) + 1) B
  | 0, B, h => by simp only [subs, List.mem_singleton] at h; subst h; exact .nil _
  | k + 1, B, h => by
    simp only [subs, List.mem_append, List.mem_map] at h
    rcases h with h | ⟨A, h, rfl⟩
    · have := subs_sub k B h
      exact ⟨this.asc, fun b hb => by have := this.inn b hb; omega⟩
    · have := subs_sub k A h
      refine ⟨?_, fun b hb => ?_⟩
      · rw [List.pairwise_append]
        exact ⟨this.asc, by simp, fun a ha b hb => by simp only [List.mem_singleton] at hb; subst hb; have := this.inn a ha; omega⟩
      · rcases List.mem_append.mp hb with hb | hb
        · have := this.inn b hb; omega
        · simp only [List.mem_singleton] at hb; subst hb; omega
theorem sub_subs : ∀ (k : Nat) (B : List Int), Sub ((k : Int) + 1) B → B ∈ subs k
  | 0, B, h => by
    cases B with
    | nil => simp [subs]
    | cons b B => have := h.inn b List.mem_cons_self; omega
  | k + 1, B, h => by
    simp only [subs, List.mem_append, List.mem_map]
    by_cases hk : (k : Int) + 1 ∈ B
    · right
      have hne : B ≠ [] := List.ne_nil_of_mem hk
      have hl : B.getLast hne = (k : Int) + 1 := by
        have e := List.dropLast_concat_getLast hne
        have h1 := h.inn _ (List.getLast_mem hne)
        rw [← e] at hk
        rcases List.mem_append.mp hk with q | q
        · have hp := h.asc
          rw [← e, List.pairwise_append] at hp
          have := hp.2.2 _ q _ (List.mem_singleton.mpr rfl)
          omega
        · exact (List.mem_singleton.mp q).symm
      refine ⟨B.dropLast, sub_subs k _ ⟨?_, fun b hb => ?_⟩, by rw [← hl]; exact List.dropLast_concat_getLast hne⟩
      · exact h.asc.sublist (List.dropLast_sublist B)
      · have h1 := h.inn b (List.dropLast_subset B hb)
        have hp := h.asc
        rw [← List.dropLast_concat_getLast hne, List.pairwise_append] at hp
        have := hp.2.2 _ hb _ (List.mem_singleton.mpr rfl)
        omega
    · left
      refine sub_subs k B ⟨h.asc, fun b hb => ?_⟩
      have := h.inn b hb
      have : b ≠ (k : Int) + 1 := fun e => hk (e ▸ hb)
      omega
def shortC (k : Nat) : List Ky := (List.range k).flatMap fun i => (subs i).map fun B => (((i : Nat) : Int) + 1, B)
theorem shortC_mem {k : Nat} {L : Int} {B : List Int} : (L, B) ∈ shortC k ↔ 1 ≤ L ∧ L ≤ k ∧ Sub L B := by
  unfold shortC
  rw [List.mem_flatMap]
  constructor
  · rintro ⟨i, hi, h⟩
    obtain ⟨A, hA, e⟩ := List.mem_map.mp h
    have := List.mem_range.mp hi
    injection e with e1 e2
    subst e1; subst e2
    exact ⟨by omega, by omega, subs_sub i _ hA⟩
  · rintro ⟨h1, h2, h⟩
    refine ⟨(L - 1).toNat, List.mem_range.mpr (by omega), List.mem_map.mpr ⟨B, sub_subs _ B ?_, ?_⟩⟩
    · rwa [show (((L - 1).toNat : Nat) : Int) + 1 = L by omega]
    · rw [show (((L - 1).toNat : Nat) : Int) + 1 = L by omega]
theorem shortC_len : ∀ k, (shortC k).length < 2 ^ k
  | 0 => by decide
  | k + 1 => by
    have ih := shortC_len k
    have e : shortC (k + 1) = shortC k ++ (subs k).map fun B => (((k : Nat) : Int) + 1, B) := by
      unfold shortC
      rw [List.range_succ, List.flatMap_append]; simp
    rw [e, List.length_append, List.length_map, subs_len, Nat.pow_succ]; omega
theorem asc_len : ∀ (B : List Int) (L : Int), Sub L B → 0 < L → (B.length : Int) < L
  | B, L, h, h0 => by
    have := nodup_subG B ((List.range L.toNat).map fun i => ((i : Nat) : Int)) (asc_nodup h.asc) (fun b hb => by
      have := h.inn b hb
      exact List.mem_map.mpr ⟨b.toNat, List.mem_range.mpr (by omega), by omega⟩)
    have h2 := nodup_subG ((0 : Int) :: B) ((List.range L.toNat).map fun i => ((i : Nat) : Int)) (by
      rw [List.nodup_cons]; exact ⟨fun q => by have := h.inn 0 q; omega, asc_nodup h.asc⟩) (fun b hb => by
      rcases List.mem_cons.mp hb with rfl | hb
      · exact List.mem_map.mpr ⟨0, List.mem_range.mpr (by omega), rfl⟩
      · have := h.inn b hb
        exact List.mem_map.mpr ⟨b.toNat, List.mem_range.mpr (by omega), by omega⟩)
    simp at h2
    omega
theorem covS (r : Rl) (run : Int) (k : Nat) (hk : k ≤ 23) (hp : r.ps.length ≤ 4) : Cov r run (shortC k) Int.toNat where
  pl := hp
  few := by
    have := shortC_len k
    have h3 : 2 ^ k ≤ 2 ^ 23 := Nat.pow_le_pow_right (by omega) hk
    have : big = 16777216 := rfl
    omega
  len := fun x hx => by
    obtain ⟨L, B⟩ := x
    obtain ⟨h1, h2, h3⟩ := shortC_mem.mp hx
    have := asc_len B L h3 (by omega)
    simp only; omega
  next := fun L B e hC he => by
    obtain ⟨h1, h2, h3⟩ := shortC_mem.mp hC
    obtain ⟨n1, n2, n3, _⟩ := nxt_some he
    refine ⟨shortC_mem.mpr ⟨by omega, by omega, h3.ab e⟩, shortC_mem.mpr ⟨by omega, by omega, h3.be e⟩, by omega, by omega, fun _ => shortC_mem.mpr ⟨h1, h2, h3.add n3 n1 n2⟩⟩
theorem T_mu (r : Rl) (run : Int) : ∀ (k : Nat) (L : Int) (B : List Int), mu r L B < k → T r run L B ≤ mu r L B
  | 0, _, _, h => by omega
  | k + 1, L, B, h => by
    cases e : nxt r 0 L B with
    | none => rw [T_none e]; omega
    | some e' =>
      obtain ⟨h1, h2, _⟩ := nxt_some e
      have m1 := mu_less (r := r) (L := L) (L' := L - e') (B := B) (B' := ab e' B) (by omega) (by omega)
      have m2 := mu_less (r := r) (L := L) (L' := e') (B := B) (B' := be e' B) (by omega) (by omega)
      have m3 := mu_add e
      have i1 := T_mu r run k (L - e') (ab e' B) (by omega)
      have i2 := T_mu r run k e' (be e' B) (by omega)
      have i3 := T_mu r run k L (add e' B) (by omega)
      rw [T_some e]
      split <;> omega
theorem mu_le (r : Rl) (L : Int) (B : List Int) (hp : r.ps.length ≤ 4) (m : Nat) (h : L ≤ m) : mu r L B ≤ 5 * m + 4 := by
  have h1 := cnt_le r L B
  have h2 : (r.ps.length + 1) * L.toNat ≤ 5 * m := Nat.mul_le_mul (by omega) (by omega)
  unfold mu; omega
theorem covLS (r : Rl) (run : Int) (k : Nat) (hk : k ≤ 23) (hp : r.ps.length ≤ 4) : CovL r run (shortC k) where
  inn := fun x hx b hb => by
    obtain ⟨L, B⟩ := x
    exact (shortC_mem.mp hx).2.2.inn b hb
  few := fun x hx => by
    obtain ⟨L, B⟩ := x
    obtain ⟨h1, h2, h3⟩ := shortC_mem.mp hx
    have h4 := T_mu r run _ L B (Nat.lt_succ_self _)
    have h5 := mu_le r L B hp k (by omega)
    simp only; omega
theorem okR_pl {r : Rl} (h : okR r = true) : r.ps.length ≤ 4 := by
  simp only [okR, Bool.and_eq_true, decide_eq_true_eq] at h
  exact h.1.1.2
/-- the numbers by turns -/
def Tf (r : Rl) (run : Int) : Nat → Int → List Int → Int
  | 0, _, _ => 0
  | k + 1, L, B => match nxt r 0 L B with
    | none => 0
    | some e => 1 + (if rowW B e ≤ run then max (max (Tf r run k (L - e) (ab e B)) (Tf r run k e (be e B))) (Tf r run k L (add e B)) else max (Tf r run k (L - e) (ab e B)) (Tf r run k e (be e B)))
theorem T_Tf (r : Rl) (run : Int) : ∀ (k : Nat) (L : Int) (B : List Int), mu r L B < k → T r run L B = Tf r run k L B
  | 0, _, _, h => by omega
  | k + 1, L, B, h => by
    cases e : nxt r 0 L B with
    | none => rw [T_none e]; simp only [Tf, e]
    | some e' =>
      obtain ⟨h1, h2, _⟩ := nxt_some e
      have m1 := mu_less (r := r) (L := L) (L' := L - e') (B := B) (B' := ab e' B) (by omega) (by omega)
      have m2 := mu_less (r := r) (L := L) (L' := e') (B := B) (B' := be e' B) (by omega) (by omega)
      have m3 := mu_add e
      rw [T_some e, T_Tf r run k (L - e') (ab e' B) (by omega), T_Tf r run k e' (be e' B) (by omega), T_Tf r run k L (add e' B) (by omega)]
      simp only [Tf, e]
def Of (r : Rl) (run : Int) : Nat → Int → List Int → Int
  | 0, _, _ => 0
  | k + 1, L, B => match nxt r 0 L B with
    | none => L
    | some e => (if rowW B e ≤ run then max (max (Of r run k (L - e) (ab e B)) (Of r run k e (be e B))) (Of r run k L (add e B)) else max (Of r run k (L - e) (ab e B)) (Of r run k e (be e B)))
theorem O_Of (r : Rl) (run : Int) : ∀ (k : Nat) (L : Int) (B : List Int), mu r L B < k → Op r run L B = Of r run k L B
  | 0, _, _, h => by omega
  | k + 1, L, B, h => by
    cases e : nxt r 0 L B with
    | none => rw [Op_none e]; simp only [Of, e]
    | some e' =>
      obtain ⟨h1, h2, _⟩ := nxt_some e
      have m1 := mu_less (r := r) (L := L) (L' := L - e') (B := B) (B' := ab e' B) (by omega) (by omega)
      have m2 := mu_less (r := r) (L := L) (L' := e') (B := B) (B' := be e' B) (by omega) (by omega)
      have m3 := mu_add e
      rw [Op_some e, O_Of r run k (L - e') (ab e' B) (by omega), O_Of r run k e' (be e' B) (by omega), O_Of r run k L (add e' B) (by omega)]
      simp only [Of, e]
end Lw
namespace Lw
open PySem L2 Ev
theorem k_max1 (ns : List Int) (S : Store) : callB .max1 [.lst (ns.map .int)] S = okIf (decide (0 < ns.length)) (.int (maxL ns)) S := by
  simp only [callB, lstOf, Option.bind_some, allI_ints]
theorem ws_eq (a b : Wd) : (a.s == b.s) = decide (a = b) := by cases a <;> cases b <;> decide +kernel
theorem eqv_eT (a b : Int × Wd) : D.eqv (eT a) (eT b) = decide (a = b) := by
  obtain ⟨a1, a2⟩ := a
  obtain ⟨b1, b2⟩ := b
  simp only [eT, D.eqv, D.eqvL, ws_eq, Bool.and_true]
  by_cases h1 : a1 = b1 <;> by_cases h2 : a2 = b2 <;> simp [h1, h2]
theorem eqv_Lg : ∀ a b : Lg, D.eqvL (a.map eT) (b.map eT) = decide (a = b)
  | [], [] => rfl
  | [], _ :: _ => rfl
  | _ :: _, [] => rfl
  | x :: a, y :: b => by
    simp only [List.map_cons, D.eqvL, eqv_eT, eqv_Lg a b]
    by_cases h1 : x = y <;> by_cases h2 : a = b <;> simp [h1, h2]
theorem flat_eTs (n : Nat) : ∀ l : Lg, D.flatL (n + 1) (l.map eT) = true
  | [] => rfl
  | t :: l => by simp [D.flatL, D.flat, eT, flat_eTs n l]
theorem flat_eLgs (n : Nat) : ∀ l : List Lg, D.flatL (n + 2) (l.map eLg) = true
  | [] => rfl
  | t :: l => by simp [D.flatL, D.flat, eLg, flat_eTs n t, flat_eLgs n l]
theorem any_Lg (l : Lg) : ∀ ls : List Lg, ((ls.map eLg).any fun z => D.eqv z (eLg l)) = decide (l ∈ ls)
  | [] => rfl
  | a :: ls => by
    simp only [List.map_cons, List.any_cons, any_Lg l ls]
    have : D.eqv (eLg a) (eLg l) = decide (a = l) := by simp only [eLg, D.eqv, eqv_Lg]
    rw [this]
    by_cases h1 : a = l
    · subst h1; simp
    · have h2 : ¬ l = a := fun e => h1 e.symm
      simp [h1, h2]
theorem c_memLg (l : Lg) (ls : List Lg) (S : Store) : cmpop .mem (eLg l) (.lst (ls.map eLg)) S = .ok (.bl (decide (l ∈ ls))) S := by
  have f1 : (eLg l).flat 60 = true := by
    show D.flatL (58 + 1) (l.map eT) = true
    exact flat_eTs 58 l
  have f2 : D.flatL 60 (ls.map eLg) = true := flat_eLgs 58 ls
  show okIf ((eLg l).flat 60 && D.flatL 60 (ls.map eLg)) (D.bl ((ls.map eLg).any fun z => D.eqv z (eLg l))) S = _
  rw [f1, f2, any_Lg]
  rfl
def acc (r : Rl) (run : Int) (k j : Nat) : List Rw3 := ((lotsN run k).take j).flatMap (rowsL r k)
theorem acc_len (r : Rl) (run : Int) (k j : Nat) (hk : k ≤ 8) : (acc r run k j).length ≤ 2304 := by
  have h := rows_len r run k hk
  have e : rowsN r run k = acc r run k j ++ ((lotsN run k).drop j).flatMap (rowsL r k) := by
    unfold rowsN acc
    rw [← List.flatMap_append, List.take_append_drop]
  rw [e, List.length_append] at h
  omega
theorem acc_suc (r : Rl) (run : Int) (k j : Nat) (hj : j < (lotsN run k).length) : acc r run k (j + 1) = acc r run k j ++ rowsL r k (lotsN run k)[j] := by
  unfold acc
  rw [List.take_succ_eq_append_getElem hj, List.flatMap_append]; simp
def stR (rs : List Rw3) : List Lg × Int := rs.foldl stp ([], 0)
theorem stR_snoc (rs : List Rw3) (x : Rw3) : stR (rs ++ [x]) = ((stR rs).1 ++ [x.1], if x.2.2 - x.2.1 > (stR rs).2 then x.2.2 - x.2.1 else (stR rs).2) := by
  unfold stR
  rw [List.foldl_append]; rfl
theorem stR_len (rs : List Rw3) : (stR rs).1.length = rs.length := by
  unfold stR; rw [stp_logs]; simp
theorem s_right (n k : Nat) (r : Rl) (run : Int) (hk : k ≤ 8) (hR : okR r = true) (hr : 0 ≤ run ∧ run ≤ 2) (S : Store) :
    ∃ S1, evF fs (n + 18) 25 [eRl r, .int ((k : Int) + 1), .int run] S = .ok (.bl true) (S ++ S1) := by
  rw [u25]
  have hp := okR_pl hR
  have cov := covS r run 9 (by omega) hp
  have covL := covLS r run 9 (by omega) hp
  have hlots := s_lots (n + 15) k run hk S
  simp only [e_int, e_bl, e_non, e_str, e_var, e_con, e_fnv, e_bin, y_bin1, y_bin, e_neg, e_not, y_not, y_notI, e_cmp, y_cmp1, y_cmp, e_chain, y_ch1, y_ch2, y_ch3, e_and, e_or, e_and1, e_or1, e_and2, e_or2, y_and, y_or, e_ite, y_ite, e_tup, y_tup0, y_tup1, y_tup2, y_tup3, y_tup4, y_tup5, e_lst, y_lst, e_idx, y_idx1, y_idx, e_sl, y_sl1, y_sl2, y_sl3, e_call, e_bi, y_bi, e_isi, y_isiI, y_isiB, y_isiB2, y_isiI2, y_isiT, y_isiS, y_isiL, e_lenset, e_meth, y_meth2, e_comp, y_comp, y_mk, y_mkT, m_f, m_t, e_o0, asI_int, e_o1, y_trB, e_c0, e_c1, e_nil, e_cons, y_es, y_con, i_val, y_valT, y_valL, i_rng2, y_rng, i_rng1, enuT_tup, i_enuT, i_zip, y_zip, t_set, y_set, setA_nil, setA_cons, t_par, tgtA_name, tgtA_pair, tgtA_three, t_tgt, t_setI, y_put1, y_put2, t_ret, y_ret, t_retN, t_ifs, y_ifs, t_wh, t_fors, t_ex, y_ex, t_brk, t_cnt, t_pass, t_nil, t_cons, q_nx, q_rt, q_bk, q_ct, q_if, n_if, n_rt, n_nx, g_ok, g_bl, g_int, g_bind, g_bindS, z_bind, z_bindS, z_o, z_if, z_no, List.getElem?_cons_zero, List.getElem?_cons_succ, Option.join_some, List.set_cons_zero, List.set_cons_succ, neg, wipeS, D.same, ix_0, ix_1, ix_2, sl_to, b_add, b_sub, b_mul, b_div, b_mod, b_pow, b_cat, b_catT, b_catL, c_lt, c_le, c_gt, c_ge, c_eqI, c_neI, c_eqS, c_neS, c_eqB, c_neB, c_isN, c_notN, c_memL, c_nmemL, c_memT, c_nmemT, k_lenT, k_lenL, k_lenR, k_lenS, k_intI, k_intB, k_abs, k_tupL, k_tupT, k_max2, k_min2, k_divmod, k_all, k_sorted, k_sum, List.length_cons, List.length_nil, List.length_map, if_true, Bool.true_and, Bool.and_true, Bool.not_true, Bool.not_false, decide_true, Bool.false_eq_true, if_false, Int.reduceLT, Int.reduceLE, Int.reduceNeg, Int.reducePow, Int.reduceAdd, Int.reduceSub, Int.reduceMul, Nat.reduceAdd, Nat.reducePow, Nat.reduceLT, Nat.reduceLeDiff, Int.reduceEq, cond_true, cond_false, Bool.cond_false_right, Bool.cond_false_left, Bool.cond_true_left, Bool.cond_true_right, hlots, y_valL]
  generalize hf : forB _ _ _ _ _ _ = z
  obtain ⟨τ', S', rfl, rfl, a5, a6, a7, a8, a9, rfl⟩ := forB_idx hf (fun j τ S' => S = S' ∧ ∃ a5 a6 a7 a8 a9, τ = [some (eRl r), some (.int ((k : Int) + 1)), some (.int run), some (.lst ((stR (acc r run k j)).1.map eLg)), some (.int (stR (acc r run k j)).2), a5, a6, a7, a8, a9, none, none]) (by
    rintro j hj τ S ⟨rfl, a5, a6, a7, a8, a9, rfl⟩
    refine ⟨_, rfl, ?_⟩
    have e9 : rngR (.int 1) (.int ((k : Int) + 1 + 1)) S = .ok { xs := (List.range (k + 1)).map fun i => D.int ((i : Nat) + 1 : Int) } S := by
      have := rngR_one (k + 1) (by omega) S
      rwa [Int.natCast_succ] at this
    simp only [e_int, e_bl, e_non, e_str, e_var, e_con, e_fnv, e_bin, y_bin1, y_bin, e_neg, e_not, y_not, y_notI, e_cmp, y_cmp1, y_cmp, e_chain, y_ch1, y_ch2, y_ch3, e_and, e_or, e_and1, e_or1, e_and2, e_or2, y_and, y_or, e_ite, y_ite, e_tup, y_tup0, y_tup1, y_tup2, y_tup3, y_tup4, y_tup5, e_lst, y_lst, e_idx, y_idx1, y_idx, e_sl, y_sl1, y_sl2, y_sl3, e_call, e_bi, y_bi, e_isi, y_isiI, y_isiB, y_isiB2, y_isiI2, y_isiT, y_isiS, y_isiL, e_lenset, e_meth, y_meth2, e_comp, y_comp, y_mk, y_mkT, m_f, m_t, e_o0, asI_int, e_o1, y_trB, e_c0, e_c1, e_nil, e_cons, y_es, y_con, i_val, y_valT, y_valL, i_rng2, y_rng, i_rng1, enuT_tup, i_enuT, i_zip, y_zip, t_set, y_set, setA_nil, setA_cons, t_par, tgtA_name, tgtA_pair, tgtA_three, t_tgt, t_setI, y_put1, y_put2, t_ret, y_ret, t_retN, t_ifs, y_ifs, t_wh, t_fors, t_ex, y_ex, t_brk, t_cnt, t_pass, t_nil, t_cons, q_nx, q_rt, q_bk, q_ct, q_if, n_if, n_rt, n_nx, g_ok, g_bl, g_int, g_bind, g_bindS, z_bind, z_bindS, z_o, z_if, z_no, List.getElem?_cons_zero, List.getElem?_cons_succ, Option.join_some, List.set_cons_zero, List.set_cons_succ, neg, wipeS, D.same, ix_0, ix_1, ix_2, sl_to, b_add, b_sub, b_mul, b_div, b_mod, b_pow, b_cat, b_catT, b_catL, c_lt, c_le, c_gt, c_ge, c_eqI, c_neI, c_eqS, c_neS, c_eqB, c_neB, c_isN, c_notN, c_memL, c_nmemL, c_memT, c_nmemT, k_lenT, k_lenL, k_lenR, k_lenS, k_intI, k_intB, k_abs, k_tupL, k_tupT, k_max2, k_min2, k_divmod, k_all, k_sorted, k_sum, List.length_cons, List.length_nil, List.length_map, if_true, Bool.true_and, Bool.and_true, Bool.not_true, Bool.not_false, decide_true, Bool.false_eq_true, if_false, Int.reduceLT, Int.reduceLE, Int.reduceNeg, Int.reducePow, Int.reduceAdd, Int.reduceSub, Int.reduceMul, Nat.reduceAdd, Nat.reducePow, Nat.reduceLT, Nat.reduceLeDiff, Int.reduceEq, cond_true, cond_false, Bool.cond_false_right, Bool.cond_false_left, Bool.cond_true_left, Bool.cond_true_right, e9]
    generalize hg : forB _ _ _ _ _ _ = y
    obtain ⟨τ', S', rfl, rfl, a6, a7, a8, a9, rfl⟩ := forB_idx hg (fun i τ S' => S = S' ∧ ∃ a6 a7 a8 a9, τ = [some (eRl r), some (.int ((k : Int) + 1)), some (.int run), some (.lst ((stR (acc r run k j ++ (rowsL r k (lotsN run k)[j]).take i)).1.map eLg)), some (.int (stR (acc r run k j ++ (rowsL r k (lotsN run k)[j]).take i)).2), some (eB (lotsN run k)[j]), a6, a7, a8, a9, none, none]) (by
      rintro i hi τ S ⟨rfl, a6, a7, a8, a9, rfl⟩
      rw [List.length_range] at hi
      rw [List.getElem_range]
      refine ⟨_, rfl, ?_⟩
      have hled := s_led (n + 15) r ((k : Int) + 1) ((i : Int) + 1) (lotsN run k)[j] (by have := mu_le r ((k : Int) + 1) [] hp 9 (by omega); omega) S
      have hx : (rowsL r k (lotsN run k)[j]).take (i + 1) = (rowsL r k (lotsN run k)[j]).take i ++ [row r (lotsN run k)[j] ((i : Int) + 1) 0 ((k : Int) + 1) []] := by
        have hl : i < (rowsL r k (lotsN run k)[j]).length := by simp [rowsL]; omega
        rw [List.take_succ_eq_append_getElem hl]
        simp [rowsL]
      have hlen := stR_len (acc r run k j ++ (rowsL r k (lotsN run k)[j]).take i)
      have hb : decide (((stR (acc r run k j ++ (rowsL r k (lotsN run k)[j]).take i)).1.map eLg).length + 1 ≤ big) = true := decide_eq_true (by
        have := acc_len r run k j hk
        have h3 : (rowsL r k (lotsN run k)[j]).length = k + 1 := by simp [rowsL]
        rw [List.length_map, hlen, List.length_append, List.length_take]
        have : big = 16777216 := rfl
        omega)
      refine ⟨[some (eRl r), some (.int ((k : Int) + 1)), some (.int run), some (.lst ((stR (acc r run k j ++ (rowsL r k (lotsN run k)[j]).take (i + 1))).1.map eLg)), some (.int (stR (acc r run k j ++ (rowsL r k (lotsN run k)[j]).take (i + 1))).2), some (eB (lotsN run k)[j]), some (.int ((i : Int) + 1)), some (eLg (row r (lotsN run k)[j] ((i : Int) + 1) 0 ((k : Int) + 1) []).1), some (.int (row r (lotsN run k)[j] ((i : Int) + 1) 0 ((k : Int) + 1) []).2.1), some (.int (row r (lotsN run k)[j] ((i : Int) + 1) 0 ((k : Int) + 1) []).2.2), none, none], S, .inl ?_, rfl, _, _, _, _, rfl⟩
      rw [hx, ← List.append_assoc, stR_snoc]
      simp only [List.length_map] at hb
      simp only [e_int, e_bl, e_non, e_str, e_var, e_con, e_fnv, e_bin, y_bin1, y_bin, e_neg, e_not, y_not, y_notI, e_cmp, y_cmp1, y_cmp, e_chain, y_ch1, y_ch2, y_ch3, e_and, e_or, e_and1, e_or1, e_and2, e_or2, y_and, y_or, e_ite, y_ite, e_tup, y_tup0, y_tup1, y_tup2, y_tup3, y_tup4, y_tup5, e_lst, y_lst, e_idx, y_idx1, y_idx, e_sl, y_sl1, y_sl2, y_sl3, e_call, e_bi, y_bi, e_isi, y_isiI, y_isiB, y_isiB2, y_isiI2, y_isiT, y_isiS, y_isiL, e_lenset, e_meth, y_meth2, e_comp, y_comp, y_mk, y_mkT, m_f, m_t, e_o0, asI_int, e_o1, y_trB, e_c0, e_c1, e_nil, e_cons, y_es, y_con, i_val, y_valT, y_valL, i_rng2, y_rng, i_rng1, enuT_tup, i_enuT, i_zip, y_zip, t_set, y_set, setA_nil, setA_cons, t_par, tgtA_name, tgtA_pair, tgtA_three, t_tgt, t_setI, y_put1, y_put2, t_ret, y_ret, t_retN, t_ifs, y_ifs, t_wh, t_fors, t_ex, y_ex, t_brk, t_cnt, t_pass, t_nil, t_cons, q_nx, q_rt, q_bk, q_ct, q_if, n_if, n_rt, n_nx, g_ok, g_bl, g_int, g_bind, g_bindS, z_bind, z_bindS, z_o, z_if, z_no, List.getElem?_cons_zero, List.getElem?_cons_succ, Option.join_some, List.set_cons_zero, List.set_cons_succ, neg, wipeS, D.same, ix_0, ix_1, ix_2, sl_to, b_add, b_sub, b_mul, b_div, b_mod, b_pow, b_cat, b_catT, b_catL, c_lt, c_le, c_gt, c_ge, c_eqI, c_neI, c_eqS, c_neS, c_eqB, c_neB, c_isN, c_notN, c_memL, c_nmemL, c_memT, c_nmemT, k_lenT, k_lenL, k_lenR, k_lenS, k_intI, k_intB, k_abs, k_tupL, k_tupT, k_max2, k_min2, k_divmod, k_all, k_sorted, k_sum, List.length_cons, List.length_nil, List.length_map, if_true, Bool.true_and, Bool.and_true, Bool.not_true, Bool.not_false, decide_true, Bool.false_eq_true, if_false, Int.reduceLT, Int.reduceLE, Int.reduceNeg, Int.reducePow, Int.reduceAdd, Int.reduceSub, Int.reduceMul, Nat.reduceAdd, Nat.reducePow, Nat.reduceLT, Nat.reduceLeDiff, Int.reduceEq, cond_true, cond_false, Bool.cond_false_right, Bool.cond_false_left, Bool.cond_true_left, Bool.cond_true_right, hled, tgtA_nest, hb]
      simp) ⟨rfl, a6, a7, a8, a9, by simp only [List.take_zero, List.append_nil]⟩
    rw [List.length_range] at *
    have hfull : (rowsL r k (lotsN run k)[j]).take (k + 1) = rowsL r k (lotsN run k)[j] := List.take_of_length_le (by simp [rowsL])
    simp only [e_int, e_bl, e_non, e_str, e_var, e_con, e_fnv, e_bin, y_bin1, y_bin, e_neg, e_not, y_not, y_notI, e_cmp, y_cmp1, y_cmp, e_chain, y_ch1, y_ch2, y_ch3, e_and, e_or, e_and1, e_or1, e_and2, e_or2, y_and, y_or, e_ite, y_ite, e_tup, y_tup0, y_tup1, y_tup2, y_tup3, y_tup4, y_tup5, e_lst, y_lst, e_idx, y_idx1, y_idx, e_sl, y_sl1, y_sl2, y_sl3, e_call, e_bi, y_bi, e_isi, y_isiI, y_isiB, y_isiB2, y_isiI2, y_isiT, y_isiS, y_isiL, e_lenset, e_meth, y_meth2, e_comp, y_comp, y_mk, y_mkT, m_f, m_t, e_o0, asI_int, e_o1, y_trB, e_c0, e_c1, e_nil, e_cons, y_es, y_con, i_val, y_valT, y_valL, i_rng2, y_rng, i_rng1, enuT_tup, i_enuT, i_zip, y_zip, t_set, y_set, setA_nil, setA_cons, t_par, tgtA_name, tgtA_pair, tgtA_three, t_tgt, t_setI, y_put1, y_put2, t_ret, y_ret, t_retN, t_ifs, y_ifs, t_wh, t_fors, t_ex, y_ex, t_brk, t_cnt, t_pass, t_nil, t_cons, q_nx, q_rt, q_bk, q_ct, q_if, n_if, n_rt, n_nx, g_ok, g_bl, g_int, g_bind, g_bindS, z_bind, z_bindS, z_o, z_if, z_no, List.getElem?_cons_zero, List.getElem?_cons_succ, Option.join_some, List.set_cons_zero, List.set_cons_succ, neg, wipeS, D.same, ix_0, ix_1, ix_2, sl_to, b_add, b_sub, b_mul, b_div, b_mod, b_pow, b_cat, b_catT, b_catL, c_lt, c_le, c_gt, c_ge, c_eqI, c_neI, c_eqS, c_neS, c_eqB, c_neB, c_isN, c_notN, c_memL, c_nmemL, c_memT, c_nmemT, k_lenT, k_lenL, k_lenR, k_lenS, k_intI, k_intB, k_abs, k_tupL, k_tupT, k_max2, k_min2, k_divmod, k_all, k_sorted, k_sum, List.length_cons, List.length_nil, List.length_map, if_true, Bool.true_and, Bool.and_true, Bool.not_true, Bool.not_false, decide_true, Bool.false_eq_true, if_false, Int.reduceLT, Int.reduceLE, Int.reduceNeg, Int.reducePow, Int.reduceAdd, Int.reduceSub, Int.reduceMul, Nat.reduceAdd, Nat.reducePow, Nat.reduceLT, Nat.reduceLeDiff, Int.reduceEq, cond_true, cond_false, Bool.cond_false_right, Bool.cond_false_left, Bool.cond_true_left, Bool.cond_true_right, hfull, ← acc_suc r run k j hj]
    exact ⟨_, _, .inl rfl, rfl, _, _, _, _, _, rfl⟩) ⟨rfl, _, _, _, _, _, rfl⟩
  have hacc : acc r run k (lotsN run k).length = rowsN r run k := by unfold acc rowsN; rw [List.take_length]
  rw [hacc]
  simp only [e_int, e_bl, e_non, e_str, e_var, e_con, e_fnv, e_bin, y_bin1, y_bin, e_neg, e_not, y_not, y_notI, e_cmp, y_cmp1, y_cmp, e_chain, y_ch1, y_ch2, y_ch3, e_and, e_or, e_and1, e_or1, e_and2, e_or2, y_and, y_or, e_ite, y_ite, e_tup, y_tup0, y_tup1, y_tup2, y_tup3, y_tup4, y_tup5, e_lst, y_lst, e_idx, y_idx1, y_idx, e_sl, y_sl1, y_sl2, y_sl3, e_call, e_bi, y_bi, e_isi, y_isiI, y_isiB, y_isiB2, y_isiI2, y_isiT, y_isiS, y_isiL, e_lenset, e_meth, y_meth2, e_comp, y_comp, y_mk, y_mkT, m_f, m_t, e_o0, asI_int, e_o1, y_trB, e_c0, e_c1, e_nil, e_cons, y_es, y_con, i_val, y_valT, y_valL, i_rng2, y_rng, i_rng1, enuT_tup, i_enuT, i_zip, y_zip, t_set, y_set, setA_nil, setA_cons, t_par, tgtA_name, tgtA_pair, tgtA_three, t_tgt, t_setI, y_put1, y_put2, t_ret, y_ret, t_retN, t_ifs, y_ifs, t_wh, t_fors, t_ex, y_ex, t_brk, t_cnt, t_pass, t_nil, t_cons, q_nx, q_rt, q_bk, q_ct, q_if, n_if, n_rt, n_nx, g_ok, g_bl, g_int, g_bind, g_bindS, z_bind, z_bindS, z_o, z_if, z_no, List.getElem?_cons_zero, List.getElem?_cons_succ, Option.join_some, List.set_cons_zero, List.set_cons_succ, neg, wipeS, D.same, ix_0, ix_1, ix_2, sl_to, b_add, b_sub, b_mul, b_div, b_mod, b_pow, b_cat, b_catT, b_catL, c_lt, c_le, c_gt, c_ge, c_eqI, c_neI, c_eqS, c_neS, c_eqB, c_neB, c_isN, c_notN, c_memL, c_nmemL, c_memT, c_nmemT, k_lenT, k_lenL, k_lenR, k_lenS, k_intI, k_intB, k_abs, k_tupL, k_tupT, k_max2, k_min2, k_divmod, k_all, k_sorted, k_sum, List.length_cons, List.length_nil, List.length_map, if_true, Bool.true_and, Bool.and_true, Bool.not_true, Bool.not_false, decide_true, Bool.false_eq_true, if_false, Int.reduceLT, Int.reduceLE, Int.reduceNeg, Int.reducePow, Int.reduceAdd, Int.reduceSub, Int.reduceMul, Nat.reduceAdd, Nat.reducePow, Nat.reduceLT, Nat.reduceLeDiff, Int.reduceEq, cond_true, cond_false, Bool.cond_false_right, Bool.cond_false_left, Bool.cond_true_left, Bool.cond_true_right, y_valL]
  generalize hf : compB _ _ _ _ _ _ _ = z
  have q := compB_map hf (fun l => .int (l.length : Nat)) (by
    rintro l -
    refine ⟨_, rfl, ?_⟩
    simp only [e_int, e_bl, e_non, e_str, e_var, e_con, e_fnv, e_bin, y_bin1, y_bin, e_neg, e_not, y_not, y_notI, e_cmp, y_cmp1, y_cmp, e_chain, y_ch1, y_ch2, y_ch3, e_and, e_or, e_and1, e_or1, e_and2, e_or2, y_and, y_or, e_ite, y_ite, e_tup, y_tup0, y_tup1, y_tup2, y_tup3, y_tup4, y_tup5, e_lst, y_lst, e_idx, y_idx1, y_idx, e_sl, y_sl1, y_sl2, y_sl3, e_call, e_bi, y_bi, e_isi, y_isiI, y_isiB, y_isiB2, y_isiI2, y_isiT, y_isiS, y_isiL, e_lenset, e_meth, y_meth2, e_comp, y_comp, y_mk, y_mkT, m_f, m_t, e_o0, asI_int, e_o1, y_trB, e_c0, e_c1, e_nil, e_cons, y_es, y_con, i_val, y_valT, y_valL, i_rng2, y_rng, i_rng1, enuT_tup, i_enuT, i_zip, y_zip, t_set, y_set, setA_nil, setA_cons, t_par, tgtA_name, tgtA_pair, tgtA_three, t_tgt, t_setI, y_put1, y_put2, t_ret, y_ret, t_retN, t_ifs, y_ifs, t_wh, t_fors, t_ex, y_ex, t_brk, t_cnt, t_pass, t_nil, t_cons, q_nx, q_rt, q_bk, q_ct, q_if, n_if, n_rt, n_nx, g_ok, g_bl, g_int, g_bind, g_bindS, z_bind, z_bindS, z_o, z_if, z_no, List.getElem?_cons_zero, List.getElem?_cons_succ, Option.join_some, List.set_cons_zero, List.set_cons_succ, neg, wipeS, D.same, ix_0, ix_1, ix_2, sl_to, b_add, b_sub, b_mul, b_div, b_mod, b_pow, b_cat, b_catT, b_catL, c_lt, c_le, c_gt, c_ge, c_eqI, c_neI, c_eqS, c_neS, c_eqB, c_neB, c_isN, c_notN, c_memL, c_nmemL, c_memT, c_nmemT, k_lenT, k_lenL, k_lenR, k_lenS, k_intI, k_intB, k_abs, k_tupL, k_tupT, k_max2, k_min2, k_divmod, k_all, k_sorted, k_sum, List.length_cons, List.length_nil, List.length_map, if_true, Bool.true_and, Bool.and_true, Bool.not_true, Bool.not_false, decide_true, Bool.false_eq_true, if_false, Int.reduceLT, Int.reduceLE, Int.reduceNeg, Int.reducePow, Int.reduceAdd, Int.reduceSub, Int.reduceMul, Nat.reduceAdd, Nat.reducePow, Nat.reduceLT, Nat.reduceLeDiff, Int.reduceEq, cond_true, cond_false, Bool.cond_false_right, Bool.cond_false_left, Bool.cond_true_left, Bool.cond_true_right, lg_len])
  subst q
  have hl1 : (stR (rowsN r run k)).1 = (rowsN r run k).map (·.1) := by unfold stR; rw [stp_logs]; simp
  have hmap : (stR (rowsN r run k)).1.map (fun l => D.int ((l.length : Nat) : Int)) = ((rowsN r run k).map fun x => ((x.1.length : Nat) : Int)).map .int := by
    rw [hl1, List.map_map, List.map_map]; rfl
  have hwide : (stR (rowsN r run k)).2 = Op r run ((k : Int) + 1) [] := rows_wide
  have hpos : decide (0 < (rowsN r run k).length) = true := decide_eq_true (by
    obtain ⟨_, x, hx, _⟩ := rows_T (r := r) (run := run) (k := k)
    exact List.length_pos_of_mem hx)
  have hC : ((k : Int) + 1, ([] : List Int)) ∈ shortC 9 := shortC_mem.mpr ⟨by omega, by omega, .nil _⟩
  obtain ⟨o1, w1⟩ := s_worst cov ((k : Int) + 1) hC hR ⟨by omega, by unfold MOST; omega⟩ hr (n + 13) (by omega) S
  obtain ⟨o2, w2⟩ := s_lopenN cov ((k : Int) + 1) hC hR (by omega) hr (n + 13) (by omega) (S ++ [o1])
  obtain ⟨o3, w3⟩ := s_wlog cov covL ((k : Int) + 1) hC hR ⟨by omega, by unfold MOST; omega⟩ hr (n + 13) (by omega) (S ++ [o1] ++ [o2])
  have e1 : n + 13 + 4 = n + 17 := rfl
  rw [e1] at w1 w2 w3
  have hpl := path_len r run _ ((k : Int) + 1) [] (Nat.lt_succ_self _)
  have hin : path r run ((k : Int) + 1) [] ∈ (stR (rowsN r run k)).1 := by
    obtain ⟨_, x, hx, _, e⟩ := rows_T (r := r) (run := run) (k := k)
    rw [hl1, ← e]
    exact List.mem_map.mpr ⟨x, hx, rfl⟩
  refine ⟨[o1, o2, o3], ?_⟩
  rw [hmap]
  simp only [e_int, e_bl, e_non, e_str, e_var, e_con, e_fnv, e_bin, y_bin1, y_bin, e_neg, e_not, y_not, y_notI, e_cmp, y_cmp1, y_cmp, e_chain, y_ch1, y_ch2, y_ch3, e_and, e_or, e_and1, e_or1, e_and2, e_or2, y_and, y_or, e_ite, y_ite, e_tup, y_tup0, y_tup1, y_tup2, y_tup3, y_tup4, y_tup5, e_lst, y_lst, e_idx, y_idx1, y_idx, e_sl, y_sl1, y_sl2, y_sl3, e_call, e_bi, y_bi, e_isi, y_isiI, y_isiB, y_isiB2, y_isiI2, y_isiT, y_isiS, y_isiL, e_lenset, e_meth, y_meth2, e_comp, y_comp, y_mk, y_mkT, m_f, m_t, e_o0, asI_int, e_o1, y_trB, e_c0, e_c1, e_nil, e_cons, y_es, y_con, i_val, y_valT, y_valL, i_rng2, y_rng, i_rng1, enuT_tup, i_enuT, i_zip, y_zip, t_set, y_set, setA_nil, setA_cons, t_par, tgtA_name, tgtA_pair, tgtA_three, t_tgt, t_setI, y_put1, y_put2, t_ret, y_ret, t_retN, t_ifs, y_ifs, t_wh, t_fors, t_ex, y_ex, t_brk, t_cnt, t_pass, t_nil, t_cons, q_nx, q_rt, q_bk, q_ct, q_if, n_if, n_rt, n_nx, g_ok, g_bl, g_int, g_bind, g_bindS, z_bind, z_bindS, z_o, z_if, z_no, List.getElem?_cons_zero, List.getElem?_cons_succ, Option.join_some, List.set_cons_zero, List.set_cons_succ, neg, wipeS, D.same, ix_0, ix_1, ix_2, sl_to, b_add, b_sub, b_mul, b_div, b_mod, b_pow, b_cat, b_catT, b_catL, c_lt, c_le, c_gt, c_ge, c_eqI, c_neI, c_eqS, c_neS, c_eqB, c_neB, c_isN, c_notN, c_memL, c_nmemL, c_memT, c_nmemT, k_lenT, k_lenL, k_lenR, k_lenS, k_intI, k_intB, k_abs, k_tupL, k_tupT, k_max2, k_min2, k_divmod, k_all, k_sorted, k_sum, List.length_cons, List.length_nil, List.length_map, if_true, Bool.true_and, Bool.and_true, Bool.not_true, Bool.not_false, decide_true, Bool.false_eq_true, if_false, Int.reduceLT, Int.reduceLE, Int.reduceNeg, Int.reducePow, Int.reduceAdd, Int.reduceSub, Int.reduceMul, Nat.reduceAdd, Nat.reducePow, Nat.reduceLT, Nat.reduceLeDiff, Int.reduceEq, cond_true, cond_false, Bool.cond_false_right, Bool.cond_false_left, Bool.cond_true_left, Bool.cond_true_right, k_max1, hpos, rows_due, hwide, w1, w2, w3, lg_len, hpl, c_memLg, hin, beq_self_eq_true]
  simp
end Lw
namespace Lw
open PySem L2 Ev
theorem two2_app {S : Store} {p : Nat} (h : Two2 S p) (S1 : Store) : Two2 (S ++ S1) p := by
  obtain ⟨a, b, h⟩ := h
  exact ⟨a, b, by rw [List.getElem?_append_left (at_lt h)]; exact h⟩
def enC (x : Rl × Nat × Int) : D := .tup [eRl x.1, .int ((x.2.1 : Int) + 1), .int x.2.2]
def rP : Rl := ⟨1, false, [0]⟩
def rR : Rl := ⟨1, false, [0, 1, 2, 3]⟩
def rO : Rl := ⟨1, false, [0, 1, -1]⟩
def rX : Rl := ⟨1, true, [3, -3]⟩
theorem vT1 : T rO 2 5 [] = 4 := by rw [T_Tf rO 2 60 5 [] (by decide +kernel)]; decide +kernel
theorem vT2 : T rR 1 8 [] = 5 := by rw [T_Tf rR 1 60 8 [] (by decide +kernel)]; decide +kernel
theorem vO1 : Op rP 1 8 [] = 8 := by rw [O_Of rP 1 60 8 [] (by decide +kernel)]; decide +kernel
theorem hol : Holds := by
  intro ns hns
  show ∃ S, evF fs (20 + 1) 26 [script ns] [] = _
  rw [u26]
  obtain ⟨J, hJ, eJ⟩ : ∃ J : Nat, J ≤ 100 ∧ (if (if (ns.length : Int) + 3 < 9 then (ns.length : Int) + 3 else 9) > 4 then (if (ns.length : Int) + 3 < 9 then (ns.length : Int) + 3 else 9) else 4) = (J : Int) := by
    refine ⟨(if (if (ns.length : Int) + 3 < 9 then (ns.length : Int) + 3 else 9) > 4 then (if (ns.length : Int) + 3 < 9 then (ns.length : Int) + 3 else 9) else 4).toNat, ?_, ?_⟩ <;> (split <;> split <;> omega)
  unfold script
  simp only [e_int, e_bl, e_non, e_str, e_var, e_con, e_fnv, e_bin, y_bin1, y_bin, e_neg, e_not, y_not, y_notI, e_cmp, y_cmp1, y_cmp, e_chain, y_ch1, y_ch2, y_ch3, e_and, e_or, e_and1, e_or1, e_and2, e_or2, y_and, y_or, e_ite, y_ite, e_tup, y_tup0, y_tup1, y_tup2, y_tup3, y_tup4, y_tup5, e_lst, y_lst, e_idx, y_idx1, y_idx, e_sl, y_sl1, y_sl2, y_sl3, e_call, e_bi, y_bi, e_isi, y_isiI, y_isiB, y_isiB2, y_isiI2, y_isiT, y_isiS, y_isiL, e_lenset, e_meth, y_meth2, e_comp, y_comp, y_mk, y_mkT, m_f, m_t, e_o0, asI_int, e_o1, y_trB, e_c0, e_c1, e_nil, e_cons, y_es, y_con, i_val, y_valT, y_valL, i_rng2, y_rng, i_rng1, enuT_tup, i_enuT, i_zip, y_zip, t_set, y_set, setA_nil, setA_cons, t_par, tgtA_name, tgtA_pair, tgtA_three, t_tgt, t_setI, y_put1, y_put2, t_ret, y_ret, t_retN, t_ifs, y_ifs, t_wh, t_fors, t_ex, y_ex, t_brk, t_cnt, t_pass, t_nil, t_cons, q_nx, q_rt, q_bk, q_ct, q_if, n_if, n_rt, n_nx, g_ok, g_bl, g_int, g_bind, g_bindS, z_bind, z_bindS, z_o, z_if, z_no, List.getElem?_cons_zero, List.getElem?_cons_succ, Option.join_some, List.set_cons_zero, List.set_cons_succ, neg, getIx, seqOf, lstOf, rd, itemsOf, wipeS, D.same, ix_0, ix_1, ix_2, sl_to, b_add, b_sub, b_mul, b_div, b_mod, b_pow, b_cat, b_catT, b_catL, c_lt, c_le, c_gt, c_ge, c_eqI, c_neI, c_eqS, c_neS, c_eqB, c_neB, c_isN, c_notN, c_memL, c_nmemL, c_memT, c_nmemT, k_lenT, k_lenL, k_lenR, k_lenS, k_intI, k_intB, k_abs, k_tupL, k_tupT, k_max2, k_min2, k_divmod, k_all, k_sorted, k_sum, List.length_cons, List.length_nil, List.length_map, if_true, Bool.true_and, Bool.and_true, Bool.not_true, Bool.not_false, decide_true, Bool.false_eq_true, if_false, Int.reduceLT, Int.reduceLE, Int.reduceNeg, Int.reducePow, Int.reduceAdd, Int.reduceSub, Int.reduceMul, Nat.reduceAdd, Nat.reducePow, Nat.reduceLT, Nat.reduceLeDiff, Int.reduceEq, cond_true, cond_false, Bool.cond_false_right, Bool.cond_false_left, Bool.cond_true_left, Bool.cond_true_right, eJ]
  rw [rngS_nat J (by have : big = 16777216 := rfl; omega)]
  simp only [e_int, e_bl, e_non, e_str, e_var, e_con, e_fnv, e_bin, y_bin1, y_bin, e_neg, e_not, y_not, y_notI, e_cmp, y_cmp1, y_cmp, e_chain, y_ch1, y_ch2, y_ch3, e_and, e_or, e_and1, e_or1, e_and2, e_or2, y_and, y_or, e_ite, y_ite, e_tup, y_tup0, y_tup1, y_tup2, y_tup3, y_tup4, y_tup5, e_lst, y_lst, e_idx, y_idx1, y_idx, e_sl, y_sl1, y_sl2, y_sl3, e_call, e_bi, y_bi, e_isi, y_isiI, y_isiB, y_isiB2, y_isiI2, y_isiT, y_isiS, y_isiL, e_lenset, e_meth, y_meth2, e_comp, y_comp, y_mk, y_mkT, m_f, m_t, e_o0, asI_int, e_o1, y_trB, e_c0, e_c1, e_nil, e_cons, y_es, y_con, i_val, y_valT, y_valL, i_rng2, y_rng, i_rng1, enuT_tup, i_enuT, i_zip, y_zip, t_set, y_set, setA_nil, setA_cons, t_par, tgtA_name, tgtA_pair, tgtA_three, t_tgt, t_setI, y_put1, y_put2, t_ret, y_ret, t_retN, t_ifs, y_ifs, t_wh, t_fors, t_ex, y_ex, t_brk, t_cnt, t_pass, t_nil, t_cons, q_nx, q_rt, q_bk, q_ct, q_if, n_if, n_rt, n_nx, g_ok, g_bl, g_int, g_bind, g_bindS, z_bind, z_bindS, z_o, z_if, z_no, List.getElem?_cons_zero, List.getElem?_cons_succ, Option.join_some, List.set_cons_zero, List.set_cons_succ, neg, getIx, seqOf, lstOf, rd, itemsOf, wipeS, D.same, ix_0, ix_1, ix_2, sl_to, b_add, b_sub, b_mul, b_div, b_mod, b_pow, b_cat, b_catT, b_catL, c_lt, c_le, c_gt, c_ge, c_eqI, c_neI, c_eqS, c_neS, c_eqB, c_neB, c_isN, c_notN, c_memL, c_nmemL, c_memT, c_nmemT, k_lenT, k_lenL, k_lenR, k_lenS, k_intI, k_intB, k_abs, k_tupL, k_tupT, k_max2, k_min2, k_divmod, k_all, k_sorted, k_sum, List.length_cons, List.length_nil, List.length_map, if_true, Bool.true_and, Bool.and_true, Bool.not_true, Bool.not_false, decide_true, Bool.false_eq_true, if_false, Int.reduceLT, Int.reduceLE, Int.reduceNeg, Int.reducePow, Int.reduceAdd, Int.reduceSub, Int.reduceMul, Nat.reduceAdd, Nat.reducePow, Nat.reduceLT, Nat.reduceLeDiff, Int.reduceEq, cond_true, cond_false, Bool.cond_false_right, Bool.cond_false_left, Bool.cond_true_left, Bool.cond_true_right]
  generalize hf : forB _ _ _ _ _ _ = z
  obtain ⟨τ', S', rfl, a1, a2, a3, rfl⟩ := forB_inv hf (fun τ S => ∃ a1 a2 a3, τ = [some (.scr (ns.map .int)), a1, a2, a3, none, none, none, none, none, none]) (by
    rintro k - τ S ⟨a1, a2, a3, rfl⟩
    refine ⟨_, rfl, ?_⟩
    obtain ⟨x, y, ep⟩ := s_pail 19 ns k S
    unfold script at ep
    simp only [e_int, e_bl, e_non, e_str, e_var, e_con, e_fnv, e_bin, y_bin1, y_bin, e_neg, e_not, y_not, y_notI, e_cmp, y_cmp1, y_cmp, e_chain, y_ch1, y_ch2, y_ch3, e_and, e_or, e_and1, e_or1, e_and2, e_or2, y_and, y_or, e_ite, y_ite, e_tup, y_tup0, y_tup1, y_tup2, y_tup3, y_tup4, y_tup5, e_lst, y_lst, e_idx, y_idx1, y_idx, e_sl, y_sl1, y_sl2, y_sl3, e_call, e_bi, y_bi, e_isi, y_isiI, y_isiB, y_isiB2, y_isiI2, y_isiT, y_isiS, y_isiL, e_lenset, e_meth, y_meth2, e_comp, y_comp, y_mk, y_mkT, m_f, m_t, e_o0, asI_int, e_o1, y_trB, e_c0, e_c1, e_nil, e_cons, y_es, y_con, i_val, y_valT, y_valL, i_rng2, y_rng, i_rng1, enuT_tup, i_enuT, i_zip, y_zip, t_set, y_set, setA_nil, setA_cons, t_par, tgtA_name, tgtA_pair, tgtA_three, t_tgt, t_setI, y_put1, y_put2, t_ret, y_ret, t_retN, t_ifs, y_ifs, t_wh, t_fors, t_ex, y_ex, t_brk, t_cnt, t_pass, t_nil, t_cons, q_nx, q_rt, q_bk, q_ct, q_if, n_if, n_rt, n_nx, g_ok, g_bl, g_int, g_bind, g_bindS, z_bind, z_bindS, z_o, z_if, z_no, List.getElem?_cons_zero, List.getElem?_cons_succ, Option.join_some, List.set_cons_zero, List.set_cons_succ, neg, getIx, seqOf, lstOf, rd, itemsOf, wipeS, D.same, ix_0, ix_1, ix_2, sl_to, b_add, b_sub, b_mul, b_div, b_mod, b_pow, b_cat, b_catT, b_catL, c_lt, c_le, c_gt, c_ge, c_eqI, c_neI, c_eqS, c_neS, c_eqB, c_neB, c_isN, c_notN, c_memL, c_nmemL, c_memT, c_nmemT, k_lenT, k_lenL, k_lenR, k_lenS, k_intI, k_intB, k_abs, k_tupL, k_tupT, k_max2, k_min2, k_divmod, k_all, k_sorted, k_sum, List.length_cons, List.length_nil, List.length_map, if_true, Bool.true_and, Bool.and_true, Bool.not_true, Bool.not_false, decide_true, Bool.false_eq_true, if_false, Int.reduceLT, Int.reduceLE, Int.reduceNeg, Int.reducePow, Int.reduceAdd, Int.reduceSub, Int.reduceMul, Nat.reduceAdd, Nat.reducePow, Nat.reduceLT, Nat.reduceLeDiff, Int.reduceEq, cond_true, cond_false, Bool.cond_false_right, Bool.cond_false_left, Bool.cond_true_left, Bool.cond_true_right, ep]
    have e6 : ∀ S, rngS (.int 4) S = .ok { xs := (List.range 4).map fun i => .int (i : Nat) } S := fun S => rngS_nat 4 (by decide) S
    rw [e6]
    simp only [e_int, e_bl, e_non, e_str, e_var, e_con, e_fnv, e_bin, y_bin1, y_bin, e_neg, e_not, y_not, y_notI, e_cmp, y_cmp1, y_cmp, e_chain, y_ch1, y_ch2, y_ch3, e_and, e_or, e_and1, e_or1, e_and2, e_or2, y_and, y_or, e_ite, y_ite, e_tup, y_tup0, y_tup1, y_tup2, y_tup3, y_tup4, y_tup5, e_lst, y_lst, e_idx, y_idx1, y_idx, e_sl, y_sl1, y_sl2, y_sl3, e_call, e_bi, y_bi, e_isi, y_isiI, y_isiB, y_isiB2, y_isiI2, y_isiT, y_isiS, y_isiL, e_lenset, e_meth, y_meth2, e_comp, y_comp, y_mk, y_mkT, m_f, m_t, e_o0, asI_int, e_o1, y_trB, e_c0, e_c1, e_nil, e_cons, y_es, y_con, i_val, y_valT, y_valL, i_rng2, y_rng, i_rng1, enuT_tup, i_enuT, i_zip, y_zip, t_set, y_set, setA_nil, setA_cons, t_par, tgtA_name, tgtA_pair, tgtA_three, t_tgt, t_setI, y_put1, y_put2, t_ret, y_ret, t_retN, t_ifs, y_ifs, t_wh, t_fors, t_ex, y_ex, t_brk, t_cnt, t_pass, t_nil, t_cons, q_nx, q_rt, q_bk, q_ct, q_if, n_if, n_rt, n_nx, g_ok, g_bl, g_int, g_bind, g_bindS, z_bind, z_bindS, z_o, z_if, z_no, List.getElem?_cons_zero, List.getElem?_cons_succ, Option.join_some, List.set_cons_zero, List.set_cons_succ, neg, getIx, seqOf, lstOf, rd, itemsOf, wipeS, D.same, ix_0, ix_1, ix_2, sl_to, b_add, b_sub, b_mul, b_div, b_mod, b_pow, b_cat, b_catT, b_catL, c_lt, c_le, c_gt, c_ge, c_eqI, c_neI, c_eqS, c_neS, c_eqB, c_neB, c_isN, c_notN, c_memL, c_nmemL, c_memT, c_nmemT, k_lenT, k_lenL, k_lenR, k_lenS, k_intI, k_intB, k_abs, k_tupL, k_tupT, k_max2, k_min2, k_divmod, k_all, k_sorted, k_sum, List.length_cons, List.length_nil, List.length_map, if_true, Bool.true_and, Bool.and_true, Bool.not_true, Bool.not_false, decide_true, Bool.false_eq_true, if_false, Int.reduceLT, Int.reduceLE, Int.reduceNeg, Int.reducePow, Int.reduceAdd, Int.reduceSub, Int.reduceMul, Nat.reduceAdd, Nat.reducePow, Nat.reduceLT, Nat.reduceLeDiff, Int.reduceEq, cond_true, cond_false, Bool.cond_false_right, Bool.cond_false_left, Bool.cond_true_left, Bool.cond_true_right]
    generalize hf : forB _ _ _ _ _ _ = z
    obtain ⟨τ', S', rfl, a3, rfl, k'⟩ := forB_inv hf (fun τ S' => ∃ a3, τ = [some (.scr (ns.map .int)), some (.int (k : Nat)), some (.loc S.length), a3, none, none, none, none, none, none] ∧ Two2 S' S.length) (by
      rintro i - τ S0 ⟨a3, rfl, kS⟩
      refine ⟨_, rfl, ?_⟩
      obtain ⟨r, S1, er, hR, k1⟩ := s_a_rule 17 S.length S0 kS
      obtain ⟨m, o2, e2, h2, k2⟩ := s_cupN 19 S.length 8 S1 k1 (by omega) (by omega)
      obtain ⟨run, o3, e3, h3, k3⟩ := s_cupN 19 S.length 3 _ k2 (by omega) (by omega)
      obtain ⟨S4, e4⟩ := s_right 2 m r (run : Int) (by omega) hR (by omega) ((S1.set S.length o2).set S.length o3)
      have em : 1 + (m : Int) = (m : Int) + 1 := Int.add_comm _ _
      refine ⟨[some (.scr (ns.map .int)), some (.int (k : Nat)), some (.loc S.length), some (.int (i : Nat)), none, none, none, none, none, none], (S1.set S.length o2).set S.length o3 ++ S4, .inl ?_, _, rfl, two2_app k3 _⟩
      simp only [e_int, e_bl, e_non, e_str, e_var, e_con, e_fnv, e_bin, y_bin1, y_bin, e_neg, e_not, y_not, y_notI, e_cmp, y_cmp1, y_cmp, e_chain, y_ch1, y_ch2, y_ch3, e_and, e_or, e_and1, e_or1, e_and2, e_or2, y_and, y_or, e_ite, y_ite, e_tup, y_tup0, y_tup1, y_tup2, y_tup3, y_tup4, y_tup5, e_lst, y_lst, e_idx, y_idx1, y_idx, e_sl, y_sl1, y_sl2, y_sl3, e_call, e_bi, y_bi, e_isi, y_isiI, y_isiB, y_isiB2, y_isiI2, y_isiT, y_isiS, y_isiL, e_lenset, e_meth, y_meth2, e_comp, y_comp, y_mk, y_mkT, m_f, m_t, e_o0, asI_int, e_o1, y_trB, e_c0, e_c1, e_nil, e_cons, y_es, y_con, i_val, y_valT, y_valL, i_rng2, y_rng, i_rng1, enuT_tup, i_enuT, i_zip, y_zip, t_set, y_set, setA_nil, setA_cons, t_par, tgtA_name, tgtA_pair, tgtA_three, t_tgt, t_setI, y_put1, y_put2, t_ret, y_ret, t_retN, t_ifs, y_ifs, t_wh, t_fors, t_ex, y_ex, t_brk, t_cnt, t_pass, t_nil, t_cons, q_nx, q_rt, q_bk, q_ct, q_if, n_if, n_rt, n_nx, g_ok, g_bl, g_int, g_bind, g_bindS, z_bind, z_bindS, z_o, z_if, z_no, List.getElem?_cons_zero, List.getElem?_cons_succ, Option.join_some, List.set_cons_zero, List.set_cons_succ, neg, getIx, seqOf, lstOf, rd, itemsOf, wipeS, D.same, ix_0, ix_1, ix_2, sl_to, b_add, b_sub, b_mul, b_div, b_mod, b_pow, b_cat, b_catT, b_catL, c_lt, c_le, c_gt, c_ge, c_eqI, c_neI, c_eqS, c_neS, c_eqB, c_neB, c_isN, c_notN, c_memL, c_nmemL, c_memT, c_nmemT, k_lenT, k_lenL, k_lenR, k_lenS, k_intI, k_intB, k_abs, k_tupL, k_tupT, k_max2, k_min2, k_divmod, k_all, k_sorted, k_sum, List.length_cons, List.length_nil, List.length_map, if_true, Bool.true_and, Bool.and_true, Bool.not_true, Bool.not_false, decide_true, Bool.false_eq_true, if_false, Int.reduceLT, Int.reduceLE, Int.reduceNeg, Int.reducePow, Int.reduceAdd, Int.reduceSub, Int.reduceMul, Nat.reduceAdd, Nat.reducePow, Nat.reduceLT, Nat.reduceLeDiff, Int.reduceEq, cond_true, cond_false, Bool.cond_false_right, Bool.cond_false_left, Bool.cond_true_left, Bool.cond_true_right, er, e2, e3, em, e4]) ⟨_, rfl, x, y, app_new _ _⟩
    exact ⟨_, _, .inl rfl, _, _, _, rfl⟩) ⟨_, _, _, rfl⟩
  simp only [e_int, e_bl, e_non, e_str, e_var, e_con, e_fnv, e_bin, y_bin1, y_bin, e_neg, e_not, y_not, y_notI, e_cmp, y_cmp1, y_cmp, e_chain, y_ch1, y_ch2, y_ch3, e_and, e_or, e_and1, e_or1, e_and2, e_or2, y_and, y_or, e_ite, y_ite, e_tup, y_tup0, y_tup1, y_tup2, y_tup3, y_tup4, y_tup5, e_lst, y_lst, e_idx, y_idx1, y_idx, e_sl, y_sl1, y_sl2, y_sl3, e_call, e_bi, y_bi, e_isi, y_isiI, y_isiB, y_isiB2, y_isiI2, y_isiT, y_isiS, y_isiL, e_lenset, e_meth, y_meth2, e_comp, y_comp, y_mk, y_mkT, m_f, m_t, e_o0, asI_int, e_o1, y_trB, e_c0, e_c1, e_nil, e_cons, y_es, y_con, i_val, y_valT, y_valL, i_rng2, y_rng, i_rng1, enuT_tup, i_enuT, i_zip, y_zip, t_set, y_set, setA_nil, setA_cons, t_par, tgtA_name, tgtA_pair, tgtA_three, t_tgt, t_setI, y_put1, y_put2, t_ret, y_ret, t_retN, t_ifs, y_ifs, t_wh, t_fors, t_ex, y_ex, t_brk, t_cnt, t_pass, t_nil, t_cons, q_nx, q_rt, q_bk, q_ct, q_if, n_if, n_rt, n_nx, g_ok, g_bl, g_int, g_bind, g_bindS, z_bind, z_bindS, z_o, z_if, z_no, List.getElem?_cons_zero, List.getElem?_cons_succ, Option.join_some, List.set_cons_zero, List.set_cons_succ, neg, getIx, seqOf, lstOf, rd, itemsOf, wipeS, D.same, ix_0, ix_1, ix_2, sl_to, b_add, b_sub, b_mul, b_div, b_mod, b_pow, b_cat, b_catT, b_catL, c_lt, c_le, c_gt, c_ge, c_eqI, c_neI, c_eqS, c_neS, c_eqB, c_neB, c_isN, c_notN, c_memL, c_nmemL, c_memT, c_nmemT, k_lenT, k_lenL, k_lenR, k_lenS, k_intI, k_intB, k_abs, k_tupL, k_tupT, k_max2, k_min2, k_divmod, k_all, k_sorted, k_sum, List.length_cons, List.length_nil, List.length_map, if_true, Bool.true_and, Bool.and_true, Bool.not_true, Bool.not_false, decide_true, Bool.false_eq_true, if_false, Int.reduceLT, Int.reduceLE, Int.reduceNeg, Int.reducePow, Int.reduceAdd, Int.reduceSub, Int.reduceMul, Nat.reduceAdd, Nat.reducePow, Nat.reduceLT, Nat.reduceLeDiff, Int.reduceEq, cond_true, cond_false, Bool.cond_false_right, Bool.cond_false_left, Bool.cond_true_left, Bool.cond_true_right]
  generalize hL : ([D.tup [_, _, _], _, _, _, _] : List D) = xs
  have hxs : xs = ([(rO, 4, 2), (rR, 6, 2), (rR, 7, 1), (rP, 8, 0), (rX, 7, 1)] : List (Rl × Nat × Int)).map enC := hL.symm
  rw [hxs]
  generalize hf : forB _ _ _ _ _ _ = z
  obtain ⟨τ', S'', rfl, a7, a8, a9, rfl⟩ := forB_inv hf (fun τ S => ∃ a7 a8 a9, τ = [some (.scr (ns.map .int)), a1, a2, a3, some (eRl rP), some (eRl rR), some (eRl rO), a7, a8, a9]) (by
    rintro x hx τ S ⟨a7, a8, a9, rfl⟩
    have hh : okR x.1 = true ∧ x.2.1 ≤ 8 ∧ 0 ≤ x.2.2 ∧ x.2.2 ≤ 2 := by
      simp only [List.mem_cons, List.not_mem_nil, or_false] at hx
      rcases hx with rfl | rfl | rfl | rfl | rfl <;> decide +kernel
    obtain ⟨S4, e4⟩ := s_right 2 x.2.1 x.1 x.2.2 hh.2.1 hh.1 hh.2.2 S
    refine ⟨_, rfl, [some (.scr (ns.map .int)), a1, a2, a3, some (eRl rP), some (eRl rR), some (eRl rO), some (eRl x.1), some (.int ((x.2.1 : Int) + 1)), some (.int x.2.2)], S ++ S4, .inl ?_, _, _, _, rfl⟩
    simp only [e_int, e_bl, e_non, e_str, e_var, e_con, e_fnv, e_bin, y_bin1, y_bin, e_neg, e_not, y_not, y_notI, e_cmp, y_cmp1, y_cmp, e_chain, y_ch1, y_ch2, y_ch3, e_and, e_or, e_and1, e_or1, e_and2, e_or2, y_and, y_or, e_ite, y_ite, e_tup, y_tup0, y_tup1, y_tup2, y_tup3, y_tup4, y_tup5, e_lst, y_lst, e_idx, y_idx1, y_idx, e_sl, y_sl1, y_sl2, y_sl3, e_call, e_bi, y_bi, e_isi, y_isiI, y_isiB, y_isiB2, y_isiI2, y_isiT, y_isiS, y_isiL, e_lenset, e_meth, y_meth2, e_comp, y_comp, y_mk, y_mkT, m_f, m_t, e_o0, asI_int, e_o1, y_trB, e_c0, e_c1, e_nil, e_cons, y_es, y_con, i_val, y_valT, y_valL, i_rng2, y_rng, i_rng1, enuT_tup, i_enuT, i_zip, y_zip, t_set, y_set, setA_nil, setA_cons, t_par, tgtA_name, tgtA_pair, tgtA_three, t_tgt, t_setI, y_put1, y_put2, t_ret, y_ret, t_retN, t_ifs, y_ifs, t_wh, t_fors, t_ex, y_ex, t_brk, t_cnt, t_pass, t_nil, t_cons, q_nx, q_rt, q_bk, q_ct, q_if, n_if, n_rt, n_nx, g_ok, g_bl, g_int, g_bind, g_bindS, z_bind, z_bindS, z_o, z_if, z_no, List.getElem?_cons_zero, List.getElem?_cons_succ, Option.join_some, List.set_cons_zero, List.set_cons_succ, neg, getIx, seqOf, lstOf, rd, itemsOf, wipeS, D.same, ix_0, ix_1, ix_2, sl_to, b_add, b_sub, b_mul, b_div, b_mod, b_pow, b_cat, b_catT, b_catL, c_lt, c_le, c_gt, c_ge, c_eqI, c_neI, c_eqS, c_neS, c_eqB, c_neB, c_isN, c_notN, c_memL, c_nmemL, c_memT, c_nmemT, k_lenT, k_lenL, k_lenR, k_lenS, k_intI, k_intB, k_abs, k_tupL, k_tupT, k_max2, k_min2, k_divmod, k_all, k_sorted, k_sum, List.length_cons, List.length_nil, List.length_map, if_true, Bool.true_and, Bool.and_true, Bool.not_true, Bool.not_false, decide_true, Bool.false_eq_true, if_false, Int.reduceLT, Int.reduceLE, Int.reduceNeg, Int.reducePow, Int.reduceAdd, Int.reduceSub, Int.reduceMul, Nat.reduceAdd, Nat.reducePow, Nat.reduceLT, Nat.reduceLeDiff, Int.reduceEq, cond_true, cond_false, Bool.cond_false_right, Bool.cond_false_left, Bool.cond_true_left, Bool.cond_true_right, e4]) ⟨_, _, _, rfl⟩
  have w1 := s_worst (covS rO 2 9 (by omega) (by decide)) 5 (shortC_mem.mpr ⟨by omega, by omega, .nil _⟩) (by decide +kernel) ⟨by omega, by unfold MOST; omega⟩ (by omega) 16 (by decide) S''
  obtain ⟨o1, w1⟩ := w1
  obtain ⟨o2, w2⟩ := s_worst (covS rR 1 9 (by omega) (by decide)) 8 (shortC_mem.mpr ⟨by omega, by omega, .nil _⟩) (by decide +kernel) ⟨by omega, by unfold MOST; omega⟩ (by omega) 16 (by decide) (S'' ++ [o1])
  obtain ⟨o3, w3⟩ := s_lopenN (covS rP 1 9 (by omega) (by decide)) 8 (shortC_mem.mpr ⟨by omega, by omega, .nil _⟩) (by decide +kernel) (by omega) (by omega) 16 (by decide) (S'' ++ [o1] ++ [o2])
  rw [vT1] at w1
  rw [vT2] at w2
  rw [vO1] at w3
  refine ⟨S'' ++ [o1] ++ [o2] ++ [o3], ?_⟩
  simp only [e_int, e_bl, e_non, e_str, e_var, e_con, e_fnv, e_bin, y_bin1, y_bin, e_neg, e_not, y_not, y_notI, e_cmp, y_cmp1, y_cmp, e_chain, y_ch1, y_ch2, y_ch3, e_and, e_or, e_and1, e_or1, e_and2, e_or2, y_and, y_or, e_ite, y_ite, e_tup, y_tup0, y_tup1, y_tup2, y_tup3, y_tup4, y_tup5, e_lst, y_lst, e_idx, y_idx1, y_idx, e_sl, y_sl1, y_sl2, y_sl3, e_call, e_bi, y_bi, e_isi, y_isiI, y_isiB, y_isiB2, y_isiI2, y_isiT, y_isiS, y_isiL, e_lenset, e_meth, y_meth2, e_comp, y_comp, y_mk, y_mkT, m_f, m_t, e_o0, asI_int, e_o1, y_trB, e_c0, e_c1, e_nil, e_cons, y_es, y_con, i_val, y_valT, y_valL, i_rng2, y_rng, i_rng1, enuT_tup, i_enuT, i_zip, y_zip, t_set, y_set, setA_nil, setA_cons, t_par, tgtA_name, tgtA_pair, tgtA_three, t_tgt, t_setI, y_put1, y_put2, t_ret, y_ret, t_retN, t_ifs, y_ifs, t_wh, t_fors, t_ex, y_ex, t_brk, t_cnt, t_pass, t_nil, t_cons, q_nx, q_rt, q_bk, q_ct, q_if, n_if, n_rt, n_nx, g_ok, g_bl, g_int, g_bind, g_bindS, z_bind, z_bindS, z_o, z_if, z_no, List.getElem?_cons_zero, List.getElem?_cons_succ, Option.join_some, List.set_cons_zero, List.set_cons_succ, neg, getIx, seqOf, lstOf, rd, itemsOf, wipeS, D.same, ix_0, ix_1, ix_2, sl_to, b_add, b_sub, b_mul, b_div, b_mod, b_pow, b_cat, b_catT, b_catL, c_lt, c_le, c_gt, c_ge, c_eqI, c_neI, c_eqS, c_neS, c_eqB, c_neB, c_isN, c_notN, c_memL, c_nmemL, c_memT, c_nmemT, k_lenT, k_lenL, k_lenR, k_lenS, k_intI, k_intB, k_abs, k_tupL, k_tupT, k_max2, k_min2, k_divmod, k_all, k_sorted, k_sum, List.length_cons, List.length_nil, List.length_map, if_true, Bool.true_and, Bool.and_true, Bool.not_true, Bool.not_false, decide_true, Bool.false_eq_true, if_false, Int.reduceLT, Int.reduceLE, Int.reduceNeg, Int.reducePow, Int.reduceAdd, Int.reduceSub, Int.reduceMul, Nat.reduceAdd, Nat.reducePow, Nat.reduceLT, Nat.reduceLeDiff, Int.reduceEq, cond_true, cond_false, Bool.cond_false_right, Bool.cond_false_left, Bool.cond_true_left, Bool.cond_true_right, w1, w2, w3]
  rfl
end Lw
theorem PySem.Challenge.cw_barredhalves_k04_whole_worst_by_all_rows_holds : PySem.Challenge.rw_barredhalves_k04_whole_worst_by_all_rows.Holds :=
  Lw.end_ Lw.hol
