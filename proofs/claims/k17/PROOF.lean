import PyProof.Rows.All
import Wide.All
import OpenK.AllK
import Wide.FinOn
import HandS.ForMost
import HandS.Exc
import HandS.ExcValue
import HandS.Dict
import KE.KDictKeyed
import HandS.Lambda
import HandS.SortInts
import HandS.Wide
import HandS.TupAny
import HandS.TupMul
import PyProof.Rows.IntBool
import HandS.Deep
import HandS.Flow
import HandS.IsInst
import HandS.SetFor
import HandS.Zip
import HandS.ExcInit
import HandS.ExcIs
import HandS.ExcField
import KE.KSuper
import KE.KExcSuper
import KE.KExcIs
import HandS.Walk
import KE.GoesEnum
import HandS.Comp
import HandS.Strs
import HandS.Conv
import HandS.Text
import HandS.Style
import HandS.TryMany
import HandS.ExcOwn
import HandS.Codes
import HandS.Defaults
import HandS.Words
import HandS.HeadHook4
import HandS.HeadWalk
import HandS.EndTab
import HandS.HeadEnd
import HandS.Head0
import HandS.Head1
import HandS.Head2
import PySem.Challenge.RW_barredhalves_k17_errors_and_their_classe
set_option Elab.async false
set_option linter.all false
set_option maxRecDepth 100000
set_option maxHeartbeats 0
/-! Ev, part A: data, compact syntax, the evaluator. -/
namespace Ev
open PySem

/-- data: what a Python value is, without addresses; `loc` stands for an object that may change, `scr` for a list that is only read -/
inductive D where
  | non | bl (b : Bool) | int (i : Int) | str (x : Str)
  | tup (xs : List D) | lst (xs : List D)
  | loc (n : Nat) | fn (f : Nat) | cls (c : Nat)
  | scr (xs : List D)
  deriving Inhabited

mutual
def D.same : D → D → Bool
  | .non, .non => true
  | .bl a, .bl b => a == b
  | .int a, .int b => a == b
  | .str a, .str b => a == b
  | .tup a, .tup b => D.sameL a b
  | .lst a, .lst b => D.sameL a b
  | .loc a, .loc b => a == b
  | .fn a, .fn b => a == b
  | .cls a, .cls b => a == b
  | .scr a, .scr b => D.sameL a b
  | _, _ => false
def D.sameL : List D → List D → Bool
  | [], [] => true
  | x :: xs, y :: ys => D.same x y && D.sameL xs ys
  | _, _ => false
end

mutual
theorem D.same_eq : ∀ (a b : D), D.same a b = true ↔ a = b
  | .non, b => by cases b <;> simp [D.same]
  | .bl a, b => by cases b <;> simp [D.same]
  | .int a, b => by cases b <;> simp [D.same]
  | .str a, b => by cases b <;> simp [D.same]
  | .tup a, b => by cases b <;> simp [D.same, D.sameL_eq a]
  | .lst a, b => by cases b <;> simp [D.same, D.sameL_eq a]
  | .loc a, b => by cases b <;> simp [D.same]
  | .fn a, b => by cases b <;> simp [D.same]
  | .cls a, b => by cases b <;> simp [D.same]
  | .scr a, b => by cases b <;> simp [D.same, D.sameL_eq a]
theorem D.sameL_eq : ∀ (a b : List D), D.sameL a b = true ↔ a = b
  | [], b => by cases b <;> simp [D.sameL]
  | x :: xs, b => by cases b <;> simp [D.sameL, D.same_eq x, D.sameL_eq xs]
end
instance : DecidableEq D := fun a b => decidable_of_iff _ (D.same_eq a b)

/-- an object that may change -/
inductive MO where
  | list (xs : List D) | dict (kvs : List (D × D)) | ins (c : Nat) (fs : List (Str × D))
  /-- a code object's table -/
  | tbl (k : Nat)
  /-- a dict whose keys are ints -/
  | dcti (kvs : List (Int × D))
  deriving DecidableEq, Inhabited
abbrev Store := List MO
abbrev Slots := List (Option D)

inductive R (α : Type) where
  | ok (a : α) (S : Store)
  | ex (c : Nat) (pl : List (Str × D)) (S : Store)
  | bad
  deriving Inhabited
inductive RS where
  | nx (τ : Slots) (S : Store) | rt (d : D) (S : Store) | bk (τ : Slots) (S : Store) | ct (τ : Slots) (S : Store)
  | ex (c : Nat) (pl : List (Str × D)) (τ : Slots) (S : Store)
  | bad
  deriving Inhabited
def R.bind {α β : Type} (r : R α) (f : α → Store → R β) : R β := match r with
  | .ok a S => f a S
  | .ex c pl S => .ex c pl S
  | .bad => .bad
@[simp] theorem R.bind_ok {α β : Type} (a : α) (S : Store) (f : α → Store → R β) : (R.ok a S).bind f = f a S := rfl
@[simp] theorem R.bind_ex {α β : Type} (c pl S) (f : α → Store → R β) : (R.ex c pl S).bind f = .ex c pl S := rfl
@[simp] theorem R.bind_bad {α β : Type} (f : α → Store → R β) : (R.bad).bind f = .bad := rfl
/-- an evaluation that raises nothing -/
def noR {α : Type} : R α → R α
  | .ok a S => .ok a S
  | _ => .bad
@[simp] theorem noR_ok {α : Type} (a : α) (S : Store) : noR (R.ok a S) = .ok a S := rfl
def R.bindS {α : Type} (r : R α) (τ : Slots) (f : α → Store → RS) : RS := match r with
  | .ok a S => f a S
  | .ex c pl S => .ex c pl τ S
  | .bad => .bad
@[simp] theorem R.bindS_ok {α : Type} (a : α) (S : Store) (τ) (f : α → Store → RS) : (R.ok a S).bindS τ f = f a S := rfl
@[simp] theorem R.bindS_ex {α : Type} (c pl S τ) (f : α → Store → RS) : (R.ex c pl S).bindS τ f = .ex c pl τ S := rfl
@[simp] theorem R.bindS_bad {α : Type} (τ) (f : α → Store → RS) : (R.bad).bindS τ f = .bad := rfl

/-! ### operations on data -/
inductive BO where
  | add | sub | mul | fdiv | mod | pow
  deriving DecidableEq
inductive CO where
  | eq | ne | lt | le | gt | ge | isN | notN | mem | nmem
  deriving DecidableEq
inductive Ty where
  | int | bool | str | tup | list | own (c : Nat)
  deriving DecidableEq
inductive BI where
  | len | int | abs | bool | str | tuple | list | all | sum | max1 | min1 | max2 | min2 | sorted | divmod
  deriving DecidableEq
inductive MI where
  | append | clear | reverse
  deriving DecidableEq

def big : Nat := 16777216

/-- the items of a list or a tuple -/
def seqOf (S : Store) : D → Option (List D)
  | .lst xs => some xs
  | .scr xs => some xs
  | .tup xs => some xs
  | .loc n => match S[n]? with
    | some (.list xs) => some xs
    | _ => none
  | _ => none
/-- the items of a list -/
def lstOf (S : Store) : D → Option (List D)
  | .lst xs => some xs
  | .loc n => match S[n]? with
    | some (.list xs) => some xs
    | _ => none
  | _ => none
/-- the entries of a dict -/
def dictOf (S : Store) : D → Option (List (D × D))
  | .loc n => match S[n]? with
    | some (.dict kvs) => some kvs
    | _ => none
  | _ => none
def dctiOf (S : Store) : D → Option (List (Int × D))
  | .loc n => match S[n]? with
    | some (.dcti kvs) => some kvs
    | _ => none
  | _ => none
def lookI (kvs : List (Int × D)) (k : Int) : Option D := (kvs.find? fun p => decide (p.1 = k)).map (·.2)
def storeI (kvs : List (Int × D)) (k : Int) (v : D) : List (Int × D) := if (lookI kvs k).isSome then kvs.map (fun p => if p.1 = k then (p.1, v) else p) else kvs ++ [(k, v)]
mutual
/-- a key: whole numbers, texts, tuples of such -/
def D.key : Nat → D → Bool
  | _, .int _ => true
  | _, .str _ => true
  | n + 1, .tup xs => D.keyL n xs
  | _, _ => false
def D.keyL : Nat → List D → Bool
  | _, [] => true
  | n, x :: xs => D.key n x && D.keyL n xs
end
def keyT : D → Bool
  | .tup xs => D.keyL 7 xs
  | _ => false
def lookD (kvs : List (D × D)) (k : D) : Option D := (kvs.find? fun p => decide (p.1 = k)).map (·.2)
def storeD (kvs : List (D × D)) (k v : D) : List (D × D) := if (lookD kvs k).isSome then kvs.map (fun p => if p.1 = k then (p.1, v) else p) else kvs ++ [(k, v)]
/-- a list that may change, read as it stands -/
def rd (S : Store) : D → D
  | .loc n => match S[n]? with
    | some (.list xs) => .lst xs
    | _ => .loc n
  | d => d
mutual
/-- data of no more than so many layers, without objects that may change -/
def D.flat : Nat → D → Bool
  | _, .non => true
  | _, .bl _ => true
  | _, .int _ => true
  | _, .str _ => true
  | n + 1, .tup xs => D.flatL n xs
  | n + 1, .lst xs => D.flatL n xs
  | _, _ => false
def D.flatL : Nat → List D → Bool
  | _, [] => true
  | n, x :: xs => D.flat n x && D.flatL n xs
end
mutual
/-- Python's == of data -/
def D.eqv : D → D → Bool
  | .non, .non => true
  | .bl a, .bl b => a == b
  | .bl a, .int j => (if a then 1 else 0) == j
  | .int i, .bl b => i == (if b then 1 else 0)
  | .int a, .int b => a == b
  | .str a, .str b => a == b
  | .tup a, .tup b => D.eqvL a b
  | .lst a, .lst b => D.eqvL a b
  | _, _ => false
def D.eqvL : List D → List D → Bool
  | [], [] => true
  | x :: xs, y :: ys => D.eqv x y && D.eqvL xs ys
  | _, _ => false
end
/-- a place in a row, from behind where negative -/
def ix (n : Nat) (i : Int) : Option Nat := L2.ixN n i
def cut {α : Type} (xs : List α) (lo hi : Option Int) : List α :=
  (xs.drop (HT.sIx xs.length 0 lo)).take (HT.sIx xs.length xs.length hi - HT.sIx xs.length 0 lo)
def ins (x : Int) : List Int → List Int
  | [] => [x]
  | y :: r => if x ≤ y then x :: y :: r else y :: ins x r
def isort : List Int → List Int
  | [] => []
  | x :: r => ins x (isort r)
def maxL : List Int → Int
  | [] => 0
  | [x] => x
  | x :: r => if maxL r < x then x else maxL r
def minL : List Int → Int
  | [] => 0
  | [x] => x
  | x :: r => if x < minL r then x else minL r
def toI : D → Option Int
  | .int i => some i
  | _ => none
def toB : D → Option Bool
  | .bl b => some b
  | _ => none
def allI : List D → Option (List Int)
  | [] => some []
  | .int i :: r => (allI r).map (i :: ·)
  | _ => none
def allB : List D → Option (List Bool)
  | [] => some []
  | .bl i :: r => (allB r).map (i :: ·)
  | _ => none
def b2 (b : Bool) : Int := if b then 1 else 0
def okO {α : Type} (o : Option α) (S : Store) : R α := match o with
  | some a => .ok a S
  | none => .bad
@[simp] theorem okO_some {α : Type} (a : α) (S : Store) : okO (some a) S = .ok a S := rfl
@[simp] theorem okO_none {α : Type} (S : Store) : okO (none : Option α) S = .bad := rfl
def okIf {α : Type} (c : Bool) (a : α) (S : Store) : R α := if c then .ok a S else .bad
@[simp] theorem okIf_true {α : Type} (a : α) (S : Store) : okIf true a S = .ok a S := rfl

def truth : D → Option Bool
  | .bl b => some b
  | .int i => some (i != 0)
  | .non => some false
  | _ => none
def mulOk (i j : Int) : Bool := (decide (-(2 ^ 64) < i) && decide (i < 2 ^ 64)) || (decide (-(2 ^ 64) < j) && decide (j < 2 ^ 64)) || decide (i.natAbs.log2 + j.natAbs.log2 < 1000000)
def divOk (j : Int) : Bool := decide (0 < j) && decide (j.natAbs.log2 < 9000)

def binop (o : BO) (x y : D) (S : Store) : R D := match o, x, y with
  | .add, .int i, .int j => .ok (.int (i + j)) S
  | .sub, .int i, .int j => .ok (.int (i - j)) S
  | .mul, .int i, .int j => okIf (mulOk i j) (.int (i * j)) S
  | .fdiv, .int i, .int j => okIf (divOk j) (.int (i / j)) S
  | .mod, .int i, .int j => okIf (decide (0 < j)) (.int (i % j)) S
  | .pow, .int i, .int j => okIf (decide (0 ≤ j) && decide (j ≤ 1000000) && decide (i.natAbs < 2 ^ 64)) (.int (i ^ j.toNat)) S
  | .add, .bl a, .int j => .ok (.int (b2 a + j)) S
  | .sub, .bl a, .int j => .ok (.int (b2 a - j)) S
  | .mul, .tup xs, .int k => okIf (decide (2 ≤ k) && decide (k ≤ 1000) && !xs.isEmpty && decide (xs.length ≤ 1000)) (.tup (List.replicate k.toNat xs).flatten) S
  | .add, .str a, .str b => okIf (decide (a.length + b.length ≤ big)) (.str (a ++ b)) S
  | .add, .tup a, .tup b => okIf (decide (a.length + b.length ≤ big)) (.tup (a ++ b)) S
  | .add, a, b => match lstOf S a, lstOf S b with
    | some xs, some ys => okIf (decide (xs.length + ys.length ≤ big)) (.lst (xs ++ ys)) S
    | _, _ => .bad
  | _, _, _ => .bad

def cmpop (o : CO) (x y : D) (S : Store) : R D := match o with
  | .eq => okIf ((rd S x).flat 60 && (rd S y).flat 60) (.bl (D.eqv (rd S x) (rd S y))) S
  | .ne => okIf ((rd S x).flat 60 && (rd S y).flat 60) (.bl (!D.eqv (rd S x) (rd S y))) S
  | .isN => match y with
    | .non => .ok (.bl (x.same .non)) S
    | .bl b => (match x with
      | .bl a => .ok (.bl (a == b)) S
      | _ => .bad)
    | _ => .bad
  | .notN => match y with
    | .non => .ok (.bl (!x.same .non)) S
    | _ => .bad
  | .lt => match x, y with
    | .int i, .int j => .ok (.bl (decide (i < j))) S
    | _, _ => .bad
  | .le => match x, y with
    | .int i, .int j => .ok (.bl (decide (i ≤ j))) S
    | _, _ => .bad
  | .gt => match x, y with
    | .int i, .int j => .ok (.bl (decide (j < i))) S
    | _, _ => .bad
  | .ge => match x, y with
    | .int i, .int j => .ok (.bl (decide (j ≤ i))) S
    | _, _ => .bad
  | .mem => match seqOf S y with
    | some ys => okIf (x.flat 60 && D.flatL 60 ys) (.bl (ys.any fun z => D.eqv z x)) S
    | none => match dictOf S y with
      | some kvs => okIf (keyT x) (.bl (lookD kvs x).isSome) S
      | none => match x, dctiOf S y with
        | .int i, some kvs => .ok (.bl (lookI kvs i).isSome) S
        | _, _ => .bad
  | .nmem => match seqOf S y with
    | some ys => okIf (x.flat 60 && D.flatL 60 ys) (.bl (!ys.any fun z => D.eqv z x)) S
    | none => match dictOf S y with
      | some kvs => okIf (keyT x) (.bl (!(lookD kvs x).isSome)) S
      | none => match x, dctiOf S y with
        | .int i, some kvs => .ok (.bl (!(lookI kvs i).isSome)) S
        | _, _ => .bad

def neg : D → Store → R D
  | .int i, S => .ok (.int (-i)) S
  | .bl b, S => .ok (.int (-b2 b)) S
  | _, _ => .bad
def isTy (t : Ty) (x : D) (S : Store) : Option Bool := match x with
  | .non => some false
  | .bl _ => some (match t with | .int => true | .bool => true | _ => false)
  | .int _ => some (match t with | .int => true | _ => false)
  | .str _ => some (match t with | .str => true | _ => false)
  | .tup _ => some (match t with | .tup => true | _ => false)
  | .lst _ => some (match t with | .list => true | _ => false)
  | .loc n => match S[n]? with
    | some (.list _) => some (match t with | .list => true | _ => false)
    | _ => none
  | _ => none
def getIx (x y : D) (S : Store) : R D := match y with
  | .int i => match seqOf S x with
    | some xs => match ix xs.length i with
      | some j => okO xs[j]? S
      | none => .bad
    | none => match dctiOf S x with
      | some kvs => okO (lookI kvs i) S
      | none => .bad
  | y => match dictOf S x with
    | some kvs => if keyT y then okO (lookD kvs y) S else .bad
    | none => .bad
def getSl (x : D) (lo hi : Option Int) (S : Store) : R D := match x with
  | .tup xs => .ok (.tup (cut xs lo hi)) S
  | x => match lstOf S x with
    | some xs => .ok (.lst (cut xs lo hi)) S
    | none => .bad
def callB (b : BI) (as : List D) (S : Store) : R D := match b, as with
  | .len, [x] => match seqOf S x with
    | some xs => .ok (.int xs.length) S
    | none => match x with
      | .str z => .ok (.int z.length) S
      | _ => .bad
  | .int, [.int i] => .ok (.int i) S
  | .int, [.bl b] => .ok (.int (b2 b)) S
  | .abs, [.int i] => .ok (.int (if i < 0 then -i else i)) S
  | .bool, [.bl b] => .ok (.bl b) S
  | .tuple, [.tup xs] => .ok (.tup xs) S
  | .tuple, [x] => match lstOf S x with
    | some xs => .ok (.tup xs) S
    | none => .bad
  | .list, [x] => match seqOf S x with
    | some xs => .ok (.lst xs) S
    | none => .bad
  | .all, [x] => match (lstOf S x).bind allB with
    | some bs => .ok (.bl (bs.all id)) S
    | none => .bad
  | .sum, [x] => match (lstOf S x).bind allI with
    | some ns => .ok (.int ns.sum) S
    | none => .bad
  | .max1, [x] => match (lstOf S x).bind allI with
    | some ns => okIf (decide (0 < ns.length)) (.int (maxL ns)) S
    | none => .bad
  | .min1, [x] => match (lstOf S x).bind allI with
    | some ns => okIf (decide (0 < ns.length)) (.int (minL ns)) S
    | none => .bad
  | .max2, [.int i, .int j] => .ok (.int (if j > i then j else i)) S
  | .min2, [.int i, .int j] => .ok (.int (if j < i then j else i)) S
  | .sorted, [x] => match (lstOf S x).bind allI with
    | some ns => .ok (.lst ((isort ns).map .int)) S
    | none => .bad
  | .divmod, [.int i, .int j] => okIf (decide (0 < j) && decide (j < 1073741824)) (.tup [.int (i / j), .int (i % j)]) S
  | _, _ => .bad
def methB (m : MI) (x : D) (as : List D) (S : Store) : R D := match m, x, as with
  | .append, .loc n, [y] => match S[n]? with
    | some (.list xs) => okIf (decide (xs.length < big)) .non (S.set n (.list (xs ++ [y])))
    | _ => .bad
  | .clear, .loc n, [] => match S[n]? with
    | some (.list _) => .ok .non (S.set n (.list []))
    | _ => .bad
  | .reverse, .loc n, [] => match S[n]? with
    | some (.list xs) => .ok .non (S.set n (.list xs.reverse))
    | _ => .bad
  | _, _, _ => .bad
/-- each int once -/
def unl (acc : List Int) (x : Int) : List Int := if acc.any (· == x) then acc else acc ++ [x]
def unlike (ns : List Int) : List Int := ns.foldl unl []

/-! ### compact syntax -/
inductive CT where
  | name (i : Nat) | tup (ts : List CT)
mutual
inductive CE where
  | int (i : Int) | bl (b : Bool) | non | str (x : Str)
  | var (i : Nat) | con (x : Str) (d : D) | fnv (f : Nat)
  | bin (o : BO) (a b : CE) | neg (a : CE) | not (a : CE)
  | cmp (o : CO) (a b : CE) | chain (o1 o2 : CO) (a b c : CE)
  | and (es : List CE) | or (es : List CE) | ite (c a b : CE)
  | tup (es : List CE) | lst (mu : Bool) (es : List CE)
  | idx (a i : CE) | sl (a : CE) (lo hi : Option CE)
  | call (f : Nat) (es : List CE) | bi (b : BI) (es : List CE) | isi (a : CE) (t : Ty)
  | lenset (a : CE)
  | meth (m : MI) (a : CE) (es : List CE)
  | dict0 | dict0i
  | sset (a : CE) | rev (a : CE) | upper (a : CE) | trng (tu : Bool) (a : Option CE) (b : CE)
  | comp (mu : Bool) (own : List (Str × Nat)) (t : CT) (it : CIt) (c : Option CE) (e : CE)
  | mkE (c : Nat) (a : CE) | mkO (c : Nat) (f : Str) (a : CE) | isE (a : CE) (cs : List Nat) (c : Option Nat) | fld (a : CE) (f : Str) | ssetb (a : CE)
inductive CIt where
  | val (e : CE) | rng1 (e : CE) | rng2 (a b : CE) | enum (tu : Bool) (e : CE) | zip (a b : CE)
end
/-- an except clause that returns a constant: the class's place, the places of all classes that it takes, what it returns -/
structure Hd where
  c : Nat
  cs : List Nat
  v : D
  deriving DecidableEq, Inhabited
/-- where the call of a helper with a lambda stands -/
inductive LP where
  | ifne (c : CE) | ifnot | setl (i : Nat) | app (i : Nat)
inductive CS where
  | set (i : Nat) (e : CE)
  | par (is : List Nat) (es : List CE)
  | tgt (t : CT) (e : CE)
  | setI (o i e : CE)
  | ret (e : CE) | retN
  | ifs (c : CE) (a b : List CS)
  | wh (c : CE) (b : List CS)
  | fors (t : CT) (it : CIt) (b : List CS)
  | ex (e : CE) | brk | cnt | pass | never
  | raise (c : Nat) (m : Str) | tryR (b : List CS) (hs : List Hd) | act | lamS (p : LP) (ti f : Nat) (hs : List Hd) (d : D) (e : CE)

/-! ### the evaluator -/
mutual
def bindT : CT → D → Slots → Option Slots
  | .name i, d, τ => some (τ.set i (some d))
  | .tup ts, .tup ds, τ => bindTs ts ds τ
  | .tup _, _, _ => none
def bindTs : List CT → List D → Slots → Option Slots
  | [], [], τ => some τ
  | t :: ts, d :: ds, τ => match bindT t d τ with
    | some τ' => bindTs ts ds τ'
    | none => none
  | _, _, _ => none
end
/-- what a loop walks: its items, and the list that must stay as it is -/
structure Items where
  xs : List D
  gd : Option (Nat × List D) := none
def Items.still (I : Items) (S : Store) : Bool := match I.gd with
  | none => true
  | some (n, xs) => match S[n]? with
    | some (.list ys) => decide (ys = xs)
    | _ => false
def itemsOf (S : Store) : D → Option Items
  | .lst xs => some { xs := xs }
  | .scr xs => some { xs := xs }
  | .tup xs => some { xs := xs }
  | .loc n => match S[n]? with
    | some (.list xs) => some { xs := xs, gd := some (n, xs) }
    | _ => none
  | _ => none
def rangeD (a b : Int) : List D := (List.range (b - a).toNat).map fun (i : Nat) => .int (a + (i : Int))
def enumD (k : Nat) : List D → List D
  | [] => []
  | x :: r => .tup [.int k, x] :: enumD (k + 1) r
def zipD : List D → List D → List D
  | x :: xs, y :: ys => .tup [x, y] :: zipD xs ys
  | _, _ => []
def compL (I : Items) (bt : D → Slots → Option Slots) (c : Slots → Store → R Bool) (e : Slots → Store → R D) : List D → Slots → Store → R (List D)
  | [], _, S => if I.still S then .ok [] S else .bad
  | x :: xs, τ, S => if I.still S then (match bt x τ with
    | none => .bad
    | some τ' => (c τ' S).bind fun b S => if b then (e τ' S).bind fun y S => (compL I bt c e xs τ S).bind fun ys S => .ok (y :: ys) S
        else compL I bt c e xs τ S) else .bad
def wipeS (τ : Slots) : List (Str × Nat) → Slots
  | [] => τ
  | v :: vs => (wipeS τ vs).set v.2 none
def alloc (o : MO) (S : Store) : R D := .ok (.loc S.length) (S ++ [o])
def mkL (mu : Bool) (xs : List D) (S : Store) : R D := if mu then alloc (.list xs) S else .ok (.lst xs) S
def smallR (a b : Int) : Bool := decide (-(2 ^ 62) ≤ a) && decide (a < 2 ^ 62) && decide (-(2 ^ 62) ≤ b) && decide (b < 2 ^ 62)

/-- sorted(set(xs)) -/
def ssetR (x : D) (S : Store) : R D := match (lstOf S x).bind allI with
  | some ns => okIf (decide (ns.length < 4000)) (.lst ((isort (unlike ns)).map .int)) S
  | none => .bad
/-- tuple(range(a, b)), list(range(a, b)) -/
def trngR (tu : Bool) (x y : D) (S : Store) : R D := match x, y with
  | .int i, .int j => okIf (smallR i j && decide (j - i ≤ big)) (if tu then .tup (rangeD i j) else .lst (rangeD i j)) S
  | _, _ => .bad
/-- xs[::-1] of a tuple -/
def revR (x : D) (S : Store) : R D := match x with
  | .tup xs => .ok (.tup xs.reverse) S
  | _ => .bad
/-- text.upper() -/
def upR (x : D) (S : Store) : R D := match x with
  | .str a => okIf (decide (a.length ≤ 5592405) && (Txt.upper a).cps.all (· < 0x110000) && decide ((Txt.upper a).cps.size ≤ big)) (.str (Txt.upper a)) S
  | _ => .bad
/-- C(e), C an exception class without its own __init__ -/
def mkER (c : Nat) (_ : D) (S : Store) : R D := .ok (.loc S.length) (S ++ [.ins c []])
/-- C(e), its own __init__ storing e at f -/
def mkOR (c : Nat) (f : Str) (x : D) (S : Store) : R D := match x with
  | .int i => .ok (.loc S.length) (S ++ [.ins c [(f, .int i)]])
  | _ => .bad
/-- isinstance of an exception -/
def isER (cs : List Nat) (x : D) (S : Store) : R D := match x with
  | .loc n => match S[n]? with
    | some (.ins c _) => .ok (.bl (cs.contains c)) S
    | _ => .bad
  | _ => .bad
def fldR (f : Str) (x : D) (S : Store) : R D := match x with
  | .loc n => match S[n]? with
    | some (.ins _ fs) => okO (fs.lookup f) S
    | _ => .bad
  | _ => .bad
/-- sorted(set(xs)) of truth values -/
def ssetbR (x : D) (S : Store) : R D := match (lstOf S x).bind allB with
  | some bs => okIf (decide (bs.length < 4000)) (.lst (((if bs.contains false then [false] else []) ++ (if bs.contains true then [true] else [])).map .bl)) S
  | none => .bad
section
variable (cl : Nat → List D → Store → R D)
mutual
def ev : CE → Slots → Store → R D
  | .int i, _, S => .ok (.int i) S
  | .bl b, _, S => .ok (.bl b) S
  | .non, _, S => .ok .non S
  | .str x, _, S => .ok (.str x) S
  | .var i, τ, S => okO (τ[i]?).join S
  | .con _ d, _, S => .ok d S
  | .fnv f, _, S => .ok (.fn f) S
  | .bin o a b, τ, S => (ev a τ S).bind fun x S => (ev b τ S).bind fun y S => binop o x y S
  | .neg a, τ, S => (ev a τ S).bind neg
  | .not a, τ, S => (ev a τ S).bind fun x S => (okO (truth x) S).bind fun b S => .ok (.bl (!b)) S
  | .cmp o a b, τ, S => (ev a τ S).bind fun x S => (ev b τ S).bind fun y S => cmpop o x y S
  | .chain o1 o2 a b c, τ, S => (ev a τ S).bind fun x S => (ev b τ S).bind fun y S => (cmpop o1 x y S).bind fun z S => match z with
      | .bl true => (ev c τ S).bind fun w S => cmpop o2 y w S
      | .bl false => .ok (.bl false) S
      | _ => .bad
  | .and es, τ, S => evAnd es τ S
  | .or es, τ, S => evOr es τ S
  | .ite c a b, τ, S => (ev c τ S).bind fun x S => match truth x with
      | some true => ev a τ S
      | some false => ev b τ S
      | none => .bad
  | .tup es, τ, S => (evs es τ S).bind fun xs S => okIf (decide (xs.length ≤ big)) (.tup xs) S
  | .lst mu es, τ, S => (evs es τ S).bind fun xs S => if xs.length ≤ big then mkL mu xs S else .bad
  | .idx a i, τ, S => (ev a τ S).bind fun x S => (ev i τ S).bind fun y S => getIx x y S
  | .sl a lo hi, τ, S => (ev a τ S).bind fun x S => (evO lo τ S).bind fun l S => (evO hi τ S).bind fun h S => getSl x l h S
  | .call f es, τ, S => (evs es τ S).bind fun xs S => cl f xs S
  | .bi b es, τ, S => (evs es τ S).bind fun xs S => callB b xs S
  | .isi a t, τ, S => (ev a τ S).bind fun x S => (okO (isTy t x S) S).bind fun b S => .ok (.bl b) S
  | .lenset a, τ, S => (ev a τ S).bind fun x S => match (seqOf S x).bind allI with
      | some ns => okIf (decide (ns.length < 4000)) (.int (unlike ns).length) S
      | none => .bad
  | .meth m a es, τ, S => (ev a τ S).bind fun x S => if (lstOf S x).isSome then (evs es τ S).bind fun xs S => methB m x xs S else .bad
  | .dict0, _, S => .ok (.loc S.length) (S ++ [.dict []])
  | .dict0i, _, S => .ok (.loc S.length) (S ++ [.dcti []])
  | .sset a, τ, S => (ev a τ S).bind ssetR
  | .rev a, τ, S => (ev a τ S).bind revR
  | .upper a, τ, S => (ev a τ S).bind upR
  | .mkE c a, τ, S => (ev a τ S).bind (mkER c)
  | .mkO c f a, τ, S => (ev a τ S).bind (mkOR c f)
  | .isE a cs _, τ, S => (ev a τ S).bind (isER cs)
  | .fld a f, τ, S => (ev a τ S).bind (fldR f)
  | .ssetb a, τ, S => (ev a τ S).bind ssetbR
  | .trng tu none b, τ, S => (ev b τ S).bind (trngR tu (.int 0))
  | .trng tu (some a) b, τ, S => (ev a τ S).bind fun x S => (ev b τ S).bind (trngR tu x)
  | .comp mu own t it c e, τ, S => (evIt it τ S).bind fun I S => (noR (compL I (bindT t) (evC c) (ev e) I.xs (wipeS τ own) S)).bind fun ys S => mkL mu ys S
def evO : Option CE → Slots → Store → R (Option Int)
  | none, _, S => .ok none S
  | some e, τ, S => (ev e τ S).bind fun x S => match x with
      | .int i => .ok (some i) S
      | _ => .bad
def evC : Option CE → Slots → Store → R Bool
  | none, _, S => .ok true S
  | some c, τ, S => (ev c τ S).bind fun x S => okO (truth x) S
def evs : List CE → Slots → Store → R (List D)
  | [], _, S => .ok [] S
  | e :: es, τ, S => (ev e τ S).bind fun x S => (evs es τ S).bind fun xs S => .ok (x :: xs) S
def evAnd : List CE → Slots → Store → R D
  | [], _, _ => .bad
  | [e], τ, S => ev e τ S
  | e :: e' :: es, τ, S => (ev e τ S).bind fun x S => match x with
      | .bl true => evAnd (e' :: es) τ S
      | .bl false => .ok (.bl false) S
      | _ => .bad
def evOr : List CE → Slots → Store → R D
  | [], _, _ => .bad
  | [e], τ, S => ev e τ S
  | e :: e' :: es, τ, S => (ev e τ S).bind fun x S => match x with
      | .bl true => .ok (.bl true) S
      | .bl false => evOr (e' :: es) τ S
      | _ => .bad
def evIt : CIt → Slots → Store → R Items
  | .val e, τ, S => (ev e τ S).bind fun x S => okO (itemsOf S x) S
  | .rng1 e, τ, S => (ev e τ S).bind fun x S => match x with
      | .int j => okIf (smallR 0 j && decide (j ≤ big)) { xs := rangeD 0 j } S
      | _ => .bad
  | .rng2 a b, τ, S => (ev a τ S).bind fun x S => (ev b τ S).bind fun y S => match x, y with
      | .int i, .int j => okIf (smallR i j && decide (j - i ≤ big)) { xs := rangeD i j } S
      | _, _ => .bad
  | .enum true e, τ, S => (ev e τ S).bind fun x S => match x with
      | .tup xs => .ok { xs := enumD 0 xs } S
      | _ => .bad
  | .enum false e, τ, S => (ev e τ S).bind fun x S => match x with
      | .lst xs => .ok { xs := enumD 0 xs } S
      | _ => .bad
  | .zip a b, τ, S => (ev a τ S).bind fun x S => (ev b τ S).bind fun y S => match x, y with
      | .tup xs, .tup ys => .ok { xs := zipD xs ys } S
      | .lst xs, .lst ys => .ok { xs := zipD xs ys } S
      | _, _ => .bad
end

def setIt (o i v : D) (S : Store) : Option Store := match o, i with
  | .loc n, .int k => match S[n]? with
    | some (.list xs) => (ix xs.length k).map fun j => S.set n (.list (xs.set j v))
    | some (.dcti kvs) => if kvs.length < big then some (S.set n (.dcti (storeI kvs k v))) else none
    | _ => none
  | .loc n, i => match S[n]? with
    | some (.dict kvs) => if keyT i && decide (kvs.length < big) then some (S.set n (.dict (storeD kvs i v))) else none
    | _ => none
  | _, _ => none
def setAll : List Nat → List D → Slots → Option Slots
  | [], [], τ => some τ
  | i :: is, d :: ds, τ => setAll is ds (τ.set i (some d))
  | _, _, _ => none
def forL (I : Items) (bt : D → Slots → Option Slots) (b : Slots → Store → RS) : List D → Slots → Store → RS
  | [], τ, S => if I.still S then .nx τ S else .bad
  | x :: xs, τ, S => if I.still S then (match bt x τ with
    | none => .bad
    | some τ' => match b τ' S with
      | .nx τ S => forL I bt b xs τ S
      | .ct τ S => forL I bt b xs τ S
      | .bk τ S => .nx τ S
      | r => r) else .bad
def whL (c : Slots → Store → R D) (b : Slots → Store → RS) : Nat → Slots → Store → RS
  | 0, _, _ => .bad
  | n + 1, τ, S => (c τ S).bindS τ fun x S => match truth x with
    | some true => match b τ S with
      | .nx τ S => whL c b n τ S
      | .ct τ S => whL c b n τ S
      | .bk τ S => .nx τ S
      | r => r
    | some false => .nx τ S
    | none => .bad
/-- what a clause returns -/
def pick : List Hd → Nat → Option D
  | [], _ => none
  | h :: hs, c => if h.cs.contains c then some h.v else pick hs c
def catchR (hs : List Hd) : RS → RS
  | .ex c pl τ S => match pick hs c with
    | some d => .rt d S
    | none => .ex c pl τ S
  | r => r
/-- what a helper makes of a lambda's answer -/
def lamV (hs : List Hd) (d : D) : R D → R D
  | .ok _ S => .ok d S
  | .ex c _ S => match pick hs c with
    | some v => .ok v S
    | none => .bad
  | .bad => .bad
def LOW : Nat := 1000000
/-- asked: are there two more levels -/
def MARK : Nat := 999999
/-- calls two levels deeper -/
def low (cl : Nat → List D → Store → R D) : Nat → List D → Store → R D := fun f => cl (LOW + f)
def endI (τ : Slots) (r : R D) : RS := r.bindS τ fun z S => match truth z with
  | some true => .rt (.bl false) S
  | some false => .nx τ S
  | none => .bad
/-- the helper's answer; the code object's table stands at its place -/
def lamC (cl : Nat → List D → Store → R D) (ti : Nat) (hs : List Hd) (d : D) (r : Slots → Store → R D) (τ : Slots) (S : Store) : R D := if S[ti]? = some (.tbl ti) then (match cl MARK [] S with
  | .ok _ _ => lamV hs d (r τ S)
  | _ => .bad) else .bad
def one1 (r : Slots → Store → R D) (τ : Slots) (S : Store) : R (List D) := (r τ S).bind fun x S => (R.ok ([] : List D) S).bind fun xs S => .ok (x :: xs) S
def lamP (cl : Nat → List D → Store → R D) (p : LP) (r : Slots → Store → R D) (τ : Slots) (S : Store) : RS := match p with
  | .ifne c => endI τ ((r τ S).bind fun x S => (ev cl c τ S).bind fun y S => cmpop .ne x y S)
  | .ifnot => endI τ ((r τ S).bind fun x S => (okO (truth x) S).bind fun b S => .ok (.bl (!b)) S)
  | .setl i => ((one1 r τ S).bind fun xs S => if xs.length ≤ big then mkL true xs S else .bad).bindS τ fun x S => .nx (τ.set i (some x)) S
  | .app i => ((okO (τ[i]?).join S).bind fun x S => if (lstOf S x).isSome then (one1 r τ S).bind fun xs S => methB .append x xs S else .bad).bindS τ fun _ S => .nx τ S
/-- turns that a while may take -/
def fuel : Nat := 1000000000
mutual
def evS : CS → Slots → Store → RS
  | .set i e, τ, S => (ev cl e τ S).bindS τ fun x S => .nx (τ.set i (some x)) S
  | .par is es, τ, S => (evs cl es τ S).bindS τ fun xs S => match setAll is xs τ with
      | some τ => .nx τ S
      | none => .bad
  | .tgt t e, τ, S => (ev cl e τ S).bindS τ fun x S => match bindT t x τ with
      | some τ => .nx τ S
      | none => .bad
  | .setI o i e, τ, S => (ev cl e τ S).bindS τ fun v S => (ev cl o τ S).bindS τ fun x S => (ev cl i τ S).bindS τ fun y S => match setIt x y v S with
      | some S => .nx τ S
      | none => .bad
  | .ret e, τ, S => (ev cl e τ S).bindS τ fun x S => .rt x S
  | .retN, _, S => .rt .non S
  | .ifs c a b, τ, S => (ev cl c τ S).bindS τ fun x S => match truth x with
      | some true => evB a τ S
      | some false => evB b τ S
      | none => .bad
  | .wh c b, τ, S => whL (ev cl c) (evB b) fuel τ S
  | .fors t it b, τ, S => (evIt cl it τ S).bindS τ fun I S => forL I (bindT t) (evB b) I.xs τ S
  | .ex e, τ, S => (ev cl e τ S).bindS τ fun _ S => .nx τ S
  | .brk, τ, S => .bk τ S
  | .cnt, τ, S => .ct τ S
  | .pass, τ, S => .nx τ S
  | .never, _, _ => .bad
  | .raise c _, τ, S => .ex c [] τ S
  | .tryR b hs, τ, S => catchR hs (evB b τ S)
  | .act, _, _ => .bad
  | .lamS p ti _ hs d e, τ, S => lamP cl p (lamC cl ti hs d (ev (low cl) e)) τ S
def evB : List CS → Slots → Store → RS
  | [], τ, S => .nx τ S
  | s :: r, τ, S => match evS s τ S with
    | .nx τ S => evB r τ S
    | r => r
end
end
/-- a def: its parameters' number, all slots' number, its body -/
structure FD where
  np : Nat
  ns : Nat
  body : List CS
def endB : RS → R D
  | .nx _ S => .ok .non S
  | .rt d S => .ok d S
  | .ex c pl _ S => .ex c pl S
  | _ => .bad
def entry (ns : Nat) (as : List D) : Slots := as.map some ++ List.replicate (ns - as.length) none
abbrev Cl2 : Type := Nat → List D → Store → R D
/-- one level more; two levels below for what makes lambdas -/
def evStep (fs : List FD) (cl : Cl2) (lo : Option Cl2) : Cl2 := fun f as S => match fs[f]? with
  | some d => if as.length = d.np then endB (evB cl d.body (entry d.ns as) S) else .bad
  | none => match lo with
    | none => .bad
    | some c => if LOW ≤ f then c (f - LOW) as S else if f = MARK then .ok .non S else .bad
def evFp (fs : List FD) : Nat → Cl2 × Option Cl2
  | 0 => (fun _ _ _ => .bad, none)
  | k + 1 => (evStep fs (evFp fs k).1 (evFp fs k).2, some (evFp fs k).1)
/-- so many calls deep -/
def evF (fs : List FD) (k : Nat) : Nat → List D → Store → R D := (evFp fs k).1
end Ev
/-! Ev, part B: how data lie in the abstract heap; what is wanted behind an evaluation. -/
namespace Ev
open PySem L2

/-- the text's names: defs, constants, classes; built-in names that the text leaves as they are -/
structure Tab where
  fns : List (Str × FD)
  cons : List (Str × D)
  cls : List Str
  blts : List Str
  /-- classes with an own __init__; which class lies under which -/
  inis : List Nat := []
  subs : List (Nat × Nat) := []
/-- where we are: the written part, the module's names -/
structure GC where
  K : PySem.W.Frag
  mg : Str → Option Value
  T : Tab
  P : Program
  w : World
  /-- objects that are in the making: no datum names them -/
  av : List Addr := []
  /-- the tables of code objects, the names in them -/
  tb : List (Addr × Str) := []
def GC.up (G : GC) (l : List Addr) : GC := { G with av := l ++ G.av }
theorem GC.up_nil (G : GC) : G.up [] = G := rfl
theorem GC.up_up (G : GC) (l k : List Addr) : (G.up l).up k = G.up (k ++ l) := by simp only [GC.up, List.append_assoc]
/-- neither among the objects that may change nor in the making -/
def Cl (G : GC) (m : List Addr) (a : Addr) : Prop := a ∉ m ∧ a ∉ G.av

mutual
/-- data d stand at value v -/
def Rep (G : GC) (m : List Addr) (H : Hp) : D → V → Prop
  | .non, v => v = .non
  | .bl b, v => v = .bl b
  | .int i, v => v = .int i
  | .str x, v => v = .str x ∧ PyData.strOk x = true ∧ x.length ≤ big
  | .tup ds, v => ∃ a xs, v = .ref a ∧ xs.length ≤ big ∧ RepL G m H ds xs ∧ ((Rd H a (.tup xs) ∧ Cl G m a) ∨ ∀ H', SqT G.K H' a xs)
  | .lst ds, v => ∃ a xs, v = .ref a ∧ xs.length ≤ big ∧ RepL G m H ds xs ∧ H a = some (.lst xs) ∧ Cl G m a
  | .scr ds, v => ∃ a xs, v = .ref a ∧ xs.length ≤ big ∧ RepL G m H ds xs ∧ ((Rd H a (.lst xs) ∧ Cl G m a) ∨ ∀ H', SqL G.K H' a xs)
  | .loc n, v => ∃ a, v = .ref a ∧ m[n]? = some a
  | .fn f, v => ∃ a x d, v = .ref a ∧ G.T.fns[f]? = some (x, d) ∧ G.mg x = some (.ref a)
  | .cls c, v => ∃ a x, v = .ref a ∧ G.T.cls[c]? = some x ∧ G.mg x = some (.ref a)
def RepL (G : GC) (m : List Addr) (H : Hp) : List D → List V → Prop
  | [], vs => vs = []
  | d :: ds, vs => ∃ v r, vs = v :: r ∧ Rep G m H d v ∧ RepL G m H ds r
end
/-- the objects that may change have stayed in their places, all others stand as they stood -/
structure Ext (m : List Addr) (H : Hp) (m' : List Addr) (H' : Hp) : Prop where
  pre : ∀ (n : Nat) (a : Addr), m[n]? = some a → m'[n]? = some a
  keep : ∀ (a : Addr) (o : HO), a ∉ m → (∀ ps, o ≠ .tbl ps) → H a = some o → H' a = some o ∧ a ∉ m'
theorem Ext.refl (m H) : Ext m H m H := ⟨fun _ _ h => h, fun _ _ n _ h => ⟨h, n⟩⟩
theorem Ext.trans {m1 H1 m2 H2 m3 H3} (a : Ext m1 H1 m2 H2) (b : Ext m2 H2 m3 H3) : Ext m1 H1 m3 H3 :=
  ⟨fun n x h => b.pre n x (a.pre n x h), fun x o n t h => let ⟨h1, n1⟩ := a.keep x o n t h; b.keep x o n1 t h1⟩
theorem rd_ext {m H m' H'} (e : Ext m H m' H') {a : Addr} {u : HO} (h : Rd H a u) (n : a ∉ m) (nt : ∀ ps, u ≠ .tbl ps := by intro _ z; cases z) : Rd H' a u ∧ a ∉ m' := by
  rcases h with h | ⟨o, h⟩
  · obtain ⟨h1, n1⟩ := e.keep a _ n nt h
    exact ⟨.inl h1, n1⟩
  · obtain ⟨h1, n1⟩ := e.keep a _ n (by intro _ z; cases z) h
    exact ⟨.inr ⟨o, h1⟩, n1⟩
section
variable {G : GC} {m m' : List Addr} {H H' : Hp}
mutual
theorem Rep.ext (e : Ext m H m' H') : ∀ {d : D} {v : V}, Rep G m H d v → Rep G m' H' d v
  | .non, _, h => by simpa only [Rep] using h
  | .bl _, _, h => by simpa only [Rep] using h
  | .int _, _, h => by simpa only [Rep] using h
  | .str _, _, h => by simpa only [Rep] using h
  | .tup ds, _, h => by
    simp only [Rep] at h ⊢
    obtain ⟨a, xs, e1, hz, hl, q⟩ := h
    refine ⟨a, xs, e1, hz, RepL.ext e hl, ?_⟩
    rcases q with ⟨q, n⟩ | q
    · exact .inl ⟨(rd_ext e q n.1).1, (rd_ext e q n.1).2, n.2⟩
    · exact .inr q
  | .lst ds, _, h => by
    simp only [Rep] at h ⊢
    obtain ⟨a, xs, e1, hz, hl, q, n⟩ := h
    exact ⟨a, xs, e1, hz, RepL.ext e hl, (e.keep a _ n.1 (by intro _ z; cases z) q).1, (e.keep a _ n.1 (by intro _ z; cases z) q).2, n.2⟩
  | .scr ds, _, h => by
    simp only [Rep] at h ⊢
    obtain ⟨a, xs, e1, hz, hl, q⟩ := h
    refine ⟨a, xs, e1, hz, RepL.ext e hl, ?_⟩
    rcases q with ⟨q, n⟩ | q
    · exact .inl ⟨(rd_ext e q n.1).1, (rd_ext e q n.1).2, n.2⟩
    · exact .inr q
  | .loc n, _, h => by
    simp only [Rep] at h ⊢
    obtain ⟨a, e1, h⟩ := h
    exact ⟨a, e1, e.pre n a h⟩
  | .fn f, _, h => by simpa only [Rep] using h
  | .cls c, _, h => by simpa only [Rep] using h
theorem RepL.ext (e : Ext m H m' H') : ∀ {ds : List D} {vs : List V}, RepL G m H ds vs → RepL G m' H' ds vs
  | [], _, h => by simpa only [RepL] using h
  | d :: ds, _, h => by
    simp only [RepL] at h ⊢
    obtain ⟨v, r, e1, h1, h2⟩ := h
    exact ⟨v, r, e1, Rep.ext e h1, RepL.ext e h2⟩
end
theorem RepL.length : ∀ {ds : List D} {vs : List V}, RepL G m H ds vs → vs.length = ds.length
  | [], _, h => by simp only [RepL] at h; rw [h]; rfl
  | d :: ds, _, h => by
    simp only [RepL] at h
    obtain ⟨v, r, rfl, _, h2⟩ := h
    simp only [List.length_cons, RepL.length h2]
theorem RepL.get : ∀ {ds : List D} {vs : List V} {i : Nat} {d : D}, RepL G m H ds vs → ds[i]? = some d → ∃ v, vs[i]? = some v ∧ Rep G m H d v
  | [], _, i, d, _, h => by simp at h
  | d :: ds, _, 0, _, h, e => by
    simp only [RepL] at h
    obtain ⟨v, r, rfl, h1, _⟩ := h
    simp at e; subst e
    exact ⟨v, rfl, h1⟩
  | d :: ds, _, i + 1, _, h, e => by
    simp only [RepL] at h
    obtain ⟨v, r, rfl, _, h2⟩ := h
    simp at e
    obtain ⟨w, hw, rw⟩ := RepL.get h2 e
    exact ⟨w, by simpa using hw, rw⟩
theorem RepL.back : ∀ {ds : List D} {vs : List V} {i : Nat} {v : V}, RepL G m H ds vs → vs[i]? = some v → ∃ d, ds[i]? = some d ∧ Rep G m H d v
  | [], _, i, d, h, e => by simp only [RepL] at h; subst h; simp at e
  | d :: ds, _, 0, _, h, e => by
    simp only [RepL] at h
    obtain ⟨v, r, rfl, h1, _⟩ := h
    simp at e; subst e
    exact ⟨d, rfl, h1⟩
  | d :: ds, _, i + 1, _, h, e => by
    simp only [RepL] at h
    obtain ⟨v, r, rfl, _, h2⟩ := h
    simp at e
    obtain ⟨w, hw, rw⟩ := RepL.back h2 e
    exact ⟨w, by simpa using hw, rw⟩
theorem RepL.nil : RepL G m H [] [] := by simp only [RepL]
theorem RepL.cons {d : D} {v : V} {ds : List D} {vs : List V} (h : Rep G m H d v) (r : RepL G m H ds vs) : RepL G m H (d :: ds) (v :: vs) := by
  simp only [RepL]; exact ⟨v, vs, rfl, h, r⟩
theorem RepL.app : ∀ {ds es : List D} {vs ws : List V}, RepL G m H ds vs → RepL G m H es ws → RepL G m H (ds ++ es) (vs ++ ws)
  | [], _, _, _, h, r => by simp only [RepL] at h; subst h; exact r
  | d :: ds, es, _, ws, h, r => by
    simp only [RepL] at h
    obtain ⟨v, q, rfl, h1, h2⟩ := h
    exact .cons h1 (RepL.app h2 r)
theorem RepL.take : ∀ (n : Nat) {ds : List D} {vs : List V}, RepL G m H ds vs → RepL G m H (ds.take n) (vs.take n)
  | 0, _, _, _ => by simp only [List.take_zero]; exact .nil
  | n + 1, [], _, h => by simp only [RepL] at h; subst h; simp only [List.take_nil]; exact .nil
  | n + 1, d :: ds, _, h => by
    simp only [RepL] at h
    obtain ⟨v, q, rfl, h1, h2⟩ := h
    simp only [List.take_succ_cons]
    exact .cons h1 (RepL.take n h2)
theorem RepL.drop : ∀ (n : Nat) {ds : List D} {vs : List V}, RepL G m H ds vs → RepL G m H (ds.drop n) (vs.drop n)
  | 0, _, _, h => by simpa only [List.drop_zero] using h
  | n + 1, [], _, h => by simp only [RepL] at h; subst h; simp only [List.drop_nil]; exact .nil
  | n + 1, d :: ds, _, h => by
    simp only [RepL] at h
    obtain ⟨v, q, rfl, h1, h2⟩ := h
    simp only [List.drop_succ_cons]
    exact RepL.drop n h2
theorem RepL.rev : ∀ {ds : List D} {vs : List V}, RepL G m H ds vs → RepL G m H ds.reverse vs.reverse
  | [], _, h => by simp only [RepL] at h; subst h; exact .nil
  | d :: ds, _, h => by
    simp only [RepL] at h
    obtain ⟨v, q, rfl, h1, h2⟩ := h
    simp only [List.reverse_cons]
    exact (RepL.rev h2).app (.cons h1 .nil)
theorem RepL.set : ∀ (n : Nat) {d : D} {v : V} {ds : List D} {vs : List V}, Rep G m H d v → RepL G m H ds vs → RepL G m H (ds.set n d) (vs.set n v)
  | n, _, _, [], _, _, h => by simp only [RepL] at h; subst h; simp only [List.set_nil]; exact .nil
  | 0, _, _, e :: ds, _, r, h => by
    simp only [RepL] at h
    obtain ⟨w, q, rfl, h1, h2⟩ := h
    simp only [List.set_cons_zero]
    exact .cons r h2
  | n + 1, _, _, e :: ds, _, r, h => by
    simp only [RepL] at h
    obtain ⟨w, q, rfl, h1, h2⟩ := h
    simp only [List.set_cons_succ]
    exact .cons h1 (RepL.set n r h2)
theorem repL_ints : ∀ {ds : List D} {vs : List V} {ns : List Int}, RepL G m H ds vs → allI ds = some ns → vs = ns.map V.int
  | [], _, _, h, e => by
    simp only [RepL] at h; simp only [allI, Option.some.injEq] at e; subst h; subst e; rfl
  | d :: ds, _, ns, h, e => by
    simp only [RepL] at h
    obtain ⟨w, q, rfl, h1, h2⟩ := h
    cases d with
    | int i =>
      simp only [allI, Option.map_eq_some_iff] at e
      obtain ⟨r, e1, rfl⟩ := e
      simp only [Rep] at h1
      subst h1
      rw [repL_ints h2 e1]; rfl
    | _ => simp [allI] at e
theorem repL_bools : ∀ {ds : List D} {vs : List V} {ns : List Bool}, RepL G m H ds vs → allB ds = some ns → vs = ns.map V.bl
  | [], _, _, h, e => by
    simp only [RepL] at h; simp only [allB, Option.some.injEq] at e; subst h; subst e; rfl
  | d :: ds, _, ns, h, e => by
    simp only [RepL] at h
    obtain ⟨w, q, rfl, h1, h2⟩ := h
    cases d with
    | bl i =>
      simp only [allB, Option.map_eq_some_iff] at e
      obtain ⟨r, e1, rfl⟩ := e
      simp only [Rep] at h1
      subst h1
      rw [repL_bools h2 e1]; rfl
    | _ => simp [allB] at e
theorem repL_ofInts : ∀ (ns : List Int), RepL G m H (ns.map D.int) (ns.map V.int)
  | [] => .nil
  | n :: r => .cons (by simp only [Rep]) (repL_ofInts r)

/-! ### dicts -/
mutual
def nk : D → Option NestedKey
  | .int i => some (.num i)
  | .str x => some (.text x)
  | .tup xs => (nkL xs).map .tup
  | _ => none
def nkL : List D → Option (List NestedKey)
  | [] => some []
  | x :: xs => match nk x, nkL xs with
    | some k, some ks => some (k :: ks)
    | _, _ => none
end
/-- the entries as they are written -/
def dctAt (P : Program) (w : World) (a : Addr) (xs : List (NestedKey × Addr × Value)) : Heap → Prop := fun h => ∃ o es ep, h.get? a = some o ∧ o.ExactDict ∧ o.data = .dict es ep ∧ es.toList = xs.map (entryOfKey (nestedKind P w))
def PairD (G : GC) (m : List Addr) (H : Hp) : List (D × D) → List (NestedKey × Addr × Value) → Prop
  | [], xs => xs = []
  | (k, d) :: kvs, xs => ∃ x r, xs = x :: r ∧ nk k = some x.1 ∧ keyT k = true ∧ Rep G m H k (.ref x.2.1) ∧ (∃ v, RelV v x.2.2 ∧ Rep G m H d v) ∧ PairD G m H kvs r
theorem PairD.ext (e : Ext m H m' H') : ∀ {kvs : List (D × D)} {xs : List (NestedKey × Addr × Value)}, PairD G m H kvs xs → PairD G m' H' kvs xs
  | [], _, h => h
  | (k, d) :: kvs, _, ⟨x, r, e1, e2, e3, h1, ⟨v, rv, h2⟩, h3⟩ => ⟨x, r, e1, e2, e3, h1.ext e, ⟨v, rv, h2.ext e⟩, PairD.ext e h3⟩
def PairI (G : GC) (m : List Addr) (H : Hp) : List (Int × D) → List (Key × V) → Prop
  | [], xs => xs = []
  | (k, d) :: kvs, xs => ∃ v r, xs = (.inl k, v) :: r ∧ Rep G m H d v ∧ PairI G m H kvs r
theorem PairI.ext (e : Ext m H m' H') : ∀ {kvs : List (Int × D)} {xs : List (Key × V)}, PairI G m H kvs xs → PairI G m' H' kvs xs
  | [], _, h => h
  | (k, d) :: kvs, _, ⟨v, r, e1, h1, h2⟩ => ⟨v, r, e1, h1.ext e, PairI.ext e h2⟩
theorem PairI.len : ∀ {kvs : List (Int × D)} {xs : List (Key × V)}, PairI G m H kvs xs → xs.length = kvs.length
  | [], _, h => by rw [show _ = _ from h]; rfl
  | (k, d) :: kvs, _, ⟨v, r, e1, h1, h2⟩ => by rw [e1, List.length_cons, PairI.len h2]; rfl
theorem PairI.at_ (k : Int) : ∀ {kvs : List (Int × D)} {xs : List (Key × V)}, PairI G m H kvs xs → (lookI kvs k = none ∧ valV xs (.inl k) = none) ∨ ∃ d v, lookI kvs k = some d ∧ valV xs (.inl k) = some v ∧ Rep G m H d v
  | [], _, h => by rw [show _ = _ from h]; exact .inl ⟨rfl, rfl⟩
  | (j, d) :: kvs, _, ⟨v, r, e1, h1, h2⟩ => by
    subst e1
    by_cases e : j = k
    · subst e
      exact .inr ⟨d, v, by simp [lookI], valV_pos rfl, h1⟩
    · have q := PairI.at_ k h2
      have e2 : lookI ((j, d) :: kvs) k = lookI kvs k := by simp [lookI, e]
      have e3 : valV ((Sum.inl j, v) :: r) (Sum.inl k : Key) = valV r (.inl k) := valV_neg (fun z => e (by cases z; rfl))
      rw [e2, e3]; exact q
theorem PairI.map (k : Int) {d : D} {v : V} (hv : Rep G m H d v) : ∀ {kvs : List (Int × D)} {xs : List (Key × V)}, PairI G m H kvs xs → PairI G m H (kvs.map fun p => if p.1 = k then (p.1, d) else p) (xs.map fun kv => if kv.1 = (Sum.inl k : Key) then (kv.1, v) else kv)
  | [], _, h => by rw [show _ = _ from h]; rfl
  | (j, e) :: kvs, _, ⟨w, r, e1, h1, h2⟩ => by
    subst e1
    have q := PairI.map k hv h2
    by_cases z : j = k
    · subst z
      simp only [List.map_cons, if_true]
      exact ⟨v, _, rfl, hv, q⟩
    · have z2 : ¬ (Sum.inl j : Key) = .inl k := fun y => z (by cases y; rfl)
      simp only [List.map_cons, if_neg z, if_neg z2]
      exact ⟨w, _, rfl, h1, q⟩
theorem PairI.snoc (k : Int) {d : D} {v : V} (hv : Rep G m H d v) : ∀ {kvs : List (Int × D)} {xs : List (Key × V)}, PairI G m H kvs xs → PairI G m H (kvs ++ [(k, d)]) (xs ++ [(.inl k, v)])
  | [], _, h => by rw [show _ = _ from h]; exact ⟨v, [], rfl, hv, rfl⟩
  | (j, e) :: kvs, _, ⟨w, r, e1, h1, h2⟩ => by subst e1; exact ⟨w, _, rfl, h1, PairI.snoc k hv h2⟩
theorem PairI.put (k : Int) {d : D} {v : V} (hv : Rep G m H d v) {kvs : List (Int × D)} {xs : List (Key × V)} (p : PairI G m H kvs xs) : PairI G m H (storeI kvs k d) (putK xs (.inl k) v) := by
  unfold storeI putK
  rw [valV_any]
  rcases p.at_ k with ⟨h1, h2⟩ | ⟨d', v', h1, h2, _⟩
  · rw [h1, h2]; exact p.snoc k hv
  · rw [h1, h2]; exact p.map k hv
/-- an exception object with its dict at dx -/
def ExD (C dx a : Addr) : HO := .ext fun h => ∃ (oe : Obj) (vs : Array Value), h.get? a = some oe ∧ oe.cls = .ref C ∧ oe.dict = some dx ∧ oe.data = .fields vs ∧ vs[1]? = some .none
/-- what stands at an exception of the class c with these fields -/
def ExAt (G : GC) (m : List Addr) (H : Hp) (C a : Addr) : List (Str × D) → Prop
  | [] => H a = some (ExO (.ref C) a)
  | [(f, .int i)] => ∃ dx, H a = some (ExD C dx a) ∧ H dx = some (.xd [(f, .int i)]) ∧ Cl G m dx
  | _ => False
theorem exAt_there {C a : Addr} : ∀ {fs : List (Str × D)}, ExAt G m H C a fs → ∃ u, H a = some u
  | [], h => ⟨_, h⟩
  | [(_, .int _)], ⟨_, h, _⟩ => ⟨_, h⟩
theorem exAt_keep {C a : Addr} (hH : ∀ u, (∀ ps, u ≠ .tbl ps) → H a = some u → H' a = some u) (e : Ext m H m' H') : ∀ {fs : List (Str × D)}, ExAt G m H C a fs → ExAt G m' H' C a fs
  | [], h => hH _ (by intro _ z; unfold ExO at z; cases z) h
  | [(_, .int _)], ⟨dx, h, h2, h3⟩ => ⟨dx, hH _ (by intro _ z; unfold ExD at z; cases z) h, (e.keep dx _ h3.1 (by intro _ z; cases z) h2).1, (e.keep dx _ h3.1 (by intro _ z; cases z) h2).2, h3.2⟩
/-- an object that may change, at its address -/
def RepO (G : GC) (m : List Addr) (H : Hp) (a : Addr) : MO → Prop
  | .list xs => ∃ vs, H a = some (.lst vs) ∧ vs.length ≤ big ∧ RepL G m H xs vs
  | .dict kvs => ∃ xs, H a = some (.ext (dctAt G.P G.w a xs)) ∧ kvs.length ≤ big ∧ (a == sysModules) = false ∧ PairD G m H kvs xs ∧ (xs.map (·.1)).Nodup
  | .ins c fs => ∃ C x, G.T.cls[c]? = some x ∧ G.mg x = some (.ref C) ∧ ExAt G m H C a fs
  | .dcti kvs => ∃ xs, H a = some (.dK xs) ∧ kvs.length ≤ big ∧ PairI G m H kvs xs
  | .tbl k => ∃ q ps, G.tb[k]? = some (a, q) ∧ H a = some (.tbl ps) ∧ TriplesOk ps.toList ∧ ∀ (pos : Pos) (cv : Value), codeAmong pos ps.toList = some cv → ∃ c, cv = .ref c ∧ H c = some (LamX.CodeO c q) ∧ Cl G m c
structure Sim (G : GC) (m : List Addr) (H : Hp) (S : Store) : Prop where
  len : m.length = S.length
  nd : m.Nodup
  live : ∀ a ∈ G.av, (∃ o, H a = some (.lst o)) ∧ a ∉ m
  obj : ∀ (n : Nat) (a : Addr) (o : MO), m[n]? = some a → S[n]? = some o → RepO G m H a o
theorem RepO.there {a : Addr} : ∀ {o : MO}, RepO G m H a o → ∃ u, H a = some u
  | .list xs, ⟨_, h, _, _⟩ => ⟨_, h⟩
  | .dict _, ⟨_, h, _⟩ => ⟨_, h⟩
  | .ins _ _, ⟨_, _, _, _, h⟩ => exAt_there h
  | .tbl _, ⟨_, _, _, h, _⟩ => ⟨_, h⟩
  | .dcti _, ⟨_, h, _⟩ => ⟨_, h⟩
theorem Sim.there {S : Store} (s : Sim G m H S) {a : Addr} (h : a ∈ m) : ∃ u, H a = some u := by
  obtain ⟨n, hn, e⟩ := List.getElem_of_mem h
  have e' : m[n]? = some a := by rw [List.getElem?_eq_getElem hn, e]
  have h2 : n < S.length := by rw [← s.len]; exact hn
  exact (s.obj n a S[n] e' (List.getElem?_eq_getElem h2)).there
theorem Sim.fresh {S : Store} (s : Sim G m H S) {p : Addr} (h : H p = none) : p ∉ m := fun q => by
  obtain ⟨u, e⟩ := s.there q
  rw [h] at e; cases e
theorem Sim.find {S : Store} (s : Sim G m H S) {n : Nat} {o : MO} (h : S[n]? = some o) : ∃ a, m[n]? = some a ∧ RepO G m H a o := by
  have hn : n < m.length := by rw [s.len]; exact (List.getElem?_eq_some_iff.mp h).1
  exact ⟨m[n], List.getElem?_eq_getElem hn, s.obj n _ o (List.getElem?_eq_getElem hn) h⟩
theorem Sim.freshA {S : Store} (s : Sim G m H S) {p : Addr} (h : H p = none) : Cl G m p := ⟨s.fresh h, fun q => by
  obtain ⟨⟨u, e⟩, _⟩ := s.live p q
  rw [h] at e; cases e⟩
/-- the object at a place is changed -/
theorem RepO.keep {a : Addr} (hH : ∀ u, H a = some u → H' a = some u) (e : Ext m H m' H') : ∀ {o : MO}, RepO G m H a o → RepO G m' H' a o
  | .list xs, ⟨vs, h, z, r⟩ => ⟨vs, hH _ h, z, r.ext e⟩
  | .dict _, ⟨xs, h, z, n, p, nd⟩ => ⟨xs, hH _ h, z, n, p.ext e, nd⟩
  | .ins _ _, ⟨C, x, h1, h2, h⟩ => ⟨C, x, h1, h2, exAt_keep (fun u _ => hH u) e h⟩
  | .dcti _, ⟨xs, h, z, p⟩ => ⟨xs, hH _ h, z, p.ext e⟩
  | .tbl _, ⟨q, ps, h1, h, t, c⟩ => ⟨q, ps, h1, hH _ h, t, fun pos cv z => let ⟨c, e1, e2, e3⟩ := c pos cv z; ⟨c, e1, (e.keep c _ e3.1 (by intro _ z; unfold LamX.CodeO at z; cases z) e2).1, (e.keep c _ e3.1 (by intro _ z; unfold LamX.CodeO at z; cases z) e2).2, e3.2⟩⟩

/-- a new object that does not change -/
theorem Sim.lay {S : Store} (s : Sim G m H S) {p : Addr} {o : HO} (h : H p = none) : Ext m H m (upd H p o) ∧ Sim G m (upd H p o) S ∧ Cl G m p := by
  have np := s.freshA h
  have hne : ∀ b u, H b = some u → b ≠ p := fun b u e z => by rw [z, h] at e; cases e
  have ex : Ext m H m (upd H p o) := ⟨fun _ _ q => q, fun b u n _ q => ⟨by rw [upd_ne (hne b u q)]; exact q, n⟩⟩
  refine ⟨ex, ⟨s.len, s.nd, fun a ha => ?_, fun n a x e1 e2 => ?_⟩, np⟩
  · obtain ⟨⟨u, e⟩, na⟩ := s.live a ha
    exact ⟨⟨u, by rw [upd_ne (hne _ _ e)]; exact e⟩, na⟩
  exact (s.obj n a x e1 e2).keep (fun u q => by rw [upd_ne (hne _ _ q)]; exact q) ex
/-- a new object that may change -/
theorem Sim.lays {S : Store} (s : Sim G m H S) {p : Addr} {o : HO} {x : MO} (h : H p = none) (ho : Ext m H (m ++ [p]) (upd H p o) → RepO G (m ++ [p]) (upd H p o) p x) :
    Ext m H (m ++ [p]) (upd H p o) ∧ Sim G (m ++ [p]) (upd H p o) (S ++ [x]) := by
  have np := s.fresh h
  have hne : ∀ b u, H b = some u → b ≠ p := fun b u e z => by rw [z, h] at e; cases e
  have ex : Ext m H (m ++ [p]) (upd H p o) := by
    refine ⟨fun n a q => ?_, fun b u n _ q => ⟨by rw [upd_ne (hne b u q)]; exact q, ?_⟩⟩
    · have hn := (List.getElem?_eq_some_iff.mp q).1
      rw [List.getElem?_append_left hn]; exact q
    · simp only [List.mem_append, List.mem_singleton, not_or]
      exact ⟨n, hne b u q⟩
  refine ⟨ex, ⟨by simp [s.len], ?_, fun a ha => ?_, fun n a y e1 e2 => ?_⟩⟩
  · rw [List.nodup_append]
    refine ⟨s.nd, by simp, fun a ha b hb => ?_⟩
    simp at hb; subst hb
    exact fun z => np (z ▸ ha)
  · obtain ⟨⟨u, e⟩, na⟩ := s.live a ha
    refine ⟨⟨u, by rw [upd_ne (hne _ _ e)]; exact e⟩, ?_⟩
    simp only [List.mem_append, List.mem_singleton, not_or]
    exact ⟨na, hne _ _ e⟩
  · by_cases hn : n < m.length
    · rw [List.getElem?_append_left hn] at e1
      rw [List.getElem?_append_left (by rw [← s.len]; exact hn)] at e2
      exact (s.obj n a y e1 e2).keep (fun u q => by rw [upd_ne (hne _ _ q)]; exact q) ex
    · have hn2 : n = m.length := by
        have := (List.getElem?_eq_some_iff.mp e1).1
        simp at this; omega
      subst hn2
      rw [List.getElem?_append_right (Nat.le_refl _)] at e1
      rw [s.len, List.getElem?_append_right (Nat.le_refl _)] at e2
      simp at e1 e2
      subst e1; subst e2
      exact ho ex
/-- an object is changed -/
theorem Sim.write {S : Store} (s : Sim G m H S) {n : Nat} {a : Addr} {o : HO} {x : MO} (h : m[n]? = some a) (ho : Ext m H m (upd H a o) → RepO G m (upd H a o) a x) :
    Ext m H m (upd H a o) ∧ Sim G m (upd H a o) (S.set n x) := by
  have ha : a ∈ m := List.mem_of_getElem? h
  have ex : Ext m H m (upd H a o) := ⟨fun _ _ q => q, fun b u nb _ q => ⟨by rw [upd_ne (fun z => nb (by rw [z]; exact ha))]; exact q, nb⟩⟩
  refine ⟨ex, ⟨by simp [s.len], s.nd, fun b hb => ?_, fun k b y e1 e2 => ?_⟩⟩
  · obtain ⟨⟨u, e⟩, na⟩ := s.live b hb
    exact ⟨⟨u, by rw [upd_ne (fun z => na (by rw [z]; exact ha))]; exact e⟩, na⟩
  by_cases hk : k = n
  · subst hk
    rw [h] at e1; cases e1
    have hl : k < S.length := by rw [← s.len]; exact (List.getElem?_eq_some_iff.mp h).1
    rw [List.getElem?_set_self hl] at e2; cases e2
    exact ho ex
  · rw [List.getElem?_set_ne (Ne.symm hk)] at e2
    have hb : b ≠ a := fun z => by
      subst z
      obtain ⟨h1, e3⟩ := List.getElem?_eq_some_iff.mp e1
      obtain ⟨h2, e4⟩ := List.getElem?_eq_some_iff.mp h
      exact hk ((List.getElem_inj s.nd).mp (e3.trans e4.symm))
    exact (s.obj k b y e1 e2).keep (fun u q => by rw [upd_ne hb]; exact q) ex

/-! ### the slots -/
structure RelS (G : GC) (m : List Addr) (H : Hp) (σ : St) (τ : Slots) : Prop where
  len : σ.length = τ.length
  at_ : ∀ (i : Nat) (d : D), τ[i]? = some (some d) → ∃ v, σ[i]? = some (some v) ∧ Rep G m H d v
theorem RelS.ext {σ : St} {τ : Slots} (r : RelS G m H σ τ) (e : Ext m H m' H') : RelS G m' H' σ τ :=
  ⟨r.len, fun i d h => let ⟨v, h1, h2⟩ := r.at_ i d h; ⟨v, h1, h2.ext e⟩⟩
theorem RelS.set {σ : St} {τ : Slots} (r : RelS G m H σ τ) {i : Nat} {d : D} {v : V} (h : Rep G m H d v) : RelS G m H (σ.set i (some v)) (τ.set i (some d)) := by
  refine ⟨by simp [r.len], fun j e hj => ?_⟩
  by_cases hij : i = j
  · subst hij
    have hl : i < τ.length := by
      by_cases q : i < τ.length
      · exact q
      · rw [List.getElem?_eq_none (by simpa using q)] at hj; cases hj
    rw [List.getElem?_set_self hl] at hj
    cases hj
    exact ⟨v, List.getElem?_set_self (by rw [r.len]; exact hl), h⟩
  · rw [List.getElem?_set_ne hij] at hj ⊢
    exact r.at_ j e hj
theorem RelS.wipe {σ : St} {τ : Slots} (r : RelS G m H σ τ) : ∀ (vs : List (Str × Nat)), RelS G m H (L2.wipe σ (vs.map (·.2))) (wipeS τ vs)
  | [] => r
  | v :: vs => by
    have q := r.wipe vs
    show RelS G m H ((L2.wipe σ (vs.map (·.2))).set v.2 none) ((wipeS τ vs).set v.2 none)
    refine ⟨by simp [q.len], fun j e hj => ?_⟩
    by_cases hij : v.2 = j
    · subst hij
      by_cases hl : v.2 < (wipeS τ vs).length
      · rw [List.getElem?_set_self hl] at hj; cases hj
      · rw [List.getElem?_eq_none (by simpa using hl)] at hj; cases hj
    · rw [List.getElem?_set_ne hij] at hj ⊢
      exact q.at_ j e hj

/-! ### what is wanted behind an evaluation -/
/-- an exception of the class c, by what its own dict holds -/
def RepX (G : GC) (m : List Addr) (H : Hp) (c : Nat) (pl : List (Str × D)) (cls : Value) (dd : Option Addr) : Prop :=
  ∃ C x, G.T.cls[c]? = some x ∧ G.mg x = some (.ref C) ∧ cls = .ref C ∧ (pl = [] ∨ ∃ a fs, dd = some a ∧ H a = some (.xd fs) ∧ RepL G m H (pl.map (·.2)) (fs.map (·.2)) ∧ pl.map (·.1) = fs.map (·.1))
/-- behind an evaluation that gives r -/
def Post {α β : Type} (G : GC) (W : WX) (R1 : List Addr → Hp → α → β → Prop) (m : List Addr) (σ : St) (H : Hp) (r : R α) (Q : β → Hp → Prop) : Prop :=
  match r with
  | .ok d S => ∀ m' H' v, Ext m H m' H' → Sim G m' H' S → R1 m' H' d v → Q v H'
  | .ex c pl S => ∀ m' H' cls dd, Ext m H m' H' → Sim G m' H' S → RepX G m' H' c pl cls dd → W cls dd σ H'
  | .bad => False
abbrev PostE (G : GC) (W : WX) (m : List Addr) (σ : St) (H : Hp) (r : R D) (Q : VK) : Prop := Post G W (Rep G) m σ H r Q
/-- the reading of an evaluation -/
def tR {α β : Type} (G : GC) (W : WX) (R1 : List Addr → Hp → α → β → Prop) (r : Slots → Store → R α) : St → Hp → (β → Hp → Prop) → Prop :=
  fun σ H Q => ∃ m τ S, RelS G m H σ τ ∧ Sim G m H S ∧ Post G W R1 m σ H (r τ S) Q
abbrev tE (G : GC) (W : WX) (r : Slots → Store → R D) : TE := tR G W (Rep G) r
abbrev tB (G : GC) (W : WX) (r : Slots → Store → R Bool) : TT := tR G W (fun _ _ d v => v = d) r
abbrev tAs (G : GC) (W : WX) (r : Slots → Store → R (List D)) : TA := tR G W (RepL G) r

variable {α β γ δ : Type} {W : WX} {R1 : List Addr → Hp → α → β → Prop} {R2 : List Addr → Hp → γ → δ → Prop} {σ : St} {τ : Slots} {S : Store}
/-- the first of two evaluations -/
theorem Post.seq {r : R α} {f : α → Store → R γ} {Q : δ → Hp → Prop} {Q' : β → Hp → Prop} (h : Post G W R2 m σ H (r.bind f) Q)
    (k : ∀ m' H' d S' v, Ext m H m' H' → Sim G m' H' S' → R1 m' H' d v → Post G W R2 m' σ H' (f d S') Q → Q' v H') : Post G W R1 m σ H r Q' := by
  cases r with
  | bad => exact h
  | ex c pl S => exact h
  | ok d S =>
    intro m' H' v e s q
    refine k m' H' d S v e s q ?_
    have h' : Post G W R2 m σ H (f d S) Q := h
    revert h'
    generalize f d S = z
    cases z with
    | bad => exact id
    | ex c pl S => exact fun h' m2 H2 cls dd e2 s2 x => h' m2 H2 cls dd (e.trans e2) s2 x
    | ok d2 S2 => exact fun h' m2 H2 v2 e2 s2 x => h' m2 H2 v2 (e.trans e2) s2 x
theorem tR.seq {r : Slots → Store → R α} {f : α → Store → R γ} {Q : δ → Hp → Prop} {Q' : β → Hp → Prop} (rel : RelS G m H σ τ) (sim : Sim G m H S) (h : Post G W R2 m σ H ((r τ S).bind f) Q)
    (k : ∀ m' H' d S' v, Ext m H m' H' → RelS G m' H' σ τ → Sim G m' H' S' → R1 m' H' d v → Post G W R2 m' σ H' (f d S') Q → Q' v H') : tR G W R1 r σ H Q' :=
  ⟨m, τ, S, rel, sim, h.seq fun m' H' d S' v e s q p => k m' H' d S' v e (rel.ext e) s q p⟩
theorem Post.mono {r : R α} {Q Q' : β → Hp → Prop} (h : Post G W R1 m σ H r Q) (k : ∀ v H', Q v H' → Q' v H') : Post G W R1 m σ H r Q' := by
  cases r with
  | bad => exact h
  | ex c pl S => exact h
  | ok d S => exact fun m' H' v e s q => k _ _ (h m' H' v e s q)
theorem Post.done {d : α} {v : β} {Q : β → Hp → Prop} (h : Post G W R1 m σ H (.ok d S) Q) (sim : Sim G m H S) (q : R1 m H d v) : Q v H := h m H v (.refl _ _) sim q
/-- .. with a new object that does not change -/
theorem Post.new {d : α} {v : β} {Q : β → Hp → Prop} {p : Addr} {o : HO} (h : Post G W R1 m σ H (.ok d S) Q) (sim : Sim G m H S) (n : H p = none) (q : Ext m H m (upd H p o) → Cl G m p → R1 m (upd H p o) d v) : Q v (upd H p o) := by
  obtain ⟨e, s, np⟩ := sim.lay (o := o) n
  exact h m _ v e s (q e np)
theorem Post.news {d : α} {v : β} {Q : β → Hp → Prop} {p : Addr} {o : HO} {x : MO} (h : Post G W R1 m σ H (.ok d (S ++ [x])) Q) (sim : Sim G m H S) (n : H p = none)
    (ho : Ext m H (m ++ [p]) (upd H p o) → RepO G (m ++ [p]) (upd H p o) p x) (q : Ext m H (m ++ [p]) (upd H p o) → R1 (m ++ [p]) (upd H p o) d v) : Q v (upd H p o) := by
  obtain ⟨e, s⟩ := sim.lays n ho
  exact h _ _ v e s (q e)
theorem Post.wrote {d : α} {v : β} {Q : β → Hp → Prop} {n : Nat} {a : Addr} {o : HO} {x : MO} (h : Post G W R1 m σ H (.ok d (S.set n x)) Q) (sim : Sim G m H S) (ha : m[n]? = some a)
    (ho : Ext m H m (upd H a o) → RepO G m (upd H a o) a x) (q : Ext m H m (upd H a o) → R1 m (upd H a o) d v) : Q v (upd H a o) := by
  obtain ⟨e, s⟩ := sim.write ha ho
  exact h _ _ v e s (q e)
theorem Post.if_ {c : Bool} {d : α} {Q : β → Hp → Prop} (h : Post G W R1 m σ H (okIf c d S) Q) : c = true ∧ Post G W R1 m σ H (.ok d S) Q := by
  cases c with
  | false => exact h.elim
  | true => exact ⟨rfl, h⟩
theorem Post.o_ {o : Option α} {Q : β → Hp → Prop} (h : Post G W R1 m σ H (okO o S) Q) : ∃ d, o = some d ∧ Post G W R1 m σ H (.ok d S) Q := by
  cases o with
  | none => exact h.elim
  | some d => exact ⟨d, rfl, h⟩

/-! ### lists and tuples as the hand layer reads them -/
theorem rep_lst {ds : List D} {v : V} (h : Rep G m H (.lst ds) v) : ∃ a xs, v = .ref a ∧ xs.length ≤ big ∧ RepL G m H ds xs ∧ H a = some (.lst xs) := by
  simp only [Rep] at h
  obtain ⟨a, xs, e, z, r, q, n⟩ := h
  exact ⟨a, xs, e, z, r, q⟩
theorem rep_scr {ds : List D} {v : V} (h : Rep G m H (.scr ds) v) : ∃ a xs, v = .ref a ∧ xs.length ≤ big ∧ RepL G m H ds xs ∧ SqL G.K H a xs := by
  simp only [Rep] at h
  obtain ⟨a, xs, e, z, r, q⟩ := h
  refine ⟨a, xs, e, z, r, ?_⟩
  rcases q with ⟨q, _⟩ | q
  · exact .inl q
  · exact q H
theorem rep_tup {ds : List D} {v : V} (h : Rep G m H (.tup ds) v) : ∃ a xs, v = .ref a ∧ xs.length ≤ big ∧ RepL G m H ds xs ∧ SqT G.K H a xs := by
  simp only [Rep] at h
  obtain ⟨a, xs, e, z, r, q⟩ := h
  refine ⟨a, xs, e, z, r, ?_⟩
  rcases q with ⟨q, _⟩ | q
  · exact .inl q
  · exact q H
theorem rep_lstOf {S : Store} (s : Sim G m H S) {d : D} {v : V} {xs : List D} (h : Rep G m H d v) (e : lstOf S d = some xs) : ∃ a vs, v = .ref a ∧ vs.length ≤ big ∧ RepL G m H xs vs ∧ H a = some (.lst vs) := by
  cases d with
  | lst ys => simp only [lstOf, Option.some.injEq] at e; subst e; exact rep_lst h
  | loc n =>
    simp only [lstOf] at e
    split at e
    · next zs hz =>
      cases e
      obtain ⟨a, ha, vs, h1, z, r⟩ := s.find hz
      simp only [Rep] at h
      obtain ⟨a', e', h'⟩ := h
      rw [ha] at h'; cases h'
      exact ⟨a, vs, e', z, r, h1⟩
    · cases e
  | _ => simp [lstOf] at e
theorem rep_seqOf {S : Store} (s : Sim G m H S) {d : D} {v : V} {xs : List D} (h : Rep G m H d v) (e : seqOf S d = some xs) : ∃ a vs, v = .ref a ∧ vs.length ≤ big ∧ RepL G m H xs vs ∧ (SqL G.K H a vs ∨ SqT G.K H a vs) := by
  cases d with
  | tup ys =>
    simp only [seqOf, Option.some.injEq] at e; subst e
    obtain ⟨a, vs, h1, h2, h3, h4⟩ := rep_tup h
    exact ⟨a, vs, h1, h2, h3, .inr h4⟩
  | lst ys =>
    obtain ⟨a, vs, h1, h2, h3, h4⟩ := rep_lstOf (xs := xs) s h (by simpa only [lstOf, seqOf] using e)
    exact ⟨a, vs, h1, h2, h3, .inl (.of h4)⟩
  | loc n =>
    obtain ⟨a, vs, h1, h2, h3, h4⟩ := rep_lstOf (xs := xs) s h (by simpa only [lstOf, seqOf] using e)
    exact ⟨a, vs, h1, h2, h3, .inl (.of h4)⟩
  | scr ys =>
    simp only [seqOf, Option.some.injEq] at e; subst e
    obtain ⟨a, vs, h1, h2, h3, h4⟩ := rep_scr h
    exact ⟨a, vs, h1, h2, h3, .inl h4⟩
  | _ => simp [seqOf] at e
/-- a new list, a new tuple -/
theorem rep_newL {p : Addr} {ds : List D} {xs : List V} (r : RepL G m H ds xs) (z : xs.length ≤ big) (e : Ext m H m (upd H p (.lst xs))) (n : Cl G m p) : Rep G m (upd H p (.lst xs)) (.lst ds) (.ref p) := by
  simp only [Rep]
  exact ⟨p, xs, rfl, z, r.ext e, upd_same, n⟩
theorem rep_newT {p : Addr} {ds : List D} {xs : List V} (r : RepL G m H ds xs) (z : xs.length ≤ big) (e : Ext m H m (upd H p (.tup xs))) (n : Cl G m p) : Rep G m (upd H p (.tup xs)) (.tup ds) (.ref p) := by
  simp only [Rep]
  exact ⟨p, xs, rfl, z, r.ext e, .inl ⟨.inl upd_same, n⟩⟩
/-- mkL: a new list, of either kind -/
theorem post_mkL {mu : Bool} {ds : List D} {xs : List V} {Q : VK} {p : Addr} (h : PostE G W m σ H (mkL mu ds S) Q) (sim : Sim G m H S) (n : H p = none) (r : RepL G m H ds xs) (z : xs.length ≤ big) : Q (.ref p) (upd H p (.lst xs)) := by
  cases mu with
  | false => exact Post.new (R1 := Rep G) (d := .lst ds) h sim n fun e np => rep_newL r z e np
  | true =>
    refine Post.news (R1 := Rep G) (d := .loc S.length) (x := .list ds) h sim n (fun e => ⟨xs, upd_same, z, r.ext e⟩) fun e => ?_
    simp only [Rep]
    refine ⟨p, rfl, ?_⟩
    rw [← sim.len, List.getElem?_append_right (Nat.le_refl _)]
    simp
end
end Ev
/-! Ev, part B2: objects in the making. -/
namespace Ev
open PySem L2
section
variable {G : GC} {m : List Addr} {H : Hp} {l : List Addr}
theorem rd_some {a : Addr} {u : HO} (h : Rd H a u) : ∃ o, H a = some o := by
  rcases h with h | ⟨o, h⟩ <;> exact ⟨_, h⟩
theorem Cl.up {a : Addr} {o : HO} (n : Cl G m a) (e : H a = some o) (f : ∀ a ∈ l, H a = none) : Cl (G.up l) m a := by
  refine ⟨n.1, fun q => ?_⟩
  rcases List.mem_append.mp (show a ∈ l ++ G.av from q) with q | q
  · rw [f a q] at e; cases e
  · exact n.2 q
theorem Cl.dn {a : Addr} (n : Cl (G.up l) m a) : Cl G m a := ⟨n.1, fun q => n.2 (List.mem_append.mpr (.inr q))⟩
mutual
theorem Rep.up (f : ∀ a ∈ l, H a = none) : ∀ {d : D} {v : V}, Rep G m H d v → Rep (G.up l) m H d v
  | .non, _, h => by simpa only [Rep] using h
  | .bl _, _, h => by simpa only [Rep] using h
  | .int _, _, h => by simpa only [Rep] using h
  | .str _, _, h => by simpa only [Rep] using h
  | .tup ds, _, h => by
    simp only [Rep] at h ⊢
    obtain ⟨a, xs, e1, hz, hl, q⟩ := h
    refine ⟨a, xs, e1, hz, RepL.up f hl, ?_⟩
    rcases q with ⟨q, n⟩ | q
    · obtain ⟨o, e⟩ := rd_some q
      exact .inl ⟨q, n.up e f⟩
    · exact .inr q
  | .lst ds, _, h => by
    simp only [Rep] at h ⊢
    obtain ⟨a, xs, e1, hz, hl, q, n⟩ := h
    exact ⟨a, xs, e1, hz, RepL.up f hl, q, n.up q f⟩
  | .scr ds, _, h => by
    simp only [Rep] at h ⊢
    obtain ⟨a, xs, e1, hz, hl, q⟩ := h
    refine ⟨a, xs, e1, hz, RepL.up f hl, ?_⟩
    rcases q with ⟨q, n⟩ | q
    · obtain ⟨o, e⟩ := rd_some q
      exact .inl ⟨q, n.up e f⟩
    · exact .inr q
  | .loc n, _, h => by simpa only [Rep] using h
  | .fn f, _, h => by simp only [Rep] at h ⊢; exact h
  | .cls c, _, h => by simp only [Rep] at h ⊢; exact h
theorem RepL.up (f : ∀ a ∈ l, H a = none) : ∀ {ds : List D} {vs : List V}, RepL G m H ds vs → RepL (G.up l) m H ds vs
  | [], _, h => by simpa only [RepL] using h
  | d :: ds, _, h => by
    simp only [RepL] at h ⊢
    obtain ⟨v, r, e1, h1, h2⟩ := h
    exact ⟨v, r, e1, Rep.up f h1, RepL.up f h2⟩
end
mutual
theorem Rep.dn : ∀ {d : D} {v : V}, Rep (G.up l) m H d v → Rep G m H d v
  | .non, _, h => by simpa only [Rep] using h
  | .bl _, _, h => by simpa only [Rep] using h
  | .int _, _, h => by simpa only [Rep] using h
  | .str _, _, h => by simpa only [Rep] using h
  | .tup ds, _, h => by
    simp only [Rep] at h ⊢
    obtain ⟨a, xs, e1, hz, hl, q⟩ := h
    refine ⟨a, xs, e1, hz, RepL.dn hl, ?_⟩
    rcases q with ⟨q, n⟩ | q
    · exact .inl ⟨q, n.dn⟩
    · exact .inr q
  | .lst ds, _, h => by
    simp only [Rep] at h ⊢
    obtain ⟨a, xs, e1, hz, hl, q, n⟩ := h
    exact ⟨a, xs, e1, hz, RepL.dn hl, q, n.dn⟩
  | .scr ds, _, h => by
    simp only [Rep] at h ⊢
    obtain ⟨a, xs, e1, hz, hl, q⟩ := h
    refine ⟨a, xs, e1, hz, RepL.dn hl, ?_⟩
    rcases q with ⟨q, n⟩ | q
    · exact .inl ⟨q, n.dn⟩
    · exact .inr q
  | .loc n, _, h => by simpa only [Rep] using h
  | .fn f, _, h => by simp only [Rep] at h ⊢; exact h
  | .cls c, _, h => by simp only [Rep] at h ⊢; exact h
theorem RepL.dn : ∀ {ds : List D} {vs : List V}, RepL (G.up l) m H ds vs → RepL G m H ds vs
  | [], _, h => by simpa only [RepL] using h
  | d :: ds, _, h => by
    simp only [RepL] at h ⊢
    obtain ⟨v, r, e1, h1, h2⟩ := h
    exact ⟨v, r, e1, Rep.dn h1, RepL.dn h2⟩
end
/-- an object in the making is changed -/
theorem rd_av {a p : Addr} {u o : HO} (ha : p ∈ G.av) (n : Cl G m a) (q : Rd H a u) : Rd (upd H p o) a u := by
  have hne : a ≠ p := fun z => n.2 (z ▸ ha)
  unfold Rd at q ⊢
  rwa [upd_ne hne]
mutual
theorem Rep.av {p : Addr} {o : HO} (ha : p ∈ G.av) : ∀ {d : D} {v : V}, Rep G m H d v → Rep G m (upd H p o) d v
  | .non, _, h => by simpa only [Rep] using h
  | .bl _, _, h => by simpa only [Rep] using h
  | .int _, _, h => by simpa only [Rep] using h
  | .str _, _, h => by simpa only [Rep] using h
  | .tup ds, _, h => by
    simp only [Rep] at h ⊢
    obtain ⟨a, xs, e1, hz, hl, q⟩ := h
    refine ⟨a, xs, e1, hz, RepL.av ha hl, ?_⟩
    rcases q with ⟨q, n⟩ | q
    · exact .inl ⟨rd_av ha n q, n⟩
    · exact .inr q
  | .lst ds, _, h => by
    simp only [Rep] at h ⊢
    obtain ⟨a, xs, e1, hz, hl, q, n⟩ := h
    exact ⟨a, xs, e1, hz, RepL.av ha hl, by rw [upd_ne (fun (z : a = p) => n.2 (by rw [z]; exact ha))]; exact q, n⟩
  | .scr ds, _, h => by
    simp only [Rep] at h ⊢
    obtain ⟨a, xs, e1, hz, hl, q⟩ := h
    refine ⟨a, xs, e1, hz, RepL.av ha hl, ?_⟩
    rcases q with ⟨q, n⟩ | q
    · exact .inl ⟨rd_av ha n q, n⟩
    · exact .inr q
  | .loc n, _, h => by simpa only [Rep] using h
  | .fn f, _, h => by simpa only [Rep] using h
  | .cls c, _, h => by simpa only [Rep] using h
theorem RepL.av {p : Addr} {o : HO} (ha : p ∈ G.av) : ∀ {ds : List D} {vs : List V}, RepL G m H ds vs → RepL G m (upd H p o) ds vs
  | [], _, h => by simpa only [RepL] using h
  | d :: ds, _, h => by
    simp only [RepL] at h ⊢
    obtain ⟨v, r, e1, h1, h2⟩ := h
    exact ⟨v, r, e1, Rep.av ha h1, RepL.av ha h2⟩
end
theorem PairD.up (f : ∀ a ∈ l, H a = none) : ∀ {kvs : List (D × D)} {xs : List (NestedKey × Addr × Value)}, PairD G m H kvs xs → PairD (G.up l) m H kvs xs
  | [], _, h => h
  | (k, d) :: kvs, _, ⟨x, r, e1, e2, e3, h1, ⟨v, rv, h2⟩, h3⟩ => ⟨x, r, e1, e2, e3, h1.up f, ⟨v, rv, h2.up f⟩, PairD.up f h3⟩
theorem PairD.dn : ∀ {kvs : List (D × D)} {xs : List (NestedKey × Addr × Value)}, PairD (G.up l) m H kvs xs → PairD G m H kvs xs
  | [], _, h => h
  | (k, d) :: kvs, _, ⟨x, r, e1, e2, e3, h1, ⟨v, rv, h2⟩, h3⟩ => ⟨x, r, e1, e2, e3, h1.dn, ⟨v, rv, h2.dn⟩, PairD.dn h3⟩
theorem PairD.av {p : Addr} {o : HO} (ha : p ∈ G.av) : ∀ {kvs : List (D × D)} {xs : List (NestedKey × Addr × Value)}, PairD G m H kvs xs → PairD G m (upd H p o) kvs xs
  | [], _, h => h
  | (k, d) :: kvs, _, ⟨x, r, e1, e2, e3, h1, ⟨v, rv, h2⟩, h3⟩ => ⟨x, r, e1, e2, e3, h1.av ha, ⟨v, rv, h2.av ha⟩, PairD.av ha h3⟩
theorem PairI.up (f : ∀ a ∈ l, H a = none) : ∀ {kvs : List (Int × D)} {xs : List (Key × V)}, PairI G m H kvs xs → PairI (G.up l) m H kvs xs
  | [], _, h => h
  | (k, d) :: kvs, _, ⟨v, r, e1, h1, h2⟩ => ⟨v, r, e1, h1.up f, PairI.up f h2⟩
theorem PairI.dn : ∀ {kvs : List (Int × D)} {xs : List (Key × V)}, PairI (G.up l) m H kvs xs → PairI G m H kvs xs
  | [], _, h => h
  | (k, d) :: kvs, _, ⟨v, r, e1, h1, h2⟩ => ⟨v, r, e1, h1.dn, PairI.dn h2⟩
theorem PairI.av {p : Addr} {o : HO} (ha : p ∈ G.av) : ∀ {kvs : List (Int × D)} {xs : List (Key × V)}, PairI G m H kvs xs → PairI G m (upd H p o) kvs xs
  | [], _, h => h
  | (k, d) :: kvs, _, ⟨v, r, e1, h1, h2⟩ => ⟨v, r, e1, h1.av ha, PairI.av ha h2⟩
theorem exAt_up (f : ∀ a ∈ l, H a = none) {C a : Addr} : ∀ {fs : List (Str × D)}, ExAt G m H C a fs → ExAt (G.up l) m H C a fs
  | [], h => h
  | [(_, .int _)], ⟨dx, h, h2, h3⟩ => ⟨dx, h, h2, h3.up h2 f⟩
theorem exAt_dn {C a : Addr} : ∀ {fs : List (Str × D)}, ExAt (G.up l) m H C a fs → ExAt G m H C a fs
  | [], h => h
  | [(_, .int _)], ⟨dx, h, h2, h3⟩ => ⟨dx, h, h2, h3.dn⟩
theorem exAt_av {p : Addr} {u : HO} (ha : p ∈ G.av) {C a : Addr} (hne : a ≠ p) : ∀ {fs : List (Str × D)}, ExAt G m H C a fs → ExAt G m (upd H p u) C a fs
  | [], h => by show upd H p u a = _; rw [upd_ne hne]; exact h
  | [(_, .int _)], ⟨dx, h, h2, h3⟩ => ⟨dx, by rw [upd_ne hne]; exact h, by rw [upd_ne (fun z => h3.2 (by rw [z]; exact ha))]; exact h2, h3⟩
theorem RepO.up (f : ∀ a ∈ l, H a = none) {a : Addr} : ∀ {o : MO}, RepO G m H a o → RepO (G.up l) m H a o
  | .list xs, ⟨vs, h, z, r⟩ => ⟨vs, h, z, r.up f⟩
  | .dict _, ⟨xs, h, z, n, p, nd⟩ => ⟨xs, h, z, n, p.up f, nd⟩
  | .ins _ _, ⟨C, x, h1, h2, h⟩ => ⟨C, x, h1, h2, exAt_up f h⟩
  | .dcti _, ⟨xs, h, z, p⟩ => ⟨xs, h, z, p.up f⟩
  | .tbl _, ⟨q, ps, h1, h, t, c⟩ => ⟨q, ps, h1, h, t, fun pos cv z => let ⟨c, e1, e2, e3⟩ := c pos cv z; ⟨c, e1, e2, e3.up e2 f⟩⟩
theorem RepO.dn {a : Addr} : ∀ {o : MO}, RepO (G.up l) m H a o → RepO G m H a o
  | .list xs, ⟨vs, h, z, r⟩ => ⟨vs, h, z, r.dn⟩
  | .dict _, ⟨xs, h, z, n, p, nd⟩ => ⟨xs, h, z, n, p.dn, nd⟩
  | .ins _ _, ⟨C, x, h1, h2, h⟩ => ⟨C, x, h1, h2, exAt_dn h⟩
  | .dcti _, ⟨xs, h, z, p⟩ => ⟨xs, h, z, p.dn⟩
  | .tbl _, ⟨q, ps, h1, h, t, c⟩ => ⟨q, ps, h1, h, t, fun pos cv z => let ⟨c, e1, e2, e3⟩ := c pos cv z; ⟨c, e1, e2, e3.dn⟩⟩
theorem RepO.av {p : Addr} {u : HO} (ha : p ∈ G.av) {a : Addr} (hne : a ≠ p) : ∀ {o : MO}, RepO G m H a o → RepO G m (upd H p u) a o
  | .list xs, ⟨vs, h, z, r⟩ => ⟨vs, by rw [upd_ne hne]; exact h, z, r.av ha⟩
  | .dict _, ⟨xs, h, z, n, p, nd⟩ => ⟨xs, by rw [upd_ne hne]; exact h, z, n, p.av ha, nd⟩
  | .ins _ _, ⟨C, x, h1, h2, h⟩ => ⟨C, x, h1, h2, exAt_av ha hne h⟩
  | .dcti _, ⟨xs, h, z, p⟩ => ⟨xs, by rw [upd_ne hne]; exact h, z, p.av ha⟩
  | .tbl _, ⟨q, ps, h1, h, t, c⟩ => ⟨q, ps, h1, by rw [upd_ne hne]; exact h, t, fun pos cv z => let ⟨c, e1, e2, e3⟩ := c pos cv z; ⟨c, e1, by rw [upd_ne (fun z => e3.2 (by rw [z]; exact ha))]; exact e2, e3⟩⟩
variable {S : Store}
theorem Sim.dn (s : Sim (G.up l) m H S) : Sim G m H S := ⟨s.len, s.nd, fun a h => s.live a (List.mem_append.mpr (.inr h)), fun n a o e1 e2 => (s.obj n a o e1 e2).dn⟩
theorem Sim.av (s : Sim G m H S) {p : Addr} {u : List V} (ha : p ∈ G.av) : Sim G m (upd H p (.lst u)) S := by
  refine ⟨s.len, s.nd, fun a h => ⟨?_, (s.live a h).2⟩, fun n a o e1 e2 => (s.obj n a o e1 e2).av ha fun z => (s.live p ha).2 (z ▸ List.mem_of_getElem? e1)⟩
  by_cases z : a = p
  · subst z; exact ⟨_, upd_same⟩
  · rw [upd_ne z]; exact (s.live a h).1
/-- a new object in the making -/
theorem Sim.make (s : Sim G m H S) {p : Addr} {u : List V} (h : H p = none) : Ext m H m (upd H p (.lst u)) ∧ Sim (G.up [p]) m (upd H p (.lst u)) S := by
  have hne : ∀ b o, H b = some o → b ≠ p := fun b o e z => by rw [z, h] at e; cases e
  have f : ∀ a ∈ [p], H a = none := fun a q => by cases List.mem_singleton.mp q; exact h
  refine ⟨⟨fun _ _ q => q, fun b o n _ q => ⟨by rw [upd_ne (hne b o q)]; exact q, n⟩⟩, s.len, s.nd, fun a ha => ?_, fun n a o e1 e2 => ?_⟩
  · rcases List.mem_append.mp (show a ∈ [p] ++ G.av from ha) with q | q
    · cases List.mem_singleton.mp q
      exact ⟨⟨_, upd_same⟩, s.fresh h⟩
    · obtain ⟨⟨o, e⟩, n⟩ := s.live a q
      exact ⟨⟨o, by rw [upd_ne (hne _ _ e)]; exact e⟩, n⟩
  · have r := s.obj n a o e1 e2
    obtain ⟨w, e⟩ := r.there
    exact (r.up f).av (G := G.up [p]) (List.mem_append.mpr (.inl (List.mem_singleton.mpr rfl))) (hne _ _ e)
variable {σ : St} {τ : Slots}
theorem RelS.up (r : RelS G m H σ τ) (f : ∀ a ∈ l, H a = none) : RelS (G.up l) m H σ τ := ⟨r.len, fun i d h => let ⟨v, e, q⟩ := r.at_ i d h; ⟨v, e, q.up f⟩⟩
theorem RelS.av (r : RelS G m H σ τ) {p : Addr} {u : HO} (ha : p ∈ G.av) : RelS G m (upd H p u) σ τ := ⟨r.len, fun i d h => let ⟨v, e, q⟩ := r.at_ i d h; ⟨v, e, q.av ha⟩⟩
end
end Ev
/-! Ev, part C: the operations by values. -/
namespace Ev
open PySem L2
theorem big_eq : big = sizeLine := by rw [sizeLine_eq]; rfl

/-! ### data as the library's -/
mutual
def D.py : D → PyData
  | .non => .none
  | .bl b => .bool b
  | .int i => .int i
  | .str x => .str x
  | .tup xs => .tuple (D.pyL xs)
  | .lst xs => .list (D.pyL xs)
  | _ => .none
def D.pyL : List D → List PyData
  | [] => []
  | x :: xs => D.py x :: D.pyL xs
end
section
variable {G : GC} {m : List Addr} {H : Hp}
mutual
theorem flat_dp : ∀ (n : Nat) (d : D) (v : V), d.flat n = true → Rep G m H d v → Dp G.K H v d.py ∧ d.py.canLay0 = true ∧ d.py.depth ≤ n
  | n, .non, v, _, h => by simp only [Rep] at h; subst h; exact ⟨.non, by simp only [D.py, PyData.canLay0], by simp [D.py, PyData.depth]⟩
  | n, .bl b, v, _, h => by simp only [Rep] at h; subst h; exact ⟨.bl b, by simp only [D.py, PyData.canLay0], by simp [D.py, PyData.depth]⟩
  | n, .int i, v, _, h => by simp only [Rep] at h; subst h; exact ⟨.int i, by simp only [D.py, PyData.canLay0], by simp [D.py, PyData.depth]⟩
  | n, .str x, v, _, h => by
    simp only [Rep] at h
    obtain ⟨rfl, h1, h2⟩ := h
    exact ⟨.str x, by simp only [D.py, PyData.canLay0]; exact h1, by simp [D.py, PyData.depth]⟩
  | n + 1, .tup xs, v, f, h => by
    obtain ⟨a, vs, rfl, z, r, q⟩ := rep_tup h
    simp only [D.flat] at f
    obtain ⟨h1, h2, h3⟩ := flat_dpL n xs vs f r
    exact ⟨.tup q h1, by simpa only [D.py, PyData.canLay0] using h2, by simp only [D.py, PyData.depth]; omega⟩
  | n + 1, .lst xs, v, f, h => by
    obtain ⟨a, vs, rfl, z, r, q⟩ := rep_lst h
    simp only [D.flat] at f
    obtain ⟨h1, h2, h3⟩ := flat_dpL n xs vs f r
    exact ⟨.lst (.of q) h1, by simpa only [D.py, PyData.canLay0] using h2, by simp only [D.py, PyData.depth]; omega⟩
  | 0, .tup xs, v, f, h => by simp [D.flat] at f
  | 0, .lst xs, v, f, h => by simp [D.flat] at f
  | n, .loc k, v, f, h => by cases n <;> simp [D.flat] at f
  | n, .fn k, v, f, h => by cases n <;> simp [D.flat] at f
  | n, .cls k, v, f, h => by cases n <;> simp [D.flat] at f
theorem flat_dpL : ∀ (n : Nat) (ds : List D) (vs : List V), D.flatL n ds = true → RepL G m H ds vs → DpAll G.K H vs (D.pyL ds) ∧ PyData.canLayAll0 (D.pyL ds) = true ∧ PyData.depthAll (D.pyL ds) ≤ n
  | n, [], vs, _, h => by simp only [RepL] at h; subst h; exact ⟨.nil, by simp only [D.pyL, PyData.canLayAll0], by simp [D.pyL, PyData.depthAll]⟩
  | n, d :: ds, vs, f, h => by
    simp only [RepL] at h
    obtain ⟨v, r, rfl, h1, h2⟩ := h
    simp only [D.flatL, Bool.and_eq_true] at f
    obtain ⟨a1, a2, a3⟩ := flat_dp n d v f.1 h1
    obtain ⟨b1, b2, b3⟩ := flat_dpL n ds r f.2 h2
    exact ⟨.cons a1 b1, by simp only [D.pyL, PyData.canLayAll0, a2, b2, Bool.and_self], by simp only [D.pyL, PyData.depthAll]; omega⟩
end
mutual
theorem py_eqv : ∀ (n : Nat) (a b : D), a.flat n = true → b.flat n = true → PyData.eqv a.py b.py = D.eqv a b
  | n, .non, b, _, fb => by cases b <;> first | (simp only [D.py, PyData.eqv, D.eqv]; done) | (cases n <;> simp [D.flat] at fb; done)
  | n, .bl x, b, _, fb => by cases b <;> first | (simp only [D.py, PyData.eqv, D.eqv]; done) | (cases n <;> simp [D.flat] at fb; done)
  | n, .int x, b, _, fb => by cases b <;> first | (simp only [D.py, PyData.eqv, D.eqv]; done) | (cases n <;> simp [D.flat] at fb; done)
  | n, .str x, b, _, fb => by cases b <;> first | (simp only [D.py, PyData.eqv, D.eqv]; done) | (cases n <;> simp [D.flat] at fb; done)
  | n + 1, .tup xs, b, fa, fb => by
    cases b with
    | tup ys => simp only [D.flat] at fa fb; simp only [D.py, PyData.eqv, D.eqv]; exact py_eqvL n xs ys fa fb
    | _ => first | (simp only [D.py, PyData.eqv, D.eqv]; done) | (simp [D.flat] at fb; done)
  | n + 1, .lst xs, b, fa, fb => by
    cases b with
    | lst ys => simp only [D.flat] at fa fb; simp only [D.py, PyData.eqv, D.eqv]; exact py_eqvL n xs ys fa fb
    | _ => first | (simp only [D.py, PyData.eqv, D.eqv]; done) | (simp [D.flat] at fb; done)
  | 0, .tup xs, v, f, h => by simp [D.flat] at f
  | 0, .lst xs, v, f, h => by simp [D.flat] at f
  | n, .loc k, v, f, h => by cases n <;> simp [D.flat] at f
  | n, .fn k, v, f, h => by cases n <;> simp [D.flat] at f
  | n, .cls k, v, f, h => by cases n <;> simp [D.flat] at f
theorem py_eqvL : ∀ (n : Nat) (a b : List D), D.flatL n a = true → D.flatL n b = true → PyData.eqvAll (D.pyL a) (D.pyL b) = D.eqvL a b
  | n, [], b, _, _ => by cases b <;> simp only [D.pyL, PyData.eqvAll, D.eqvL]
  | n, x :: xs, b, fa, fb => by
    cases b with
    | nil => simp only [D.pyL, PyData.eqvAll, D.eqvL]
    | cons y ys =>
      simp only [D.flatL, Bool.and_eq_true] at fa fb
      simp only [D.pyL, PyData.eqvAll, D.eqvL, py_eqv n x y fa.1 fb.1, py_eqvL n xs ys fa.2 fb.2]
end
theorem py_any (n : Nat) (d : D) (fd : d.flat n = true) : ∀ (ys : List D), D.flatL n ys = true → ((D.pyL ys).any fun z => PyData.eqv z d.py) = ys.any fun z => D.eqv z d
  | [], _ => rfl
  | y :: ys, f => by
    simp only [D.flatL, Bool.and_eq_true] at f
    simp only [D.pyL, List.any_cons, py_eqv n y d f.1 fd, py_any n d fd ys f.2]
theorem flat_shaped {n : Nat} {d : D} {v : V} (hn : n ≤ 64) (f : d.flat n = true) (r : Rep G m H d v) : Dp G.K H v d.py ∧ SeqAt.shaped d.py = true := by
  obtain ⟨h1, h2, h3⟩ := flat_dp n d v f r
  refine ⟨h1, ?_⟩
  show (d.py.canLay0 && decide (d.py.depth ≤ 64)) = true
  rw [h2, decide_eq_true (by omega)] <;> rfl
theorem rep_rd {S : Store} (s : Sim G m H S) {d : D} {v : V} {n : Nat} (h : Rep G m H d v) (f : (rd S d).flat n = true) (hn : n ≤ 60) : Dp G.K H v (rd S d).py ∧ SeqAt.shaped (rd S d).py = true := by
  cases d with
  | loc k =>
    simp only [rd] at f ⊢
    split at f
    · next xs hz =>
      obtain ⟨a, ha, vs, h1, z, r⟩ := s.find hz
      simp only [Rep] at h
      obtain ⟨a', e', h'⟩ := h
      rw [ha] at h'; cases h'
      cases n with
      | zero => simp [D.flat] at f
      | succ n =>
        simp only [D.flat] at f
        obtain ⟨b1, b2, b3⟩ := flat_dpL n xs vs f r
        subst e'
        refine ⟨.lst (.of h1) b1, ?_⟩
        show (PyData.canLay0 (.list (D.pyL xs)) && decide (PyData.depth (.list (D.pyL xs)) ≤ 64)) = true
        simp only [PyData.canLay0, PyData.depth, b2, Bool.true_and]
        exact decide_eq_true (by omega)
    · cases n <;> simp [D.flat] at f
  | _ => exact flat_shaped (by omega) f h
end

theorem repL_times {ds : List D} {vs : List V} (h : RepL G m H ds vs) : ∀ k : Nat, RepL G m H (List.replicate k ds).flatten (List.replicate k vs).flatten
  | 0 => by simp only [List.replicate, List.flatten]; simp only [RepL]
  | k + 1 => by
    rw [List.replicate_succ, List.replicate_succ, List.flatten_cons, List.flatten_cons]
    exact h.app (repL_times h k)
theorem flat_len {α : Type} (xs : List α) : ∀ k : Nat, (List.replicate k xs).flatten.length = k * xs.length
  | 0 => by simp
  | k + 1 => by rw [List.replicate_succ, List.flatten_cons, List.length_append, flat_len xs k, Nat.add_mul]; omega
/-! ### the rules by values -/
section
variable {G : GC} {W : WX} {X : Cx} {pins : List (Addr × Obj)} {σ : St} {H : Hp} {s : Shared} {m : List Addr} {S : Store} {x y : V} {v u : Value} {Q : VK} {a b : D}
/-- what a place must be -/
structure At (G : GC) (X : Cx) : Prop where
  K : X.K = G.K
  pr : X.prog = G.P
  wd : X.w = G.w
  calm : X.calm = true
  un : X.A.units + 65 < cLine
def opO : BO → Operator
  | .add => .Add | .sub => .Sub | .mul => .Mult | .fdiv => .FloorDiv | .mod => .Mod | .pow => .Pow
theorem binop_ok (A : At G X) (o : BO) (I : Inv X pins σ H s) (rx : RelV x v) (ry : RelV y u) (ha : Rep G m H a x) (hb : Rep G m H b y) (sim : Sim G m H S) (h : PostE G W m σ H (binop o a b S) Q) :
    wpAny (model X.prog X.w) X.A (binaryOp (opO o) v u) (EP X pins σ Q) X.xe s := by
  cases o with
  | sub =>
    cases a <;> cases b <;> first | exact h.elim | skip
    · simp only [Rep] at ha hb
      subst ha; subst hb
      cases rx
      obtain ⟨t, rfl⟩ := ry
      rename_i a j
      exact PySem.IntBool.sub_bool_int ⟨.int (b2 a - j), H, I.tok _, ⟨_, rfl⟩, h.done sim (by simp only [Rep])⟩
    · simp only [Rep] at ha hb
      exact op_sub pins s σ H x y v u Q I rx ry ⟨_, _, ha, hb, h.done sim (by simp only [Rep])⟩
  | mul =>
    cases a <;> cases b <;> first | exact h.elim | skip
    · simp only [Rep] at ha hb
      obtain ⟨c, h⟩ := Post.if_ h
      have q := h.done (v := V.int _) sim (by simp only [Rep]; exact rfl)
      simp only [mulOk, Bool.or_eq_true, Bool.and_eq_true, decide_eq_true_eq] at c
      rcases c with c | c
      · exact op_mul pins s σ H x y v u Q I rx ry ⟨_, _, ha, hb, c, q⟩
      · exact op_mulW pins s σ H x y v u Q I rx ry ⟨_, _, ha, hb, c, q⟩
    · rename_i xs k
      obtain ⟨l, vs, rfl, z1, r1, q1⟩ := rep_tup ha
      simp only [Rep] at hb
      obtain ⟨c, h⟩ := Post.if_ h
      simp only [Bool.and_eq_true, decide_eq_true_eq, Bool.not_eq_true'] at c
      obtain ⟨⟨⟨c1, c2⟩, c3⟩, c4⟩ := c
      have n1 := r1.length
      refine op_repT pins s σ H _ _ v u Q I rx ry ⟨l, _, vs, rfl, hb, A.K ▸ q1, fun e => ?_, c1, c2, by omega, fun p np => ?_⟩
      · subst e
        rw [List.eq_nil_of_length_eq_zero (l := xs) (by rw [← n1]; rfl)] at c3
        cases c3
      · exact h.new sim np fun e n => rep_newT (repL_times r1 _) (by rw [flat_len, n1]; have : big = 16777216 := rfl; have := Nat.mul_le_mul (show k.toNat ≤ 1000 by omega) c4; omega) e n
  | fdiv =>
    cases a <;> cases b <;> first | exact h.elim | skip
    simp only [Rep] at ha hb
    obtain ⟨c, h⟩ := Post.if_ h
    have q := h.done (v := V.int _) sim (by simp only [Rep]; exact rfl)
    simp only [divOk, Bool.and_eq_true, decide_eq_true_eq] at c
    exact op_fdivW pins s σ H x y v u Q I rx ry ⟨_, _, ha, hb, c, q⟩
  | mod =>
    cases a <;> cases b <;> first | exact h.elim | skip
    simp only [Rep] at ha hb
    obtain ⟨c, h⟩ := Post.if_ h
    have q := h.done (v := V.int _) sim (by simp only [Rep]; exact rfl)
    simp only [decide_eq_true_eq] at c
    exact op_mod pins s σ H x y v u Q I rx ry ⟨_, _, ha, hb, c, q⟩
  | pow =>
    cases a <;> cases b <;> first | exact h.elim | skip
    simp only [Rep] at ha hb
    obtain ⟨c, h⟩ := Post.if_ h
    have q := h.done (v := V.int _) sim (by simp only [Rep]; exact rfl)
    simp only [Bool.and_eq_true, decide_eq_true_eq] at c
    exact op_pow pins s σ H x y v u Q I rx ry ⟨_, _, ha, hb, ⟨c.1.1, c.1.2, c.2⟩, q⟩
  | add =>
    have lists : ∀ {xs ys : List D}, lstOf S a = some xs → lstOf S b = some ys → PostE G W m σ H (okIf (decide (xs.length + ys.length ≤ big)) (.lst (xs ++ ys)) S) Q → wpAny (model X.prog X.w) X.A (binaryOp .Add v u) (EP X pins σ Q) X.xe s := by
      intro xs ys e1 e2 h
      obtain ⟨c, h⟩ := Post.if_ h
      simp only [decide_eq_true_eq] at c
      obtain ⟨l, vs, rfl, z1, r1, q1⟩ := rep_lstOf sim ha e1
      obtain ⟨l', ws, rfl, z2, r2, q2⟩ := rep_lstOf sim hb e2
      have n1 := r1.length
      have n2 := r2.length
      refine op_cat pins s σ H _ _ v u Q I rx ry ⟨l, l', vs, ws, rfl, rfl, q1, q2, by rw [← big_eq]; omega, fun p np => ?_⟩
      exact h.new sim np fun e n => rep_newL (r1.app r2) (by rw [List.length_append]; omega) e n
    cases a with
    | int i =>
      cases b with
      | int j =>
        simp only [Rep] at ha hb
        exact op_add pins s σ H x y v u Q I rx ry ⟨_, _, ha, hb, h.done sim (by simp only [Rep])⟩
      | _ => exact h.elim
    | bl i =>
      cases b with
      | int j =>
        simp only [Rep] at ha hb
        subst ha; subst hb
        cases rx
        obtain ⟨t, rfl⟩ := ry
        exact PySem.IntBool.add_bool_int ⟨.int (b2 i + j), H, I.tok _, ⟨_, rfl⟩, h.done sim (by simp only [Rep])⟩
      | _ => exact h.elim
    | str i =>
      cases b with
      | str j =>
        simp only [Rep] at ha hb
        obtain ⟨c, h⟩ := Post.if_ h
        simp only [decide_eq_true_eq] at c
        refine op_add_str pins s σ H x y v u Q I rx ry ⟨_, _, ha.1, hb.1, by rw [← big_eq]; exact c, h.done sim ?_⟩
        simp only [Rep]
        refine ⟨True.intro, ?_, ?_⟩
        · have h1 : i.cps.all (· < 0x110000) = true := ha.2.1
          have h2 : j.cps.all (· < 0x110000) = true := hb.2.1
          show (i.cps ++ j.cps).all (· < 0x110000) = true
          rw [Array.all_append, h1, h2] <;> rfl
        · show (i.cps ++ j.cps).size ≤ big
          rw [Array.size_append]; exact c
      | _ => exact h.elim
    | tup xs =>
      cases b with
      | tup ys =>
        obtain ⟨c, h⟩ := Post.if_ h
        simp only [decide_eq_true_eq] at c
        obtain ⟨l, vs, rfl, z1, r1, q1⟩ := rep_tup ha
        obtain ⟨l', ws, rfl, z2, r2, q2⟩ := rep_tup hb
        have n1 := r1.length
        have n2 := r2.length
        refine op_catA pins s σ H _ _ v u Q I rx ry ⟨l, l', vs, ws, rfl, rfl, A.K ▸ q1, A.K ▸ q2, by rw [← big_eq]; omega, fun e => ?_, fun e1 e2 => ?_, fun e1 e2 p np => ?_⟩
        · have e' : xs = [] := List.eq_nil_of_length_eq_zero (by rw [← n1, e]; rfl)
          subst e'
          exact h.done sim (by simpa only [List.nil_append] using hb)
        · have e' : ys = [] := List.eq_nil_of_length_eq_zero (by rw [← n2, e2]; rfl)
          subst e'
          exact h.done sim (by simpa only [List.append_nil] using ha)
        · exact h.new sim np fun e n => rep_newT (r1.app r2) (by rw [List.length_append]; omega) e n
      | _ => exact h.elim
    | lst xs =>
      cases hb2 : lstOf S b with
      | none => cases b <;> simp_all [binop, lstOf, Post]
      | some ys => exact lists (xs := xs) (ys := ys) rfl hb2 (by cases b <;> simp_all [lstOf, binop])
    | loc n =>
      cases ha2 : lstOf S (.loc n) with
      | none => cases b <;> simp [binop, ha2, Post] at h
      | some xs =>
        cases hb2 : lstOf S b with
        | none => cases b <;> simp_all [binop, Post]
        | some ys => exact lists (xs := xs) (ys := ys) ha2 hb2 (by cases b <;> simp_all [binop])
    | _ => cases b <;> simp [binop, lstOf, Post] at h
end
end Ev
/-! Ev, part C1: dicts whose keys are tuples. -/
namespace Ev
open PySem L2
mutual
theorem nk_inj : ∀ {a b : D} {k : NestedKey}, nk a = some k → nk b = some k → a = b
  | .int i, b, k, h1, h2 => by
    simp only [nk, Option.some.injEq] at h1; subst h1
    cases b <;> simp [nk] at h2
    rw [h2]
  | .str i, b, k, h1, h2 => by
    simp only [nk, Option.some.injEq] at h1; subst h1
    cases b <;> simp [nk] at h2
    rw [h2]
  | .tup xs, b, k, h1, h2 => by
    simp only [nk, Option.map_eq_some_iff] at h1
    obtain ⟨ks, h1, rfl⟩ := h1
    cases b <;> simp [nk] at h2
    rw [nkL_inj h1 h2]
  | .non, _, _, h1, _ => by simp [nk] at h1
  | .bl _, _, _, h1, _ => by simp [nk] at h1
  | .lst _, _, _, h1, _ => by simp [nk] at h1
  | .loc _, _, _, h1, _ => by simp [nk] at h1
  | .fn _, _, _, h1, _ => by simp [nk] at h1
  | .cls _, _, _, h1, _ => by simp [nk] at h1
  | .scr _, _, _, h1, _ => by simp [nk] at h1
theorem nkL_inj : ∀ {a b : List D} {k : List NestedKey}, nkL a = some k → nkL b = some k → a = b
  | [], [], _, _, _ => rfl
  | [], y :: ys, k, h1, h2 => by
    simp only [nkL, Option.some.injEq] at h1; subst h1
    simp only [nkL] at h2
    split at h2 <;> simp at h2
  | x :: xs, [], k, h1, h2 => by
    simp only [nkL, Option.some.injEq] at h2; subst h2
    simp only [nkL] at h1
    split at h1 <;> simp at h1
  | x :: xs, y :: ys, k, h1, h2 => by
    simp only [nkL] at h1 h2
    split at h1
    · next k1 ks1 e1 e2 =>
      cases h1
      split at h2
      · next k2 ks2 e3 e4 =>
        cases h2
        rw [nk_inj e1 e3, nkL_inj e2 e4]
      · cases h2
    · cases h1
end
mutual
theorem nk_some : ∀ (n : Nat) (d : D), d.key n = true → ∃ k, nk d = some k ∧ k.depth ≤ n
  | _, .int i, _ => ⟨_, rfl, Nat.zero_le _⟩
  | _, .str x, _ => ⟨_, rfl, Nat.zero_le _⟩
  | 0, .tup xs, h => by simp [D.key] at h
  | n + 1, .tup xs, h => by
    simp only [D.key] at h
    obtain ⟨ks, e, l⟩ := nkL_some n xs h
    exact ⟨.tup ks, by simp only [nk, e, Option.map_some], by simp only [NestedKey.depth]; omega⟩
  | n, .non, h => by cases n <;> simp [D.key] at h
  | n, .bl _, h => by cases n <;> simp [D.key] at h
  | n, .lst _, h => by cases n <;> simp [D.key] at h
  | n, .loc _, h => by cases n <;> simp [D.key] at h
  | n, .fn _, h => by cases n <;> simp [D.key] at h
  | n, .cls _, h => by cases n <;> simp [D.key] at h
  | n, .scr _, h => by cases n <;> simp [D.key] at h
theorem nkL_some : ∀ (n : Nat) (ds : List D), D.keyL n ds = true → ∃ ks, nkL ds = some ks ∧ NestedKey.depthAll ks ≤ n
  | n, [], _ => ⟨[], rfl, Nat.zero_le _⟩
  | n, d :: ds, h => by
    simp only [D.keyL, Bool.and_eq_true] at h
    obtain ⟨k, e1, l1⟩ := nk_some n d h.1
    obtain ⟨ks, e2, l2⟩ := nkL_some n ds h.2
    exact ⟨k :: ks, by simp only [nkL, e1, e2], by simp only [NestedKey.depthAll]; omega⟩
end
theorem keyT_some {d : D} (h : keyT d = true) : ∃ k, nk d = some k ∧ k.depth ≤ 8 ∧ ∃ xs, d = .tup xs := by
  cases d <;> simp [keyT] at h
  rename_i xs
  obtain ⟨ks, e, l⟩ := nkL_some 7 xs h
  exact ⟨.tup ks, by simp only [nk, e, Option.map_some], by simp only [NestedKey.depth]; omega, xs, rfl⟩
section
variable {G : GC} {m : List Addr} {H : Hp} {X : Cx} {pins : List (Addr × Obj)} {σ : St} {s : Shared}
mutual
theorem nk_is (A : At G X) (I : Inv X pins σ H s) : ∀ {d : D} {v : V} {u : Value} {k : NestedKey}, Rep G m H d v → RelV v u → nk d = some k → NestedIs s.heap k u
  | .int i, v, u, k, h, r, e => by
    simp only [Rep] at h; subst h
    simp only [nk, Option.some.injEq] at e; subst e
    obtain ⟨t, rfl⟩ := r
    exact .int i t
  | .str x, v, u, k, h, r, e => by
    simp only [Rep] at h
    rw [h.1] at r
    simp only [nk, Option.some.injEq] at e; subst e
    obtain ⟨t, rfl⟩ := r
    exact .text x t
  | .tup xs, v, u, k, h, r, e => by
    obtain ⟨a, vs, rfl, z, rl, q⟩ := rep_tup h
    simp only [nk, Option.map_eq_some_iff] at e
    obtain ⟨ks, e, rfl⟩ := e
    rw [← A.K] at q
    obtain ⟨its, rv, ⟨o, h1, h2, n, h3⟩, hz⟩ := I.tuple q
    cases r
    exact .tup h1 h2 h3 (by rw [List.toList_toArray]; exact nk_all A I rl rv e)
  | .non, _, _, _, _, _, e => by simp [nk] at e
  | .bl _, _, _, _, _, _, e => by simp [nk] at e
  | .lst _, _, _, _, _, _, e => by simp [nk] at e
  | .loc _, _, _, _, _, _, e => by simp [nk] at e
  | .fn _, _, _, _, _, _, e => by simp [nk] at e
  | .cls _, _, _, _, _, _, e => by simp [nk] at e
  | .scr _, _, _, _, _, _, e => by simp [nk] at e
theorem nk_all (A : At G X) (I : Inv X pins σ H s) : ∀ {ds : List D} {vs : List V} {us : List Value} {ks : List NestedKey}, RepL G m H ds vs → Vals vs us → nkL ds = some ks → NestedAll s.heap ks us
  | [], vs, us, ks, h, r, e => by
    simp only [RepL] at h; subst h
    simp only [nkL, Option.some.injEq] at e; subst e
    cases r
    exact .nil
  | d :: ds, vs, us, ks, h, r, e => by
    simp only [RepL] at h
    obtain ⟨v, vr, rfl, h1, h2⟩ := h
    cases r with
    | cons r1 r2 =>
      simp only [nkL] at e
      split at e
      · next k ks' e1 e2 =>
        cases e
        exact .cons (nk_is A I h1 r1 e1) (nk_all A I h2 r2 e2)
      · cases e
end
theorem key_is (A : At G X) (I : Inv X pins σ H s) {d : D} {b : Addr} (h : Rep G m H d (.ref b)) (hk : keyT d = true) : ∃ k, nk d = some k ∧ (nestedKind X.prog X.w).is s.heap k b := by
  obtain ⟨k, e, l, _⟩ := keyT_some hk
  exact ⟨k, e, nk_is A I h rfl e, l⟩
/-- the entries, as the text's own dict -/
theorem PairD.keys (A : At G X) (I : Inv X pins σ H s) : ∀ {kvs : List (D × D)} {xs : List (NestedKey × Addr × Value)}, PairD G m H kvs xs → ∀ x ∈ xs, (nestedKind X.prog X.w).is s.heap x.1 x.2.1
  | [], _, h, x, hx => by
    have h : _ = [] := h
    subst h; simp at hx
  | (k, d) :: kvs, _, ⟨y, r, e1, e2, e3, h1, h2, h3⟩, x, hx => by
    subst e1
    rcases List.mem_cons.mp hx with rfl | hx
    · obtain ⟨k', e, q⟩ := key_is A I h1 e3
      rw [e2] at e; cases e
      exact q
    · exact PairD.keys A I h3 x hx
theorem dct_of (A : At G X) (I : Inv X pins σ H s) {a : Addr} {kvs : List (D × D)} {xs : List (NestedKey × Addr × Value)} (hH : H a = some (.ext (dctAt G.P G.w a xs))) (p : PairD G m H kvs xs) (nd : (xs.map (·.1)).Nodup) : s.heap.DictOfH (nestedKind X.prog X.w) a xs := by
  obtain ⟨⟨o, es, ep, h1, h2, h3, h4⟩, _, _⟩ := (I.hok a _ hH : ObjOk X.prog X.w H s.heap a (.ext (dctAt G.P G.w a xs)))
  rw [← A.pr, ← A.wd] at h4
  exact ⟨o, es, ep, h1, h2, h3, h4, p.keys A I, nd⟩
theorem PairD.len : ∀ {kvs : List (D × D)} {xs : List (NestedKey × Addr × Value)}, PairD G m H kvs xs → xs.length = kvs.length
  | [], _, h => by
    have h : _ = [] := h
    subst h; rfl
  | (k, d) :: kvs, _, ⟨y, r, e1, e2, e3, h1, h2, h3⟩ => by subst e1; simp [PairD.len h3]
/-- what is found -/
theorem PairD.at_ : ∀ {kvs : List (D × D)} {xs : List (NestedKey × Addr × Value)} {kd : D} {k : NestedKey}, PairD G m H kvs xs → nk kd = some k →
    (lookD kvs kd = none ∧ atKey xs k = none) ∨ ∃ d b u v, lookD kvs kd = some d ∧ atKey xs k = some (b, u) ∧ RelV v u ∧ Rep G m H d v
  | [], _, kd, k, h, e => by
    have h : _ = [] := h
    subst h
    exact .inl ⟨rfl, rfl⟩
  | (k', d) :: kvs, _, kd, k, ⟨y, r, e1, e2, e3, h1, ⟨v, rv, h2⟩, h3⟩, e => by
    subst e1
    obtain ⟨yk, yb, yu⟩ := y
    by_cases hk : k' = kd
    · subst hk
      rw [e2] at e; cases e
      exact .inr ⟨d, yb, yu, v, by simp [lookD], by simp [atKey], rv, h2⟩
    · have hk2 : ¬ yk = k := fun z => hk (by subst z; exact nk_inj e2 e)
      have ih := PairD.at_ h3 e
      have l1 : lookD ((k', d) :: kvs) kd = lookD kvs kd := by simp [lookD, hk]
      have l2 : atKey ((yk, yb, yu) :: r) k = atKey r k := by simp [atKey, hk2]
      rw [l1, l2]
      exact ih
theorem PairD.put {kd d : D} {k : NestedKey} {b : Addr} {u : Value} {v : V} (e : nk kd = some k) (ek : keyT kd = true) (hb : Rep G m H kd (.ref b)) (rv : RelV v u) (hv : Rep G m H d v) :
    ∀ {kvs : List (D × D)} {xs : List (NestedKey × Addr × Value)}, PairD G m H kvs xs → PairD G m H (kvs.map fun p => if p.1 = kd then (p.1, d) else p) (xs.map (putAt k u))
  | [], _, h => by
    have h : _ = [] := h
    subst h; rfl
  | (k', d') :: kvs, _, ⟨y, r, e1, e2, e3, h1, h2, h3⟩ => by
    subst e1
    obtain ⟨yk, yb, yu⟩ := y
    have ih := PairD.put e ek hb rv hv h3
    by_cases hk : k' = kd
    · subst hk
      have hk2 : yk = k := by rw [e2] at e; exact Option.some.inj e
      subst hk2
      simp only [List.map_cons, if_true, putAt]
      exact ⟨_, _, rfl, e2, e3, h1, ⟨v, rv, hv⟩, ih⟩
    · have hk2 : ¬ yk = k := fun z => hk (by subst z; exact nk_inj e2 e)
      simp only [List.map_cons, if_neg hk, putAt, if_neg hk2]
      exact ⟨_, _, rfl, e2, e3, h1, h2, ih⟩
theorem PairD.app {kd d : D} {k : NestedKey} {b : Addr} {u : Value} {v : V} (e : nk kd = some k) (ek : keyT kd = true) (hb : Rep G m H kd (.ref b)) (rv : RelV v u) (hv : Rep G m H d v) :
    ∀ {kvs : List (D × D)} {xs : List (NestedKey × Addr × Value)}, PairD G m H kvs xs → PairD G m H (kvs ++ [(kd, d)]) (xs ++ [(k, b, u)])
  | [], _, h => by
    have h : _ = [] := h
    subst h
    exact ⟨_, _, rfl, e, ek, hb, ⟨v, rv, hv⟩, rfl⟩
  | (k', d') :: kvs, _, ⟨y, r, e1, e2, e3, h1, h2, h3⟩ => by
    subst e1
    exact ⟨_, _, rfl, e2, e3, h1, h2, PairD.app e ek hb rv hv h3⟩
theorem PairD.stored {kd d : D} {k : NestedKey} {b : Addr} {u : Value} {v : V} (e : nk kd = some k) (ek : keyT kd = true) (hb : Rep G m H kd (.ref b)) (rv : RelV v u) (hv : Rep G m H d v)
    {kvs : List (D × D)} {xs : List (NestedKey × Addr × Value)} (p : PairD G m H kvs xs) (nd : (xs.map (·.1)).Nodup) : PairD G m H (storeD kvs kd d) (storedH xs k b u) ∧ ((storedH xs k b u).map (·.1)).Nodup := by
  rcases p.at_ e with ⟨h1, h2⟩ | ⟨d', b', u', v', h1, h2, _⟩
  · rw [storedH_new h2]
    unfold storeD
    rw [h1]
    refine ⟨p.app e ek hb rv hv, ?_⟩
    rw [List.map_append, List.nodup_append]
    refine ⟨nd, by simp, fun x hx y hy z => ?_⟩
    simp only [List.map_cons, List.map_nil, List.mem_singleton] at hy
    subst hy; subst z
    obtain ⟨w, hw, rfl⟩ := List.mem_map.mp hx
    obtain ⟨i, hi⟩ := List.mem_iff_getElem?.mp hw
    rw [atKey_of_get nd (i := i) (k := w.1) (p := w.2) hi] at h2
    cases h2
  · rw [storedH_old h2]
    unfold storeD
    rw [h1]
    refine ⟨p.put e ek hb rv hv, ?_⟩
    rw [keys_map_putAt]; exact nd
/-! ### the four operations -/
variable {S : Store} {x y : V} {v u : Value} {Q : VK} {a b : D}
theorem dict_at (sim : Sim G m H S) (hb : Rep G m H b y) {kvs : List (D × D)} (e : dictOf S b = some kvs) : ∃ n l xs, b = .loc n ∧ m[n]? = some l ∧ S[n]? = some (.dict kvs) ∧ y = .ref l ∧ H l = some (.ext (dctAt G.P G.w l xs)) ∧ kvs.length ≤ big ∧ (l == sysModules) = false ∧ PairD G m H kvs xs ∧ (xs.map (·.1)).Nodup := by
  cases b <;> simp [dictOf] at e
  rename_i n
  split at e
  · next kvs' hS =>
    cases e
    obtain ⟨l, hl, xs, h1, h2, h3, h4, h5⟩ := sim.find hS
    simp only [Rep] at hb
    obtain ⟨l', rfl, hl'⟩ := hb
    rw [hl] at hl'; cases hl'
    exact ⟨n, l, xs, rfl, hl, hS, rfl, h1, h2, h3, h4, h5⟩
  · cases e
theorem key_ref (ha : Rep G m H a x) (hk : keyT a = true) : ∃ p, x = .ref p := by
  obtain ⟨_, _, _, xs, rfl⟩ := keyT_some hk
  obtain ⟨p, _, rfl, _⟩ := rep_tup ha
  exact ⟨p, rfl⟩
theorem room_n (A : At G X) : (nestedKind X.prog X.w).room X.A.in1 := by have := A.un; show X.A.units + 1 + 8 < cLine; omega
theorem dmem_ok (A : At G X) (I : Inv X pins σ H s) (rx : RelV x v) (ry : RelV y u) (ha : Rep G m H a x) (hb : Rep G m H b y) (sim : Sim G m H S) {kvs : List (D × D)} (e : dictOf S b = some kvs) (hk : keyT a = true) :
    (Q (.bl (lookD kvs a).isSome) H → wpAny (model X.prog X.w) X.A (compareOp .In v u) (EP X pins σ Q) X.xe s) ∧
    (Q (.bl (!(lookD kvs a).isSome)) H → wpAny (model X.prog X.w) X.A (compareOp .NotIn v u) (EP X pins σ Q) X.xe s) := by
  obtain ⟨n, l, xs, rfl, hl, hS, rfl, hH, hz, hs, p, nd⟩ := dict_at sim hb e
  obtain ⟨q, rfl⟩ := key_ref ha hk
  obtain ⟨k, ek, hi⟩ := key_is A I ha hk
  cases (show v = Value.ref q from rx)
  cases (show u = Value.ref l from ry)
  have D0 := dct_of A I hH p nd
  have same : (lookD kvs a).isSome = (atKey xs k).isSome := by
    rcases p.at_ ek with ⟨h1, h2⟩ | ⟨_, _, _, _, h1, h2, _⟩ <;> rw [h1, h2] <;> rfl
  have hb2 : (valueAt (pairsH xs) k).isSome = (atKey xs k).isSome := by rw [valueAt_pairsH, Option.isSome_map]
  refine ⟨fun h => wpAny_in_heap (room_n A) hi hs D0 ⟨.bl (atKey xs k).isSome, H, I.tok _, rfl, by rw [← same]; exact h⟩, fun h => notIn_keyed (kvs := pairsH xs) (room_n A) hi hs ⟨xs, D0, rfl⟩ ⟨.bl (!(valueAt (pairsH xs) k).isSome), H, I.tok _, rfl, by rw [hb2, ← same]; exact h⟩⟩
theorem dget_ok (A : At G X) {value slice : Expr} (hs' : subscripted slice false v u = operate [v, u] (getItem v u)) (I : Inv X pins σ H s) (rx : RelV x v) (ry : RelV y u) (ha : Rep G m H a x) (hb : Rep G m H b y) (sim : Sim G m H S) {kvs : List (D × D)} (e : dictOf S a = some kvs) (hk : keyT b = true) {d : D} (hd : lookD kvs b = some d)
    (h : ∀ w, Rep G m H d w → Q w H) : wpAny (model X.prog X.w) X.A (PyProof.Rows.subscriptTail value slice v u) (EP X pins σ Q) X.xe s := by
  obtain ⟨n, l, xs, rfl, hl, hS, rfl, hH, hz, hs, p, nd⟩ := dict_at sim ha e
  obtain ⟨q, rfl⟩ := key_ref hb hk
  obtain ⟨k, ek, hi⟩ := key_is A I hb hk
  cases (show v = Value.ref l from rx)
  cases (show u = Value.ref q from ry)
  have D0 := dct_of A I hH p nd
  rcases p.at_ ek with ⟨h1, h2⟩ | ⟨d', b', u', w, h1, h2, rv, r⟩
  · rw [h1] at hd; cases hd
  · rw [h1] at hd; cases hd
    exact PyProof.Rows.tail_any D0.typeIs slot_dict_getitem.lookup (wpAny_getItem_heap (room_n A) hi D0 h2 ⟨w, H, I.tok _, rv, h w r⟩) hs'
/-- d[k] = v -/
def rSetD (G : GC) : V → V → V → Hp → (Hp → Prop) → Prop := fun o i v H Q => ∃ m S n kvs kd d, Rep G m H (.loc n) o ∧ Rep G m H kd i ∧ Rep G m H d v ∧ Sim G m H S ∧ S[n]? = some (.dict kvs) ∧ keyT kd = true ∧ kvs.length < big ∧
  ∀ m' H', Ext m H m' H' → Sim G m' H' (S.set n (.dict (storeD kvs kd d))) → Q H'
theorem dct_ok {P : Program} {w : World} {H : Hp} {h : Heap} {a : Addr} {xs : List (NestedKey × Addr × Value)} (x : dctAt P w a xs h) : ObjOk P w H h a (.ext (dctAt P w a xs)) := by
  refine ⟨x, ?_, fun h1 h2 ⟨o, es, ep, e1, e2, e3, e4⟩ k => ⟨o, es, ep, k o e1, e2, e3, e4⟩⟩
  obtain ⟨o, es, ep, e1, _⟩ := x
  exact ⟨o, e1⟩
theorem storeD_len (kvs : List (D × D)) (k v : D) : (storeD kvs k v).length ≤ kvs.length + 1 := by
  unfold storeD
  split <;> simp
theorem set_dct (A : At G X) : PSet X (rSetD G) := by
  intro pins s σ H o i v ov iv u Q I ro ri rv h
  obtain ⟨m, S, n, kvs, kd, d, ho, hk, hd, sim, hS, kt, hz, q⟩ := h
  obtain ⟨n', l, xs, en, hl, hS', rfl, hH, hz', hs, p, nd⟩ := dict_at sim ho (kvs := kvs) (by simp only [dictOf, hS])
  cases en
  obtain ⟨b, rfl⟩ := key_ref hk kt
  obtain ⟨k, ek, hi⟩ := key_is A I hk kt
  cases (show ov = Value.ref l from ro)
  cases (show iv = Value.ref b from ri)
  have D0 := dct_of A I hH p nd
  refine wpAny_setItem_heap (room_n A) hi D0 (fun h' dd hs2 => ?_) (by rw [← big_eq, p.len]; exact hz')
  obtain ⟨oo, es, ep, e1, e2, e3, e4, e5, e6⟩ := dd
  have dx : dctAt X.prog X.w l (storedH xs k b u) h' := ⟨oo, es, ep, e1, e2, e3, e4⟩
  have I2 := d_write (t' := s.toks + (nestedKind X.prog X.w).draws k) I (by rw [hH]; exact True.intro) hs2 ⟨oo, e1⟩ (dct_ok (H := upd H l (.ext (dctAt X.prog X.w l (storedH xs k b u)))) dx)
  obtain ⟨ext, sim2⟩ := sim.write (o := .ext (dctAt X.prog X.w l (storedH xs k b u))) (x := .dict (storeD kvs kd d)) hl fun ext => by
    obtain ⟨q1, q2⟩ := PairD.stored ek kt (hk.ext ext) rv (hd.ext ext) (p.ext ext) nd
    exact ⟨storedH xs k b u, by rw [← A.pr, ← A.wd]; exact upd_same, by have := storeD_len kvs kd d; omega, hs, q1, q2⟩
  exact ⟨_, I2, q m _ ext sim2⟩
/-! ### dicts whose keys are ints -/
theorem dcti_at (sim : Sim G m H S) (hb : Rep G m H b y) {kvs : List (Int × D)} (e : dctiOf S b = some kvs) : ∃ n l xs, b = .loc n ∧ m[n]? = some l ∧ S[n]? = some (.dcti kvs) ∧ y = .ref l ∧ H l = some (.dK xs) ∧ kvs.length ≤ big ∧ PairI G m H kvs xs := by
  cases b <;> simp [dctiOf] at e
  rename_i n
  split at e
  · next kvs' hS =>
    cases e
    obtain ⟨l, hl, xs, h1, h2, h3⟩ := sim.find hS
    simp only [Rep] at hb
    obtain ⟨l', rfl, hl'⟩ := hb
    rw [hl] at hl'; cases hl'
    exact ⟨n, l, xs, rfl, hl, hS, rfl, h1, h2, h3⟩
  · cases e
theorem room_1 (A : At G X) : X.A.units + 1 < cLine := by have := A.un; omega
theorem imem_ok (A : At G X) (I : Inv X pins σ H s) {i : Int} (rx : RelV (.int i) v) (ry : RelV y u) (hb : Rep G m H b y) (sim : Sim G m H S) {kvs : List (Int × D)} (e : dctiOf S b = some kvs) :
    (Q (.bl (lookI kvs i).isSome) H → wpAny (model X.prog X.w) X.A (compareOp .In v u) (EP X pins σ Q) X.xe s) ∧
    (Q (.bl (!(lookI kvs i).isSome)) H → wpAny (model X.prog X.w) X.A (compareOp .NotIn v u) (EP X pins σ Q) X.xe s) := by
  obtain ⟨n, l, xs, rfl, hl, hS, rfl, hH, hz, p⟩ := dcti_at sim hb e
  cases (show u = Value.ref l from ry)
  have g : DGet H l (.int i) (valV xs (.inl i)) := DGet.k (k := .inl i) hH
  have same : (lookI kvs i).isSome = (valV xs (.inl i)).isSome := by
    rcases p.at_ i with ⟨h1, h2⟩ | ⟨_, _, h1, h2, _⟩ <;> rw [h1, h2] <;> rfl
  exact ⟨fun h => d_in (room_1 A) I g rx fun s' I' => ⟨.bl _, H, I', rfl, by rw [← same]; exact h⟩, fun h => d_notIn (room_1 A) I g rx fun s' I' => ⟨.bl _, H, I', rfl, by rw [← same]; exact h⟩⟩
theorem iget_ok (A : At G X) {value slice : Expr} (hs' : subscripted slice false v u = operate [v, u] (getItem v u)) (I : Inv X pins σ H s) (rx : RelV x v) {i : Int} (ry : RelV (.int i) u) (ha : Rep G m H a x) (sim : Sim G m H S) {kvs : List (Int × D)} (e : dctiOf S a = some kvs) {d : D} (hd : lookI kvs i = some d)
    (h : ∀ w, Rep G m H d w → Q w H) : wpAny (model X.prog X.w) X.A (PyProof.Rows.subscriptTail value slice v u) (EP X pins σ Q) X.xe s := by
  obtain ⟨n, l, xs, rfl, hl, hS, rfl, hH, hz, p⟩ := dcti_at sim ha e
  cases (show v = Value.ref l from rx)
  rcases p.at_ i with ⟨h1, h2⟩ | ⟨d', w, h1, h2, r⟩
  · rw [h1] at hd; cases hd
  · rw [h1] at hd; cases hd
    obtain ⟨z, hd, vs, rel, dd⟩ := dk_of I.hok hH
    exact PyProof.Rows.tail_any dd.typeIs slot_dict_getitem.lookup (d_getItem (room_1 A) I (h2 ▸ DGet.k (k := .inl i) hH) ry fun w' s' I' rw' => ⟨w, H, I', rw', h w r⟩) hs'
def rSetI (G : GC) : V → V → V → Hp → (Hp → Prop) → Prop := fun o i v H Q => ∃ m S n kvs k d, Rep G m H (.loc n) o ∧ i = .int k ∧ Rep G m H d v ∧ Sim G m H S ∧ S[n]? = some (.dcti kvs) ∧ kvs.length < big ∧
  ∀ m' H', Ext m H m' H' → Sim G m' H' (S.set n (.dcti (storeI kvs k d))) → Q H'
theorem storeI_len (kvs : List (Int × D)) (k : Int) (v : D) : (storeI kvs k v).length ≤ kvs.length + 1 := by
  unfold storeI
  split <;> simp
theorem set_dcti (A : At G X) : PSet X (rSetI G) := by
  intro pins s σ H o i v ov iv u Q I ro ri rv h
  obtain ⟨m, S, n, kvs, k, d, ho, rfl, hd, sim, hS, hz, q⟩ := h
  obtain ⟨n', l, xs, en, hl, hS', rfl, hH, hz', p⟩ := dcti_at sim ho (kvs := kvs) (by simp only [dctiOf, hS])
  cases en
  cases (show ov = Value.ref l from ro)
  obtain ⟨ext, sim2⟩ := sim.write (o := .dK (putK xs (.inl k) v)) (x := .dcti (storeI kvs k d)) hl fun ext => ⟨_, upd_same, by have := storeI_len kvs k d; omega, (p.ext ext).put k (hd.ext ext)⟩
  exact d_setItem (room_1 A) I (DPut.k (k := .inl k) hH (by rw [p.len, ← big_eq]; exact hz)) ri rv fun s' I' => ⟨_, I', q m _ ext sim2⟩
end
end Ev
/-! Ev, part C2: comparisons, subscripts, calls of built-in functions, methods. -/
namespace Ev
open PySem L2
section
variable {G : GC} {m : List Addr} {H : Hp} {S : Store}
/-- nothing is raised -/
def W0 : WX := fun _ _ _ _ => False
def NoEx {α : Type} : R α → Prop
  | .ex _ _ _ => False
  | _ => True
theorem Post.any {α β : Type} {R1 : List Addr → Hp → α → β → Prop} {r : R α} {W W' : WX} {σ σ' : St} {Q : β → Hp → Prop} (n : NoEx r) (h : Post G W R1 m σ H r Q) : Post G W' R1 m σ' H r Q := by
  cases r with
  | ok d S => exact h
  | bad => exact h
  | ex c pl S => exact n.elim
theorem noex_if {α : Type} {c : Bool} {a : α} : NoEx (okIf c a S) := by cases c <;> trivial
theorem noex_o {α : Type} {o : Option α} : NoEx (okO o S) := by cases o <;> trivial
theorem noex_cmpop (o : CO) (x y : D) : NoEx (cmpop o x y S) := by
  cases o <;> simp only [cmpop] <;> first | exact noex_if | (repeat' split) <;> first | trivial | exact noex_if
theorem noex_binop (o : BO) (x y : D) : NoEx (binop o x y S) := by
  unfold binop
  repeat' split
  all_goals first | trivial | exact noex_if
theorem noex_getIx (x y : D) : NoEx (getIx x y S) := by
  unfold getIx
  repeat' split
  all_goals first | trivial | exact noex_o
theorem noex_getSl (x : D) (lo hi : Option Int) : NoEx (getSl x lo hi S) := by
  unfold getSl
  repeat' split
  all_goals first | trivial
theorem noex_callB (b : BI) (as : List D) : NoEx (callB b as S) := by
  unfold callB
  repeat' split
  all_goals first | trivial | exact noex_if
theorem noex_methB (b : MI) (x : D) (as : List D) : NoEx (methB b x as S) := by
  unfold methB
  repeat' split
  all_goals first | trivial | exact noex_if
section
variable {prog : Program} {w : World} {A : Around} {E : Value → Shared → Prop} {s : Shared}
theorem gives_neg_bool (a : Bool) : Gives (Builtin.«int.__neg__» ⟨[.bool a], []⟩) (.int (-(if a = true then (1 : Int) else 0))) :=
  .of_wp fun M A E s Q h => by obtain ⟨hp, g, d, tk, os⟩ := s; wp_walk; exact ⟨_, rfl, h⟩
theorem neg_bool {a : Bool} {Q : Value → Shared → Prop} (h : Q (.int (-(if a = true then (1 : Int) else 0)) s.toks) { s with toks := s.toks + 1 }) : wpAny (model prog w) A (unaryOp .USub (.bool a)) Q E s :=
  unaryOp_gives (op := .USub) (T := "bool") rfl rfl F.slot_bool_neg F.entry_int_neg (F.args_int_neg_1 _) (gives_neg_bool a) h
theorem is_bool_bool {a b : Bool} {Q : Value → Shared → Prop} (h : Q (.bool (a == b)) s) : wpAny (model prog w) A (compareOp .Is (.bool a) (.bool b)) Q E s := by
  cases a <;> cases b <;> exact wpAny_pure h
end
/-- the result, or nothing -/
abbrev P0 (G : GC) (m : List Addr) (H : Hp) (r : R D) (Q : VK) : Prop := PostE G W0 m [] H r Q

theorem same_non {d : D} {v : V} (h : Rep G m H d v) : decide (v = V.non) = d.same .non := by
  cases d <;> simp only [Rep] at h
  case non => subst h; rfl
  case bl => subst h; rfl
  case int => subst h; rfl
  case str => rw [h.1]; rfl
  case tup => obtain ⟨a, xs, rfl, _⟩ := h; rfl
  case lst => obtain ⟨a, xs, rfl, _⟩ := h; rfl
  case loc => obtain ⟨a, rfl, _⟩ := h; rfl
  case fn => obtain ⟨a, _, _, rfl, _⟩ := h; rfl
  case cls => obtain ⟨a, _, rfl, _⟩ := h; rfl
  case scr => obtain ⟨a, xs, rfl, _⟩ := h; rfl
end
section
variable {G : GC} {X : Cx} {pins : List (Addr × Obj)} {σ : St} {H : Hp} {s : Shared} {m : List Addr} {S : Store} {x y : V} {v u : Value} {Q : VK} {a b : D}
def cO : CO → CmpOp
  | .eq => .Eq | .ne => .NotEq | .lt => .Lt | .le => .LtE | .gt => .Gt | .ge => .GtE | .isN => .Is | .notN => .IsNot | .mem => .In | .nmem => .NotIn
theorem mem_ok (A : At G X) (I : Inv X pins σ H s) (rx : RelV x v) (ry : RelV y u) (ha : Rep G m H a x) (hb : Rep G m H b y) (sim : Sim G m H S) {ys : List D} (e : seqOf S b = some ys) (f1 : a.flat 60 = true) (f2 : D.flatL 60 ys = true) :
    (Q (.bl (ys.any fun z => D.eqv z a)) H → wpAny (model X.prog X.w) X.A (compareOp .In v u) (EP X pins σ Q) X.xe s) ∧
    (Q (.bl (!ys.any fun z => D.eqv z a)) H → wpAny (model X.prog X.w) X.A (compareOp .NotIn v u) (EP X pins σ Q) X.xe s) := by
  obtain ⟨l, vs, rfl, z, rl, q⟩ := rep_seqOf sim hb e
  obtain ⟨d1, d2, d3⟩ := flat_dp 60 a x f1 ha
  obtain ⟨e1, e2, e3⟩ := flat_dpL 60 ys vs f2 rl
  have an := py_any 60 a f1 ys f2
  have un := A.un
  rw [← A.K] at d1 e1 q
  obtain ⟨as, r1⟩ := Dp.reads I a.py x v d1 rx
  have room : X.A.units + 1 + min (PyData.depthAll (D.pyL ys)) a.py.depth < cLine := by omega
  rcases q with q | q
  · obtain ⟨bs, r2⟩ := Dp.reads I (.list (D.pyL ys)) (.ref l) u (.lst q e1) ry
    refine ⟨fun h => SeqAt.in_list_reads r2 r1 e2 d2 room ⟨.bl _, H, I, rfl, by rw [an]; exact h⟩, fun h => SeqAt.notIn_list_reads r2 r1 e2 d2 room ⟨.bl _, H, I, rfl, by rw [an]; exact h⟩⟩
  · obtain ⟨bs, r2⟩ := Dp.reads I (.tuple (D.pyL ys)) (.ref l) u (.tup q e1) ry
    refine ⟨fun h => SeqAt.in_tuple_reads r2 r1 e2 d2 room ⟨.bl _, H, I, rfl, by rw [an]; exact h⟩, fun h => SeqAt.notIn_tuple_reads r2 r1 e2 d2 room ⟨.bl _, H, I, rfl, by rw [an]; exact h⟩⟩
theorem cmpop_ok (A : At G X) (o : CO) (I : Inv X pins σ H s) (rx : RelV x v) (ry : RelV y u) (ha : Rep G m H a x) (hb : Rep G m H b y) (sim : Sim G m H S) (h : P0 G m H (cmpop o a b S) Q) :
    wpAny (model X.prog X.w) X.A (compareOp (cO o) v u) (EP X pins σ Q) X.xe s := by
  have un := A.un
  have K := A.K
  cases o with
  | eq =>
    obtain ⟨c, h⟩ := Post.if_ h
    rw [Bool.and_eq_true] at c
    obtain ⟨d1, s1⟩ := rep_rd sim ha c.1 (Nat.le_refl _)
    obtain ⟨d2, s2⟩ := rep_rd sim hb c.2 (Nat.le_refl _)
    rw [← K] at d1 d2
    refine op_eqD (by omega) pins s σ H x y v u Q I rx ry ⟨_, _, d1, d2, s1, s2, ?_⟩
    rw [py_eqv 60 _ _ c.1 c.2]
    exact h.done sim (by simp only [Rep])
  | ne =>
    obtain ⟨c, h⟩ := Post.if_ h
    rw [Bool.and_eq_true] at c
    obtain ⟨d1, s1⟩ := rep_rd sim ha c.1 (Nat.le_refl _)
    obtain ⟨d2, s2⟩ := rep_rd sim hb c.2 (Nat.le_refl _)
    rw [← K] at d1 d2
    refine op_neD (by omega) pins s σ H x y v u Q I rx ry ⟨_, _, d1, d2, s1, s2, ?_⟩
    rw [py_eqv 60 _ _ c.1 c.2]
    exact h.done sim (by simp only [Rep])
  | lt =>
    cases a <;> cases b <;> first | exact h.elim | skip
    simp only [Rep] at ha hb
    exact op_lt pins s σ H x y v u Q I rx ry ⟨_, _, ha, hb, h.done sim (by simp only [Rep])⟩
  | le =>
    cases a <;> cases b <;> first | exact h.elim | skip
    simp only [Rep] at ha hb
    exact op_le pins s σ H x y v u Q I rx ry ⟨_, _, ha, hb, h.done sim (by simp only [Rep])⟩
  | gt =>
    cases a <;> cases b <;> first | exact h.elim | skip
    simp only [Rep] at ha hb
    exact op_gt pins s σ H x y v u Q I rx ry ⟨_, _, ha, hb, h.done sim (by simp only [Rep])⟩
  | ge =>
    cases a <;> cases b <;> first | exact h.elim | skip
    simp only [Rep] at ha hb
    exact op_ge pins s σ H x y v u Q I rx ry ⟨_, _, ha, hb, h.done sim (by simp only [Rep])⟩
  | isN =>
    cases b <;> first | exact h.elim | skip
    rotate_left
    · cases a <;> first | exact h.elim | skip
      simp only [Rep] at ha hb
      subst ha; subst hb
      cases rx; cases ry
      exact is_bool_bool ⟨.bl _, H, I, rfl, h.done sim (by simp only [Rep])⟩
    simp only [Rep] at hb
    refine op_isN pins s σ H x y v u Q I rx ry ⟨hb, ?_⟩
    rw [same_non ha]
    exact h.done sim (by simp only [Rep])
  | notN =>
    cases b <;> first | exact h.elim | skip
    simp only [Rep] at hb
    refine op_notN pins s σ H x y v u Q I rx ry ⟨hb, ?_⟩
    rw [same_non ha]
    exact h.done sim (by simp only [Rep])
  | mem =>
    simp only [cmpop] at h
    split at h
    · next ys e =>
      obtain ⟨c, h⟩ := Post.if_ h
      rw [Bool.and_eq_true] at c
      exact (mem_ok A I rx ry ha hb sim e c.1 c.2).1 (h.done sim (by simp only [Rep]))
    · split at h
      · next kvs e =>
        obtain ⟨c, h⟩ := Post.if_ h
        exact (dmem_ok A I rx ry ha hb sim e c).1 (h.done sim (by simp only [Rep]))
      · split at h
        · next i kvs e =>
          simp only [Rep] at ha
          subst ha
          exact (imem_ok A I rx ry hb sim e).1 (h.done sim (by simp only [Rep]))
        · exact h.elim
  | nmem =>
    simp only [cmpop] at h
    split at h
    · next ys e =>
      obtain ⟨c, h⟩ := Post.if_ h
      rw [Bool.and_eq_true] at c
      exact (mem_ok A I rx ry ha hb sim e c.1 c.2).2 (h.done sim (by simp only [Rep]))
    · split at h
      · next kvs e =>
        obtain ⟨c, h⟩ := Post.if_ h
        exact (dmem_ok A I rx ry ha hb sim e c).2 (h.done sim (by simp only [Rep]))
      · split at h
        · next i kvs e =>
          simp only [Rep] at ha
          subst ha
          exact (imem_ok A I rx ry hb sim e).2 (h.done sim (by simp only [Rep]))
        · exact h.elim
theorem neg_ok (I : Inv X pins σ H s) (rx : RelV x v) (ha : Rep G m H a x) (sim : Sim G m H S) (h : P0 G m H (neg a S) Q) :
    wpAny (model X.prog X.w) X.A (unaryOp .USub v) (EP X pins σ Q) X.xe s := by
  cases a <;> first | exact h.elim | skip
  · simp only [Rep] at ha
    subst ha
    cases rx
    rename_i b
    exact neg_bool ⟨.int (-b2 b), H, I.tok _, ⟨_, rfl⟩, h.done sim (by simp only [Rep])⟩
  simp only [Rep] at ha
  exact un_neg pins s σ H x v Q I rx ⟨_, ha, h.done sim (by simp only [Rep])⟩
theorem getIx_ok (A : At G X) {value slice : Expr} (hs : subscripted slice false v u = operate [v, u] (getItem v u)) (I : Inv X pins σ H s) (rx : RelV x v) (ry : RelV y u) (ha : Rep G m H a x) (hb : Rep G m H b y) (sim : Sim G m H S) (h : P0 G m H (getIx a b S) Q) :
    wpAny (model X.prog X.w) X.A (PyProof.Rows.subscriptTail value slice v u) (EP X pins σ Q) X.xe s := by
  have K := A.K
  have dict : ∀ kvs, dictOf S a = some kvs → P0 G m H (if keyT b then okO (lookD kvs b) S else .bad) Q → wpAny (model X.prog X.w) X.A (PyProof.Rows.subscriptTail value slice v u) (EP X pins σ Q) X.xe s := by
    intro kvs e h
    by_cases hk : keyT b = true
    · rw [if_pos hk] at h
      obtain ⟨d, ed, h⟩ := Post.o_ h
      exact dget_ok A hs I rx ry ha hb sim e hk ed fun w r => h.done sim r
    · rw [if_neg hk] at h; exact h.elim
  have other : (∀ i, b ≠ .int i) → P0 G m H (match dictOf S a with
    | some kvs => if keyT b then okO (lookD kvs b) S else .bad
    | none => .bad) Q → wpAny (model X.prog X.w) X.A (PyProof.Rows.subscriptTail value slice v u) (EP X pins σ Q) X.xe s := by
    intro _ h
    cases e : dictOf S a with
    | none => rw [e] at h; exact h.elim
    | some kvs => rw [e] at h; exact dict kvs e h
  cases b <;> first | exact other (by intro _ z; cases z) h | skip
  rename_i i
  simp only [Rep] at hb
  simp only [getIx] at h
  split at h
  · next xs e =>
    split at h
    · next j ej =>
      obtain ⟨d, ed, h⟩ := Post.o_ h
      obtain ⟨l, vs, rfl, z, rl, q⟩ := rep_seqOf sim ha e
      obtain ⟨w, ew, rw'⟩ := rl.get ed
      have at_ : atI vs i = some w := by
        unfold atI
        rw [rl.length, show ixN xs.length i = some j from ej]
        exact ew
      rw [← K] at q
      rcases q with q | q
      · exact ix_list value slice pins s σ H _ y v u Q I rx ry ⟨l, vs, i, w, rfl, hb, q, at_, h.done sim rw'⟩ hs
      · exact ix_tup value slice pins s σ H _ y v u Q I rx ry ⟨l, vs, i, w, rfl, hb, q, at_, h.done sim rw'⟩ hs
    · exact h.elim
  · split at h
    · next kvs e =>
      obtain ⟨d, ed, h⟩ := Post.o_ h
      subst hb
      exact iget_ok A hs I rx ry ha sim e ed fun w r => h.done sim r
    · exact h.elim
theorem RepL.cut {ds : List D} {vs : List V} (h : RepL G m H ds vs) (lo hi : Option Int) : RepL G m H (Ev.cut ds lo hi) (cutV vs lo hi) := by
  unfold Ev.cut cutV
  rw [h.length]
  exact (h.drop _).take _
theorem cut_whole {α : Type} (xs : List α) (lo hi : Option Int) (h : HT.sIx xs.length 0 lo = 0 ∧ HT.sIx xs.length xs.length hi = xs.length) : cut xs lo hi = xs := by
  unfold cut
  rw [h.1, h.2]
  simp
theorem sl_ok (A : At G X) : SlR X (fun x lo hi H Q => ∃ m S a, Rep G m H a x ∧ Sim G m H S ∧ P0 G m H (getSl a lo hi S) Q) := by
  intro pins s σ H x v vl vu lo hi sl Q I rx hs pl pu h
  have K := A.K
  obtain ⟨m, S, a, ha, sim, h⟩ := h
  have lists : ∀ {xs : List D}, lstOf S a = some xs → P0 G m H (.ok (.lst (cut xs lo hi)) S) Q →
      ∃ T id, typeLookup (.type T) "__getitem__" = pure (some (.builtin id)) ∧ s.TypeIs v T ∧ wpAny (model X.prog X.w) X.A (getItem v (.ref sl)) (EP X pins σ Q) X.xe s := by
    intro xs e h
    obtain ⟨l, vs, rfl, z, rl, q⟩ := rep_lstOf sim ha e
    refine sl_list pins s σ H _ v vl vu lo hi sl Q I rx hs pl pu ⟨l, vs, rfl, .of q, fun p np => ?_⟩
    exact h.new sim np fun e n => rep_newL (rl.cut lo hi) (Nat.le_trans (cutV_length _ _ _) z) e n
  cases a with
  | tup xs =>
    have h : P0 G m H (.ok (.tup (cut xs lo hi)) S) Q := h
    obtain ⟨l, vs, rfl, z, rl, q⟩ := rep_tup ha
    rw [← K] at q
    refine sl_tupA pins s σ H _ v vl vu lo hi sl Q I rx hs pl pu ⟨l, vs, rfl, q, fun w => ?_, fun w p np => ?_⟩
    · rw [rl.length] at w
      rw [cut_whole _ _ _ w] at h
      exact h.done sim ha
    · exact h.new sim np fun e n => rep_newT (rl.cut lo hi) (Nat.le_trans (cutV_length _ _ _) z) e n
  | lst xs => exact lists (xs := xs) rfl h
  | loc n =>
    simp only [getSl] at h
    split at h
    · next xs e => exact lists e h
    · exact h.elim
  | _ => exact h.elim
end
end Ev
/-! Ev, part C3: calls of built-in functions, methods. -/
namespace Ev
open PySem L2
theorem ins_perm (x : Int) : ∀ l : List Int, (ins x l).Perm (x :: l)
  | [] => .refl _
  | y :: r => by
    unfold ins
    split
    · exact .refl _
    · exact ((ins_perm x r).cons y).trans (.swap x y r)
theorem isort_perm : ∀ l : List Int, (isort l).Perm l
  | [] => .refl _
  | x :: r => (ins_perm x (isort r)).trans ((isort_perm r).cons x)
theorem ins_sorted (x : Int) : ∀ l : List Int, l.Pairwise (· ≤ ·) → (ins x l).Pairwise (· ≤ ·)
  | [], _ => by simp [ins]
  | y :: r, h => by
    unfold ins
    split
    · next hx =>
      refine List.pairwise_cons.mpr ⟨fun z hz => ?_, h⟩
      rcases List.mem_cons.mp hz with rfl | hz
      · exact hx
      · exact Int.le_trans hx ((List.pairwise_cons.mp h).1 z hz)
    · next hx =>
      refine List.pairwise_cons.mpr ⟨fun z hz => ?_, ins_sorted x r (List.pairwise_cons.mp h).2⟩
      rcases List.mem_cons.mp ((ins_perm x r).mem_iff.mp hz) with rfl | hz
      · omega
      · exact (List.pairwise_cons.mp h).1 z hz
theorem isort_sorted : ∀ l : List Int, (isort l).Pairwise (· ≤ ·)
  | [] => .nil
  | x :: r => ins_sorted x _ (isort_sorted r)
theorem isort_of {l l' : List Int} (p : l'.Perm l) (s : l'.Pairwise (· ≤ ·)) : l' = isort l :=
  (p.trans (isort_perm l).symm).eq_of_pairwise (fun _ _ _ _ h1 h2 => Int.le_antisymm h1 h2) s (isort_sorted l)
theorem maxL_mem : ∀ l : List Int, 0 < l.length → maxL l ∈ l ∧ ∀ y ∈ l, y ≤ maxL l
  | [], h => by simp at h
  | [x], _ => by simp [maxL]
  | x :: y :: r, _ => by
    obtain ⟨h1, h2⟩ := maxL_mem (y :: r) (by simp)
    have e : maxL (x :: y :: r) = if maxL (y :: r) < x then x else maxL (y :: r) := by simp only [maxL]
    rw [e]
    split
    · refine ⟨List.mem_cons_self, fun z hz => ?_⟩
      rcases List.mem_cons.mp hz with rfl | hz
      · omega
      · have := h2 z hz; omega
    · refine ⟨List.mem_cons_of_mem _ h1, fun z hz => ?_⟩
      rcases List.mem_cons.mp hz with rfl | hz
      · omega
      · exact h2 z hz
theorem minL_mem : ∀ l : List Int, 0 < l.length → minL l ∈ l ∧ ∀ y ∈ l, minL l ≤ y
  | [], h => by simp at h
  | [x], _ => by simp [minL]
  | x :: y :: r, _ => by
    obtain ⟨h1, h2⟩ := minL_mem (y :: r) (by simp)
    have e : minL (x :: y :: r) = if x < minL (y :: r) then x else minL (y :: r) := by simp only [minL]
    rw [e]
    split
    · refine ⟨List.mem_cons_self, fun z hz => ?_⟩
      rcases List.mem_cons.mp hz with rfl | hz
      · omega
      · have := h2 z hz; omega
    · refine ⟨List.mem_cons_of_mem _ h1, fun z hz => ?_⟩
      rcases List.mem_cons.mp hz with rfl | hz
      · omega
      · exact h2 z hz
theorem unl_fold (val : Nat → Int) : ∀ i, PyProof.Rows.firstMet val i = ((List.range i).map val).foldl unl []
  | i => rfl
theorem range_getD (ns : List Int) : (List.range ns.length).map (fun i => ns.getD i 0) = ns := by
  apply List.ext_getElem
  · simp
  · intro i h1 h2
    simp [List.getD_eq_getElem?_getD, h2]
theorem firstMet_unlike (ns : List Int) : PyProof.Rows.firstMet (fun i => ns.getD i 0) ns.length = unlike ns := by
  rw [unl_fold, range_getD]; rfl
theorem unl_nodup : ∀ (ns acc : List Int), acc.Nodup → (ns.foldl unl acc).Nodup ∧ ∀ x, x ∈ ns.foldl unl acc ↔ x ∈ acc ∨ x ∈ ns
  | [], acc, h => ⟨h, fun x => by simp⟩
  | n :: ns, acc, h => by
    have h1 : (unl acc n).Nodup ∧ ∀ x, x ∈ unl acc n ↔ x ∈ acc ∨ x = n := by
      unfold unl
      split
      · next c =>
        obtain ⟨y, hy, e⟩ := List.any_eq_true.mp c
        have e' : y = n := eq_of_beq e
        subst e'
        exact ⟨h, fun x => ⟨.inl, fun q => q.elim id fun z => z ▸ hy⟩⟩
      · next c =>
        refine ⟨?_, fun x => by simp⟩
        rw [List.nodup_append]
        refine ⟨h, by simp, fun a ha b hb => ?_⟩
        simp at hb; subst hb
        rintro rfl
        exact c (List.any_eq_true.mpr ⟨a, ha, by simp⟩)
    obtain ⟨h2, h3⟩ := unl_nodup ns (unl acc n) h1.1
    refine ⟨h2, fun x => ?_⟩
    rw [List.foldl_cons, h3 x, h1.2 x, List.mem_cons, or_assoc]
theorem unlike_nodup (ns : List Int) : (unlike ns).Nodup ∧ ∀ x, x ∈ unlike ns ↔ x ∈ ns := by
  obtain ⟨h1, h2⟩ := unl_nodup ns [] .nil
  exact ⟨h1, fun x => by rw [unlike, h2 x]; simp⟩

def biV : BI → Value
  | .len => .builtin "len" | .int => .type "int" | .abs => .builtin "abs" | .bool => .type "bool" | .str => .type "str"
  | .tuple => .type "tuple" | .list => .type "list" | .all => .builtin "all" | .sum => .builtin "sum"
  | .max1 => .builtin "max" | .min1 => .builtin "min" | .max2 => .builtin "max" | .min2 => .builtin "min" | .sorted => .builtin "sorted" | .divmod => .builtin "divmod"
section
variable {G : GC} {X : Cx} {pins : List (Addr × Obj)} {σ : St} {H : Hp} {s : Shared} {m : List Addr} {S : Store} {x y : V} {v u : Value} {Q : VK} {a b : D}
theorem rep1 {d : D} {vs : List V} (r : RepL G m H [d] vs) : ∃ v, vs = [v] ∧ Rep G m H d v := by
  simp only [RepL] at r
  obtain ⟨v, _, rfl, h, rfl⟩ := r
  exact ⟨v, rfl, h⟩
theorem rep2 {d e : D} {vs : List V} (r : RepL G m H [d, e] vs) : ∃ v w, vs = [v, w] ∧ Rep G m H d v ∧ Rep G m H e w := by
  simp only [RepL] at r
  obtain ⟨v, _, rfl, h, w, _, rfl, h2, rfl⟩ := r
  exact ⟨v, w, rfl, h, h2⟩
theorem lst_ints (sim : Sim G m H S) (ha : Rep G m H a x) {ns : List Int} (e : (lstOf S a).bind allI = some ns) : ∃ l, x = .ref l ∧ H l = some (.lst (ns.map V.int)) ∧ ns.length ≤ big := by
  rw [Option.bind_eq_some_iff] at e
  obtain ⟨xs, e1, e2⟩ := e
  obtain ⟨l, vs, rfl, z, rl, q⟩ := rep_lstOf sim ha e1
  have e3 := repL_ints rl e2
  subst e3
  exact ⟨l, rfl, q, by simpa using z⟩
theorem lst_bools (sim : Sim G m H S) (ha : Rep G m H a x) {ns : List Bool} (e : (lstOf S a).bind allB = some ns) : ∃ l, x = .ref l ∧ H l = some (.lst (ns.map V.bl)) ∧ ns.length ≤ big := by
  rw [Option.bind_eq_some_iff] at e
  obtain ⟨xs, e1, e2⟩ := e
  obtain ⟨l, vs, rfl, z, rl, q⟩ := rep_lstOf sim ha e1
  have e3 := repL_bools rl e2
  subst e3
  exact ⟨l, rfl, q, by simpa using z⟩
theorem callB_ok (A : At G X) (b : BI) : CallR X (biV b) (fun vs H Q => ∃ m S as, RepL G m H as vs ∧ Sim G m H S ∧ P0 G m H (callB b as S) Q) := by
  intro pins s σ H vs us Q I r h
  have K := A.K
  have hc := A.calm
  obtain ⟨m, S, as, rl, sim, h⟩ := h
  cases b with
  | len =>
    match as, rl, h with
    | [x], rl, h =>
      obtain ⟨v, rfl, ha⟩ := rep1 rl
      simp only [callB] at h
      split at h
      · next xs e =>
        obtain ⟨l, ws, rfl, z, r2, q⟩ := rep_seqOf sim ha e
        rw [← K] at q
        refine call_len_seq pins s σ H _ us Q I r ⟨l, ws, rfl, q, ?_⟩
        rw [r2.length]
        exact h.done sim (by simp only [Rep])
      · split at h
        · simp only [Rep] at ha
          refine call_len_str pins s σ H _ us Q I r ⟨_, by rw [ha.1], by rw [← big_eq]; exact ha.2.2, h.done sim (by simp only [Rep])⟩
        · exact h.elim
    | [], _, h => exact h.elim
    | _ :: _ :: _, _, h => exact h.elim
  | int =>
    match as, rl, h with
    | [.int i], rl, h =>
      obtain ⟨v, rfl, ha⟩ := rep1 rl
      simp only [Rep] at ha
      subst ha
      exact call_int1 pins s σ H _ us Q I r (.inl ⟨i, rfl, h.done sim (by simp only [Rep])⟩)
    | [.bl i], rl, h =>
      obtain ⟨v, rfl, ha⟩ := rep1 rl
      simp only [Rep] at ha
      subst ha
      exact call_int1 pins s σ H _ us Q I r (.inr ⟨i, rfl, h.done sim (by simp only [Rep, b2])⟩)
    | [], _, h => exact h.elim
    | [.non], _, h => exact h.elim
    | [.str _], _, h => exact h.elim
    | [.tup _], _, h => exact h.elim
    | [.lst _], _, h => exact h.elim
    | [.loc _], _, h => exact h.elim
    | [.fn _], _, h => exact h.elim
    | [.cls _], _, h => exact h.elim
    | [.scr _], _, h => exact h.elim
    | _ :: _ :: _, _, h => simp [callB, Post] at h
  | abs =>
    match as, rl, h with
    | [.int i], rl, h =>
      obtain ⟨v, rfl, ha⟩ := rep1 rl
      simp only [Rep] at ha
      subst ha
      exact call_abs pins s σ H _ us Q I r ⟨i, rfl, h.done sim (by simp only [Rep])⟩
    | [], _, h => exact h.elim
    | [.bl _], _, h => exact h.elim
    | [.non], _, h => exact h.elim
    | [.str _], _, h => exact h.elim
    | [.tup _], _, h => exact h.elim
    | [.lst _], _, h => exact h.elim
    | [.loc _], _, h => exact h.elim
    | [.fn _], _, h => exact h.elim
    | [.cls _], _, h => exact h.elim
    | [.scr _], _, h => exact h.elim
    | _ :: _ :: _, _, h => simp [callB, Post] at h
  | bool =>
    match as, rl, h with
    | [.bl i], rl, h =>
      obtain ⟨v, rfl, ha⟩ := rep1 rl
      simp only [Rep] at ha
      subst ha
      exact call_bool1 pins s σ H _ us Q I r (.inr ⟨i, rfl, h.done sim (by simp only [Rep])⟩)
    | [], _, h => exact h.elim
    | [.int _], _, h => exact h.elim
    | [.non], _, h => exact h.elim
    | [.str _], _, h => exact h.elim
    | [.tup _], _, h => exact h.elim
    | [.lst _], _, h => exact h.elim
    | [.loc _], _, h => exact h.elim
    | [.fn _], _, h => exact h.elim
    | [.cls _], _, h => exact h.elim
    | [.scr _], _, h => exact h.elim
    | _ :: _ :: _, _, h => simp [callB, Post] at h
  | str => simp [callB, Post] at h
  | tuple =>
    match as, rl, h with
    | [], _, h => exact h.elim
    | _ :: _ :: _, _, h => simp [callB, Post] at h
    | [d], rl, h =>
      obtain ⟨v, rfl, ha⟩ := rep1 rl
      have lists : ∀ xs, lstOf S d = some xs → P0 G m H (.ok (.tup xs) S) Q → wpAny (model X.prog X.w) X.A (call (biV .tuple) us) (EP X pins σ Q) X.xe s := by
        intro xs e h
        obtain ⟨l, ws, rfl, z, r2, q⟩ := rep_lstOf sim ha e
        refine call_tuple_of pins s σ H _ us Q I r ⟨l, ws, rfl, .inl ⟨.of q, fun p np => ?_⟩⟩
        exact h.new sim np fun e n => rep_newT r2 z e n
      cases d with
      | tup xs =>
        have h : P0 G m H (.ok (.tup xs) S) Q := h
        obtain ⟨l, ws, rfl, z, r2, q⟩ := rep_tup ha
        rw [← K] at q
        exact call_tuple_of pins s σ H _ us Q I r ⟨l, ws, rfl, .inr ⟨q, h.done sim ha⟩⟩
      | lst xs => exact lists xs rfl h
      | loc n =>
        simp only [callB] at h
        split at h
        · next xs e => exact lists xs e h
        · exact h.elim
      | _ => exact h.elim
  | list =>
    match as, rl, h with
    | [], _, h => exact h.elim
    | _ :: _ :: _, _, h => simp [callB, Post] at h
    | [d], rl, h =>
      obtain ⟨v, rfl, ha⟩ := rep1 rl
      simp only [callB] at h
      split at h
      · next xs e =>
        obtain ⟨l, ws, rfl, z, r2, q⟩ := rep_seqOf sim ha e
        rw [← K] at q
        refine call_list_of pins s σ H _ us Q I r ⟨l, ws, rfl, q, fun p np => ?_⟩
        exact h.new sim np fun e n => rep_newL r2 z e n
      · exact h.elim
  | all =>
    match as, rl, h with
    | [], _, h => exact h.elim
    | _ :: _ :: _, _, h => simp [callB, Post] at h
    | [d], rl, h =>
      obtain ⟨v, rfl, ha⟩ := rep1 rl
      simp only [callB] at h
      split at h
      · next bs e =>
        obtain ⟨l, rfl, q, z⟩ := lst_bools sim ha e
        exact cr_all hc pins s σ H _ us Q I r ⟨l, bs, rfl, .of q, h.done sim (by simp only [Rep])⟩
      · exact h.elim
  | sum =>
    match as, rl, h with
    | [], _, h => exact h.elim
    | _ :: _ :: _, _, h => simp [callB, Post] at h
    | [d], rl, h =>
      obtain ⟨v, rfl, ha⟩ := rep1 rl
      simp only [callB] at h
      split at h
      · next bs e =>
        obtain ⟨l, rfl, q, z⟩ := lst_ints sim ha e
        exact cr_sum hc pins s σ H _ us Q I r ⟨l, bs, rfl, .of q, h.done sim (by simp only [Rep])⟩
      · exact h.elim
  | max1 =>
    match as, rl, h with
    | [], _, h => exact h.elim
    | _ :: _ :: _, _, h => simp [callB, Post] at h
    | [d], rl, h =>
      obtain ⟨v, rfl, ha⟩ := rep1 rl
      simp only [callB] at h
      split at h
      · next bs e =>
        obtain ⟨c, h⟩ := Post.if_ h
        have c : 0 < bs.length := of_decide_eq_true c
        obtain ⟨l, rfl, q, z⟩ := lst_ints sim ha e
        obtain ⟨h1, h2⟩ := maxL_mem bs c
        refine cr_max hc pins s σ H _ us Q I r ⟨l, bs, rfl, .of q, c, fun k hk hle => ?_⟩
        have e2 : k = maxL bs := Int.le_antisymm (h2 k hk) (hle _ h1)
        rw [e2]
        exact h.done sim (by simp only [Rep])
      · exact h.elim
  | min1 =>
    match as, rl, h with
    | [], _, h => exact h.elim
    | _ :: _ :: _, _, h => simp [callB, Post] at h
    | [d], rl, h =>
      obtain ⟨v, rfl, ha⟩ := rep1 rl
      simp only [callB] at h
      split at h
      · next bs e =>
        obtain ⟨c, h⟩ := Post.if_ h
        have c : 0 < bs.length := of_decide_eq_true c
        obtain ⟨l, rfl, q, z⟩ := lst_ints sim ha e
        obtain ⟨h1, h2⟩ := minL_mem bs c
        refine cr_min hc pins s σ H _ us Q I r ⟨l, bs, rfl, .of q, c, fun k hk hle => ?_⟩
        have e2 : k = minL bs := Int.le_antisymm (hle _ h1) (h2 k hk)
        rw [e2]
        exact h.done sim (by simp only [Rep])
      · exact h.elim
  | max2 =>
    have key : ∀ i j, as = [.int i, .int j] → wpAny (model X.prog X.w) X.A (call (biV .max2) us) (EP X pins σ Q) X.xe s := by
      rintro i j rfl
      obtain ⟨v, w, rfl, ha, hb⟩ := rep2 rl
      simp only [Rep] at ha hb
      subst ha; subst hb
      exact call_max2 hc pins s σ H _ us Q I r ⟨i, j, rfl, h.done sim (by simp only [Rep])⟩
    unfold callB at h
    split at h <;> first | exact h.elim | (rename_i q1 q2; first | cases q1 | skip) <;> first | exact key _ _ rfl | contradiction
  | min2 =>
    have key : ∀ i j, as = [.int i, .int j] → wpAny (model X.prog X.w) X.A (call (biV .min2) us) (EP X pins σ Q) X.xe s := by
      rintro i j rfl
      obtain ⟨v, w, rfl, ha, hb⟩ := rep2 rl
      simp only [Rep] at ha hb
      subst ha; subst hb
      exact call_min2 hc pins s σ H _ us Q I r ⟨i, j, rfl, h.done sim (by simp only [Rep])⟩
    unfold callB at h
    split at h <;> first | exact h.elim | (rename_i q1 q2; first | cases q1 | skip) <;> first | exact key _ _ rfl | contradiction
  | sorted =>
    match as, rl, h with
    | [], _, h => exact h.elim
    | _ :: _ :: _, _, h => simp [callB, Post] at h
    | [d], rl, h =>
      obtain ⟨v, rfl, ha⟩ := rep1 rl
      simp only [callB] at h
      split at h
      · next bs e =>
        obtain ⟨l, rfl, q, z⟩ := lst_ints sim ha e
        refine cr_sortedI pins s σ H _ us Q I r ⟨l, bs, rfl, .of q, fun ns' p pm so np => ?_⟩
        have e2 := isort_of pm so
        subst e2
        exact h.new sim np fun e n => rep_newL (repL_ofInts _) (by rw [List.length_map, (isort_perm bs).length_eq]; exact z) e n
      · exact h.elim
  | divmod =>
    have key : ∀ i j, as = [.int i, .int j] → wpAny (model X.prog X.w) X.A (call (biV .divmod) us) (EP X pins σ Q) X.xe s := by
      rintro i j rfl
      obtain ⟨v, w, rfl, ha, hb⟩ := rep2 rl
      simp only [Rep] at ha hb
      subst ha; subst hb
      obtain ⟨c, h⟩ := Post.if_ h
      rw [Bool.and_eq_true, decide_eq_true_eq, decide_eq_true_eq] at c
      refine call_divmod pins s σ H _ us Q I r ⟨i, j, rfl, c, fun p np => ?_⟩
      exact h.new sim np fun e n => rep_newT (ds := [.int (i / j), .int (i % j)]) (xs := [.int (i / j), .int (i % j)]) (.cons (by simp only [Rep]) (.cons (by simp only [Rep]) .nil)) (by show 2 ≤ big; decide) e n
    unfold callB at h
    split at h <;> first | exact h.elim | (rename_i q1 q2; first | cases q1 | skip) <;> first | exact key _ _ rfl | contradiction
end
end Ev
/-! Ev, part C4: methods, isinstance, sets' lengths, truth. -/
namespace Ev
open PySem L2
section
variable {G : GC} {X : Cx} {pins : List (Addr × Obj)} {σ : St} {H : Hp} {s : Shared} {m : List Addr} {S : Store} {x y : V} {v u : Value} {Q : VK} {a b : D}
theorem big_pos {n : Nat} (h : n < big) : n < sizeLine := by rw [← big_eq]; exact h
def miId : MI → String
  | .append => "list.append" | .clear => "list.clear" | .reverse => "list.reverse"
theorem methB_ok (b : MI) : MtR X (miId b) (fun x vs H Q => ∃ m S a as, Rep G m H a x ∧ RepL G m H as vs ∧ Sim G m H S ∧ P0 G m H (methB b a as S) Q) := by
  intro pins s σ H x vs v us Q I rx r h
  obtain ⟨m, S, a, as, ha, rl, sim, h⟩ := h
  cases b with
  | append =>
    have key : ∀ n d xs, a = .loc n → as = [d] → S[n]? = some (.list xs) → P0 G m H (okIf (decide (xs.length < big)) .non (S.set n (.list (xs ++ [d])))) Q → wpAny (model X.prog X.w) X.A (call (.builtin (miId .append)) (v :: us)) (EP X pins σ Q) X.xe s := by
      rintro n d xs rfl rfl e h
      obtain ⟨c, h⟩ := Post.if_ h
      have c : xs.length < big := of_decide_eq_true c
      obtain ⟨w, rfl, hd⟩ := rep1 rl
      obtain ⟨l, hl, ws, h1, z, r2⟩ := sim.find e
      simp only [Rep] at ha
      obtain ⟨l', rfl, hl'⟩ := ha
      rw [hl] at hl'; cases hl'
      refine mt_append pins s σ H _ _ v us Q I rx r ⟨l, ws, w, rfl, rfl, h1, big_pos (by rw [r2.length]; exact c), ?_⟩
      refine h.wrote sim hl (fun e => ⟨_, upd_same, ?_, ?_⟩) fun e => by simp only [Rep]
      · rw [List.length_append, List.length_singleton, r2.length]; exact c
      · exact (r2.ext e).app (.cons (hd.ext e) .nil)
    cases a <;> first | (simp [methB, Post] at h; done) | skip
    rename_i n
    cases as with
    | nil => simp [methB, Post] at h
    | cons d r =>
      cases r with
      | cons _ _ => simp [methB, Post] at h
      | nil =>
        simp only [methB] at h
        split at h
        · next xs e => exact key n d xs rfl rfl e h
        · exact h.elim
  | clear =>
    have key : ∀ n xs, a = .loc n → as = [] → S[n]? = some (.list xs) → P0 G m H (.ok .non (S.set n (.list []))) Q → wpAny (model X.prog X.w) X.A (call (.builtin (miId .clear)) (v :: us)) (EP X pins σ Q) X.xe s := by
      rintro n xs rfl rfl e h
      simp only [RepL] at rl; subst rl
      obtain ⟨l, hl, ws, h1, z, r2⟩ := sim.find e
      simp only [Rep] at ha
      obtain ⟨l', rfl, hl'⟩ := ha
      rw [hl] at hl'; cases hl'
      refine mt_clear pins s σ H _ _ v us Q I rx r ⟨l, ws, rfl, rfl, h1, ?_⟩
      exact h.wrote sim hl (fun e => ⟨_, upd_same, Nat.zero_le _, .nil⟩) fun e => by simp only [Rep]
    cases a <;> first | (simp [methB, Post] at h; done) | skip
    rename_i n
    cases as with
    | cons d r => simp [methB, Post] at h
    | nil =>
      simp only [methB] at h
      split at h
      · next xs e => exact key n xs rfl rfl e h
      · exact h.elim
  | reverse =>
    have key : ∀ n xs, a = .loc n → as = [] → S[n]? = some (.list xs) → P0 G m H (.ok .non (S.set n (.list xs.reverse))) Q → wpAny (model X.prog X.w) X.A (call (.builtin (miId .reverse)) (v :: us)) (EP X pins σ Q) X.xe s := by
      rintro n xs rfl rfl e h
      simp only [RepL] at rl; subst rl
      obtain ⟨l, hl, ws, h1, z, r2⟩ := sim.find e
      simp only [Rep] at ha
      obtain ⟨l', rfl, hl'⟩ := ha
      rw [hl] at hl'; cases hl'
      refine mt_reverse pins s σ H _ _ v us Q I rx r ⟨l, ws, rfl, rfl, h1, ?_⟩
      exact h.wrote sim hl (fun e => ⟨_, upd_same, by rw [List.length_reverse]; exact z, (r2.ext e).rev⟩) fun e => by simp only [Rep]
    cases a <;> first | (simp [methB, Post] at h; done) | skip
    rename_i n
    cases as with
    | cons d r => simp [methB, Post] at h
    | nil =>
      simp only [methB] at h
      split at h
      · next xs e => exact key n xs rfl rfl e h
      · exact h.elim

/-! ### isinstance -/
def tyV' : Ty → Option Value
  | .int => some (.type "int") | .bool => some (.type "bool") | .str => some (.type "str") | .tup => some (.type "tuple") | .list => some (.type "list")
  | .own _ => none
def dTy : D → Store → Option Value
  | .non, _ => some (.type "NoneType")
  | .bl _, _ => some (.type "bool")
  | .int _, _ => some (.type "int")
  | .str _, _ => some (.type "str")
  | .tup _, _ => some (.type "tuple")
  | .lst _, _ => some (.type "list")
  | .loc n, S => match S[n]? with
    | some (.list _) => some (.type "list")
    | _ => none
  | _, _ => none
theorem sqT_K {K : PySem.W.Frag} {a : Addr} {xs : List V} (h : ∀ H', SqT K H' a xs) : ∃ o, K.lookup a = some o ∧ o.cls = .type "tuple" := by
  rcases h (fun _ => none) with (h | ⟨o, h⟩) | ⟨o, its, n, h1, h2, _⟩
  · cases h
  · cases h
  · exact ⟨o, h1, h2⟩
theorem tyX_of (sim : Sim G m H S) (ha : Rep G m H a x) {t : Value} (e : dTy a S = some t) : TyX G.K H x t := by
  cases a with
  | non => simp only [Rep] at ha; subst ha; cases e; exact .base .non
  | bl b => simp only [Rep] at ha; subst ha; cases e; exact .base (.bl b)
  | int b => simp only [Rep] at ha; subst ha; cases e; exact .base (.int b)
  | str b => simp only [Rep] at ha; rw [ha.1]; cases e; exact .base (.str b)
  | tup xs =>
    simp only [Rep] at ha
    obtain ⟨l, vs, rfl, _, _, q⟩ := ha
    cases e
    rcases q with ⟨q | ⟨o, q⟩, _⟩ | q
    · exact .base (.tup q)
    · exact .fTuple q
    · obtain ⟨o, h1, h2⟩ := sqT_K q
      exact .kTuple h1 h2
  | lst xs =>
    obtain ⟨l, vs, rfl, _, _, q⟩ := rep_lst ha
    cases e
    exact .base (.lst q)
  | loc n =>
    simp only [dTy] at e
    split at e
    · next xs hz =>
      cases e
      obtain ⟨l, hl, ws, h1, z, r2⟩ := sim.find hz
      simp only [Rep] at ha
      obtain ⟨l', rfl, hl'⟩ := ha
      rw [hl] at hl'; cases hl'
      exact .base (.lst h1)
    · cases e
  | _ => simp [dTy] at e
theorem kit_tab (K : PySem.W.Frag) (t : Ty) (c : Value) (hc : tyV' t = some c) (a : D) (S : Store) (b : Bool) (h : isTy t a S = some b) : ∃ w, dTy a S = some w ∧ PySem.W.kitOne K w c = some b := by
  cases t <;> simp only [tyV', Option.some.injEq] at hc <;> first | (cases hc; done) | subst hc
  all_goals
    cases a <;> simp only [isTy, Option.some.injEq] at h <;> first
      | (cases h; done)
      | (subst h; exact ⟨_, rfl, by rfl⟩)
      | (split at h
         · next xs e => simp only [Option.some.injEq] at h; subst h; exact ⟨.type "list", by simp only [dTy, e], by rfl⟩
         · cases h)
end
end Ev
/-! Ev, part X1: the walk of an exception's own __init__: super().__init__('..'), self.f = f. -/
namespace Ev
open PySem L2 PySem.Spec PyProof.Rows
abbrev iniPar (f : Str) (p1 p2 : Pos) : Arguments := { posonlyargs := [], args := [{ arg := "self", annotation := none, pos := p1 }, { arg := f, annotation := none, pos := p2 }], vararg := none, kwonlyargs := [], kw_defaults := [], kwarg := none, defaults := [] }
abbrev iniBody (f w : Str) (j : Nat) (p0 p1 p2 p3 p4 p5 p6 p7 p8 p9 : Pos) : List Stmt :=
  [.Expr (.Call (.Attribute (.Call (.Name "super" p0) [] [] p1) "__init__" p2) [.Constant (.str w) j p3] [] p4) p5, .Assign [.Attribute (.Name "self" p6) f p7] (.Name f p8) p9]
abbrev iniScope (f : Str) : Scope := { kind := .function, names := [("self", .local), (f, .local), ("__class__", .free), ("super", .globalImplicit)], isGenerator := false, isCoroutine := false, more := [] }
/-- what is told of a class with such an __init__ -/
structure IniC (K : PySem.W.Frag) (C fI : Addr) (f : Str) : Prop where
  T : OexC K C
  fi : PySem.W.findIn K (.ref C) "__init__" = some (some (.ref fI))
  ft : PySem.W.typeIn K (.ref fI) = some (.type "function")
  no : PySem.W.findIn K (.ref C) f = some none
  fs : f = "limit" ∨ f = "row"
  fn : ∃ oc od osl name qual kV doc pm an cda ct cc, (∃ q1 q2 w j p0 p1 p2 p3 p4 p5 p6 p7 p8 p9, (p2.endLine == p4.line) = true ∧ K.lookup fI = some ⟨oc, od, .func (PySem.W.ksFn name qual (iniPar f q1 q2) (iniBody f w j p0 p1 p2 p3 p4 p5 p6 p7 p8 p9) (iniScope f) .none kV doc pm an (.ref cda) ct cc), osl⟩) ∧
    PySem.W.codeIn K (.ref cda) qual = true ∧ (∃ ccl cdd vs ccs tf, K.lookup cda = some ⟨ccl, cdd, .fields vs, ccs⟩ ∧ vs[2]? = some (.str "/claim/cut.py" tf)) ∧ (∃ cl cld csl, K.lookup cc = some ⟨cl, cld, .cell (some (.ref C)), csl⟩)
  mro : PySem.W.mroIn K C (.ref C) = some true
  sup : PySem.W.ks_superIn K C C "__init__" = some (some (.builtin "ValueError.__init__"))
  any : PySem.W.nsIn K cStatics "thirdparty.any" = some none
  sub : PySem.W.subIn K (.ref C) (.type "ValueError") = some true
theorem eval_super {env : Env} {w : Str} {j : Nat} {p0 p1 p2 p3 p4 : Pos} (hln : (p2.endLine == p4.line) = true) :
    eval (.Call (.Attribute (.Call (.Name "super" p0) [] [] p1) "__init__" p2) [.Constant (.str w) j p3] [] p4) env = (do
      let ov ← attributeBase (.Call (.Name "super" p0) [] [] p1) "__init__" env (eval (.Call (.Name "super" p0) [] [] p1) env)
      standAt p2.atName
      let (f, first) ← holding [ov] (getMethod ov "__init__" (do return (← importBound (.Call (.Name "super" p0) [] [] p1) env).getD true))
      callWith p4 f first (backTo p4 (starEach [.Constant (.str w) j p3] env)) []) := by
  rw [arm_eval_Call]
  have few : methodCallForm (1 + 0) (backTo p4 (starEach [.Constant (.str w) j p3] env)) (backToKw p4 (keywordEach [] env)) = true := rfl
  have e : ∀ ov, methodCall (.Call (.Name "super" p0) [] [] p1) "__init__" p2 p4 env ov (1 + 0) (backTo p4 (starEach [.Constant (.str w) j p3] env)) (backToKw p4 (keywordEach [] env)) = (do
      let (f, first) ← holding [ov] (getMethod ov "__init__" (do return (← importBound (.Call (.Name "super" p0) [] [] p1) env).getD true))
      callWith p4 f first (backTo p4 (starEach [.Constant (.str w) j p3] env)) []) := fun ov => by
    unfold methodCall methodCallPos calleeOf
    rw [few, hln]
    rfl
  show (attributeBase _ _ _ _ >>= fun ov => standAt p2.atName >>= fun _ => methodCall _ _ _ _ _ ov (1 + 0) _ _) = _
  simp only [e]
section
variable {prog : Program} {w : World} {A : Around} {R : Result → Shared → Prop} {K : PySem.W.Frag} {C fI e t0 : Addr} {f : Str} {v : Value} {hp : Heap} {g : Array GenState} {d : Drawn} {t : Nat} {os : OsState} {mg mb : Str → Option Value}
theorem excO_inst {h : Heap} {e t1 : Addr} (he : h.get? e = some (PySem.HandSPX.excO C t1)) : PySem.W.InstAt h e (PySem.HandSPX.excO C t1) C none := ⟨he, rfl, rfl, trivial⟩
theorem init_run (X : K.In hp) (T : IniC K C fI f) (Gn : hp.Ns mainGlobals mg) (hm : mg "super" = none) (Bn : hp.Ns builtinsNs mb) (hb : mb "super" = some (.type "super")) (nl : hp.NoLimit)
    (hfile : ((prog.main.file : Str) == ("/claim/cut.py" : Str)) = true) (htop : (prog.main.scope.names.lookup ("super" : Str)).isSome = false) (hroom : A.depth < recursionLimit) (he : hp.get? e = some (PySem.HandSPX.excO C t0)) (hKe : K.lookup e = none)
    (hq : ∀ h' t' dx t1, (∀ b o, b ≠ e → hp.get? b = some o → h'.get? b = some o) → h'.get? e = some { cls := .ref C, dict := some dx, data := .fields #[.ref t1, .none, .none, .none, .bool false, .none] } → hp.objs.size ≤ dx → dx ≠ e → h'.Ns1 dx (fun y => if y = f then some v else none) →
      R (.ok (.ret .none)) ⟨h', g, d, t', os⟩) : codeAny (model prog w) A (.call (.ref fI) ⟨[.ref e, v], []⟩) R ⟨hp, g, d, t, os⟩ := by
  obtain ⟨oc, od, osl, name, qual, kV, doc, pm, an, cda, ct, cc, ⟨q1, q2, wt, j, p0, p1, p2, p3, p4, p5, p6, p7, p8, p9, hln, lk⟩, hcd, ⟨ccl, cdd, vs, ccs, tf, lcd, hvs⟩, ⟨cl, cld, csl, lcc⟩⟩ := T.fn
  obtain ⟨nm, qn, N, bs, bm, sn, sub, ab, col, dd, c0, c1, c2, c3, c5, hC, hbm⟩ := T.T.cls
  have hcl : PySem.W.clsIn K C = some { name := nm, bases := bs, mro := .ref C :: bm, ns := N, qualname := qn, hasDict := true, slotNames := sn, subclasses := sub, abstract := ab, collection := col, hasDel := false } := by unfold PySem.W.clsIn; rw [hC] <;> rfl
  have hsup : PySem.W.alongIn K "__init__" (((Value.ref C :: bm).dropWhile (· != .ref C)).drop 1) = some (some (.builtin "ValueError.__init__")) := by
    have := T.sup
    unfold PySem.W.ks_superIn at this
    rw [hcl] at this
    exact this
  refine ks_codeAny_call_defAt (fd := PySem.W.ksFn name qual (iniPar f q1 q2) (iniBody f wt j p0 p1 p2 p3 p4 p5 p6 p7 p8 p9) (iniScope f) .none kV doc pm an (.ref cda) ct cc) (binds := [("self", .ref e), (f, v)]) hroom (X _ _ lk) rfl nl (PySem.W.codeRec_of X hcd) rfl (.of_eq (by rcases T.fs with rfl | rfl <;> rfl)) ?_ ?_ (fun h₀ hns hk₀ => ?_) rfl rfl rfl
  · intro y hy
    simp only [List.mem_cons, List.not_mem_nil, or_false] at hy
    rcases hy with rfl | rfl | rfl | rfl <;> simp
  · intro y hy
    simp only [List.mem_cons, List.not_mem_nil, or_false] at hy
    rcases T.fs with rfl | rfl <;> rcases hy with rfl | rfl <;> rfl
  have X₀ : K.In h₀ := X.keeps hk₀
  have I₀ := excO_inst (hk₀ _ _ he)
  have hCe : h₀.get? C = some _ := X₀ _ _ hC
  refine ks_wpAt_execs_cons (ks_wpAt_Expr_any (ks_wpAt_MethodCall ?_ (eval_super hln)))
  refine ks_wpAt_super_base (f := fI) (cc := cda) (by rcases T.fs with rfl | rfl <;> rfl) (by rcases T.fs with rfl | rfl <;> rfl) (by decide) rfl (X₀ _ _ lk) rfl rfl rfl (X₀ _ _ lcd) rfl hvs hfile htop ?_
  refine PySem.W.ks_loadName_global rfl (by rcases T.fs with rfl | rfl <;> rfl) (Calls.loadGlobal_builtin (Gn.keeps hk₀) hm (Bn.keeps hk₀) hb ⟨rfl, ?_⟩)
  refine wpAny_loadName_free rfl (by rcases T.fs with rfl | rfl <;> rfl) rfl ⟨_, X₀ _ _ lcc, rfl⟩ ?_
  refine wpAny_loadName_local (v := .ref e) rfl (by rfl) hns ?_ ?_
  · rcases T.fs with rfl | rfl <;> rfl
  refine ks_wpAny_isType_cls hCe rfl ⟨rfl, ?_⟩
  refine ks_wpAny_call_super hCe rfl I₀.at_ I₀.cls (fun c z => by cases z) (PySem.W.looks_mroIn X₀ T.mro) (fun h1 e1 k1' => ?_)
  have X₁ : K.In h1 := X₀.keeps k1'
  have I₁ := excO_inst (k1' _ _ (hk₀ _ _ he))
  have hI : PySem.W.Looks (model prog w) h1 (isInstance (.ref e) (.type "ValueError")) true := I₁.type.andThen (PySem.W.looks_subIn X₁ T.sub)
  refine PySem.W.kxs_getMethod PySem.W.kxs_ValueError e1 (PySem.W.looks_opaque X₁ T.any) (l₀ := .ref C :: bm) ?_ rfl X₁ hsup hI (PySem.W.ks_ne X₁ I₁ hcl) (by decide) ?_
  · exact fun A Q E s k q => wpAny_bind ((PySem.W.looks_clsIn X₁ hcl) A _ E s k (wpAny_pure q))
  generalize hu : h1.objs.size = u
  have hu1 : (h1.push (PySem.W.kxs_mw "ValueError.__init__" e)).get? u = some (PySem.W.kxs_mw "ValueError.__init__" e) := by rw [← hu]; exact Heap.get?_push_at rfl rfl
  have k2' : ∀ b o, h1.get? b = some o → (h1.push (PySem.W.kxs_mw "ValueError.__init__" e)).get? b = some o := fun b o z => Heap.get?_push_of_some _ z
  generalize h1.push (PySem.W.kxs_mw "ValueError.__init__" e) = h2 at hu1 k2' ⊢
  have he2 : h2.get? e = some (PySem.HandSPX.excO C t0) := k2' _ _ (k1' _ _ (hk₀ _ _ he))
  refine PySem.W.kxs_callWith (i := "ValueError.__init__") (x := e) rfl ?_
  refine Calls.evalArgs_plain (Calls.spliced_cons (wpAny_Constant_str (k := j) (pos := p3) (Calls.spliced_nil ⟨hu1, ?_⟩)))
  have X₂ : K.In h2 := X₁.keeps k2'
  have FB := F.excBase_ValueError
  refine wpAny_call (codeAny_of_tree ?_)
  show wpAny _ _ (callAny (.ref u) ⟨[.str wt _], []⟩) _ _ _
  simp only [callAny]
  refine wpAny_bind (wpAny_load hu1 ?_)
  simp only [PySem.W.kxs_mw, show (Value.type "method-wrapper" == Value.type "method" || Value.type "method-wrapper" == Value.type "builtin_function_or_method" || Value.type "method-wrapper" == Value.type "method-wrapper") = true by decide, if_true]
  refine PySem.W.KFB.if_so (by decide) ?_
  refine wpAny_bind (PySem.W.check_bound_init FB.toExcCallFacts (X₂ _ _ hC) he2 rfl ?_)
  refine wpAny_bind (wpAny_pure (wpAny_pure ?_))
  refine ⟨plainId_quiet FB.init.plain _, codeAny_builtin FB.initEntry ?_⟩
  refine PySem.W.exc_init_tree (cls := .ref C) (t0 := t0) (dv := none) (c2 := .none) (c3 := .none) (b4 := .bool false) he2 (by show 1 ≤ sizeLine; rw [sizeLine_eq]; omega) (fun h3 k3' e3 _ => ?_)
  have X₃ : K.In h3 := fun a o z => k3' a o (fun q => by rw [q, hKe] at z; cases z) (X₂ a o z)
  have hns3 : h3.Ns hp.objs.size (fun (x : Str) => List.lookup x ([("self", Value.ref e), (f, v)] : List (Str × Value)).reverse) := by
    obtain ⟨o, es, ep, z, r⟩ := hns
    exact ⟨o, es, ep, k3' _ _ (Nat.ne_of_gt (Heap.lt_size he)) (k2' _ _ (k1' _ _ z)), r⟩
  refine ks_wpAt_execs_cons (wpAt_of_wpAny (plainObj_wpAny_Assign_Attribute ?_))
  refine wpAny_Name (wpAny_loadName_local (v := v) rfl (by rcases T.fs with rfl | rfl <;> rfl) hns3 (by rcases T.fs with rfl | rfl <;> rfl) ?_) (by rcases T.fs with rfl | rfl <;> decide +kernel)
  refine wpAny_Name (wpAny_loadName_local (v := .ref e) rfl (by rfl) hns3 (by rcases T.fs with rfl | rfl <;> rfl) ?_) (by decide +kernel)
  have I₃ : PySem.W.InstAt h3 e (PySem.HandSPX.excO C h2.objs.size) C none := ⟨e3, rfl, rfl, trivial⟩
  refine PySem.W.set_plain X₃ I₃ T.T.sa ?_
  refine PySem.HandSPX.exc_osa X₃ e3 hcl (show PySem.HandSPX.refsVE (.ref C :: bm) = true from hbm) rfl T.no (fun h' tk' dx k dn dne hx hn => ?_)
  refine wpAt_of_wpAny (wpAny_pure (hq h' tk' dx h2.objs.size (fun b o hb z => k b o hb (k3' b o hb (k2' _ _ (k1' _ _ (hk₀ _ _ z))))) hx ?_ dne hn))
  obtain ⟨o, es, ep, z, r⟩ := hns3
  exact Nat.le_trans (Nat.le_of_lt (Heap.lt_size z)) dn
end
end Ev
/-! Ev, part D: where an evaluation stands; calls of defs; plain facts of expressions. -/
namespace Ev
open PySem L2

def veB : List Value := [.type "ValueError", .type "Exception", .type "BaseException", .type "object"]
/-- an exception class of the text -/
def ExF (G : GC) (c : Nat) (x : Str) : Prop := ∃ C, G.mg x = some (.ref C) ∧ PySem.W.keepIn G.K (.ref C) = true ∧ (G.T.inis.contains c = false → PySem.W.excIn G.K C veB "ValueError.__new__" = true) ∧
  PySem.W.subIn G.K (.ref C) (.type "BaseException") = some true ∧ PySem.W.typeIn G.K (.ref C) = some (.type "type")
/-- the field that an own __init__ stores -/
def iniFld (x : Str) : Str := if x == ("TooMany" : Str) then "limit" else "row"
/-- what is told of exceptions held as values -/
structure ExvF (G : GC) : Prop where
  file : ((G.P.main.file : Str) == ("/claim/cut.py" : Str)) = true
  top : (G.P.main.scope.names.lookup ("super" : Str)).isSome = false
  cls : ∀ (c : Nat) (x : Str) (C : Addr), G.T.cls[c]? = some x → G.mg x = some (.ref C) → ExcC G.K C ∧ PySem.W.kitOne G.K (.ref C) (.type "ValueError") = some true ∧ PySem.W.findIn G.K (.ref C) "limit" = some none ∧ PySem.W.findIn G.K (.ref C) "row" = some none
  ini : ∀ (c : Nat) (x : Str) (C : Addr), G.T.cls[c]? = some x → G.mg x = some (.ref C) → G.T.inis.contains c = true → ∃ fI, IniC G.K C fI (iniFld x)
  kit : ∀ (c d : Nat) (x y : Str) (C E : Addr), G.T.cls[c]? = some x → G.T.cls[d]? = some y → G.mg x = some (.ref C) → G.mg y = some (.ref E) → PySem.W.kitOne G.K (.ref C) (.ref E) = some (G.T.subs.contains (c, d))
/-- what the top has written: constants, defs; the built-in names that it leaves alone -/
structure TabOk (G : GC) : Prop where
  con : ∀ (x : Str) (d : D), G.T.cons.lookup x = some d → ∃ u v, G.mg x = some u ∧ RelV v u ∧ ∀ m H, Rep G m H d v
  blt : ∀ x ∈ G.T.blts, G.mg x = none
  fns : ∀ (f : Nat) (x : Str) (d : FD), G.T.fns[f]? = some (x, d) → ∃ a, G.mg x = some (.ref a) ∧ PySem.W.keepIn G.K (.ref a) = true
  exc : ∀ (c : Nat) (x : Str), G.T.cls[c]? = some x → ExF G c x
  exm : ∀ (c d : Nat) (x y : Str) (C E : Addr), G.T.cls[c]? = some x → G.T.cls[d]? = some y → G.mg x = some (.ref C) → G.mg y = some (.ref E) → PySem.W.exmOne G.K (.ref C) (.ref E) = some (G.T.subs.contains (c, d))
  exv : G.T.blts.contains ("super" : Str) = true → ExvF G
/-- each def does what cl says, called here -/
def FnAt (G : GC) (P : Program) (w : World) (base : Heap) (A : Around) (cl : Nat → List D → Store → R D) : Prop :=
  ∀ (f : Nat) (x : Str) (d : FD) (a : Addr), G.T.fns[f]? = some (x, d) → G.mg x = some (.ref a) → ∀ (outer : List Env) (s : Shared) (H : Hp) (us : List Value) (vs : List V) (as : List D) (m : List Addr) (S : Store) (Q : VK) (E : XK),
    Env0 P w G.K G.mg base A outer s H → Vals vs us → RepL G m H as vs → Sim G m H S → PostE G (fun c dd _ H' => E c dd H') m [] H (cl f as S) Q →
    codeAny (model P w) A (.call (.ref a) ⟨us, []⟩) (CR (L2.CX P w) outer P w H s Q E) s
structure XOk (G : GC) (cl : Nat → List D → Store → R D) (N : List Str) (sc : Scope) (W : WX) (X : Cx) : Prop extends At G X where
  mg : X.mg = G.mg
  eN : X.N = N
  eS : X.env.scope = sc
  nd : N.Nodup
  tab : TabOk G
  tk : Takes X W
  fnat : ∀ l, FnAt (G.up l) X.prog X.w X.base X.A cl

section
variable {X : Cx} {pins : List (Addr × Obj)} {σ : St} {H : Hp} {s : Shared}
theorem _root_.L2.PE.imp {e : Expr} {t t' : TE} (h : PE X e t) (k : ∀ σ H Q, t' σ H Q → t σ H Q) : PE X e t' := ⟨fun pins s σ H Q I q => h.run pins s σ H Q I (k σ H Q q)⟩
theorem _root_.L2.PT.imp {e : Expr} {t t' : TT} (h : PT X e t) (k : ∀ σ H Q, t' σ H Q → t σ H Q) : PT X e t' := ⟨fun pins s σ H Q I q => h.run pins s σ H Q I (k σ H Q q)⟩
theorem _root_.L2.PW.imp {e : Expr} {t t' : TT} (h : PW X e t) (k : ∀ σ H Q, t' σ H Q → t σ H Q) : PW X e t' := ⟨fun w pins s σ H Q I q => h.run w pins s σ H Q I (k σ H Q q)⟩
theorem _root_.L2.PA.imp {e : List Expr} {t t' : TA} (h : PA X e t) (k : ∀ σ H Q, t' σ H Q → t σ H Q) : PA X e t' := ⟨fun p pins s σ H Q I q => h.run p pins s σ H Q I (k σ H Q q)⟩
theorem _root_.L2.PO.imp {e : Option Expr} {t t' : TO} (h : PO X e t) (k : ∀ σ H Q, t' σ H Q → t σ H Q) : PO X e t' := ⟨fun pins s σ H Q I q => h.run pins s σ H Q I (k σ H Q q)⟩
theorem _root_.L2.PI.imp {tg e : Expr} {t t' : TI} (h : PI X tg e t) (k : ∀ σ H Q, t' σ H Q → t σ H Q) : PI X tg e t' := ⟨fun pins s σ H Q I q => h.run pins s σ H Q I (k σ H Q q)⟩
theorem _root_.L2.PS.imp {e : Stmt} {t t' : TS} (h : PS X e t) (k : ∀ D σ H, t' D σ H → t D σ H) : PS X e t' := ⟨fun pins s σ H D I q => h.run pins s σ H D I (k D σ H q)⟩
theorem _root_.L2.PSs.imp {e : List Stmt} {t t' : TS} (h : PSs X e t) (k : ∀ D σ H, t' D σ H → t D σ H) : PSs X e t' := ⟨fun pins s σ H D I q => h.run pins s σ H D I (k D σ H q)⟩
end

/-! ### a call of a def -/
section
variable {G : GC} {cl : Nat → List D → Store → R D} {N : List Str} {sc : Scope} {W : WX} {X : Cx} {pins : List (Addr × Obj)} {σ : St} {H : Hp} {s : Shared} {m : List Addr} {S : Store}
theorem run_cl (O : XOk G cl N sc W X) {f : Nat} {x : Str} {d : FD} {a : Addr} (hf : G.T.fns[f]? = some (x, d)) (ha : G.mg x = some (.ref a)) {us : List Value} {vs : List V} {as : List D} {Q : VK}
    (I : Inv X pins σ H s) (r : Vals vs us) (ra : RepL G m H as vs) (sim : Sim G m H S) (h : PostE G W m σ H (cl f as S) Q) : wpAny (model X.prog X.w) X.A (call (.ref a) us) (EP X pins σ Q) X.xe s := by
  have e0 := I.env0
  rw [O.K, O.mg] at e0
  have hp : PostE G (fun c dd _ H' => W c dd σ H') m [] H (cl f as S) Q := by
    revert h
    generalize cl f as S = z
    cases z with
    | ok d S => exact id
    | bad => exact id
    | ex c pl S => exact id
  refine wpAny_call (codeAny_mono (O.fnat [] f x d a hf ha X.stack s H us vs as m S Q (fun c dd H' => W c dd σ H') e0 r ra sim hp) fun r s' hq => ?_)
  cases r with
  | error e => exact O.tk _ _ (XE.of_call I (fun cls d H' z => z) hq)
  | ok fl =>
    cases fl with
    | ret u => exact I.after hq
    | next => exact False.elim hq
    | brk => exact False.elim hq
    | cont => exact False.elim hq
end

/-! ### plain facts of the syntax -/
/-- no star, no set display -/
def plainE : Expr → Bool
  | .Starred _ _ => false
  | .Set _ _ _ => false
  | _ => true
theorem star_cons {e : Expr} {es : List Expr} {env : Env} (h : plainE e = true) : starEach (e :: es) env = (false, eval e env) :: starEach es env := by
  cases e <;> first | rfl | (simp [plainE] at h)
theorem star_none {pos : Pos} {env : Env} : ∀ {es : List Expr}, es.all plainE = true → (backTo pos (starEach es env)).any (·.1) = false
  | [], _ => rfl
  | e :: es, h => by
    rw [List.all_cons, Bool.and_eq_true] at h
    rw [star_cons h.1]
    have ih := star_none (pos := pos) (env := env) h.2
    show (false || (backTo pos (starEach es env)).any (·.1)) = false
    rw [ih]; rfl
theorem plain_marks {op : CmpOp} {e : Expr} (h : plainE e = true) : behindInMarks op e = false := by
  cases e <;> first | rfl | (simp [plainE] at h)
theorem plain_marks2 {o1 o2 : CmpOp} {b c : Expr} (h : plainE c = true) : lastMarks [o1, o2] [b, c] = false := by
  show behindInMarks o2 c = false
  exact plain_marks h
theorem plain_fold {e : Expr} {env : Env} (h : plainE e = true) (x : Value) : foldedSetIterable e env x = pure x := by
  cases e <;> first | rfl | (simp [plainE] at h)
/-- .. and no slice -/
def plainI : Expr → Bool
  | .Slice _ _ _ _ => false
  | _ => true
theorem plain_ix {e : Expr} (h : plainI e = true) (o i : Value) : subscripted e false o i = operate [o, i] (getItem o i) := by
  cases e <;> first | rfl | (simp [plainI] at h)
/-- an expression whose test is its value's truth -/
def plainB : Expr → Bool
  | .UnaryOp .Not _ _ => false
  | .BoolOp _ _ _ => false
  | .IfExp _ _ _ _ => false
  | .Compare _ _ _ _ => false
  | _ => true
theorem plain_test {e : Expr} {env : Env} (h : plainB e = true) (whole : Sem Value) : isTrue e env whole = (do let v ← whole; standAt e.pos; holding [v] (truthy v)) := by
  cases e <;> first
    | rfl
    | (simp [plainB] at h; done)
    | (rename_i op _ _; cases op <;> first | rfl | (simp [plainB] at h; done))
/-- an expression that is no comprehension: stored as it comes -/
def plainC : Expr → Bool
  | .ListComp _ _ _ _ => false
  | .SetComp _ _ _ _ => false
  | .DictComp _ _ _ _ _ => false
  | _ => true
theorem plain_swaps {e : Expr} {t : Option Expr} {l : Nat} {env : Env} (h : plainC e = true) : swapsWith e t l env = pure false := by
  cases e <;> first | rfl | (simp [plainC] at h)
/-- an expression whose attribute is asked plainly -/
def plainA : Expr → Bool
  | .Call _ _ _ _ => false
  | _ => true
theorem plain_attr {e : Expr} {f : Str} {env : Env} {whole : Sem Value} (h : plainA e = true) : attributeBase e f env whole = whole := by
  cases e <;> first | rfl | (simp [plainA] at h)
/-- a target: a name, a tuple of targets -/
def plainT : Expr → Bool
  | .Starred _ _ => false
  | _ => true
theorem tgt_cons {e : Expr} {es : List Expr} {env : Env} (h : plainT e = true) : (assignEach (e :: es) env).map (·.2) = assign e env :: (assignEach es env).map (·.2) := by
  cases e <;> first | rfl | (simp [plainT] at h)
theorem tgt_len {env : Env} : ∀ {es : List Expr}, (assignEach es env).length = es.length
  | [] => rfl
  | e :: es => by
    have ih := tgt_len (env := env) (es := es)
    cases e <;> (show (assignEach es env).length + 1 = es.length + 1; rw [ih])
theorem tgt_none {env : Env} : ∀ {es : List Expr}, es.all plainT = true → (assignEach es env).findIdx? (·.1) = none
  | [], _ => rfl
  | e :: es, h => by
    rw [List.all_cons, Bool.and_eq_true] at h
    have ih := tgt_none (env := env) h.2
    have e1 : assignEach (e :: es) env = (false, assign e env) :: assignEach es env := by
      cases e <;> first | rfl | (simp [plainT] at h)
    rw [e1, List.findIdx?_cons, ih]
    rfl

/-! ### truth as a test -/
section
variable {G : GC} {W : WX} {X : Cx} {H : Hp} {m : List Addr} {S : Store}
theorem truth_ok {a : D} {v : V} {b : Bool} (h : Rep G m H a v) (e : truth a = some b) {K} : TruV K v H b := by
  cases a with
  | non => simp only [Rep] at h; subst h; simp only [truth, Option.some.injEq] at e; exact e.symm
  | bl c => simp only [Rep] at h; subst h; simp only [truth, Option.some.injEq] at e; exact e.symm
  | int i => simp only [Rep] at h; subst h; simp only [truth, Option.some.injEq] at e; exact e.symm
  | _ => simp [truth] at e
/-- the test of an evaluation -/
def tst (r : Slots → Store → R D) : Slots → Store → R Bool := fun τ S => (r τ S).bind fun x S => okO (truth x) S
theorem pt_of {e : Expr} {r : Slots → Store → R D} (h : PE X e (tE G W r)) (he : plainB e = true) : PT X e (tB G W (tst r)) := by
  refine (pt_truth h (plain_test he)).imp fun σ H Q ⟨m, τ, S, rel, sim, q⟩ => ?_
  refine tR.seq rel sim q fun m' H' d S' v e rel' sim' rd p => ?_
  obtain ⟨b, eb, p⟩ := Post.o_ p
  exact ⟨b, truth_ok rd eb, p.done sim' rfl⟩
end
end Ev
/-! Ev, part E: the checker: compact syntax against the text. -/
namespace Ev
open PySem L2
def glb (sc : Scope) (x : Str) : Bool := decide (sc.names.lookup x = some .globalImplicit) && (x != ("__debug__" : Str)) && (x != ("__name__" : Str))
def vis (sc : Scope) (x : Str) : Bool := (match sc.names.lookup x with | some .local => true | some .cell => true | some .free => true | _ => false) && (x != ("__debug__" : Str)) && (x != ("__classdict__" : Str))
def sto (sc : Scope) (x : Str) : Bool := match sc.names.lookup x with | some .local => true | some .cell => true | _ => false
def biN : BI → Str
  | .len => "len" | .int => "int" | .abs => "abs" | .bool => "bool" | .str => "str" | .tuple => "tuple" | .list => "list" | .all => "all" | .sum => "sum"
  | .max1 => "max" | .min1 => "min" | .max2 => "max" | .min2 => "min" | .sorted => "sorted" | .divmod => "divmod"
def tyN : Ty → Str
  | .int => "int" | .bool => "bool" | .str => "str" | .tup => "tuple" | .list => "list" | .own _ => ""
def miN : MI → Str
  | .append => "append" | .clear => "clear" | .reverse => "reverse"
def fnN (T : Tab) (f : Nat) (y : Str) : Bool := match T.fns[f]? with
  | some (x, _) => x == y
  | none => false
mutual
def chkT (N : List Str) (sc : Scope) (own : Option (List Nat)) : CT → Expr → Bool
  | .name i, e => match e with
    | .Name x _ => decide (N[i]? = some x) && sto sc x && (match own with | none => true | some l => l.contains i)
    | _ => false
  | .tup ts, e => match e with
    | .Tuple es _ _ => chkTs N sc own ts es && es.all plainT
    | _ => false
def chkTs (N : List Str) (sc : Scope) (own : Option (List Nat)) : List CT → List Expr → Bool
  | [], es => es.isEmpty
  | t :: ts, es => match es with
    | e :: es => chkT N sc own t e && chkTs N sc own ts es
    | [] => false
end
def isTup : CT → Expr → Bool
  | .tup _, .Tuple _ _ _ => true
  | _, _ => false
/-- an expression that is no if-else: its test can be told from its value -/
def plainF : Expr → Bool
  | .IfExp _ _ _ _ => false
  | _ => true
/-- .. and the built-in classes -/
def tyS : Ty → Option String
  | .int => some "int" | .bool => some "bool" | .str => some "str" | .tup => some "tuple" | .list => some "list"
  | .own _ => none
section
variable (T : Tab) (N : List Str)
mutual
def chk (sc : Scope) : CE → Expr → Bool
  | .int i, e => match e with
    | .Constant (.int j) _ _ => i == j
    | _ => false
  | .bl b, e => match e with
    | .Constant (.bool c) _ _ => b == c
    | _ => false
  | .non, e => match e with
    | .Constant .none _ _ => true
    | _ => false
  | .str x, e => match e with
    | .Constant (.str y) _ _ => x == y && PyData.strOk x && decide (x.length ≤ big)
    | _ => false
  | .var i, e => match e with
    | .Name x _ => decide (N[i]? = some x) && vis sc x
    | _ => false
  | .con x d, e => match e with
    | .Name y _ => x == y && glb sc x && decide (T.cons.lookup x = some d)
    | _ => false
  | .fnv f, e => match e with
    | .Name y _ => glb sc y && fnN T f y
    | _ => false
  | .bin o a b, e => match e with
    | .BinOp l op r _ => decide (op = opO o) && chk sc a l && chk sc b r
    | _ => false
  | .neg a, e => match e with
    | .UnaryOp .USub x _ => chk sc a x
    | _ => false
  | .not a, e => match e with
    | .UnaryOp .Not x _ => chk sc a x && plainF x
    | _ => false
  | .cmp o a b, e => match e with
    | .Compare l [op] [r] _ => decide (op = cO o) && chk sc a l && chk sc b r && plainE r
    | _ => false
  | .chain o1 o2 a b c, e => match e with
    | .Compare l [p1, p2] [r1, r2] _ => decide (p1 = cO o1) && decide (p2 = cO o2) && chk sc a l && chk sc b r1 && chk sc c r2 && plainE r2
    | _ => false
  | .and es, e => match e with
    | .BoolOp .And vs _ => chkL sc es vs && vs.all plainF && !vs.isEmpty
    | _ => false
  | .or es, e => match e with
    | .BoolOp .Or vs _ => chkL sc es vs && vs.all plainF && !vs.isEmpty
    | _ => false
  | .ite c a b, e => match e with
    | .IfExp t x y _ => chk sc c t && plainF t && chk sc a x && chk sc b y
    | _ => false
  | .tup es, e => match e with
    | .Tuple vs _ _ => chkL sc es vs && vs.all plainE
    | _ => false
  | .lst _ es, e => match e with
    | .List vs _ => chkL sc es vs && vs.all plainE
    | _ => false
  | .idx a i, e => match e with
    | .Subscript x y _ => chk sc a x && chk sc i y && plainI y
    | _ => false
  | .sl a lo hi, e => match e with
    | .Subscript x (.Slice l h none _) _ => chk sc a x && chkO sc lo l && chkO sc hi h
    | _ => false
  | .call f es, e => match e with
    | .Call (.Name y _) vs [] _ => glb sc y && fnN T f y && chkL sc es vs && vs.all plainE
    | _ => false
  | .bi b es, e => match e with
    | .Call (.Name y _) (v :: vs) [] _ => y == biN b && glb sc y && T.blts.contains y && chkL sc es (v :: vs) && (v :: vs).all plainE
    | _ => false
  | .isi a t, e => match e with
    | .Call (.Name y _) [v, .Name z _] [] _ => y == ("isinstance" : Str) && glb sc y && T.blts.contains y && z == tyN t && glb sc z && T.blts.contains z && chk sc a v && plainE v && (tyS t).isSome
    | _ => false
  | .lenset a, e => match e with
    | .Call (.Name y _) [.Call (.Name z _) [v] [] _] [] _ => y == ("len" : Str) && glb sc y && T.blts.contains y && z == ("set" : Str) && glb sc z && T.blts.contains z && chk sc a v && plainE v
    | _ => false
  | .meth m a es, e => match e with
    | .Call (.Attribute o name ap) vs [] cp => name == miN m && chk sc a o && plainA o && (ap.endLine == cp.line) && chkL sc es vs && vs.all plainE && (match m with | .append => vs.length == 1 | _ => vs.isEmpty)
    | _ => false
  | .dict0, e => match e with
    | .Dict [] [] _ => true
    | _ => false
  | .dict0i, e => match e with
    | .Dict [] [] _ => true
    | _ => false
  | .sset a, e => match e with
    | .Call (.Name y _) [.Call (.Name z _) [v] [] _] [] _ => y == ("sorted" : Str) && glb sc y && T.blts.contains y && z == ("set" : Str) && glb sc z && T.blts.contains z && chk sc a v && plainE v
    | _ => false
  | .ssetb _, _ => false
  | .mkE c a, e => match e with
    | .Call (.Name x _) [v] [] _ => decide (T.cls[c]? = some x) && !(T.inis.contains c) && glb sc x && chk sc a v && plainE v
    | _ => false
  | .mkO _ _ _, _ => false
  | .isE a cs (some d), e => match e with
    | .Call (.Name y _) [v, .Name z _] [] _ => y == ("isinstance" : Str) && glb sc y && T.blts.contains y && chk sc a v && plainE v && glb sc z && T.blts.contains ("super" : Str) && decide (T.cls[d]? = some z) && (List.range T.cls.length).all fun c => cs.contains c == T.subs.contains (c, d)
    | _ => false
  | .isE a cs none, e => match e with
    | .Call (.Name y _) [v, .Name z _] [] _ => y == ("isinstance" : Str) && glb sc y && T.blts.contains y && chk sc a v && plainE v && glb sc z && T.blts.contains ("super" : Str) && z == ("ValueError" : Str) && T.blts.contains z && (List.range T.cls.length).all fun c => cs.contains c
    | _ => false
  | .fld a f, e => match e with
    | .Attribute v n _ => n == f && (f == ("limit" : Str) || f == ("row" : Str)) && T.blts.contains ("super" : Str) && chk sc a v && plainA v
    | _ => false
  | .rev a, e => match e with
    | .Subscript x (.Slice none none (some (.UnaryOp .USub (.Constant (.int 1) _ _) _)) _) _ => chk sc a x
    | _ => false
  | .upper a, e => match e with
    | .Call (.Attribute o name ap) [] [] cp => name == ("upper" : Str) && chk sc a o && plainA o && (ap.endLine == cp.line)
    | _ => false
  | .trng tu none b, e => match e with
    | .Call (.Name y _) [.Call (.Name z _) [w] [] _] [] _ => y == (if tu then ("tuple" : Str) else "list") && glb sc y && T.blts.contains y && z == ("range" : Str) && glb sc z && T.blts.contains z && chk sc b w && plainE w
    | _ => false
  | .trng tu (some a) b, e => match e with
    | .Call (.Name y _) [.Call (.Name z _) [v, w] [] _] [] _ => y == (if tu then ("tuple" : Str) else "list") && glb sc y && T.blts.contains y && z == ("range" : Str) && glb sc z && T.blts.contains z && chk sc a v && plainE v && chk sc b w && plainE w
    | _ => false
  | .comp _ own t it c e, ex => match ex with
    | .ListComp elt [⟨tg, iter, ifs, n⟩] scope _ => n == 0 && blkC N sc scope own && chkIt sc it t tg iter && plainE iter && chkT N scope (some (own.map (·.2))) t tg && chkF (relS scope sc) c ifs && chk (relS scope sc) e elt
    | _ => false
def chkO (sc : Scope) : Option CE → Option Expr → Bool
  | none, e => e.isNone
  | some c, e => match e with
    | some e => chk sc c e
    | none => false
def chkF (sc : Scope) : Option CE → List Expr → Bool
  | none, es => es.isEmpty
  | some c, es => match es with
    | [e] => chk sc c e && plainF e
    | _ => false
def chkL (sc : Scope) : List CE → List Expr → Bool
  | [], es => es.isEmpty
  | c :: cs, es => match es with
    | e :: es => chk sc c e && chkL sc cs es
    | [] => false
def chkIt (sc : Scope) : CIt → CT → Expr → Expr → Bool
  | .val c, _, _, e => chk sc c e
  | .rng1 c, _, _, e => match e with
    | .Call (.Name y _) [v] [] _ => y == ("range" : Str) && glb sc y && T.blts.contains y && chk sc c v && plainE v
    | _ => false
  | .rng2 a b, _, _, e => match e with
    | .Call (.Name y _) [v, w] [] _ => y == ("range" : Str) && glb sc y && T.blts.contains y && chk sc a v && chk sc b w && plainE v && plainE w
    | _ => false
  | .enum _ c, t, tg, e => isTup t tg && (match e with
    | .Call (.Name y _) [v] [] _ => y == ("enumerate" : Str) && glb sc y && T.blts.contains y && chk sc c v && plainE v
    | _ => false)
  | .zip a b, t, tg, e => isTup t tg && (match e with
    | .Call (.Name y _) [v, w] [] _ => y == ("zip" : Str) && glb sc y && T.blts.contains y && chk sc a v && chk sc b w && plainE v && plainE w
    | _ => false)
end
end
end Ev
/-! Ev, part F: what loops walk. -/
namespace Ev
open PySem L2

/-! ### enumerate of a tuple -/
section
open Builtin PyProof.Rows
/-- enumerate(v) by what v begins with -/
theorem meets_enum1 {v : Value} {o : Obj} {H : Heap → Prop} (B : Begins v o H) :
    Meets (Builtin.«enumerate.__new__» ⟨[.type "enumerate", v], []⟩) (fun _ R s => H s.heap ∧
      R (.ok (.ret (.ref (s.heap.push o).objs.size))) { s with heap := (s.heap.push o).push { cls := .type "enumerate", data := .fields #[.none, .bool false, .ref s.heap.objs.size, rawInt 0, .none, .none] } }) :=
  .of_wp fun prog w A R s h => by
    obtain ⟨hp, g, d, tk, os⟩ := s; obtain ⟨h1, h⟩ := h
    have hsub := sub_enumerate
    have q1 : ∀ {A' : Around} {E : Value → Shared → Prop} {Q : Value → Shared → Prop}, Q (.ref hp.objs.size) ⟨hp.push o, g, d, tk, os⟩ → wpAny (model prog w) A' (pyIter v) Q E ⟨hp, g, d, tk, os⟩ :=
      fun q => B.iter prog w _ _ ⟨hp, g, d, tk, os⟩ _ h1 q
    wp_walk using q1
    refine wpAny_stack_any fun st => wpAny_pure ?_
    split
    · rename_i c _ _ _ _ _
      cases (c == Value.type "enumerate") <;> (wp_walk using q1; exact ⟨_, rfl, h⟩)
    · wp_walk using q1
      exact ⟨_, rfl, h⟩
theorem enum1_begins {prog : Program} {w : World} {A : Around} {E : Value → Shared → Prop} {s : Shared} {v : Value} {o : Obj} {H : Heap → Prop} {Q : Value → Shared → Prop} (B : Begins v o H) (h1 : H s.heap)
    (h : ∀ h', IsEnum h' (s.heap.objs.size + 1) s.heap.objs.size 0 .none → h'.get? s.heap.objs.size = some o →
      (∀ b o, s.heap.get? b = some o → h'.get? b = some o) → Q (.ref (s.heap.objs.size + 1)) { s with heap := h' }) :
    wpAny (model prog w) A (call (.type "enumerate") [v]) Q E s := by
  refine callType_new F.called_enumerate (by decide) (F.typeCall_enumerate_1 _) (F.newCall_enumerate_1 _) (fun obj => F.args_object_init_2 obj _) F.entry_enumerate_new
    (meets_enum1 B) ⟨h1, ?_⟩
  have hz : (s.heap.push o).objs.size = s.heap.objs.size + 1 := Heap.size_push ..
  show _ ∧ _
  rw [hz]
  refine ⟨⟨_, by
    have q := Heap.get?_push_size (s.heap.push o) (o := { cls := .type "enumerate", data := .fields #[.none, .bool false, .ref s.heap.objs.size, rawInt 0, .none, .none] }) rfl
    rw [hz] at q
    exact q, rfl⟩, h _ ?_ ?_ fun b ob e => Heap.get?_push_of_some _ (Heap.get?_push_of_some _ e)⟩
  · have q := Heap.get?_push_size (s.heap.push o) (o := { cls := .type "enumerate", data := .fields #[.none, .bool false, .ref s.heap.objs.size, rawInt 0, .none, .none] }) rfl
    rw [hz] at q
    exact q
  · exact Heap.get?_push_of_some _ (Heap.get?_push_size s.heap B.free)
end
/-- the tuple at a, each item in a new pair with its number -/
def IteT (K : PySem.W.Frag) (a : Addr) : It :=
  ⟨fun i H => ∃ (xs : List V) (x : V), SqT K H a xs ∧ xs[i]? = some x, fun i H v H' => ∃ T x, v = .ref T ∧ H T = none ∧ H' = upd H T (.tup [.int (i : Nat), x]) ∧ ∀ xs, SqT K H a xs → xs[i]? = some x,
    fun i H => ∃ xs : List V, SqT K H a xs ∧ xs.length = i⟩
section
open PyProof.Rows
theorem turn_enumT {P : Program} {w : World} {K : PySem.W.Frag} {elts : List Expr} {kk : Nat} {tpos : Pos} (a e it : Addr) (ha : a ≠ it) (ha2 : a ≠ e) :
    Turn P w K (.Tuple elts kk tpos) (IteT K a) [e, it] e (fun i h => (∃ old, IsEnum h e it ((i : Nat) : Int) old) ∧ h.IsTupleIter it a i ∧ e ≠ it) where
  mem := by simp
  obj := fun i h st b hb => by
    obtain ⟨⟨old, he⟩, ⟨o, ho, hc, hd⟩, _⟩ := st
    rcases (by simpa using hb : b = e ∨ b = it) with rfl | rfl
    · exact ⟨_, he, fun v q => nomatch q⟩
    · exact ⟨o, ho, fun v q => by rw [hd] at q; cases q⟩
  keep := fun i h h' st k => let ⟨⟨old, he⟩, hi, hne⟩ := st; ⟨⟨old, k e (by simp) _ he⟩, hi.at fun o q => k it (by simp) o q, hne⟩
  item := by
    intro X hP hw hK hc i pins s σ H E I hf st hg
    subst hP hw hK
    obtain ⟨⟨old, he⟩, hit, hne⟩ := st
    obtain ⟨xs, x, hq, hx⟩ := hg
    obtain ⟨its, rv, p, hz⟩ := I.tuple hq
    obtain ⟨u, hu, ru⟩ := rv.get hx
    have hel : e < s.heap.objs.size := Heap.lt_size he
    have hil : it < s.heap.objs.size := by obtain ⟨_, q, _⟩ := hit; exact Heap.lt_size q
    have hi : i < its.toArray.size := by
      rw [List.size_toArray]; exact (List.getElem?_eq_some_iff.mp hu).1
    have Dr := Draws.tuple (prog := X.prog) (w := X.w) (A := X.A.in1) (I.ok.hd hc) it a ha its.toArray
    refine wpAny_pyNext_enum_itemC (old := old) (c := (i : Nat)) Dr he ⟨hit, p⟩ hi hne (by simp only [List.mem_cons, List.not_mem_nil, or_false, not_or]; exact ⟨hne, ha2.symm⟩) fun y h' tk hy ho hit' hT hsz hk => ?_
    have ey : y = u := by
      rw [← Array.getElem?_toList] at hy
      have hy : its[i]? = some y := hy
      rw [hu] at hy; exact (Option.some.inj hy).symm
    subst ey
    refine ⟨_, rfl, wpAny_letOwnedTupleGo_enum (s := { s with heap := h', toks := tk + 1 }) ho fun h'' he' sb => ?_⟩
    have hT2 : h''.get? s.heap.objs.size = some { cls := .type "tuple", data := .seq #[.int i tk, y] } := (sb.2 _ (Nat.ne_of_gt hel)).trans hT
    have new : ObjOk X.prog X.w (upd H s.heap.objs.size (.tup [.int (i : Nat), x])) h'' s.heap.objs.size (.tup [.int (i : Nat), x]) :=
      ⟨by show 2 ≤ sizeLine; decide, [.int i tk, y], .cons ⟨_, rfl⟩ (.cons ru .nil), ⟨_, hT2, rfl, _, rfl⟩⟩
    have I1 : Inv X pins σ (upd H s.heap.objs.size (.tup [.int (i : Nat), x])) { s with heap := h'', toks := tk + 1 } :=
      I.turnedNew (ch := [e, it]) (fun b ob hb q => (sb.2 b (fun z => hb (by simp [z]))).trans (hk b ob (fun z => hb (by simp [z])) (fun z => hb (by simp [z])) q)) hf (Nat.le_refl _) new
    refine ⟨.ref s.heap.objs.size, _, I1, rfl, ⟨_, x, rfl, I.hok.fresh (Nat.le_refl _), rfl, fun ys hy => by rw [I.tuple_inj hy hq]; exact hx⟩, ⟨⟨y, ?_⟩, hit'.1.at fun o q => (sb.2 it (Ne.symm hne)).trans q, hne⟩, fun b hb => ?_⟩
    · have e1 : ((i + 1 : Nat) : Int) = (i : Int) + 1 := by omega
      rw [e1]; exact he'
    · have hb' : b < s.heap.objs.size := by
        rcases (by simpa using hb : b = e ∨ b = it) with rfl | rfl
        · exact hel
        · exact hil
      rw [upd_ne (Nat.ne_of_lt hb')]
      exact (hf b hb).1
  done := by
    intro X hP hw hK hc i pins s σ H E I hf st hg
    subst hP hw hK
    obtain ⟨⟨old, he⟩, hit, hne⟩ := st
    obtain ⟨xs, hq, hx⟩ := hg
    obtain ⟨its, rv, p, hz⟩ := I.tuple hq
    obtain ⟨f0, f1, f2, f3, f4, f5⟩ := hf it (by simp)
    have hl := rv.length
    have Dr := Draws.tuple (prog := X.prog) (w := X.w) (A := X.A.in1) (I.ok.hd hc) it a ha its.toArray
    have hi : i = its.toArray.size := by rw [List.size_toArray, ← hl]; exact hx.symm
    refine wpAny_pyNext_enum_endD Dr he (by rw [← hi]; exact ⟨hit, p⟩) fun h' eb => ⟨rfl, I.turnedL (t' := s.toks) (ch := [e, it]) (fun b o hb q => eb b o (fun z => hb (by simp [z])) q) hf⟩
  self := fun A i s Q E st h => let ⟨⟨_, he⟩, _⟩ := st; wpAny_pyIter_enum he h
end
end Ev
/-! Ev, part F2: what loops walk, by data. -/
namespace Ev
open PySem L2
theorem pi_enumT {X : Cx} {e : Expr} {ta : TA} {p pos tpos : Pos} {elts : List Expr} {kk : Nat} (hg : Gl X "enumerate") (hm : X.mg "enumerate" = none) (ha : PA X [e] ta) (hs : starEach [e] X.env = [(false, eval e X.env)]) :
    PI X (.Tuple elts kk tpos) (.Call (.Name "enumerate" p) [e] [] pos) (fun σ H R => ta σ H fun vs H1 => ∃ a xs, vs = [.ref a] ∧ SqT X.K H1 a xs ∧ R (IteT X.K a) H1) := by
  refine ⟨fun pins s σ H R I h => ?_⟩
  refine PyProof.Rows.Call_ (ld_blt I hg hm PyProof.Rows.boot_enumerate (PyProof.Rows.callWith_type1 (thn (ha.run pos pins s σ H _ I h) fun us s1 ⟨vs, H1, I1, r1, q1⟩ => ?_) hs rfl))
  obtain ⟨a, xs, ex, hq, q⟩ := q1
  subst ex
  cases r1 with
  | cons r rr =>
    cases rr
    cases r
    obtain ⟨its, rv, p', hz⟩ := I1.tuple hq
    have la : a < s1.heap.objs.size := p'.lt
    refine enum1_begins (begins_tuple a its.toArray) (show s1.heap.IsTuple a its.toArray from p') fun h' he hit hk => wpAny_pyIter_enum he ?_
    have I2 : Inv X pins σ H1 { s1 with heap := h' } := I1.kept (t' := s1.toks) hk
    refine ⟨s1.heap.objs.size + 1, [s1.heap.objs.size + 1, s1.heap.objs.size], _, _, H1, rfl, I2, turn_enumT a (s1.heap.objs.size + 1) s1.heap.objs.size (Nat.ne_of_lt la) (Nat.ne_of_lt (Nat.lt_succ_of_lt la)), ⟨⟨.none, he⟩, ⟨_, hit, rfl, rfl⟩, Nat.succ_ne_self _⟩, fun b hb => ?_, q⟩
    have hle : s1.heap.objs.size ≤ b := by
      rcases (by simpa using hb : b = s1.heap.objs.size + 1 ∨ b = s1.heap.objs.size) with z | z
      · rw [z]; exact Nat.le_add_right _ _
      · rw [z]; exact Nat.le_refl _
    exact I1.fpOk hle (I1.hok.fresh hle)

/-- the items come one after another, as long as the list that is walked stands still -/
structure JW (G : GC) (m0 : List Addr) (H0 : Hp) (I : Items) (J : It) : Prop where
  go : ∀ (l : List Addr) (i : Nat) (m : List Addr) (H : Hp) (S : Store), (∀ a ∈ l, H0 a = none) → Ext m0 H0 m H → Sim (G.up l) m H S → I.still S = true → i < I.xs.length →
    J.go i H ∧ ∀ x H', J.yld i H x H' → Ext m H m H' ∧ Sim (G.up l) m H' S ∧ ∃ d, I.xs[i]? = some d ∧ Rep (G.up l) m H' d x
  stop : ∀ (l : List Addr) (m : List Addr) (H : Hp) (S : Store), Ext m0 H0 m H → Sim (G.up l) m H S → I.still S = true → J.stop I.xs.length H
  few : I.xs.length ≤ big
section
variable {G : GC} {m : List Addr} {H : Hp} {S : Store}
theorem jw_list {K} {a : Addr} {vs : List V} {xs : List D} (z : vs.length ≤ big) (r : RepL G m H xs vs) (q : ∀ m' H', Ext m H m' H' → SqL K H' a vs) : JW G m H { xs := xs } (Itl K a) where
  go := fun l i m' H' S' f e sim _ hi => by
    have q' := q m' H' e
    have hi : i < vs.length := by rw [r.length]; exact hi
    refine ⟨⟨vs, vs[i], q', by simp [hi]⟩, fun x H2 y => ?_⟩
    obtain ⟨rfl, y⟩ := y
    obtain ⟨d, e1, e2⟩ := ((r.up f).ext e).back (y vs q')
    exact ⟨.refl _ _, sim, d, e1, e2⟩
  stop := fun l m' H' S' e sim _ => ⟨vs, q m' H' e, by rw [r.length]; exact Nat.le_refl _⟩
  few := by rw [← r.length]; exact z
theorem jw_tup {K} {a : Addr} {vs : List V} {xs : List D} (z : vs.length ≤ big) (r : RepL G m H xs vs) (q : ∀ m' H', Ext m H m' H' → SqT K H' a vs) : JW G m H { xs := xs } (Itt K a) where
  go := fun l i m' H' S' f e sim _ hi => by
    have q' := q m' H' e
    have hi : i < vs.length := by rw [r.length]; exact hi
    refine ⟨⟨vs, vs[i], q', by simp [hi]⟩, fun x H2 y => ?_⟩
    obtain ⟨rfl, y⟩ := y
    obtain ⟨d, e1, e2⟩ := ((r.up f).ext e).back (y vs q')
    exact ⟨.refl _ _, sim, d, e1, e2⟩
  stop := fun l m' H' S' e sim _ => ⟨vs, q m' H' e, by rw [r.length]; exact Nat.le_refl _⟩
  few := by rw [← r.length]; exact z
theorem jw_loc {K} {a : Addr} {n : Nat} {xs : List D} (z : xs.length ≤ big) (ha : m[n]? = some a) : JW G m H { xs := xs, gd := some (n, xs) } (Itl K a) := by
  have key : ∀ l m' H' S', Ext m H m' H' → Sim (G.up l) m' H' S' → Items.still { xs := xs, gd := some (n, xs) } S' = true → ∃ vs, H' a = some (.lst vs) ∧ RepL (G.up l) m' H' xs vs := by
    intro l m' H' S' e sim st
    simp only [Items.still] at st
    split at st
    · next ys hy =>
      have e1 : ys = xs := of_decide_eq_true st
      subst e1
      obtain ⟨a', ha', vs, h1, z, r⟩ := sim.find hy
      have := e.pre n a ha
      rw [ha'] at this; cases this
      exact ⟨vs, h1, r⟩
    · cases st
  exact {
    go := fun l i m' H' S' f e sim st hi => by
      obtain ⟨vs, h1, r⟩ := key l m' H' S' e sim st
      have q' : SqL K H' a vs := .of h1
      have hi : i < vs.length := by rw [r.length]; exact hi
      refine ⟨⟨vs, vs[i], q', by simp [hi]⟩, fun x H2 y => ?_⟩
      obtain ⟨rfl, y⟩ := y
      obtain ⟨d, e1, e2⟩ := r.back (y vs q')
      exact ⟨.refl _ _, sim, d, e1, e2⟩
    stop := fun l m' H' S' e sim st => by
      obtain ⟨vs, h1, r⟩ := key l m' H' S' e sim st
      exact ⟨vs, .of h1, by rw [r.length]; exact Nat.le_refl _⟩
    few := z }
theorem rangeD_len (a b : Int) : (rangeD a b).length = (b - a).toNat := by simp [rangeD]
theorem rangeD_get {a b : Int} {i : Nat} (h : i < (b - a).toNat) : (rangeD a b)[i]? = some (.int (a + i)) := by
  simp [rangeD, h]
theorem jw_range {a b : Int} (h : (b - a).toNat ≤ big) : JW G m H { xs := rangeD a b } (Itr a (b - a).toNat) where
  go := fun l i m' H' S' f e sim _ hi => by
    have hi : i < (b - a).toNat := by rw [← rangeD_len]; exact hi
    refine ⟨hi, fun x H2 y => ?_⟩
    obtain ⟨rfl, rfl⟩ := y
    exact ⟨.refl _ _, sim, _, rangeD_get hi, by simp only [Rep]⟩
  stop := fun l m' H' S' e sim _ => by
    show (b - a).toNat ≤ (rangeD a b).length
    rw [rangeD_len]; exact Nat.le_refl _
  few := by show (rangeD a b).length ≤ big; rw [rangeD_len]; exact h
theorem enumD_len : ∀ (xs : List D) (k : Nat), (enumD k xs).length = xs.length
  | [], _ => rfl
  | x :: r, k => by simp only [enumD, List.length_cons, enumD_len r]
theorem enumD_get : ∀ (xs : List D) (k i : Nat) (d : D), xs[i]? = some d → (enumD k xs)[i]? = some (.tup [.int ((k + i : Nat) : Int), d])
  | [], _, i, _, h => by simp at h
  | x :: r, k, 0, d, h => by simp at h; subst h; simp [enumD]
  | x :: r, k, i + 1, d, h => by
    simp at h
    have := enumD_get r (k + 1) i d h
    simp only [enumD, List.getElem?_cons_succ, this]
    have e : ((k + 1 + i : Nat) : Int) = ((k + (i + 1) : Nat) : Int) := by omega
    rw [e]
theorem zipD_len : ∀ (xs ys : List D), (zipD xs ys).length = min xs.length ys.length
  | [], _ => by simp [zipD]
  | _ :: _, [] => by simp [zipD]
  | x :: xs, y :: ys => by simp only [zipD, List.length_cons, zipD_len xs ys]; omega
theorem zipD_get : ∀ (xs ys : List D) (i : Nat) (d e : D), xs[i]? = some d → ys[i]? = some e → (zipD xs ys)[i]? = some (.tup [d, e])
  | [], _, i, _, _, h, _ => by simp at h
  | _ :: _, [], i, _, _, _, h => by simp at h
  | x :: xs, y :: ys, 0, d, e, h, h2 => by simp at h h2; subst h; subst h2; simp [zipD]
  | x :: xs, y :: ys, i + 1, d, e, h, h2 => by simp at h h2; simpa [zipD] using zipD_get xs ys i d e h h2
/-- a new pair -/
theorem pair_new {T : Addr} {x y : V} {d e : D} (sim : Sim G m H S) (n : H T = none) (h1 : Rep G m H d x) (h2 : Rep G m H e y) :
    Ext m H m (upd H T (.tup [x, y])) ∧ Sim G m (upd H T (.tup [x, y])) S ∧ Rep G m (upd H T (.tup [x, y])) (.tup [d, e]) (.ref T) := by
  obtain ⟨e1, s1, np⟩ := sim.lay (o := .tup [x, y]) n
  exact ⟨e1, s1, rep_newT (.cons h1 (.cons h2 .nil)) (by show 2 ≤ big; decide) e1 np⟩
theorem jw_enum {K} {a : Addr} {vs : List V} {xs : List D} (z : vs.length ≤ big) (r : RepL G m H xs vs) (q : ∀ m' H', Ext m H m' H' → SqL K H' a vs) : JW G m H { xs := enumD 0 xs } (Ite K a) where
  go := fun l i m' H' S' f e sim _ hi => by
    have q' := q m' H' e
    have hi : i < vs.length := by rw [r.length, ← enumD_len xs 0]; exact hi
    refine ⟨⟨vs, vs[i], q', by simp [hi]⟩, fun x H2 y => ?_⟩
    obtain ⟨T, v, rfl, nT, rfl, y⟩ := y
    obtain ⟨d, e1, e2⟩ := ((r.up f).ext e).back (y vs q')
    obtain ⟨a1, a2, a3⟩ := pair_new (d := .int (i : Nat)) (x := .int (i : Nat)) sim nT (by simp only [Rep]) e2
    exact ⟨a1, a2, _, by have := enumD_get xs 0 i d e1; simpa using this, a3⟩
  stop := fun l m' H' S' e sim _ => ⟨vs, q m' H' e, by show vs.length ≤ (enumD 0 xs).length; rw [enumD_len, r.length]; exact Nat.le_refl _⟩
  few := by show (enumD 0 xs).length ≤ big; rw [enumD_len, ← r.length]; exact z
theorem jw_enumT {K} {a : Addr} {vs : List V} {xs : List D} (z : vs.length ≤ big) (r : RepL G m H xs vs) (q : ∀ m' H', Ext m H m' H' → SqT K H' a vs) : JW G m H { xs := enumD 0 xs } (IteT K a) where
  go := fun l i m' H' S' f e sim _ hi => by
    have q' := q m' H' e
    have hi : i < vs.length := by rw [r.length, ← enumD_len xs 0]; exact hi
    refine ⟨⟨vs, vs[i], q', by simp [hi]⟩, fun x H2 y => ?_⟩
    obtain ⟨T, v, rfl, nT, rfl, y⟩ := y
    obtain ⟨d, e1, e2⟩ := ((r.up f).ext e).back (y vs q')
    obtain ⟨a1, a2, a3⟩ := pair_new (d := .int (i : Nat)) (x := .int (i : Nat)) sim nT (by simp only [Rep]) e2
    exact ⟨a1, a2, _, by have := enumD_get xs 0 i d e1; simpa using this, a3⟩
  stop := fun l m' H' S' e sim _ => ⟨vs, q m' H' e, by show vs.length = (enumD 0 xs).length; rw [enumD_len, r.length]⟩
  few := by show (enumD 0 xs).length ≤ big; rw [enumD_len, ← r.length]; exact z
theorem jw_zip {K} {a b : Addr} {vs ws : List V} {xs ys : List D} (z : vs.length ≤ big) (r : RepL G m H xs vs) (r2 : RepL G m H ys ws) (q : ∀ m' H', Ext m H m' H' → SqL K H' a vs ∧ SqL K H' b ws) : JW G m H { xs := zipD xs ys } (Itz K a b) where
  go := fun l i m' H' S' f e sim _ hi => by
    obtain ⟨q', q2⟩ := q m' H' e
    have hi : i < min vs.length ws.length := by rw [r.length, r2.length, ← zipD_len]; exact hi
    refine ⟨⟨vs, ws, vs[i], ws[i], q', q2, by simp [show i < vs.length by omega], by simp [show i < ws.length by omega]⟩, fun x H2 y => ?_⟩
    obtain ⟨T, v, w, rfl, nT, rfl, y, y2⟩ := y
    obtain ⟨d, e1, e2⟩ := ((r.up f).ext e).back (y vs q')
    obtain ⟨d', e1', e2'⟩ := ((r2.up f).ext e).back (y2 ws q2)
    obtain ⟨a1, a2, a3⟩ := pair_new sim nT e2 e2'
    exact ⟨a1, a2, _, zipD_get xs ys i d d' e1 e1', a3⟩
  stop := fun l m' H' S' e sim _ => by
    obtain ⟨q', q2⟩ := q m' H' e
    refine ⟨vs, ws, q', q2, ?_⟩
    show vs.length ≤ (zipD xs ys).length ∨ ws.length ≤ (zipD xs ys).length
    rw [zipD_len, r.length, r2.length]
    omega
  few := by show (zipD xs ys).length ≤ big; rw [zipD_len, ← r.length]; omega
theorem jw_zipT {K} {a b : Addr} {vs ws : List V} {xs ys : List D} (z : vs.length ≤ big) (r : RepL G m H xs vs) (r2 : RepL G m H ys ws) (q : ∀ m' H', Ext m H m' H' → SqT K H' a vs ∧ SqT K H' b ws) : JW G m H { xs := zipD xs ys } (RZ.ItzT K a b) where
  go := fun l i m' H' S' f e sim _ hi => by
    obtain ⟨q', q2⟩ := q m' H' e
    have hi : i < min vs.length ws.length := by rw [r.length, r2.length, ← zipD_len]; exact hi
    refine ⟨⟨vs, ws, vs[i], ws[i], q', q2, by simp [show i < vs.length by omega], by simp [show i < ws.length by omega]⟩, fun x H2 y => ?_⟩
    obtain ⟨T, v, w, rfl, nT, rfl, y, y2⟩ := y
    obtain ⟨d, e1, e2⟩ := ((r.up f).ext e).back (y vs q')
    obtain ⟨d', e1', e2'⟩ := ((r2.up f).ext e).back (y2 ws q2)
    obtain ⟨a1, a2, a3⟩ := pair_new sim nT e2 e2'
    exact ⟨a1, a2, _, zipD_get xs ys i d d' e1 e1', a3⟩
  stop := fun l m' H' S' e sim _ => by
    obtain ⟨q', q2⟩ := q m' H' e
    refine ⟨vs, ws, q', q2, ?_⟩
    show vs.length ≤ (zipD xs ys).length ∨ ws.length ≤ (zipD xs ys).length
    rw [zipD_len, r.length, r2.length]
    omega
  few := by show (zipD xs ys).length ≤ big; rw [zipD_len, ← r.length]; omega
/-- a value that is walked: its address, its items, for as long as it stands -/
theorem walk_lst {ds : List D} {v : V} (h : Rep G m H (.lst ds) v) : ∃ a vs, v = .ref a ∧ vs.length ≤ big ∧ RepL G m H ds vs ∧ ∀ m' H', Ext m H m' H' → SqL G.K H' a vs := by
  simp only [Rep] at h
  obtain ⟨a, xs, e, z, r, q, n⟩ := h
  exact ⟨a, xs, e, z, r, fun m' H' x => .of (x.keep a _ n.1 (by intro _ z; cases z) q).1⟩
theorem walk_scr {ds : List D} {v : V} (h : Rep G m H (.scr ds) v) : ∃ a vs, v = .ref a ∧ vs.length ≤ big ∧ RepL G m H ds vs ∧ ∀ m' H', Ext m H m' H' → SqL G.K H' a vs := by
  simp only [Rep] at h
  obtain ⟨a, xs, e, z, r, q⟩ := h
  refine ⟨a, xs, e, z, r, fun m' H' x => ?_⟩
  rcases q with ⟨q, n⟩ | q
  · exact .inl (rd_ext x q n.1).1
  · exact q H'
theorem walk_tp {ds : List D} {v : V} (h : Rep G m H (.tup ds) v) : ∃ a vs, v = .ref a ∧ vs.length ≤ big ∧ RepL G m H ds vs ∧ ∀ m' H', Ext m H m' H' → SqT G.K H' a vs := by
  simp only [Rep] at h
  obtain ⟨a, xs, e, z, r, q⟩ := h
  refine ⟨a, xs, e, z, r, fun m' H' x => ?_⟩
  rcases q with ⟨q, n⟩ | q
  · exact .inl (rd_ext x q n.1).1
  · exact q H'
end
end Ev
/-! Ev, part G: each form of expression, by its parts. -/
namespace Ev
open PySem L2
section
variable {G : GC} {W : WX} {X : Cx} {ra rb rc : Slots → Store → R D} {a b c : Expr} {pos : Pos}

/-! ### operators -/
theorem ex_bin (A : At G X) (o : BO) (ha : PE X a (tE G W ra)) (hb : PE X b (tE G W rb)) : PE X (.BinOp a (opO o) b pos) (tE G W fun τ S => (ra τ S).bind fun x S => (rb τ S).bind fun y S => binop o x y S) := by
  refine ⟨fun pins s σ H Q I ⟨m, τ, S, rel, sim, q⟩ => wpAny_BinOp (binT ha hb I (R := fun x y H2 => ∃ m S d e, Rep G m H2 d x ∧ Rep G m H2 e y ∧ Sim G m H2 S ∧ P0 G m H2 (binop o d e S) Q)
    (tR.seq rel sim q fun m1 H1 d S1 v e1 rel1 sim1 r1 p => tR.seq rel1 sim1 p fun m2 H2 d2 S2 v2 e2 rel2 sim2 r2 p2 => ⟨m2, S2, d, d2, r1.ext e2, r2, sim2, p2.any (noex_binop _ _ _)⟩) ?_)⟩
  rintro v u s2 x y H2 I2 rx ry ⟨m, S, d, e, hd, he, hs, h⟩
  exact binop_ok (W := W0) A o I2 rx ry hd he hs (h.any (noex_binop _ _ _))
theorem ex_neg (ha : PE X a (tE G W ra)) : PE X (.UnaryOp .USub a pos) (tE G W fun τ S => (ra τ S).bind neg) := by
  refine ⟨fun pins s σ H Q I ⟨m, τ, S, rel, sim, q⟩ => PyProof.Rows.UnaryOp_ (thn (ha.run pins s σ H (fun v H1 => ∃ m1 S1 d, Rep G m1 H1 d v ∧ Sim G m1 H1 S1 ∧ P0 G m1 H1 (neg d S1) Q) I (tR.seq rel sim q fun m1 H1 d S1 v e1 rel1 sim1 r1 p => ⟨m1, S1, d, r1, sim1, p.any (by cases d <;> trivial)⟩)) fun u s1 ⟨v, H1, I1, rv, m1, S1, d, r1, sim1, p⟩ => ?_)⟩
  exact neg_ok I1 rv r1 sim1 p
theorem ex_not (ha : PE X a (tE G W ra)) : PE X (.UnaryOp .Not a pos) (tE G W fun τ S => (ra τ S).bind fun x S => (okO (truth x) S).bind fun b S => .ok (.bl (!b)) S) := by
  refine (pe_notT ha).imp fun σ H Q ⟨m, τ, S, rel, sim, q⟩ => ?_
  refine tR.seq rel sim q fun m1 H1 d S1 v e1 rel1 sim1 r1 p => ?_
  cases et : truth d with
  | none => rw [et] at p; exact p.elim
  | some t =>
    rw [et] at p
    exact ⟨t, truth_ok r1 et, Post.done (d := D.bl (!t)) p sim1 (by simp only [Rep])⟩
/-- comparisons by values -/
def rCmp (G : GC) (o : CO) : R2 := fun x y H Q => ∃ m S d e, Rep G m H d x ∧ Rep G m H e y ∧ Sim G m H S ∧ P0 G m H (cmpop o d e S) Q
theorem op_cmp (A : At G X) (o : CO) : OpR X (compareOp (cO o)) (rCmp G o) := by
  rintro pins s σ H x y v u Q I rx ry ⟨m, S, d, e, hd, he, hs, h⟩
  exact cmpop_ok A o I rx ry hd he hs h
theorem cmp_bl (o : CO) (x y : D) (S : Store) : ∀ {z : D} {S' : Store}, cmpop o x y S = .ok z S' → ∃ b, z = .bl b := by
  intro z S' h
  have i : ∀ {c : Bool} {b : Bool}, okIf c (D.bl b) S = .ok z S' → ∃ b, z = .bl b := by
    intro c b h
    cases c with
    | false => cases h
    | true => cases h; exact ⟨b, rfl⟩
  cases o <;> simp only [cmpop] at h
  all_goals first
    | exact i h
    | (split at h <;> first | exact i h | (cases h; done) | (cases h; exact ⟨_, rfl⟩) | (split at h <;> first | exact i h | (cases h; done) | (cases h; exact ⟨_, rfl⟩) | (split at h <;> first | (cases h; exact ⟨_, rfl⟩) | (cases h; done))))
theorem cmp_test {o : CO} {x y : D} {S : Store} {m : List Addr} {σ : St} {H : Hp} {Q : Bool → Hp → Prop} (h : Post G W (fun _ _ d v => v = d) m σ H ((cmpop o x y S).bind fun z S => okO (truth z) S) Q) :
    P0 G m H (cmpop o x y S) (fun v H' => ∃ k, v = .bl k ∧ Q k H') := by
  have n := noex_cmpop (S := S) o x y
  cases e : cmpop o x y S with
  | bad => rw [e] at h; exact h
  | ex c pl S' => rw [e] at n; exact n.elim
  | ok z S' =>
    obtain ⟨b, rfl⟩ := cmp_bl o x y S e
    rw [e] at h
    intro m' H' v ex sim r
    simp only [Rep] at r
    exact ⟨b, r, h m' H' b ex sim rfl⟩
theorem ex_cmp (A : At G X) (o : CO) (pb : plainE b = true) (ha : PE X a (tE G W ra)) (hb : PE X b (tE G W rb)) : PE X (.Compare a [cO o] [b] pos) (tE G W fun τ S => (ra τ S).bind fun x S => (rb τ S).bind fun y S => cmpop o x y S) :=
  (pe_cmpR (op_cmp A o) ha hb (plain_marks pb)).imp fun σ H Q ⟨m, τ, S, rel, sim, q⟩ =>
    tR.seq rel sim q fun m1 H1 d S1 v e1 rel1 sim1 r1 p => tR.seq rel1 sim1 p fun m2 H2 d2 S2 v2 e2 rel2 sim2 r2 p2 => ⟨m2, S2, d, d2, r1.ext e2, r2, sim2, p2.any (noex_cmpop _ _ _)⟩
theorem bind_assoc {α β γ : Type} (r : R α) (f : α → Store → R β) (g : β → Store → R γ) : (r.bind f).bind g = r.bind fun x S => (f x S).bind g := by
  cases r <;> rfl
theorem tx_cmp (A : At G X) (o : CO) (pb : plainE b = true) (ha : PE X a (tE G W ra)) (hb : PE X b (tE G W rb)) : PT X (.Compare a [cO o] [b] pos) (tB G W (tst fun τ S => (ra τ S).bind fun x S => (rb τ S).bind fun y S => cmpop o x y S)) := by
  refine (pt_cmpR (op_cmp A o) ha hb (plain_marks pb)).imp fun σ H Q ⟨m, τ, S, rel, sim, q⟩ => ?_
  simp only [tst, bind_assoc] at q
  exact tR.seq rel sim q fun m1 H1 d S1 v e1 rel1 sim1 r1 p => tR.seq rel1 sim1 p fun m2 H2 d2 S2 v2 e2 rel2 sim2 r2 p2 => ⟨m2, S2, d, d2, r1.ext e2, r2, sim2, cmp_test p2⟩
/-- a op b op' c -/
def chR (o1 o2 : CO) (ra rb rc : Slots → Store → R D) : Slots → Store → R D := fun τ S => (ra τ S).bind fun x S => (rb τ S).bind fun y S => (cmpop o1 x y S).bind fun z S => match z with
  | .bl true => (rc τ S).bind fun w S => cmpop o2 y w S
  | .bl false => .ok (.bl false) S
  | _ => .bad
theorem ex_chain (A : At G X) (o1 o2 : CO) (pc : plainE c = true) (ha : PE X a (tE G W ra)) (hb : PE X b (tE G W rb)) (hc : PE X c (tE G W rc)) : PE X (.Compare a [cO o1, cO o2] [b, c] pos) (tE G W (chR o1 o2 ra rb rc)) := by
  refine (pe_chain (op_cmp A o1) (op_cmp A o2) ha hb hc (plain_marks2 pc)).imp fun σ H Q ⟨m, τ, S, rel, sim, q⟩ => ?_
  refine tR.seq rel sim q fun m1 H1 d S1 v e1 rel1 sim1 r1 p => tR.seq rel1 sim1 p fun m2 H2 d2 S2 v2 e2 rel2 sim2 r2 p2 => ⟨m2, S2, d, d2, r1.ext e2, r2, sim2, ?_⟩
  have n := noex_cmpop (S := S2) o1 d d2
  cases e : cmpop o1 d d2 S2 with
  | bad => rw [e] at p2; exact p2
  | ex c pl S' => rw [e] at n; exact n.elim
  | ok z S3 =>
    obtain ⟨k, rfl⟩ := cmp_bl o1 d d2 S2 e
    intro m3 H3 v3 e3 sim3 r3
    simp only [Rep] at r3
    refine ⟨k, r3, ?_⟩
    rw [e] at p2
    cases k with
    | false =>
      rw [if_neg Bool.false_ne_true]
      have p2 : PostE G W m2 σ H2 (.ok (.bl false) S3) Q := p2
      exact p2 m3 H3 _ e3 sim3 (by simp only [Rep])
    | true =>
      rw [if_pos rfl]
      have p2 : PostE G W m2 σ H2 ((rc τ S3).bind fun w S => cmpop o2 d2 w S) Q := p2
      have p3 : PostE G W m3 σ H3 ((rc τ S3).bind fun w S => cmpop o2 d2 w S) Q := by
        revert p2
        generalize ((rc τ S3).bind fun w S => cmpop o2 d2 w S) = z
        cases z with
        | bad => exact id
        | ex c pl S => exact fun h' m2 H2 cls dd e2 s2 x => h' m2 H2 cls dd (e3.trans e2) s2 x
        | ok d2 S2 => exact fun h' m2 H2 v2 e2 s2 x => h' m2 H2 v2 (e3.trans e2) s2 x
      exact tR.seq (rel2.ext e3) sim3 p3 fun m4 H4 d4 S4 v4 e4 rel4 sim4 r4 p4 => ⟨m4, S4, d2, d4, (r2.ext e3).ext e4, r4, sim4, p4.any (noex_cmpop _ _ _)⟩
theorem tx_chain (A : At G X) (o1 o2 : CO) (pc : plainE c = true) (ha : PE X a (tE G W ra)) (hb : PE X b (tE G W rb)) (hc : PE X c (tE G W rc)) : PT X (.Compare a [cO o1, cO o2] [b, c] pos) (tB G W (tst (chR o1 o2 ra rb rc))) := by
  refine (pt_chain (op_cmp A o1) (op_cmp A o2) ha hb hc (plain_marks2 pc)).imp fun σ H Q ⟨m, τ, S, rel, sim, q⟩ => ?_
  simp only [tst, chR, bind_assoc] at q
  refine tR.seq rel sim q fun m1 H1 d S1 v e1 rel1 sim1 r1 p => tR.seq rel1 sim1 p fun m2 H2 d2 S2 v2 e2 rel2 sim2 r2 p2 => ⟨m2, S2, d, d2, r1.ext e2, r2, sim2, ?_⟩
  have n := noex_cmpop (S := S2) o1 d d2
  cases e : cmpop o1 d d2 S2 with
  | bad => rw [e] at p2; exact p2
  | ex c pl S' => rw [e] at n; exact n.elim
  | ok z S3 =>
    obtain ⟨k, rfl⟩ := cmp_bl o1 d d2 S2 e
    intro m3 H3 v3 e3 sim3 r3
    simp only [Rep] at r3
    refine ⟨k, r3, ?_⟩
    rw [e] at p2
    cases k with
    | false =>
      rw [if_neg Bool.false_ne_true]
      have p2 : Post G W (fun _ _ d v => v = d) m2 σ H2 (.ok false S3) Q := p2
      exact ⟨false, rfl, p2 m3 H3 _ e3 sim3 rfl⟩
    | true =>
      rw [if_pos rfl]
      have p2 : Post G W (fun _ _ d v => v = d) m2 σ H2 (((rc τ S3).bind fun w S => cmpop o2 d2 w S).bind fun z S => okO (truth z) S) Q := p2
      rw [bind_assoc] at p2
      have p3 : Post G W (fun _ _ d v => v = d) m3 σ H3 ((rc τ S3).bind fun w S => (cmpop o2 d2 w S).bind fun z S => okO (truth z) S) Q := by
        revert p2
        generalize ((rc τ S3).bind fun w S => (cmpop o2 d2 w S).bind fun z S => okO (truth z) S) = z
        cases z with
        | bad => exact id
        | ex c pl S => exact fun h' m2 H2 cls dd e2 s2 x => h' m2 H2 cls dd (e3.trans e2) s2 x
        | ok d2 S2 => exact fun h' m2 H2 v2 e2 s2 x => h' m2 H2 v2 (e3.trans e2) s2 x
      exact tR.seq (rel2.ext e3) sim3 p3 fun m4 H4 d4 S4 v4 e4 rel4 sim4 r4 p4 => ⟨m4, S4, d2, d4, (r2.ext e3).ext e4, r4, sim4, cmp_test p4⟩
end
end Ev
/-! Ev, part G2: and, or, if-else, rows, subscripts, calls. -/
namespace Ev
open PySem L2
section
variable {G : GC} {m : List Addr} {H : Hp} {S : Store} {α β γ δ : Type} {W : WX} {R1 : List Addr → Hp → α → β → Prop} {R2 : List Addr → Hp → γ → δ → Prop} {σ : St}
theorem Post.notBad {r : R α} {Q : β → Hp → Prop} (h : Post G W R1 m σ H r Q) : r ≠ .bad := fun e => by rw [e] at h; exact h
/-- the test of an evaluation, as the rest of it needs it -/
theorem Post.tst {r : R D} {F : D → Store → R γ} {Q : δ → Hp → Prop} {Q' : Bool → Hp → Prop} (h : Post G W R2 m σ H (r.bind F) Q) (k0 : ∀ d S', F d S' ≠ .bad → truth d ≠ none)
    (k : ∀ m' H' d S' b, Ext m H m' H' → Sim G m' H' S' → truth d = some b → Post G W R2 m' σ H' (F d S') Q → Q' b H') : Post G W (fun _ _ d v => v = d) m σ H (r.bind fun x S => okO (truth x) S) Q' := by
  cases r with
  | bad => exact h
  | ex c pl S => exact h
  | ok d S =>
    have h' : Post G W R2 m σ H (F d S) Q := h
    have e0 := k0 d S h'.notBad
    show Post G W _ m σ H (okO (truth d) S) Q'
    cases et : truth d with
    | none => exact absurd et e0
    | some b =>
      intro m' H' v e s q
      subst q
      refine k m' H' d S v e s et ?_
      revert h'
      generalize F d S = z
      cases z with
      | bad => exact id
      | ex c pl S => exact fun h' m2 H2 cls dd e2 s2 x => h' m2 H2 cls dd (e.trans e2) s2 x
      | ok d2 S2 => exact fun h' m2 H2 v2 e2 s2 x => h' m2 H2 v2 (e.trans e2) s2 x
end
section
variable {G : GC} {W : WX} {X : Cx} {ra rb rc : Slots → Store → R D} {a b c : Expr} {pos : Pos} {rest : List Expr}
/-! ### and, or, if-else -/
def and2 (ra rb : Slots → Store → R D) : Slots → Store → R D := fun τ S => (ra τ S).bind fun x S => match x with
  | .bl true => rb τ S
  | .bl false => .ok (.bl false) S
  | _ => .bad
def or2 (ra rb : Slots → Store → R D) : Slots → Store → R D := fun τ S => (ra τ S).bind fun x S => match x with
  | .bl true => .ok (.bl true) S
  | .bl false => rb τ S
  | _ => .bad
def ite2 (rc ra rb : Slots → Store → R D) : Slots → Store → R D := fun τ S => (rc τ S).bind fun x S => match truth x with
  | some true => ra τ S
  | some false => rb τ S
  | none => .bad
theorem ex_and (ha : PE X a (tE G W ra)) (hb : PE X (.BoolOp .And (b :: rest) pos) (tE G W rb)) : PE X (.BoolOp .And (a :: b :: rest) pos) (tE G W (and2 ra rb)) := by
  refine (pe_and ha hb).imp fun σ H Q ⟨m, τ, S, rel, sim, q⟩ => tR.seq rel sim q fun m1 H1 d S1 v e1 rel1 sim1 r1 p => ?_
  cases d with
  | bl k =>
    simp only [Rep] at r1
    refine ⟨k, r1, ?_⟩
    cases k with
    | false => rw [if_neg Bool.false_ne_true]; exact Post.done (R1 := Rep G) (d := .bl false) p sim1 (by simp only [Rep])
    | true => rw [if_pos rfl]; exact ⟨m1, τ, S1, rel1, sim1, p⟩
  | _ => exact p.elim
theorem ex_or (ha : PE X a (tE G W ra)) (hb : PE X (.BoolOp .Or (b :: rest) pos) (tE G W rb)) : PE X (.BoolOp .Or (a :: b :: rest) pos) (tE G W (or2 ra rb)) := by
  refine (pe_or ha hb).imp fun σ H Q ⟨m, τ, S, rel, sim, q⟩ => tR.seq rel sim q fun m1 H1 d S1 v e1 rel1 sim1 r1 p => ?_
  cases d with
  | bl k =>
    simp only [Rep] at r1
    refine ⟨k, r1, ?_⟩
    cases k with
    | true => rw [if_pos rfl]; exact Post.done (R1 := Rep G) (d := .bl true) p sim1 (by simp only [Rep])
    | false => rw [if_neg Bool.false_ne_true]; exact ⟨m1, τ, S1, rel1, sim1, p⟩
  | _ => exact p.elim
theorem tx_and (ha : PT X a (tB G W (tst ra))) (hb : PW X (.BoolOp .And (b :: rest) pos) (tB G W (tst rb))) : PW X (.BoolOp .And (a :: b :: rest) pos) (tB G W (tst (and2 ra rb))) := by
  refine (pw_and ha hb).imp fun σ H Q ⟨m, τ, S, rel, sim, q⟩ => ?_
  simp only [tst, and2, bind_assoc] at q
  refine ⟨m, τ, S, rel, sim, q.tst (fun d S' nb => ?_) fun m1 H1 d S1 k e1 sim1 et p => ?_⟩
  · cases d <;> first | (exact absurd rfl nb) | (simp [truth])
  · cases d with
    | bl k' =>
      simp only [truth, Option.some.injEq] at et; subst et
      cases k' with
      | false => rw [if_neg Bool.false_ne_true]; exact Post.done (R1 := fun _ _ (d v : Bool) => v = d) (d := false) p sim1 rfl
      | true => rw [if_pos rfl]; exact ⟨m1, τ, S1, rel.ext e1, sim1, p⟩
    | _ => exact p.elim
theorem tx_or (ha : PT X a (tB G W (tst ra))) (hb : PW X (.BoolOp .Or (b :: rest) pos) (tB G W (tst rb))) : PW X (.BoolOp .Or (a :: b :: rest) pos) (tB G W (tst (or2 ra rb))) := by
  refine (pw_or ha hb).imp fun σ H Q ⟨m, τ, S, rel, sim, q⟩ => ?_
  simp only [tst, or2, bind_assoc] at q
  refine ⟨m, τ, S, rel, sim, q.tst (fun d S' nb => ?_) fun m1 H1 d S1 k e1 sim1 et p => ?_⟩
  · cases d <;> first | (exact absurd rfl nb) | (simp [truth])
  · cases d with
    | bl k' =>
      simp only [truth, Option.some.injEq] at et; subst et
      cases k' with
      | true => rw [if_pos rfl]; exact Post.done (R1 := fun _ _ (d v : Bool) => v = d) (d := true) p sim1 rfl
      | false => rw [if_neg Bool.false_ne_true]; exact ⟨m1, τ, S1, rel.ext e1, sim1, p⟩
    | _ => exact p.elim
theorem ex_ite (hc : PT X c (tB G W (tst rc))) (ha : PE X a (tE G W ra)) (hb : PE X b (tE G W rb)) : PE X (.IfExp c a b pos) (tE G W (ite2 rc ra rb)) := by
  refine (pe_ifExp hc ha hb).imp fun σ H Q ⟨m, τ, S, rel, sim, q⟩ => ?_
  refine ⟨m, τ, S, rel, sim, Post.tst (R2 := Rep G) q (fun d S' nb et => ?_) fun m1 H1 d S1 k e1 sim1 et p => ?_⟩
  · rw [et] at nb; exact nb rfl
  · rw [et] at p
    cases k with
    | false => rw [if_neg Bool.false_ne_true]; exact ⟨m1, τ, S1, rel.ext e1, sim1, p⟩
    | true => rw [if_pos rfl]; exact ⟨m1, τ, S1, rel.ext e1, sim1, p⟩
theorem tx_not (ha : PT X a (tB G W (tst ra))) : PT X (.UnaryOp .Not a pos) (tB G W (tst fun τ S => (ra τ S).bind fun x S => (okO (truth x) S).bind fun b S => .ok (.bl (!b)) S)) := by
  refine (pt_not ha).imp fun σ H Q ⟨m, τ, S, rel, sim, q⟩ => ?_
  simp only [tst, bind_assoc] at q
  refine ⟨m, τ, S, rel, sim, q.tst (fun d S' nb et => ?_) fun m1 H1 d S1 k e1 sim1 et p => ?_⟩
  · rw [et] at nb; exact nb rfl
  · rw [et] at p
    exact Post.done (R1 := fun _ _ (d v : Bool) => v = d) (d := !k) p sim1 rfl

/-! ### rows -/
variable {es : List Expr} {rs : Slots → Store → R (List D)} {e : Expr}
theorem as_nil : PA X [] (tAs G W fun _ S => .ok [] S) := pa_nil.imp fun σ H Q ⟨m, τ, S, rel, sim, q⟩ => Post.done (R1 := RepL G) (d := []) q sim .nil
theorem as_cons (pl : plainE e = true) (ha : PE X e (tE G W ra)) (hr : PA X es (tAs G W rs)) : PA X (e :: es) (tAs G W fun τ S => (ra τ S).bind fun x S => (rs τ S).bind fun xs S => .ok (x :: xs) S) :=
  (pa_cons ha hr (star_cons pl)).imp fun σ H Q ⟨m, τ, S, rel, sim, q⟩ => tR.seq rel sim q fun m1 H1 d S1 v e1 rel1 sim1 r1 p => tR.seq rel1 sim1 p fun m2 H2 ds S2 vs e2 rel2 sim2 r2 p2 =>
    Post.done (R1 := RepL G) (d := d :: ds) p2 sim2 (.cons (r1.ext e2) r2)
theorem ex_tup {x1} (h : PA X es (tAs G W rs)) : PE X (.Tuple es x1 pos) (tE G W fun τ S => (rs τ S).bind fun xs S => okIf (decide (xs.length ≤ big)) (.tup xs) S) := by
  refine (pe_tup h).imp fun σ H Q ⟨m, τ, S, rel, sim, q⟩ => tR.seq rel sim q fun m1 H1 d S1 v e1 rel1 sim1 r1 p => ?_
  obtain ⟨z, p⟩ := Post.if_ p
  have z : v.length ≤ big := by rw [r1.length]; exact of_decide_eq_true z
  exact ⟨by rw [← big_eq]; exact z, fun a na => Post.new (R1 := Rep G) (d := .tup d) p sim1 na fun e n => rep_newT r1 z e n⟩
theorem ex_lst {mu : Bool} (h : PA X es (tAs G W rs)) : PE X (.List es pos) (tE G W fun τ S => (rs τ S).bind fun xs S => if xs.length ≤ big then mkL mu xs S else .bad) := by
  refine (pe_lst h).imp fun σ H Q ⟨m, τ, S, rel, sim, q⟩ => tR.seq rel sim q fun m1 H1 d S1 v e1 rel1 sim1 r1 p => ?_
  by_cases z : d.length ≤ big
  · rw [if_pos z] at p
    have z : v.length ≤ big := by rw [r1.length]; exact z
    exact ⟨by rw [← big_eq]; exact z, fun a na => post_mkL p sim1 na r1 z⟩
  · rw [if_neg z] at p; exact p.elim
theorem ex_idx (A : At G X) (pi : plainI b = true) (ha : PE X a (tE G W ra)) (hb : PE X b (tE G W rb)) : PE X (.Subscript a b pos) (tE G W fun τ S => (ra τ S).bind fun x S => (rb τ S).bind fun y S => getIx x y S) := by
  refine ⟨fun pins s σ H Q I ⟨m, τ, S, rel, sim, q⟩ => PyProof.Rows.Subscript_ (binT ha hb I (R := fun x y H2 => ∃ m S d e, Rep G m H2 d x ∧ Rep G m H2 e y ∧ Sim G m H2 S ∧ P0 G m H2 (getIx d e S) Q)
    (tR.seq rel sim q fun m1 H1 d S1 v e1 rel1 sim1 r1 p => tR.seq rel1 sim1 p fun m2 H2 d2 S2 v2 e2 rel2 sim2 r2 p2 => ⟨m2, S2, d, d2, r1.ext e2, r2, sim2, p2.any (noex_getIx _ _)⟩) ?_)⟩
  rintro v u s2 x y H2 I2 rx ry ⟨m, S, d, e, hd, he, hs, h⟩
  exact getIx_ok A (plain_ix pi _ _) I2 rx ry hd he hs h

/-! ### slices -/
variable {lo hi : Option Expr} {rl rh : Slots → Store → R (Option Int)} {p2 : Pos}
abbrev tOI (G : GC) (W : WX) (r : Slots → Store → R (Option Int)) : TO := tR G W (fun _ _ d v => v = d) r
theorem po_no : PO X none (tOI G W fun _ S => .ok none S) := po_none.imp fun σ H Q ⟨m, τ, S, rel, sim, q⟩ => Post.done (R1 := fun _ _ (d v : Option Int) => v = d) (d := none) q sim rfl
theorem po_yes (ha : PE X a (tE G W ra)) : PO X (some a) (tOI G W fun τ S => (ra τ S).bind fun x S => match x with
    | .int i => .ok (some i) S
    | _ => .bad) := by
  refine (po_some ha).imp fun σ H Q ⟨m, τ, S, rel, sim, q⟩ => tR.seq rel sim q fun m1 H1 d S1 v e1 rel1 sim1 r1 p => ?_
  cases d <;> first | exact p.elim | skip
  simp only [Rep] at r1
  exact ⟨_, r1, Post.done (R1 := fun _ _ (d v : Option Int) => v = d) (d := some _) p sim1 rfl⟩
theorem ex_sl (A : At G X) (ha : PE X a (tE G W ra)) (hl : PO X lo (tOI G W rl)) (hh : PO X hi (tOI G W rh)) : PE X (.Subscript a (.Slice lo hi none p2) pos) (tE G W fun τ S => (ra τ S).bind fun x S => (rl τ S).bind fun l S => (rh τ S).bind fun h S => getSl x l h S) := by
  refine (pe_slice (sl_ok A) ha hl hh).imp fun σ H Q ⟨m, τ, S, rel, sim, q⟩ => ?_
  exact tR.seq rel sim q fun m1 H1 d S1 v e1 rel1 sim1 r1 p => tR.seq rel1 sim1 p fun m2 H2 l S2 v2 e2 rel2 sim2 r2 p2 => tR.seq rel2 sim2 p2 fun m3 H3 h S3 v3 e3 rel3 sim3 r3 p3 => by
    subst r2; subst r3
    exact ⟨m3, S3, d, (r1.ext e2).ext e3, sim3, p3.any (noex_getSl _ _ _)⟩
end
end Ev
/-! Ev, part G3: names, calls. -/
namespace Ev
open PySem L2
section
variable {G : GC} {cl : Nat → List D → Store → R D} {N : List Str} {sc : Scope} {W : WX} {X : Cx} {ra rb rc : Slots → Store → R D} {a b c : Expr} {pos : Pos} {es : List Expr} {rs : Slots → Store → R (List D)} {e : Expr}
theorem glb_gl (O : XOk G cl N sc W X) {x : Str} (h : glb sc x = true) : Gl X x ∧ (x == ("__debug__" : Str)) = false ∧ x ≠ "__name__" := by
  simp only [glb, Bool.and_eq_true, decide_eq_true_eq, bne_iff_ne, ne_eq] at h
  refine ⟨?_, by simpa using h.1.2, h.2⟩
  show X.env.scope.names.lookup x = _
  rw [O.eS]; exact h.1.1
theorem blt_none (O : XOk G cl N sc W X) {x : Str} (h : G.T.blts.contains x = true) : X.mg x = none := by
  rw [O.mg]; exact O.tab.blt x (by simpa using h)
/-! ### constants and names -/
theorem ex_c {e : Expr} {v : V} {d : D} (h : PE X e (tC v)) (r : ∀ m H, Rep G m H d v) : PE X e (tE G W fun _ S => .ok d S) :=
  h.imp fun σ H Q ⟨m, τ, S, rel, sim, q⟩ => Post.done (R1 := Rep G) (d := d) q sim (r m H)
theorem ex_var (O : XOk G cl N sc W X) {i : Nat} {x : Str} (hN : N[i]? = some x) (hv : vis sc x = true) : PE X (.Name x pos) (tE G W fun τ S => okO (τ[i]?).join S) := by
  simp only [vis, Bool.and_eq_true, bne_iff_ne, ne_eq] at hv
  have v1 : Vis X.env.scope x := by
    rw [O.eS]
    have h := hv.1.1
    unfold Vis
    split at h
    · exact .inl (by assumption)
    · exact .inr (.inl (by assumption))
    · exact .inr (.inr (by assumption))
    · cases h
  refine (pe_var (i := i) (by rw [O.eN]; exact hN) v1 (by simpa using hv.1.2) (by simpa using hv.2)).imp fun σ H Q ⟨m, τ, S, rel, sim, q⟩ => ?_
  obtain ⟨d, ed, q⟩ := Post.o_ q
  have e2 : τ[i]? = some (some d) := by
    cases h : τ[i]? with
    | none => rw [h] at ed; cases ed
    | some o => rw [h] at ed; simp at ed; rw [ed]
  obtain ⟨v, h1, h2⟩ := rel.at_ i d e2
  exact ⟨v, h1, q.done sim h2⟩
theorem ex_con (O : XOk G cl N sc W X) {x : Str} {d : D} (hg : glb sc x = true) (ht : G.T.cons.lookup x = some d) : PE X (.Name x pos) (tE G W fun _ S => .ok d S) := by
  obtain ⟨g1, g2, g3⟩ := glb_gl O hg
  obtain ⟨u, v, h1, h2, h3⟩ := O.tab.con x d ht
  exact ex_c (pe_glob g1 (by rw [O.mg]; exact h1) h2 g2) h3
theorem fnN_of {T : Tab} {f : Nat} {y : Str} (h : fnN T f y = true) : ∃ d, T.fns[f]? = some (y, d) := by
  unfold fnN at h
  split at h
  · next x d e => rw [beq_iff_eq] at h; subst h; exact ⟨d, e⟩
  · cases h
theorem ex_fnv (O : XOk G cl N sc W X) {x : Str} {f : Nat} (hg : glb sc x = true) (ht : fnN G.T f x = true) : PE X (.Name x pos) (tE G W fun _ S => .ok (.fn f) S) := by
  obtain ⟨g1, g2, g3⟩ := glb_gl O hg
  obtain ⟨d, e⟩ := fnN_of ht
  obtain ⟨l, h1, h2⟩ := O.tab.fns f x d e
  exact ex_c (pe_glob (v := .ref l) g1 (by rw [O.mg]; exact h1) rfl g2) fun m H => by simp only [Rep]; exact ⟨l, x, d, rfl, e, h1⟩

/-! ### calls of defs -/
theorem ex_call0 (O : XOk G cl N sc W X) {x : Str} {f : Nat} {p : Pos} (hg : glb sc x = true) (ht : fnN G.T f x = true) : PE X (.Call (.Name x p) [] [] pos) (tE G W fun _ S => cl f [] S) := by
  obtain ⟨g1, g2, g3⟩ := glb_gl O hg
  obtain ⟨d, e⟩ := fnN_of ht
  obtain ⟨l, h1, h2⟩ := O.tab.fns f x d e
  refine ⟨fun pins s σ H Q I ⟨m, τ, S, rel, sim, q⟩ => wpAny_Call_Name_kw (ld_glob I g1 (by rw [O.mg]; exact h1) ?_ g2)⟩
  exact PySem.W.callWith_K0 I.kIn (by rw [O.K]; exact h2) (run_cl O e h1 (us := []) I .nil .nil sim q)
theorem ex_call1 (O : XOk G cl N sc W X) {x : Str} {f : Nat} {p : Pos} (hg : glb sc x = true) (ht : fnN G.T f x = true) (ha : PA X (e :: es) (tAs G W rs)) (pe : plainE e = true) (pl : es.all plainE = true) :
    PE X (.Call (.Name x p) (e :: es) [] pos) (tE G W fun τ S => (rs τ S).bind fun xs S => cl f xs S) := by
  obtain ⟨g1, g2, g3⟩ := glb_gl O hg
  obtain ⟨d, ed⟩ := fnN_of ht
  obtain ⟨l, h1, h2⟩ := O.tab.fns f x d ed
  refine ⟨fun pins s σ H Q I ⟨m, τ, S, rel, sim, q⟩ => wpAny_Call_Name_kw (ld_glob I g1 (by rw [O.mg]; exact h1) ?_ g2)⟩
  refine PySem.W.callWith_K (h₀ := X.base) I.ok.mod.kin (by rw [O.K]; exact h2) (thn (ha.run pos pins s σ H (fun vs H1 => ∃ m1 as S1, RepL G m1 H1 as vs ∧ Sim G m1 H1 S1 ∧ PostE G W m1 σ H1 (cl f as S1) Q) I
    (tR.seq rel sim q fun m1 H1 d S1 v e1 rel1 sim1 r1 p => ⟨m1, d, S1, r1, sim1, p⟩)) fun us s1 ⟨vs, H1, I1, r, m1, as, S1, ra, sim1, q⟩ => ⟨I1.kIn, ?_⟩) (star_cons pe) (star_none pl)
  exact run_cl O ed h1 I1 r ra sim1 q

/-! ### calls of built-in functions -/
theorem ex_bi (O : XOk G cl N sc W X) (bi : BI) {p : Pos} (hg : glb sc (biN bi) = true) (hb : G.T.blts.contains (biN bi) = true) (ha : PA X (e :: es) (tAs G W rs)) (pe : plainE e = true) (pl : es.all plainE = true) :
    PE X (.Call (.Name (biN bi) p) (e :: es) [] pos) (tE G W fun τ S => (rs τ S).bind fun xs S => callB bi xs S) := by
  obtain ⟨g1, g2, g3⟩ := glb_gl O hg
  have hm := blt_none O hb
  have ok := callB_ok O.toAt bi
  have go : ∀ σ H Q, tE G W (fun τ S => (rs τ S).bind fun xs S => callB bi xs S) σ H Q → tCB (fun vs H Q => ∃ m S as, RepL G m H as vs ∧ Sim G m H S ∧ P0 G m H (callB bi as S) Q) (tAs G W rs) σ H Q :=
    fun σ H Q ⟨m, τ, S, rel, sim, q⟩ => tR.seq rel sim q fun m1 H1 d S1 v e1 rel1 sim1 r1 p => ⟨m1, S1, d, r1, sim1, p.any (noex_callB _ _)⟩
  cases bi
  case len => exact (pe_callB ok g1 hm PySem.boot_len ha g3 g2 (star_cons pe) (star_none pl)).imp go
  case int => exact (pe_callTy ok g1 hm PyProof.Rows.boot_int ha g3 g2 (star_cons pe) (star_none pl)).imp go
  case abs => exact (pe_callB ok g1 hm PyProof.Rows.boot_abs ha g3 g2 (star_cons pe) (star_none pl)).imp go
  case bool => exact (pe_callTy ok g1 hm PyProof.Rows.boot_bool ha g3 g2 (star_cons pe) (star_none pl)).imp go
  case str => exact (pe_callTy ok g1 hm PyProof.Rows.boot_str ha g3 g2 (star_cons pe) (star_none pl)).imp go
  case tuple => exact (pe_callTy ok g1 hm PyProof.Rows.boot_tuple ha g3 g2 (star_cons pe) (star_none pl)).imp go
  case list => exact (pe_callTy ok g1 hm PyProof.Rows.boot_list ha g3 g2 (star_cons pe) (star_none pl)).imp go
  case all => exact (pe_callB ok g1 hm PyProof.Rows.boot_all ha g3 g2 (star_cons pe) (star_none pl)).imp go
  case sum => exact (pe_callB ok g1 hm PyProof.Rows.boot_sum ha g3 g2 (star_cons pe) (star_none pl)).imp go
  case max1 => exact (pe_callB ok g1 hm PyProof.Rows.boot_max ha g3 g2 (star_cons pe) (star_none pl)).imp go
  case min1 => exact (pe_callB ok g1 hm PyProof.Rows.boot_min ha g3 g2 (star_cons pe) (star_none pl)).imp go
  case max2 => exact (pe_callB ok g1 hm PyProof.Rows.boot_max ha g3 g2 (star_cons pe) (star_none pl)).imp go
  case min2 => exact (pe_callB ok g1 hm PyProof.Rows.boot_min ha g3 g2 (star_cons pe) (star_none pl)).imp go
  case sorted => exact (pe_callB ok g1 hm PyProof.Rows.boot_sorted ha g3 g2 (star_cons pe) (star_none pl)).imp go
  case divmod => exact (pe_callB ok g1 hm PyProof.Rows.boot_divmod ha g3 g2 (star_cons pe) (star_none pl)).imp go
/-! ### isinstance -/
theorem boot_ty (t : Ty) (n : String) (h : tyS t = some n) : bootBuiltins (tyN t) = some (.type n) ∧ tyV' t = some (.type n) := by
  cases t <;> simp only [tyS, Option.some.injEq] at h <;> first | (cases h; done) | subst h
  · exact ⟨PyProof.Rows.boot_int, rfl⟩
  · exact ⟨PyProof.Rows.boot_bool, rfl⟩
  · exact ⟨PyProof.Rows.boot_str, rfl⟩
  · exact ⟨PyProof.Rows.boot_tuple, rfl⟩
  · exact ⟨PyProof.Rows.boot_list, rfl⟩
theorem ex_isi (O : XOk G cl N sc W X) (t : Ty) {n : String} (ht : tyS t = some n) {p p2 : Pos} (hg : glb sc "isinstance" = true) (hb : G.T.blts.contains ("isinstance" : Str) = true) (hg2 : glb sc (tyN t) = true) (hb2 : G.T.blts.contains (tyN t) = true)
    (ha : PE X a (tE G W ra)) (pa : plainE a = true) : PE X (.Call (.Name "isinstance" p) [a, .Name (tyN t) p2] [] pos) (tE G W fun τ S => (ra τ S).bind fun x S => (okO (isTy t x S) S).bind fun b S => .ok (.bl b) S) := by
  obtain ⟨g1, g2, g3⟩ := glb_gl O hg
  obtain ⟨f1, f2, f3⟩ := glb_gl O hg2
  obtain ⟨bt, tv⟩ := boot_ty t n ht
  have hz : PE X (.Name (tyN t) p2) (tC (.ty n)) := pe_bltn f1 (blt_none O hb2) bt rfl f3 f2
  refine (pe_callB call_isi g1 (blt_none O hb) PyProof.Rows.boot_isinstance (pa_cons ha (pa_cons hz pa_nil (star_cons rfl)) (star_cons pa)) g3 g2 (star_cons pa) (star_none rfl)).imp fun σ H Q ⟨m, τ, S, rel, sim, q⟩ => ?_
  refine tR.seq rel sim q fun m1 H1 d S1 v e1 rel1 sim1 r1 p => ?_
  cases et : isTy t d S1 with
  | none => rw [et] at p; exact p.elim
  | some k =>
    rw [et] at p
    obtain ⟨w, h1, h2⟩ := kit_tab G.K t _ tv d S1 k et
    refine ⟨v, .ty n, w, .type n, k, rfl, .ty n, ?_, ?_, Post.done (R1 := Rep G) (d := .bl k) p sim1 (by simp only [Rep])⟩
    · rw [O.K]; exact tyX_of sim1 r1 h1
    · rw [O.K]; exact h2
end
end Ev
/-! Ev, part G4: lengths of sets, methods, what is walked. -/
namespace Ev
open PySem L2
section
variable {G : GC} {cl : Nat → List D → Store → R D} {N : List Str} {sc : Scope} {W : WX} {X : Cx} {ra rb rc : Slots → Store → R D} {a b c : Expr} {pos : Pos} {es : List Expr} {rs : Slots → Store → R (List D)} {e : Expr}
theorem same_len {l l' : List Int} (h1 : l.Nodup) (h2 : l'.Nodup) (h : ∀ x, x ∈ l ↔ x ∈ l') : l.length = l'.length := ((List.perm_ext_iff_of_nodup h1 h2).mpr h).length_eq
theorem unl_len : ∀ (ns acc : List Int), (ns.foldl unl acc).length ≤ acc.length + ns.length
  | [], acc => by simp
  | n :: r, acc => by
    have h := unl_len r (unl acc n)
    have h2 : (unl acc n).length ≤ acc.length + 1 := by
      unfold unl
      split
      · omega
      · simp
    simp only [List.foldl_cons, List.length_cons]
    omega
theorem unlike_len (ns : List Int) : (unlike ns).length ≤ ns.length := by
  have h := unl_len ns []
  simpa [unlike] using h
theorem ex_lenset (O : XOk G cl N sc W X) {p p2 q : Pos} (hg : glb sc "len" = true) (hb : G.T.blts.contains ("len" : Str) = true) (hg2 : glb sc "set" = true) (hb2 : G.T.blts.contains ("set" : Str) = true) (ha : PE X a (tE G W ra)) (pa : plainE a = true) :
    PE X (.Call (.Name "len" p) [.Call (.Name "set" p2) [a] [] q] [] pos) (tE G W fun τ S => (ra τ S).bind fun x S => match (seqOf S x).bind allI with
      | some ns => okIf (decide (ns.length < 4000)) (.int (unlike ns).length) S
      | none => .bad) := by
  obtain ⟨g1, g2, g3⟩ := glb_gl O hg
  obtain ⟨f1, f2, f3⟩ := glb_gl O hg2
  have na : starEach [a] X.env = (false, eval a X.env) :: starEach [] X.env := star_cons pa
  refine ⟨fun pins s σ H Q I ⟨m, τ, S, rel, sim, qq⟩ => ?_⟩
  refine PyProof.Rows.Call_ (ld_blt I g1 (blt_none O hb) boot_len ?_)
  refine PyProof.Rows.callWith_builtin1 (PyProof.Rows.args_cons ?_ rfl) rfl rfl
  refine PyProof.Rows.Call_ (ld_blt I f1 (blt_none O hb2) PyProof.Rows.boot_set ?_)
  have h1 := ha.run pins s σ H (fun x H1 => ∃ m S d, Rep G m H1 d x ∧ Sim G m H1 S ∧ P0 G m H1 (match (seqOf S d).bind allI with
      | some ns => okIf (decide (ns.length < 4000)) (.int (unlike ns).length) S
      | none => .bad) Q) I (tR.seq rel sim qq fun m1 H1 d S1 v e1 rel1 sim1 r1 p => ⟨m1, S1, d, r1, sim1, p.any (by split <;> first | exact noex_if | trivial)⟩)
  refine PyProof.Rows.callWith_type1 (PyProof.Rows.args_cons (thn h1 fun v s1 ⟨x, H1, I1, r1, m1, S1, d, hd, sim1, p⟩ => PyProof.Rows.args_nil ?_) na) na rfl
  cases ed : seqOf S1 d with
  | none => rw [ed] at p; exact p.elim
  | some xs =>
    rw [ed] at p
    simp only [Option.bind_some] at p
    cases en : allI xs with
    | none => rw [en] at p; exact p.elim
    | some ns =>
      rw [en] at p
      obtain ⟨hl, p⟩ := Post.if_ p
      have hl : ns.length < 4000 := of_decide_eq_true hl
      obtain ⟨l, vs, rfl, z, rl, sq⟩ := rep_seqOf sim1 hd ed
      have ev := repL_ints rl en
      subst ev
      cases r1
      have fin : ∀ (c : Nat), c = (unlike ns).length → ∀ (h' : Heap) (tk : Nat) (o : Obj) es ep t, h'.get? s1.heap.objs.size = some o → o.ExactSet → o.data = .set es ep t → t.fits es.size = true → es.size = c → (∀ b u, s1.heap.get? b = some u → h'.get? b = some u) →
          wpAny (model X.prog X.w) X.A (call (.builtin "len") [.ref s1.heap.objs.size]) (EP X pins σ Q) X.xe { s1 with heap := h', toks := tk } := by
        intro c hc h' tk o es ep t ho hex hdt hf hn hk
        have I2 : Inv X pins σ H1 { s1 with heap := h', toks := tk } := I1.kept hk
        have hle : c ≤ ns.length := by
          rw [hc]
          exact unlike_len ns
        exact call_len_set ho hex hdt hf (by rw [hn]; have : scanBound = 4096 := rfl; omega) ⟨.int c, H1, I2.tok _, ⟨_, by rw [hn]⟩, by
          rw [hc]; exact Post.done (R1 := Rep G) (d := .int (unlike ns).length) p sim1 (by simp only [Rep])⟩
      rcases sq with sq | sq
      · rw [← O.K] at sq
        obtain ⟨its, r, pl, hz⟩ := I1.list sq
        have hlen : its.toArray.size = ns.length := by rw [List.size_toArray, ← r.length, List.length_map]
        refine call_set_list (I1.ok.hd O.calm) pl.isList (by simpa using ints_of_vals r) (by rw [hlen]; have : scanBound = 4096 := rfl; omega) fun h' tk hS hk => ?_
        rw [hlen, firstMet_unlike] at hS
        obtain ⟨o, es, ep, t, ho, hex, hd, _, _, _, hf, hn⟩ := hS
        exact PyProof.Rows.args_nil (fin _ rfl h' tk o es ep t ho hex hd hf hn fun b u e => hk b u (Heap.lt_size e) e)
      · rw [← O.K] at sq
        obtain ⟨its, rv, pt, hz⟩ := I1.tuple sq
        refine call_set_tupI ns (I1.ok.hd O.calm) (show s1.heap.IsTuple l its.toArray from pt) (ints_of_vals rv) (by have : scanBound = 4096 := rfl; omega) fun h' tk c R1 hcn k => ?_
        obtain ⟨o, es, ep, t, ho, hex, hdt, g, nd, hm2, hb, hf, hn, hr, hl2⟩ := R1
        refine PyProof.Rows.args_nil (fin c ?_ h' tk o es ep t ho hex hdt hf hn k)
        have e1 : c = (es.toList.map keyOf).length := by rw [List.length_map, Array.length_toList, hn]
        rw [e1]
        exact same_len nd (unlike_nodup ns).1 fun x => by rw [← hm2 x, decide_eq_true_eq, (unlike_nodup ns).2 x]

/-! ### {} -/
theorem ex_dict0 (O : XOk G cl N sc W X) : PE X (.Dict [] [] pos) (tE G W fun _ S => .ok (.loc S.length) (S ++ [.dict []])) := by
  refine ⟨fun pins s σ H Q I ⟨m, τ, S, rel, sim, q⟩ => ?_⟩
  have hf : H s.heap.objs.size = none := I.hok.fresh (Nat.le_refl _)
  have hsys : (s.heap.objs.size == sysModules) = false := by
    have h := I.big
    exact beq_eq_false_iff_ne.mpr (Ne.symm (Nat.ne_of_lt h))
  have dx : dctAt X.prog X.w s.heap.objs.size [] (s.heap.push { cls := .type "dict", data := .dict #[] }) := ⟨_, #[], 0, Heap.get?_push_size _ rfl, ⟨rfl, rfl, rfl⟩, rfl, rfl⟩
  have I2 := I.laid (a := s.heap.objs.size) (o := .ext (dctAt X.prog X.w s.heap.objs.size [])) (t' := s.toks) (fun _ _ q => Heap.get?_push_of_some _ q) (Nat.le_refl _) (dct_ok dx)
  refine wpAny_Dict_empty ⟨.ref s.heap.objs.size, _, I2, rfl, ?_⟩
  refine Post.news (R1 := Rep G) (d := .loc S.length) (x := .dict []) q sim hf (fun ext => ⟨[], by rw [← O.pr, ← O.wd]; exact upd_same, Nat.zero_le _, hsys, rfl, List.nodup_nil⟩) fun ext => ?_
  simp only [Rep]
  refine ⟨_, rfl, ?_⟩
  rw [← sim.len, List.getElem?_append_right (Nat.le_refl _)]
  simp
/-! ### methods -/
theorem tyV_list (sim : Sim G m H S) (hK : X.K = G.K) {d : D} {v : V} (h : Rep G m H d v) (e : (lstOf S d).isSome = true) : tyV X.K "list" v H := by
  obtain ⟨xs, e⟩ := Option.isSome_iff_exists.mp e
  obtain ⟨l, vs, rfl, _, _, q⟩ := rep_lstOf sim h e
  exact .inl ⟨rfl, vs, .of q⟩
theorem ex_meth0 (O : XOk G cl N sc W X) (mi : MI) (hmi : miN mi = "clear" ∨ miN mi = "reverse") {apos : Pos} (ho : PE X a (tE G W ra)) (pa : plainA a = true) (ln : (apos.endLine == pos.line) = true) :
    PE X (.Call (.Attribute a (miN mi) apos) [] [] pos) (tE G W fun τ S => (ra τ S).bind fun x S => if (lstOf S x).isSome then methB mi x [] S else .bad) := by
  have go : ∀ σ H Q, tE G W (fun τ S => (ra τ S).bind fun x S => if (lstOf S x).isSome then methB mi x [] S else .bad) σ H Q → tBM0 X.K "list" (fun x vs H Q => ∃ m S a as, Rep G m H a x ∧ RepL G m H as vs ∧ Sim G m H S ∧ P0 G m H (methB mi a as S) Q) (tE G W ra) σ H Q := by
    rintro σ H Q ⟨m, τ, S, rel, sim, q⟩
    refine tR.seq rel sim q fun m1 H1 d S1 v e1 rel1 sim1 r1 p => ?_
    by_cases c : (lstOf S1 d).isSome = true
    · rw [if_pos c] at p
      exact ⟨tyV_list sim1 O.K r1 c, m1, S1, d, [], r1, .nil, sim1, p.any (noex_methB _ _ _)⟩
    · rw [if_neg c] at p; exact p.elim
  cases mi
  case append => rcases hmi with h | h <;> exact absurd h (by decide)
  case clear => exact (pe_bm0 PySem.F.plainAttrs_list PySem.F.slot_list_clear PySem.F.type_list_clear (methB_ok (G := G) .clear) ho (plain_attr pa) ln).imp go
  case reverse => exact (pe_bm0 PySem.F.plainAttrs_list PySem.F.slot_list_reverse PySem.F.type_list_reverse (methB_ok (G := G) .reverse) ho (plain_attr pa) ln).imp go
theorem ex_app (O : XOk G cl N sc W X) {apos : Pos} (ho : PE X a (tE G W ra)) (ha : PA X [b] (tAs G W rs)) (pa : plainA a = true) (pb : plainE b = true) (ln : (apos.endLine == pos.line) = true) :
    PE X (.Call (.Attribute a "append" apos) [b] [] pos) (tE G W fun τ S => (ra τ S).bind fun x S => if (lstOf S x).isSome then (rs τ S).bind fun xs S => methB .append x xs S else .bad) := by
  refine (pe_bm PySem.F.plainAttrs_list PySem.F.slot_list_append PySem.F.type_list_append (methB_ok (G := G) .append) ho ha (plain_attr pa) ?_ ln (star_cons pb) (star_none rfl)).imp ?_
  · rw [star_cons pb]; rfl
  · rintro σ H Q ⟨m, τ, S, rel, sim, q⟩
    refine tR.seq rel sim q fun m1 H1 d S1 v e1 rel1 sim1 r1 p => ?_
    by_cases c : (lstOf S1 d).isSome = true
    · rw [if_pos c] at p
      exact ⟨tyV_list sim1 O.K r1 c, tR.seq rel1 sim1 p fun m2 H2 as S2 vs e2 rel2 sim2 r2 p2 => ⟨m2, S2, d, as, r1.ext e2, r2, sim2, p2.any (noex_methB _ _ _)⟩⟩
    · rw [if_neg c] at p; exact p.elim
end
end Ev
/-! Ev, part G5: targets, what is walked, comprehensions. -/
namespace Ev
open PySem L2
/-! ### targets -/
mutual
def CT.sl : CT → List Nat
  | .name i => [i]
  | .tup ts => CT.sls ts
def CT.sls : List CT → List Nat
  | [] => []
  | t :: ts => t.sl ++ CT.sls ts
end
/-- no slot but these has changed -/
def Chg (l : List Nat) (σ σ' : St) : Prop := ∀ i, i ∉ l → σ'[i]? = σ[i]?
def gT (G : GC) (t : CT) : TG := fun v σ H Q => ∃ m τ S d, RelS G m H σ τ ∧ Sim G m H S ∧ Rep G m H d v ∧ match bindT t d τ with
  | none => False
  | some τ' => ∀ σ', RelS G m H σ' τ' → Chg t.sl σ σ' → Q σ' H
def gTs (G : GC) (ts : List CT) : TGs := fun vs σ H Q => ∃ m τ S ds, RelS G m H σ τ ∧ Sim G m H S ∧ RepL G m H ds vs ∧ match bindTs ts ds τ with
  | none => False
  | some τ' => ∀ σ', RelS G m H σ' τ' → Chg (CT.sls ts) σ σ' → Q σ' H
theorem bindTs_len : ∀ {ts : List CT} {ds : List D} {τ τ' : Slots}, bindTs ts ds τ = some τ' → ds.length = ts.length
  | [], [], _, _, _ => rfl
  | [], _ :: _, _, _, h => by simp [bindTs] at h
  | _ :: _, [], _, _, h => by simp [bindTs] at h
  | t :: ts, d :: ds, τ, τ', h => by
    simp only [bindTs] at h
    split at h
    · simp [bindTs_len h]
    · cases h
theorem chkTs_len {N : List Str} {sc : Scope} {own : Option (List Nat)} : ∀ {ts : List CT} {es : List Expr}, chkTs N sc own ts es = true → es.length = ts.length
  | [], es, h => by simp only [chkTs, List.isEmpty_iff] at h; rw [h]; rfl
  | t :: ts, [], h => by simp [chkTs] at h
  | t :: ts, e :: es, h => by
    simp only [chkTs, Bool.and_eq_true] at h
    simp [chkTs_len h.2]
/-- where a frame stores: the names of so -/
structure SOk (N : List Str) (so : Scope) (X : Cx) : Prop where
  nd : X.N.Nodup
  eN : X.N = N
  put : ∀ x, sto so x = true → Loc X.env.scope x ∧ (X.fn x = true ∨ X.env.scope.names.lookup x = some .local)
section
variable {G : GC} {N : List Str} {so : Scope} {X : Cx} {own : Option (List Nat)}
mutual
theorem gt_ok (A : At G X) (O : SOk N so X) : ∀ {t : CT} {e : Expr}, chkT N so own t e = true → PG X e (gT G t) ∧ (∀ l, own = some l → ∀ i ∈ t.sl, i ∈ l)
  | .name i, e, h => by
    unfold chkT at h
    split at h
    · next x pos =>
      simp only [Bool.and_eq_true, decide_eq_true_eq] at h
      obtain ⟨⟨h1, h2⟩, h3⟩ := h
      obtain ⟨p1, p2⟩ := O.put x h2
      refine ⟨⟨fun pins s σ H v u Q I r hw => ?_⟩, fun l el j hj => ?_⟩
      · obtain ⟨m, τ, S, d, rel, sim, rd, hw⟩ := hw
        have hw : ∀ σ', RelS G m H σ' (τ.set i (some d)) → Chg [i] σ σ' → Q σ' H := hw
        exact (pg_name O.nd (by rw [O.eN]; exact h1) p1 p2).run pins s σ H v u Q I r (hw _ (rel.set rd) fun j hj => List.getElem?_set_ne (fun z => hj (by simp [z])))
      · subst el
        simp only [CT.sl, List.mem_singleton] at hj
        subst hj
        simpa using h3
    · cases h
  | .tup ts, e, h => by
    unfold chkT at h
    split at h
    · next es k pos =>
      simp only [Bool.and_eq_true] at h
      obtain ⟨h1, h2⟩ := h
      obtain ⟨p1, p2⟩ := gts_ok A O h1 h2
      refine ⟨⟨fun pins s σ H v u Q I r hw => ?_⟩, fun l el i hi => p2 l el i (by simpa only [CT.sl] using hi)⟩
      refine (pg_tup (n := ts.length) A.calm p1 (by rw [tgt_len, chkTs_len h1]) (tgt_none h2)).run pins s σ H v u Q I r ?_
      obtain ⟨m, τ, S, d, rel, sim, rd, hw⟩ := hw
      cases d <;> first | exact hw.elim | skip
      rename_i ds
      obtain ⟨a, xs, e1, z, rl, q⟩ := rep_tup rd
      have hw : match bindTs ts ds τ with
        | none => False
        | some τ' => ∀ σ', RelS G m H σ' τ' → Chg (CT.sls ts) σ σ' → Q σ' H := by
        simpa only [bindT, CT.sl] using hw
      refine ⟨a, xs, e1, by rw [A.K]; exact q, ?_, m, τ, S, ds, rel, sim, rl, hw⟩
      cases hb : bindTs ts ds τ with
      | none => rw [hb] at hw; exact hw.elim
      | some τ' => rw [rl.length]; exact bindTs_len hb
    · cases h
theorem gts_ok (A : At G X) (O : SOk N so X) : ∀ {ts : List CT} {es : List Expr}, chkTs N so own ts es = true → es.all plainT = true → PGs X es (gTs G ts) ∧ (∀ l, own = some l → ∀ i ∈ CT.sls ts, i ∈ l)
  | [], es, h, _ => by
    simp only [chkTs, List.isEmpty_iff] at h
    subst h
    refine ⟨⟨fun pins s σ H vs us Q I r hw => ?_⟩, fun l el i hi => by simp [CT.sls] at hi⟩
    refine pgs_nil.run pins s σ H vs us Q I r ?_
    obtain ⟨m, τ, S, ds, rel, sim, rl, hw⟩ := hw
    cases ds with
    | cons d ds => exact hw.elim
    | nil => simp only [RepL] at rl; exact ⟨rl, hw σ rel fun i _ => rfl⟩
  | t :: ts, [], h, _ => by simp [chkTs] at h
  | t :: ts, e :: es, h, hp => by
    simp only [chkTs, Bool.and_eq_true] at h
    rw [List.all_cons, Bool.and_eq_true] at hp
    obtain ⟨p1, p2⟩ := gt_ok A O h.1
    obtain ⟨r1, r2⟩ := gts_ok A O h.2 hp.2
    refine ⟨⟨fun pins s σ H vs us Q I r hw => ?_⟩, fun l el i hi => ?_⟩
    · refine (pgs_cons p1 r1 (tgt_cons hp.1)).run pins s σ H vs us Q I r ?_
      obtain ⟨m, τ, S, ds, rel, sim, rl, hw⟩ := hw
      cases ds with
      | nil => exact hw.elim
      | cons d ds =>
        simp only [RepL] at rl
        obtain ⟨v, vr, e1, rd, rl⟩ := rl
        refine ⟨v, vr, e1, m, τ, S, d, rel, sim, rd, ?_⟩
        simp only [bindTs] at hw
        cases hb : bindT t d τ with
        | none => rw [hb] at hw; exact hw.elim
        | some τ1 =>
          rw [hb] at hw
          replace hw : match bindTs ts ds τ1 with
            | none => False
            | some τ' => ∀ σ', RelS G m H σ' τ' → Chg (CT.sls (t :: ts)) σ σ' → Q σ' H := hw
          refine fun σ1 rel1 c1 => ⟨m, τ1, S, ds, rel1, sim, rl, ?_⟩
          cases hb2 : bindTs ts ds τ1 with
          | none => rw [hb2] at hw; exact hw.elim
          | some τ2 =>
            rw [hb2] at hw
            refine fun σ2 rel2 c2 => hw σ2 rel2 fun i hi => ?_
            simp only [CT.sls, List.mem_append, not_or] at hi
            exact (c2 i hi.2).trans (c1 i hi.1)
    · simp only [CT.sls, List.mem_append] at hi
      rcases hi with hi | hi
      · exact p2 l el i hi
      · exact r2 l el i hi
end
end
theorem wipe_chg {vs : List Nat} {σ σ' : St} (h : Chg vs σ σ') (hl : σ'.length = σ.length) : L2.wipe σ' vs = L2.wipe σ vs := by
  have key : ∀ (vs : List Nat) (σ : St) (i : Nat), (L2.wipe σ vs)[i]? = if i ∈ vs then (if i < σ.length then some none else none) else σ[i]? := by
    intro vs
    induction vs with
    | nil => intro σ i; simp [L2.wipe]
    | cons v vs ih =>
      intro σ i
      unfold L2.wipe
      rw [List.getElem?_set, wipe_length, ih]
      by_cases e : v = i
      · subst e; simp
      · rw [if_neg e]
        by_cases e2 : i ∈ vs
        · simp [e2]
        · have : ¬(i = v) := fun z => e z.symm
          simp [e2, this]
  apply List.ext_getElem?
  intro i
  rw [key, key, hl]
  by_cases e : i ∈ vs
  · simp [e]
  · simp only [e, if_false]
    exact h i e
theorem RelS.lens {G : GC} {m : List Addr} {H : Hp} {σ σ' : St} {τ τ' : Slots} (a : RelS G m H σ τ) (b : RelS G m H σ' τ') (h : τ'.length = τ.length) : σ'.length = σ.length := by rw [a.len, b.len, h]
mutual
theorem bindT_len : ∀ {t : CT} {d : D} {τ τ' : Slots}, bindT t d τ = some τ' → τ'.length = τ.length
  | .name i, d, τ, τ', h => by simp only [bindT, Option.some.injEq] at h; subst h; simp
  | .tup ts, .tup ds, τ, τ', h => bindTs_len2 (by simpa only [bindT] using h)
  | .tup ts, .non, _, _, h => by simp [bindT] at h
  | .tup ts, .bl _, _, _, h => by simp [bindT] at h
  | .tup ts, .int _, _, _, h => by simp [bindT] at h
  | .tup ts, .str _, _, _, h => by simp [bindT] at h
  | .tup ts, .lst _, _, _, h => by simp [bindT] at h
  | .tup ts, .scr _, _, _, h => by simp [bindT] at h
  | .tup ts, .loc _, _, _, h => by simp [bindT] at h
  | .tup ts, .fn _, _, _, h => by simp [bindT] at h
  | .tup ts, .cls _, _, _, h => by simp [bindT] at h
theorem bindTs_len2 : ∀ {ts : List CT} {ds : List D} {τ τ' : Slots}, bindTs ts ds τ = some τ' → τ'.length = τ.length
  | [], [], _, _, h => by simp only [bindTs, Option.some.injEq] at h; subst h; rfl
  | [], _ :: _, _, _, h => by simp [bindTs] at h
  | _ :: _, [], _, _, h => by simp [bindTs] at h
  | t :: ts, d :: ds, τ, τ', h => by
    simp only [bindTs] at h
    split at h
    · next τ1 e => exact (bindTs_len2 h).trans (bindT_len e)
    · cases h
end

/-! ### what is walked -/
section
variable {G : GC} {cl : Nat → List D → Store → R D} {N : List Str} {sc : Scope} {W : WX} {X : Cx} {ra rb rc : Slots → Store → R D} {a b c : Expr} {pos p : Pos} {es : List Expr} {rs : Slots → Store → R (List D)} {e tg : Expr}
abbrev tIt (G : GC) (W : WX) (r : Slots → Store → R Items) : TI := tR G W (fun m H I J => JW G m H I J) r
theorem pi_seq (he : PE X e (tE G W ra)) {R0 : TI} (hR : ∀ σ H R, R0 σ H R → tE G W ra σ H fun x H1 => ∃ a, x = .ref a ∧ (((∃ xs, SqL X.K H1 a xs) ∧ R (Itl X.K a) H1) ∨ ((∃ xs, SqT X.K H1 a xs) ∧ R (Itt X.K a) H1))) : PI X tg e R0 := by
  refine ⟨fun pins s σ H R I h => thn (he.run pins s σ H _ I (hR σ H R h)) fun v s1 ⟨x, H1, I1, r1, l, ex, q1⟩ => ?_⟩
  subst ex
  cases r1
  rcases q1 with ⟨⟨xs, hq⟩, q⟩ | ⟨⟨xs, hq⟩, q⟩
  · obtain ⟨its, rv, pl, hz⟩ := I1.list hq
    exact wpAny_pyIter_list pl.isList (pi_one I1 _ (turn_list l _) ⟨_, Heap.get?_push_size _ rfl, rfl, rfl⟩ q)
  · obtain ⟨its, rv, pl, hz⟩ := I1.tuple hq
    exact wpAny_pyIter_tuple (show s1.heap.IsTuple l its.toArray from pl) (pi_one I1 _ (turn_tuple l _) ⟨_, Heap.get?_push_size _ rfl, rfl, rfl⟩ q)
theorem it_val (O : XOk G cl N sc W X) (he : PE X e (tE G W ra)) : PI X tg e (tIt G W fun τ S => (ra τ S).bind fun x S => okO (itemsOf S x) S) := by
  refine pi_seq he fun σ H R ⟨m, τ, S, rel, sim, q⟩ => tR.seq rel sim q fun m1 H1 d S1 v e1 rel1 sim1 r1 p => ?_
  obtain ⟨I, ei, p⟩ := Post.o_ p
  rw [O.K]
  cases d with
  | lst xs =>
    simp only [itemsOf, Option.some.injEq] at ei; subst ei
    obtain ⟨l, vs, ev, z, r, q⟩ := walk_lst r1
    exact ⟨l, ev, .inl ⟨⟨vs, q _ _ (.refl _ _)⟩, Post.done (R1 := fun m H I J => JW G m H I J) p sim1 (jw_list z r q)⟩⟩
  | scr xs =>
    simp only [itemsOf, Option.some.injEq] at ei; subst ei
    obtain ⟨l, vs, ev, z, r, q⟩ := walk_scr r1
    exact ⟨l, ev, .inl ⟨⟨vs, q _ _ (.refl _ _)⟩, Post.done (R1 := fun m H I J => JW G m H I J) p sim1 (jw_list z r q)⟩⟩
  | tup xs =>
    simp only [itemsOf, Option.some.injEq] at ei; subst ei
    obtain ⟨l, vs, ev, z, r, q⟩ := walk_tp r1
    exact ⟨l, ev, .inr ⟨⟨vs, q _ _ (.refl _ _)⟩, Post.done (R1 := fun m H I J => JW G m H I J) p sim1 (jw_tup z r q)⟩⟩
  | loc n =>
    simp only [itemsOf] at ei
    split at ei
    · next xs ex =>
      simp only [Option.some.injEq] at ei; subst ei
      obtain ⟨l, hl, vs, h1, z, r⟩ := sim1.find ex
      simp only [Rep] at r1
      obtain ⟨l', ev, hl'⟩ := r1
      rw [hl] at hl'; cases hl'
      exact ⟨l, ev, .inl ⟨⟨vs, .of h1⟩, Post.done (R1 := fun m H I J => JW G m H I J) p sim1 (jw_loc (by rw [← r.length]; exact z) hl)⟩⟩
    · cases ei
  | _ => simp [itemsOf] at ei
theorem small_of {i j : Int} (h : smallR i j = true) : -(2 ^ 62) ≤ i ∧ i < 2 ^ 62 ∧ -(2 ^ 62) ≤ j ∧ j < 2 ^ 62 := by
  simp only [smallR, Bool.and_eq_true, decide_eq_true_eq] at h
  exact ⟨h.1.1.1, h.1.1.2, h.1.2, h.2⟩
theorem it_rng1 (O : XOk G cl N sc W X) (hg : glb sc "range" = true) (hb : G.T.blts.contains ("range" : Str) = true) (pa : plainE a = true) (ha : PE X a (tE G W ra)) : PI X tg (.Call (.Name "range" p) [a] [] pos) (tIt G W fun τ S => (ra τ S).bind fun x S => match x with
      | .int j => okIf (smallR 0 j && decide (j ≤ big)) { xs := rangeD 0 j } S
      | _ => .bad) := by
  obtain ⟨g1, g2, g3⟩ := glb_gl O hg
  refine (pi_range1 g1 (blt_none O hb) (pa_cons ha pa_nil (star_cons pa)) (star_cons pa)).imp fun σ H R ⟨m, τ, S, rel, sim, q⟩ => ?_
  refine tR.seq rel sim q fun m1 H1 d S1 v e1 rel1 sim1 r1 p => ?_
  cases d <;> first | exact p.elim | skip
  rename_i j
  simp only [Rep] at r1
  obtain ⟨c, p⟩ := Post.if_ p
  rw [Bool.and_eq_true, decide_eq_true_eq] at c
  obtain ⟨h1, h2, h3, h4⟩ := small_of c.1
  refine ⟨j, by rw [r1], h3, h4, ?_⟩
  have w := jw_range (G := G) (m := m1) (H := H1) (a := 0) (b := j) (by have := c.2; unfold big at this ⊢; omega)
  rw [Int.sub_zero] at w
  exact Post.done (R1 := fun m H I J => JW G m H I J) p sim1 w
theorem it_rng2 (O : XOk G cl N sc W X) (hg : glb sc "range" = true) (hb : G.T.blts.contains ("range" : Str) = true) (pa : plainE a = true) (pb : plainE b = true) (ha : PE X a (tE G W ra)) (hb' : PE X b (tE G W rb)) : PI X tg (.Call (.Name "range" p) [a, b] [] pos) (tIt G W fun τ S => (ra τ S).bind fun x S => (rb τ S).bind fun y S => match x, y with
      | .int i, .int j => okIf (smallR i j && decide (j - i ≤ big)) { xs := rangeD i j } S
      | _, _ => .bad) := by
  obtain ⟨g1, g2, g3⟩ := glb_gl O hg
  refine (pi_range2 g1 (blt_none O hb) (pa_cons ha (pa_cons hb' pa_nil (star_cons pb)) (star_cons pa)) (by rw [star_cons pa, star_cons pb]; rfl) (star_cons pb)).imp fun σ H R ⟨m, τ, S, rel, sim, q⟩ => ?_
  refine tR.seq rel sim q fun m1 H1 d S1 v e1 rel1 sim1 r1 p => tR.seq rel1 sim1 p fun m2 H2 d2 S2 v2 e2 rel2 sim2 r2 p2 => ?_
  cases d <;> first | exact p2.elim | skip
  cases d2 <;> first | exact p2.elim | skip
  rename_i i j
  simp only [Rep] at r1 r2
  obtain ⟨c, p⟩ := Post.if_ p2
  rw [Bool.and_eq_true, decide_eq_true_eq] at c
  refine ⟨i, j, by rw [r1, r2], small_of c.1, ?_⟩
  exact Post.done (R1 := fun m H I J => JW G m H I J) p sim2 (jw_range (by have := c.2; unfold big at this ⊢; omega))
theorem it_zip (O : XOk G cl N sc W X) {elts : List Expr} {kk : Nat} {tpos : Pos} (hg : glb sc "zip" = true) (hb : G.T.blts.contains ("zip" : Str) = true) (pa : plainE a = true) (pb : plainE b = true) (ha : PE X a (tE G W ra)) (hb' : PE X b (tE G W rb)) :
    PI X (.Tuple elts kk tpos) (.Call (.Name "zip" p) [a, b] [] pos) (tIt G W fun τ S => (ra τ S).bind fun x S => (rb τ S).bind fun y S => match x, y with
      | .tup xs, .tup ys => .ok { xs := zipD xs ys } S
      | .lst xs, .lst ys => .ok { xs := zipD xs ys } S
      | _, _ => .bad) := by
  obtain ⟨g1, g2, g3⟩ := glb_gl O hg
  refine (RZ.pi_zipA g1 (blt_none O hb) (pa_cons ha (pa_cons hb' pa_nil (star_cons pb)) (star_cons pa)) (star_cons pa) (by rw [star_cons pb]; rfl)).imp fun σ H R ⟨m, τ, S, rel, sim, q⟩ => ?_
  refine tR.seq rel sim q fun m1 H1 d S1 v e1 rel1 sim1 r1 p => tR.seq rel1 sim1 p fun m2 H2 d2 S2 v2 e2 rel2 sim2 r2 p2 => ?_
  cases d <;> first | exact p2.elim | skip
  · cases d2 <;> first | exact p2.elim | skip
    obtain ⟨l, vs, ev, z, r, q⟩ := walk_tp r1
    obtain ⟨l2, vs2, ev2, z2, r2', q2⟩ := walk_tp r2
    refine ⟨l, l2, vs, vs2, by rw [ev, ev2], .inr ⟨?_, ?_, ?_⟩⟩
    · rw [O.K]; exact q _ _ e2
    · rw [O.K]; exact q2 _ _ (.refl _ _)
    · rw [O.K]; exact Post.done (R1 := fun m H I J => JW G m H I J) p2 sim2 (jw_zipT z (r.ext e2) r2' fun m' H' e => ⟨q _ _ (e2.trans e), q2 _ _ e⟩)
  · cases d2 <;> first | exact p2.elim | skip
    obtain ⟨l, vs, ev, z, r, q⟩ := walk_lst r1
    obtain ⟨l2, vs2, ev2, z2, r2', q2⟩ := walk_lst r2
    refine ⟨l, l2, vs, vs2, by rw [ev, ev2], .inl ⟨?_, ?_, ?_⟩⟩
    · rw [O.K]; exact q _ _ e2
    · rw [O.K]; exact q2 _ _ (.refl _ _)
    · rw [O.K]; exact Post.done (R1 := fun m H I J => JW G m H I J) p2 sim2 (jw_zip z (r.ext e2) r2' fun m' H' e => ⟨q _ _ (e2.trans e), q2 _ _ e⟩)
theorem it_enumT (O : XOk G cl N sc W X) {elts : List Expr} {kk : Nat} {tpos : Pos} (hg : glb sc "enumerate" = true) (hb : G.T.blts.contains ("enumerate" : Str) = true) (pa : plainE a = true) (ha : PE X a (tE G W ra)) :
    PI X (.Tuple elts kk tpos) (.Call (.Name "enumerate" p) [a] [] pos) (tIt G W fun τ S => (ra τ S).bind fun x S => match x with
      | .tup xs => .ok { xs := enumD 0 xs } S
      | _ => .bad) := by
  obtain ⟨g1, g2, g3⟩ := glb_gl O hg
  refine (pi_enumT g1 (blt_none O hb) (pa_cons ha pa_nil (star_cons pa)) (star_cons pa)).imp fun σ H R ⟨m, τ, S, rel, sim, q⟩ => ?_
  refine tR.seq rel sim q fun m1 H1 d S1 v e1 rel1 sim1 r1 p => ?_
  cases d <;> first | exact p.elim | skip
  obtain ⟨l, vs, ev, z, r, q⟩ := walk_tp r1
  refine ⟨l, vs, by rw [ev], ?_, ?_⟩
  · rw [O.K]; exact q _ _ (.refl _ _)
  · rw [O.K]; exact Post.done (R1 := fun m H I J => JW G m H I J) p sim1 (jw_enumT z r q)
theorem it_enumL (O : XOk G cl N sc W X) {elts : List Expr} {kk : Nat} {tpos : Pos} (hg : glb sc "enumerate" = true) (hb : G.T.blts.contains ("enumerate" : Str) = true) (pa : plainE a = true) (ha : PE X a (tE G W ra)) :
    PI X (.Tuple elts kk tpos) (.Call (.Name "enumerate" p) [a] [] pos) (tIt G W fun τ S => (ra τ S).bind fun x S => match x with
      | .lst xs => .ok { xs := enumD 0 xs } S
      | _ => .bad) := by
  obtain ⟨g1, g2, g3⟩ := glb_gl O hg
  refine (pi_enum g1 (blt_none O hb) (pa_cons ha pa_nil (star_cons pa)) (star_cons pa)).imp fun σ H R ⟨m, τ, S, rel, sim, q⟩ => ?_
  refine tR.seq rel sim q fun m1 H1 d S1 v e1 rel1 sim1 r1 p => ?_
  cases d <;> first | exact p.elim | skip
  obtain ⟨l, vs, ev, z, r, q⟩ := walk_lst r1
  refine ⟨l, vs, by rw [ev], ?_, ?_⟩
  · rw [O.K]; exact q _ _ (.refl _ _)
  · rw [O.K]; exact Post.done (R1 := fun m H I J => JW G m H I J) p sim1 (jw_enum z r q)
end
end Ev
/-! Ev, part G6: comprehensions. -/
namespace Ev
open PySem L2
section
variable {G : GC} {m : List Addr} {H : Hp} {p : Addr}
/-- an object in the making becomes one that may change -/
theorem Cl.born {a : Addr} (n : Cl (G.up [p]) m a) : Cl G (m ++ [p]) a := by
  have h : a ≠ p ∧ a ∉ G.av := ⟨fun z => n.2 (List.mem_append.mpr (.inl (by simp [z]))), fun q => n.2 (List.mem_append.mpr (.inr q))⟩
  exact ⟨by simp only [List.mem_append, List.mem_singleton, not_or]; exact ⟨n.1, h.1⟩, h.2⟩
mutual
theorem Rep.born : ∀ {d : D} {v : V}, Rep (G.up [p]) m H d v → Rep G (m ++ [p]) H d v
  | .non, _, h => by simpa only [Rep] using h
  | .bl _, _, h => by simpa only [Rep] using h
  | .int _, _, h => by simpa only [Rep] using h
  | .str _, _, h => by simpa only [Rep] using h
  | .tup ds, _, h => by
    simp only [Rep] at h ⊢
    obtain ⟨a, xs, e1, hz, hl, q⟩ := h
    refine ⟨a, xs, e1, hz, RepL.born hl, ?_⟩
    rcases q with ⟨q, n⟩ | q
    · exact .inl ⟨q, n.born⟩
    · exact .inr q
  | .lst ds, _, h => by
    simp only [Rep] at h ⊢
    obtain ⟨a, xs, e1, hz, hl, q, n⟩ := h
    exact ⟨a, xs, e1, hz, RepL.born hl, q, n.born⟩
  | .scr ds, _, h => by
    simp only [Rep] at h ⊢
    obtain ⟨a, xs, e1, hz, hl, q⟩ := h
    refine ⟨a, xs, e1, hz, RepL.born hl, ?_⟩
    rcases q with ⟨q, n⟩ | q
    · exact .inl ⟨q, n.born⟩
    · exact .inr q
  | .loc n, _, h => by
    simp only [Rep] at h ⊢
    obtain ⟨a, e, h⟩ := h
    exact ⟨a, e, by rw [List.getElem?_append_left (List.getElem?_eq_some_iff.mp h).1]; exact h⟩
  | .fn f, _, h => by simp only [Rep] at h ⊢; exact h
  | .cls c, _, h => by simp only [Rep] at h ⊢; exact h
theorem RepL.born : ∀ {ds : List D} {vs : List V}, RepL (G.up [p]) m H ds vs → RepL G (m ++ [p]) H ds vs
  | [], _, h => by simpa only [RepL] using h
  | d :: ds, _, h => by
    simp only [RepL] at h ⊢
    obtain ⟨v, r, e1, h1, h2⟩ := h
    exact ⟨v, r, e1, Rep.born h1, RepL.born h2⟩
end
theorem PairD.born : ∀ {kvs : List (D × D)} {xs : List (NestedKey × Addr × Value)}, PairD (G.up [p]) m H kvs xs → PairD G (m ++ [p]) H kvs xs
  | [], _, h => h
  | (k, d) :: kvs, _, ⟨x, r, e1, e2, e3, h1, ⟨v, rv, h2⟩, h3⟩ => ⟨x, r, e1, e2, e3, h1.born, ⟨v, rv, h2.born⟩, PairD.born h3⟩
theorem PairI.born : ∀ {kvs : List (Int × D)} {xs : List (Key × V)}, PairI (G.up [p]) m H kvs xs → PairI G (m ++ [p]) H kvs xs
  | [], _, h => h
  | (k, d) :: kvs, _, ⟨v, r, e1, h1, h2⟩ => ⟨v, r, e1, h1.born, PairI.born h2⟩
theorem exAt_born {C a : Addr} : ∀ {fs : List (Str × D)}, ExAt (G.up [p]) m H C a fs → ExAt G (m ++ [p]) H C a fs
  | [], h => h
  | [(_, .int _)], ⟨dx, h, h2, h3⟩ => ⟨dx, h, h2, h3.born⟩
theorem RepO.born {a : Addr} : ∀ {o : MO}, RepO (G.up [p]) m H a o → RepO G (m ++ [p]) H a o
  | .list xs, ⟨vs, h, z, r⟩ => ⟨vs, h, z, r.born⟩
  | .dict _, ⟨xs, h, z, n, p, nd⟩ => ⟨xs, h, z, n, p.born, nd⟩
  | .ins _ _, ⟨C, x, h1, h2, h⟩ => ⟨C, x, h1, h2, exAt_born h⟩
  | .dcti _, ⟨xs, h, z, p⟩ => ⟨xs, h, z, p.born⟩
  | .tbl _, ⟨q, ps, h1, h, t, c⟩ => ⟨q, ps, h1, h, t, fun pos cv z => let ⟨c, e1, e2, e3⟩ := c pos cv z; ⟨c, e1, e2, e3.born⟩⟩
theorem Sim.born {S : Store} (s : Sim (G.up [p]) m H S) (np : p ∉ G.av) {o : MO} (ho : RepO (G.up [p]) m H p o) : Sim G (m ++ [p]) H (S ++ [o]) := by
  have lp := (s.live p (List.mem_append.mpr (.inl (by simp)))).2
  refine ⟨by simp [s.len], ?_, fun a ha => ⟨(s.live a (List.mem_append.mpr (.inr ha))).1, ?_⟩, fun n a y e1 e2 => ?_⟩
  · rw [List.nodup_append]
    refine ⟨s.nd, by simp, fun a ha b hb => ?_⟩
    simp at hb; subst hb
    exact fun z => lp (z ▸ ha)
  · have h1 := (s.live a (List.mem_append.mpr (.inr ha))).2
    simp only [List.mem_append, List.mem_singleton, not_or]
    exact ⟨h1, fun z => np (z ▸ ha)⟩
  · by_cases hn : n < m.length
    · rw [List.getElem?_append_left hn] at e1
      rw [List.getElem?_append_left (by rw [← s.len]; exact hn)] at e2
      exact (s.obj n a y e1 e2).born
    · have hn2 : n = m.length := by
        have := (List.getElem?_eq_some_iff.mp e1).1
        simp at this; omega
      subst hn2
      rw [List.getElem?_append_right (Nat.le_refl _)] at e1
      rw [s.len, List.getElem?_append_right (Nat.le_refl _)] at e2
      simp at e1 e2
      subst e1; subst e2
      exact ho.born
theorem Ext.upd {m1 : List Addr} {H1 : Hp} {o : HO} (e : Ext m1 H1 m H) (h : H1 p = none) : Ext m1 H1 m (upd H p o) :=
  ⟨e.pre, fun a u n t q => ⟨by rw [upd_ne (fun z => by rw [z, h] at q; cases q)]; exact (e.keep a u n t q).1, (e.keep a u n t q).2⟩⟩
theorem Ext.born {m1 : List Addr} {H1 : Hp} (e : Ext m1 H1 m H) (h : H1 p = none) : Ext m1 H1 (m ++ [p]) H :=
  ⟨fun n a q => by rw [List.getElem?_append_left (List.getElem?_eq_some_iff.mp (e.pre n a q)).1]; exact e.pre n a q, fun a u n t q => ⟨(e.keep a u n t q).1, by
    simp only [List.mem_append, List.mem_singleton, not_or]
    exact ⟨(e.keep a u n t q).2, fun z => by rw [z, h] at q; cases q⟩⟩⟩
end
section
variable {G : GC} {cl : Nat → List D → Store → R D} {N : List Str} {sc : Scope} {W : WX} {X : Cx}
theorem TabOk.up (T : TabOk G) (l : List Addr) : TabOk (G.up l) where
  con := fun x d h => by
    obtain ⟨u, v, h1, h2, h3⟩ := T.con x d h
    refine ⟨u, v, h1, h2, fun m H => ?_⟩
    exact ((h3 [] fun _ => none).up (l := l) fun _ _ => rfl).ext ⟨fun n a q => by simp at q, fun a o _ _ q => by cases q⟩
  blt := T.blt
  fns := T.fns
  exc := T.exc
  exm := T.exm
  exv := fun h => let e := T.exv h; ⟨e.file, e.top, e.cls, e.ini, e.kit⟩
theorem XOk.blk (O : XOk G cl N sc W X) (p : Addr) (s : Shared) (H : Hp) (scope : Scope) (C : Addr) (cl' : List (Str × Addr)) (fp : List Addr) : XOk (G.up [p]) cl N (relS scope sc) W0 (X.blk s H scope (compEnvC scope cl' C X.env) fp) where
  K := O.K
  pr := O.pr
  wd := O.wd
  calm := O.calm
  un := O.un
  mg := O.mg
  eN := O.eN
  eS := by show relS scope X.env.scope = _; rw [O.eS]
  nd := O.nd
  tab := O.tab.up _
  tk := fun u s' ⟨_, _, _, _, _, _, _, _, _, _, _, _, _, _, _, _, w⟩ => w.elim
  fnat := fun l => by rw [GC.up_up]; exact O.fnat _
theorem SOk.blk (O : XOk G cl N sc W X) (s : Shared) (H : Hp) (scope : Scope) (C : Addr) (cl' : List (Str × Addr)) (fp : List Addr) : SOk N scope (X.blk s H scope (compEnvC scope cl' C X.env) fp) where
  nd := by show X.N.Nodup; rw [O.eN]; exact O.nd
  eN := O.eN
  put := fun x h => by
    unfold sto at h
    split at h
    · next e =>
      have e2 : (relS scope X.env.scope).names.lookup x = some .local := lookup_relS_keep (by decide) e
      exact ⟨.inl e2, .inr e2⟩
    · next e =>
      have e2 : (relS scope X.env.scope).names.lookup x = some .cell := lookup_relS_keep (by decide) e
      exact ⟨.inr e2, .inl (by show (scope.names.lookup x == some .cell) = true; rw [e]; rfl)⟩
    · cases h
/-- for some object in the making -/
def exT (f : Addr → TE) : TE := fun σ H Q => ∃ p, f p σ H Q
def exB (f : Addr → TT) : TT := fun σ H Q => ∃ p, f p σ H Q
def exG (f : Addr → TG) : TG := fun v σ H Q => ∃ p, f p v σ H Q
theorem pe_ex {e : Expr} {f : Addr → TE} (h : ∀ p, PE X e (f p)) : PE X e (exT f) := ⟨fun pins s σ H Q I ⟨p, q⟩ => (h p).run pins s σ H Q I q⟩
theorem pts_ex {e : List Expr} {f : Addr → TT} (h : ∀ p, PTs X e (f p)) : PTs X e (exB f) := ⟨fun pins s σ H Q I ⟨p, q⟩ => (h p).run pins s σ H Q I q⟩
theorem pg_ex {e : Expr} {f : Addr → TG} (h : ∀ p, PG X e (f p)) : PG X e (exG f) := ⟨fun pins s σ H v u Q I r ⟨p, q⟩ => (h p).run pins s σ H v u Q I r q⟩
theorem tests_no : PTs X [] (tB G W fun _ S => .ok true S) := ⟨fun pins s σ H Q I ⟨m, τ, S, rel, sim, q⟩ => pts_nil.run pins s σ H Q I (Post.done (R1 := fun _ _ (d v : Bool) => v = d) (d := true) q sim rfl)⟩
theorem tests_one {c : Expr} {r : Slots → Store → R Bool} (h : PT X c (tB G W r)) : PTs X [c] (tB G W r) := pts_one h

theorem wipe_wipe (σ : St) (vs : List Nat) : L2.wipe (L2.wipe σ vs) vs = L2.wipe σ vs := by
  refine wipe_chg (fun i hi => ?_) (wipe_length σ vs)
  induction vs with
  | nil => rfl
  | cons v vs ih =>
    simp only [List.mem_cons, not_or] at hi
    unfold L2.wipe
    rw [List.getElem?_set_ne (fun z => hi.1 z.symm)]
    exact ih hi.2
def lcG (G : GC) (t : CT) : TG := exG fun p => gT (G.up [p]) t
def lcT (G : GC) (rc : Slots → Store → R Bool) : TT := exB fun p => tB (G.up [p]) W0 rc
def lcE (G : GC) (re : Slots → Store → R D) : TE := exT fun p => tE (G.up [p]) W0 re
def lcR (mu : Bool) (t : CT) (own : List (Str × Nat)) (ri : Slots → Store → R Items) (rc : Slots → Store → R Bool) (re : Slots → Store → R D) : Slots → Store → R D :=
  fun τ S => (ri τ S).bind fun I S => (noR (compL I (bindT t) rc re I.xs (wipeS τ own) S)).bind fun ys S => mkL mu ys S
theorem lc_imp {mu : Bool} {t : CT} {own : List (Str × Nat)} {ri : Slots → Store → R Items} {rc : Slots → Store → R Bool} {re : Slots → Store → R D} (sub : ∀ i ∈ t.sl, i ∈ own.map (·.2)) {σ : St} {H : Hp} {Q : VK}
    (q : tE G W (lcR mu t own ri rc re) σ H Q) : tLc (tIt G W ri) (lcG G t) (lcT G rc) (lcE G re) (own.map (·.2)) σ H Q := by
  obtain ⟨m, τ, S, rel, sim, q⟩ := q
  refine tR.seq rel sim q fun m1 H1 I S1 J e1 rel1 sim1 jw p => fun D nD => ?_
  cases ec : compL I (bindT t) rc re I.xs (wipeS τ own) S1 with
  | bad => rw [ec] at p; exact p.elim
  | ex c pl S => rw [ec] at p; exact p.elim
  | ok ysF SF =>
    rw [ec] at p
    have p : PostE G W m1 σ H1 (mkL mu ysF SF) Q := p
    have fD : ∀ a ∈ [D], H1 a = none := fun a h => by cases List.mem_singleton.mp h; exact nD
    have nav : D ∉ G.av := fun h => by
      obtain ⟨⟨o, e⟩, _⟩ := sim1.live D h
      rw [nD] at e; cases e
    have inav : D ∈ (G.up [D]).av := List.mem_append.mpr (.inl (by simp))
    refine ⟨fun i k H' => k + i = I.xs.length ∧ ∃ m' S' vs ys zs, Ext m1 H1 m' H' ∧ Sim (G.up [D]) m' H' S' ∧ H' D = some (.lst vs) ∧ vs.length ≤ i ∧ RepL (G.up [D]) m' H' ys vs ∧ compL I (bindT t) rc re (I.xs.drop i) (wipeS τ own) S' = .ok zs SF ∧ ysF = ys ++ zs, ⟨I.xs.length, rfl, m1, S1, [], [], ysF, ?_, ?_, upd_same, Nat.le_refl _, .nil, by simpa using ec, rfl⟩, ?_⟩
    · exact (sim1.make nD).1
    · exact (sim1.make nD).2
    rintro i k H' ⟨hk, m', S', vs, ys, zs, ext, sim', hD, hv, rl, ec', ey⟩
    have few := jw.few
    by_cases hl : i < I.xs.length
    · right
      have ed : I.xs.drop i = I.xs[i] :: I.xs.drop (i + 1) := List.drop_eq_getElem_cons hl
      rw [ed] at ec'
      simp only [compL] at ec'
      cases st : I.still S' with
      | false => rw [st] at ec'; simp at ec'
      | true =>
        rw [st] at ec'
        simp only [if_true] at ec'
        obtain ⟨g1, g2⟩ := jw.go [D] i m' H' S' fD ext sim' st hl
        refine ⟨g1, fun H2 => ∃ k', k' < k ∧ k' + (i + 1) = I.xs.length ∧ ∃ m' S' vs ys zs, Ext m1 H1 m' H2 ∧ Sim (G.up [D]) m' H2 S' ∧ H2 D = some (.lst vs) ∧ vs.length ≤ i + 1 ∧ RepL (G.up [D]) m' H2 ys vs ∧ compL I (bindT t) rc re (I.xs.drop (i + 1)) (wipeS τ own) S' = .ok zs SF ∧ ysF = ys ++ zs, fun _ h => h, fun x H2 y => ?_⟩
        obtain ⟨ext2, sim2, d, exd, rd⟩ := g2 x H2 y
        rw [List.getElem?_eq_getElem hl, Option.some.injEq] at exd
        subst exd
        have ext12 := ext.trans ext2
        have relw : RelS (G.up [D]) m' H2 (L2.wipe σ (own.map (·.2))) (wipeS τ own) := ((rel1.up fD).ext ext12).wipe own
        refine ⟨D, m', wipeS τ own, S', I.xs[i], relw, sim2, rd, ?_⟩
        cases hb : bindT t I.xs[i] (wipeS τ own) with
        | none => rw [hb] at ec'; cases ec'
        | some τ' =>
          rw [hb] at ec'
          replace ec' : (rc τ' S').bind (fun b S => if b then (re τ' S).bind fun y S => (compL I (bindT t) rc re (I.xs.drop (i + 1)) (wipeS τ own) S).bind fun ys S => .ok (y :: ys) S else compL I (bindT t) rc re (I.xs.drop (i + 1)) (wipeS τ own) S) = .ok zs SF := ec'
          intro σ2 rel2 chg
          refine ⟨?_, D, m', τ', S', rel2, sim2, ?_⟩
          · have h1 := wipe_chg (vs := own.map (·.2)) (fun i hi => chg i fun h => hi (sub i h)) (relw.lens rel2 (bindT_len hb))
            rw [h1, wipe_wipe]
          cases hc : rc τ' S' with
          | bad => rw [hc] at ec'; cases ec'
          | ex _ _ _ => rw [hc] at ec'; cases ec'
          | ok b S3 =>
            rw [hc] at ec'
            intro m3 H3 b' ext3 sim3 eb
            subst eb
            cases b' with
            | false =>
              rw [if_neg Bool.false_ne_true]
              have keep := ext2.keep D _ (sim'.live D inav).2 (by intro _ z; cases z) hD
              have keep3 := ext3.keep D _ keep.2 (by intro _ z; cases z) keep.1
              exact ⟨k - 1, by omega, by omega, m3, S3, vs, ys, zs, ext12.trans ext3, sim3, keep3.1, by omega, (rl.ext ext2).ext ext3, ec', ey⟩
            | true =>
              rw [if_pos rfl]
              replace ec' : (re τ' S3).bind (fun y S => (compL I (bindT t) rc re (I.xs.drop (i + 1)) (wipeS τ own) S).bind fun ys S => .ok (y :: ys) S) = .ok zs SF := ec'
              refine ⟨D, m3, τ', S3, rel2.ext ext3, sim3, ?_⟩
              cases hr : re τ' S3 with
              | bad => rw [hr] at ec'; cases ec'
              | ex _ _ _ => rw [hr] at ec'; cases ec'
              | ok y4 S4 =>
                rw [hr] at ec'
                replace ec' : (compL I (bindT t) rc re (I.xs.drop (i + 1)) (wipeS τ own) S4).bind (fun ys S => .ok (y4 :: ys) S) = .ok zs SF := ec'
                cases hz : compL I (bindT t) rc re (I.xs.drop (i + 1)) (wipeS τ own) S4 with
                | bad => rw [hz] at ec'; cases ec'
                | ex _ _ _ => rw [hz] at ec'; cases ec'
                | ok zs4 S5 =>
                  rw [hz] at ec'
                  have e5 : y4 :: zs4 = zs ∧ S5 = SF := by
                    have q : R.ok (y4 :: zs4) S5 = R.ok zs SF := ec'
                    injection q with q1 q2
                    exact ⟨q1, q2⟩
                  obtain ⟨e5, e6⟩ := e5
                  subst e6
                  intro m4 H4 v4 ext4 sim4 r4
                  have keep := ext2.keep D _ (sim'.live D inav).2 (by intro _ z; cases z) hD
                  have keep3 := ext3.keep D _ keep.2 (by intro _ z; cases z) keep.1
                  have keep4 := ext4.keep D _ keep3.2 (by intro _ z; cases z) keep3.1
                  refine ⟨vs, keep4.1, by rw [← big_eq]; omega, k - 1, by omega, by omega, m4, S4, vs ++ [v4], ys ++ [y4], zs4, (ext12.trans (ext3.trans ext4)).upd nD, sim4.av inav, upd_same, by simp; omega, ?_, hz, by rw [ey, ← e5]; simp⟩
                  exact ((((rl.ext ext2).ext ext3).ext ext4).app (.cons r4 .nil)).av inav
    · left
      have hi2 : i = I.xs.length := by omega
      subst hi2
      rw [List.drop_length] at ec'
      simp only [compL] at ec'
      cases st : I.still S' with
      | false => rw [st] at ec'; simp at ec'
      | true =>
        rw [st] at ec'
        have e5 : [] = zs ∧ S' = SF := by
          have q : R.ok ([] : List Ev.D) S' = R.ok zs SF := by simpa using ec'
          injection q with q1 q2
          exact ⟨q1, q2⟩
        obtain ⟨e5, e6⟩ := e5
        subst e5; subst e6
        rw [List.append_nil] at ey
        subst ey
        refine ⟨jw.stop [D] m' H' S' ext sim' st, ?_⟩
        have hz : vs.length ≤ big := Nat.le_trans hv few
        cases mu with
        | false =>
          refine p m' H' (.ref D) ext sim'.dn ?_
          simp only [Rep]
          exact ⟨D, vs, rfl, hz, rl.dn, hD, (sim'.live D inav).2, nav⟩
        | true =>
          refine p (m' ++ [D]) H' (.ref D) (ext.born nD) (sim'.born nav ⟨vs, hD, hz, rl⟩) ?_
          simp only [Rep]
          refine ⟨D, rfl, ?_⟩
          rw [← sim'.len, List.getElem?_append_right (Nat.le_refl _)]
          simp
section
variable {elt tg iter : Expr} {ifs : List Expr} {scope : Scope} {own : List (Str × Nat)} {pos : Pos} {mu : Bool} {t : CT} {ri : Slots → Store → R Items} {rc : Slots → Store → R Bool} {re : Slots → Store → R D}
theorem lc_sub (O : XOk G cl N sc W X) (hg : chkT N scope (some (own.map (·.2))) t tg = true) : ∀ i ∈ t.sl, i ∈ own.map (·.2) :=
  (gt_ok (XOk.toAt (O.blk 0 X.s_0 X.H_0 scope 0 [] [])) (SOk.blk O X.s_0 X.H_0 scope 0 [] []) hg).2 _ rfl
theorem lc_g (O : XOk G cl N sc W X) (hg : chkT N scope (some (own.map (·.2))) t tg = true) (s : Shared) (H : Hp) (C : Addr) (cl' : List (Str × Addr)) (fp : List Addr) : PG (X.blk s H scope (compEnvC scope cl' C X.env) fp) tg (lcG G t) :=
  pg_ex fun p => (gt_ok (XOk.toAt (O.blk p s H scope C cl' fp)) (SOk.blk O s H scope C cl' fp) hg).1
theorem lc_bk (O : XOk G cl N sc W X) (ok : blkC N sc scope own = true) : BlkOk X.N X.env.scope scope own := by rw [O.eN, O.eS]; exact blkOk_by ok
theorem ex_comp (O : XOk G cl N sc W X)
    (hi : PI X tg iter (tIt G W ri)) (pl : plainE iter = true) (ok : blkC N sc scope own = true) (hg : chkT N scope (some (own.map (·.2))) t tg = true)
    (ht : ∀ p s H C cl' fp, PTs (X.blk s H scope (compEnvC scope cl' C X.env) fp) ifs (tB (G.up [p]) W0 rc)) (he : ∀ p s H C cl' fp, PE (X.blk s H scope (compEnvC scope cl' C X.env) fp) elt (tE (G.up [p]) W0 re)) :
    PE X (.ListComp elt [⟨tg, iter, ifs, 0⟩] scope pos) (tE G W (lcR mu t own ri rc re)) :=
  (pe_lc O.calm (by rw [O.eN]; exact O.nd) hi (lc_bk O ok) (g := lcG G t) (tt := lcT G rc) (te := lcE G re)
    (lc_g O hg) (fun s H C cl' fp => pts_ex fun p => ht p s H C cl' fp) (fun s H C cl' fp => pe_ex fun p => he p s H C cl' fp) (fun x => plain_fold pl x)).imp fun σ H Q q => lc_imp (lc_sub O hg) q
/-- name = comprehension, the name taken out of the frame for the while -/
theorem st_lc (O : XOk G cl N sc W X) {i : Nat} {y : Str} {py spos : Pos} (hy : N[i]? = some y) (hyl : X.env.scope.names.lookup y = some .local) (hsw : swapsWith (.ListComp elt [⟨tg, iter, ifs, 0⟩] scope pos) (some (.Name y py)) spos.line X.env = pure true)
    (hi : PI X tg iter (tIt G W ri)) (pl : plainE iter = true) (ok : blkC N sc scope own = true) (hg : chkT N scope (some (own.map (·.2))) t tg = true)
    (ht : ∀ p s H C cl' fp, PTs (X.blk s H scope (compEnvC scope cl' C X.env) fp) ifs (tB (G.up [p]) W0 rc)) (he : ∀ p s H C cl' fp, PE (X.blk s H scope (compEnvC scope cl' C X.env) fp) elt (tE (G.up [p]) W0 re)) :
    PS X (.Assign [.Name y py] (.ListComp elt [⟨tg, iter, ifs, 0⟩] scope pos) spos) (tAsg (tE G W (lcR mu t own ri rc re)) (gName i)) :=
  (ps_setLc O.calm (by rw [O.eN]; exact O.nd) (by rw [O.eN]; exact hy) hyl hsw hi (lc_bk O ok) (g := lcG G t) (tt := lcT G rc) (te := lcE G re)
    (lc_g O hg) (fun s H C cl' fp => pts_ex fun p => ht p s H C cl' fp) (fun s H C cl' fp => pe_ex fun p => he p s H C cl' fp) (fun x => plain_fold pl x)).imp fun D σ H q => lc_imp (lc_sub O hg) q
end
end
end Ev
/-! Ev, part S: sorted(set(xs)) of any number of ints. -/
namespace Ev
open PySem L2 PySem.Spec PyProof.Rows
abbrev set00 (b : Bool) : Obj := { cls := .type "set", dict := none, data := .set #[] 0 (.fresh 0 0 b) }
section
variable {P : Program} {w : World} {A : Around} {E : Value → Shared → Prop} {s : Shared}
/-- set(xs) of a list of ints, with all that a walk over it wants -/
theorem set_of_ints {src : Addr} {its : Array Value} (ns : List Int) {Q : Value → Shared → Prop} (nh : A.handled = none) (il : s.heap.IsList src its) (ii : IntsAre its.toList ns) (few : ns.length + 1 < scanBound)
    (k : ∀ (h2 : Heap) (t2 c2 : Nat), SetR w h2 s.heap.objs.size (fun j => decide (j ∈ ns)) c2 → c2 ≤ ns.length → (∀ b o, s.heap.get? b = some o → h2.get? b = some o) → Q (.ref s.heap.objs.size) { s with heap := h2, toks := t2 }) :
    wpAny (model P w) A (call (.type "set") [.ref src]) Q E s := by
  have len : its.size = ns.length := by have := IntsAre.length ii; rw [← this]; simp
  obtain ⟨m1, m2, m3⟩ := F.called_set.mro; have m4 := F.called_set.made; have m5 := F.called_set.sub
  refine wpAny_call (codeAny_of_tree (show wpAny _ _ (callAny (.type "set") _) _ _ _ from wpAny_pure ⟨Code.quiet_builtin _ (by decide +kernel), codeAny_builtin F.entry_type_call ?_⟩))
  rw [Around.under_plain (weight_type_call_type "set" [.ref src] []) rfl]; have m6 := F.called_set.notType; have m7 := F.called_set.canCreate
  have m8 := F.typeCall_set_1 (.ref src)
  repeat (any_goals (first | assumption | wp_step))
  refine codeAny_mono (code_set_led1 (.ref src) (E := E) (Q₁ := fun ob s₁ => ob = .ref s.heap.objs.size ∧ s₁ = { s with heap := s.heap.push (set00 (!w.params.followText "set-order")) }) ⟨rfl, rfl⟩) fun r s₁ hr => ?_
  cases r with
  | error e => exact hr
  | ok fl =>
    cases fl with
    | ret ob =>
      obtain ⟨rfl, rfl⟩ := hr
      have g0 : (s.heap.push (set00 (!w.params.followText "set-order"))).get? s.heap.objs.size = some (set00 (!w.params.followText "set-order")) := Heap.get?_push_size _ rfl
      have ty : Shared.TypeIs { s with heap := s.heap.push (set00 (!w.params.followText "set-order")) } (.ref s.heap.objs.size) "set" := ⟨_, g0, rfl⟩
      have n1 := F.called_set.init.lookup; have n2 := F.called_set.init.bind (.ref s.heap.objs.size)
      repeat (any_goals (first | assumption | wp_step))
      refine codeAny_mono (codeAny_call_builtin (R := wants (fun r s₂ => r = .none ∧ ∃ h2 t2 c2, s₂ = { s with heap := h2, toks := t2 } ∧ SetR w h2 s.heap.objs.size (fun j => decide (j ∈ ns)) c2 ∧ c2 ≤ ns.length ∧ (∀ b o, s.heap.get? b = some o → h2.get? b = some o)) E)
        F.called_set.init.plain F.entry_set_init (check_set_init_1 ty ?_)) fun r₂ s₂ hr₂ => ?_
      · obtain ⟨⟨c0, d0, dt0, sl0⟩, e0, e1, n0, e2⟩ := il
        simp only at e1 e2
        subst e1; subst e2
        have eo : (s.heap.push (set00 (!w.params.followText "set-order"))).get? src = some { cls := .type "list", dict := d0, data := .seq its n0, slots := sl0 } := Heap.get?_push_of_some _ e0
        have u1 := F.sub_list_set; have u2 := F.sub_list_frozenset
        have u3 : (Value.type "list" == Value.type "dict") = false := by decide
        have li : (s.heap.push (set00 (!w.params.followText "set-order"))).IsList src its := ⟨_, eo, rfl, n0, rfl⟩
        unfold Builtin.«set.__init__» noKeywords Builtin.Frozenset.updateFrom
        generalize gPI : pyIter = PI
        wp_walk
        subst gPI
        refine wpAny_pyIter_list li (wpAny_bind (wpAny_runValue ?_))
        have lt0 : src < s.heap.objs.size := Heap.lt_size e0
        have nh3 : A.in1.in1.in1.handled = none := by simp [nh]
        have sz : (s.heap.push (set00 (!w.params.followText "set-order"))).objs.size = s.heap.objs.size + 1 := Heap.size_push ..
        have ne1 : src ≠ (s.heap.push (set00 (!w.params.followText "set-order"))).objs.size := by rw [sz]; exact Nat.ne_of_lt (Nat.lt_succ_of_lt lt0)
        have nf : s.heap.objs.size ∉ [(s.heap.push (set00 (!w.params.followText "set-order"))).objs.size, src] := by
          rw [sz]; simp only [List.mem_cons, List.not_mem_nil, or_false, not_or]; exact ⟨Nat.ne_of_lt (Nat.lt_succ_self _), Nat.ne_of_gt lt0⟩
        have val : ∀ (i : Nat) (v : Value), its[i]? = some v → ∃ j t, ns[i]? = some j ∧ v = .int j t := fun i v hv => by
          have hi : i < ns.length := by rw [← len]; exact (Array.getElem?_eq_some_iff.mp hv).1
          obtain ⟨t, e⟩ := IntsAre.int_at ii i v (by rw [Array.getElem?_toList]; exact hv)
          exact ⟨ns[i], t, List.getElem?_eq_getElem hi, by rw [e, List.getD_eq_getElem?_getD, List.getElem?_eq_getElem hi]; rfl⟩
        refine set_update_ints ((Walks.list nh3 _ src ne1 its).toS) s.heap.objs.size nf ns len few val (its.size - 0) 0 _ (by omega) (Nat.zero_le _)
          ⟨⟨_, Heap.get?_push_size _ rfl, rfl, rfl⟩, (li.push _)⟩ ⟨0, Nat.le_refl 0, setR_new_at (Heap.get?_push_of_some _ g0)⟩ ?_
        intro s3 c3 mv hc hS
        obtain ⟨h3, g3, d3, t3, o3⟩ := s3
        have q1 : g3 = s.gens := mv.gens
        have q2 : d3 = s.drawn := mv.drawn
        have q3 : o3 = s.os := mv.os
        subst q1 q2 q3
        refine wpAny_pure (show wpAny _ _ (ret Value.none) _ _ _ from wpAny_pure ⟨rfl, h3, t3, c3, rfl, hS, by rw [← len]; exact hc, fun b o e => ?_⟩)
        have lb : b < s.heap.objs.size := Heap.lt_size e
        exact mv.heap b o (by rw [sz]; simp only [List.mem_cons, List.not_mem_nil, or_false, not_or]; exact ⟨Nat.ne_of_lt lb, Nat.ne_of_lt (Nat.lt_succ_of_lt lb)⟩) (Heap.get?_push_of_some _ (Heap.get?_push_of_some _ e))
      · cases r₂ with
        | error e => exact hr₂
        | ok fl₂ =>
          cases fl₂ with
          | ret r =>
            obtain ⟨rfl, h2, t2, c2, rfl, hS, hc, hk⟩ := hr₂
            repeat (any_goals (first | assumption | wp_step))
            exact k _ _ _ hS hc hk
          | _ => exact hr₂.elim
    | _ => exact hr.elim
/-- sorted(a set of ints) -/
theorem sorted_set_any {a : Addr} {S : Int → Bool} {n : Nat} {Q : Value → Shared → Prop} (R : SetR w s.heap a S n) (nh : A.handled = none)
    (k : ∀ s2 p (out : Array Value) (c : Nat) (ns : List Int), (∀ b o, s.heap.get? b = some o → s2.heap.get? b = some o) → s2.gens = s.gens → s2.os = s.os → s.heap.objs.size ≤ p →
      s2.heap.get? p = some (seqObj "list" out c) → IntsAre out.toList ns → ns.Pairwise (· < ·) → (∀ j, j ∈ ns ↔ S j = true) → ns.length = n → Q (.ref p) s2) :
    wpAny (model P w) A (call (.builtin "sorted") [.ref a]) Q E s := by
  obtain ⟨o, es, ep, t, e1, ex, e2, good, nd, mem, few, fit, sz, ris, led⟩ := R
  refine Calls.call_function_entry kind_sorted plain_sorted entry_sorted (args_sorted1 _) ?_
  unfold Builtin.«sorted»
  refine wpAny_bind (m := checkCount "sorted" 1 1 _) (wpAny_pure (wpAny_bind (collect_set (A := A.in1) nh ⟨o, e1, ex.1, e2⟩ fit few ris led fun s1 vs k1 z1 g1 o1 pm => ?_)))
  have vl : vs.length = n := by rw [pm.length_eq, List.length_map, Array.length_toList]; exact sz
  have vi : IntsAre vs (vs.map SrtO.iv) := SrtO.ints_iv fun v hv => by
    obtain ⟨e, he, q⟩ := List.mem_map.mp (pm.mem_iff.mp hv)
    obtain ⟨j, tk, h1, _⟩ := good e he
    exact ⟨j, tk, by rw [← q]; exact h1⟩
  have pk : (vs.map SrtO.iv).Perm (es.toList.map keyOf) := by
    have q := pm.map SrtO.iv
    rw [List.map_map] at q
    have e : es.toList.map (SrtO.iv ∘ fun x => x.2) = es.toList.map keyOf := List.map_congr_left fun e he => by
      obtain ⟨j, tk, h1, h2⟩ := good e he
      simp only [Function.comp, keyOf, h1]; rfl
    rwa [e] at q
  have lim : vs.length ≤ sizeLine := by have : scanBound = 4096 := rfl; rw [vl, sizeLine_eq]; omega
  refine wpAny_bind (wpAny_newList ?_ lim)
  have oL : (s1.heap.push (seqObj "list" vs.toArray 0)).get? s1.heap.objs.size = some (seqObj "list" vs.toArray 0) := Heap.get?_push_size _ rfl
  refine wpAny_bind (wpAny_holding (wpAny_call_entry slot_list_sort ⟨_, oL, rfl⟩ entry_list_sort (SrtO.list_sort_ord SrtO.swo_int oL lim (fun h2 => SrtO.ints_sortable vi h2) fun out h1 h2 => ⟨_, rfl, ?_⟩) (args_list_sort _)))
  obtain ⟨b1, b2, b3⟩ := SrtO.ints_out vi h1 h2
  obtain ⟨c, hc⟩ := sortedHeap_at (vs := vs) (out := out.toArray) oL
  have pn : (out.map SrtO.iv).Perm (es.toList.map keyOf) := b2.trans pk
  refine wpAny_pure ⟨_, rfl, k _ s1.heap.objs.size out.toArray c (out.map SrtO.iv) (fun b u e => ?_) g1 o1 z1 hc b1 (lt_of_le_nodup _ b3 (pn.nodup_iff.mpr nd)) (fun j => by rw [pn.mem_iff, ← mem j]) (by rw [pn.length_eq, List.length_map, Array.length_toList]; exact sz)⟩
  have q := k1 b u e
  have lt := Heap.lt_size q
  show (sortedHeap (s1.heap.push (seqObj "list" vs.toArray 0)) s1.heap.objs.size vs out.toArray).get? b = some u
  rw [sortedHeap_old (Nat.ne_of_lt lt) (by rw [size_push']; exact Nat.lt_succ_of_lt lt), Heap.get?_push_of_some _ q]
end
end Ev
/-! Ev, part S2: sorted(set(xs)). -/
namespace Ev
open PySem L2
section
variable {G : GC} {cl : Nat → List D → Store → R D} {N : List Str} {sc : Scope} {W : WX} {X : Cx} {ra : Slots → Store → R D} {a : Expr} {pos : Pos}
theorem asc_unlike {ns ms : List Int} (h1 : ms.Pairwise (· < ·)) (h2 : ∀ j, j ∈ ms ↔ j ∈ ns) : ms = isort (unlike ns) := by
  refine isort_of ?_ (h1.imp fun {a b} q => Int.le_of_lt q)
  refine (List.perm_ext_iff_of_nodup (h1.imp fun {a b} q => Int.ne_of_lt q) (unlike_nodup ns).1).mpr fun j => ?_
  rw [h2, (unlike_nodup ns).2]
theorem ex_sset (O : XOk G cl N sc W X) {p p2 q : Pos} (hg : glb sc "sorted" = true) (hb : G.T.blts.contains ("sorted" : Str) = true) (hg2 : glb sc "set" = true) (hb2 : G.T.blts.contains ("set" : Str) = true) (ha : PE X a (tE G W ra)) (pa : plainE a = true) :
    PE X (.Call (.Name "sorted" p) [.Call (.Name "set" p2) [a] [] q] [] pos) (tE G W fun τ S => (ra τ S).bind ssetR) := by
  obtain ⟨g1, g2, g3⟩ := glb_gl O hg
  obtain ⟨f1, f2, f3⟩ := glb_gl O hg2
  have na : starEach [a] X.env = (false, eval a X.env) :: starEach [] X.env := star_cons pa
  refine ⟨fun pins s σ H Q I ⟨m, τ, S, rel, sim, qq⟩ => ?_⟩
  refine PyProof.Rows.Call_ (ld_blt I g1 (blt_none O hb) PyProof.Rows.boot_sorted ?_)
  refine PyProof.Rows.callWith_builtin1 (PyProof.Rows.args_cons ?_ rfl) rfl rfl
  refine PyProof.Rows.Call_ (ld_blt I f1 (blt_none O hb2) PyProof.Rows.boot_set ?_)
  have ne : ∀ d S, NoEx (ssetR d S) := fun d S => by
    unfold ssetR
    split
    · exact noex_if
    · trivial
  have h1 := ha.run pins s σ H (fun x H1 => ∃ m S d, Rep G m H1 d x ∧ Sim G m H1 S ∧ P0 G m H1 (ssetR d S) Q) I (tR.seq rel sim qq fun m1 H1 d S1 v e1 rel1 sim1 r1 p => ⟨m1, S1, d, r1, sim1, p.any (ne _ _)⟩)
  refine PyProof.Rows.callWith_type1 (PyProof.Rows.args_cons (thn h1 fun v s1 ⟨x, H1, I1, r1, m1, S1, d, hd, sim1, p⟩ => PyProof.Rows.args_nil ?_) na) na rfl
  unfold ssetR at p
  cases en : (lstOf S1 d).bind allI with
  | none => rw [en] at p; exact p.elim
  | some ns =>
    rw [en] at p
    obtain ⟨hl, p⟩ := Post.if_ p
    have hl : ns.length < 4000 := of_decide_eq_true hl
    obtain ⟨l, rfl, sq, z⟩ := lst_ints sim1 hd en
    cases r1
    obtain ⟨its, r, pl, hz⟩ := I1.list (.of sq)
    have bd : scanBound = 4096 := rfl
    refine set_of_ints ns (I1.ok.hd O.calm) pl.isList (by simpa using ints_of_vals r) (by omega) fun h' tk c hS hc hk => ?_
    have I2 : Inv X pins σ H1 { s1 with heap := h', toks := tk } := I1.kept hk
    refine PyProof.Rows.args_nil (sorted_set_any (s := { s1 with heap := h', toks := tk }) hS (I1.ok.hd O.calm) fun s2 p2 out c2 ms k2 g o hp hget hi hs hm hlen => ?_)
    have e := asc_unlike (ns := ns) hs fun j => by rw [hm]; simp
    have lim : (ms.map V.int).length ≤ sizeLine := by rw [List.length_map, sizeLine_eq]; omega
    have hn : H1 p2 = none := I2.hok.fresh hp
    have J : Inv X pins σ (upd H1 p2 (.lst (ms.map V.int))) { ({ s1 with heap := h', toks := tk } : Shared) with heap := s2.heap, gens := s2.gens, drawn := s2.drawn, toks := s2.toks } :=
      I2.call (ch := []) (Un.laid k2 hp hn) (I2.hok.laid k2 hp ⟨lim, out.toList, c2, vals_of_ints hi, hget⟩) (by rw [g]; exact I2.bare) (fun _ z => nomatch z)
    have e2 : s2 = { s1 with heap := s2.heap, gens := s2.gens, drawn := s2.drawn, toks := s2.toks } := by
      cases s2; cases s1; cases o; rfl
    rw [e2]
    refine ⟨.ref p2, _, J, rfl, ?_⟩
    subst e
    exact Post.new (R1 := Rep G) (d := .lst ((isort (unlike ns)).map .int)) p sim1 hn fun ext np => rep_newL (repL_ofInts _) (by rw [big_eq]; exact lim) ext np
/-- tuple(range(a, b)), list(range(a, b)) -/
theorem rgV_rep {m : List Addr} {H : Hp} (i j : Int) : RepL G m H (rangeD i j) (rgV i j) := by
  have e : rangeD i j = ((List.range (j - i).toNat).map fun (k : Nat) => i + (k : Int)).map .int := by simp [rangeD]
  have e2 : rgV i j = ((List.range (j - i).toNat).map fun (k : Nat) => i + (k : Int)).map V.int := by simp [rgV]
  rw [e, e2]
  exact repL_ofInts _
theorem noex_trng (tu : Bool) (x y : D) (S : Store) : NoEx (trngR tu x y S) := by
  unfold trngR
  split
  · exact noex_if
  · trivial
theorem trng_fin {m : List Addr} {H : Hp} {S : Store} {Q : VK} {tu : Bool} {i j : Int} (sim : Sim G m H S) (p : P0 G m H (trngR tu (.int i) (.int j) S) Q) :
    RgOk i j ∧ ∀ q, H q = none → Q (.ref q) (upd H q (if tu then .tup (rgV i j) else .lst (rgV i j))) := by
  obtain ⟨c, p⟩ := Post.if_ p
  simp only [smallR, Bool.and_eq_true, decide_eq_true_eq] at c
  have hz : (rgV i j).length ≤ big := by simp only [rgV, List.length_map, List.length_range]; omega
  refine ⟨⟨c.1.1.1.1, c.1.1.1.2, c.1.1.2, c.1.2, by have := c.2; have : big = 2 ^ 24 := rfl; omega⟩, fun q hq => ?_⟩
  cases tu with
  | true => exact Post.new (R1 := Rep G) (d := .tup (rangeD i j)) p sim hq fun e n => rep_newT (rgV_rep i j) hz e n
  | false => exact Post.new (R1 := Rep G) (d := .lst (rangeD i j)) p sim hq fun e n => rep_newL (rgV_rep i j) hz e n
variable {rb : Slots → Store → R D} {b : Expr}
theorem ex_trng2 (O : XOk G cl N sc W X) {tu : Bool} {p p2 q : Pos} (hg : glb sc (if tu then "tuple" else "list") = true) (hb : G.T.blts.contains (if tu then ("tuple" : Str) else "list") = true) (hg2 : glb sc "range" = true) (hb2 : G.T.blts.contains ("range" : Str) = true)
    (ha : PE X a (tE G W ra)) (pa : plainE a = true) (hc : PE X b (tE G W rb)) (pb : plainE b = true) :
    PE X (.Call (.Name (if tu then "tuple" else "list") p) [.Call (.Name "range" p2) [a, b] [] q] [] pos) (tE G W fun τ S => (ra τ S).bind fun x S => (rb τ S).bind (trngR tu x)) := by
  obtain ⟨g1, g2, g3⟩ := glb_gl O hg
  obtain ⟨f1, f2, f3⟩ := glb_gl O hg2
  have na : starEach [a, b] X.env = (false, eval a X.env) :: starEach [b] X.env := star_cons pa
  have nb : starEach [b] X.env = (false, eval b X.env) :: starEach [] X.env := star_cons pb
  have rg := prg_2 (p := p2) (pos := q) f1 (blt_none O hb2) ha hc na nb (star_none (by simp [pb]))
  have key : ∀ σ H Q, (tE G W fun τ S => (ra τ S).bind fun x S => (rb τ S).bind (trngR tu x)) σ H Q → tRg2 (tE G W ra) (tE G W rb) σ H fun i j H1 => RgOk i j ∧ ∀ q, H1 q = none → Q (.ref q) (upd H1 q (if tu then .tup (rgV i j) else .lst (rgV i j))) := by
    rintro σ H Q ⟨m, τ, S, rel, sim, qq⟩
    refine tR.seq rel sim qq fun m1 H1 d S1 v e1 rel1 sim1 r1 p => tR.seq rel1 sim1 p fun m2 H2 d2 S2 v2 e2 rel2 sim2 r2 p2 => ?_
    have p3 : P0 G m2 H2 (trngR tu d d2 S2) Q := p2.any (noex_trng _ _ _ _)
    cases d <;> first | exact p3.elim | skip
    cases d2 <;> first | exact p3.elim | skip
    replace r1 := r1.ext e2
    simp only [Rep] at r1 r2
    exact ⟨_, _, r1, r2, trng_fin sim2 p3⟩
  cases tu with
  | true => exact (pe_tupRg (p := p) (pos := pos) O.calm g1 (blt_none O hb) rg).imp key
  | false => exact (pe_listRg (p := p) (pos := pos) O.calm g1 (blt_none O hb) rg).imp key
theorem ex_trng1 (O : XOk G cl N sc W X) {tu : Bool} {p p2 q : Pos} (hg : glb sc (if tu then "tuple" else "list") = true) (hb : G.T.blts.contains (if tu then ("tuple" : Str) else "list") = true) (hg2 : glb sc "range" = true) (hb2 : G.T.blts.contains ("range" : Str) = true)
    (ha : PE X a (tE G W ra)) (pa : plainE a = true) :
    PE X (.Call (.Name (if tu then "tuple" else "list") p) [.Call (.Name "range" p2) [a] [] q] [] pos) (tE G W fun τ S => (ra τ S).bind (trngR tu (.int 0))) := by
  obtain ⟨g1, g2, g3⟩ := glb_gl O hg
  obtain ⟨f1, f2, f3⟩ := glb_gl O hg2
  have na : starEach [a] X.env = (false, eval a X.env) :: starEach [] X.env := star_cons pa
  have rg := prg_1 (p := p2) (pos := q) f1 (blt_none O hb2) ha na
  have key : ∀ σ H Q, (tE G W fun τ S => (ra τ S).bind (trngR tu (.int 0))) σ H Q → tRg1 (tE G W ra) σ H fun i j H1 => RgOk i j ∧ ∀ q, H1 q = none → Q (.ref q) (upd H1 q (if tu then .tup (rgV i j) else .lst (rgV i j))) := by
    rintro σ H Q ⟨m, τ, S, rel, sim, qq⟩
    refine tR.seq rel sim qq fun m1 H1 d S1 v e1 rel1 sim1 r1 p => ?_
    have p3 : P0 G m1 H1 (trngR tu (.int 0) d S1) Q := p.any (noex_trng _ _ _ _)
    cases d <;> first | exact p3.elim | skip
    simp only [Rep] at r1
    exact ⟨_, r1, trng_fin sim1 p3⟩
  cases tu with
  | true => exact (pe_tupRg (p := p) (pos := pos) O.calm g1 (blt_none O hb) rg).imp key
  | false => exact (pe_listRg (p := p) (pos := pos) O.calm g1 (blt_none O hb) rg).imp key
/-- {} with keys that are ints -/
theorem ex_dict0i (O : XOk G cl N sc W X) : PE X (.Dict [] [] pos) (tE G W fun _ S => .ok (.loc S.length) (S ++ [.dcti []])) := by
  refine pe_dnewK.imp fun σ H Q ⟨m, τ, S, rel, sim, q⟩ p np => ?_
  refine Post.news (R1 := Rep G) (d := .loc S.length) (x := .dcti []) q sim np (fun ext => ⟨[], upd_same, Nat.zero_le _, rfl⟩) fun ext => ?_
  simp only [Rep]
  refine ⟨_, rfl, ?_⟩
  rw [← sim.len, List.getElem?_append_right (Nat.le_refl _)]
  simp
end
end Ev
/-! Ev, part T: a tuple back to front, a text in great letters. -/
namespace Ev
open PySem L2 PySem.Spec PyProof.Rows HT
section
variable {prog : Program} {w : World} {A : Around} {E : Value → Shared → Prop} {s : Shared}
theorem adjust_back (n : Nat) : Builtin.Slice.sliceAdjust none none (-1) (n : Int) = ((n : Int) - 1, -1) := by
  unfold Builtin.Slice.sliceAdjust
  simp
theorem places_back (n : Nat) : Builtin.Slice.slicePlaces ((n : Int) - 1) (-1) (-1) = n := by
  unfold Builtin.Slice.slicePlaces
  simp
  try omega
theorem back_applied {sl : Addr} {v : Value} {n : Nat} {Q : Int × Int × Nat → Shared → Prop} (hs : s.heap.IsSliceOf sl .none .none v) (pv : IsPart v (some (-1)))
    (h : Q ((n : Int) - 1, -1, n) s) : wpAny (model prog w) A (Builtin.Slice.sliceApplied (.ref sl) (pure (n : Int))) Q E s := by
  obtain ⟨os, hos, hcs, hds⟩ := id hs
  unfold Builtin.Slice.sliceApplied Builtin.Slice.sliceFields
  refine wpAny_bind (wpAny_bind (wpAny_field hos hds (x := .none) rfl (wpAny_bind (wpAny_field hos hds (x := .none) rfl (wpAny_bind (wpAny_field hos hds (x := v) rfl (wpAny_pure ?_)))))))
  refine wpAny_bind (slicePart_ pv ?_)
  show wpAny _ _ (if ((-1 : Int) == 0) = true then _ else _) _ _ s
  rw [if_neg (by decide)]
  refine wpAny_bind (slicePart_ .none (wpAny_bind (slicePart_ .none (wpAny_bind (wpAny_pure ?_)))))
  show wpAny _ _ (match Builtin.Slice.sliceAdjust none none (-1) (n : Int) with | (lo, hi) => pure (lo, (-1 : Int), Builtin.Slice.slicePlaces lo hi (-1))) _ _ s
  rw [adjust_back n]
  show wpAny _ _ (pure ((n : Int) - 1, (-1 : Int), Builtin.Slice.slicePlaces ((n : Int) - 1) (-1) (-1))) _ _ s
  rw [places_back]
  exact wpAny_pure h
theorem fm_same {α β : Type} {f g : α → Option β} : ∀ l : List α, (∀ x ∈ l, f x = g x) → l.filterMap f = l.filterMap g
  | [], _ => rfl
  | x :: l, h => by rw [List.filterMap_cons, List.filterMap_cons, h x List.mem_cons_self, fm_same l fun y hy => h y (List.mem_cons_of_mem _ hy)]
theorem picks_back (xs : Array Value) : ((List.range xs.size).filterMap fun (m : Nat) => xs[(((xs.size : Nat) : Int) - 1 + (m : Int) * (-1)).toNat]?).toArray = xs.toList.reverse.toArray := by
  have e : (List.range xs.size).filterMap (fun (m : Nat) => xs[(((xs.size : Nat) : Int) - 1 + (m : Int) * (-1)).toNat]?) = ((List.range xs.size).map fun k => xs.size - 1 - k).filterMap (xs[·]?) := by
    rw [List.filterMap_map]
    refine fm_same _ fun m hm => ?_
    have hm := List.mem_range.mp hm
    simp only [Function.comp]
    congr 1
    omega
  rw [e, PySem.W.krv_range, List.filterMap_reverse, PySem.W.krv_all]
theorem getItem_back {t sl : Addr} {items : Array Value} {v : Value} {Q : Value → Shared → Prop} (ht : IsTup s.heap t items) (hs : s.heap.IsSliceOf sl .none .none v) (pv : IsPart v (some (-1)))
    (h : Q (.ref s.heap.objs.size) { s with heap := s.heap.push { cls := .type "tuple", data := .seq items.toList.reverse.toArray } })
    (lim : items.size ≤ sizeLine) : wpAny (model prog w) A (getItem (.ref t) (.ref sl)) Q E s := by
  have fits : sizeOk (.seq items.toList.reverse.toArray) := by
    show items.toList.reverse.toArray.size ≤ sizeLine
    rw [List.size_toArray, List.length_reverse, Array.length_toList]
    exact lim
  obtain ⟨os, o1, o2, o3⟩ := id hs
  have ty : s.TypeIs (.ref sl) "slice" := ⟨os, o1, o2⟩
  unfold getItem
  try with_reducible refine wpAny_holding ?_
  first | refine wpAny_bind (wpAny_pure ?_) | skip
  refine wpAny_bind (wpAny_sequenceKey ht.typeIs (by decide) ?_)
  refine wpAny_bind (wpAny_callSpecial?_slot (name := Str.ofString "__getitem__") ht.typeIs PyProof.Rows.slot_tuple_getitem
    (wpAny_call_entry PyProof.Rows.slot_tuple_getitem ht.typeIs entry_tuple_getitem ?_ (args_tuple_getitem _ _)))
  show wpAny _ _ (Builtin.Tuple.tupleItemsOf (.ref t) >>= _) _ _ s
  refine wpAny_bind (tupleItemsOf_ ht (wpAny_bind (wpAny_typeOf ty ?_)))
  rw [if_pos (by decide)]
  refine wpAny_bind (back_applied hs pv ?_)
  have no : ¬ (((((items.size : Nat) : Int) - 1) == 0 && (-1 : Int) == 1 && items.size == items.size) = true) := by
    rw [show ((-1 : Int) == 1) = false from rfl, Bool.and_false, Bool.false_and]
    exact Bool.false_ne_true
  show wpAny _ _ (if (((((items.size : Nat) : Int) - 1) == 0 && (-1 : Int) == 1 && items.size == items.size) = true) then _ else _) _ _ s
  rw [if_neg no, picks_back]
  first
    | exact wpAny_bind (m := Builtin.Tuple.tupleExact _) (wpAny_newObj_type (wpAny_pure ⟨_, rfl, wpAny_pure h⟩) fits)
    | exact wpAny_bind (m := Builtin.Tuple.tupleExact _) (wpAny_newObj_type (wpAny_bind (wpAny_pure (wpAny_pure ⟨_, rfl, wpAny_pure h⟩))) fits)
    | exact wpAny_bind (wpAny_bind (m := Builtin.Tuple.tupleExact _) (wpAny_newObj_type (wpAny_pure (wpAny_pure ⟨_, rfl, wpAny_pure h⟩)) fits))
    | exact wpAny_bind (wpAny_bind (m := Builtin.Tuple.tupleExact _) (wpAny_newObj_type (wpAny_pure ⟨_, rfl, wpAny_pure h⟩) fits))
end
section
variable {G : GC} {cl : Nat → List D → Store → R D} {N : List Str} {sc : Scope} {W : WX} {X : Cx} {ra : Slots → Store → R D} {a : Expr} {pos : Pos}
theorem noex_revR (x : D) (S : Store) : NoEx (revR x S) := by
  unfold revR
  split <;> trivial
theorem noex_upR (x : D) (S : Store) : NoEx (upR x S) := by
  unfold upR
  split
  · exact noex_if
  · trivial
/-- t[::-1] -/
theorem ex_rev (O : XOk G cl N sc W X) {k : Nat} {p1 p2 p3 : Pos} (ha : PE X a (tE G W ra)) :
    PE X (.Subscript a (.Slice none none (some (.UnaryOp .USub (.Constant (.int 1) k p1) p2)) p3) pos) (tE G W fun τ S => (ra τ S).bind revR) := by
  refine ⟨fun pins s σ H Q I ⟨m, τ, S, rel, sim, qq⟩ => ?_⟩
  have h1 := ha.run pins s σ H (fun x H1 => ∃ m S d, Rep G m H1 d x ∧ Sim G m H1 S ∧ P0 G m H1 (revR d S) Q) I (tR.seq rel sim qq fun m1 H1 d S1 v e1 rel1 sim1 r1 p => ⟨m1, S1, d, r1, sim1, p.any (noex_revR _ _)⟩)
  refine Subscript_ (thn h1 fun v s1 ⟨x, H1, I1, r1, m1, S1, d, hd, sim1, p⟩ => ?_)
  cases d <;> first | exact p.elim | skip
  rename_i xs
  obtain ⟨l, vs, rfl, z, rl, q⟩ := rep_tup hd
  rw [← O.K] at q
  cases r1
  have hst : PO X (some (.UnaryOp .USub (.Constant (.int 1) k p1) p2)) (tPart (tUn (rU fun i => .int (-i)) (tC (.int 1)))) := po_some (pe_un un_neg pe_int)
  refine wpAny_Slice (thn (po_none.run pins s1 σ H1 (fun o H2 => o = none ∧ H2 = H1) I1 ⟨rfl, rfl⟩) fun vl s2 ⟨_, H2, I2, pl, el, e2⟩ => ?_)
  subst el e2
  refine thn (po_none.run pins s2 σ H2 (fun o H3 => o = none ∧ H3 = H2) I2 ⟨rfl, rfl⟩) fun vu s3 ⟨_, H3, I3, pu, eu, e3⟩ => ?_
  subst eu e3
  refine thn (hst.run pins s3 σ H3 (fun o H4 => o = some (-1) ∧ H4 = H3) I3 ⟨1, rfl, -1, rfl, rfl, rfl⟩) fun vs' s4 ⟨o, H4, I4, ps, eo, e4⟩ => ?_
  subst eo e4
  cases pl
  cases pu
  have I5 : Inv X pins σ H4 { s4 with heap := s4.heap.push { cls := .type "slice", data := .fields #[.none, .none, vs'] } } := I4.kept (t' := s4.toks) fun b ob q => Heap.get?_push_of_some _ q
  obtain ⟨its, r, ht, hz⟩ := I5.tuple q
  show wpAny (model X.prog X.w) X.A (subscriptTail a (.Slice none none (some (.UnaryOp .USub (.Constant (.int 1) k p1) p2)) p3) (.ref l) (.ref s4.heap.objs.size)) (EP X pins σ Q) X.xe { s4 with heap := s4.heap.push { cls := .type "slice", data := .fields #[.none, .none, vs'] } }
  refine tail_any (ops := [.ref l, .ref s4.heap.objs.size]) ht.typeIs PyProof.Rows.slot_tuple_getitem.lookup ?_ (by with_unfolding_all rfl)
  have hlen := r.length
  refine getItem_back ht (Heap.IsSliceOf.new _ .none .none vs') ps ?_ (by rw [List.size_toArray]; omega)
  refine ⟨.ref _, _, I5.laid (t' := s4.toks) (o := .tup vs.reverse) (fun b ob q => Heap.get?_push_of_some _ q) (Nat.le_refl _) ?_, rfl, Post.new (R1 := Rep G) (d := .tup xs.reverse) p sim1 (I5.hok.fresh (Nat.le_refl _)) fun e n => rep_newT (rl.rev) (by rw [List.length_reverse]; exact z) e n⟩
  exact ⟨by rw [List.length_reverse]; exact hz, _, r.reverse, IsTup.new _ _⟩
/-- x.upper() -/
theorem ex_upper (O : XOk G cl N sc W X) {apos : Pos} (ha : PE X a (tE G W ra)) (pa : plainA a = true) (ln : (apos.endLine == pos.line) = true) :
    PE X (.Call (.Attribute a "upper" apos) [] [] pos) (tE G W fun τ S => (ra τ S).bind upR) := by
  refine (pe_upper ha (plain_attr pa) ln).imp ?_
  rintro σ H Q ⟨m, τ, S, rel, sim, q⟩
  refine tR.seq rel sim q fun m1 H1 d S1 v e1 rel1 sim1 r1 p => ?_
  replace p : P0 G m1 H1 (upR d S1) Q := p.any (noex_upR _ _)
  cases d <;> first | exact p.elim | skip
  rename_i z
  simp only [Rep] at r1
  obtain ⟨c, p⟩ := Post.if_ p
  simp only [Bool.and_eq_true, decide_eq_true_eq] at c
  refine ⟨⟨z, r1.1⟩, z, r1.1, rfl, c.1.1, p.done sim1 ?_⟩
  simp only [Rep]
  exact ⟨True.intro, c.1.2, c.2⟩
end
end Ev
/-! Ev, part X2: exceptions held as values. -/
namespace Ev
open PySem L2 PySem.Spec PyProof.Rows
section
variable {G : GC} {cl : Nat → List D → Store → R D} {N : List Str} {sc : Scope} {W : WX} {X : Cx} {ra : Slots → Store → R D} {a : Expr} {pos : Pos}
/-- C(e), no own __init__ -/
theorem ex_mkE (O : XOk G cl N sc W X) {c : Nat} {x : Str} {p : Pos} (hx : G.T.cls[c]? = some x) (hi : G.T.inis.contains c = false) (hg : glb sc x = true) (ha : PE X a (tE G W ra)) (pa : plainE a = true) :
    PE X (.Call (.Name x p) [a] [] pos) (tE G W fun τ S => (ra τ S).bind (mkER c)) := by
  obtain ⟨C, e1, e2, e3, e4, e5⟩ := O.tab.exc c x hx
  obtain ⟨g1, g2, g3⟩ := glb_gl O hg
  have hk := O.K
  refine (pe_exc1 (C := C) (bmB := veB) F.excBase_ValueError (by rw [hk]; exact e3 hi) (by rw [O.mg]; exact e1) (by rw [hk]; exact e2) g1 ha (star_cons pa) g2).imp fun σ H Q ⟨m, τ, S, rel, sim, q⟩ => ?_
  refine tR.seq rel sim q fun m1 H1 d S1 v e' rel1 sim1 r1 p b hn => ?_
  refine Post.news (R1 := Rep G) (d := .loc S1.length) (x := .ins c []) p sim1 hn (fun ext => ⟨C, x, hx, e1, upd_same⟩) fun ext => ?_
  simp only [Rep]
  refine ⟨_, rfl, ?_⟩
  rw [← sim1.len, List.getElem?_append_right (Nat.le_refl _)]
  simp
/-- the exception object, as instances are read -/
theorem exAt_inst {pins : List (Addr × Obj)} {σ : L2.St} {H : Hp} {s : Shared} {m : List Addr} {C b : Addr} (I : Inv X pins σ H s) : ∀ {fs : List (Str × D)}, ExAt G m H C b fs → ∃ oe od, PySem.W.InstAt s.heap b oe C od
  | [], h => by
    obtain ⟨⟨oe, vs, h1, h2, h3, _⟩, _⟩ := I.hok b _ h
    refine ⟨oe, none, h1, h2.1, by unfold PySem.W.notCls; rw [h3] <;> rfl, ?_⟩
    rw [h2.2]; trivial
  | [(f, .int i)], ⟨dx, h, hd, _⟩ => by
    obtain ⟨⟨oe, vs, h1, h2, h3, h4, _⟩, _⟩ := I.hok b _ h
    have hx : ObjOk X.prog X.w H s.heap dx (.xd [(f, .int i)]) := I.hok dx _ hd
    obtain ⟨mA, hns, hr⟩ := hx
    obtain ⟨od, ho, hl⟩ := lookIn_ns hns
    exact ⟨oe, some od, h1, h2, by unfold PySem.W.notCls; rw [h4] <;> rfl, by rw [h3]; exact ho⟩
def rIsX (G : GC) (K : PySem.W.Frag) : List V → Hp → VK → Prop := fun xs H Q => ∃ (m : List Addr) (b C : Addr) (fs : List (Str × D)) (c : V) (cv : Value) (g : Bool), xs = [.ref b, c] ∧ (∀ u, RelV c u → u = cv) ∧ ExcC K C ∧ PySem.W.kitOne K (.ref C) cv = some g ∧ ExAt G m H C b fs ∧ Q (.bl g) H
theorem call_isX : CallR X (.builtin "isinstance") (rIsX G X.K) := by
  intro pins s σ H xs us Q I r h
  obtain ⟨m, b, C, fs, c, cv, g, rfl, hcv, T, e, ha, q⟩ := h
  cases r with
  | cons rx rr =>
    cases rr with
    | cons rt rr =>
      cases rr
      cases rx
      have ec := hcv _ rt
      subst ec
      obtain ⟨oe, od, J⟩ := exAt_inst I ha
      have hcl : (PySem.W.clsIn X.K C).isSome = true := by
        obtain ⟨cd, hc, _⟩ := PySem.W.any_some T.hd
        rw [hc]; rfl
      exact PySem.W.kia_one (PySem.W.kitx_exc hcl T.hg T.hk T.hs T.ha T.hn T.ht T.hm) I.kIn J e (fun z => nomatch z) fun tk => ⟨.bl g, H, I.kept (t' := tk) fun _ _ z => z, rfl, q⟩
theorem noex_isER (cs : List Nat) (x : D) (S : Store) : NoEx (isER cs x S) := by
  unfold isER
  split
  · split <;> trivial
  · trivial
theorem noex_fldR (f : Str) (x : D) (S : Store) : NoEx (fldR f x S) := by
  unfold fldR
  split
  · split
    · exact noex_o
    · trivial
  · trivial
theorem isE_fin {m : List Addr} {H : Hp} {S : Store} {Q : VK} {cs : List Nat} {d : D} {v : V} (sim : Sim G m H S) (r : Rep G m H d v) (p : P0 G m H (isER cs d S) Q) :
    ∃ b c C x fs, v = .ref b ∧ G.T.cls[c]? = some x ∧ G.mg x = some (.ref C) ∧ ExAt G m H C b fs ∧ Q (.bl (cs.contains c)) H := by
  unfold isER at p
  split at p
  · next n =>
    simp only [Rep] at r
    obtain ⟨b, rfl, hb⟩ := r
    split at p
    · next c fs hS =>
      obtain ⟨C, x, h1, h2, h3⟩ := sim.obj n b _ hb hS
      exact ⟨b, c, C, x, fs, rfl, h1, h2, h3, Post.done (R1 := Rep G) (d := .bl (cs.contains c)) p sim (by simp only [Rep])⟩
    · exact p.elim
  · exact p.elim
/-- isinstance(e, C) -/
theorem ex_isE (O : XOk G cl N sc W X) {cs : List Nat} {d : Nat} {z : Str} {p p2 : Pos} (hg : glb sc "isinstance" = true) (hb : G.T.blts.contains ("isinstance" : Str) = true) (hs : G.T.blts.contains ("super" : Str) = true) (hg2 : glb sc z = true)
    (hz : G.T.cls[d]? = some z) (hcs : ((List.range G.T.cls.length).all fun c => cs.contains c == G.T.subs.contains (c, d)) = true) (ha : PE X a (tE G W ra)) (pa : plainE a = true) :
    PE X (.Call (.Name "isinstance" p) [a, .Name z p2] [] pos) (tE G W fun τ S => (ra τ S).bind (isER cs)) := by
  obtain ⟨g1, g2, g3⟩ := glb_gl O hg
  obtain ⟨f1, f2, f3⟩ := glb_gl O hg2
  obtain ⟨E, e1, _⟩ := O.tab.exc d z hz
  have EX := O.tab.exv hs
  have hz' : PE X (.Name z p2) (tC (.ref E)) := pe_glob f1 (by rw [O.mg]; exact e1) rfl f2
  refine (pe_callB (call_isX (G := G)) g1 (blt_none O hb) PyProof.Rows.boot_isinstance (pa_cons ha (pa_cons hz' pa_nil (star_cons rfl)) (star_cons pa)) g3 g2 (star_cons pa) (star_none rfl)).imp fun σ H Q ⟨m, τ, S, rel, sim, q⟩ => ?_
  refine tR.seq rel sim q fun m1 H1 d' S1 v e' rel1 sim1 r1 p => ?_
  obtain ⟨b, c, C, x, fs, rfl, h1, h2, h3, hq⟩ := isE_fin sim1 r1 (p.any (noex_isER _ _ _))
  have hc := beq_iff_eq.mp (List.all_eq_true.mp hcs c (List.mem_range.mpr (List.getElem?_eq_some_iff.mp h1).1))
  refine ⟨m1, b, C, fs, .ref E, .ref E, cs.contains c, rfl, fun u hu => hu, ?_, ?_, h3, hq⟩
  · rw [O.K]; exact (EX.cls c x C h1 h2).1
  · rw [O.K, hc]; exact EX.kit c d x z C E h1 hz h2 e1
theorem ex_isV (O : XOk G cl N sc W X) {cs : List Nat} {p p2 : Pos} (hg : glb sc "isinstance" = true) (hb : G.T.blts.contains ("isinstance" : Str) = true) (hs : G.T.blts.contains ("super" : Str) = true) (hg2 : glb sc "ValueError" = true)
    (hb2 : G.T.blts.contains ("ValueError" : Str) = true) (hcs : ((List.range G.T.cls.length).all fun c => cs.contains c) = true) (ha : PE X a (tE G W ra)) (pa : plainE a = true) :
    PE X (.Call (.Name "isinstance" p) [a, .Name "ValueError" p2] [] pos) (tE G W fun τ S => (ra τ S).bind (isER cs)) := by
  obtain ⟨g1, g2, g3⟩ := glb_gl O hg
  obtain ⟨f1, f2, f3⟩ := glb_gl O hg2
  have EX := O.tab.exv hs
  have hz' : PE X (.Name "ValueError" p2) (tC (.ty "ValueError")) := pe_bltn f1 (blt_none O hb2) PyProof.Rows.Boot.«ValueError» rfl f3 f2
  refine (pe_callB (call_isX (G := G)) g1 (blt_none O hb) PyProof.Rows.boot_isinstance (pa_cons ha (pa_cons hz' pa_nil (star_cons rfl)) (star_cons pa)) g3 g2 (star_cons pa) (star_none rfl)).imp fun σ H Q ⟨m, τ, S, rel, sim, q⟩ => ?_
  refine tR.seq rel sim q fun m1 H1 d' S1 v e' rel1 sim1 r1 p => ?_
  obtain ⟨b, c, C, x, fs, rfl, h1, h2, h3, hq⟩ := isE_fin sim1 r1 (p.any (noex_isER _ _ _))
  have hc := List.all_eq_true.mp hcs c (List.mem_range.mpr (List.getElem?_eq_some_iff.mp h1).1)
  rw [hc] at hq
  refine ⟨m1, b, C, fs, .ty "ValueError", .type "ValueError", true, rfl, fun u hu => hu, ?_, ?_, h3, hq⟩
  · rw [O.K]; exact (EX.cls c x C h1 h2).1
  · rw [O.K]; exact (EX.cls c x C h1 h2).2.1
/-- e.f -/
theorem ex_fld (O : XOk G cl N sc W X) {f : Str} (hf : f = "limit" ∨ f = "row") (hs : G.T.blts.contains ("super" : Str) = true) (ha : PE X a (tE G W ra)) (pa : plainA a = true) : PE X (.Attribute a f pos) (tE G W fun τ S => (ra τ S).bind (fldR f)) := by
  have EX := O.tab.exv hs
  refine ⟨fun pins s σ H Q I ⟨m, τ, S, rel, sim, qq⟩ => ?_⟩
  have h1 := ha.run pins s σ H (fun x H1 => ∃ m S d, Rep G m H1 d x ∧ Sim G m H1 S ∧ P0 G m H1 (fldR f d S) Q) I (tR.seq rel sim qq fun m1 H1 d S1 v e1 rel1 sim1 r1 p => ⟨m1, S1, d, r1, sim1, p.any (noex_fldR _ _ _)⟩)
  refine attr_of (plain_attr pa) (thn h1 fun u s1 ⟨x, H1, I1, rx, m1, S1, d, rd, sim1, p⟩ => ?_)
  unfold fldR at p
  split at p
  · next n =>
    simp only [Rep] at rd
    obtain ⟨b, rfl, hb⟩ := rd
    obtain rfl : u = Value.ref b := rx
    split at p
    · next c fs hS =>
      obtain ⟨C, y, h1, h2, h3⟩ := sim1.obj n b _ hb hS
      obtain ⟨T, _, l1, l2⟩ := EX.cls c y C h1 h2
      have hno : PySem.W.findIn X.K (.ref C) f = some none := by
        rw [O.K]
        rcases hf with rfl | rfl
        · exact l1
        · exact l2
      obtain ⟨dv, hl, p⟩ := Post.o_ p
      match fs, h3, hl with
      | [], _, hl => simp at hl
      | [(f', .int i)], ⟨dx, h, hd, _⟩, hl =>
        rw [← O.K] at T
        obtain ⟨⟨oe, vs, u1, u2, u3, u4, _⟩, _⟩ := I1.hok b _ h
        have hx : ObjOk X.prog X.w H1 s1.heap dx (.xd [(f', .int i)]) := I1.hok dx _ hd
        obtain ⟨mA, hns, hr⟩ := hx
        obtain ⟨od, ho, hk⟩ := lookIn_ns hns
        have ef : f = f' ∧ dv = .int i := by
          by_cases e : f = f'
          · subst e; simp at hl; exact ⟨rfl, hl.symm⟩
          · have : (f == f') = false := by simpa using e
            simp [List.lookup_cons, this] at hl
        obtain ⟨rfl, rfl⟩ := ef
        obtain ⟨u, hu, ru⟩ := RelO.some_of (v := .int i) (o := mA f) (by have := hr f; simpa using this)
        have J : PySem.W.InstAt s1.heap b oe C (some od) := ⟨u1, u2, by unfold PySem.W.notCls; rw [u4] <;> rfl, by rw [u3]; exact ho⟩
        exact HandSPX.exc_get I1.kIn J T.hg T.hk T.hs (PySem.W.findObj_own T.hd hno (by rcases hf with rfl | rfl <;> rfl) (by rw [hk, hu])) (handed_of ru) ⟨.int i, H1, I1.tok _, ru, Post.done (R1 := Rep G) (d := .int i) p sim1 (by simp only [Rep])⟩
    · exact p.elim
  · exact p.elim
end
end Ev
/-! Ev, part X3: an exception class with its own __init__, called. -/
namespace Ev
open PySem L2 PySem.Spec PyProof.Rows
def iniFD (c : Nat) (x : Str) : FD := ⟨1, 1, [.ret (.mkO c (iniFld x) (.var 0))]⟩
theorem exD_ok {P : Program} {w : World} {H : Hp} {h : Heap} {C dx a t : Addr} (he : h.get? a = some ({ cls := .ref C, dict := some dx, data := .fields #[.ref t, .none, .none, .none, .bool false, .none] } : Obj)) : ObjOk P w H h a (ExD C dx a) :=
  ⟨⟨_, _, he, rfl, rfl, rfl, rfl⟩, ⟨_, he⟩, fun _ _ ⟨o, v, q, r⟩ k => ⟨o, v, k o q, r⟩⟩
theorem ini_end (cl : Nat → List D → Store → R D) (c : Nat) (x : Str) (d : D) (S : Store) : endB (evB cl (iniFD c x).body (entry (iniFD c x).ns [d]) S) = mkOR c (iniFld x) d S := by
  show endB (match (R.bindS ((R.ok d S).bind (mkOR c (iniFld x))) [some d] fun x S => .rt x S) with
    | .nx τ S => .nx τ S
    | r => r) = _
  rw [R.bind_ok]
  cases d <;> rfl
theorem ini_at {G : GC} {base : Heap} {A : Around} (E : ExvF G) (hm : G.mg "super" = none) (l : List Addr) {c k : Nat} {x : Str} {C : Addr} {cl : Nat → List D → Store → R D} (hx : G.T.cls[c]? = some x) (hC : G.mg x = some (.ref C)) (hi : G.T.inis.contains c = true) (hr : Room (k + 1) A)
    (outer : List Env) (s : Shared) (H : Hp) (us : List Value) (vs : List V) (as : List D) (m : List Addr) (S : Store) (Q : VK) (XE : XK) (e0 : Env0 G.P G.w G.K G.mg base A outer s H) (r : Vals vs us) (rl : RepL (G.up l) m H as vs) (sim : Sim (G.up l) m H S)
    (h : PostE (G.up l) (fun c dd _ H' => XE c dd H') m [] H (if as.length = (iniFD c x).np then endB (evB cl (iniFD c x).body (entry (iniFD c x).ns as) S) else .bad) Q) :
    codeAny (model G.P G.w) A (.call (.ref C) ⟨us, []⟩) (CR (L2.CX G.P G.w) outer G.P G.w H s Q XE) s := by
  by_cases hl : as.length = (iniFD c x).np
  · rw [if_pos hl] at h
    obtain ⟨d, rfl⟩ : ∃ d, as = [d] := by
      match as, hl with
      | [d], _ => exact ⟨d, rfl⟩
    rw [ini_end] at h
    unfold mkOR at h
    split at h
    · next i =>
      obtain ⟨fI, T⟩ := E.ini c x C hx hC hi
      obtain ⟨nm, qn, N, bs, bm, sn, sub, ab, col, dd, c0, c1, c2, c3, c5, hCo, hbm⟩ := T.T.cls
      have KX : G.K.In s.heap := e0.mod.kin.keeps fun b o e => (e0.bs b o e).1
      obtain ⟨mb, b1, b2⟩ := e0.mod.blt
      have kb : ∀ b o, base.get? b = some o → s.heap.get? b = some o := fun b o e => (e0.bs b o e).1
      simp only [RepL, Rep] at rl
      obtain ⟨v, rr, rfl, rfl, rfl⟩ := rl
      obtain ⟨u, eu, ru⟩ := vals1 r
      subst eu
      obtain ⟨t, rfl⟩ := ru
      have hok := e0.hok
      have bare := e0.bare
      have gl := e0.mod.glob
      have nl := e0.mod.nolimit.keeps kb
      obtain ⟨hp, g, dr, tk, os⟩ := s
      have kk : ∀ b o, hp.get? b = some o → ((hp.push (PySem.W.kdv_tup [Value.int i t])).push (PySem.HandSPX.excO C hp.objs.size)).get? b = some o := fun b o e => Heap.get?_push_of_some _ (Heap.get?_push_of_some _ e)
      have hget : ((hp.push (PySem.W.kdv_tup [Value.int i t])).push (PySem.HandSPX.excO C hp.objs.size)).get? (hp.objs.size + 1) = some (PySem.HandSPX.excO C hp.objs.size) := by heap_get
      have hKe : G.K.lookup (hp.objs.size + 1) = none := by
        cases z : G.K.lookup (hp.objs.size + 1) with
        | none => rfl
        | some o => exact absurd (Heap.lt_size (KX _ _ z)) (Nat.not_lt.mpr (Nat.le_succ _))
      refine PySem.HandSPX.call_own F.excBase_ValueError (fun Y => PySem.HandSPX.refsVE_contains Y bm hbm) (KX _ _ hCo) (PySem.W.looks_findIn KX T.fi) (fun self => PySem.W.bind_fn KX self T.ft) (by show 1 ≤ sizeLine; rw [sizeLine_eq]; omega) ?_
      refine init_run (KX.keeps kk) T (gl.keeps fun b o e => kk b o (kb b o e)) hm (b1.keeps fun b o e => kk b o (kb b o e)) ((b2 _ (by decide)).trans (by first | rfl | kernel_rfl | decide +kernel)) (nl.keeps kk) E.file E.top (hr.make C [Value.int i t] []).depth hget hKe ?_
      intro h' t' dx t1 k1 hx' hdx dne hn
      have hsz : ((hp.push (PySem.W.kdv_tup [Value.int i t])).push (PySem.HandSPX.excO C hp.objs.size)).objs.size = hp.objs.size + 2 := by rw [Heap.size_push, Heap.size_push]
      have kp : ∀ b o, hp.get? b = some o → h'.get? b = some o := fun b o e => k1 b o (Nat.ne_of_lt (Nat.lt_succ_of_lt (Heap.lt_size e))) (kk b o e)
      have ne : H (hp.objs.size + 1) = none := hok.fresh (Nat.le_succ _)
      have hd0 : hp.objs.size ≤ dx := Nat.le_trans (by rw [hsz]; exact Nat.le_add_right _ 2) hdx
      have nd : H dx = none := hok.fresh hd0
      obtain ⟨x1, s1, n1⟩ := sim.lay (o := .xd [(iniFld x, .int i)]) nd
      have ne1 : upd H dx (.xd [(iniFld x, .int i)]) (hp.objs.size + 1) = none := by rw [upd_ne dne.symm]; exact ne
      obtain ⟨x2, s2⟩ := s1.lays (o := ExD C dx (hp.objs.size + 1)) (x := .ins c [(iniFld x, .int i)]) ne1 (fun ex => ⟨C, x, hx, hC, dx, upd_same, by rw [upd_ne dne]; exact upd_same, by
        refine ⟨?_, n1.2⟩
        simp only [List.mem_append, List.mem_singleton, not_or]
        exact ⟨n1.1, dne⟩⟩)
      refine ⟨rfl, .ref (hp.objs.size + 1), upd (upd H dx (.xd [(iniFld x, .int i)])) (hp.objs.size + 1) (ExD C dx (hp.objs.size + 1)), rfl, bare, ?_, ?_, rfl, h _ _ _ (x1.trans x2) s2 ?_⟩
      · have nb : ∀ {b : Addr} {o : Obj}, hp.get? b = some o → b ≠ dx ∧ b ≠ hp.objs.size + 1 := fun {b o} q => ⟨Nat.ne_of_lt (Nat.lt_of_lt_of_le (Heap.lt_size q) hd0), Nat.ne_of_lt (Nat.lt_succ_of_lt (Heap.lt_size q))⟩
        have nn : ∀ {b : Addr} {u : HO}, H b = some u → b ≠ dx ∧ b ≠ hp.objs.size + 1 := fun {b u} q => ⟨ne_of_none q nd, ne_of_none q ne⟩
        exact {
          keep := fun b o q _ _ _ => kp b o q
          slot := fun b o q _ _ _ => ⟨o.slots, kp b o q⟩
          free := fun b o q n _ => by rw [upd_ne (nb q).2, upd_ne (nb q).1]; exact n
          there := fun b o q _ => ⟨o, kp b o q⟩
          tups := fun b xs q => by rw [upd_ne (nn q).2, upd_ne (nn q).1]; exact q
          frzs := fun b o u q => by rw [upd_ne (nn q).2, upd_ne (nn q).1]; exact q
          tbls := fun b ps q => ⟨#[], by rw [upd_ne (nn q).2, upd_ne (nn q).1, q]; simp⟩ }
      · intro b u q
        have nn : ∀ {b : Addr} {u : HO}, H b = some u → b ≠ dx ∧ b ≠ hp.objs.size + 1 := fun {b u} q => ⟨ne_of_none q nd, ne_of_none q ne⟩
        by_cases hb : b = hp.objs.size + 1
        · subst hb
          rw [upd_same] at q
          cases q
          exact exD_ok hx'
        · rw [upd_ne hb] at q
          by_cases hd : b = dx
          · subst hd
            rw [upd_same] at q
            cases q
            refine ⟨_, hn, fun y => ?_⟩
            by_cases hy : y = iniFld x
            · subst hy
              simp only [if_true, List.lookup_cons, beq_self_eq_true]
              exact ⟨t, rfl⟩
            · have : (y == iniFld x) = false := by simpa using hy
              simp only [if_neg hy, List.lookup_cons, this, List.lookup_nil]
              trivial
          · rw [upd_ne hd] at q
            exact (hok b u q).stay (fun c v _ z => kp c v z) (fun c z => by rw [upd_ne (nn z).2, upd_ne (nn z).1]; exact z) (fun c xs z => by rw [upd_ne (nn z).2, upd_ne (nn z).1]; exact z)
      · simp only [Rep]
        refine ⟨_, rfl, ?_⟩
        rw [← sim.len, List.getElem?_append_right (Nat.le_refl _)]
        simp
    · exact h.elim
  · rw [if_neg hl] at h; exact h.elim
end Ev
/-! Ev, part H: what the checker has matched is what the evaluator says. -/
namespace Ev
open PySem L2
def Two (G : GC) (W : WX) (X : Cx) (e : Expr) (r : Slots → Store → R D) : Prop := PE X e (tE G W r) ∧ (plainF e = true → PT X e (tB G W (tst r)))
theorem two {G : GC} {W : WX} {X : Cx} {e : Expr} {r : Slots → Store → R D} (h : PE X e (tE G W r)) (hb : plainB e = true) : Two G W X e r := ⟨h, fun _ => pt_of h hb⟩
/-- and, or over a list -/
def Ands (op : PySem.BoolOp) (G : GC) (W : WX) (X : Cx) (vs : List Expr) (pos : Pos) (r : Slots → Store → R D) : Prop :=
  PE X (.BoolOp op vs pos) (tE G W r) ∧ (vs.all plainF = true → PW X (.BoolOp op vs pos) (tB G W (tst r)))
section
variable (cl : Nat → List D → Store → R D) (N : List Str)
mutual
theorem so : ∀ (ce : CE) {e : Expr} {sc : Scope} {G : GC} {W : WX} {X : Cx}, chk G.T N sc ce e = true → XOk G cl N sc W X → Two G W X e (ev cl ce)
  | .int i, e, sc, G, W, X, h, O => by
    unfold chk at h
    split at h
    · rw [beq_iff_eq] at h; subst h
      exact two (ex_c (d := .int i) pe_int fun m H => by simp only [Rep]) rfl
    · cases h
  | .bl b, e, sc, G, W, X, h, O => by
    unfold chk at h
    split at h
    · rw [beq_iff_eq] at h; subst h
      exact two (ex_c (d := .bl b) pe_bl fun m H => by simp only [Rep]) rfl
    · cases h
  | .non, e, sc, G, W, X, h, O => by
    unfold chk at h
    split at h
    · exact two (ex_c (d := .non) pe_non fun m H => by simp only [Rep]) rfl
    · cases h
  | .str x, e, sc, G, W, X, h, O => by
    unfold chk at h
    split at h
    · simp only [Bool.and_eq_true, beq_iff_eq, decide_eq_true_eq] at h
      obtain ⟨⟨h1, h2⟩, h3⟩ := h
      subst h1
      exact two (ex_c (d := .str x) pe_str fun m H => by simp only [Rep]; exact ⟨trivial, h2, h3⟩) rfl
    · cases h
  | .var i, e, sc, G, W, X, h, O => by
    unfold chk at h
    split at h
    · simp only [Bool.and_eq_true, decide_eq_true_eq] at h
      exact two (ex_var O h.1 h.2) rfl
    · cases h
  | .con x d, e, sc, G, W, X, h, O => by
    unfold chk at h
    split at h
    · simp only [Bool.and_eq_true, beq_iff_eq, decide_eq_true_eq] at h
      obtain ⟨⟨h1, h2⟩, h3⟩ := h
      subst h1
      exact two (ex_con O h2 h3) rfl
    · cases h
  | .fnv f, e, sc, G, W, X, h, O => by
    unfold chk at h
    split at h
    · simp only [Bool.and_eq_true] at h
      exact two (ex_fnv O h.1 h.2) rfl
    · cases h
  | .bin o a b, e, sc, G, W, X, h, O => by
    unfold chk at h
    split at h
    · simp only [Bool.and_eq_true, decide_eq_true_eq] at h
      obtain ⟨⟨h1, h2⟩, h3⟩ := h
      subst h1
      exact two (ex_bin O.toAt o (so a h2 O).1 (so b h3 O).1) rfl
    · cases h
  | .neg a, e, sc, G, W, X, h, O => by
    unfold chk at h
    split at h
    · exact two (ex_neg (so a h O).1) rfl
    · cases h
  | .not a, e, sc, G, W, X, h, O => by
    unfold chk at h
    split at h
    · rw [Bool.and_eq_true] at h
      have q := so a h.1 O
      exact ⟨ex_not q.1, fun _ => tx_not (q.2 h.2)⟩
    · cases h
  | .cmp o a b, e, sc, G, W, X, h, O => by
    unfold chk at h
    split at h
    · simp only [Bool.and_eq_true, decide_eq_true_eq] at h
      obtain ⟨⟨⟨h1, h2⟩, h3⟩, h4⟩ := h
      subst h1
      exact ⟨ex_cmp O.toAt o h4 (so a h2 O).1 (so b h3 O).1, fun _ => tx_cmp O.toAt o h4 (so a h2 O).1 (so b h3 O).1⟩
    · cases h
  | .chain o1 o2 a b c, e, sc, G, W, X, h, O => by
    unfold chk at h
    split at h
    · simp only [Bool.and_eq_true, decide_eq_true_eq] at h
      obtain ⟨⟨⟨⟨⟨h1, h0⟩, h2⟩, h3⟩, h4⟩, h5⟩ := h
      subst h1; subst h0
      exact ⟨ex_chain O.toAt o1 o2 h5 (so a h2 O).1 (so b h3 O).1 (so c h4 O).1, fun _ => tx_chain O.toAt o1 o2 h5 (so a h2 O).1 (so b h3 O).1 (so c h4 O).1⟩
    · cases h
  | .and es, e, sc, G, W, X, h, O => by
    unfold chk at h
    split at h
    · simp only [Bool.and_eq_true, Bool.not_eq_true'] at h
      have q := soAnd es h.1.1 h.2 O
      exact ⟨(q _).1, fun _ => ((q _).2 h.1.2).pt⟩
    · cases h
  | .or es, e, sc, G, W, X, h, O => by
    unfold chk at h
    split at h
    · simp only [Bool.and_eq_true, Bool.not_eq_true'] at h
      have q := soOr es h.1.1 h.2 O
      exact ⟨(q _).1, fun _ => ((q _).2 h.1.2).pt⟩
    · cases h
  | .ite c a b, e, sc, G, W, X, h, O => by
    unfold chk at h
    split at h
    · simp only [Bool.and_eq_true] at h
      obtain ⟨⟨⟨h1, h2⟩, h3⟩, h4⟩ := h
      exact ⟨ex_ite ((so c h1 O).2 h2) (so a h3 O).1 (so b h4 O).1, fun z => by simp [plainF] at z⟩
    · cases h
  | .tup es, e, sc, G, W, X, h, O => by
    unfold chk at h
    split at h
    · rw [Bool.and_eq_true] at h
      exact two (ex_tup (soL es h.1 h.2 O)) rfl
    · cases h
  | .lst mu es, e, sc, G, W, X, h, O => by
    unfold chk at h
    split at h
    · rw [Bool.and_eq_true] at h
      exact two (ex_lst (soL es h.1 h.2 O)) rfl
    · cases h
  | .idx a i, e, sc, G, W, X, h, O => by
    unfold chk at h
    split at h
    · simp only [Bool.and_eq_true] at h
      exact two (ex_idx O.toAt h.2 (so a h.1.1 O).1 (so i h.1.2 O).1) rfl
    · cases h
  | .sl a lo hi, e, sc, G, W, X, h, O => by
    unfold chk at h
    split at h
    · simp only [Bool.and_eq_true] at h
      exact two (ex_sl O.toAt (so a h.1.1 O).1 (soO lo h.1.2 O) (soO hi h.2 O)) rfl
    · cases h
  | .call f es, e, sc, G, W, X, h, O => by
    unfold chk at h
    split at h
    · next y p vs pos =>
      simp only [Bool.and_eq_true] at h
      obtain ⟨⟨⟨h1, h2⟩, h3⟩, h4⟩ := h
      cases vs with
      | nil =>
        cases es with
        | nil => exact two (ex_call0 O h1 h2) rfl
        | cons c cs => simp [chkL] at h3
      | cons v vs =>
        have q := soL es h3 h4 O
        rw [List.all_cons, Bool.and_eq_true] at h4
        exact two (ex_call1 O h1 h2 q h4.1 h4.2) rfl
    · cases h
  | .bi b es, e, sc, G, W, X, h, O => by
    unfold chk at h
    split at h
    · next y p v vs pos =>
      simp only [Bool.and_eq_true, beq_iff_eq] at h
      obtain ⟨⟨⟨⟨h1, h2⟩, h3⟩, h4⟩, h5⟩ := h
      subst h1
      have q := soL es h4 h5 O
      rw [List.all_cons, Bool.and_eq_true] at h5
      exact two (ex_bi O b h2 h3 q h5.1 h5.2) rfl
    · cases h
  | .isi a t, e, sc, G, W, X, h, O => by
    unfold chk at h
    split at h
    · simp only [Bool.and_eq_true, beq_iff_eq] at h
      obtain ⟨⟨⟨⟨⟨⟨⟨⟨h1, h2⟩, h3⟩, h4⟩, h5⟩, h6⟩, h7⟩, h8⟩, h9⟩ := h
      subst h1; subst h4
      obtain ⟨n, hn⟩ := Option.isSome_iff_exists.mp h9
      exact two (ex_isi O t hn h2 h3 h5 h6 (so a h7 O).1 h8) rfl
    · cases h
  | .lenset a, e, sc, G, W, X, h, O => by
    unfold chk at h
    split at h
    · simp only [Bool.and_eq_true, beq_iff_eq] at h
      obtain ⟨⟨⟨⟨⟨⟨⟨h1, h2⟩, h3⟩, h4⟩, h5⟩, h6⟩, h7⟩, h8⟩ := h
      subst h1; subst h4
      exact two (ex_lenset O h2 h3 h5 h6 (so a h7 O).1 h8) rfl
    · cases h
  | .meth m a es, e, sc, G, W, X, h, O => by
    unfold chk at h
    split at h
    · next o name ap vs cp =>
      simp only [Bool.and_eq_true] at h
      obtain ⟨⟨⟨⟨⟨⟨h1, h2⟩, h3⟩, h4⟩, h5⟩, h6⟩, h7⟩ := h
      rw [beq_iff_eq] at h1
      subst h1
      have q := (so a h2 O).1
      cases m with
      | append =>
        match vs, h5, h6, h7 with
        | [b], h5, h6, _ =>
          have r := soL es h5 h6 O
          rw [List.all_cons, Bool.and_eq_true] at h6
          exact two (ex_app O q r h3 h6.1 h4) rfl
      | clear =>
        rw [List.isEmpty_iff] at h7; subst h7
        cases es with
        | nil => exact two (ex_meth0 O .clear (.inl rfl) q h3 h4) rfl
        | cons c cs => simp [chkL] at h5
      | reverse =>
        rw [List.isEmpty_iff] at h7; subst h7
        cases es with
        | nil => exact two (ex_meth0 O .reverse (.inr rfl) q h3 h4) rfl
        | cons c cs => simp [chkL] at h5
    · cases h
  | .dict0, e, sc, G, W, X, h, O => by
    unfold chk at h
    split at h
    · exact two (ex_dict0 O) rfl
    · cases h
  | .dict0i, e, sc, G, W, X, h, O => by
    unfold chk at h
    split at h
    · exact two (ex_dict0i O) rfl
    · cases h
  | .sset a, e, sc, G, W, X, h, O => by
    unfold chk at h
    split at h
    · simp only [Bool.and_eq_true, beq_iff_eq] at h
      obtain ⟨⟨⟨⟨⟨⟨⟨h1, h2⟩, h3⟩, h4⟩, h5⟩, h6⟩, h7⟩, h8⟩ := h
      subst h1; subst h4
      exact two (ex_sset O h2 h3 h5 h6 (so a h7 O).1 h8) rfl
    · cases h
  | .rev a, e, sc, G, W, X, h, O => by
    unfold chk at h
    split at h
    · exact two (ex_rev O (so a h O).1) rfl
    · cases h
  | .upper a, e, sc, G, W, X, h, O => by
    unfold chk at h
    split at h
    · simp only [Bool.and_eq_true, beq_iff_eq] at h
      obtain ⟨⟨⟨h1, h2⟩, h3⟩, h4⟩ := h
      subst h1
      exact two (ex_upper O (so a h2 O).1 h3 (by rw [h4]; exact beq_self_eq_true _)) rfl
    · cases h
  | .ssetb a, e, sc, G, W, X, h, O => by
    unfold chk at h; cases h
  | .mkE c a, e, sc, G, W, X, h, O => by
    unfold chk at h
    split at h
    · simp only [Bool.and_eq_true, decide_eq_true_eq, Bool.not_eq_true'] at h
      obtain ⟨⟨⟨⟨h1, h2⟩, h3⟩, h4⟩, h5⟩ := h
      exact two (ex_mkE O h1 h2 h3 (so a h4 O).1 h5) rfl
    · cases h
  | .mkO c f a, e, sc, G, W, X, h, O => by
    unfold chk at h; cases h
  | .isE a cs (some d), e, sc, G, W, X, h, O => by
    unfold chk at h
    split at h
    · simp only [Bool.and_eq_true, beq_iff_eq, decide_eq_true_eq] at h
      obtain ⟨⟨⟨⟨⟨⟨⟨⟨h1, h2⟩, h3⟩, h4⟩, h5⟩, h6⟩, h7⟩, h8⟩, h9⟩ := h
      subst h1
      exact two (ex_isE O h2 h3 h7 h6 h8 h9 (so a h4 O).1 h5) rfl
    · cases h
  | .isE a cs none, e, sc, G, W, X, h, O => by
    unfold chk at h
    split at h
    · simp only [Bool.and_eq_true, beq_iff_eq, decide_eq_true_eq] at h
      obtain ⟨⟨⟨⟨⟨⟨⟨⟨⟨h1, h2⟩, h3⟩, h4⟩, h5⟩, h6⟩, h7⟩, h8⟩, h9⟩, h10⟩ := h
      subst h1; subst h8
      exact two (ex_isV O h2 h3 h7 h6 h9 h10 (so a h4 O).1 h5) rfl
    · cases h
  | .fld a f, e, sc, G, W, X, h, O => by
    unfold chk at h
    split at h
    · simp only [Bool.and_eq_true, Bool.or_eq_true, beq_iff_eq] at h
      obtain ⟨⟨⟨⟨h1, h2⟩, h3⟩, h4⟩, h5⟩ := h
      subst h1
      exact two (ex_fld O h2 h3 (so a h4 O).1 h5) rfl
    · cases h
  | .trng tu none b, e, sc, G, W, X, h, O => by
    unfold chk at h
    split at h
    · simp only [Bool.and_eq_true, beq_iff_eq] at h
      obtain ⟨⟨⟨⟨⟨⟨⟨h1, h2⟩, h3⟩, h4⟩, h5⟩, h6⟩, h7⟩, h8⟩ := h
      subst h1; subst h4
      exact two (ex_trng1 O h2 h3 h5 h6 (so b h7 O).1 h8) rfl
    · cases h
  | .trng tu (some a) b, e, sc, G, W, X, h, O => by
    unfold chk at h
    split at h
    · simp only [Bool.and_eq_true, beq_iff_eq] at h
      obtain ⟨⟨⟨⟨⟨⟨⟨⟨⟨h1, h2⟩, h3⟩, h4⟩, h5⟩, h6⟩, h7⟩, h8⟩, h9⟩, h10⟩ := h
      subst h1; subst h4
      exact two (ex_trng2 O h2 h3 h5 h6 (so a h7 O).1 h8 (so b h9 O).1 h10) rfl
    · cases h
  | .comp mu own t it c e', e, sc, G, W, X, h, O => by
    unfold chk at h
    split at h
    · next elt tg iter ifs n scope pos =>
      simp only [Bool.and_eq_true] at h
      obtain ⟨⟨⟨⟨⟨⟨h1, h2⟩, h3⟩, h4⟩, h5⟩, h6⟩, h7⟩ := h
      rw [beq_iff_eq] at h1
      subst h1
      exact two (ex_comp O (soIt it h3 O) h4 h2 h5 (fun p s H C cl' fp => soF (G := G.up [p]) c h6 (O.blk p s H scope C cl' fp)) (fun p s H C cl' fp => (so (G := G.up [p]) e' h7 (O.blk p s H scope C cl' fp)).1)) rfl
    · cases h
theorem soO : ∀ (o : Option CE) {e : Option Expr} {sc : Scope} {G : GC} {W : WX} {X : Cx}, chkO G.T N sc o e = true → XOk G cl N sc W X → PO X e (tOI G W (evO cl o))
  | none, e, sc, G, W, X, h, O => by
    simp only [chkO, Option.isNone_iff_eq_none] at h
    subst h
    exact po_no
  | some c, none, sc, G, W, X, h, O => by simp [chkO] at h
  | some c, some e, sc, G, W, X, h, O => by
    simp only [chkO] at h
    exact po_yes (so c h O).1
theorem soF : ∀ (o : Option CE) {es : List Expr} {sc : Scope} {G : GC} {W : WX} {X : Cx}, chkF G.T N sc o es = true → XOk G cl N sc W X → PTs X es (tB G W (evC cl o))
  | none, e, sc, G, W, X, h, O => by
    simp only [chkF, List.isEmpty_iff] at h
    subst h
    exact tests_no
  | some c, [], sc, G, W, X, h, O => by simp [chkF] at h
  | some c, [e], sc, G, W, X, h, O => by
    simp only [chkF, Bool.and_eq_true] at h
    exact tests_one ((so c h.1 O).2 h.2)
  | some c, _ :: _ :: _, sc, G, W, X, h, O => by simp [chkF] at h
theorem soL : ∀ (cs : List CE) {es : List Expr} {sc : Scope} {G : GC} {W : WX} {X : Cx}, chkL G.T N sc cs es = true → es.all plainE = true → XOk G cl N sc W X → PA X es (tAs G W (evs cl cs))
  | [], es, sc, G, W, X, h, _, O => by
    simp only [chkL, List.isEmpty_iff] at h
    subst h
    exact as_nil
  | c :: cs, [], sc, G, W, X, h, _, O => by simp [chkL] at h
  | c :: cs, e :: es, sc, G, W, X, h, hp, O => by
    simp only [chkL, Bool.and_eq_true] at h
    rw [List.all_cons, Bool.and_eq_true] at hp
    exact as_cons hp.1 (so c h.1 O).1 (soL cs h.2 hp.2 O)
theorem soAnd : ∀ (cs : List CE) {es : List Expr} {sc : Scope} {G : GC} {W : WX} {X : Cx}, chkL G.T N sc cs es = true → es.isEmpty = false → XOk G cl N sc W X → ∀ pos, Ands .And G W X es pos (evAnd cl cs)
  | [], es, sc, G, W, X, h, h0, O, pos => by
    simp only [chkL] at h
    rw [h] at h0; cases h0
  | c :: cs, [], sc, G, W, X, h, _, O, pos => by simp [chkL] at h
  | [c], e :: es, sc, G, W, X, h, _, O, pos => by
    simp only [chkL, Bool.and_eq_true, List.isEmpty_iff] at h
    obtain ⟨h1, h2⟩ := h
    subst h2
    have q := so c h1 O
    exact ⟨pe_one q.1, fun hp => pw_and1 (q.2 (by simpa using hp))⟩
  | c :: c' :: cs, [e], sc, G, W, X, h, _, O, pos => by simp [chkL] at h
  | c :: c' :: cs, e :: e' :: es, sc, G, W, X, h, _, O, pos => by
    have h' : chk G.T N sc c e = true ∧ chkL G.T N sc (c' :: cs) (e' :: es) = true := by
      simpa only [chkL, Bool.and_eq_true] using h
    have q := so c h'.1 O
    have r := soAnd (c' :: cs) h'.2 rfl O pos
    refine ⟨ex_and q.1 r.1, fun hp => ?_⟩
    rw [List.all_cons, Bool.and_eq_true] at hp
    exact tx_and (q.2 hp.1) (r.2 hp.2)
theorem soOr : ∀ (cs : List CE) {es : List Expr} {sc : Scope} {G : GC} {W : WX} {X : Cx}, chkL G.T N sc cs es = true → es.isEmpty = false → XOk G cl N sc W X → ∀ pos, Ands .Or G W X es pos (evOr cl cs)
  | [], es, sc, G, W, X, h, h0, O, pos => by
    simp only [chkL] at h
    rw [h] at h0; cases h0
  | c :: cs, [], sc, G, W, X, h, _, O, pos => by simp [chkL] at h
  | [c], e :: es, sc, G, W, X, h, _, O, pos => by
    simp only [chkL, Bool.and_eq_true, List.isEmpty_iff] at h
    obtain ⟨h1, h2⟩ := h
    subst h2
    have q := so c h1 O
    exact ⟨pe_one q.1, fun hp => pw_or1 (q.2 (by simpa using hp))⟩
  | c :: c' :: cs, [e], sc, G, W, X, h, _, O, pos => by simp [chkL] at h
  | c :: c' :: cs, e :: e' :: es, sc, G, W, X, h, _, O, pos => by
    have h' : chk G.T N sc c e = true ∧ chkL G.T N sc (c' :: cs) (e' :: es) = true := by
      simpa only [chkL, Bool.and_eq_true] using h
    have q := so c h'.1 O
    have r := soOr (c' :: cs) h'.2 rfl O pos
    refine ⟨ex_or q.1 r.1, fun hp => ?_⟩
    rw [List.all_cons, Bool.and_eq_true] at hp
    exact tx_or (q.2 hp.1) (r.2 hp.2)
theorem soIt : ∀ (it : CIt) {t : CT} {tg e : Expr} {sc : Scope} {G : GC} {W : WX} {X : Cx}, chkIt G.T N sc it t tg e = true → XOk G cl N sc W X → PI X tg e (tIt G W (evIt cl it))
  | .val c, t, tg, e, sc, G, W, X, h, O => by
    simp only [chkIt] at h
    exact it_val O (so c h O).1
  | .rng1 c, t, tg, e, sc, G, W, X, h, O => by
    unfold chkIt at h
    split at h
    · simp only [Bool.and_eq_true, beq_iff_eq] at h
      obtain ⟨⟨⟨⟨h1, h2⟩, h3⟩, h4⟩, h5⟩ := h
      subst h1
      exact it_rng1 O h2 h3 h5 (so c h4 O).1
    · cases h
  | .rng2 a b, t, tg, e, sc, G, W, X, h, O => by
    unfold chkIt at h
    split at h
    · simp only [Bool.and_eq_true, beq_iff_eq] at h
      obtain ⟨⟨⟨⟨⟨⟨h1, h2⟩, h3⟩, h4⟩, h5⟩, h6⟩, h7⟩ := h
      subst h1
      exact it_rng2 O h2 h3 h6 h7 (so a h4 O).1 (so b h5 O).1
    · cases h
  | .enum true c, t, tg, e, sc, G, W, X, h, O => by
    unfold chkIt at h
    rw [Bool.and_eq_true] at h
    obtain ⟨h0, h⟩ := h
    split at h
    · simp only [Bool.and_eq_true, beq_iff_eq] at h
      obtain ⟨⟨⟨⟨h1, h2⟩, h3⟩, h4⟩, h5⟩ := h
      subst h1
      unfold isTup at h0
      split at h0
      · exact it_enumT O h2 h3 h5 (so c h4 O).1
      · cases h0
    · cases h
  | .enum false c, t, tg, e, sc, G, W, X, h, O => by
    unfold chkIt at h
    rw [Bool.and_eq_true] at h
    obtain ⟨h0, h⟩ := h
    split at h
    · simp only [Bool.and_eq_true, beq_iff_eq] at h
      obtain ⟨⟨⟨⟨h1, h2⟩, h3⟩, h4⟩, h5⟩ := h
      subst h1
      unfold isTup at h0
      split at h0
      · exact it_enumL O h2 h3 h5 (so c h4 O).1
      · cases h0
    · cases h
  | .zip a b, t, tg, e, sc, G, W, X, h, O => by
    unfold chkIt at h
    rw [Bool.and_eq_true] at h
    obtain ⟨h0, h⟩ := h
    split at h
    · simp only [Bool.and_eq_true, beq_iff_eq] at h
      obtain ⟨⟨⟨⟨⟨⟨h1, h2⟩, h3⟩, h4⟩, h5⟩, h6⟩, h7⟩ := h
      subst h1
      unfold isTup at h0
      split at h0
      · exact it_zip O h2 h3 h6 h7 (so a h4 O).1 (so b h5 O).1
      · cases h0
    · cases h
end
end
end Ev
/-! Ev, part I: statements. -/
namespace Ev
open PySem L2
def PostS (G : GC) (W : WX) (m : List Addr) (H : Hp) (r : RS) (E : Ends) : Prop :=
  match r with
  | .nx τ S => ∀ m' H' σ', Ext m H m' H' → Sim G m' H' S → RelS G m' H' σ' τ → E.nx σ' H'
  | .bk τ S => ∀ m' H' σ', Ext m H m' H' → Sim G m' H' S → RelS G m' H' σ' τ → E.bk σ' H'
  | .ct τ S => ∀ m' H' σ', Ext m H m' H' → Sim G m' H' S → RelS G m' H' σ' τ → E.ct σ' H'
  | .rt d S => ∀ m' H' v, Ext m H m' H' → Sim G m' H' S → Rep G m' H' d v → E.rt v H'
  | .ex c pl τ S => ∀ m' H' σ' cls dd, Ext m H m' H' → Sim G m' H' S → RelS G m' H' σ' τ → RepX G m' H' c pl cls dd → W cls dd σ' H'
  | .bad => False
def tS (G : GC) (W : WX) (r : Slots → Store → RS) : TS := fun E σ H => ∃ m τ S, RelS G m H σ τ ∧ Sim G m H S ∧ PostS G W m H (r τ S) E
section
variable {G : GC} {W : WX} {m m' : List Addr} {H H' : Hp} {S : Store} {σ : St} {τ : Slots} {α β : Type} {R1 : List Addr → Hp → α → β → Prop} {E : Ends}
theorem PostS.on {r : RS} (h : PostS G W m H r E) (e : Ext m H m' H') : PostS G W m' H' r E := by
  cases r with
  | nx τ S => exact fun m2 H2 σ' e2 => h m2 H2 σ' (e.trans e2)
  | bk τ S => exact fun m2 H2 σ' e2 => h m2 H2 σ' (e.trans e2)
  | ct τ S => exact fun m2 H2 σ' e2 => h m2 H2 σ' (e.trans e2)
  | rt d S => exact fun m2 H2 v e2 => h m2 H2 v (e.trans e2)
  | ex c pl τ S => exact fun m2 H2 σ' cls dd e2 => h m2 H2 σ' cls dd (e.trans e2)
  | bad => exact h
theorem PostS.seq {r : R α} {f : α → Store → RS} {Q' : β → Hp → Prop} (rel : RelS G m H σ τ) (h : PostS G W m H (r.bindS τ f) E)
    (k : ∀ m' H' d S' v, Ext m H m' H' → RelS G m' H' σ τ → Sim G m' H' S' → R1 m' H' d v → PostS G W m' H' (f d S') E → Q' v H') : Post G W R1 m σ H r Q' := by
  cases r with
  | bad => exact h
  | ex c pl S => exact fun m' H' cls dd e s x => h m' H' σ cls dd e s (rel.ext e) x
  | ok d S => exact fun m' H' v e s q => k m' H' d S v e (rel.ext e) s q (PostS.on h e)
theorem tS.seq {r : Slots → Store → R α} {f : α → Store → RS} {Q' : β → Hp → Prop} (rel : RelS G m H σ τ) (sim : Sim G m H S) (h : PostS G W m H ((r τ S).bindS τ f) E)
    (k : ∀ m' H' d S' v, Ext m H m' H' → RelS G m' H' σ τ → Sim G m' H' S' → R1 m' H' d v → PostS G W m' H' (f d S') E → Q' v H') : tR G W R1 r σ H Q' := ⟨m, τ, S, rel, sim, h.seq rel k⟩
theorem PostS.tst {r : R D} {F : D → Store → RS} {Q' : Bool → Hp → Prop} (rel : RelS G m H σ τ) (h : PostS G W m H (r.bindS τ F) E) (k0 : ∀ d S', truth d = none → F d S' = .bad)
    (k : ∀ m' H' d S' b, Ext m H m' H' → RelS G m' H' σ τ → Sim G m' H' S' → truth d = some b → PostS G W m' H' (F d S') E → Q' b H') : Post G W (fun _ _ d v => v = d) m σ H (r.bind fun x S => okO (truth x) S) Q' := by
  cases r with
  | bad => exact h
  | ex c pl S => exact fun m' H' cls dd e s x => h m' H' σ cls dd e s (rel.ext e) x
  | ok d S =>
    show Post G W _ m σ H (okO (truth d) S) Q'
    cases et : truth d with
    | none =>
      have h2 : PostS G W m H (F d S) E := h
      rw [k0 d S et] at h2
      exact h2
    | some b =>
      intro m' H' v e s q
      subst q
      exact k m' H' d S v e (rel.ext e) s et (PostS.on h e)
end
section
variable {G : GC} {cl : Nat → List D → Store → R D} {N : List Str} {sc : Scope} {W : WX} {X : Cx} {ra rb rc : Slots → Store → R D} {a b c e tg : Expr} {pos : Pos}
/-- where a def's body runs -/
structure FOk (N : List Str) (so : Scope) (X : Cx) : Prop extends SOk N so X where
  pas : PassesOwn (model X.prog X.w) X.A X.env X.xe
  bk : X.env.blockKind = .function
/-! ### stores -/
theorem nm_imp {i : Nat} {E : Ends} {σ : St} {H : Hp} (q : tS G W (fun τ S => (ra τ S).bindS τ fun x S => .nx (τ.set i (some x)) S) E σ H) : tAsg (tE G W ra) (gName i) E σ H := by
  obtain ⟨m, τ, S, rel, sim, q⟩ := q
  exact tS.seq rel sim q fun m1 H1 d S1 v e1 rel1 sim1 r1 p => p m1 H1 _ (.refl _ _) sim1 (rel1.set r1)
theorem st_set (O : XOk G cl N sc W X) (F : FOk N sc X) {i : Nat} {x : Str} {p : Pos} (hN : N[i]? = some x) (hx : sto sc x = true) (he : PE X e (tE G W ra)) (hs : swapsWith e (some (.Name x p)) pos.line X.env = pure false) :
    PS X (.Assign [.Name x p] e pos) (tS G W fun τ S => (ra τ S).bindS τ fun x S => .nx (τ.set i (some x)) S) := by
  obtain ⟨p1, p2⟩ := F.put x hx
  exact (ps_set F.nd (by rw [F.eN]; exact hN) p1 he hs p2).imp fun E σ H q => nm_imp q
theorem swaps_no (h : plainC e = true) {t : Option Expr} {l : Nat} {env : Env} : swapsWith e t l env = pure false := plain_swaps h
/-- does the store of a comprehension swap the name out -/
def swB (sc : Scope) (x : Str) (p : Pos) (s : Scope) (q : Pos) : Bool := sc.names.lookup x == some .local && p.line == q.line && !(s.names.any fun y => y.1 == x && (y.2 == .local || y.2 == .cell))
theorem swaps_lc (F : FOk N sc X) (eS : X.env.scope = sc) {elt : Expr} {gens : List Comprehension} {s : Scope} {q p : Pos} {x : Str} {l : Nat} : swapsWith (.ListComp elt gens s q) (some (.Name x p)) l X.env = pure (swB sc x p s q) := by
  have e1 : swapsWith (.ListComp elt gens s q) (some (.Name x p)) l X.env = pure (X.env.blockKind == .function && X.env.kindOf x == some .local && p.line == q.line && !(s.names.any fun y => y.1 == x && (y.2 == .local || y.2 == .cell))) := rfl
  rw [e1, F.bk]
  subst eS
  rfl
/-- target = value, by a tuple of targets -/
theorem st_tgt (O : XOk G cl N sc W X) (F : FOk N sc X) {t : CT} (hT : chkT N sc none t tg = true) (he : PE X e (tE G W ra)) (pc : plainC e = true) (pt : plainT tg = true) (hw : swappedStores [tg] e X.env = pure none) :
    PS X (.Assign [tg] e pos) (tS G W fun τ S => (ra τ S).bindS τ fun x S => match bindT t x τ with
      | some τ => .nx τ S
      | none => .bad) := by
  refine (ps_asg he (gt_ok O.toAt F.toSOk hT).1 (swaps_no pc) hw (by rw [tgt_cons pt]; rfl)).imp fun E σ H ⟨m, τ, S, rel, sim, q⟩ => ?_
  refine tS.seq rel sim q fun m1 H1 d S1 v e1 rel1 sim1 r1 p => ⟨m1, τ, S1, d, rel1, sim1, r1, ?_⟩
  cases hb : bindT t d τ with
  | none => rw [hb] at p; exact p
  | some τ' =>
    rw [hb] at p
    exact fun σ' rel' _ => p m1 H1 σ' (.refl _ _) sim1 rel'
theorem sw_none (h : ∀ vs k p, e ≠ .Tuple vs k p) {ts : List Expr} {k : Nat} {p : Pos} {env : Env} : swappedStores [.Tuple ts k p] e env = pure none := by
  cases e <;> first | rfl | exact absurd rfl (h _ _ _)
/-- the names that a pair's store would swap -/
def swN (sc : Scope) (ts : List Expr) : List Str := ts.filterMap fun
  | .Name id pos => if sc.names.lookup id == some .local && pos.line == (ts.head?.map (·.pos.line)).getD 0 then some id else none
  | _ => none
theorem sw_folded {ts vs : List Expr} {k k2 : Nat} {p p2 : Pos} {env : Env} (h : (vs.all (foldedForSure 8) || (swN env.scope ts).length != ts.length) = true) : swappedStores [.Tuple ts k p] (.Tuple vs k2 p2) env = pure none := by
  have e : (swN env.scope ts).length = (List.filterMap (fun | Expr.Name id pos => if env.kindOf id == some .local && pos.line == (ts.head?.map (·.pos.line)).getD 0 then some id else none | _ => none) ts).length := rfl
  rw [Bool.or_eq_true] at h
  rcases h with h | h
  · simp only [swappedStores, h, if_true]
    repeat' split
    all_goals rfl
  · simp only [swappedStores]
    split
    · rfl
    split
    · rfl
    split
    · rfl
    · next hn =>
      exfalso
      apply hn
      rw [Bool.or_eq_true]
      exact .inl h
/-- o[i] = value -/
theorem st_setI (O : XOk G cl N sc W X) {p2 : Pos} (he : PE X e (tE G W rc)) (ho : PE X a (tE G W ra)) (hi : PE X b (tE G W rb)) (pc : plainC e = true)
    (ha : ∀ v, assign (.Subscript a b p2) X.env v = (do
      let ov ← holding [v] (eval a X.env)
      let iv ← holding [v, ov] (eval b X.env)
      standAt p2
      holding [v, ov, iv] (setItem ov iv v)
      release [v, ov, iv] [])) :
    PS X (.Assign [.Subscript a b p2] e pos) (tS G W fun τ S => (rc τ S).bindS τ fun v S => (ra τ S).bindS τ fun x S => (rb τ S).bindS τ fun y S => match setIt x y v S with
      | some S => .nx τ S
      | none => .bad) := by
  have hset : PSet X (fun o i v H Q => rSetL o i v H Q ∨ rSetD G o i v H Q ∨ rSetI G o i v H Q) := fun pins s σ H o i v ov iv u Q I ro ri rv h => h.elim (set_list pins s σ H o i v ov iv u Q I ro ri rv) fun h => h.elim (set_dct O.toAt pins s σ H o i v ov iv u Q I ro ri rv) (set_dcti O.toAt pins s σ H o i v ov iv u Q I ro ri rv)
  refine (ps_asg (pos := pos) he (pg_sub ho hi hset ha) (show swapsWithSole [.Subscript a b p2] e pos.line X.env = pure false from swaps_no (t := some (.Subscript a b p2)) (l := pos.line) (env := X.env) pc)).imp fun E σ H ⟨m, τ, S, rel, sim, q⟩ => ?_
  refine tS.seq rel sim q fun m1 H1 d S1 v e1 rel1 sim1 r1 p => tS.seq rel1 sim1 p fun m2 H2 d2 S2 v2 e2 rel2 sim2 r2 p2 => tS.seq rel2 sim2 p2 fun m3 H3 d3 S3 v3 e3 rel3 sim3 r3 p3 => ?_
  replace r2 := r2.ext e3
  replace r1 := (r1.ext e2).ext e3
  have key : ∀ n k xs j, d2 = .loc n → d3 = .int k → S3[n]? = some (.list xs) → ix xs.length k = some j → PostS G W m3 H3 (.nx τ (S3.set n (.list (xs.set j d)))) E → rSetL v2 v3 v H3 fun H3 => E.nx σ H3 := by
    rintro n k xs j rfl rfl hS hj h
    obtain ⟨l, hl, ws, h1, z, rw_⟩ := sim3.find hS
    simp only [Rep] at r2 r3
    obtain ⟨l', rfl, hl'⟩ := r2
    rw [hl] at hl'; cases hl'
    obtain ⟨ext, sim4⟩ := sim3.write (o := .lst (ws.set j v)) (x := .list (xs.set j d)) hl fun ext => ⟨_, upd_same, by rw [List.length_set]; exact z, (rw_.ext ext).set j (r1.ext ext)⟩
    exact ⟨l, ws, k, j, rfl, r3, h1, by rw [rw_.length]; exact hj, h m3 _ σ ext sim4 (rel3.ext ext)⟩
  have keyD : ∀ n kvs, d2 = .loc n → S3[n]? = some (.dict kvs) → keyT d3 = true → kvs.length < big → PostS G W m3 H3 (.nx τ (S3.set n (.dict (storeD kvs d3 d)))) E → rSetD G v2 v3 v H3 fun H3 => E.nx σ H3 := by
    rintro n kvs rfl hS hk hz h
    exact ⟨m3, S3, n, kvs, d3, d, r2, r3, r1, sim3, hS, hk, hz, fun m' H' ext sim4 => h m' H' σ ext sim4 (rel3.ext ext)⟩
  have other : ∀ n, d2 = .loc n → PostS G W m3 H3 (match (match S3[n]? with
    | some (.dict kvs) => if keyT d3 && decide (kvs.length < big) then some (S3.set n (.dict (storeD kvs d3 d))) else none
    | _ => none) with
      | some S => .nx τ S
      | none => .bad) E → rSetD G v2 v3 v H3 fun H3 => E.nx σ H3 := by
    intro n en p3
    split at p3
    · next S' hq =>
      split at hq
      · next kvs hS =>
        split at hq
        · next hc =>
          cases hq
          rw [Bool.and_eq_true, decide_eq_true_eq] at hc
          exact keyD n kvs en hS hc.1 hc.2 p3
        · cases hq
      · cases hq
    · exact p3.elim
  cases d2 <;> first | (simp [setIt, PostS] at p3; done) | skip
  rename_i n
  cases d3 <;> first | exact .inr (.inl (other n rfl p3)) | skip
  rename_i k
  simp only [setIt] at p3
  split at p3
  · next S' hq =>
    split at hq
    · next xs hS =>
      simp only [Option.map_eq_some_iff] at hq
      obtain ⟨j, hj, rfl⟩ := hq
      exact .inl (key n k xs j rfl rfl hS hj p3)
    · next kvs hS =>
      split at hq
      · next hz =>
        cases hq
        simp only [Rep] at r3
        exact .inr (.inr ⟨m3, S3, n, kvs, k, d, r2, r3, r1, sim3, hS, hz, fun m' H' ext sim4 => p3 m' H' σ ext sim4 (rel3.ext ext)⟩)
      · cases hq
    · cases hq
  · exact p3.elim
/-- a, b = x, y -/
theorem set_all2 {i j : Nat} {ds : List D} {τ : Slots} : setAll [i, j] ds τ = match ds with
    | [x, y] => some ((τ.set i (some x)).set j (some y))
    | _ => none := by
  match ds with
  | [] => rfl
  | [_] => rfl
  | [_, _] => rfl
  | _ :: _ :: _ :: _ => rfl
theorem set_all3 {i j k : Nat} {ds : List D} {τ : Slots} : setAll [i, j, k] ds τ = match ds with
    | [x, y, z] => some (((τ.set i (some x)).set j (some y)).set k (some z))
    | _ => none := by
  match ds with
  | [] => rfl
  | [_] => rfl
  | [_, _] => rfl
  | [_, _, _] => rfl
  | _ :: _ :: _ :: _ :: _ => rfl
variable {rs : Slots → Store → R (List D)}
theorem sw_pair {x y : Str} {a b : Expr} {px py p p2 : Pos} {k k2 : Nat} (F : FOk N sc X) (eS : X.env.scope = sc) (hx : sc.names.lookup x = some .local) (hy : sc.names.lookup y = some .local) (hne : x ≠ y) (hl : (py.line == px.line) = true)
    (pa : plainE a = true) (pb : plainE b = true) (h1 : [a, b].all (foldedForSure 8) = false) (h2 : [a, b].all (constantsAlone 8) = false) : swappedStores [.Tuple [.Name x px, .Name y py] k p] (.Tuple [a, b] k2 p2) X.env = pure (some [x, y]) := by
  subst eS
  have kx : X.env.kindOf x = some .local := hx
  have ky : X.env.kindOf y = some .local := hy
  have hp1 : (Expr.pos (.Name x px)).line = px.line := rfl
  simp only [swappedStores, h1, h2, F.bk, kx, ky, List.filterMap_cons, List.filterMap_nil, List.head?_cons, Option.map_some, Option.getD_some, hp1, beq_self_eq_true, hl, Bool.and_self, if_true, List.length_cons, List.length_nil]
  have hd : ([x, y] : List Str).eraseDups = [x, y] := by
    rw [List.eraseDups_cons]
    have : ([y].filter fun b => !b == x) = [y] := by simp [Ne.symm hne]
    rw [this, List.eraseDups_cons]; rfl
  simp [hd]
  rintro (h | h) <;> (split at h <;> simp_all [plainE])
theorem st_par2 (O : XOk G cl N sc W X) (F : FOk N sc X) {i j : Nat} {x y : Str} {px py p p2 : Pos} {k k2 : Nat} (hi : N[i]? = some x) (hj : N[j]? = some y) (hx : sc.names.lookup x = some .local) (hy : sc.names.lookup y = some .local) (hne : x ≠ y)
    (hl : (py.line == px.line) = true) (pa : plainE a = true) (pb : plainE b = true) (h1 : [a, b].all (foldedForSure 8) = false) (h2 : [a, b].all (constantsAlone 8) = false) (ha : PA X [a, b] (tAs G W rs)) :
    PS X (.Assign [.Tuple [.Name x px, .Name y py] k p] (.Tuple [a, b] k2 p2) pos) (tS G W fun τ S => (rs τ S).bindS τ fun xs S => match setAll [i, j] xs τ with
      | some τ => .nx τ S
      | none => .bad) := by
  have hij : i ≠ j := fun z => hne (by subst z; rw [hi] at hj; exact Option.some.inj hj)
  refine (ps_par O.calm F.nd (by rw [F.eN]; exact hi) (by rw [F.eN]; exact hj) hij (by rw [O.eS]; exact hx) (by rw [O.eS]; exact hy) ha (sw_pair F O.eS hx hy hne hl pa pb h1 h2) rfl).imp fun E σ H ⟨m, τ, S, rel, sim, q⟩ => ?_
  refine tS.seq rel sim q fun m1 H1 ds S1 vs e1 rel1 sim1 r1 pp => ?_
  rw [set_all2] at pp
  match ds, r1, pp with
  | [], _, pp => exact pp.elim
  | [_], _, pp => exact pp.elim
  | _ :: _ :: _ :: _, _, pp => exact pp.elim
  | [d1, d2], r1, pp =>
    obtain ⟨v, w, ev, r1, r2⟩ := rep2 r1
    exact ⟨v, w, ev, pp m1 H1 _ (.refl _ _) sim1 ((rel1.set r1).set r2)⟩
theorem sw_three {x y z : Str} {a b c : Expr} {px py pz p p2 : Pos} {k k2 : Nat} (F : FOk N sc X) (eS : X.env.scope = sc) (hx : sc.names.lookup x = some .local) (hy : sc.names.lookup y = some .local) (hz : sc.names.lookup z = some .local) (hxy : x ≠ y) (hxz : x ≠ z) (hyz : y ≠ z)
    (hl : (py.line == px.line) = true) (hl2 : (pz.line == px.line) = true) (pa : plainE a = true) (pb : plainE b = true) (pc : plainE c = true) (h1 : [a, b, c].all (foldedForSure 8) = false) (h2 : [a, b, c].all (constantsAlone 8) = false) :
    swappedStores [.Tuple [.Name x px, .Name y py, .Name z pz] k p] (.Tuple [a, b, c] k2 p2) X.env = pure (some [x, y, z]) := by
  subst eS
  have kx : X.env.kindOf x = some .local := hx
  have ky : X.env.kindOf y = some .local := hy
  have kz : X.env.kindOf z = some .local := hz
  have hp1 : (Expr.pos (.Name x px)).line = px.line := rfl
  simp only [swappedStores, h1, h2, F.bk, kx, ky, kz, List.filterMap_cons, List.filterMap_nil, List.head?_cons, Option.map_some, Option.getD_some, hp1, beq_self_eq_true, hl, hl2, Bool.and_self, if_true, List.length_cons, List.length_nil]
  have hd : ([x, y, z] : List Str).eraseDups = [x, y, z] := by
    rw [List.eraseDups_cons]
    have : ([y, z].filter fun b => !b == x) = [y, z] := by simp [Ne.symm hxy, Ne.symm hxz]
    rw [this, List.eraseDups_cons]
    have : ([z].filter fun b => !b == y) = [z] := by simp [Ne.symm hyz]
    rw [this, List.eraseDups_cons]; rfl
  simp [hd]
  rintro (h | h | h) <;> (split at h <;> simp_all [plainE])
theorem st_par3 (O : XOk G cl N sc W X) (F : FOk N sc X) {i j l : Nat} {x y z : Str} {px py pz p p2 : Pos} {k k2 : Nat} (hi : N[i]? = some x) (hj : N[j]? = some y) (hk : N[l]? = some z) (hx : sc.names.lookup x = some .local) (hy : sc.names.lookup y = some .local) (hz : sc.names.lookup z = some .local) (hxy : x ≠ y) (hxz : x ≠ z) (hyz : y ≠ z)
    (hl : (py.line == px.line) = true) (hl2 : (pz.line == px.line) = true) (pa : plainE a = true) (pb : plainE b = true) (pc : plainE c = true) (h1 : [a, b, c].all (foldedForSure 8) = false) (h2 : [a, b, c].all (constantsAlone 8) = false) (ha : PA X [a, b, c] (tAs G W rs)) :
    PS X (.Assign [.Tuple [.Name x px, .Name y py, .Name z pz] k p] (.Tuple [a, b, c] k2 p2) pos) (tS G W fun τ S => (rs τ S).bindS τ fun xs S => match setAll [i, j, l] xs τ with
      | some τ => .nx τ S
      | none => .bad) := by
  have ne : ∀ {i j : Nat} {x y : Str}, N[i]? = some x → N[j]? = some y → x ≠ y → i ≠ j := fun h1 h2 h e => h (by subst e; rw [h1] at h2; exact Option.some.inj h2)
  refine (ps_par3 O.calm F.nd (by rw [F.eN]; exact hi) (by rw [F.eN]; exact hj) (by rw [F.eN]; exact hk) (ne hi hj hxy) (ne hi hk hxz) (ne hj hk hyz) (by rw [O.eS]; exact hx) (by rw [O.eS]; exact hy) (by rw [O.eS]; exact hz) ha (sw_three F O.eS hx hy hz hxy hxz hyz hl hl2 pa pb pc h1 h2) rfl).imp fun E σ H ⟨m, τ, S, rel, sim, q⟩ => ?_
  refine tS.seq rel sim q fun m1 H1 ds S1 vs e1 rel1 sim1 r1 pp => ?_
  rw [set_all3] at pp
  match ds, r1, pp with
  | [], _, pp => exact pp.elim
  | [_], _, pp => exact pp.elim
  | [_, _], _, pp => exact pp.elim
  | _ :: _ :: _ :: _ :: _, _, pp => exact pp.elim
  | [d1, d2, d3], r1, pp =>
    simp only [RepL] at r1
    obtain ⟨v1, _, rfl, q1, v2, _, rfl, q2, v3, _, rfl, q3, rfl⟩ := r1
    exact ⟨v1, v2, v3, rfl, pp m1 H1 _ (.refl _ _) sim1 (((rel1.set q1).set q2).set q3)⟩

/-! ### the rest -/
theorem st_ret (he : PE X e (tE G W ra)) : PS X (.Return (some e) pos) (tS G W fun τ S => (ra τ S).bindS τ fun x S => .rt x S) :=
  (ps_ret he).imp fun E σ H ⟨m, τ, S, rel, sim, q⟩ => tS.seq rel sim q fun m1 H1 d S1 v e1 rel1 sim1 r1 p => p m1 H1 v (.refl _ _) sim1 r1
theorem st_retN : PS X (.Return none pos) (tS G W fun _ S => .rt .non S) :=
  ps_retN.imp fun E σ H ⟨m, τ, S, rel, sim, q⟩ => q m H .non (.refl _ _) sim (by simp only [Rep])
theorem st_ex (he : PE X e (tE G W ra)) (pc : plainC e = true) : PS X (.Expr e pos) (tS G W fun τ S => (ra τ S).bindS τ fun _ S => .nx τ S) :=
  (ps_expr he (swaps_no pc)).imp fun E σ H ⟨m, τ, S, rel, sim, q⟩ => tS.seq rel sim q fun m1 H1 d S1 v e1 rel1 sim1 r1 p => p m1 H1 σ (.refl _ _) sim1 rel1
theorem st_pass : PS X (.Pass pos) (tS G W fun τ S => .nx τ S) := ps_pass.imp fun E σ H ⟨m, τ, S, rel, sim, q⟩ => q m H σ (.refl _ _) sim rel
theorem st_brk : PS X (.Break pos) (tS G W fun τ S => .bk τ S) := ps_break.imp fun E σ H ⟨m, τ, S, rel, sim, q⟩ => q m H σ (.refl _ _) sim rel
theorem st_cnt : PS X (.Continue pos) (tS G W fun τ S => .ct τ S) := ps_continue.imp fun E σ H ⟨m, τ, S, rel, sim, q⟩ => q m H σ (.refl _ _) sim rel
theorem st_never {st : Stmt} : PS X st (tS G W fun _ _ => .bad) := ⟨fun pins s σ H E I ⟨m, τ, S, rel, sim, q⟩ => q.elim⟩
variable {xs ys : List Stmt} {p q : Slots → Store → RS}
theorem st_if (hc : PT X c (tB G W (tst rc))) (ha : PSs X xs (tS G W p)) (hb : PSs X ys (tS G W q)) : PS X (.If c xs ys pos) (tS G W fun τ S => (rc τ S).bindS τ fun x S => match truth x with
      | some true => p τ S
      | some false => q τ S
      | none => .bad) := by
  refine (ps_if hc ha hb).imp fun E σ H ⟨m, τ, S, rel, sim, w⟩ => ⟨m, τ, S, rel, sim, w.tst rel (fun d S' et => by rw [et]) fun m1 H1 d S1 k e1 rel1 sim1 et w1 => ?_⟩
  rw [et] at w1
  cases k with
  | false => rw [if_neg Bool.false_ne_true]; exact ⟨m1, τ, S1, rel1, sim1, w1⟩
  | true => rw [if_pos rfl]; exact ⟨m1, τ, S1, rel1, sim1, w1⟩
theorem sts_nil : PSs X [] (tS G W fun τ S => .nx τ S) := pss_nil.imp fun E σ H ⟨m, τ, S, rel, sim, w⟩ => w m H σ (.refl _ _) sim rel
theorem sts_cons {st : Stmt} (h1 : PS X st (tS G W p)) (h2 : PSs X xs (tS G W q)) : PSs X (st :: xs) (tS G W fun τ S => match p τ S with
      | .nx τ S => q τ S
      | r => r) := by
  refine (pss_cons h1 h2).imp fun E σ H ⟨m, τ, S, rel, sim, w⟩ => ⟨m, τ, S, rel, sim, ?_⟩
  have w : PostS G W m H (match p τ S with
      | .nx τ S => q τ S
      | r => r) E := w
  cases hp : p τ S with
  | nx τ1 S1 =>
    rw [hp] at w
    exact fun m1 H1 σ1 e1 sim1 rel1 => ⟨m1, τ1, S1, rel1, sim1, PostS.on w e1⟩
  | bk τ1 S1 => rw [hp] at w; exact w
  | ct τ1 S1 => rw [hp] at w; exact w
  | rt d S1 => rw [hp] at w; exact w
  | ex c pl τ1 S1 => rw [hp] at w; exact w
  | bad => rw [hp] at w; exact w
/-- a loop's body, behind it more turns -/
theorem turnS {E : Ends} {m : List Addr} {H : Hp} {r : RS} {f : Slots → Store → RS} {Nx : St → Hp → Prop}
    (w : PostS G W m H (match r with
      | .nx τ S => f τ S
      | .ct τ S => f τ S
      | .bk τ S => .nx τ S
      | r => r) E) (k : ∀ m' H' σ' τ S, Ext m H m' H' → Sim G m' H' S → RelS G m' H' σ' τ → PostS G W m' H' (f τ S) E → Nx σ' H') :
    PostS G W m H r { E with nx := Nx, ct := Nx, bk := E.nx } := by
  cases r with
  | nx τ1 S1 => exact fun m1 H1 σ1 e1 sim1 rel1 => k m1 H1 σ1 τ1 S1 e1 sim1 rel1 (PostS.on w e1)
  | ct τ1 S1 => exact fun m1 H1 σ1 e1 sim1 rel1 => k m1 H1 σ1 τ1 S1 e1 sim1 rel1 (PostS.on w e1)
  | bk τ1 S1 => exact w
  | rt d S1 => exact w
  | ex c pl τ1 S1 => exact w
  | bad => exact w
theorem st_wh (F : FOk N sc X) (hc : PT X c (tB G W (tst rc))) (hb : PSs X xs (tS G W p)) (n : Nat) : PS X (.While c xs [] pos) (tS G W fun τ S => whL rc p n τ S) := by
  refine (ps_while F.pas hc hb).imp fun E σ H ⟨m, τ, S, rel, sim, w⟩ => ?_
  refine ⟨fun n σ H => ∃ m τ S, RelS G m H σ τ ∧ Sim G m H S ∧ PostS G W m H (whL rc p n τ S) E, ⟨n, m, τ, S, rel, sim, w⟩, ?_⟩
  rintro n σ H ⟨m, τ, S, rel, sim, w⟩
  cases n with
  | zero => exact w.elim
  | succ n =>
    simp only [whL] at w
    refine ⟨m, τ, S, rel, sim, w.tst rel (fun d S' et => by rw [et]) fun m1 H1 d S1 k e1 rel1 sim1 et w1 => ?_⟩
    rw [et] at w1
    cases k with
    | false => rw [if_neg Bool.false_ne_true]; exact w1 m1 H1 σ (.refl _ _) sim1 rel1
    | true =>
      rw [if_pos rfl]
      exact ⟨fun σ' H' => ∃ n', n' < n + 1 ∧ ∃ m τ S, RelS G m H' σ' τ ∧ Sim G m H' S ∧ PostS G W m H' (whL rc p n' τ S) E, fun _ _ h => h, m1, τ, S1, rel1, sim1,
        turnS w1 fun m2 H2 σ2 τ2 S2 e2 sim2 rel2 w2 => ⟨n, Nat.lt_succ_self _, m2, τ2, S2, rel2, sim2, w2⟩⟩
theorem st_for (O : XOk G cl N sc W X) (F : FOk N sc X) {iter : Expr} {t : CT} {ri : Slots → Store → R Items} (hi : PI X tg iter (tIt G W ri)) (pl : plainE iter = true) (hg : chkT N sc none t tg = true) (hb : PSs X xs (tS G W p)) :
    PS X (.For tg iter xs [] pos) (tS G W fun τ S => (ri τ S).bindS τ fun I S => forL I (bindT t) p I.xs τ S) := by
  refine (ps_for F.pas O.calm hi (gt_ok O.toAt F.toSOk hg).1 hb (fun x => plain_fold pl x)).imp fun E σ H ⟨m, τ, S, rel, sim, w⟩ => ?_
  refine tS.seq rel sim w fun m1 H1 I S1 J e1 rel1 sim1 jw w1 => ?_
  refine ⟨fun i k σ H => k + i = I.xs.length ∧ ∃ m τ S, Ext m1 H1 m H ∧ RelS G m H σ τ ∧ Sim G m H S ∧ PostS G W m H (forL I (bindT t) p (I.xs.drop i) τ S) E, ⟨I.xs.length, rfl, m1, τ, S1, .refl _ _, rel1, sim1, by simpa using w1⟩, ?_⟩
  rintro i k σ H ⟨hk, m, τ, S, ext, rel, sim, w⟩
  by_cases hl : i < I.xs.length
  · right
    have ed : I.xs.drop i = I.xs[i] :: I.xs.drop (i + 1) := List.drop_eq_getElem_cons hl
    rw [ed] at w
    simp only [forL] at w
    cases st : I.still S with
    | false => rw [st] at w; exact w.elim
    | true =>
      rw [st] at w
      simp only [if_true] at w
      obtain ⟨g1, g2⟩ := jw.go [] i m H S (fun a h => by simp at h) ext sim st hl
      refine ⟨g1, fun σ' H' => ∃ k', k' < k ∧ k' + (i + 1) = I.xs.length ∧ ∃ m τ S, Ext m1 H1 m H' ∧ RelS G m H' σ' τ ∧ Sim G m H' S ∧ PostS G W m H' (forL I (bindT t) p (I.xs.drop (i + 1)) τ S) E, fun _ _ h => h, fun x H2 y => ?_⟩
      obtain ⟨ext2, sim2, d, exd, rd⟩ := g2 x H2 y
      rw [List.getElem?_eq_getElem hl, Option.some.injEq] at exd
      subst exd
      refine ⟨m, τ, S, I.xs[i], rel.ext ext2, sim2, rd, ?_⟩
      cases hb : bindT t I.xs[i] τ with
      | none => rw [hb] at w; exact w.elim
      | some τ' =>
        rw [hb] at w
        refine fun σ2 rel2 _ => ⟨m, τ', S, rel2, sim2, ?_⟩
        exact turnS (PostS.on w ext2) fun m3 H3 σ3 τ3 S3 e3 sim3 rel3 w3 => ⟨k - 1, by omega, by omega, m3, τ3, S3, ext.trans (ext2.trans e3), rel3, sim3, w3⟩
  · left
    have hi2 : i = I.xs.length := by omega
    subst hi2
    rw [List.drop_length] at w
    simp only [forL] at w
    cases st : I.still S with
    | false => rw [st] at w; exact w.elim
    | true =>
      rw [st] at w
      exact ⟨jw.stop [] m H S ext sim st, w m H σ (.refl _ _) sim rel⟩
end
end Ev
/-! Ev, part I2: raise, try. -/
namespace Ev
open PySem L2
section
variable {G : GC} {cl : Nat → List D → Store → R D} {N : List Str} {sc : Scope} {W : WX} {X : Cx} {pos : Pos} {H : Hp} {m : List Addr} {S : Store} {σ : St} {τ : Slots}
/-- raise X('m') -/
theorem st_raise (O : XOk G cl N sc W X) {c : Nat} {x w : Str} {j : Nat} {p p2 p3 : Pos} (hx : G.T.cls[c]? = some x) (hi : G.T.inis.contains c = false) (hg : glb sc x = true) :
    PS X (.Raise (some (.Call (.Name x p) [.Constant (.str w) j p2] [] p3)) none pos) (tS G W fun τ S => .ex c [] τ S) := by
  obtain ⟨C, e1, e2, e3, e4, e5⟩ := O.tab.exc c x hx
  obtain ⟨g1, g2, g3⟩ := glb_gl O hg
  have hk := O.K
  refine (ps_raise O.calm O.tk (pmk_own (C := C) (bmB := veB) F.excBase_ValueError (by rw [hk]; exact e3 hi) (by rw [O.mg]; exact e1) (by rw [hk]; exact e2) (raises_own (by rw [hk]; exact e4) (by rw [hk]; exact e5)) g1 g2)).imp fun E σ H ⟨m, τ, S, rel, sim, q⟩ => ?_
  exact q m H σ (.ref C) none (.refl _ _) sim rel ⟨C, x, hx, e1, rfl, .inl rfl⟩
/-- constants that a clause returns -/
def conOk (d : D) (e : Expr) : Bool := match d, e with
  | .str x, .Constant (.str y) _ _ => x == y && PyData.strOk x && decide (x.length ≤ big)
  | .bl b, .Constant (.bool c) _ _ => b == c
  | .non, .Constant .none _ _ => true
  | _, _ => false
theorem con_rep {d : D} {e : Expr} (h : conOk d e = true) : ∃ v, (∀ m H, Rep G m H d v) ∧ ∀ X : Cx, PE X e (tC v) := by
  unfold conOk at h
  split at h
  · simp only [Bool.and_eq_true, beq_iff_eq, decide_eq_true_eq] at h
    obtain ⟨⟨rfl, h2⟩, h3⟩ := h
    exact ⟨.str _, fun m H => by simp only [Rep]; exact ⟨trivial, h2, h3⟩, fun X => pe_str⟩
  · rw [beq_iff_eq] at h; subst h
    exact ⟨.bl _, fun m H => by simp only [Rep], fun X => pe_bl⟩
  · exact ⟨.non, fun m H => by simp only [Rep], fun X => pe_non⟩
  · cases h
def chkHd (T : Tab) (sc : Scope) (h : Hd) : ExceptHandler → Bool
  | .ExceptHandler (some (.Name x _)) none [.Return (some v) _] _ => decide (T.cls[h.c]? = some x) && glb sc x && conOk h.v v && (List.range T.cls.length).all fun c => h.cs.contains c == T.subs.contains (c, h.c)
  | _ => false
def chkHs (T : Tab) (sc : Scope) : List Hd → List ExceptHandler → Bool
  | [], es => es.isEmpty
  | h :: hs, es => match es with
    | e :: es => chkHd T sc h e && chkHs T sc hs es
    | [] => false
abbrev TL := List (Value × (Addr → Value → Option Addr → TS))
/-- the clauses' readings -/
inductive HL (G : GC) : List Hd → TL → Prop
  | nil : HL G [] []
  | cons {h : Hd} {hs : List Hd} {l : TL} {x : Str} {C : Addr} {v : V} (h1 : G.T.cls[h.c]? = some x) (h2 : G.mg x = some (.ref C)) (h3 : ∀ m H, Rep G m H h.v v) (h4 : ∀ c, c < G.T.cls.length → h.cs.contains c = G.T.subs.contains (c, h.c)) (r : HL G hs l) :
      HL G (h :: hs) ((.ref C, fun _ _ _ D _ H => D.rt v H) :: l)
theorem hds_ok {T : Tab} (hT : G.T = T) (ex : ∀ (c : Nat) (x : Str), G.T.cls[c]? = some x → ExF G c x) (hm : X.mg = G.mg) (hsc : ∀ x, glb sc x = true → Gl X x ∧ (x == ("__debug__" : Str)) = false) : ∀ {hs : List Hd} {es : List ExceptHandler}, chkHs T sc hs es = true → ∃ l, HdsOk X es l ∧ HL G hs l
  | [], es, h => by
    simp only [chkHs, List.isEmpty_iff] at h
    subst h
    exact ⟨[], .nil, .nil⟩
  | h :: hs, [], q => by simp [chkHs] at q
  | h :: hs, e :: es, q => by
    subst hT
    simp only [chkHs, Bool.and_eq_true] at q
    obtain ⟨l, l1, l2⟩ := hds_ok rfl ex hm hsc q.2
    have q1 := q.1
    unfold chkHd at q1
    split at q1
    · next x np v rp hp =>
      simp only [Bool.and_eq_true, decide_eq_true_eq] at q1
      obtain ⟨⟨⟨c1, c2⟩, c3⟩, c4⟩ := q1
      obtain ⟨C, e1, _⟩ := ex _ x c1
      obtain ⟨w, w1, w2⟩ := con_rep (G := G) c3
      obtain ⟨g1, g2⟩ := hsc x c2
      refine ⟨_, .cons (c := .ref C) (ts := fun _ _ _ D _ H => D.rt w H) ⟨g1, g2, .inl (by rw [hm]; exact e1)⟩ (fun a oe cls d pn _ _ => pss_one (ps_ret (w2 _))) l1, .cons c1 e1 w1 (fun c hc => ?_) l2⟩
      exact beq_iff_eq.mp (List.all_eq_true.mp c4 c (List.mem_range.mpr hc))
    · cases q1
/-- a raised exception and the clauses -/
theorem many_of {K : PySem.W.Frag} (hK : K = G.K) (exm : ∀ (c d : Nat) (x y : Str) (C E : Addr), G.T.cls[c]? = some x → G.T.cls[d]? = some y → G.mg x = some (.ref C) → G.mg y = some (.ref E) → PySem.W.exmOne G.K (.ref C) (.ref E) = some (G.T.subs.contains (c, d)))
    {c : Nat} {pl : List (Str × D)} {cls : Value} {dd : Option Addr} {D : Ends} (rx : RepX G m H c pl cls dd) : ∀ {hs : List Hd} {l : TL}, HL G hs l → (∀ d v, pick hs c = some d → Rep G m H d v → D.rt v H) → (pick hs c = none → W cls dd σ H) → wMany K W D l cls dd σ H := by
  intro hs l hl
  obtain ⟨C0, x0, a1, a2, rfl, a4⟩ := rx
  induction hl with
  | nil => intro _ h2; exact h2 rfl
  | @cons h hs l x C v h1 h2 h3 h4 r ih =>
    intro k1 k2
    have hc := h4 c (List.getElem?_eq_some_iff.mp a1).1
    refine ⟨_, by rw [hK]; exact exm _ _ _ _ _ _ a1 h1 a2 h2, fun hb a _ => ?_, fun hb => ?_⟩
    · exact k1 h.v v (by simp only [pick, hc, hb, if_true]) (h3 m H)
    · have e : pick (h :: hs) c = pick hs c := by simp only [pick, hc, hb, Bool.false_eq_true, if_false]
      exact ih (fun d w hp => k1 d w (by rw [e]; exact hp)) (fun hp => k2 (by rw [e]; exact hp))
/-- what a frame tells -/
structure TrOk (X : Cx) : Prop where
  stk : X.stack = X.env :: X.outer
  frm : X.env.frame = some X.env.locals
theorem XOk.tr (O : XOk G cl N sc W X) {W' : WX} {pn : List (Addr × Obj)} {xe : Value → Shared → Prop} (tk : Takes (X.tr pn xe) W') : XOk G cl N sc W' (X.tr pn xe) where
  K := O.K
  pr := O.pr
  wd := O.wd
  calm := O.calm
  un := O.un
  mg := O.mg
  eN := O.eN
  eS := O.eS
  nd := O.nd
  tab := O.tab
  tk := tk
  fnat := O.fnat
/-- try: body, except clauses that return -/
theorem st_try (O : XOk G cl N sc W X) (T : TrOk X) {body : List Stmt} {h₀ : ExceptHandler} {hds : List ExceptHandler} {hs : List Hd} {r : Slots → Store → RS} (hh : chkHs G.T sc hs (h₀ :: hds) = true)
    (hb : ∀ (W' : WX) (pn : List (Addr × Obj)) (xe : Value → Shared → Prop), Takes (X.tr pn xe) W' → PassesOwn (model X.prog X.w) X.A X.env xe → PSs (X.tr pn xe) body (tS G W' r)) :
    PS X (.Try body (h₀ :: hds) [] [] pos) (tS G W fun τ S => catchR hs (r τ S)) := by
  obtain ⟨l, l1, l2⟩ := hds_ok (X := X) rfl O.tab.exc O.mg (fun x hx => let ⟨a, b, _⟩ := glb_gl O hx; ⟨a, b⟩) hh
  refine (ps_try_many T.stk T.frm O.tk hb l1).imp fun E σ H ⟨m, τ, S, rel, sim, q⟩ => ⟨m, τ, S, rel, sim, ?_⟩
  revert q
  show PostS G W m H (catchR hs (r τ S)) E → PostS G (wMany X.K W E l) m H (r τ S) E
  generalize r τ S = z
  intro q
  cases z with
  | nx τ' S' => exact q
  | rt d S' => exact q
  | bk τ' S' => exact q
  | ct τ' S' => exact q
  | bad => exact q
  | ex c pl τ' S' =>
    intro m' H' σ' cls dd e s rl rx
    refine many_of O.K O.tab.exm rx l2 (fun d v hp rd => ?_) fun hp => ?_
    · have q' : PostS G W m H (.rt d S') E := by have := q; simp only [catchR, hp] at this; exact this
      exact q' m' H' v e s rd
    · have q' : PostS G W m H (.ex c pl τ' S') E := by have := q; simp only [catchR, hp] at this; exact this
      exact q' m' H' σ' cls dd e s rl rx
end
end Ev
/-! Ev, part J: statements against the text; defs. -/
namespace Ev
open PySem L2
def setOk (e : CE) (v : Expr) : Bool := match e, v with
  | .comp .., .ListComp _ _ _ _ => true
  | _, v => plainC v
def swNone (sc : Scope) (ts : List Expr) (v : Expr) : Bool := match v with
  | .Tuple vs _ _ => vs.all (foldedForSure 8) || (swN sc ts).length != ts.length
  | _ => true
def twoNames (N : List Str) (sc : Scope) (i j : Nat) (x y : Str) (px py : Pos) : Bool :=
  decide (N[i]? = some x) && decide (N[j]? = some y) && decide (sc.names.lookup x = some .local) && decide (sc.names.lookup y = some .local) && (x != y) && (py.line == px.line)
/-- a def that calls what it gets, once, and tells what comes of it by constants -/
def conCE : CE → D → Bool
  | .str x, .str y => x == y
  | .bl b, .bl c => b == c
  | .non, .non => true
  | _, _ => false
def helper (T : Tab) (f : Nat) (y : Str) (hs : List Hd) (d : D) : Bool := match T.fns[f]? with
  | some (x, ⟨1, _, [.tryR [.act] hs', .ret c]⟩) => x == y && decide (hs' = hs) && conCE c d
  | _ => false
def noPar : Arguments → Bool
  | ⟨[], [], none, [], [], none, []⟩ => true
  | _ => false
def lamX (T : Tab) (N : List Str) (sc : Scope) (f : Nat) (hs : List Hd) (d : D) (e : CE) : Expr → Bool
  | .Call (.Name y _) [.Lambda params body scope _] [] _ => glb sc y && helper T f y hs d && LamX.lamSB sc scope && noPar params && chk T N scope e body
  | _ => false
def retF : List Stmt → Bool
  | [.Return (some (.Constant (.bool false) _ _)) _] => true
  | _ => false
def chkLam (T : Tab) (N : List Str) (sc : Scope) (p : LP) (f : Nat) (hs : List Hd) (d : D) (e : CE) (st : Stmt) : Bool := match p with
  | .ifne c => match st with
    | .If (.Compare l [op] [r] _) b [] _ => decide (op = cO .ne) && lamX T N sc f hs d e l && chk T N sc c r && plainE r && retF b
    | _ => false
  | .ifnot => match st with
    | .If (.UnaryOp .Not l _) b [] _ => lamX T N sc f hs d e l && retF b
    | _ => false
  | .setl i => match st with
    | .Assign [.Name x _] (.List [l] _) _ => decide (N[i]? = some x) && sto sc x && lamX T N sc f hs d e l
    | _ => false
  | .app i => match st with
    | .Expr (.Call (.Attribute (.Name x _) name ap) [l] [] cp) _ => name == ("append" : Str) && (ap.endLine == cp.line) && decide (N[i]? = some x) && vis sc x && lamX T N sc f hs d e l
    | _ => false
mutual
/-- the tables that a body asks for -/
def lamsS : CS → List Nat
  | .ifs _ a b => lamsB a ++ lamsB b
  | .wh _ b => lamsB b
  | .fors _ _ b => lamsB b
  | .tryR b _ => lamsB b
  | .lamS _ ti _ _ _ _ => [ti]
  | _ => []
def lamsB : List CS → List Nat
  | [] => []
  | s :: r => lamsS s ++ lamsB r
end
section
variable (T : Tab) (N : List Str) (sc : Scope)
mutual
def chkS : CS → Stmt → Bool
  | .set i e, st => match st with
    | .Assign [.Name x _] v _ => decide (N[i]? = some x) && sto sc x && chk T N sc e v && setOk e v
    | _ => false
  | .par is es, st => match is, st with
    | [i, j], .Assign [.Tuple [.Name x px, .Name y py] _ _] (.Tuple [a, b] _ _) _ => twoNames N sc i j x y px py && chkL T N sc es [a, b] && plainE a && plainE b && !([a, b].all (foldedForSure 8)) && !([a, b].all (constantsAlone 8))
    | [i, j, l], .Assign [.Tuple [.Name x px, .Name y py, .Name z pz] _ _] (.Tuple [a, b, c] _ _) _ =>
      twoNames N sc i j x y px py && twoNames N sc i l x z px pz && twoNames N sc j l y z py pz && chkL T N sc es [a, b, c] && plainE a && plainE b && plainE c && !([a, b, c].all (foldedForSure 8)) && !([a, b, c].all (constantsAlone 8))
    | _, _ => false
  | .tgt t e, st => match st with
    | .Assign [.Tuple ts k p] v _ => chkT N sc none t (.Tuple ts k p) && chk T N sc e v && plainC v && swNone sc ts v
    | _ => false
  | .setI o i e, st => match st with
    | .Assign [.Subscript a b _] v _ => chk T N sc o a && chk T N sc i b && plainI b && chk T N sc e v && plainC v
    | _ => false
  | .ret e, st => match st with
    | .Return (some v) _ => chk T N sc e v
    | _ => false
  | .retN, st => match st with
    | .Return none _ => true
    | _ => false
  | .ifs c a b, st => match st with
    | .If t xs ys _ => chk T N sc c t && plainF t && chkB a xs && chkB b ys
    | _ => false
  | .wh c b, st => match st with
    | .While t xs [] _ => chk T N sc c t && plainF t && chkB b xs
    | _ => false
  | .fors t it b, st => match st with
    | .For tg iter xs [] _ => chkIt T N sc it t tg iter && plainE iter && chkT N sc none t tg && chkB b xs
    | _ => false
  | .ex e, st => match st with
    | .Expr v _ => chk T N sc e v && plainC v
    | _ => false
  | .brk, st => match st with
    | .Break _ => true
    | _ => false
  | .cnt, st => match st with
    | .Continue _ => true
    | _ => false
  | .pass, st => match st with
    | .Pass _ => true
    | _ => false
  | .never, _ => true
  | .raise c _, st => match st with
    | .Raise (some (.Call (.Name x _) [.Constant (.str _) _ _] [] _)) none _ => decide (T.cls[c]? = some x) && !(T.inis.contains c) && glb sc x
    | _ => false
  | .tryR b hs, st => match st with
    | .Try body (h :: hds) [] [] _ => chkB b body && chkHs T sc hs (h :: hds)
    | _ => false
  | .act, st => match st with
    | .Expr (.Call (.Name a _) [] [] _) _ => decide (N[0]? = some a) && vis sc a
    | _ => false
  | .lamS p _ f hs d e, st => chkLam T N sc p f hs d e st
def chkB : List CS → List Stmt → Bool
  | [], sts => sts.isEmpty
  | s :: r, sts => match sts with
    | st :: sts => chkS s st && chkB r sts
    | [] => false
end
end
theorem two_names {N : List Str} {sc : Scope} {i j : Nat} {x y : Str} {px py : Pos} (h : twoNames N sc i j x y px py = true) :
    N[i]? = some x ∧ N[j]? = some y ∧ sc.names.lookup x = some .local ∧ sc.names.lookup y = some .local ∧ x ≠ y ∧ (py.line == px.line) = true := by
  simp only [twoNames, Bool.and_eq_true, decide_eq_true_eq, bne_iff_ne, ne_eq] at h
  exact ⟨h.1.1.1.1.1, h.1.1.1.1.2, h.1.1.1.2, h.1.1.2, h.1.2, h.2⟩
/-- a def of the top, its compact body -/
def FnFact (G : GC) (base : Heap) (x : Str) (d : FD) : Prop := ∃ (a : Addr) (fd : FuncData) (ps N : List Str) (sc : Scope) (params : Arguments) (body : List Stmt),
  FunD G.K x x params body sc [] [] a fd ∧ G.mg x = some (.ref a) ∧ FnScope N ps sc ∧ ps.length = d.np ∧ N.length = d.ns ∧ Binds G.K fd ps [] ∧ chkB G.T N sc d.body body = true ∧
  ∀ ti ∈ lamsB d.body, ∀ (cdv : Value), (∃ (oc : Value) (od : Option Addr) (dV kV doc pm : Value) (an : Option Addr) (ct : Value) (osl : Array (Option Value)), G.K.lookup a = some ⟨oc, od, .func (PySem.W.fnOf x x params body sc dV kV doc pm an cdv ct), osl⟩) →
    ∃ (c P : Addr), cdv = .ref c ∧ LamX.TabB base G.mg c P ∧ G.tb[ti]? = some (P, x ++ ".<locals>." ++ "<lambda>")
/-- an exception class with its own __init__, as a def -/
def IniFact (G : GC) (x : Str) (d : FD) : Prop := ∃ (c : Nat) (C : Addr), G.T.cls[c]? = some x ∧ G.mg x = some (.ref C) ∧ G.T.inis.contains c = true ∧ G.T.blts.contains ("super" : Str) = true ∧ d = iniFD c x ∧ PySem.W.keepIn G.K (.ref C) = true
/-- what a frame needs that makes lambdas -/
structure LamOk (G : GC) (cl : Nat → List D → Store → R D) (X : Cx) (ti : Nat) : Prop where
  hlp : ∀ (f : Nat) (x : Str) (d : FD), G.T.fns[f]? = some (x, d) → FnFact G X.base x d ∨ IniFact G x d
  code : ∃ (c P : Addr), X.env.code = .ref c ∧ LamX.TabB X.base X.mg c P ∧ G.tb[ti]? = some (P, X.env.qual ++ "<lambda>")
  room : (∃ S d S', cl MARK [] S = .ok d S') → ∃ k, Room (k + 2) X.A ∧ ∀ (l : List Addr) (A' : Around), Room k A' → FnAt (G.up l) X.prog X.w X.base A' (low cl)
section
variable {G : GC} {m : List Addr} {H H1 : Hp} {S : Store}
/-- the tables that stand in the store -/
def tabsAt (G : GC) (m : List Addr) (S : Store) : List (Addr × Str) := (List.range m.length).filterMap fun n => match (S[n]? : Option MO) with
  | some (.tbl k) => G.tb[k]?
  | _ => none
theorem tabsAt_mem {p : Addr × Str} (h : p ∈ tabsAt G m S) : ∃ n k, n < m.length ∧ S[n]? = some (.tbl k) ∧ G.tb[k]? = some p := by
  obtain ⟨n, hn, e⟩ := List.mem_filterMap.mp h
  split at e
  · next k hk => exact ⟨n, k, List.mem_range.mp hn, hk, e⟩
  · cases e
theorem mem_tabsAt {p : Addr × Str} {n k : Nat} (h1 : n < m.length) (h2 : S[n]? = some (.tbl k)) (h3 : G.tb[k]? = some p) : p ∈ tabsAt G m S :=
  List.mem_filterMap.mpr ⟨n, List.mem_range.mpr h1, by rw [h2]; exact h3⟩
theorem Sim.tabs (s : Sim G m H S) : LamX.Tabs (tabsAt G m S) H := by
  intro p hp
  obtain ⟨n, k, h1, h2, h3⟩ := tabsAt_mem hp
  obtain ⟨q, ps, e1, e2, e3, e4⟩ := s.obj n _ _ (List.getElem?_eq_getElem h1) h2
  rw [h3] at e1; cases e1
  exact ⟨ps, e2, e3, fun pos cv z => let ⟨c, z1, z2, _⟩ := e4 pos cv z; ⟨c, z1, z2⟩⟩
theorem Sim.tab_one (s : Sim G m H S) {P : Addr} {q : Str} {n k n' k' : Nat} {p : Addr × Str} (h1 : n < m.length) (h2 : S[n]? = some (.tbl k)) (h3 : G.tb[k]? = some (P, q)) (g1 : n' < m.length) (g2 : S[n']? = some (.tbl k')) (g3 : G.tb[k']? = some p) (e : p.1 = P) : p.2 = q := by
  obtain ⟨q1, ps1, e1, _⟩ := s.obj n _ _ (List.getElem?_eq_getElem h1) h2
  obtain ⟨q2, ps2, e2, _⟩ := s.obj n' _ _ (List.getElem?_eq_getElem g1) g2
  rw [h3] at e1; rw [g3] at e2
  cases e1; cases e2
  have := (List.getElem_inj s.nd).mp e
  subst this
  rw [h2] at g2; cases g2
  rw [h3] at g3; cases g3; rfl
/-- a lambda is made: the tables may have changed -/
theorem Sim.lam {P : Program} {w : World} {h : Heap} (s : Sim G m H S) (hok : HOk P w H1 h) (e : LamX.ExtN H H1) (t : LamX.Tabs (tabsAt G m S) H1) : Ext m H m H1 ∧ Sim G m H1 S := by
  have kp : ∀ a o, H a = some o → (∀ ps, o ≠ .tbl ps) → H1 a = some o := fun a o q n => e a o q n
  have ex : Ext m H m H1 := ⟨fun _ _ q => q, fun a o n t q => ⟨kp a o q t, n⟩⟩
  have avl : ∀ a ∈ G.av, ∃ o, H1 a = some (.lst o) := fun a ha => let ⟨⟨o, q⟩, _⟩ := s.live a ha; ⟨o, kp a _ q fun _ z => by cases z⟩
  refine ⟨ex, s.len, s.nd, fun a ha => ⟨avl a ha, (s.live a ha).2⟩, fun n a o e1 e2 => ?_⟩
  · have r := s.obj n a o e1 e2
    have hn : n < m.length := (List.getElem?_eq_some_iff.mp e1).1
    cases o with
    | list xs =>
      obtain ⟨vs, h1, z, r⟩ := r
      exact ⟨vs, kp _ _ h1 (fun _ z => by cases z), z, r.ext ex⟩
    | dict kvs =>
      obtain ⟨xs, h1, z, nn, p, nd⟩ := r
      exact ⟨xs, kp _ _ h1 (fun _ z => by cases z), z, nn, p.ext ex, nd⟩
    | ins c fs =>
      obtain ⟨C, x, h1, h2, h⟩ := r
      exact ⟨C, x, h1, h2, exAt_keep (fun u n q => kp _ _ q n) ex h⟩
    | dcti kvs =>
      obtain ⟨xs, h1, z, p⟩ := r
      exact ⟨xs, kp _ _ h1 (fun _ z => by cases z), z, p.ext ex⟩
    | tbl k =>
      obtain ⟨q, ps, g1, g2, g3, g4⟩ := r
      obtain ⟨ps', t1, t2, t3⟩ := t _ (mem_tabsAt hn e2 g1)
      refine ⟨q, ps', g1, t1, t2, fun pos cv z => ?_⟩
      obtain ⟨c, c1, c2⟩ := t3 pos cv z
      refine ⟨c, c1, c2, fun cm => ?_, fun ca => ?_⟩
      · obtain ⟨n', hn', en'⟩ := List.getElem_of_mem cm
        have hn2 : n' < S.length := by rw [← s.len]; exact hn'
        have r' := s.obj n' c S[n'] (by rw [List.getElem?_eq_getElem hn', en']) (List.getElem?_eq_getElem hn2)
        cases hS : S[n'] with
        | list xs =>
          rw [hS] at r'
          obtain ⟨vs, h1, _⟩ := r'
          rw [kp _ _ h1 (fun _ z => by cases z)] at c2
          unfold LamX.CodeO at c2; cases c2
        | dict kvs =>
          rw [hS] at r'
          obtain ⟨xs, h1, _⟩ := r'
          have h2 := kp _ _ h1 (fun _ z => by cases z)
          obtain ⟨⟨oc, ocs, tk, w1, w2, w3⟩, _⟩ := hok c _ c2
          obtain ⟨⟨od, ods, ep, u1, u2, u3, u4⟩, _⟩ := hok c _ h2
          rw [w1] at u1; cases u1
          rw [w2] at u3; cases u3
        | ins c' fs =>
          rw [hS] at r'
          obtain ⟨C, x, h1, h2, h⟩ := r'
          obtain ⟨⟨oc, ocs, tk, w1, w2, w3⟩, _⟩ := hok c _ c2
          match fs, h with
          | [], h =>
            obtain ⟨⟨oe, vs, u1, u2, u3, u4, _⟩, _⟩ := hok c _ (kp _ _ h (by intro _ z; unfold ExO at z; cases z))
            rw [w1] at u1; cases u1
            rw [w2] at u3; cases u3
            rw [w3] at u4; cases u4
          | [(_, .int _)], ⟨dx, h, _⟩ =>
            obtain ⟨⟨oe, vs, u1, u2, u5, u3, u4⟩, _⟩ := hok c _ (kp _ _ h (by intro _ z; unfold ExD at z; cases z))
            rw [w1] at u1; cases u1
            rw [w2] at u3; cases u3
            rw [w3] at u4; cases u4
        | dcti kvs =>
          rw [hS] at r'
          obtain ⟨xs, h1, _⟩ := r'
          rw [kp _ _ h1 (fun _ z => by cases z)] at c2
          unfold LamX.CodeO at c2; cases c2
        | tbl k' =>
          rw [hS] at r'
          obtain ⟨q', ps2, g1', g2', _⟩ := r'
          obtain ⟨ps3, t1', _⟩ := t _ (mem_tabsAt hn' (by rw [List.getElem?_eq_getElem hn2, hS]) g1')
          rw [show H1 c = some (.tbl ps3) from t1'] at c2
          unfold LamX.CodeO at c2; cases c2
      · obtain ⟨o, q⟩ := avl c ca
        rw [q] at c2
        unfold LamX.CodeO at c2; cases c2
end
/-! ### a helper that gets a lambda -/
section
open PyProof.Rows
variable {G : GC} {cl : Nat → List D → Store → R D} {N : List Str} {sc : Scope} {W : WX} {X : Cx}
theorem conCE_rep {c : CE} {d : D} {T : Tab} {N : List Str} {sc : Scope} {e : Expr} (h : conCE c d = true) (hc : chk T N sc c e = true) : conOk d e = true := by
  unfold conCE at h
  split at h
  · rw [beq_iff_eq] at h; subst h
    unfold chk at hc
    split at hc
    · exact hc
    · cases hc
  · rw [beq_iff_eq] at h; subst h
    unfold chk at hc
    split at hc
    · exact hc
    · cases hc
  · unfold chk at hc
    split at hc
    · rfl
    · cases hc
  · cases h
theorem lamOk_of {T : Tab} {f : Nat} {y : Str} {hs : List Hd} {d : D} (h : helper T f y hs d = true) : ∃ ns c, T.fns[f]? = some (y, ⟨1, ns, [.tryR [.act] hs, .ret c]⟩) ∧ conCE c d = true := by
  unfold helper at h
  split at h
  · next x ns hs' c e =>
    simp only [Bool.and_eq_true, beq_iff_eq, decide_eq_true_eq] at h
    obtain ⟨⟨rfl, rfl⟩, h3⟩ := h
    exact ⟨ns, c, e, h3⟩
  · cases h
theorem noPar_nil {p : Arguments} (h : noPar p = true) : p = ⟨[], [], none, [], [], none, []⟩ := by
  unfold noPar at h
  split at h
  · rfl
  · cases h
/-- the context of a lambda's body -/
theorem lam_ok (O : XOk G cl N sc W X) {ti : Nat} (A : Around) (outer : List Env) (s : Shared) (H : Hp) (E : XK) (scope : Scope) (f c' : Addr) {k : Nat} (hr : Room k (A.deeper (LamX.lamEnv X scope s.heap.objs.size f c')))
    (fa : ∀ (l : List Addr) (A' : Around), Room k A' → FnAt (G.up l) X.prog X.w X.base A' (low cl)) : XOk G (low cl) N scope (fun cls d _ H => E cls d H) (LamX.lamCx X A outer s H E scope f c') where
  K := O.K
  pr := O.pr
  wd := O.wd
  calm := rfl
  un := by have := hr.un; show (A.deeper _).units + 65 < cLine; omega
  mg := O.mg
  eN := O.eN
  eS := rfl
  nd := O.nd
  tab := O.tab
  tk := takes_of rfl rfl rfl rfl
  fnat := fun l => fa l _ hr
theorem vis_of {sc : Scope} {x : Str} (h : vis sc x = true) : Vis sc x ∧ (x == ("__debug__" : Str)) = false ∧ (x == ("__classdict__" : Str)) = false := by
  unfold vis at h
  simp only [Bool.and_eq_true] at h
  obtain ⟨⟨h1, h2⟩, h3⟩ := h
  refine ⟨?_, by simpa using h2, by simpa using h3⟩
  split at h1
  · exact .inl (by assumption)
  · exact .inr (.inl (by assumption))
  · exact .inr (.inr (by assumption))
  · cases h1
theorem ex_lam (O : XOk G cl N sc W X) {ti f : Nat} {hs : List Hd} {d : D} {e : CE} (L : LamOk G cl X ti) {ex : Expr} (h : lamX G.T N sc f hs d e ex = true) : PE X ex (tE G W (lamC cl ti hs d (ev (low cl) e))) := by
  unfold lamX at h
  split at h
  · next y p params body scope lpos pos =>
    simp only [Bool.and_eq_true] at h
    obtain ⟨⟨⟨⟨h1, h2⟩, h3⟩, h4⟩, h5⟩ := h
    obtain ⟨ns, c0, hf, hc0⟩ := lamOk_of h2
    have hp := noPar_nil h4
    subst hp
    obtain ⟨g1, g2, _⟩ := glb_gl O h1
    obtain ⟨g, fd, ps, Ng, sg, pg, bg, F1, mg, Sg, hps, hns, hbd, hchk, _⟩ := (L.hlp f y _ hf).resolve_right fun ⟨_, _, _, _, _, _, z, _⟩ => by unfold iniFD at z; cases z
    obtain ⟨c, P, hcode, TB, htb⟩ := L.code
    have LS := LamX.lamS_by h3
    rw [← O.eS] at LS
    -- the helper's text
    match bg, hchk with
    | [], hchk => simp [chkB] at hchk
    | [_], hchk => simp [chkB] at hchk
    | _ :: _ :: _ :: _, hchk => simp [chkB] at hchk
    | [st1, st2], hchk =>
    simp only [chkB, Bool.and_eq_true, List.isEmpty_nil, Bool.and_true] at hchk
    obtain ⟨k1, k2⟩ := hchk
    unfold chkS at k1
    split at k1
    · next tb0 h₀ hds tp _ =>
      rw [Bool.and_eq_true] at k1
      obtain ⟨k1, k3⟩ := k1
      match tb0, k1 with
      | [], k1 => simp [chkB] at k1
      | _ :: _ :: _, k1 => simp [chkB] at k1
      | [st3], k1 =>
      simp only [chkB, Bool.and_eq_true, List.isEmpty_nil, Bool.and_true] at k1
      -- it is one call
      unfold chkS at k1
      split at k1
      · next a p1 p2 p3 _ =>
        simp only [Bool.and_eq_true, decide_eq_true_eq] at k1
        obtain ⟨na, va⟩ := k1
        unfold chkS at k2
        split at k2
        · next rv rp _ =>
          have hcon := conCE_rep hc0 k2
          obtain ⟨oc, od, dV, kV, doc, pmg, an, cdv, ct, osl, rfl, lk, hcg, _, _⟩ := F1.ex
          obtain ⟨wv, wr, wp⟩ := con_rep (G := G) hcon
          have hps1 : ∃ a', ps = [a'] := by
            match ps, hps with
            | [a'], _ => exact ⟨a', rfl⟩
          obtain ⟨a', rfl⟩ := hps1
          have hNa : Ng[0]? = some a' := by
            have := Sg.pre
            cases Ng with
            | nil => simp at this
            | cons b r => simp at this; rw [this]; rfl
          have eaa : a = a' := Option.some.inj (na.symm.trans hNa)
          subst eaa
          refine ⟨fun pins s σ H Q I hh => ?_⟩
          obtain ⟨m, τ, S, rel, sim, hh⟩ := hh
          have hq : S[ti]? = some (.tbl ti) ∧ (∃ S d S', cl MARK [] S = .ok d S') ∧ PostE G W m σ H (lamV hs d (ev (low cl) e τ S)) Q := by
            unfold lamC at hh
            split at hh
            · next ht =>
              split at hh
              · next d1 S1 hm => exact ⟨ht, ⟨_, _, _, hm⟩, hh⟩
              · exact hh.elim
            · exact hh.elim
          obtain ⟨hti, hmk, hq⟩ := hq
          obtain ⟨k, hr, fa⟩ := L.room hmk
          have htl : ti < m.length := by rw [sim.len]; exact (List.getElem?_eq_some_iff.mp hti).1
          have hmT : (P, X.env.qual ++ "<lambda>") ∈ tabsAt G m S := mem_tabsAt htl hti htb
          have hK := O.K
          refine wpAny_Call_Name_kw (ld_glob I g1 (by rw [O.mg]; exact mg) ?_ g2)
          refine PySem.W.callWith_K (h₀ := X.base) I.ok.mod.kin (by rw [hK]; exact F1.kp) ?_ (by rfl) (by rfl)
          show wpAny _ _ (spliced ((false, eval (.Lambda ⟨[], [], none, [], [], none, []⟩ body scope lpos) X.env) :: backTo pos (starEach [] X.env))) _ _ s
          refine Calls.spliced_cons (LamX.lam_make2 I TB hcode hmT (fun p hp e => ?_) sim.tabs rfl (LS.has I.ok) fun fL c' pm' ctv H1 s' I1 eN T1 hfo hfn hfr hco => ?_)
          · obtain ⟨n', k', z1, z2, z3⟩ := tabsAt_mem hp
            exact sim.tab_one htl hti htb z1 z2 z3 e
          refine Calls.spliced_nil ⟨I1.kIn, ?_⟩
          have I1ok := I1.hok
          rw [O.pr, O.wd] at I1ok
          obtain ⟨ext1, sim1⟩ := sim.lam I1ok eN T1
          have rel1 := rel.ext ext1
          have hmg : X.mg = G.mg := O.mg
          -- the helper's context
          obtain ⟨l, l1, l2⟩ := hds_ok (G := G) (sc := sg) (X := (cxOf C8.CX0 X.prog X.w X.K X.mg X.base Ng y sg g cdv X.A X.stack s' H1 C8.E0).nox) rfl O.tab.exc hmg (fun x hx => by
            unfold glb at hx
            simp only [Bool.and_eq_true, decide_eq_true_eq] at hx
            exact ⟨hx.1.1, by simpa using hx.1.2⟩) k3
          have tl0 : ∀ Ech : XK, (∀ (cls : Value) (dd : Option Addr) (H' : Hp), (∃ c pl m' S', Ext m H m' H' ∧ Sim G m' H' S' ∧ RepX G m' H' c pl cls dd ∧ ∃ v0, pick hs c = some v0 ∧ ∀ v, Rep G m' H' v0 v → Q v H') → Ech cls dd H') →
              tE G (fun cls d _ H => Ech cls d H) (ev (low cl) e) σ H1 fun _ H' => Q wv H' := by
            intro Ech hE
            refine ⟨m, τ, S, rel1, sim1, ?_⟩
            revert hq
            generalize ev (low cl) e τ S = z
            intro hq
            cases z with
            | ok d' S' => exact fun m' H' v e1 s1 _ => hq m' H' wv (ext1.trans e1) s1 (wr _ _)
            | bad => exact hq
            | ex c0 pl S' =>
              intro m' H' cls dd e1 s1 rx
              refine hE cls dd H' ⟨c0, pl, m', S', ext1.trans e1, s1, rx, ?_⟩
              simp only [lamV] at hq
              split at hq
              · next v0 hv0 => exact ⟨v0, hv0, fun v rv => hq m' H' v (ext1.trans e1) s1 rv⟩
              · exact hq.elim
          have hva : Vis sg a ∧ (a == ("__debug__" : Str)) = false ∧ (a == ("__classdict__" : Str)) = false := vis_of va
          have rc : codeAny (model X.prog X.w) X.A (.call (.ref g) ⟨[.ref fL], []⟩) (CR C8.CX0 X.stack X.prog X.w H1 s' Q C8.E0) s' := by
            refine LamX.run_ofS (N := Ng) (ps := [a]) (us := [.ref fL]) (vs := [.ref fL]) (by rw [hK]; exact lk) (by rw [hK]; exact hcg) Sg hr I1.env0 (by simpa using hbd s' [.ref fL] (by rw [← hK]; exact I1.kIn) rfl) (.cons rfl .nil) rfl fun hr' => ?_
            have act := fun (W : WX) (pn : List (Addr × Obj)) (xe : Value → Shared → Prop) (E : XK) (tk : Takes ((cxOf C8.CX0 X.prog X.w X.K X.mg X.base Ng y sg g cdv X.A X.stack s' H1 C8.E0).tr pn xe) W) (hW : ∀ cls d σ' H', E cls d H' → W cls d σ' H') =>
              LamX.pe_act (i := 0) (p1 := p1) (p2 := p2) I1 LS hfo hfn hfr rfl tk hW hr' (fun A outer s H hr2 => (so (low cl) N e h5 (lam_ok O (ti := ti) A outer s H E scope fL c' hr2 fa)).1) hNa hva.1 hva.2.1 hva.2.2
            refine ⟨_, (pss_cons (ps_try_many (X := (cxOf C8.CX0 X.prog X.w X.K X.mg X.base Ng y sg g cdv X.A X.stack s' H1 C8.E0).nox) (l := l)
              (tb := fun W D σZ HZ => ∃ Ech : XK, (∀ cls d σ' H', Ech cls d H' → W cls d σ' H') ∧ σZ[0]? = some (some (.ref fL)) ∧ HZ c' = some (LamX.CodeO c' (X.env.qual ++ "<lambda>")) ∧ tE G (fun cls d _ H => Ech cls d H) (ev (low cl) e) σ HZ (fun _ H' => D.nx σZ H'))
              rfl rfl LamX.takes0 (fun W pn xe tk _ => ⟨fun pins sZ σZ HZ D IZ hZ => ?_⟩) l1) (pss_one (ps_ret (wp _)))).nox, ?_⟩
            · obtain ⟨Ech, hW, q1, q2, q3⟩ := hZ
              exact (pss_one (ps_expr (act W pn xe Ech tk hW) (swaps_no rfl))).run pins sZ σZ HZ D IZ ⟨q1, q2, q3⟩
            · refine ⟨fun cls dd H' => ∃ c pl m' S', Ext m H m' H' ∧ Sim G m' H' S' ∧ RepX G m' H' c pl cls dd ∧ ∃ v0, pick hs c = some v0 ∧ ∀ v, Rep G m' H' v0 v → Q v H', fun cls d σ' H' he => ?_, ?_, hco, ?_⟩
              · obtain ⟨c0, pl, m', S', z1, z2, z3, v0, z4, z5⟩ := he
                refine many_of hK O.tab.exm z3 l2 (fun d v hp rv => ?_) fun hp => ?_
                · rw [z4] at hp; cases hp
                  exact z5 v rv
                · rw [z4] at hp; cases hp
              · show (L2.start Ng [V.ref fL])[0]? = some (some (V.ref fL))
                simp [L2.start]
              · exact tl0 _ fun cls dd H' h => h
          refine wpAny_call (codeAny_mono rc fun r s2 hq2 => ?_)
          cases r with
          | error e => exact (show False from hq2).elim
          | ok fl =>
            cases fl with
            | ret u => exact I1.after hq2
            | next => exact False.elim hq2
            | brk => exact False.elim hq2
            | cont => exact False.elim hq2
        · cases k2
      · cases k1
    · cases k1
  · cases h
theorem lamX_plain {T : Tab} {N : List Str} {sc : Scope} {f : Nat} {hs : List Hd} {d : D} {e : CE} {ex : Expr} (h : lamX T N sc f hs d e ex = true) : plainE ex = true := by
  unfold lamX at h
  split at h
  · rfl
  · cases h
theorem retF_ok {b : List Stmt} (h : retF b = true) : PSs X b (tS G W fun _ S => .rt (.bl false) S) := by
  unfold retF at h
  split at h
  · exact (pss_one (ps_ret pe_bl)).imp fun E σ H ⟨m, τ, S, rel, sim, q⟩ => q m H (.bl false) (.refl _ _) sim (by simp only [Rep])
  · cases h
theorem st_lam (O : XOk G cl N sc W X) (F : FOk N sc X) {p : LP} {ti f : Nat} {hs : List Hd} {d : D} {e : CE} (L : LamOk G cl X ti) {st : Stmt} (h : chkLam G.T N sc p f hs d e st = true) : PS X st (tS G W (evS cl (.lamS p ti f hs d e))) := by
  have fin : ∀ {c : Expr} {b : List Stmt} {pos : Pos} {rc : Slots → Store → R D}, PT X c (tB G W (tst rc)) → retF b = true → PS X (.If c b [] pos) (tS G W fun τ S => endI τ (rc τ S)) := fun hc hb => st_if hc (retF_ok hb) sts_nil
  unfold chkLam at h
  cases p with
  | ifne c =>
    simp only at h
    split at h
    · simp only [Bool.and_eq_true, decide_eq_true_eq] at h
      obtain ⟨⟨⟨⟨rfl, h2⟩, h3⟩, h4⟩, h5⟩ := h
      exact fin (tx_cmp O.toAt .ne h4 (ex_lam O L h2) (so cl N c h3 O).1) h5
    · cases h
  | ifnot =>
    simp only at h
    split at h
    · simp only [Bool.and_eq_true] at h
      obtain ⟨h2, h5⟩ := h
      have q := ex_lam O L h2
      refine fin (tx_not (pt_of q ?_)) h5
      unfold lamX at h2
      split at h2
      · rfl
      · cases h2
    · cases h
  | setl i =>
    simp only at h
    split at h
    · simp only [Bool.and_eq_true, decide_eq_true_eq] at h
      obtain ⟨⟨h1, h2⟩, h3⟩ := h
      have q := ex_lam O L h3
      have pl : plainE _ = true := lamX_plain h3
      exact st_set O F h1 h2 (ex_lst (mu := true) (as_cons pl q as_nil)) (swaps_no rfl)
    · cases h
  | app i =>
    simp only at h
    split at h
    · simp only [Bool.and_eq_true, decide_eq_true_eq] at h
      obtain ⟨⟨⟨⟨h1, h2⟩, h3⟩, h4⟩, h5⟩ := h
      rw [beq_iff_eq] at h1
      subst h1
      have q := ex_lam O L h5
      have pl : plainE _ = true := lamX_plain h5
      exact st_ex (ex_app O (ex_var O h3 h4) (as_cons pl q as_nil) rfl pl h2) rfl
    · cases h
end
section
variable (cl : Nat → List D → Store → R D) (N : List Str) {sc : Scope} {G : GC} {W : WX} {X : Cx}
theorem FOk.tr {N : List Str} {sc : Scope} {X : Cx} (F : FOk N sc X) {pn : List (Addr × Obj)} {xe : Value → Shared → Prop} (pas : PassesOwn (model X.prog X.w) X.A X.env xe) : FOk N sc (X.tr pn xe) where
  nd := F.nd
  eN := F.eN
  put := F.put
  pas := pas
  bk := F.bk
theorem TrOk.tr {X : Cx} (T : TrOk X) {pn : List (Addr × Obj)} {xe : Value → Shared → Prop} : TrOk (X.tr pn xe) := ⟨T.stk, T.frm⟩
theorem LamOk.tr {G : GC} {cl : Nat → List D → Store → R D} {X : Cx} {ti : Nat} (L : LamOk G cl X ti) {pn : List (Addr × Obj)} {xe : Value → Shared → Prop} : LamOk G cl (X.tr pn xe) ti := ⟨L.hlp, L.code, L.room⟩
theorem so_set (O : XOk G cl N sc W X) (F : FOk N sc X) {i : Nat} {x : Str} {p pos : Pos} {e : CE} {v : Expr} (hN : N[i]? = some x) (hx : sto sc x = true) (h : chk G.T N sc e v = true) (h2 : setOk e v = true) :
    PS X (.Assign [.Name x p] v pos) (tS G W (evS cl (.set i e))) := by
  by_cases pc : plainC v = true
  · exact st_set O F hN hx (so cl N e h O).1 (swaps_no pc)
  · cases e with
    | comp mu own t it c e' =>
      have h' := h
      unfold chk at h
      split at h
      · next elt tg iter ifs n scope q =>
        simp only [Bool.and_eq_true] at h
        obtain ⟨⟨⟨⟨⟨⟨h1, hk⟩, h3⟩, h4⟩, h5⟩, h6⟩, h7⟩ := h
        rw [beq_iff_eq] at h1
        subst h1
        cases hs : swB sc x p scope q with
        | false => exact st_set O F hN hx (so cl N _ h' O).1 (by rw [swaps_lc F O.eS, hs])
        | true =>
          have hl : X.env.scope.names.lookup x = some .local := by
            rw [O.eS]
            simp only [swB, Bool.and_eq_true] at hs
            exact beq_iff_eq.mp hs.1.1
          exact (st_lc O hN hl (by rw [swaps_lc F O.eS, hs]) (soIt cl N it h3 O) h4 hk h5 (fun p s H C cl' fp => soF (G := G.up [p]) cl N c h6 (O.blk p s H scope C cl' fp)) (fun p s H C cl' fp => (so (G := G.up [p]) cl N e' h7 (O.blk p s H scope C cl' fp)).1)).imp fun E σ H q => nm_imp q
      · cases h
    | _ => exact absurd h2 (by unfold setOk; exact pc)
mutual
theorem soS {W : WX} {X : Cx} (O : XOk G cl N sc W X) (F : FOk N sc X) (TO : TrOk X) : ∀ (s : CS) {st : Stmt}, chkS G.T N sc s st = true → (∀ ti ∈ lamsS s, LamOk G cl X ti) → PS X st (tS G W (evS cl s))
  | .set i e, st, h, L => by
    unfold chkS at h
    split at h
    · simp only [Bool.and_eq_true, decide_eq_true_eq] at h
      exact so_set cl N O F h.1.1.1 h.1.1.2 h.1.2 h.2
    · cases h
  | .par is es, st, h, L => by
    unfold chkS at h
    split at h
    · simp only [Bool.and_eq_true, Bool.not_eq_true'] at h
      obtain ⟨⟨⟨⟨⟨h1, h2⟩, h3⟩, h4⟩, h5⟩, h6⟩ := h
      obtain ⟨n1, n2, n3, n4, n5, n6⟩ := two_names h1
      exact st_par2 O F n1 n2 n3 n4 n5 n6 h3 h4 h5 h6 (soL cl N es h2 (by simp [h3, h4]) O)
    · simp only [Bool.and_eq_true, Bool.not_eq_true'] at h
      obtain ⟨⟨⟨⟨⟨⟨⟨⟨h1, h1'⟩, h1''⟩, h2⟩, h3⟩, h4⟩, h4'⟩, h5⟩, h6⟩ := h
      obtain ⟨n1, n2, n3, n4, n5, n6⟩ := two_names h1
      obtain ⟨m1, m2, m3, m4, m5, m6⟩ := two_names h1'
      obtain ⟨k1, k2, k3, k4, k5, k6⟩ := two_names h1''
      exact st_par3 O F n1 n2 m2 n3 n4 m4 n5 m5 k5 n6 m6 h3 h4 h4' h5 h6 (soL cl N es h2 (by simp [h3, h4, h4']) O)
    · cases h
  | .tgt t e, st, h, L => by
    unfold chkS at h
    split at h
    · next ts k p v pos =>
      simp only [Bool.and_eq_true] at h
      obtain ⟨⟨⟨h1, h2⟩, h3⟩, h4⟩ := h
      refine st_tgt O F h1 (so cl N e h2 O).1 h3 rfl ?_
      cases v with
      | Tuple vs k2 p2 => exact sw_folded (by rw [O.eS]; exact h4)
      | _ => exact sw_none (by intro _ _ _ z; cases z)
    · cases h
  | .setI o i e, st, h, L => by
    unfold chkS at h
    split at h
    · next a b p2 v pos =>
      simp only [Bool.and_eq_true] at h
      obtain ⟨⟨⟨⟨h1, h2⟩, h3⟩, h4⟩, h5⟩ := h
      refine st_setI O (so cl N e h4 O).1 (so cl N o h1 O).1 (so cl N i h2 O).1 h5 fun v => ?_
      cases b <;> first | rfl | (simp [plainI] at h3)
    · cases h
  | .ret e, st, h, L => by
    unfold chkS at h
    split at h
    · exact st_ret (so cl N e h O).1
    · cases h
  | .retN, st, h, L => by
    unfold chkS at h
    split at h
    · exact st_retN
    · cases h
  | .ifs c a b, st, h, L => by
    unfold chkS at h
    split at h
    · simp only [Bool.and_eq_true] at h
      obtain ⟨⟨⟨h1, h2⟩, h3⟩, h4⟩ := h
      exact st_if ((so cl N c h1 O).2 h2) (soB O F TO a h3 fun ti q => L ti (by simp [lamsS, q])) (soB O F TO b h4 fun ti q => L ti (by simp [lamsS, q]))
    · cases h
  | .wh c b, st, h, L => by
    unfold chkS at h
    split at h
    · simp only [Bool.and_eq_true] at h
      obtain ⟨⟨h1, h2⟩, h3⟩ := h
      exact st_wh F ((so cl N c h1 O).2 h2) (soB O F TO b h3 fun ti q => L ti (by simpa [lamsS] using q)) fuel
    · cases h
  | .fors t it b, st, h, L => by
    unfold chkS at h
    split at h
    · simp only [Bool.and_eq_true] at h
      obtain ⟨⟨⟨h1, h2⟩, h3⟩, h4⟩ := h
      exact st_for O F (soIt cl N it h1 O) h2 h3 (soB O F TO b h4 fun ti q => L ti (by simpa [lamsS] using q))
    · cases h
  | .ex e, st, h, L => by
    unfold chkS at h
    split at h
    · rw [Bool.and_eq_true] at h
      exact st_ex (so cl N e h.1 O).1 h.2
    · cases h
  | .brk, st, h, L => by
    unfold chkS at h
    split at h
    · exact st_brk
    · cases h
  | .cnt, st, h, L => by
    unfold chkS at h
    split at h
    · exact st_cnt
    · cases h
  | .pass, st, h, L => by
    unfold chkS at h
    split at h
    · exact st_pass
    · cases h
  | .never, st, h, L => st_never
  | .raise c w, st, h, L => by
    unfold chkS at h
    split at h
    · simp only [Bool.and_eq_true, decide_eq_true_eq, Bool.not_eq_true'] at h
      exact st_raise O h.1.1 h.1.2 h.2
    · cases h
  | .tryR b hs, st, h, L => by
    unfold chkS at h
    split at h
    · rw [Bool.and_eq_true] at h
      exact st_try O TO h.2 fun W' pn xe tk pas => soB (O.tr tk) (F.tr pas) TO.tr b h.1 fun ti q => (L ti (by simpa [lamsS] using q)).tr
    · cases h
  | .act, st, h, L => st_never
  | .lamS p ti f hs d e, st, h, L => st_lam O F (L ti (by simp [lamsS])) h
theorem soB {W : WX} {X : Cx} (O : XOk G cl N sc W X) (F : FOk N sc X) (TO : TrOk X) : ∀ (b : List CS) {sts : List Stmt}, chkB G.T N sc b sts = true → (∀ ti ∈ lamsB b, LamOk G cl X ti) → PSs X sts (tS G W (evB cl b))
  | [], sts, h, L => by
    simp only [chkB, List.isEmpty_iff] at h
    subst h
    exact sts_nil
  | s :: r, [], h, L => by simp [chkB] at h
  | s :: r, st :: sts, h, L => by
    simp only [chkB, Bool.and_eq_true] at h
    exact sts_cons (soS O F TO s h.1 fun ti q => L ti (by simp [lamsB, q])) (soB O F TO r h.2 fun ti q => L ti (by simp [lamsB, q]))
end
end

/-! ### defs -/
structure Facts (G : GC) (base : Heap) : Prop where
  con : ∀ (x : Str) (d : D), G.T.cons.lookup x = some d → ∃ u v, G.mg x = some u ∧ RelV v u ∧ ∀ m H, Rep G m H d v
  blt : ∀ x ∈ G.T.blts, G.mg x = none
  fns : ∀ (f : Nat) (x : Str) (d : FD), G.T.fns[f]? = some (x, d) → FnFact G base x d ∨ IniFact G x d
  few : G.T.fns.length ≤ MARK
  exc : ∀ (c : Nat) (x : Str), G.T.cls[c]? = some x → ExF G c x
  exm : ∀ (c d : Nat) (x y : Str) (C E : Addr), G.T.cls[c]? = some x → G.T.cls[d]? = some y → G.mg x = some (.ref C) → G.mg y = some (.ref E) → PySem.W.exmOne G.K (.ref C) (.ref E) = some (G.T.subs.contains (c, d))
  exv : G.T.blts.contains ("super" : Str) = true → ExvF G
theorem Facts.tab {G : GC} {base : Heap} (F : Facts G base) : TabOk G where
  con := F.con
  blt := F.blt
  fns := fun f x d h => by
    rcases F.fns f x d h with ⟨a, fd, ps, N, sc, params, body, F1, mg, _⟩ | ⟨c, C, _, mg, _, _, _, kp⟩
    · exact ⟨a, mg, F1.kp⟩
    · exact ⟨C, mg, kp⟩
  exc := F.exc
  exm := F.exm
  exv := F.exv
theorem entry_rel {G : GC} {m : List Addr} {H : Hp} {as : List D} {vs : List V} {N : List Str} {ns : Nat} (r : RepL G m H as vs) (hN : N.length = ns) (hl : vs.length ≤ N.length) : RelS G m H (L2.start N vs) (entry ns as) := by
  have e := r.length
  refine ⟨by simp [L2.start, entry]; omega, fun i d h => ?_⟩
  unfold entry at h
  by_cases hi : i < as.length
  · rw [List.getElem?_append_left (by simpa using hi), List.getElem?_map] at h
    cases ha : as[i]? with
    | none => rw [ha] at h; cases h
    | some d' =>
      rw [ha] at h
      simp only [Option.map_some, Option.some.injEq] at h
      subst h
      obtain ⟨v, hv, rv⟩ := r.get ha
      refine ⟨v, ?_, rv⟩
      unfold L2.start
      rw [List.getElem?_append_left (by simp; omega), List.getElem?_map, hv]; rfl
  · rw [List.getElem?_append_right (by simpa using hi), List.getElem?_replicate] at h
    split at h <;> cases h
def spF (G : GC) (cl : Nat → List D → Store → R D) (d : FD) : Sp := fun vs H Q E => ∃ as m S, as.length = d.np ∧ RepL G m H as vs ∧ Sim G m H S ∧ PostE G (fun c dd _ H' => E c dd H') m [] H (endB (evB cl d.body (entry d.ns as) S)) Q
/-- one def, its callees a level below -/
theorem fn_step {G : GC} {base : Heap} (F : Facts G base) {k : Nat} {cl : Nat → List D → Store → R D} (ih : ∀ (l : List Addr) (A : Around), Room k A → FnAt (G.up l) G.P G.w base A cl) (l : List Addr) {x : Str} {d : FD} {a : Addr} {fd : FuncData} {ps N : List Str} {sc : Scope} {params : Arguments} {body : List Stmt}
    (F1 : FunD G.K x x params body sc [] [] a fd) (fs : FnScope N ps sc) (hp : ps.length = d.np) (hn : N.length = d.ns) (hc : chkB G.T N sc d.body body = true)
    (hlm : ∀ ti ∈ lamsB d.body, ∀ (cdv : Value), (∃ (oc : Value) (od : Option Addr) (dV kV doc pm : Value) (an : Option Addr) (ct : Value) (osl : Array (Option Value)), G.K.lookup a = some ⟨oc, od, .func (PySem.W.fnOf x x params body sc dV kV doc pm an cdv ct), osl⟩) →
      ∃ (c P : Addr), cdv = .ref c ∧ LamX.TabB base G.mg c P ∧ G.tb[ti]? = some (P, x ++ ".<locals>." ++ "<lambda>"))
    (hmk : (∃ S d S', cl MARK [] S = .ok d S') → ∃ k2, k = k2 + 2 ∧ ∀ (l : List Addr) (A' : Around), Room k2 A' → FnAt (G.up l) G.P G.w base A' (low cl)) : FnOk G.P G.w G.K G.mg base (L2.CX G.P G.w) (k + 1) a fd ps (spF (G.up l) cl d) := by
  obtain ⟨oc, od, dV, kV, doc, pm, an, cdv, ct, osl, rfl, lk, hcd, _, _⟩ := F1.ex
  refine fn_of lk hcd fs (fun vs H Q E ⟨as, m, S, hl, rl, _⟩ => by rw [rl.length, hl, hp]) fun A outer s H vs Q E hr ⟨as, m, S, hl, rl, sim, h⟩ => ?_
  have O : XOk (G.up l) cl N sc (fun c dd _ H' => E c dd H') (cxOf (L2.CX G.P G.w) G.P G.w G.K G.mg base N x sc a cdv A outer s H E) := {
    K := rfl
    pr := rfl
    wd := rfl
    calm := rfl
    un := by have := hr.un; show (A.deeper _).units + 65 < cLine; omega
    mg := rfl
    eN := rfl
    eS := rfl
    nd := fs.nd
    tab := F.tab.up l
    tk := takes_of rfl rfl rfl rfl
    fnat := fun l' => by rw [GC.up_up]; exact ih _ _ hr }
  have FO : FOk N sc (cxOf (L2.CX G.P G.w) G.P G.w G.K G.mg base N x sc a cdv A outer s H E) := {
    nd := fs.nd
    eN := rfl
    put := fun y hy => by
      refine ⟨?_, .inl rfl⟩
      unfold sto at hy
      split at hy
      · exact .inl (by assumption)
      · exact .inr (by assumption)
      · cases hy
    pas := passes_of rfl
    bk := by
      show (if sc.kind.isAnnotationScope then ScopeKind.function else sc.kind) = .function
      rw [fs.kind]; rfl }
  have TO : TrOk (cxOf (L2.CX G.P G.w) G.P G.w G.K G.mg base N x sc a cdv A outer s H E) := ⟨rfl, rfl⟩
  have LO : ∀ ti ∈ lamsB d.body, LamOk (G.up l) cl (cxOf (L2.CX G.P G.w) G.P G.w G.K G.mg base N x sc a cdv A outer s H E) ti := fun ti hti => by
    obtain ⟨c, P, e1, e2, e3⟩ := hlm ti hti cdv ⟨_, _, _, _, _, _, _, _, _, lk⟩
    refine ⟨F.fns, ⟨c, P, e1, e2, e3⟩, fun hm => ?_⟩
    obtain ⟨k2, rfl, fa⟩ := hmk hm
    exact ⟨k2, hr, fun l' A' hr' => by rw [GC.up_up]; exact fa _ A' hr'⟩
  refine ⟨tS (G.up l) (fun c dd _ H' => E c dd H') (evB cl d.body), soB _ N O FO TO d.body hc LO, m, entry d.ns as, S, entry_rel rl hn (by rw [rl.length, hl, ← hp, ← fs.pre, List.length_take]; omega), sim, ?_⟩
  revert h
  generalize evB cl d.body (entry d.ns as) S = z
  intro h
  cases z with
  | nx τ S' => exact fun m' H' σ' e s' rel => h m' H' .non e s' (by simp only [Rep])
  | rt dd S' => exact h
  | bk τ S' => exact h.elim
  | ct τ S' => exact h.elim
  | ex c pl τ S' => exact fun m' H' σ' cls dd e s' rel x => h m' H' cls dd e s' x
  | bad => exact h.elim
theorem evF_succ {fs : List FD} {k f : Nat} {as : List D} {S : Store} {d : FD} (h : fs[f]? = some d) : evF fs (k + 1) f as S = if as.length = d.np then endB (evB (evF fs k) d.body (entry d.ns as) S) else .bad := by
  show evStep fs (evF fs k) (evFp fs k).2 f as S = _
  simp only [evStep, h]
theorem evF_none {fs : List FD} {k f : Nat} {as : List D} {S : Store} (h : fs[f]? = none) : evF fs (k + 2) f as S = if LOW ≤ f then evF fs k (f - LOW) as S else if f = MARK then .ok .non S else .bad := by
  show evStep fs (evF fs (k + 1)) (some (evF fs k)) f as S = _
  simp only [evStep, h]
theorem evF_low {fs : List FD} (hl : fs.length ≤ MARK) (k f : Nat) (as : List D) (S : Store) : evF fs (k + 2) (LOW + f) as S = evF fs k f as S := by
  have e : fs[LOW + f]? = none := List.getElem?_eq_none (by have : MARK < LOW := by decide
                                                            omega)
  rw [evF_none e, if_pos (Nat.le_add_right _ _), Nat.add_sub_cancel_left]
theorem evF_mark {fs : List FD} (hl : fs.length ≤ MARK) (k : Nat) (S : Store) : evF fs (k + 2) MARK [] S = .ok .non S := by
  have e : fs[MARK]? = none := List.getElem?_eq_none hl
  rw [evF_none e, if_neg (by decide), if_pos rfl]
theorem mark_evF {fs : List FD} (hl : fs.length ≤ MARK) {k : Nat} (h : ∃ S d S', evF fs k MARK [] S = .ok d S') : ∃ k2, k = k2 + 2 := by
  obtain ⟨S, d, S', h⟩ := h
  have e : fs[MARK]? = none := List.getElem?_eq_none hl
  match k, h with
  | 0, h => exact absurd h (by intro z; cases z)
  | 1, h =>
    have q : evF fs 1 MARK [] S = .bad := by
      show evStep fs (evF fs 0) none MARK [] S = _
      simp only [evStep, e]
    rw [q] at h; cases h
  | k2 + 2, _ => exact ⟨k2, rfl⟩
theorem low_mark {G : GC} {base : Heap} (F : Facts G base) (k : Nat) (ih : ∀ k' ≤ k, ∀ (l : List Addr) (A : Around), Room k' A → FnAt (G.up l) G.P G.w base A (evF (G.T.fns.map (·.2)) k')) :
    (∃ S d S', evF (G.T.fns.map (·.2)) k MARK [] S = .ok d S') → ∃ k2, k = k2 + 2 ∧ ∀ (l : List Addr) (A' : Around), Room k2 A' → FnAt (G.up l) G.P G.w base A' (low (evF (G.T.fns.map (·.2)) k)) := by
  intro hm
  have hl : (G.T.fns.map (·.2)).length ≤ MARK := by rw [List.length_map]; exact F.few
  obtain ⟨k2, rfl⟩ := mark_evF hl hm
  refine ⟨k2, rfl, fun l A' hr f x d a hf ha outer s H us vs as m S Q E e0 r rl sim h => ?_⟩
  have h' : PostE (G.up l) (fun c dd _ H' => E c dd H') m [] H (evF (G.T.fns.map (·.2)) k2 f as S) Q := by
    have := evF_low hl k2 f as S
    unfold low at h
    rwa [this] at h
  exact ih k2 (by omega) l A' hr f x d a hf ha outer s H us vs as m S Q E e0 r rl sim h'
theorem fns_ok {G : GC} {base : Heap} (F : Facts G base) : ∀ (k : Nat) (l : List Addr) (A : Around), Room k A → FnAt (G.up l) G.P G.w base A (evF (G.T.fns.map (·.2)) k) := by
  intro k
  induction k using Nat.strongRecOn with
  | ind k ihs =>
  cases k with
  | zero => intro l A hr f x d a hf ha outer s H us vs as m S Q E e0 r rl sim h; exact h.elim
  | succ k =>
    have ih := ihs k (Nat.lt_succ_self _)
    intro l A hr f x d a hf ha outer s H us vs as m S Q E e0 r rl sim h
    rcases F.fns f x d hf with ⟨a', fd, ps, N, sc, params, body, F1, mg, fs, hp, hn, hb, hc, hlm⟩ | ⟨c, C, i1, i2, i3, i4, rfl, _⟩
    rotate_left
    · rw [show (G.up l).mg x = G.mg x from rfl, i2] at ha
      cases ha
      have hf2 : (G.T.fns.map (·.2))[f]? = some (iniFD c x) := by
        rw [List.getElem?_map, show G.T.fns[f]? = some (x, iniFD c x) from hf]; rfl
      refine ini_at (F.exv i4) (F.blt _ (by simpa using i4)) l i1 i2 i3 hr outer s H us vs as m S Q E e0 r rl sim (cl := evF (G.T.fns.map (·.2)) k) ?_
      have e : evF (G.T.fns.map (·.2)) (k + 1) f as S = if as.length = (iniFD c x).np then endB (evB (evF (G.T.fns.map (·.2)) k) (iniFD c x).body (entry (iniFD c x).ns as) S) else .bad := evF_succ hf2
      rw [e] at h
      exact h
    have ok := fn_step F ih l F1 fs hp hn hc hlm (low_mark F k fun k' hk' => ihs k' (by omega))
    rw [show (G.up l).mg x = G.mg x from rfl, mg] at ha
    cases ha
    have hf2 : (G.T.fns.map (·.2))[f]? = some d := by
      rw [List.getElem?_map, show G.T.fns[f]? = some (x, d) from hf]; rfl
    have h' : PostE (G.up l) (fun c dd _ H' => E c dd H') m [] H (if as.length = d.np then endB (evB (evF (G.T.fns.map (·.2)) k) d.body (entry d.ns as) S) else .bad) Q := by
      have e : evF (G.T.fns.map (·.2)) (k + 1) f as S = if as.length = d.np then endB (evB (evF (G.T.fns.map (·.2)) k) d.body (entry d.ns as) S) else .bad := evF_succ hf2
      rw [e] at h
      exact h
    by_cases hl : as.length = d.np
    · rw [if_pos hl] at h'
      have KX : G.K.In s.heap := e0.mod.kin.keeps fun b o e => (e0.bs b o e).1
      have hlen : us.length = ps.length := by rw [← r.length, rl.length, hl, hp]
      have bt : BindsTo s fd ⟨us, []⟩ (ps.zip us) := by
        have q := hb s us KX (by simpa using hlen)
        simpa using q
      exact ok.run A outer s H ⟨us, []⟩ us vs Q E hr e0 bt r ⟨as, m, S, hl, rl, sim, h'⟩
    · rw [if_neg hl] at h'; exact h'.elim
end Ev
/-! Ev, part X4: what is asked of the written part so that exceptions can be values. -/
namespace Ev
open PySem L2
def parB (f : Str) : Arguments → Bool
  | ⟨[], [⟨a, none, _⟩, ⟨b, none, _⟩], none, [], [], none, []⟩ => a == ("self" : Str) && b == f
  | _ => false
theorem parB_ok {f : Str} {p : Arguments} (h : parB f p = true) : ∃ q1 q2, p = iniPar f q1 q2 := by
  unfold parB at h
  split at h
  · next a q1 b q2 =>
    simp only [Bool.and_eq_true, beq_iff_eq] at h
    obtain ⟨rfl, rfl⟩ := h
    exact ⟨q1, q2, rfl⟩
  · cases h
def bodB (f : Str) : FuncBody → Bool
  | .stmts [.Expr (.Call (.Attribute (.Call (.Name s0 _) [] [] _) i p2) [.Constant (.str _) _ _] [] p4) _, .Assign [.Attribute (.Name s1 _) g _] (.Name h _) _] =>
    s0 == ("super" : Str) && i == ("__init__" : Str) && s1 == ("self" : Str) && g == f && h == f && p2.endLine == p4.line
  | _ => false
theorem bodB_ok {f : Str} {b : FuncBody} (h : bodB f b = true) : ∃ w j p0 p1 p2 p3 p4 p5 p6 p7 p8 p9, (p2.endLine == p4.line) = true ∧ b = .stmts (iniBody f w j p0 p1 p2 p3 p4 p5 p6 p7 p8 p9) := by
  unfold bodB at h
  split at h
  · next s0 p0 p1 i p2 w j p3 p4 p5 s1 p6 g p7 h' p8 p9 =>
    simp only [Bool.and_eq_true, beq_iff_eq] at h
    obtain ⟨⟨⟨⟨⟨rfl, rfl⟩, rfl⟩, rfl⟩, rfl⟩, h6⟩ := h
    exact ⟨w, j, p0, p1, p2, p3, p4, p5, p6, p7, p8, p9, by simpa using h6, rfl⟩
  · cases h
def cellB (K : PySem.W.Frag) (C cc : Addr) : Bool := match K.lookup cc with
  | some ⟨_, _, .cell (some (.ref D)), _⟩ => D == C
  | _ => false
theorem cellB_ok {K : PySem.W.Frag} {C cc : Addr} (h : cellB K C cc = true) : ∃ cl cld csl, K.lookup cc = some ⟨cl, cld, .cell (some (.ref C)), csl⟩ := by
  unfold cellB at h
  split at h
  · next cl cld D csl e =>
    rw [beq_iff_eq] at h
    subst h
    exact ⟨_, _, _, e⟩
  · cases h
def fileB (K : PySem.W.Frag) (cda : Addr) : Bool := match K.lookup cda with
  | some ⟨_, _, .fields vs, _⟩ => (match (vs[2]? : Option Value) with
    | some (.str x _) => x == ("/claim/cut.py" : Str)
    | _ => false)
  | _ => false
theorem fileB_ok {K : PySem.W.Frag} {cda : Addr} (h : fileB K cda = true) : ∃ ccl cdd vs ccs tf, K.lookup cda = some ⟨ccl, cdd, .fields vs, ccs⟩ ∧ vs[2]? = some (.str "/claim/cut.py" tf) := by
  unfold fileB at h
  split at h
  · next a b vs c e =>
    split at h
    · next x t ev =>
      rw [beq_iff_eq] at h
      subst h
      exact ⟨_, _, _, _, _, e, ev⟩
    · cases h
  · cases h
def fdB (K : PySem.W.Frag) (C : Addr) (f : Str) (fd : FuncData) : Bool := parB f fd.params && bodB f fd.body && decide (fd.scope = iniScope f) && (fd.globals == mainGlobals) && (fd.builtins == builtinsNs) &&
  (match fd.defaults with
  | .none => true
  | _ => false) && (match fd.closure with
  | [(n, cc)] => n == ("__class__" : Str) && cellB K C cc
  | _ => false) && (match fd.code with
  | .ref cda => PySem.W.codeIn K (.ref cda) fd.qualname && fileB K cda
  | _ => false)
def clsOB (K : PySem.W.Frag) (C : Addr) : Bool := match K.lookup C with
  | some ⟨.type ty, _, .cls cd, sl⟩ => ty == "type" && (match cd.mro with
    | .ref c :: bm => c == C && PySem.HandSPX.refsVE bm
    | _ => false) && cd.hasDict && !cd.hasDel && (match sl with
    | ⟨[_, _, _, _, some (.builtin n), _]⟩ => n == "ValueError.__new__"
    | _ => false)
  | _ => false
theorem clsOB_ok {K : PySem.W.Frag} {C : Addr} (h : clsOB K C = true) : ∃ nm q N bs bm sn sub ab col dd k0 k1 k2 k3 k5, K.lookup C = some (excClassObj nm q C N bs bm true sn sub ab col dd k0 k1 k2 k3 k5 "ValueError.__new__") ∧ PySem.HandSPX.refsVE bm = true := by
  unfold clsOB at h
  split at h
  · next ty dd cd sl e =>
    simp only [Bool.and_eq_true, Bool.not_eq_true', beq_iff_eq] at h
    obtain ⟨⟨⟨⟨rfl, h2⟩, h3⟩, h4⟩, h5⟩ := h
    obtain ⟨nm, bs, mro, N, q, hd, sn, sub, ab, col, del⟩ := cd
    simp only at h2 h3 h4
    subst h3 h4
    split at h2
    · next c bm =>
      simp only [Bool.and_eq_true, beq_iff_eq] at h2
      obtain ⟨rfl, h2⟩ := h2
      split at h5
      · next k0 k1 k2 k3 n k5 =>
        rw [beq_iff_eq] at h5
        subst h5
        exact ⟨nm, q, N, bs, bm, sn, sub, ab, col, dd, k0, k1, k2, k3, k5, e, h2⟩
      · cases h5
    · cases h2
  · cases h
/-- the own __init__ -/
def iniB (K : PySem.W.Frag) (C : Addr) (f : Str) : Bool := match PySem.W.findIn K (.ref C) "__init__" with
  | some (some (.ref fI)) => clsOB K C && decide (PySem.W.findIn K (.ref C) "__setattr__" = some (some (.builtin "object.__setattr__"))) && decide (PySem.W.subIn K (.ref C) (.type "BaseException") = some true) && decide (PySem.W.typeIn K (.ref C) = some (.type "type")) && PySem.W.keepIn K (.ref C) &&
    decide (PySem.W.typeIn K (.ref fI) = some (.type "function")) && decide (PySem.W.findIn K (.ref C) f = some none) && (f == ("limit" : Str) || f == ("row" : Str)) && (match K.lookup fI with
    | some ⟨_, _, .func fd, _⟩ => fdB K C f fd
    | _ => false) && decide (PySem.W.mroIn K C (.ref C) = some true) && decide (PySem.W.ks_superIn K C C "__init__" = some (some (.builtin "ValueError.__init__"))) && decide (PySem.W.nsIn K cStatics "thirdparty.any" = some none) && decide (PySem.W.subIn K (.ref C) (.type "ValueError") = some true)
  | _ => false
theorem iniB_ok {K : PySem.W.Frag} {C : Addr} {f : Str} (h : iniB K C f = true) : ∃ fI, IniC K C fI f := by
  unfold iniB at h
  split at h
  · next fI hfi =>
    simp only [Bool.and_eq_true, Bool.or_eq_true, decide_eq_true_eq, beq_iff_eq] at h
    obtain ⟨⟨⟨⟨⟨⟨⟨⟨⟨⟨⟨⟨h1, h2⟩, h3⟩, h4⟩, h5⟩, h6⟩, h7⟩, h8⟩, h9⟩, h10⟩, h11⟩, h12⟩, h13⟩ := h
    refine ⟨fI, ⟨clsOB_ok h1, h2, h3, h4, h5⟩, hfi, h6, h7, h8, ?_, h10, h11, h12, h13⟩
    split at h9
    · next oc od fd osl e =>
      unfold fdB at h9
      simp only [Bool.and_eq_true, decide_eq_true_eq, beq_iff_eq] at h9
      obtain ⟨⟨⟨⟨⟨⟨⟨g1, g2⟩, g3⟩, g4⟩, g5⟩, g6⟩, g7⟩, g8⟩ := h9
      obtain ⟨name, qual, params, body, scope, globals, closure, defaults, kV, doc, pm, an, code, ct, blt⟩ := fd
      simp only at g1 g2 g3 g4 g5 g6 g7 g8
      subst g3 g4 g5
      obtain ⟨q1, q2, rfl⟩ := parB_ok g1
      obtain ⟨w, j, p0, p1, p2, p3, p4, p5, p6, p7, p8, p9, hln, rfl⟩ := bodB_ok g2
      split at g6
      · split at g7
        · next n cc =>
          simp only [Bool.and_eq_true, beq_iff_eq] at g7
          obtain ⟨rfl, g7⟩ := g7
          split at g8
          · next cda =>
            rw [Bool.and_eq_true] at g8
            exact ⟨oc, od, osl, name, qual, kV, doc, pm, an, cda, ct, cc, ⟨q1, q2, w, j, p0, p1, p2, p3, p4, p5, p6, p7, p8, p9, hln, e⟩, g8.1, fileB_ok g8.2, cellB_ok g7⟩
          · cases g8
        · cases g7
      · cases g6
    · cases h9
  · cases h
def excCB (K : PySem.W.Frag) (D : Addr) : Bool := decide (PySem.W.findIn K (.ref D) "__getattribute__" = some (some (.builtin "BaseException.__getattribute__"))) && decide (PySem.W.findIn K (.ref D) "__getattr__" = some none) && decide (PySem.W.subIn K (.ref D) (.type "BaseException") = some true) && PySem.W.hasDictIn K D &&
  decide (PySem.W.findIn K (.ref D) "__class__" = some (some (.builtin "object.__class__"))) && decide (PySem.W.specialIn K (.builtin "object.__class__") "__get__" = some (some (.builtin "getset_descriptor.__get__"))) && decide (PySem.W.takesIn K (.builtin "object.__class__") = some true) && decide (PySem.W.mroIn K D (.type "object") = some true)
theorem excCB_ok {K : PySem.W.Frag} {D : Addr} (h : excCB K D = true) : ExcC K D := by
  simp only [excCB, Bool.and_eq_true, decide_eq_true_eq] at h
  obtain ⟨⟨⟨⟨⟨⟨⟨h1, h2⟩, h3⟩, h4⟩, h5⟩, h6⟩, h7⟩, h8⟩ := h
  exact ⟨h1, h2, h3, h4, h5, h6, h7, h8⟩
end Ev
/-! Ev, part K: the head's facts, the law's end. -/
namespace Ev
open PySem L2
/-- a def of the top as it is printed -/
structure Ent where
  x : Str
  st : Stmt
  ps : List Str
  N : List Str
  body : List CS
def Ent.fd (e : Ent) : FD := ⟨e.ps.length, e.N.length, e.body⟩
def Ent.dd (e : Ent) : He.DefD := ⟨(e.x, none), e.x, e.x, defArgs e.st, defBody e.st, defScope e.st, [], []⟩
/-- classes with their own __init__, as defs -/
def iniL (cls blts : List Str) (inis : List Nat) : List (Str × FD) := if blts.contains ("super" : Str) then inis.map fun c => (cls.getD c "", iniFD c (cls.getD c "")) else []
def tabOf (L : List Ent) (cons : List (Str × D)) (cls blts : List Str) (inis : List Nat) (subs : List (Nat × Nat)) : Tab := ⟨(L.map fun e => (e.x, e.fd)) ++ iniL cls blts inis, cons, cls, blts, inis, subs⟩
theorem tab_at {L : List Ent} {cons : List (Str × D)} {cls blts : List Str} {inis : List Nat} {subs : List (Nat × Nat)} {i : Nat} {e : Ent} (h : L[i]? = some e) : (tabOf L cons cls blts inis subs).fns[i]? = some (e.x, e.fd) := by
  have hi : i < L.length := (List.getElem?_eq_some_iff.mp h).1
  show ((L.map fun e => (e.x, e.fd)) ++ iniL cls blts inis)[i]? = _
  rw [List.getElem?_append_left (by rw [List.length_map]; exact hi), List.getElem?_map, h]; rfl
def Ent.ok (T : Tab) (e : Ent) : Bool := C8.scC e.N e.ps (defScope e.st) && chkB T e.N (defScope e.st) e.body (defBody e.st)
/-- its parameters are plain -/
def Ent.bnd (e : Ent) : Prop := ∀ (kV doc pm : Value) (an : Option Addr) (cdv ct : Value) (us : List Value), us.length = e.ps.length → bindArgs (PySem.W.fnOf e.x e.x (defArgs e.st) (defBody e.st) (defScope e.st) .none kV doc pm an cdv ct) ⟨us, []⟩ = pure (e.ps.zip us)
/-! ### constants -/
def dvOf : D → Option He.Dv
  | .int i => some (.int i)
  | .str x => if PyData.strOk x && decide (x.length ≤ big) then some (.str x) else none
  | .bl b => some (.bl b)
  | .non => some .non
  | _ => none
def dvsOf : List D → Option (List He.Dv)
  | [] => some []
  | d :: r => match dvOf d, dvsOf r with
    | some v, some vs => some (v :: vs)
    | _, _ => none
theorem dv_rep {G : GC} {K : PySem.W.Frag} {d : D} {v : He.Dv} (h : dvOf d = some v) (m : List Addr) (H : Hp) : Rep G m H d (v.v K) := by
  cases d <;> simp only [dvOf] at h
  case int i => cases h; simp only [Rep, He.Dv.v]
  case bl i => cases h; simp only [Rep, He.Dv.v]
  case non => cases h; simp only [Rep, He.Dv.v]
  case str x =>
    split at h
    · next c =>
      cases h
      rw [Bool.and_eq_true, decide_eq_true_eq] at c
      simp only [Rep, He.Dv.v]
      exact ⟨trivial, c.1, c.2⟩
    · cases h
  all_goals cases h
theorem dvs_rep {G : GC} {K : PySem.W.Frag} (m : List Addr) (H : Hp) : ∀ {ds : List D} {vs : List He.Dv}, dvsOf ds = some vs → RepL G m H ds (vs.map (He.Dv.v K))
  | [], vs, h => by simp only [dvsOf, Option.some.injEq] at h; subst h; exact .nil
  | d :: r, vs, h => by
    simp only [dvsOf] at h
    split at h
    · next v ws e1 e2 => cases h; exact .cons (dv_rep e1 m H) (dvs_rep m H e2)
    · cases h
def conB (K : PySem.W.Frag) (q : Str × D) : Bool := match q.2 with
  | .int i => (He.Fa.int q.1 i).ok K
  | .tup ds => (He.Fa.glo q.1).ok K && decide (ds.length ≤ big) && (match dvsOf ds with
    | some vs => He.tupB K q.1 vs
    | none => false)
  | _ => false
/-- an exception class: what is asked of it -/
def clsB (K : PySem.W.Frag) (ini : Bool) (x : Str) : Bool :=
  (He.Fa.glo x).ok K && PySem.W.keepIn K (.ref (He.ga K x)) && (ini || PySem.W.excIn K (He.ga K x) veB "ValueError.__new__") && decide (PySem.W.subIn K (.ref (He.ga K x)) (.type "BaseException") = some true) && decide (PySem.W.typeIn K (.ref (He.ga K x)) = some (.type "type"))
def subB (K : PySem.W.Frag) (T : Tab) : Bool := (List.range T.cls.length).all fun c => (List.range T.cls.length).all fun d =>
  decide (PySem.W.exmOne K (.ref (He.ga K (T.cls.getD c ""))) (.ref (He.ga K (T.cls.getD d ""))) = some (T.subs.contains (c, d)))
/-- exceptions held as values -/
def exvB (K : PySem.W.Frag) (T : Tab) : Bool := (List.range T.cls.length).all fun c => excCB K (He.ga K (T.cls.getD c "")) && decide (PySem.W.kitOne K (.ref (He.ga K (T.cls.getD c ""))) (.type "ValueError") = some true) && decide (PySem.W.findIn K (.ref (He.ga K (T.cls.getD c ""))) "limit" = some none) &&
  decide (PySem.W.findIn K (.ref (He.ga K (T.cls.getD c ""))) "row" = some none) && (!T.inis.contains c || iniB K (He.ga K (T.cls.getD c "")) (iniFld (T.cls.getD c ""))) &&
  (List.range T.cls.length).all fun d => decide (PySem.W.kitOne K (.ref (He.ga K (T.cls.getD c ""))) (.ref (He.ga K (T.cls.getD d ""))) = some (T.subs.contains (c, d)))
/-- what the head is asked besides the defs; lf: the defs that make lambdas -/
def extB (T : Tab) (lf : List He.Defn) (K : PySem.W.Frag) : Bool := (T.fns.all fun f => (He.Fa.glo f.1).ok K) && (T.blts.all fun x => (He.Fa.free x).ok K) && T.cons.all (conB K) &&
  ((List.range T.cls.length).all fun c => clsB K (T.inis.contains c) (T.cls.getD c "")) && subB K T && decide ((lf.map fun p => (He.cT K p).2).Nodup) && (!T.blts.contains ("super" : Str) || (exvB K T && T.inis.all fun c => decide (c < T.cls.length)))
/-- what the names reach, and the interpreter's own statics -/
def asY (g : Addr → Option Obj) (n : Nat) : List Addr := He.asD g n ++ [cStatics]
def obsY (n : Nat) (fn : List He.DefD) (tf : List He.Defn) (ex : PySem.W.Frag → Bool) (g : Addr → Option Obj) : He.AlX := (He.obsT [] fn [] (He.frT g (asY g n)), ex (He.frT g (asY g n)) && He.tabsB g tf (He.frT g (asY g n)))
theorem saysY_of {n : Nat} {fn : List He.DefD} {tf : List He.Defn} {ex : PySem.W.Frag → Bool} {w : World} {h : Heap} (e : obsY n fn tf ex h.get? = He.valX fn [] w) : He.SaysX [] fn [] tf ex w h (He.frT h.get? (asY h.get? n)) := by
  have e1 : He.obsT [] fn [] (He.frT h.get? (asY h.get? n)) = He.valT fn [] w := congrArg (fun z : He.AlX => z.1) e
  have e2 : (ex (He.frT h.get? (asY h.get? n)) && He.tabsB h.get? tf (He.frT h.get? (asY h.get? n))) = true := congrArg (fun z : He.AlX => z.2) e
  generalize hK : He.frT h.get? (asY h.get? n) = K at e1 e2
  obtain ⟨h1, h2⟩ := Bool.and_eq_true_iff.mp e2
  have tell : ∀ p ∈ tf, PySem.W.codeHdIn K (He.cT K p).1 (He.cT K p).2 = true ∧ ∃ o, h.get? (He.cT K p).2 = some o ∧ He.emptyTab o = true := fun p hp => by
    obtain ⟨h3, h4⟩ := Bool.and_eq_true_iff.mp (List.all_eq_true.mp h2 p hp)
    cases q : h.get? (He.cT K p).2 with
    | none => rw [q] at h4; cases h4
    | some o => rw [q] at h4; exact ⟨h3, o, rfl, h4⟩
  refine ⟨e1, h1, fun p hp => (tell p hp).1, fun p hp => ?_, fun p hp => ?_⟩
  · obtain ⟨_, o, q, z⟩ := tell p hp
    rw [← hK]
    rw [← hK] at q
    exact He.frT_none q z
  · obtain ⟨_, o, q, z⟩ := tell p hp
    rw [q, He.emptyTab_eq z]
def hookY (n : Nat) (fn : List He.DefD) (tf : List He.Defn) (ex : PySem.W.Frag → Bool) : PySem.W.Hook where
  α := He.AlX
  obs := fun s => obsY n fn tf ex s.heap.get?
  val := fun w => He.valX fn [] w
  says := fun w h => ∃ K : PySem.W.Frag, K.In h ∧ He.SaysX [] fn [] tf ex w h K
  of := fun _ _ e => ⟨_, He.frT_in, saysY_of e⟩
  keeps := fun _ _ _ ⟨K, hK, c⟩ k => ⟨K, PySem.W.Frag.In.keeps hK k, ⟨c.t, c.more, c.hd, c.out, fun p hp => k _ _ (c.empty p hp)⟩⟩
theorem obsY_eq {n : Nat} {fn : List He.DefD} {tf : List He.Defn} {ex : PySem.W.Frag → Bool} {g : Addr → Option Obj} {s : Shared} (h : ∀ a, g a = s.heap.get? a) : obsY n fn tf ex g = (hookY n fn tf ex).obs s := by
  have e : g = s.heap.get? := funext h
  rw [e] <;> rfl
abbrev hookE (n : Nat) (T : Tab) (lf : List He.Defn) (fn : List He.DefD) : PySem.W.Hook := hookY n fn lf (extB T lf)
section
variable {L : List Ent} {cons : List (Str × D)} {cls blts : List Str} {inis : List Nat} {subs : List (Nat × Nat)} {lf : List He.Defn}
theorem lookup_mem {α : Type} {x : Str} {v : α} : ∀ {l : List (Str × α)}, l.lookup x = some v → (x, v) ∈ l
  | [], h => by simp at h
  | (k, w) :: r, h => by
    rw [List.lookup_cons] at h
    cases e : x == k with
    | true => rw [e] at h; simp at h; rw [beq_iff_eq] at e; subst e; subst h; exact List.mem_cons_self
    | false => rw [e] at h; exact List.mem_cons_of_mem _ (lookup_mem h)
/-- each def's tables are its own -/
def lamsOk (L : List Ent) (lf : List He.Defn) : Bool := L.all fun e => (lamsB e.body).all fun ti => decide (lf[ti]? = some (e.x, none))
def tbOf (K : PySem.W.Frag) (lf : List He.Defn) : List (Addr × Str) := lf.map fun p => ((He.cT K p).2, p.1 ++ ".<locals>." ++ "<lambda>")
theorem facts_of {P : Program} {w : World} {K : PySem.W.Frag} {h base : Heap} {mg : Str → Option Value} (X : K.In h) (Gn : h.Ns mainGlobals mg) (c : He.SaysX [] (L.map Ent.dd) [] lf (extB (tabOf L cons cls blts inis subs) lf) w h K)
    (ok : L.all (Ent.ok (tabOf L cons cls blts inis subs)) = true) (bnd : ∀ e ∈ L, e.bnd) (hlf : lamsOk L lf = true) (few : (tabOf L cons cls blts inis subs).fns.length ≤ MARK) (hfile : blts.contains ("super" : Str) = true → ((P.main.file : Str) == ("/claim/cut.py" : Str)) = true ∧ (P.main.scope.names.lookup ("super" : Str)).isSome = false) (TB : ∀ p ∈ lf.map (He.cT K), LamX.TabB base mg p.1 p.2) :
    Facts ⟨K, mg, tabOf L cons cls blts inis subs, P, w, [], tbOf K lf⟩ base := by
  have c1 : He.SaysD [] (L.map Ent.dd) K := He.SaysT.d c.t
  have c2 := c.more
  simp only [extB, Bool.and_eq_true] at c2
  obtain ⟨⟨⟨⟨⟨⟨k1, k2⟩, k3⟩, k4⟩, k5⟩, _⟩, k6⟩ := c2
  have glo : ∀ (n : Nat) (x : Str), cls[n]? = some x → clsB K (inis.contains n) x = true ∧ n < cls.length ∧ cls.getD n "" = x := fun n x hx => by
    have hn := (List.getElem?_eq_some_iff.mp hx).1
    have e : cls.getD n "" = x := by rw [List.getD_eq_getElem?_getD, hx]; rfl
    have q := List.all_eq_true.mp k4 n (List.mem_range.mpr hn)
    exact ⟨by rw [← e]; exact q, hn, e⟩
  refine ⟨fun x d hx => ?_, fun x hx => He.free_ok X Gn (List.all_eq_true.mp k2 x hx), fun f x d hf => ?_, few, fun n x hx => ?_, fun n m x y C E h1 h2 h3 h4 => ?_, fun hsup => ?_⟩
  · have q := List.all_eq_true.mp k3 _ (lookup_mem hx)
    unfold conB at q
    split at q
    · next i e =>
      obtain ⟨t, ht⟩ := He.int_ok X Gn q
      replace e : d = .int i := e
      subst e
      exact ⟨_, .int i, ht, ⟨t, rfl⟩, fun m H => by simp only [Rep]⟩
    · next ds e =>
      replace e : d = .tup ds := e
      subst e
      simp only [Bool.and_eq_true, decide_eq_true_eq] at q
      obtain ⟨⟨q1, q2⟩, q3⟩ := q
      split at q3
      · next vs ev =>
        refine ⟨_, .ref (He.ga K x), He.glo_ok X Gn q1, rfl, fun m H => ?_⟩
        have r := dvs_rep (G := ⟨K, mg, tabOf L cons cls blts inis subs, P, w, [], tbOf K lf⟩) (K := K) m H ev
        simp only [Rep]
        exact ⟨He.ga K x, _, rfl, by rw [r.length]; exact q2, r, .inr fun H' => He.tupB_ok q3 H'⟩
      · cases q3
    · cases q
  · have hf0 : ((L.map fun e => (e.x, e.fd)) ++ iniL cls blts inis)[f]? = some (x, d) := hf
    by_cases hfl : f < L.length
    rotate_left
    · rw [List.getElem?_append_right (by rw [List.length_map]; omega)] at hf0
      have hm := List.mem_of_getElem? hf0
      unfold iniL at hm
      split at hm
      · next hsup =>
        obtain ⟨c, hc, e⟩ := List.mem_map.mp hm
        simp only [Prod.mk.injEq] at e
        obtain ⟨rfl, rfl⟩ := e
        have k7 := k6
        rw [show (tabOf L cons cls blts inis subs).blts.contains ("super" : Str) = true from hsup, Bool.not_true, Bool.false_or, Bool.and_eq_true] at k7
        have hcl : c < cls.length := of_decide_eq_true (List.all_eq_true.mp k7.2 c hc)
        have hx : cls[c]? = some (cls.getD c "") := by rw [List.getD_eq_getElem?_getD, List.getElem?_eq_getElem hcl]; rfl
        obtain ⟨q, _, _⟩ := glo c _ hx
        simp only [clsB, Bool.and_eq_true] at q
        exact .inr ⟨c, He.ga K (cls.getD c ""), hx, He.glo_ok X Gn q.1.1.1.1, by show inis.contains c = true; simpa using hc, hsup, rfl, q.1.1.1.2⟩
      · simp at hm
    rw [List.getElem?_append_left (by rw [List.length_map]; exact hfl)] at hf0
    refine .inl ?_
    have hf' : (L.map fun e => (e.x, e.fd))[f]? = some (x, d) := hf0
    rw [List.getElem?_map] at hf'
    cases he : L[f]? with
    | none => rw [he] at hf'; cases hf'
    | some e =>
      rw [he] at hf'
      simp only [Option.map_some, Option.some.injEq, Prod.mk.injEq] at hf'
      obtain ⟨rfl, rfl⟩ := hf'
      have hm := List.mem_of_getElem? he
      have o := List.all_eq_true.mp ok e hm
      unfold Ent.ok at o
      rw [Bool.and_eq_true] at o
      obtain ⟨fd, F⟩ := c1.def_ f (d := e.dd) (by rw [List.getElem?_map, he]; rfl)
      have F' : FunD K e.x e.x (defArgs e.st) (defBody e.st) (defScope e.st) [] [] (He.ga K e.x) fd := F
      have g := He.glo_ok X Gn (List.all_eq_true.mp k1 (e.x, e.fd) (List.mem_append.mpr (.inl (List.mem_map.mpr ⟨e, hm, rfl⟩))))
      refine ⟨He.ga K e.x, fd, e.ps, e.N, defScope e.st, defArgs e.st, defBody e.st, F', g, C8.fnScope_by o.1, rfl, rfl, F'.bindsN fun kV doc pm an cdv ct us hl => bnd e hm kV doc pm an cdv ct us hl, o.2, fun ti hti cdv hl => ?_⟩
      obtain ⟨oc, od, dV, kV, doc, pm, an, ct, osl, lk⟩ := hl
      have ht := of_decide_eq_true (List.all_eq_true.mp (List.all_eq_true.mp hlf e hm) ti hti)
      obtain ⟨oc', od', dV', kV', doc', pm', an', cdv', ct', osl', rfl, lk', hcd, _, _⟩ := F'.ex
      rw [lk] at lk'
      simp only [Option.some.injEq, Obj.mk.injEq] at lk'
      have ecd : cdv = cdv' := by
        have := lk'.2.2.1
        simp only [Data.func.injEq, PySem.W.fnOf, FuncData.mk.injEq] at this
        simp_all
      subst ecd
      obtain ⟨cA, rfl⟩ := He.codeIn_ref hcd
      have ec : He.codeOf K (e.x, none) = cA := He.codeOf_eq (p := (e.x, none)) lk rfl
      refine ⟨cA, (He.cT K (e.x, none)).2, rfl, ?_, ?_⟩
      · have := TB (He.cT K (e.x, none)) (List.mem_map.mpr ⟨_, List.mem_of_getElem? ht, rfl⟩)
        rw [← ec]
        exact this
      · show (tbOf K lf)[ti]? = _
        unfold tbOf
        rw [List.getElem?_map, ht]; rfl
  · obtain ⟨q, _, _⟩ := glo n x hx
    simp only [clsB, Bool.and_eq_true, Bool.or_eq_true, decide_eq_true_eq] at q
    obtain ⟨⟨⟨⟨q1, q2⟩, q3⟩, q4⟩, q5⟩ := q
    exact ⟨_, He.glo_ok X Gn q1, q2, fun z => q3.resolve_left (by rw [show inis.contains n = false from z]; simp), q4, q5⟩
  · obtain ⟨q, hn, en⟩ := glo n x h1
    obtain ⟨q', hm, em⟩ := glo m y h2
    simp only [clsB, Bool.and_eq_true] at q q'
    have g1 := He.glo_ok X Gn q.1.1.1.1
    have g2 := He.glo_ok X Gn q'.1.1.1.1
    have z1 : C = He.ga K x := by
      have := h3.symm.trans g1
      cases this; rfl
    have z2 : E = He.ga K y := by
      have := h4.symm.trans g2
      cases this; rfl
    subst z1; subst z2
    have := of_decide_eq_true (List.all_eq_true.mp (List.all_eq_true.mp k5 n (List.mem_range.mpr hn)) m (List.mem_range.mpr hm))
    rwa [show (tabOf L cons cls blts inis subs).cls.getD n "" = x from en, show (tabOf L cons cls blts inis subs).cls.getD m "" = y from em] at this
  · have k7 := k6
    rw [show (tabOf L cons cls blts inis subs).blts.contains ("super" : Str) = true from hsup, Bool.not_true, Bool.false_or, Bool.and_eq_true] at k7
    have at_ : ∀ (n : Nat) (x : Str) (C : Addr), cls[n]? = some x → mg x = some (.ref C) → n < cls.length ∧ cls.getD n "" = x ∧ C = He.ga K x := fun n x C h1 h2 => by
      obtain ⟨q, hn, en⟩ := glo n x h1
      simp only [clsB, Bool.and_eq_true] at q
      have g1 := He.glo_ok X Gn q.1.1.1.1
      refine ⟨hn, en, ?_⟩
      have := h2.symm.trans g1
      cases this; rfl
    have ex : ∀ (n : Nat) (x : Str) (C : Addr), cls[n]? = some x → mg x = some (.ref C) → _ := fun n x C h1 h2 => by
      obtain ⟨hn, en, eC⟩ := at_ n x C h1 h2
      have z := List.all_eq_true.mp k7.1 n (List.mem_range.mpr hn)
      rw [show (tabOf L cons cls blts inis subs).cls.getD n "" = x from en, ← eC] at z
      simp only [Bool.and_eq_true, Bool.or_eq_true, Bool.not_eq_true', decide_eq_true_eq] at z
      exact z
    refine ⟨(hfile hsup).1, (hfile hsup).2, fun n x C h1 h2 => ?_, fun n x C h1 h2 h3 => ?_, fun n m x y C E h1 h2 h3 h4 => ?_⟩
    · obtain ⟨⟨⟨⟨⟨z1, z2⟩, z3⟩, z4⟩, z5⟩, z6⟩ := ex n x C h1 h2
      exact ⟨excCB_ok z1, z2, z3, z4⟩
    · obtain ⟨⟨⟨⟨⟨z1, z2⟩, z3⟩, z4⟩, z5⟩, z6⟩ := ex n x C h1 h2
      exact iniB_ok (z5.resolve_left (by rw [show (tabOf L cons cls blts inis subs).inis.contains n = true from h3]; simp))
    · obtain ⟨⟨⟨⟨⟨z1, z2⟩, z3⟩, z4⟩, z5⟩, z6⟩ := ex n x C h1 h3
      obtain ⟨hm, em, eE⟩ := at_ m y E h2 h4
      have := of_decide_eq_true (List.all_eq_true.mp z6 m (List.mem_range.mpr hm))
      rwa [show (tabOf L cons cls blts inis subs).cls.getD m "" = y from em, ← eE] at this
/-- the script as a datum -/
def script (ns : List Int) : D := .scr (ns.map D.int)
/-- the store at the start: the tables -/
def store0 (lf : List He.Defn) : Store := (List.range lf.length).map .tbl
theorem rep_script {G : GC} {m : List Addr} {H : Hp} {a : Addr} {ns : List Int} (hav : G.av = []) (hm : ∀ b ∈ m, ∃ ps, H b = some (.tbl ps)) (hl : ns.length ≤ big) (h : SqL G.K H a (ns.map V.int)) : Rep G m H (script ns) (.ref a) := by
  unfold script
  simp only [Rep]
  refine ⟨a, ns.map V.int, rfl, by rw [List.length_map]; exact hl, repL_ofInts ns, ?_⟩
  rcases h with h | h
  · refine .inl ⟨h, fun q => ?_, by rw [hav]; simp⟩
    obtain ⟨ps, e⟩ := hm a q
    rcases h with h | ⟨o, h⟩ <;> rw [e] at h <;> cases h
  · exact .inr fun H' => .inr h
theorem sim_start {G : GC} {H : Hp} {m : List Addr} {lf : List He.Defn} (hav : G.av = []) (hl : m.length = lf.length) (hm : ∀ (n : Nat) (a : Addr), m[n]? = some a → (∃ q, G.tb[n]? = some (a, q)) ∧ H a = some (.tbl #[])) (nd : m.Nodup) : Sim G m H (store0 lf) := by
  refine ⟨by simp [store0, hl], nd, fun a h => by rw [hav] at h; simp at h, fun n a o e1 e2 => ?_⟩
  obtain ⟨⟨q, h1⟩, h2⟩ := hm n a e1
  have hn : n < lf.length := by rw [← hl]; exact (List.getElem?_eq_some_iff.mp e1).1
  unfold store0 at e2
  rw [List.getElem?_map, List.getElem?_range hn] at e2
  simp only [Option.map_some, Option.some.injEq] at e2
  subst e2
  exact ⟨q, #[], h1, h2, trivial, fun pos cv z => by
    have z : codeAmong pos [] = some cv := z
    simp [codeAmong] at z⟩
/-- the law's def as walk_ofTsE wants it -/
theorem law_end {l : PySem.W.OpenLaw} {w : World} {h : Heap} {mg : Str → Option Value} {x y : Str} {fa : Addr} (Gn : h.Ns mainGlobals mg) (Y : (hookE 4 (tabOf L cons cls blts inis subs) lf (L.map Ent.dd)).says w h)
    (ok : L.all (Ent.ok (tabOf L cons cls blts inis subs)) = true) (bnd : ∀ e ∈ L, e.bnd) (hlf : lamsOk L lf = true) (few : (tabOf L cons cls blts inis subs).fns.length ≤ MARK) (hfile : blts.contains ("super" : Str) = true → ((l.prog.main.file : Str) == ("/claim/cut.py" : Str)) = true ∧ (l.prog.main.scope.names.lookup ("super" : Str)).isSome = false) (i k : Nat) (e : Ent) (he : L[i]? = some e) (hx : e.x = x) (hp : e.ps = [y]) (hmg : mg x = some (.ref fa)) (n : Nat) (hn : n ≤ big)
    (law : ∀ ns : List Int, ns.length ≤ n → ∃ S, evF ((tabOf L cons cls blts inis subs).fns.map (·.2)) (k + 1) i [script ns] (store0 lf) = .ok (.bl true) S) :
    ∃ K : PySem.W.Frag, K.In h ∧ LamX.LawAtS l w K (L2.CX l.prog w) (k + 1) n y mg fa h := by
  obtain ⟨K, KX, c⟩ := Y
  subst hx
  have hm := List.mem_of_getElem? he
  have c1 : He.SaysD [] (L.map Ent.dd) K := He.SaysT.d c.t
  have c2 := c.more
  simp only [extB, Bool.and_eq_true, decide_eq_true_eq] at c2
  obtain ⟨⟨⟨⟨⟨⟨k1, k2⟩, k3⟩, k4⟩, k5⟩, knd⟩, k6⟩ := c2
  obtain ⟨fd, F⟩ := c1.def_ i (d := e.dd) (by rw [List.getElem?_map, he]; rfl)
  have F' : FunD K e.x e.x (defArgs e.st) (defBody e.st) (defScope e.st) [] [] (He.ga K e.x) fd := F
  refine ⟨K, KX, fd, lf.map (He.cT K), spF ⟨K, mg, tabOf L cons cls blts inis subs, l.prog, w, [], tbOf K lf⟩ (evF ((tabOf L cons cls blts inis subs).fns.map (·.2)) k) e.fd, fun p hp => ?_, fun p hp => ?_, fun p hp => ?_, fun s u => ?_, fun H a ns hl _ hH hS => ?_, fun base _ _ TB => ?_⟩
  · obtain ⟨q, hq, rfl⟩ := List.mem_map.mp hp
    exact c.empty q hq
  · obtain ⟨q, hq, rfl⟩ := List.mem_map.mp hp
    exact c.out q hq
  · obtain ⟨q, hq, rfl⟩ := List.mem_map.mp hp
    exact PySem.W.codeHd_of_K KX (c.hd q hq)
  · have q := FunD.bindsA (ps := e.ps) F' (fun kV doc pm an cdv ct us hl => bnd e hm kV doc pm an cdv ct us hl) s [u] (by rw [hp]; rfl)
    rw [hp] at q
    exact q
  · obtain ⟨S, hS2⟩ := law ns hl
    have hf2 : ((tabOf L cons cls blts inis subs).fns.map (·.2))[i]? = some e.fd := by rw [List.getElem?_map, tab_at he]; rfl
    have hnp : e.fd.np = 1 := by show e.ps.length = 1; rw [hp]; rfl
    rw [evF_succ hf2, if_pos (show [script ns].length = e.fd.np from hnp.symm)] at hS2
    have tbl : ∀ (n : Nat) (a : Addr), (lf.map fun p => (He.cT K p).2)[n]? = some a → (∃ q, (tbOf K lf)[n]? = some (a, q)) ∧ H a = some (.tbl #[]) := fun n a ha => by
      rw [List.getElem?_map] at ha
      cases hp : lf[n]? with
      | none => rw [hp] at ha; cases ha
      | some p =>
        rw [hp] at ha
        simp only [Option.map_some, Option.some.injEq] at ha
        subst ha
        exact ⟨⟨_, by unfold tbOf; rw [List.getElem?_map, hp]; rfl⟩, hH _ (List.mem_map.mpr ⟨p, List.mem_of_getElem? hp, rfl⟩)⟩
    refine ⟨[script ns], lf.map fun p => (He.cT K p).2, store0 lf, hnp.symm, .cons (rep_script rfl (fun b hb => ?_) (Nat.le_trans hl hn) hS) .nil, sim_start rfl (by simp) tbl knd, ?_⟩
    · obtain ⟨p, hp, rfl⟩ := List.mem_map.mp hb
      exact ⟨_, hH _ (List.mem_map.mpr ⟨p, hp, rfl⟩)⟩
    · rw [hS2]
      exact fun m' H' v _ _ r => by simpa only [Rep] using r
  · have F := facts_of (P := l.prog) (w := w) (base := base) KX Gn c ok bnd hlf few hfile TB
    have o := List.all_eq_true.mp ok e hm
    unfold Ent.ok at o
    rw [Bool.and_eq_true] at o
    have e1 : He.ga K e.x = fa := by
      have g := He.glo_ok KX Gn (List.all_eq_true.mp k1 (e.x, e.fd) (List.mem_append.mpr (.inl (List.mem_map.mpr ⟨e, hm, rfl⟩))))
      have := g.symm.trans hmg
      cases this; rfl
    have q := fn_step F (fun l A hr => fns_ok F k l A hr) [] (d := e.fd) F' (C8.fnScope_by o.1) rfl rfl o.2 (fun ti hti cdv hl => ?_) (low_mark F k fun k' _ l A hr => fns_ok F k' l A hr)
    · rw [hp, e1] at q
      exact q
    · obtain ⟨oc, od, dV, kV, doc, pm, an, ct, osl, lk⟩ := hl
      have ht := of_decide_eq_true (List.all_eq_true.mp (List.all_eq_true.mp hlf e hm) ti hti)
      obtain ⟨oc', od', dV', kV', doc', pm', an', cdv', ct', osl', rfl, lk', hcd, _, _⟩ := F'.ex
      rw [lk] at lk'
      simp only [Option.some.injEq, Obj.mk.injEq] at lk'
      have ecd : cdv = cdv' := by
        have := lk'.2.2.1
        simp only [Data.func.injEq, PySem.W.fnOf, FuncData.mk.injEq] at this
        simp_all
      subst ecd
      obtain ⟨cA, rfl⟩ := He.codeIn_ref hcd
      have ec : He.codeOf K (e.x, none) = cA := He.codeOf_eq (p := (e.x, none)) lk rfl
      refine ⟨cA, (He.cT K (e.x, none)).2, rfl, ?_, ?_⟩
      · have := TB (He.cT K (e.x, none)) (List.mem_map.mpr ⟨_, List.mem_of_getElem? ht, rfl⟩)
        rw [← ec]
        exact this
      · show (tbOf K lf)[ti]? = _
        unfold tbOf
        rw [List.getElem?_map, ht]; rfl
end
end Ev
/-! ### the text of the law: printed by gen.py -/
namespace Lw
open PySem L2 Ev
def top (i : Nat) : Stmt := PySem.Challenge.pw_barredhalves_k17_errors_and_their_classe.main.body.getD i (.Pass ⟨0, 0, 0, 0⟩)
def e0 : Ent := ⟨"_law_pail", top 16, ["script", "k"], ["script", "k", "cell"],
    [.set 2 (.ite (.cmp .lt (.var 1) (.bi .len [.var 0])) (.bi .abs [.bi .int [.idx (.var 0) (.var 1)]]) (.bin .add (.bin .mul (.int 89) (.var 1)) (.int 53))),
    .ret (.lst true [.ite (.cmp .ge (.var 2) (.bin .pow (.int 10) (.int 18))) (.var 2) (.int 0), .bin .mod (.bi .int [.bin .add (.bin .add (.bin .mod (.bi .int [.var 2]) (.int 2147478259)) (.bin .mul (.int 70061) (.var 1))) (.int 401)]) (.int 2147478259)])]⟩
def e1 : Ent := ⟨"_law_cup", top 17, ["pail", "wide"], ["pail", "wide", "found", "stirred"],
    [.ifs (.cmp .gt (.idx (.var 0) (.int 0)) (.int 0))
      ([.set 2 (.bin .mod (.bi .int [.idx (.var 0) (.int 0)]) (.var 1)),
      .setI (.var 0) (.int 0) (.bin .fdiv (.bi .int [.idx (.var 0) (.int 0)]) (.var 1)),
      .ret (.var 2)])
      ([]),
    .setI (.var 0) (.int 1) (.bin .mod (.bi .int [.bin .add (.bin .mul (.idx (.var 0) (.int 1)) (.int 51203)) (.int 3407)]) (.int 2147478259)),
    .set 3 (.bin .mod (.bin .mul (.bi .int [.idx (.var 0) (.int 1)]) (.bin .add (.bin .fdiv (.bi .int [.idx (.var 0) (.int 1)]) (.int 53)) (.int 37))) (.int 2147478253)),
    .ret (.bin .mod (.bi .int [.bin .fdiv (.bi .int [.var 3]) (.int 25)]) (.var 1))]⟩
def e2 : Ent := ⟨"_law_any", top 18, ["pail", "things"], ["pail", "things"],
    [.ret (.idx (.var 1) (.call 1 [.var 0, .bi .len [.var 1]]))]⟩
def e3 : Ent := ⟨"_law_all_errors", top 19, ["text", "number"], ["text", "number", "found"],
    [.set 2 (.lst false [.mkE 1 (.var 0), .mkE 2 (.var 0), .mkE 3 (.var 0), .mkE 4 (.var 0), .mkE 5 (.var 0)]),
    .set 2 (.bin .add (.var 2) (.lst false [.mkE 6 (.var 0), .mkE 7 (.var 0), .mkE 8 (.var 0), .mkE 9 (.var 0), .mkE 10 (.var 0)])),
    .ret (.bin .add (.var 2) (.lst false [.mkE 11 (.var 0), .call 6 [.var 1], .call 7 [.var 1]]))]⟩
def e4 : Ent := ⟨"_law_classes", top 20, ["error"], ["error", "found"],
    [.set 1 (.lst false [.isE (.var 0) [1] (some 1), .isE (.var 0) [2] (some 2), .isE (.var 0) [3] (some 3)]),
    .set 1 (.bin .add (.var 1) (.lst false [.isE (.var 0) [4] (some 4), .isE (.var 0) [5] (some 5)])),
    .set 1 (.bin .add (.var 1) (.lst false [.isE (.var 0) [6] (some 6), .isE (.var 0) [7] (some 7)])),
    .set 1 (.bin .add (.var 1) (.lst false [.isE (.var 0) [8] (some 8), .isE (.var 0) [9] (some 9)])),
    .set 1 (.bin .add (.var 1) (.lst false [.isE (.var 0) [10] (some 10), .isE (.var 0) [11] (some 11)])),
    .ret (.bin .add (.var 1) (.lst false [.isE (.var 0) [12] (some 12), .isE (.var 0) [13] (some 13)]))]⟩
def e5 : Ent := ⟨"law", top 21, ["script"], ["script", "k", "pail", "text", "number", "some", "at", "here"],
    [.fors (.name 1) (.rng1 (.bi .max2 [.int 3, .bi .min2 [.int 6, .bin .add (.bi .len [.var 0]) (.int 2)]]))
      ([.set 2 (.call 0 [.var 0, .var 1]),
      .par [3, 4] [.call 2 [.var 2, .lst false [.str "", .str "a message", .str "x y"]], .call 1 [.var 2, .int 1000]],
      .set 5 (.call 3 [.var 3, .var 4]),
      .fors (.name 6) (.rng1 (.bi .len [.var 5]))
        ([.ifs (.cmp .ne (.call 4 [.idx (.var 5) (.var 6)]) (.comp false [("here", 7)] (.name 7) (.rng1 (.bi .len [.var 5])) none (.cmp .eq (.var 7) (.var 6))))
          ([.ret (.bl false)])
          ([]),
        .ifs (.or [.not (.isE (.idx (.var 5) (.var 6)) [0, 1, 2, 3, 4, 5, 6, 7, 8, 9, 10, 11, 12, 13] (some 0)), .not (.isE (.idx (.var 5) (.var 6)) [0, 1, 2, 3, 4, 5, 6, 7, 8, 9, 10, 11, 12, 13] none)])
          ([.ret (.bl false)])
          ([])]),
      .ifs (.or [.cmp .ne (.fld (.idx (.var 5) (.int 11)) "limit") (.var 4), .cmp .ne (.fld (.idx (.var 5) (.int 12)) "row") (.var 4)])
        ([.ret (.bl false)])
        ([])]),
    .ret (.bl true)]⟩
def L : List Ent := [e0, e1, e2, e3, e4, e5]
def cons : List (Str × D) := []
def blts : List Str := ["len", "abs", "int", "super", "isinstance", "range", "max", "min", "ValueError"]
def tab : Tab := tabOf L cons ["HalfError", "InvalidNumber", "InvalidRule", "InvalidRules", "InvalidLog", "InvalidTurn", "InvalidBarred", "InvalidAnswer", "InvalidTry", "InvalidIndex", "Ended", "NothingToUndo", "TooMany", "InvalidText"] blts [12, 13] [(0, 0), (1, 1), (1, 0), (2, 2), (2, 0), (3, 3), (3, 0), (4, 4), (4, 0), (5, 5), (5, 0), (6, 6), (6, 0), (7, 7), (7, 0), (8, 8), (8, 0), (9, 9), (9, 0), (10, 10), (10, 0), (11, 11), (11, 0), (12, 12), (12, 0), (13, 13), (13, 0)]
def lf : List He.Defn := []
theorem ok0 : e0.ok tab = true := by decide +kernel
theorem ok1 : e1.ok tab = true := by decide +kernel
theorem ok2 : e2.ok tab = true := by decide +kernel
theorem ok3 : e3.ok tab = true := by decide +kernel
theorem ok4 : e4.ok tab = true := by decide +kernel
theorem ok5 : e5.ok tab = true := by decide +kernel
theorem oks : L.all (Ent.ok tab) = true := by
  simp only [L, List.all_cons, List.all_nil, Bool.and_true, Bool.and_eq_true]
  exact ⟨ok0, ok1, ok2, ok3, ok4, ok5⟩
theorem bd0 : e0.bnd := fun _ _ _ _ _ _ us hl => match us, hl with | [_, _], _ => rfl
theorem bd1 : e1.bnd := fun _ _ _ _ _ _ us hl => match us, hl with | [_, _], _ => rfl
theorem bd2 : e2.bnd := fun _ _ _ _ _ _ us hl => match us, hl with | [_, _], _ => rfl
theorem bd3 : e3.bnd := fun _ _ _ _ _ _ us hl => match us, hl with | [_, _], _ => rfl
theorem bd4 : e4.bnd := fun _ _ _ _ _ _ us hl => match us, hl with | [_], _ => rfl
theorem bd5 : e5.bnd := fun _ _ _ _ _ _ us hl => match us, hl with | [_], _ => rfl
theorem bnd : ∀ e ∈ L, e.bnd := by
  intro e h
  simp only [L, List.mem_cons, List.not_mem_nil, or_false] at h
  rcases h with rfl | rfl | rfl | rfl | rfl | rfl
  · exact bd0
  · exact bd1
  · exact bd2
  · exact bd3
  · exact bd4
  · exact bd5
def fs : List FD := tab.fns.map (·.2)
theorem u0 (n : Nat) (a0 a1 : D) (S : Store) : evF fs (n + 1) 0 [a0, a1] S = endB (evB (evF fs n)
    [.set 2 (.ite (.cmp .lt (.var 1) (.bi .len [.var 0])) (.bi .abs [.bi .int [.idx (.var 0) (.var 1)]]) (.bin .add (.bin .mul (.int 89) (.var 1)) (.int 53))),
    .ret (.lst true [.ite (.cmp .ge (.var 2) (.bin .pow (.int 10) (.int 18))) (.var 2) (.int 0), .bin .mod (.bi .int [.bin .add (.bin .add (.bin .mod (.bi .int [.var 2]) (.int 2147478259)) (.bin .mul (.int 70061) (.var 1))) (.int 401)]) (.int 2147478259)])] [some a0, some a1, none] S) :=
  (evF_succ (fs := fs) (k := n) (f := 0) (S := S) (d := e0.fd) rfl).trans (if_pos rfl)
theorem u1 (n : Nat) (a0 a1 : D) (S : Store) : evF fs (n + 1) 1 [a0, a1] S = endB (evB (evF fs n)
    [.ifs (.cmp .gt (.idx (.var 0) (.int 0)) (.int 0))
      ([.set 2 (.bin .mod (.bi .int [.idx (.var 0) (.int 0)]) (.var 1)),
      .setI (.var 0) (.int 0) (.bin .fdiv (.bi .int [.idx (.var 0) (.int 0)]) (.var 1)),
      .ret (.var 2)])
      ([]),
    .setI (.var 0) (.int 1) (.bin .mod (.bi .int [.bin .add (.bin .mul (.idx (.var 0) (.int 1)) (.int 51203)) (.int 3407)]) (.int 2147478259)),
    .set 3 (.bin .mod (.bin .mul (.bi .int [.idx (.var 0) (.int 1)]) (.bin .add (.bin .fdiv (.bi .int [.idx (.var 0) (.int 1)]) (.int 53)) (.int 37))) (.int 2147478253)),
    .ret (.bin .mod (.bi .int [.bin .fdiv (.bi .int [.var 3]) (.int 25)]) (.var 1))] [some a0, some a1, none, none] S) :=
  (evF_succ (fs := fs) (k := n) (f := 1) (S := S) (d := e1.fd) rfl).trans (if_pos rfl)
theorem u2 (n : Nat) (a0 a1 : D) (S : Store) : evF fs (n + 1) 2 [a0, a1] S = endB (evB (evF fs n)
    [.ret (.idx (.var 1) (.call 1 [.var 0, .bi .len [.var 1]]))] [some a0, some a1] S) :=
  (evF_succ (fs := fs) (k := n) (f := 2) (S := S) (d := e2.fd) rfl).trans (if_pos rfl)
theorem u3 (n : Nat) (a0 a1 : D) (S : Store) : evF fs (n + 1) 3 [a0, a1] S = endB (evB (evF fs n)
    [.set 2 (.lst false [.mkE 1 (.var 0), .mkE 2 (.var 0), .mkE 3 (.var 0), .mkE 4 (.var 0), .mkE 5 (.var 0)]),
    .set 2 (.bin .add (.var 2) (.lst false [.mkE 6 (.var 0), .mkE 7 (.var 0), .mkE 8 (.var 0), .mkE 9 (.var 0), .mkE 10 (.var 0)])),
    .ret (.bin .add (.var 2) (.lst false [.mkE 11 (.var 0), .call 6 [.var 1], .call 7 [.var 1]]))] [some a0, some a1, none] S) :=
  (evF_succ (fs := fs) (k := n) (f := 3) (S := S) (d := e3.fd) rfl).trans (if_pos rfl)
theorem u4 (n : Nat) (a0 : D) (S : Store) : evF fs (n + 1) 4 [a0] S = endB (evB (evF fs n)
    [.set 1 (.lst false [.isE (.var 0) [1] (some 1), .isE (.var 0) [2] (some 2), .isE (.var 0) [3] (some 3)]),
    .set 1 (.bin .add (.var 1) (.lst false [.isE (.var 0) [4] (some 4), .isE (.var 0) [5] (some 5)])),
    .set 1 (.bin .add (.var 1) (.lst false [.isE (.var 0) [6] (some 6), .isE (.var 0) [7] (some 7)])),
    .set 1 (.bin .add (.var 1) (.lst false [.isE (.var 0) [8] (some 8), .isE (.var 0) [9] (some 9)])),
    .set 1 (.bin .add (.var 1) (.lst false [.isE (.var 0) [10] (some 10), .isE (.var 0) [11] (some 11)])),
    .ret (.bin .add (.var 1) (.lst false [.isE (.var 0) [12] (some 12), .isE (.var 0) [13] (some 13)]))] [some a0, none] S) :=
  (evF_succ (fs := fs) (k := n) (f := 4) (S := S) (d := e4.fd) rfl).trans (if_pos rfl)
theorem u5 (n : Nat) (a0 : D) (S : Store) : evF fs (n + 1) 5 [a0] S = endB (evB (evF fs n)
    [.fors (.name 1) (.rng1 (.bi .max2 [.int 3, .bi .min2 [.int 6, .bin .add (.bi .len [.var 0]) (.int 2)]]))
      ([.set 2 (.call 0 [.var 0, .var 1]),
      .par [3, 4] [.call 2 [.var 2, .lst false [.str "", .str "a message", .str "x y"]], .call 1 [.var 2, .int 1000]],
      .set 5 (.call 3 [.var 3, .var 4]),
      .fors (.name 6) (.rng1 (.bi .len [.var 5]))
        ([.ifs (.cmp .ne (.call 4 [.idx (.var 5) (.var 6)]) (.comp false [("here", 7)] (.name 7) (.rng1 (.bi .len [.var 5])) none (.cmp .eq (.var 7) (.var 6))))
          ([.ret (.bl false)])
          ([]),
        .ifs (.or [.not (.isE (.idx (.var 5) (.var 6)) [0, 1, 2, 3, 4, 5, 6, 7, 8, 9, 10, 11, 12, 13] (some 0)), .not (.isE (.idx (.var 5) (.var 6)) [0, 1, 2, 3, 4, 5, 6, 7, 8, 9, 10, 11, 12, 13] none)])
          ([.ret (.bl false)])
          ([])]),
      .ifs (.or [.cmp .ne (.fld (.idx (.var 5) (.int 11)) "limit") (.var 4), .cmp .ne (.fld (.idx (.var 5) (.int 12)) "row") (.var 4)])
        ([.ret (.bl false)])
        ([])]),
    .ret (.bl true)] [some a0, none, none, none, none, none, none, none] S) :=
  (evF_succ (fs := fs) (k := n) (f := 5) (S := S) (d := e5.fd) rfl).trans (if_pos rfl)
end Lw
/-! ### the head, the end: printed by head.py -/
namespace Lw
open PySem L2 Ev
def loose0 : List Str := ["__name__", "HalfError", "InvalidNumber", "InvalidRule", "InvalidRules", "InvalidLog", "InvalidTurn", "InvalidBarred", "InvalidAnswer", "InvalidTry", "InvalidIndex", "Ended", "NothingToUndo", "TooMany", "InvalidText", "_law_pail", "_law_cup", "_law_any", "_law_all_errors", "_law_classes"]
def loose : List Str := loose0
abbrev Rw : PySem.W.OpenRow := PySem.W.OpenLaw.row PySem.Challenge.rw_barredhalves_k17_errors_and_their_classe
def dds : List He.DefD := L.map Ent.dd
abbrev hk : PySem.W.Hook := hookE 4 tab lf dds
def ob (s : PySem.W.SharedT) : He.AlX := obsY 4 dds lf (extB tab lf) (HandSHeadRun.getT s)
theorem ob_eq (s : PySem.W.SharedT) : ob s = hk.obs s.abs := obsY_eq (HandSHeadRun.getT_eq s)
theorem run (w : World) : HandSHeadRun.RunEq Rw (PySem.W.view Rw.prog [21]) hk ob 8000 loose w := by
  intro os
  kernel_rfl
/-- the law over the evaluator -/
def Holds : Prop := ∀ ns : List Int, ns.length ≤ 63 → ∃ S, evF (tab.fns.map (·.2)) (20 + 1) 5 [script ns] (store0 lf) = .ok (.bl true) S
end Lw
open PySem PySem.W PySem.Calls PyProof.Rows in
theorem Lw.end_ (hol : Lw.Holds) : PySem.Challenge.rw_barredhalves_k17_errors_and_their_classe.Holds := by
  w_on; o_law
  refine HandSHeadRun.head_any (r := OpenLaw.row PySem.Challenge.rw_barredhalves_k17_errors_and_their_classe) (q := view (OpenLaw.row PySem.Challenge.rw_barredhalves_k17_errors_and_their_classe).prog [21]) (H := Lw.hk) (ob := Lw.ob) (M := 8000) (loose := Lw.loose)
    (d := HandSHeadRun.topDef (OpenLaw.row PySem.Challenge.rw_barredhalves_k17_errors_and_their_classe).prog 21) (kwd := []) Lw.ob_eq
    (by kernel_rfl) (fun s => by kernel_rfl) Lw.run (by kernel_rfl) (by kernel_rfl) (by kernel_rfl) (by rfl) (by first | assumption | decide +kernel) (by decide +kernel) ⟨rfl, rfl, rfl, rfl, rfl, by decide +kernel⟩ ?hw ?hc
  case hw => w_witness2
  case hc =>
    refine LamX.walk_ofTsE (l := PySem.Challenge.rw_barredhalves_k17_errors_and_their_classe) (n := 63) (k := 20 + 1) (x := "script") (CX := fun w => L2.CX PySem.Challenge.rw_barredhalves_k17_errors_and_their_classe.prog w) rfl (by decide) (by kernel_rfl) ⟨rfl, by decide, by decide⟩ ?F
      (fun _ _ _ _ _ ⟨_, _, _, _, _, _, _, _, _, _, _, _, z⟩ => z)
    intro w mg fa h Y G hmg0
    have hmg : mg ("law" : PySem.Str) = some (.ref fa) := by
      have e : (HandSHeadRun.topDef (OpenLaw.row PySem.Challenge.rw_barredhalves_k17_errors_and_their_classe).prog 21).name = ("law" : PySem.Str) := by kernel_rfl
      rw [← e]
      exact hmg0
    exact Ev.law_end (l := PySem.Challenge.rw_barredhalves_k17_errors_and_their_classe) (L := Lw.L) (x := "law") (y := "script") G Y Lw.oks Lw.bnd (by decide) (by decide +kernel) (fun _ => ⟨by kernel_rfl, by kernel_rfl⟩) 5 20 Lw.e5 rfl rfl rfl hmg 63 (by decide) hol
/-! plain lemmas about the evaluator -/
namespace Ev
/-- a step that the kernel is not to look at again -/
theorem nr {α : Sort _} {a b : α} (h : a = b) : a = b := h
/-! ### the evaluator, step by step: what comes behind a step is named, so that nobody looks at it before its time -/
def seqB (cl : Nat → List D → Store → R D) (r : List CS) (x : RS) : RS := match x with
  | .nx τ S => evB cl r τ S
  | r => r
def iteB {α : Type} (o : Option Bool) (p q bad : α) : α := match o with
  | some true => p
  | some false => q
  | none => bad
section
variable (cl : Nat → List D → Store → R D) (τ : Slots) (S : Store) (a b c : CE) (es : List CE)
def forB (t : CT) (b : List CS) (τ : Slots) (I : Items) (S : Store) : RS := forL I (bindT t) (evB cl b) I.xs τ S
def whB (c : CE) (b : List CS) (τ : Slots) (S : Store) : RS := whL (ev cl c) (evB cl b) fuel τ S
def compB (t : CT) (c : Option CE) (e : CE) (τ : Slots) (I : Items) (S : Store) : R (List D) := noR (compL I (bindT t) (evC cl c) (ev cl e) I.xs τ S)
theorem e_int (i : Int) : ev cl (.int i) τ S = .ok (.int i) S := nr rfl
theorem e_bl (i : Bool) : ev cl (.bl i) τ S = .ok (.bl i) S := nr rfl
theorem e_non : ev cl .non τ S = .ok .non S := nr rfl
theorem e_str (i : PySem.Str) : ev cl (.str i) τ S = .ok (.str i) S := nr rfl
theorem e_var (i : Nat) : ev cl (.var i) τ S = okO (τ[i]?).join S := nr rfl
theorem e_con (x : PySem.Str) (d : D) : ev cl (.con x d) τ S = .ok d S := nr rfl
theorem e_fnv (f : Nat) : ev cl (.fnv f) τ S = .ok (.fn f) S := nr rfl
def kBin (o : BO) (x y : D) (S : Store) : R D := binop o x y S
def kBin1 (o : BO) (b : CE) (τ : Slots) (x : D) (S : Store) : R D := (ev cl b τ S).bind (kBin o x)
theorem e_bin (o : BO) : ev cl (.bin o a b) τ S = (ev cl a τ S).bind (kBin1 cl o b τ) := nr rfl
theorem y_bin1 (o : BO) (x : D) : kBin1 cl o b τ x S = (ev cl b τ S).bind (kBin o x) := nr rfl
theorem y_bin (o : BO) (x y : D) : kBin o x y S = binop o x y S := nr rfl
theorem e_neg : ev cl (.neg a) τ S = (ev cl a τ S).bind neg := nr rfl
def kNot (x : D) (S : Store) : R D := (okO (truth x) S).bind fun b S => .ok (.bl (!b)) S
theorem e_not : ev cl (.not a) τ S = (ev cl a τ S).bind kNot := nr rfl
theorem y_not (g : Bool) : kNot (.bl g) S = .ok (.bl (!g)) S := nr rfl
theorem y_notI (i : Int) : kNot (.int i) S = .ok (.bl (!(i != 0))) S := nr rfl
def kCmp (o : CO) (x y : D) (S : Store) : R D := cmpop o x y S
def kCmp1 (o : CO) (b : CE) (τ : Slots) (x : D) (S : Store) : R D := (ev cl b τ S).bind (kCmp o x)
theorem e_cmp (o : CO) : ev cl (.cmp o a b) τ S = (ev cl a τ S).bind (kCmp1 cl o b τ) := nr rfl
theorem y_cmp1 (o : CO) (x : D) : kCmp1 cl o b τ x S = (ev cl b τ S).bind (kCmp o x) := nr rfl
theorem y_cmp (o : CO) (x y : D) : kCmp o x y S = cmpop o x y S := nr rfl
def kCh3 (o : CO) (c : CE) (τ : Slots) (y z : D) (S : Store) : R D := match z with
  | .bl true => (ev cl c τ S).bind (kCmp o y)
  | .bl false => .ok (.bl false) S
  | _ => .bad
def kCh2 (o1 o2 : CO) (c : CE) (τ : Slots) (x y : D) (S : Store) : R D := (cmpop o1 x y S).bind (kCh3 cl o2 c τ y)
def kCh1 (o1 o2 : CO) (b c : CE) (τ : Slots) (x : D) (S : Store) : R D := (ev cl b τ S).bind (kCh2 cl o1 o2 c τ x)
theorem e_chain (o1 o2 : CO) : ev cl (.chain o1 o2 a b c) τ S = (ev cl a τ S).bind (kCh1 cl o1 o2 b c τ) := nr rfl
theorem y_ch1 (o1 o2 : CO) (x : D) : kCh1 cl o1 o2 b c τ x S = (ev cl b τ S).bind (kCh2 cl o1 o2 c τ x) := nr rfl
theorem y_ch2 (o1 o2 : CO) (x y : D) : kCh2 cl o1 o2 c τ x y S = (cmpop o1 x y S).bind (kCh3 cl o2 c τ y) := nr rfl
theorem y_ch3 (o : CO) (y : D) (g : Bool) : kCh3 cl o c τ y (.bl g) S = bif g then (ev cl c τ S).bind (kCmp o y) else .ok (.bl false) S := by cases g <;> rfl
theorem e_and : ev cl (.and es) τ S = evAnd cl es τ S := nr rfl
theorem e_or : ev cl (.or es) τ S = evOr cl es τ S := nr rfl
theorem e_and1 : evAnd cl [a] τ S = ev cl a τ S := nr rfl
theorem e_or1 : evOr cl [a] τ S = ev cl a τ S := nr rfl
def kAnd (es : List CE) (τ : Slots) (x : D) (S : Store) : R D := match x with
  | .bl true => evAnd cl es τ S
  | .bl false => .ok (.bl false) S
  | _ => .bad
def kOr (es : List CE) (τ : Slots) (x : D) (S : Store) : R D := match x with
  | .bl true => .ok (.bl true) S
  | .bl false => evOr cl es τ S
  | _ => .bad
theorem e_and2 : evAnd cl (a :: b :: es) τ S = (ev cl a τ S).bind (kAnd cl (b :: es) τ) := nr rfl
theorem e_or2 : evOr cl (a :: b :: es) τ S = (ev cl a τ S).bind (kOr cl (b :: es) τ) := nr rfl
theorem y_and (g : Bool) : kAnd cl es τ (.bl g) S = bif g then evAnd cl es τ S else .ok (.bl false) S := by cases g <;> rfl
theorem y_or (g : Bool) : kOr cl es τ (.bl g) S = bif g then .ok (.bl true) S else evOr cl es τ S := by cases g <;> rfl
def kIte (a b : CE) (τ : Slots) (x : D) (S : Store) : R D := iteB (truth x) (ev cl a τ S) (ev cl b τ S) .bad
theorem e_ite : ev cl (.ite c a b) τ S = (ev cl c τ S).bind (kIte cl a b τ) := nr rfl
theorem y_ite (g : Bool) : kIte cl a b τ (.bl g) S = bif g then ev cl a τ S else ev cl b τ S := by cases g <;> rfl
def kTup (xs : List D) (S : Store) : R D := okIf (decide (xs.length ≤ big)) (.tup xs) S
theorem e_tup : ev cl (.tup es) τ S = (evs cl es τ S).bind kTup := nr rfl
theorem y_tup0 : kTup [] S = .ok (.tup []) S := nr rfl
theorem y_tup1 (x : D) : kTup [x] S = .ok (.tup [x]) S := nr rfl
theorem y_tup2 (x y : D) : kTup [x, y] S = .ok (.tup [x, y]) S := nr rfl
theorem y_tup3 (x y z : D) : kTup [x, y, z] S = .ok (.tup [x, y, z]) S := nr rfl
theorem y_tup4 (x y z w : D) : kTup [x, y, z, w] S = .ok (.tup [x, y, z, w]) S := nr rfl
theorem y_tup5 (x y z w v : D) : kTup [x, y, z, w, v] S = .ok (.tup [x, y, z, w, v]) S := nr rfl
def kLst (mu : Bool) (xs : List D) (S : Store) : R D := if xs.length ≤ big then mkL mu xs S else .bad
theorem e_lst (mu : Bool) : ev cl (.lst mu es) τ S = (evs cl es τ S).bind (kLst mu) := nr rfl
theorem y_lst (mu : Bool) (xs : List D) (h : xs.length ≤ 1000) : kLst mu xs S = mkL mu xs S := if_pos (Nat.le_trans h (by decide))
def kIdx (x y : D) (S : Store) : R D := getIx x y S
def kIdx1 (b : CE) (τ : Slots) (x : D) (S : Store) : R D := (ev cl b τ S).bind (kIdx x)
theorem e_idx : ev cl (.idx a b) τ S = (ev cl a τ S).bind (kIdx1 cl b τ) := nr rfl
theorem y_idx1 (x : D) : kIdx1 cl b τ x S = (ev cl b τ S).bind (kIdx x) := nr rfl
theorem y_idx (x y : D) : kIdx x y S = getIx x y S := nr rfl
def kSl3 (x : D) (l h : Option Int) (S : Store) : R D := getSl x l h S
def kSl2 (hi : Option CE) (τ : Slots) (x : D) (l : Option Int) (S : Store) : R D := (evO cl hi τ S).bind (kSl3 x l)
def kSl1 (lo hi : Option CE) (τ : Slots) (x : D) (S : Store) : R D := (evO cl lo τ S).bind (kSl2 cl hi τ x)
theorem e_sl (lo hi : Option CE) : ev cl (.sl a lo hi) τ S = (ev cl a τ S).bind (kSl1 cl lo hi τ) := nr rfl
theorem y_sl1 (lo hi : Option CE) (x : D) : kSl1 cl lo hi τ x S = (evO cl lo τ S).bind (kSl2 cl hi τ x) := nr rfl
theorem y_sl2 (hi : Option CE) (x : D) (l : Option Int) : kSl2 cl hi τ x l S = (evO cl hi τ S).bind (kSl3 x l) := nr rfl
theorem y_sl3 (x : D) (l h : Option Int) : kSl3 x l h S = getSl x l h S := nr rfl
theorem e_call (f : Nat) : ev cl (.call f es) τ S = (evs cl es τ S).bind (cl f) := nr rfl
def kBi (f : BI) (xs : List D) (S : Store) : R D := callB f xs S
theorem e_bi (f : BI) : ev cl (.bi f es) τ S = (evs cl es τ S).bind (kBi f) := nr rfl
theorem y_bi (f : BI) (xs : List D) : kBi f xs S = callB f xs S := nr rfl
def kIsi (t : Ty) (x : D) (S : Store) : R D := (okO (isTy t x S) S).bind fun b S => .ok (.bl b) S
theorem e_isi (t : Ty) : ev cl (.isi a t) τ S = (ev cl a τ S).bind (kIsi t) := nr rfl
theorem y_isi (t : Ty) (x : D) {g : Bool} (h : isTy t x S = some g) : kIsi t x S = .ok (.bl g) S := by unfold kIsi; rw [h]; rfl
theorem y_isiI (i : Int) : kIsi .int (.int i) S = .ok (.bl true) S := nr rfl
theorem y_isiB (i : Int) : kIsi .bool (.int i) S = .ok (.bl false) S := nr rfl
theorem y_isiB2 (g : Bool) : kIsi .bool (.bl g) S = .ok (.bl true) S := nr rfl
theorem y_isiI2 (g : Bool) : kIsi .int (.bl g) S = .ok (.bl true) S := nr rfl
theorem y_isiT (xs : List D) : kIsi .tup (.tup xs) S = .ok (.bl true) S := nr rfl
theorem y_isiS (x : PySem.Str) : kIsi .str (.str x) S = .ok (.bl true) S := nr rfl
theorem y_isiL (xs : List D) : kIsi .list (.lst xs) S = .ok (.bl true) S := nr rfl
def lenSet (x : D) (S : Store) : R D := match (seqOf S x).bind allI with
      | some ns => okIf (decide (ns.length < 4000)) (.int (unlike ns).length) S
      | none => .bad
theorem e_lenset : ev cl (.lenset a) τ S = (ev cl a τ S).bind lenSet := nr rfl
def kMeth2 (m : MI) (x : D) (xs : List D) (S : Store) : R D := methB m x xs S
def kMeth (m : MI) (es : List CE) (τ : Slots) (x : D) (S : Store) : R D := if (lstOf S x).isSome then (evs cl es τ S).bind (kMeth2 m x) else .bad
theorem e_meth (m : MI) : ev cl (.meth m a es) τ S = (ev cl a τ S).bind (kMeth cl m es τ) := nr rfl
theorem y_meth (m : MI) (n : Nat) {xs : List D} (h : S[n]? = some (.list xs)) : kMeth cl m es τ (.loc n) S = (evs cl es τ S).bind (kMeth2 m (.loc n)) := by
  unfold kMeth
  rw [if_pos (by simp only [lstOf, h]; rfl)]
theorem y_meth2 (m : MI) (x : D) (xs : List D) : kMeth2 m x xs S = methB m x xs S := nr rfl
def kMk (mu : Bool) (ys : List D) (S : Store) : R D := mkL mu ys S
def kComp (mu : Bool) (own : List (PySem.Str × Nat)) (t : CT) (c : Option CE) (e : CE) (τ : Slots) (I : Items) (S : Store) : R D := (compB cl t c e (wipeS τ own) I S).bind (kMk mu)
theorem e_comp (mu : Bool) (own : List (PySem.Str × Nat)) (t : CT) (it : CIt) (c : Option CE) : ev cl (.comp mu own t it c a) τ S = (evIt cl it τ S).bind (kComp cl mu own t c a τ) := nr rfl
theorem y_comp (mu : Bool) (own : List (PySem.Str × Nat)) (t : CT) (c : Option CE) (I : Items) : kComp cl mu own t c a τ I S = (compB cl t c a (wipeS τ own) I S).bind (kMk mu) := nr rfl
theorem y_mk (xs : List D) : kMk false xs S = .ok (.lst xs) S := nr rfl
theorem y_mkT (xs : List D) : kMk true xs S = .ok (.loc S.length) (S ++ [.list xs]) := nr rfl
theorem m_f (xs : List D) : mkL false xs S = .ok (.lst xs) S := nr rfl
theorem m_t (xs : List D) : mkL true xs S = .ok (.loc S.length) (S ++ [.list xs]) := nr rfl
theorem e_o0 : evO cl none τ S = .ok none S := nr rfl
def asI (x : D) (S : Store) : R (Option Int) := match x with
      | .int i => .ok (some i) S
      | _ => .bad
theorem asI_int (i : Int) : asI (.int i) S = .ok (some i) S := nr rfl
theorem e_o1 : evO cl (some a) τ S = (ev cl a τ S).bind asI := nr rfl
def kTr (x : D) (S : Store) : R Bool := okO (truth x) S
theorem y_trB (g : Bool) : kTr (.bl g) S = .ok g S := nr rfl
theorem e_c0 : evC cl none τ S = .ok true S := nr rfl
theorem e_c1 : evC cl (some c) τ S = (ev cl c τ S).bind kTr := nr rfl
theorem e_nil : evs cl [] τ S = .ok [] S := nr rfl
def kCon (x : D) (xs : List D) (S : Store) : R (List D) := .ok (x :: xs) S
def kEs (es : List CE) (τ : Slots) (x : D) (S : Store) : R (List D) := (evs cl es τ S).bind (kCon x)
theorem e_cons : evs cl (a :: es) τ S = (ev cl a τ S).bind (kEs cl es τ) := nr rfl
theorem y_es (x : D) : kEs cl es τ x S = (evs cl es τ S).bind (kCon x) := nr rfl
theorem y_con (x : D) (xs : List D) : kCon x xs S = .ok (x :: xs) S := nr rfl
def kVal (x : D) (S : Store) : R Items := okO (itemsOf S x) S
theorem e_dict0 : ev cl .dict0 τ S = .ok (.loc S.length) (S ++ [.dict []]) := nr rfl
theorem e_dict0i : ev cl .dict0i τ S = .ok (.loc S.length) (S ++ [.dcti []]) := nr rfl
def kSset (x : D) (S : Store) : R D := ssetR x S
theorem e_sset : ev cl (.sset a) τ S = (ev cl a τ S).bind kSset := nr rfl
theorem y_sset (ns : List Int) : kSset (.lst (ns.map .int)) S = okIf (decide (ns.length < 4000)) (.lst ((isort (unlike ns)).map .int)) S := by
  have e : ∀ ns : List Int, allI (ns.map .int) = some ns := fun ns => by
    induction ns with
    | nil => rfl
    | cons n r ih => simp [allI, ih]
  show ssetR _ _ = _
  simp only [ssetR, lstOf, Option.bind_some, e]
def kTrng (tu : Bool) (x y : D) (S : Store) : R D := trngR tu x y S
def kTrng1 (tu : Bool) (b : CE) (τ : Slots) (x : D) (S : Store) : R D := (ev cl b τ S).bind (kTrng tu x)
theorem e_rev : ev cl (.rev a) τ S = (ev cl a τ S).bind revR := nr rfl
theorem y_rev (xs : List D) : revR (.tup xs) S = .ok (.tup xs.reverse) S := nr rfl
theorem e_mkE (c : Nat) : ev cl (.mkE c a) τ S = (ev cl a τ S).bind (mkER c) := nr rfl
theorem y_mkE (c : Nat) (x : D) : mkER c x S = .ok (.loc S.length) (S ++ [.ins c []]) := nr rfl
theorem e_isE (cs : List Nat) (o : Option Nat) : ev cl (.isE a cs o) τ S = (ev cl a τ S).bind (isER cs) := nr rfl
theorem y_isE (cs : List Nat) {n c : Nat} {fs : List (PySem.Str × D)} (h : S[n]? = some (.ins c fs)) : isER cs (.loc n) S = .ok (.bl (cs.contains c)) S := by
  simp only [isER, h]
theorem e_fld (f : PySem.Str) : ev cl (.fld a f) τ S = (ev cl a τ S).bind (fldR f) := nr rfl
theorem y_fld (f : PySem.Str) {n c : Nat} {fs : List (PySem.Str × D)} (h : S[n]? = some (.ins c fs)) : fldR f (.loc n) S = okO (fs.lookup f) S := by
  simp only [fldR, h]
theorem e_upper : ev cl (.upper a) τ S = (ev cl a τ S).bind upR := nr rfl
theorem e_trng1 (tu : Bool) : ev cl (.trng tu none b) τ S = (ev cl b τ S).bind (kTrng tu (.int 0)) := nr rfl
theorem e_trng2 (tu : Bool) : ev cl (.trng tu (some a) b) τ S = (ev cl a τ S).bind (kTrng1 cl tu b τ) := nr rfl
theorem y_trng1 (tu : Bool) (x : D) : kTrng1 cl tu b τ x S = (ev cl b τ S).bind (kTrng tu x) := nr rfl
theorem y_trng2 (tu : Bool) (i j : Int) : kTrng tu (.int i) (.int j) S = okIf (smallR i j && decide (j - i ≤ (big : Nat))) (if tu then .tup (rangeD i j) else .lst (rangeD i j)) S := nr rfl
theorem i_val : evIt cl (.val a) τ S = (ev cl a τ S).bind kVal := nr rfl
theorem y_valT (xs : List D) : kVal (.tup xs) S = .ok { xs := xs } S := nr rfl
theorem y_valL (xs : List D) : kVal (.lst xs) S = .ok { xs := xs } S := nr rfl
def rngR (x y : D) (S : Store) : R Items := match x, y with
      | .int i, .int j => okIf (smallR i j && decide (j - i ≤ big)) { xs := rangeD i j } S
      | _, _ => .bad
def kRng (b : CE) (τ : Slots) (x : D) (S : Store) : R Items := (ev cl b τ S).bind (rngR x)
theorem i_rng2 : evIt cl (.rng2 a b) τ S = (ev cl a τ S).bind (kRng cl b τ) := nr rfl
theorem y_rng (x : D) : kRng cl b τ x S = (ev cl b τ S).bind (rngR x) := nr rfl
def rngS (x : D) (S : Store) : R Items := match x with
      | .int j => okIf (smallR 0 j && decide (j ≤ big)) { xs := rangeD 0 j } S
      | _ => .bad
theorem i_rng1 : evIt cl (.rng1 a) τ S = (ev cl a τ S).bind rngS := nr rfl
def enuT (x : D) (S : Store) : R Items := match x with
      | .tup xs => .ok { xs := enumD 0 xs } S
      | _ => .bad
theorem enuT_tup (xs : List D) : enuT (.tup xs) S = .ok { xs := enumD 0 xs } S := nr rfl
theorem i_enuT : evIt cl (.enum true a) τ S = (ev cl a τ S).bind enuT := nr rfl
def zipR (x y : D) (S : Store) : R Items := match x, y with
      | .tup xs, .tup ys => .ok { xs := zipD xs ys } S
      | .lst xs, .lst ys => .ok { xs := zipD xs ys } S
      | _, _ => .bad
def kZip (b : CE) (τ : Slots) (x : D) (S : Store) : R Items := (ev cl b τ S).bind (zipR x)
theorem i_zip : evIt cl (.zip a b) τ S = (ev cl a τ S).bind (kZip cl b τ) := nr rfl
theorem y_zip (x : D) : kZip cl b τ x S = (ev cl b τ S).bind (zipR x) := nr rfl
theorem z_bind {α β : Type} (a : α) (f : α → Store → R β) : (R.ok a S).bind f = f a S := nr rfl
theorem z_bindS {α : Type} (a : α) (f : α → Store → RS) : (R.ok a S).bindS τ f = f a S := nr rfl
theorem z_o {α : Type} (a : α) : okO (some a) S = .ok a S := nr rfl
theorem z_if {α : Type} (a : α) : okIf true a S = .ok a S := nr rfl
theorem z_no {α : Type} (a : α) : noR (R.ok a S) = .ok a S := nr rfl
variable (s : CS) (r p q : List CS) (i : Nat)
def kSet (i : Nat) (τ : Slots) (x : D) (S : Store) : RS := .nx (τ.set i (some x)) S
theorem t_set : evS cl (.set i a) τ S = (ev cl a τ S).bindS τ (kSet i τ) := nr rfl
theorem y_set (x : D) : kSet i τ x S = .nx (τ.set i (some x)) S := nr rfl
def setA (is : List Nat) (τ : Slots) (xs : List D) (S : Store) : RS := match setAll is xs τ with
      | some τ => .nx τ S
      | none => .bad
theorem setA_nil : setA [] τ [] S = .nx τ S := nr rfl
theorem setA_cons (is : List Nat) (d : D) (ds : List D) : setA (i :: is) τ (d :: ds) S = setA is (τ.set i (some d)) ds S := nr rfl
theorem t_par (is : List Nat) : evS cl (.par is es) τ S = (evs cl es τ S).bindS τ (setA is τ) := nr rfl
def tgtA (t : CT) (τ : Slots) (x : D) (S : Store) : RS := match bindT t x τ with
      | some τ => .nx τ S
      | none => .bad
theorem tgtA_name (x : D) : tgtA (.name i) τ x S = .nx (τ.set i (some x)) S := nr rfl
theorem tgtA_pair (j : Nat) (x y : D) : tgtA (.tup [.name i, .name j]) τ (.tup [x, y]) S = .nx ((τ.set i (some x)).set j (some y)) S := nr rfl
theorem tgtA_three (j k : Nat) (x y z : D) : tgtA (.tup [.name i, .name j, .name k]) τ (.tup [x, y, z]) S = .nx (((τ.set i (some x)).set j (some y)).set k (some z)) S := nr rfl
theorem t_tgt (t : CT) : evS cl (.tgt t a) τ S = (ev cl a τ S).bindS τ (tgtA t τ) := nr rfl
def putA (x v : D) (τ : Slots) (y : D) (S : Store) : RS := match setIt x y v S with
      | some S => .nx τ S
      | none => .bad
def kPut2 (b : CE) (v : D) (τ : Slots) (x : D) (S : Store) : RS := (ev cl b τ S).bindS τ (putA x v τ)
def kPut1 (a b : CE) (τ : Slots) (v : D) (S : Store) : RS := (ev cl a τ S).bindS τ (kPut2 cl b v τ)
theorem t_setI : evS cl (.setI a b c) τ S = (ev cl c τ S).bindS τ (kPut1 cl a b τ) := nr rfl
theorem y_put1 (v : D) : kPut1 cl a b τ v S = (ev cl a τ S).bindS τ (kPut2 cl b v τ) := nr rfl
theorem y_put2 (v x : D) : kPut2 cl b v τ x S = (ev cl b τ S).bindS τ (putA x v τ) := nr rfl
def kRet (x : D) (S : Store) : RS := .rt x S
theorem t_ret : evS cl (.ret a) τ S = (ev cl a τ S).bindS τ kRet := nr rfl
theorem y_ret (x : D) : kRet x S = .rt x S := nr rfl
theorem t_retN : evS cl .retN τ S = .rt .non S := nr rfl
def kIfs (p q : List CS) (τ : Slots) (x : D) (S : Store) : RS := iteB (truth x) (evB cl p τ S) (evB cl q τ S) .bad
theorem t_ifs : evS cl (.ifs c p q) τ S = (ev cl c τ S).bindS τ (kIfs cl p q τ) := nr rfl
theorem y_ifs (g : Bool) : kIfs cl p q τ (.bl g) S = bif g then evB cl p τ S else evB cl q τ S := by cases g <;> rfl
theorem t_wh : evS cl (.wh c p) τ S = whB cl c p τ S := nr rfl
theorem t_fors (t : CT) (it : CIt) : evS cl (.fors t it p) τ S = (evIt cl it τ S).bindS τ (forB cl t p τ) := nr rfl
def kEx (τ : Slots) (x : D) (S : Store) : RS := .nx τ S
theorem t_raise (c : Nat) (w : PySem.Str) : evS cl (.raise c w) τ S = .ex c [] τ S := nr rfl
theorem t_tryR (hs : List Hd) : evS cl (.tryR p hs) τ S = catchR hs (evB cl p τ S) := nr rfl
theorem ct_nx (hs : List Hd) : catchR hs (.nx τ S) = .nx τ S := nr rfl
theorem ct_rt (hs : List Hd) (d : D) : catchR hs (.rt d S) = .rt d S := nr rfl
def kPick (c : Nat) (pl : List (PySem.Str × D)) (τ : Slots) (S : Store) (o : Option D) : RS := match o with
  | some d => .rt d S
  | none => .ex c pl τ S
theorem ct_ex (hs : List Hd) (c : Nat) (pl : List (PySem.Str × D)) : catchR hs (.ex c pl τ S) = kPick c pl τ S (pick hs c) := nr rfl
theorem pik_nil (c : Nat) : pick [] c = none := nr rfl
theorem pik_cons (h : Hd) (hs : List Hd) (c : Nat) : pick (h :: hs) c = if h.cs.contains c then some h.v else pick hs c := nr rfl
theorem q_ex (c : Nat) (pl : List (PySem.Str × D)) : seqB cl r (.ex c pl τ S) = .ex c pl τ S := nr rfl
theorem t_lamS (pp : LP) (ti f : Nat) (hs : List Hd) (d : D) (e : CE) : evS cl (.lamS pp ti f hs d e) τ S = lamP cl pp (lamC cl ti hs d (ev (low cl) e)) τ S := nr rfl
theorem n_ex (c : Nat) (pl : List (PySem.Str × D)) : endB (.ex c pl τ S) = .ex c pl S := nr rfl
theorem z_exB {α β : Type} (c : Nat) (pl : List (PySem.Str × D)) (f : α → Store → R β) : (R.ex c pl S).bind f = .ex c pl S := nr rfl
theorem z_exS {α : Type} (c : Nat) (pl : List (PySem.Str × D)) (f : α → Store → RS) : (R.ex c pl S).bindS τ f = .ex c pl τ S := nr rfl
theorem t_ex : evS cl (.ex a) τ S = (ev cl a τ S).bindS τ (kEx τ) := nr rfl
theorem y_ex (x : D) : kEx τ x S = .nx τ S := nr rfl
theorem t_brk : evS cl .brk τ S = .bk τ S := nr rfl
theorem t_cnt : evS cl .cnt τ S = .ct τ S := nr rfl
theorem t_pass : evS cl .pass τ S = .nx τ S := nr rfl
theorem t_nil : evB cl [] τ S = .nx τ S := nr rfl
theorem t_cons : evB cl (s :: r) τ S = seqB cl r (evS cl s τ S) := nr rfl
theorem q_nx : seqB cl r (.nx τ S) = evB cl r τ S := nr rfl
theorem q_rt (d : D) : seqB cl r (.rt d S) = .rt d S := nr rfl
theorem q_bk : seqB cl r (.bk τ S) = .bk τ S := nr rfl
theorem q_ct : seqB cl r (.ct τ S) = .ct τ S := nr rfl
theorem q_if (g : Bool) (p q : RS) : seqB cl r (bif g then p else q) = bif g then seqB cl r p else seqB cl r q := by cases g <;> rfl
theorem n_if (g : Bool) (p q : RS) : endB (bif g then p else q) = bif g then endB p else endB q := by cases g <;> rfl
theorem n_rt (d : D) : endB (.rt d S) = .ok d S := nr rfl
theorem n_nx : endB (.nx τ S) = .ok .non S := nr rfl
theorem g_ok {α : Type} (g : Bool) (x y : α) : (bif g then R.ok x S else .ok y S) = .ok (bif g then x else y) S := by cases g <;> rfl
theorem g_bl (g x y : Bool) : (bif g then D.bl x else .bl y) = .bl (bif g then x else y) := by cases g <;> rfl
theorem g_int (g : Bool) (x y : Int) : (bif g then D.int x else .int y) = .int (bif g then x else y) := by cases g <;> rfl
theorem g_bind {α β : Type} (g : Bool) (x y : R α) (f : α → Store → R β) : (bif g then x else y).bind f = bif g then x.bind f else y.bind f := by cases g <;> rfl
theorem g_bindS {α : Type} (g : Bool) (x y : R α) (f : α → Store → RS) : (bif g then x else y).bindS τ f = bif g then x.bindS τ f else y.bindS τ f := by cases g <;> rfl
end
/-! ### operations, one by one -/
section
variable (i j : Int) (S : Store) (a b : PySem.Str) (p q : Bool) (xs ys : List D)
theorem b_add : binop .add (.int i) (.int j) S = .ok (.int (i + j)) S := nr rfl
theorem b_sub : binop .sub (.int i) (.int j) S = .ok (.int (i - j)) S := nr rfl
theorem b_mul : binop .mul (.int i) (.int j) S = okIf (mulOk i j) (.int (i * j)) S := nr rfl
theorem b_div : binop .fdiv (.int i) (.int j) S = okIf (divOk j) (.int (i / j)) S := nr rfl
theorem b_mod : binop .mod (.int i) (.int j) S = okIf (decide (0 < j)) (.int (i % j)) S := nr rfl
theorem b_pow : binop .pow (.int i) (.int j) S = okIf (decide (0 ≤ j) && decide (j ≤ 1000000) && decide (i.natAbs < 2 ^ 64)) (.int (i ^ j.toNat)) S := nr rfl
theorem b_cat : binop .add (.str a) (.str b) S = okIf (decide (a.length + b.length ≤ big)) (.str (a ++ b)) S := nr rfl
theorem b_catT : binop .add (.tup xs) (.tup ys) S = okIf (decide (xs.length + ys.length ≤ big)) (.tup (xs ++ ys)) S := nr rfl
theorem b_catL : binop .add (.lst xs) (.lst ys) S = okIf (decide (xs.length + ys.length ≤ big)) (.lst (xs ++ ys)) S := nr rfl
theorem c_lt : cmpop .lt (.int i) (.int j) S = .ok (.bl (decide (i < j))) S := nr rfl
theorem c_le : cmpop .le (.int i) (.int j) S = .ok (.bl (decide (i ≤ j))) S := nr rfl
theorem c_gt : cmpop .gt (.int i) (.int j) S = .ok (.bl (decide (j < i))) S := nr rfl
theorem c_ge : cmpop .ge (.int i) (.int j) S = .ok (.bl (decide (j ≤ i))) S := nr rfl
theorem c_eqI : cmpop .eq (.int i) (.int j) S = .ok (.bl (i == j)) S := nr rfl
theorem c_neI : cmpop .ne (.int i) (.int j) S = .ok (.bl (!(i == j))) S := nr rfl
theorem c_eqS : cmpop .eq (.str a) (.str b) S = .ok (.bl (a == b)) S := nr rfl
theorem c_neS : cmpop .ne (.str a) (.str b) S = .ok (.bl (!(a == b))) S := nr rfl
theorem c_eqB : cmpop .eq (.bl p) (.bl q) S = .ok (.bl (p == q)) S := nr rfl
theorem c_neB : cmpop .ne (.bl p) (.bl q) S = .ok (.bl (!(p == q))) S := nr rfl
theorem c_isN (d : D) : cmpop .isN d .non S = .ok (.bl (d.same .non)) S := nr rfl
theorem c_notN (d : D) : cmpop .notN d .non S = .ok (.bl (!d.same .non)) S := nr rfl
theorem flat_ints (n : Nat) (ns : List Int) : D.flatL n (ns.map .int) = true := by induction ns with
  | nil => rfl
  | cons m r ih => simp [D.flatL, D.flat, ih]
theorem any_ints (ns : List Int) : ((ns.map D.int).any fun z => D.eqv z (.int i)) = decide (i ∈ ns) := by
  induction ns with
  | nil => rfl
  | cons m r ih =>
    simp only [List.map_cons, List.any_cons, ih, D.eqv, List.mem_cons]
    by_cases h : m = i
    · simp [h]
    · simp [h, Ne.symm h]
theorem c_memL (ns : List Int) : cmpop .mem (.int i) (.lst (ns.map .int)) S = .ok (.bl (decide (i ∈ ns))) S := by
  simp only [cmpop, seqOf, flat_ints, any_ints]; rfl
theorem c_nmemL (ns : List Int) : cmpop .nmem (.int i) (.lst (ns.map .int)) S = .ok (.bl (!decide (i ∈ ns))) S := by
  simp only [cmpop, seqOf, flat_ints, any_ints]; rfl
theorem c_memT (ns : List Int) : cmpop .mem (.int i) (.tup (ns.map .int)) S = .ok (.bl (decide (i ∈ ns))) S := by
  simp only [cmpop, seqOf, flat_ints, any_ints]; rfl
theorem c_nmemT (ns : List Int) : cmpop .nmem (.int i) (.tup (ns.map .int)) S = .ok (.bl (!decide (i ∈ ns))) S := by
  simp only [cmpop, seqOf, flat_ints, any_ints]; rfl
theorem k_lenT : callB .len [.tup xs] S = .ok (.int xs.length) S := nr rfl
theorem k_lenL : callB .len [.lst xs] S = .ok (.int xs.length) S := nr rfl
theorem k_lenR : callB .len [.scr xs] S = .ok (.int xs.length) S := nr rfl
theorem k_lenS : callB .len [.str a] S = .ok (.int a.length) S := nr rfl
theorem k_intI : callB .int [.int i] S = .ok (.int i) S := nr rfl
theorem k_intB : callB .int [.bl p] S = .ok (.int (b2 p)) S := nr rfl
theorem k_abs : callB .abs [.int i] S = .ok (.int (if i < 0 then -i else i)) S := nr rfl
theorem k_tupL : callB .tuple [.lst xs] S = .ok (.tup xs) S := nr rfl
theorem k_tupT : callB .tuple [.tup xs] S = .ok (.tup xs) S := nr rfl
theorem k_max2 : callB .max2 [.int i, .int j] S = .ok (.int (if j > i then j else i)) S := nr rfl
theorem k_min2 : callB .min2 [.int i, .int j] S = .ok (.int (if j < i then j else i)) S := nr rfl
theorem k_divmod : callB .divmod [.int i, .int j] S = okIf (decide (0 < j) && decide (j < 1073741824)) (.tup [.int (i / j), .int (i % j)]) S := nr rfl
theorem allI_ints (ns : List Int) : allI (ns.map .int) = some ns := by induction ns with
  | nil => rfl
  | cons m r ih => simp [allI, ih]
theorem allB_bls (ns : List Bool) : allB (ns.map .bl) = some ns := by induction ns with
  | nil => rfl
  | cons m r ih => simp [allB, ih]
theorem k_all (bs : List Bool) : callB .all [.lst (bs.map .bl)] S = .ok (.bl (bs.all id)) S := by
  simp only [callB, lstOf, Option.bind_some, allB_bls]
theorem k_sorted (ns : List Int) : callB .sorted [.lst (ns.map .int)] S = .ok (.lst ((isort ns).map .int)) S := by
  simp only [callB, lstOf, Option.bind_some, allI_ints]
theorem k_sum (ns : List Int) : callB .sum [.lst (ns.map .int)] S = .ok (.int ns.sum) S := by
  simp only [callB, lstOf, Option.bind_some, allI_ints]
theorem mulOk_r (h1 : -(2 ^ 64) < j) (h2 : j < 2 ^ 64) : mulOk i j = true := by
  simp only [mulOk, Bool.or_eq_true, Bool.and_eq_true, decide_eq_true_eq]
  exact .inl (.inr ⟨h1, h2⟩)
theorem mulOk_l (h1 : -(2 ^ 64) < i) (h2 : i < 2 ^ 64) : mulOk i j = true := by
  simp only [mulOk, Bool.or_eq_true, Bool.and_eq_true, decide_eq_true_eq]
  exact .inl (.inl ⟨h1, h2⟩)
theorem divOk_small (h1 : 0 < j) (h2 : j < 2 ^ 62) : divOk j = true := by
  have h : j.natAbs < 2 ^ 62 := by omega
  have h3 : j.natAbs.log2 < 62 := (Nat.log2_lt (by omega)).mpr h
  simp only [divOk, Bool.and_eq_true, decide_eq_true_eq]
  exact ⟨h1, by omega⟩
theorem ix_at {n : Nat} {k : Nat} (h : k < n) : Ev.ix n (k : Int) = some k := by
  unfold Ev.ix L2.ixN
  rw [if_pos (by omega), if_pos (by omega)]; simp
theorem ix_0 (n : Nat) : Ev.ix (n + 1) 0 = some 0 := ix_at (k := 0) (by omega)
theorem ix_1 (n : Nat) : Ev.ix (n + 2) 1 = some 1 := ix_at (k := 1) (by omega)
theorem ix_2 (n : Nat) : Ev.ix (n + 3) 2 = some 2 := ix_at (k := 2) (by omega)
theorem sl_to (xs : List D) (k : Nat) : getSl (.tup xs) none (some (k : Int)) S = .ok (.tup (xs.take k)) S := by
  have e : cut xs none (some (k : Int)) = xs.take k := by
    unfold cut
    rw [HT.sIx_none, HT.sIx_nat]
    simp only [List.drop_zero, Nat.sub_zero]
    by_cases h : k ≤ xs.length
    · rw [Nat.min_eq_left h]
    · rw [Nat.min_eq_right (by omega), List.take_of_length_le (Nat.le_refl _), List.take_of_length_le (by omega)]
  show R.ok (D.tup (cut xs none (some (k : Int)))) S = _
  rw [e]
end
/-! ### loops by their items -/
theorem comp_run {X : Type} {I : Items} {bt : D → Slots → Option Slots} {c : Slots → Store → R Bool} {e : Slots → Store → R D} (enc : X → D) (p : X → Bool) (f : X → D) (τ : Slots) (S : Store) (hI : I.gd = none)
    : ∀ (l : List X), (∀ x ∈ l, ∃ τ1, bt (enc x) τ = some τ1 ∧ c τ1 S = .ok (p x) S ∧ (p x = true → e τ1 S = .ok (f x) S)) → compL I bt c e (l.map enc) τ S = .ok ((l.filter p).map f) S := by
  intro l
  have st : I.still S = true := by simp [Items.still, hI]
  induction l with
  | nil => intro _; simp [compL, st]
  | cons x l ih =>
    intro h
    obtain ⟨τ1, h1, h2, h3⟩ := h x List.mem_cons_self
    have h4 := ih fun y hy => h y (List.mem_cons_of_mem _ hy)
    simp only [List.map_cons, compL, st, if_true, h1, h2, R.bind_ok]
    cases hp : p x with
    | false => simp [hp, h4]
    | true => simp [hp, h3 hp, h4]
theorem for_run {A X : Type} {I : Items} {bt : D → Slots → Option Slots} {b : Slots → Store → RS} (enc : X → D) (Inv : A → Slots → Store → Prop) (step : A → X → A) (hI : I.gd = none) :
    ∀ (l : List X), (∀ x ∈ l, ∀ a τ S, Inv a τ S → ∃ τ1, bt (enc x) τ = some τ1 ∧ ∃ τ2 S2, (b τ1 S = .nx τ2 S2 ∨ b τ1 S = .ct τ2 S2) ∧ Inv (step a x) τ2 S2) → ∀ a τ S, Inv a τ S →
      ∃ τ' S', forL I bt b (l.map enc) τ S = .nx τ' S' ∧ Inv (l.foldl step a) τ' S' := by
  intro l
  have st : ∀ S, I.still S = true := by simp [Items.still, hI]
  induction l with
  | nil => intro _ a τ S h; exact ⟨τ, S, by simp [forL, st], h⟩
  | cons x l ih =>
    intro h a τ S hi
    obtain ⟨τ1, h1, τ2, S2, h2, h3⟩ := h x List.mem_cons_self a τ S hi
    obtain ⟨τ', S', h4, h5⟩ := ih (fun y hy => h y (List.mem_cons_of_mem _ hy)) (step a x) τ2 S2 h3
    refine ⟨τ', S', ?_, h5⟩
    simp only [List.map_cons, forL, st, if_true, h1]
    rcases h2 with h2 | h2 <;> rw [h2] <;> exact h4
/-- a loop that may return -/
def goR {A X : Type} (step : A → X → Sum A D) : List X → A → Sum A D
  | [], a => .inl a
  | x :: l, a => match step a x with
    | .inl a' => goR step l a'
    | .inr d => .inr d
theorem for_ret {A X : Type} {I : Items} {bt : D → Slots → Option Slots} {b : Slots → Store → RS} (enc : X → D) (Inv : A → Slots → Store → Prop) (step : A → X → Sum A D) (hI : I.gd = none) (S : Store) :
    ∀ (l : List X), (∀ x ∈ l, ∀ a τ, Inv a τ S → ∃ τ1, bt (enc x) τ = some τ1 ∧ (∀ a', step a x = .inl a' → ∃ τ2, (b τ1 S = .nx τ2 S ∨ b τ1 S = .ct τ2 S) ∧ Inv a' τ2 S) ∧ (∀ d, step a x = .inr d → b τ1 S = .rt d S)) → ∀ a τ, Inv a τ S →
      (∀ a', goR step l a = .inl a' → ∃ τ', forL I bt b (l.map enc) τ S = .nx τ' S ∧ Inv a' τ' S) ∧ (∀ d, goR step l a = .inr d → forL I bt b (l.map enc) τ S = .rt d S) := by
  intro l
  have st : ∀ S, I.still S = true := by simp [Items.still, hI]
  induction l with
  | nil =>
    intro _ a τ h
    refine ⟨fun a' e => ?_, fun d e => by simp [goR] at e⟩
    simp only [goR, Sum.inl.injEq] at e
    subst e
    exact ⟨τ, by simp [forL, st], h⟩
  | cons x l ih =>
    intro h a τ hi
    obtain ⟨τ1, h1, h2, h3⟩ := h x List.mem_cons_self a τ hi
    simp only [List.map_cons, forL, st, if_true, h1, goR]
    cases hs : step a x with
    | inl a' =>
      obtain ⟨τ2, h4, h5⟩ := h2 a' hs
      have := ih (fun y hy => h y (List.mem_cons_of_mem _ hy)) a' τ2 h5
      rcases h4 with h4 | h4 <;> rw [h4] <;> exact this
    | inr d =>
      rw [h3 d hs]
      exact ⟨fun a' e => by simp at e, fun d' e => by simp at e; rw [e]⟩
/-- a while by its turns -/
theorem wh_run {A : Type} {c : Slots → Store → R D} {b : Slots → Store → RS} (Inv : A → Slots → Store → Prop) (cond : A → Bool) (next : A → A) (S : Store)
    (hc : ∀ a τ, Inv a τ S → c τ S = .ok (.bl (cond a)) S) (hb : ∀ a τ, Inv a τ S → cond a = true → ∃ τ2, b τ S = .nx τ2 S ∧ Inv (next a) τ2 S) :
    ∀ (n : Nat) (m : Nat) a τ, Inv a τ S → (∀ i, i < n → cond (Nat.repeat next i a) = true) → cond (Nat.repeat next n a) = false → n < m → ∃ τ', whL c b m τ S = .nx τ' S ∧ Inv (Nat.repeat next n a) τ' S := by
  have sh : ∀ n (a : A), Nat.repeat next (n + 1) a = Nat.repeat next n (next a) := by
    intro n
    induction n with
    | zero => intro a; rfl
    | succ n ih =>
      intro a
      show next (Nat.repeat next (n + 1) a) = next (Nat.repeat next n (next a))
      rw [ih]
  intro n
  induction n with
  | zero =>
    intro m a τ hi _ h0 hm
    obtain ⟨m, rfl⟩ : ∃ m', m = m' + 1 := ⟨m - 1, by omega⟩
    refine ⟨τ, ?_, hi⟩
    have h0 : cond a = false := h0
    simp [whL, hc a τ hi, h0, truth]
  | succ n ih =>
    intro m a τ hi h1 h0 hm
    obtain ⟨m, rfl⟩ : ∃ m', m = m' + 1 := ⟨m - 1, by omega⟩
    have ha : cond a = true := h1 0 (by omega)
    obtain ⟨τ2, hb2, hi2⟩ := hb a τ hi ha
    obtain ⟨τ', h2, h3⟩ := ih m (next a) τ2 hi2 (fun i hi => by rw [← sh]; exact h1 (i + 1) (by omega)) (by rw [← sh]; exact h0) (by omega)
    refine ⟨τ', ?_, by rw [sh]; exact h3⟩
    simp only [whL, hc a τ hi, ha, R.bindS_ok, truth, hb2]
    exact h2
/-! ### more of data -/
theorem k_allF {X : Type} (g : X → Bool) (l : List X) (S : Store) : callB .all [.lst (l.map fun x => .bl (g x))] S = .ok (.bl (l.all g)) S := by
  have e : (l.map fun x => D.bl (g x)) = (l.map g).map .bl := by simp
  rw [e, k_all, List.all_map]; rfl
theorem enumD_map {X : Type} (f : X → D) : ∀ (l : List X) (k : Nat), enumD k (l.map f) = (l.zipIdx k).map fun p => .tup [.int (p.2 : Nat), f p.1]
  | [], _ => rfl
  | x :: l, k => by simp [enumD, enumD_map f l (k + 1)]
theorem rangeD_map (j : Nat) : rangeD 0 (j : Int) = (List.range j).map fun i => .int (i : Nat) := by
  simp [rangeD]
theorem rngS_nat (j : Nat) (h : j ≤ big) (S : Store) : rngS (.int (j : Nat)) S = .ok { xs := (List.range j).map fun i => .int (i : Nat) } S := by
  have e : smallR 0 (j : Int) = true := by
    simp only [smallR, Bool.and_eq_true, decide_eq_true_eq]
    unfold big at h
    omega
  show okIf (smallR 0 (j : Int) && decide ((j : Int) ≤ (big : Nat))) ({ xs := rangeD 0 (j : Int) } : Items) S = _
  rw [e, rangeD_map, decide_eq_true (by omega : (j : Int) ≤ (big : Nat))]; rfl
/-- an int or None -/
def eO : Option Int → D
  | none => .non
  | some i => .int i
theorem c_eqOI (o : Option Int) (i : Int) (S : Store) : cmpop .eq (eO o) (.int i) S = .ok (.bl (o == some i)) S := by cases o <;> rfl
theorem c_neOI (o : Option Int) (i : Int) (S : Store) : cmpop .ne (eO o) (.int i) S = .ok (.bl (!(o == some i))) S := by cases o <;> rfl
theorem c_eqOO (o p : Option Int) (S : Store) : cmpop .eq (eO o) (eO p) S = .ok (.bl (o == p)) S := by cases o <;> cases p <;> rfl
theorem c_neOO (o p : Option Int) (S : Store) : cmpop .ne (eO o) (eO p) S = .ok (.bl (!(o == p))) S := by cases o <;> cases p <;> rfl
theorem same_eO (o : Option Int) : (eO o).same .non = o.isNone := by cases o <;> rfl
theorem eqv_ints : ∀ a b : List Int, D.eqvL (a.map .int) (b.map .int) = decide (a = b)
  | [], [] => rfl
  | [], _ :: _ => rfl
  | _ :: _, [] => rfl
  | x :: a, y :: b => by
    simp only [List.map_cons, D.eqvL, D.eqv, eqv_ints a b, List.cons.injEq]
    by_cases h : x = y <;> simp [h]
theorem flat_lint (n : Nat) (ns : List Int) : D.flat (n + 1) (.lst (ns.map .int)) = true := by simp [D.flat, flat_ints]
theorem flat_tint (n : Nat) (ns : List Int) : D.flat (n + 1) (.tup (ns.map .int)) = true := by simp [D.flat, flat_ints]
theorem c_eqLI (a b : List Int) (S : Store) : cmpop .eq (.lst (a.map .int)) (.lst (b.map .int)) S = .ok (.bl (decide (a = b))) S := by
  show okIf (D.flat (59 + 1) (.lst (a.map .int)) && D.flat (59 + 1) (.lst (b.map .int))) (D.bl (D.eqvL (a.map .int) (b.map .int))) S = _
  rw [flat_lint, flat_lint, eqv_ints]; rfl
theorem c_neLI (a b : List Int) (S : Store) : cmpop .ne (.lst (a.map .int)) (.lst (b.map .int)) S = .ok (.bl (!decide (a = b))) S := by
  show okIf (D.flat (59 + 1) (.lst (a.map .int)) && D.flat (59 + 1) (.lst (b.map .int))) (D.bl (!D.eqvL (a.map .int) (b.map .int))) S = _
  rw [flat_lint, flat_lint, eqv_ints]; rfl
theorem c_eqL0 (a : List Int) (S : Store) : cmpop .eq (.lst (a.map .int)) (.lst []) S = .ok (.bl (decide (a = []))) S := c_eqLI a [] S
theorem c_neL0 (a : List Int) (S : Store) : cmpop .ne (.lst (a.map .int)) (.lst []) S = .ok (.bl (!decide (a = []))) S := c_neLI a [] S
theorem c_neT2 (a b c d : Int) (S : Store) : cmpop .ne (.tup [.int a, .int b]) (.tup [.int c, .int d]) S = .ok (.bl (!(decide (a = c) && decide (b = d)))) S := by
  show okIf true (D.bl (!((a == c) && ((b == d) && true)))) S = _
  by_cases h1 : a = c <;> by_cases h2 : b = d <;> simp [h1, h2]
theorem tgtA_nest (i j k : Nat) (τ : Slots) (x y z : D) (S : Store) : tgtA (.tup [.name i, .tup [.name j, .name k]]) τ (.tup [x, .tup [y, z]]) S = .nx (((τ.set i (some x)).set j (some y)).set k (some z)) S := rfl
theorem lenSet_T (ns : List Int) (h : ns.length < 4000) (S : Store) : lenSet (.tup (ns.map .int)) S = .ok (.int (unlike ns).length) S := by
  show (match (some (ns.map D.int)).bind allI with
    | some ns => okIf (decide (ns.length < 4000)) (D.int (unlike ns).length) S
    | none => .bad) = _
  rw [Option.bind_some, allI_ints]
  show okIf (decide (ns.length < 4000)) _ S = _
  rw [decide_eq_true h]; rfl
theorem unlike_of : ∀ (ns acc : List Int), (acc ++ ns).Nodup → ns.foldl unl acc = acc ++ ns
  | [], acc, _ => by simp
  | n :: r, acc, h => by
    have hn : n ∉ acc := fun q => by
      rw [List.nodup_append] at h
      exact h.2.2 n q n List.mem_cons_self rfl
    have e : unl acc n = acc ++ [n] := by
      unfold unl
      rw [if_neg]
      simpa using hn
    rw [List.foldl_cons, e, unlike_of r (acc ++ [n]) (by simpa using h)]
    simp
theorem unlike_nd {ns : List Int} (h : ns.Nodup) : unlike ns = ns := by
  have q := unlike_of ns [] (by simpa using h)
  simpa [unlike] using q
/-! ### stores -/
theorem mulOk_mod {x m j : Int} (h1 : 0 < m) (h2 : m < 2 ^ 64) : mulOk (x % m) j = true := by
  have := Int.emod_nonneg x (show m ≠ 0 by omega)
  have := Int.emod_lt_of_pos x h1
  exact mulOk_l _ _ (by omega) (by omega)
theorem putA_at {S : Store} {p : Nat} {xs : List D} {k : Int} {j : Nat} (h : S[p]? = some (.list xs)) (hj : Ev.ix xs.length k = some j) (v : D) (τ : Slots) : putA (.loc p) v τ (.int k) S = .nx τ (S.set p (.list (xs.set j v))) := by
  simp only [putA, setIt, h, hj, Option.map_some]
theorem set_at {S : Store} {p : Nat} {o o' : MO} (h : S[p]? = some o) : (S.set p o')[p]? = some o' := List.getElem?_set_self (List.getElem?_eq_some_iff.mp h).1
theorem set_off {S : Store} {p q : Nat} {o' : MO} (h : q ≠ p) : (S.set p o')[q]? = S[q]? := List.getElem?_set_ne h.symm
theorem c_memLoc {S : Store} {q : Nat} {ns : List Int} (h : S[q]? = some (.list (ns.map .int))) (i : Int) : cmpop .mem (.int i) (.loc q) S = .ok (.bl (decide (i ∈ ns))) S := by
  simp only [cmpop, seqOf, h, flat_ints, any_ints]; rfl
theorem c_nmemLoc {S : Store} {q : Nat} {ns : List Int} (h : S[q]? = some (.list (ns.map .int))) (i : Int) : cmpop .nmem (.int i) (.loc q) S = .ok (.bl (!decide (i ∈ ns))) S := by
  simp only [cmpop, seqOf, h, flat_ints, any_ints]; rfl
theorem k_tupLoc {S : Store} {q : Nat} {xs : List D} (h : S[q]? = some (.list xs)) : callB .tuple [.loc q] S = .ok (.tup xs) S := by
  simp only [callB, lstOf, h]
theorem k_lenLoc {S : Store} {q : Nat} {xs : List D} (h : S[q]? = some (.list xs)) : callB .len [.loc q] S = .ok (.int xs.length) S := by
  simp only [callB, seqOf, h]
theorem m_append {S : Store} {q : Nat} {xs : List D} (h : S[q]? = some (.list xs)) (hl : xs.length < 1000000) (y : D) : methB .append (.loc q) [y] S = .ok .non (S.set q (.list (xs ++ [y]))) := by
  have e : xs.length < big := Nat.lt_trans hl (by decide)
  simp only [methB, h, decide_eq_true e]; rfl
theorem app_new (S : Store) (o : MO) : (S ++ [o])[S.length]? = some o := by simp
theorem app_old {S : Store} {p : Nat} {o : MO} (h : S[p]? = some o) (o' : MO) : (S ++ [o'])[p]? = some o := by
  rw [List.getElem?_append_left (List.getElem?_eq_some_iff.mp h).1]; exact h
theorem at_lt {S : Store} {p : Nat} {o : MO} (h : S[p]? = some o) : p < S.length := (List.getElem?_eq_some_iff.mp h).1
/-- two numbers stand at p -/
def Two2 (S : Store) (p : Nat) : Prop := ∃ a b : Int, S[p]? = some (.list [.int a, .int b])
/-! ### how often a test holds in a row -/
def stop (p : Nat → Bool) : Nat → Nat
  | 0 => 0
  | n + 1 => if p 0 then stop (fun i => p (i + 1)) n + 1 else 0
theorem stop_le (p : Nat → Bool) : ∀ n, stop p n ≤ n := by
  intro n
  induction n generalizing p with
  | zero => exact Nat.le_refl _
  | succ n ih =>
    unfold stop
    split
    · have := ih fun i => p (i + 1); omega
    · omega
theorem stop_lt (p : Nat → Bool) (n : Nat) : ∀ i, i < stop p n → p i = true := by
  induction n generalizing p with
  | zero => intro i h; simp [stop] at h
  | succ n ih =>
    intro i h
    unfold stop at h
    split at h
    · next hp =>
      cases i with
      | zero => exact hp
      | succ i => exact ih (fun i => p (i + 1)) i (by omega)
    · omega
theorem stop_at (p : Nat → Bool) (n : Nat) (h : stop p n < n) : p (stop p n) = false := by
  induction n generalizing p with
  | zero => omega
  | succ n ih =>
    unfold stop at h ⊢
    by_cases hp : p 0 = true
    · rw [if_pos hp] at h ⊢
      exact ih (fun i => p (i + 1)) (by omega)
    · rw [if_neg hp]
      simpa using hp
theorem nodup_sub : ∀ (l m : List Int), l.Nodup → (∀ x ∈ l, x ∈ m) → l.length ≤ m.length
  | [], m, _, _ => Nat.zero_le _
  | x :: l, m, hn, hs => by
    rw [List.nodup_cons] at hn
    have hx := hs x List.mem_cons_self
    have h := nodup_sub l (m.erase x) hn.2 fun y hy => (List.mem_erase_of_ne (fun (e : y = x) => hn.1 (by rw [← e]; exact hy))).mpr (hs y (List.mem_cons_of_mem _ hy))
    rw [List.length_erase_of_mem hx] at h
    have := List.length_pos_of_mem hx
    simp only [List.length_cons]
    omega
theorem inj_nodup (f : Nat → Int) (hf : ∀ i j, f i = f j → i = j) (n : Nat) : ((List.range n).map f).Nodup := by
  induction n with
  | zero => simp
  | succ n ih =>
    rw [List.range_succ, List.map_append, List.nodup_append]
    refine ⟨ih, by simp, fun a ha b hb e => ?_⟩
    obtain ⟨i, hi, rfl⟩ := List.mem_map.mp ha
    simp only [List.map_cons, List.map_nil, List.mem_singleton] at hb
    subst hb
    have := hf i n e
    simp at hi; omega
theorem stop_in (bs : List Int) (f : Nat → Int) (hf : ∀ i j, f i = f j → i = j) : stop (fun i => decide (f i ∈ bs)) (bs.length + 1) < bs.length + 1 := by
  refine Nat.lt_of_le_of_ne (stop_le _ _) fun e => ?_
  have h := stop_lt (fun i => decide (f i ∈ bs)) (bs.length + 1)
  rw [e] at h
  have q := nodup_sub ((List.range (bs.length + 1)).map f) bs (inj_nodup f hf _) fun x hx => by
    obtain ⟨i, hi, rfl⟩ := List.mem_map.mp hx
    simpa using h i (by simpa using hi)
  simp at q; omega
/-- how many stand in a row below, above -/
def dns (bs : List Int) (e : Int) : Nat := stop (fun i => decide (e - 1 - (i : Int) ∈ bs)) (bs.length + 1)
def ups (bs : List Int) (e : Int) : Nat := stop (fun i => decide (e + 1 + (i : Int) ∈ bs)) (bs.length + 1)
theorem dns_lt (bs : List Int) (e : Int) : dns bs e < bs.length + 1 := stop_in bs (fun i => e - 1 - (i : Int)) fun i j (h : e - 1 - (i : Int) = e - 1 - (j : Int)) => by omega
theorem ups_lt (bs : List Int) (e : Int) : ups bs e < bs.length + 1 := stop_in bs (fun i => e + 1 + (i : Int)) fun i j (h : e + 1 + (i : Int) = e + 1 + (j : Int)) => by omega
theorem dns_in {bs : List Int} {e : Int} {i : Nat} (h : i < dns bs e) : e - 1 - (i : Int) ∈ bs := by simpa using stop_lt _ _ i h
theorem ups_in {bs : List Int} {e : Int} {i : Nat} (h : i < ups bs e) : e + 1 + (i : Int) ∈ bs := by simpa using stop_lt _ _ i h
theorem dns_out (bs : List Int) (e : Int) : e - 1 - (dns bs e : Int) ∉ bs := by
  have h := stop_at _ _ (dns_lt bs e)
  exact of_decide_eq_false h
theorem ups_out (bs : List Int) (e : Int) : e + 1 + (ups bs e : Int) ∉ bs := by
  have h := stop_at _ _ (ups_lt bs e)
  exact of_decide_eq_false h
theorem dns_perm {a b : List Int} (h : a.Perm b) (e : Int) : dns a e = dns b e := by
  unfold dns
  rw [h.length_eq]
  congr 1
  funext i
  simp [h.mem_iff]
theorem ups_perm {a b : List Int} (h : a.Perm b) (e : Int) : ups a e = ups b e := by
  unfold ups
  rw [h.length_eq]
  congr 1
  funext i
  simp [h.mem_iff]
theorem rep_sub (n : Nat) (a : Int) : Nat.repeat (fun x : Int => x - 1) n a = a - n := by
  induction n with
  | zero => simp [Nat.repeat]
  | succ n ih => simp only [Nat.repeat, ih]; omega
theorem rep_add (n : Nat) (a : Int) : Nat.repeat (fun x : Int => x + 1) n a = a + n := by
  induction n with
  | zero => simp [Nat.repeat]
  | succ n ih => simp only [Nat.repeat, ih]; omega
theorem rep_pairS (n : Nat) (m a : Int) : Nat.repeat (fun x : Int × Int => (x.1 + 1, x.2 - 1)) n (m, a) = (m + n, a - n) := by
  induction n with
  | zero => simp [Nat.repeat]
  | succ n ih => simp only [Nat.repeat, ih]; ext <;> simp <;> omega
theorem rep_pairA (n : Nat) (m a : Int) : Nat.repeat (fun x : Int × Int => (x.1 + 1, x.2 + 1)) n (m, a) = (m + n, a + n) := by
  induction n with
  | zero => simp [Nat.repeat]
  | succ n ih => simp only [Nat.repeat, ih]; ext <;> simp <;> omega
/-! ### the loops that the steps leave: take them by «generalize hf : forB _ _ _ _ _ _ = z» -/
theorem forB_run {cl : Nat → List D → Store → R D} {t : CT} {b : List CS} {τ : Slots} {S : Store} {z : RS} {A X : Type} {l : List X} {enc : X → D} (hf : forB cl t b τ { xs := l.map enc } S = z)
    (Inv : A → Slots → Prop) (step : A → X → A) (a : A) (h : ∀ x ∈ l, ∀ a τ, Inv a τ → ∃ τ1, bindT t (enc x) τ = some τ1 ∧ ∃ τ2, (evB cl b τ1 S = .nx τ2 S ∨ evB cl b τ1 S = .ct τ2 S) ∧ Inv (step a x) τ2) (h0 : Inv a τ) :
    ∃ τ', z = .nx τ' S ∧ Inv (l.foldl step a) τ' := by
  obtain ⟨τ', S', h1, h2, h3⟩ := for_run (I := { xs := l.map enc }) (bt := bindT t) (b := evB cl b) enc (fun a τ S' => S' = S ∧ Inv a τ) step rfl l (fun x hx a τ S' ⟨e, hi⟩ => by
    subst e
    obtain ⟨τ1, h1, τ2, h2, h3⟩ := h x hx a τ hi
    exact ⟨τ1, h1, τ2, S', h2, rfl, h3⟩) a τ S ⟨rfl, h0⟩
  subst h2
  exact ⟨τ', hf.symm.trans h1, h3⟩
/-- .. the store may change -/
theorem forB_runS {cl : Nat → List D → Store → R D} {t : CT} {b : List CS} {τ : Slots} {S : Store} {z : RS} {A X : Type} {l : List X} {enc : X → D} (hf : forB cl t b τ { xs := l.map enc } S = z)
    (Inv : A → Slots → Store → Prop) (step : A → X → A) (a : A) (h : ∀ x ∈ l, ∀ a τ S, Inv a τ S → ∃ τ1, bindT t (enc x) τ = some τ1 ∧ ∃ τ2 S2, (evB cl b τ1 S = .nx τ2 S2 ∨ evB cl b τ1 S = .ct τ2 S2) ∧ Inv (step a x) τ2 S2) (h0 : Inv a τ S) :
    ∃ τ' S', z = .nx τ' S' ∧ Inv (l.foldl step a) τ' S' := by
  obtain ⟨τ', S', h1, h2⟩ := for_run (I := { xs := l.map enc }) (bt := bindT t) (b := evB cl b) enc Inv step rfl l h a τ S h0
  exact ⟨τ', S', hf.symm.trans h1, h2⟩
/-- .. what is kept alone -/
theorem forB_inv {cl : Nat → List D → Store → R D} {t : CT} {b : List CS} {τ : Slots} {S : Store} {z : RS} {X : Type} {l : List X} {enc : X → D} (hf : forB cl t b τ { xs := l.map enc } S = z)
    (Inv : Slots → Store → Prop) (h : ∀ x ∈ l, ∀ τ S, Inv τ S → ∃ τ1, bindT t (enc x) τ = some τ1 ∧ ∃ τ2 S2, (evB cl b τ1 S = .nx τ2 S2 ∨ evB cl b τ1 S = .ct τ2 S2) ∧ Inv τ2 S2) (h0 : Inv τ S) :
    ∃ τ' S', z = .nx τ' S' ∧ Inv τ' S' := by
  obtain ⟨τ', S', h1, h2⟩ := forB_runS hf (fun (_ : Unit) => Inv) (fun _ _ => ()) () (fun x hx _ τ S hi => h x hx τ S hi) h0
  exact ⟨τ', S', h1, h2⟩
theorem forB_ret {cl : Nat → List D → Store → R D} {t : CT} {b : List CS} {τ : Slots} {S : Store} {z : RS} {A X : Type} {l : List X} {enc : X → D} (hf : forB cl t b τ { xs := l.map enc } S = z)
    (Inv : A → Slots → Prop) (step : A → X → Sum A D) (a : A) (h : ∀ x ∈ l, ∀ a τ, Inv a τ → ∃ τ1, bindT t (enc x) τ = some τ1 ∧ (∀ a', step a x = .inl a' → ∃ τ2, (evB cl b τ1 S = .nx τ2 S ∨ evB cl b τ1 S = .ct τ2 S) ∧ Inv a' τ2) ∧ (∀ d, step a x = .inr d → evB cl b τ1 S = .rt d S)) (h0 : Inv a τ) :
    (∀ a', goR step l a = .inl a' → ∃ τ', z = .nx τ' S ∧ Inv a' τ') ∧ (∀ d, goR step l a = .inr d → z = .rt d S) := by
  obtain ⟨h1, h2⟩ := for_ret (I := { xs := l.map enc }) (bt := bindT t) (b := evB cl b) enc (fun a τ _ => Inv a τ) step rfl S l h a τ h0
  refine ⟨fun a' e => ?_, fun d e => hf.symm.trans (h2 d e)⟩
  obtain ⟨τ', h3, h4⟩ := h1 a' e
  exact ⟨τ', hf.symm.trans h3, h4⟩
theorem compB_run {cl : Nat → List D → Store → R D} {t : CT} {c : Option CE} {e : CE} {τ : Slots} {S : Store} {z : R (List D)} {X : Type} {l : List X} {enc : X → D} (hf : compB cl t c e τ { xs := l.map enc } S = z)
    (p : X → Bool) (f : X → D) (h : ∀ x ∈ l, ∃ τ1, bindT t (enc x) τ = some τ1 ∧ evC cl c τ1 S = .ok (p x) S ∧ (p x = true → ev cl e τ1 S = .ok (f x) S)) : z = .ok ((l.filter p).map f) S := by
  have q := comp_run (I := { xs := l.map enc }) (bt := bindT t) (c := evC cl c) (e := ev cl e) enc p f τ S rfl l h
  rw [← hf]
  unfold compB
  rw [q]
  rfl
/-- .. without a test -/
theorem compB_map {cl : Nat → List D → Store → R D} {t : CT} {e : CE} {τ : Slots} {S : Store} {z : R (List D)} {X : Type} {l : List X} {enc : X → D} (hf : compB cl t none e τ { xs := l.map enc } S = z)
    (f : X → D) (h : ∀ x ∈ l, ∃ τ1, bindT t (enc x) τ = some τ1 ∧ ev cl e τ1 S = .ok (f x) S) : z = .ok (l.map f) S := by
  have q := compB_run hf (fun _ => true) f fun x hx => by
    obtain ⟨τ1, h1, h2⟩ := h x hx
    exact ⟨τ1, h1, rfl, fun _ => h2⟩
  rw [q, List.filter_eq_self.mpr (fun _ _ => rfl)]
theorem whB_run {cl : Nat → List D → Store → R D} {c : CE} {b : List CS} {τ : Slots} {S : Store} {z : RS} {A : Type} (hf : whB cl c b τ S = z) (Inv : A → Slots → Prop) (cond : A → Bool) (next : A → A) (a : A) (n : Nat)
    (hc : ∀ a τ, Inv a τ → ev cl c τ S = .ok (.bl (cond a)) S) (hb : ∀ a τ, Inv a τ → cond a = true → ∃ τ2, evB cl b τ S = .nx τ2 S ∧ Inv (next a) τ2)
    (h1 : ∀ i, i < n → cond (Nat.repeat next i a) = true) (h2 : cond (Nat.repeat next n a) = false) (hn : n < fuel) (h0 : Inv a τ) : ∃ τ', z = .nx τ' S ∧ Inv (Nat.repeat next n a) τ' := by
  obtain ⟨τ', h3, h4⟩ := wh_run (c := ev cl c) (b := evB cl b) (fun a τ _ => Inv a τ) cond next S hc hb n fuel a τ h0 h1 h2 hn
  exact ⟨τ', hf.symm.trans h3, h4⟩
end Ev
/-! more plain lemmas about the evaluator -/
namespace Ev
/-! ### what stays in the store -/
def Keeps (p : Nat) (S S' : Store) : Prop := ∀ q o, q ≠ p → S[q]? = some o → S'[q]? = some o
theorem keeps_refl (p : Nat) (S : Store) : Keeps p S S := fun _ _ _ h => h
theorem Keeps.trans {p : Nat} {S S' S'' : Store} (h1 : Keeps p S S') (h2 : Keeps p S' S'') : Keeps p S S'' := fun q o hq h => h2 q o hq (h1 q o hq h)
theorem keeps_set (p : Nat) (S : Store) (o' : MO) : Keeps p S (S.set p o') := fun q o hq h => by rw [set_off hq]; exact h
theorem keeps_app (p : Nat) (S : Store) (o' : MO) : Keeps p S (S ++ [o']) := fun q o _ h => app_old h o'
theorem Keeps.set {p : Nat} {S S' : Store} (h : Keeps p S S') (o' : MO) : Keeps p S (S'.set p o') := h.trans (keeps_set _ _ _)
theorem Keeps.app {p : Nat} {S S' : Store} (h : Keeps p S S') (o' : MO) : Keeps p S (S' ++ [o']) := h.trans (keeps_app _ _ _)
theorem Keeps.new {p : Nat} {S S' : Store} (h : Keeps p S S') {n : Nat} (hn : S.length ≤ n) (o' : MO) : Keeps p S (S'.set n o') := fun q o hq e => by
  have := at_lt e
  rw [set_off (by omega)]
  exact h q o hq e
/-! ### a comprehension whose parts change the store -/
theorem comp_runS {X Y : Type} {I : Items} {bt : D → Slots → Option Slots} {e : Slots → Store → R D} (enc : X → D) (g : Y → D) (Inv : Store → Prop) (P : Y → Prop) (τ : Slots) (hI : I.gd = none) :
    ∀ (l : List X), (∀ x ∈ l, ∀ S, Inv S → ∃ τ1, bt (enc x) τ = some τ1 ∧ ∃ y S2, e τ1 S = .ok (g y) S2 ∧ Inv S2 ∧ P y) → ∀ S, Inv S →
      ∃ (ys : List Y) (S' : Store), compL I bt (fun _ S => .ok true S) e (l.map enc) τ S = .ok (ys.map g) S' ∧ Inv S' ∧ ys.length = l.length ∧ ∀ y ∈ ys, P y := by
  intro l
  have st : ∀ S, I.still S = true := by simp [Items.still, hI]
  induction l with
  | nil => intro _ S h; exact ⟨[], S, by simp [compL, st], h, rfl, by simp⟩
  | cons x l ih =>
    intro h S hi
    obtain ⟨τ1, h1, y, S2, h2, h3, h4⟩ := h x List.mem_cons_self S hi
    obtain ⟨ys, S', h5, h6, h7, h8⟩ := ih (fun z hz => h z (List.mem_cons_of_mem _ hz)) S2 h3
    refine ⟨y :: ys, S', ?_, h6, by simp [h7], fun z hz => ?_⟩
    · simp only [List.map_cons, compL, st, if_true, h1, R.bind_ok, h2, h5]
    · rcases List.mem_cons.mp hz with rfl | hz
      · exact h4
      · exact h8 z hz
theorem compB_runS {cl : Nat → List D → Store → R D} {t : CT} {e : CE} {τ : Slots} {S : Store} {z : R (List D)} {X Y : Type} {l : List X} {enc : X → D} (hf : compB cl t none e τ { xs := l.map enc } S = z)
    (g : Y → D) (Inv : Store → Prop) (P : Y → Prop) (h : ∀ x ∈ l, ∀ S, Inv S → ∃ τ1, bindT t (enc x) τ = some τ1 ∧ ∃ y S2, ev cl e τ1 S = .ok (g y) S2 ∧ Inv S2 ∧ P y) (h0 : Inv S) :
    ∃ (ys : List Y) (S' : Store), z = .ok (ys.map g) S' ∧ Inv S' ∧ ys.length = l.length ∧ ∀ y ∈ ys, P y := by
  obtain ⟨ys, S', h1, h2, h3, h4⟩ := comp_runS (I := { xs := l.map enc }) (bt := bindT t) (e := ev cl e) enc g Inv P τ rfl l h S h0
  refine ⟨ys, S', ?_, h2, h3, h4⟩
  rw [← hf]
  unfold compB
  show noR (compL _ _ (fun _ S => .ok true S) _ _ _ _) = _
  rw [h1]
  rfl
/-! ### lambdas -/
section
variable {cl : Nat → List D → Store → R D} {ti f : Nat} {hs : List Hd} {d : D} {e : CE} {τ : Slots} {S : Store}
theorem c_lam (h1 : S[ti]? = some (.tbl ti)) {x : D} {S1 : Store} (hm : cl MARK [] S = .ok x S1) (r : Slots → Store → R D) : lamC cl ti hs d r τ S = lamV hs d (r τ S) := by
  unfold lamC
  rw [if_pos h1, hm]
theorem t_ifneS (h1 : S[ti]? = some (.tbl ti)) {x : D} {S1 : Store} (hm : cl MARK [] S = .ok x S1) (v : PySem.Str) (he : lamV hs d (ev (low cl) e τ S) = .ok (.str v) S) : evS cl (.lamS (.ifne (.str v)) ti f hs d e) τ S = .nx τ S := by
  rw [t_lamS]
  unfold lamP
  simp only [c_lam h1 hm, he, R.bind_ok, endI, ev, c_neS, beq_self_eq_true, Bool.not_true, R.bindS_ok, truth]
theorem t_ifnotS (h1 : S[ti]? = some (.tbl ti)) {x : D} {S1 : Store} (hm : cl MARK [] S = .ok x S1) (he : lamV hs d (ev (low cl) e τ S) = .ok (.bl true) S) : evS cl (.lamS .ifnot ti f hs d e) τ S = .nx τ S := by
  rw [t_lamS]
  unfold lamP
  simp only [c_lam h1 hm, he, R.bind_ok, endI, okO_some, Bool.not_true, R.bindS_ok, truth]
theorem v_ex {c : Nat} {pl : List (PySem.Str × D)} {v : D} (h : pick hs c = some v) (S : Store) : lamV hs d (.ex c pl S) = .ok v S := by simp only [lamV, h]
theorem v_ok (y : D) (S : Store) : lamV hs d (.ok y S) = .ok d S := rfl
end
/-! ### slices from a place on, ascending lists -/
theorem sl_from1 (xs : List D) (S : Store) : getSl (.tup xs) (some 1) none S = .ok (.tup (xs.drop 1)) S := by
  have e : cut xs (some 1) none = xs.drop 1 := by
    unfold cut
    have e1 : HT.sIx xs.length 0 (some 1) = min 1 xs.length := by
      show (if (1 : Int) < 0 then ((1 : Int) + (xs.length : Int)).toNat else min (1 : Int).toNat xs.length) = _
      rw [if_neg (by omega)]; rfl
    rw [HT.sIx_none, e1]
    rw [List.take_of_length_le (by simp)]
    rcases Nat.lt_or_ge xs.length 1 with h | h
    · have : xs = [] := List.eq_nil_of_length_eq_zero (by omega)
      subst this; rfl
    · rw [Nat.min_eq_left h]
  show R.ok (D.tup (cut xs (some 1) none)) S = _
  rw [e]
theorem asc_isort {ns : List Int} (h : ns.Nodup) : (isort ns).Pairwise (· < ·) := by
  have h1 := isort_sorted ns
  have h2 : (isort ns).Nodup := (isort_perm ns).nodup_iff.mpr h
  generalize isort ns = l at h1 h2
  have h3 := List.pairwise_and_iff.mpr ⟨h1, h2⟩
  exact h3.imp fun {a b} h => by have : a ≤ b ∧ a ≠ b := h; omega
theorem asc_zip : ∀ {l : List Int}, l.Pairwise (· < ·) → (l.zip (l.drop 1)).all (fun p => decide (p.1 < p.2)) = true
  | [], _ => rfl
  | [_], _ => rfl
  | x :: y :: l, h => by
    have h1 := List.pairwise_cons.mp h
    have h2 := asc_zip h1.2
    simp only [List.drop_succ_cons, List.drop_zero, List.zip_cons_cons, List.all_cons, Bool.and_eq_true, decide_eq_true_eq]
    exact ⟨h1.1 y List.mem_cons_self, h2⟩
theorem zipD_ints (f g : Int → D) : ∀ (a b : List Int), zipD (a.map f) (b.map g) = (a.zip b).map fun p => .tup [f p.1, g p.2]
  | [], _ => rfl
  | _ :: _, [] => rfl
  | x :: a, y :: b => by simp [zipD, zipD_ints f g a b]
/-- what isinstance and a range say of it -/
def frm (l h : Int) : D → Bool
  | .int i => decide (l ≤ i) && decide (i ≤ h)
  | _ => false
/-- data of a builtin type -/
def pln : D → Bool
  | .non => true
  | .bl _ => true
  | .int _ => true
  | .str _ => true
  | .tup _ => true
  | .lst _ => true
  | _ => false
theorem y_isiP (S : Store) {d : D} (h : pln d = true) (t : Ty) : kIsi t d S = .ok (.bl ((isTy t d S).getD false)) S := by
  cases d <;> first | rfl | cases h
end Ev
namespace Lw
open PySem L2 Ev
/-! ### rules -/
theorem fs_mark : fs.length ≤ MARK := by decide
theorem low_at (k f : Nat) (as : List D) (S : Store) : low (evF fs (k + 2)) f as S = evF fs k f as S := evF_low fs_mark k f as S
structure Rl where
  n : Int
  up : Bool
  ps : List Int
def eRl (r : Rl) : D := .tup [.int r.n, .bl r.up, .tup (r.ps.map .int)]
theorem dk2 : divOk 2 = true := divOk_small 2 (by decide) (by decide)
def rowW (bs : List Int) (e : Int) : Int := (dns bs e : Int) + (ups bs e : Int) + 1
theorem rowW_perm {a b : List Int} (h : a.Perm b) (e : Int) : rowW a e = rowW b e := by unfold rowW; rw [dns_perm h, ups_perm h]
def MOST : Int := 1000000000000000000000000000000
def mid (r : Rl) (lo hi : Int) : Int := lo + (hi - lo + b2 r.up) / 2
def nxt (r : Rl) (lo hi : Int) (bs : List Int) : Option Int :=
  if hi - lo ≤ r.n then none else (r.ps.map (mid r lo hi + ·)).find? fun e => decide (lo < e) && decide (e < hi) && !decide (e ∈ bs)
theorem goR_find (f : Int → Int) (p : Int → Bool) : ∀ (l : List Int), goR (fun (_ : Unit) x => if p (f x) then .inr (D.int (f x)) else .inl ()) l () = match (l.map f).find? p with
    | none => .inl ()
    | some e => .inr (.int e)
  | [] => rfl
  | x :: l => by
    simp only [goR, List.map_cons, List.find?_cons]
    cases h : p (f x) with
    | true => simp
    | false => simpa using goR_find f p l
def okR (r : Rl) : Bool := decide (1 ≤ r.n) && decide (r.n ≤ 9) && decide (1 ≤ r.ps.length) && decide (r.ps.length ≤ 4) && (r.ps.all fun x => decide (-3 ≤ x) && decide (x ≤ 3)) && decide ((unlike r.ps).length = r.ps.length)
end Lw
namespace Lw
open PySem L2 Ev
/-! ### the law's own pail -/
theorem s_cup (n p : Nat) (a b w : Int) (S : Store) (hS : S[p]? = some (.list [.int a, .int b])) (hw : 0 < w) (hw2 : w < 2 ^ 62) :
    ∃ r a' b', evF fs (n + 1) 1 [.loc p, .int w] S = .ok (.int r) (S.set p (.list [.int a', .int b'])) ∧ 0 ≤ r ∧ r < w := by
  rw [u1]
  have hd : divOk w = true := divOk_small w hw hw2
  have e : ∃ r a' b', endB (evB (evF fs n) e1.body [some (.loc p), some (.int w), none, none] S) = .ok (.int (r % w)) (S.set p (.list [.int a', .int b'])) := by
    unfold e1
    by_cases h : 0 < a
    · simp only [e_int, e_bl, e_non, e_str, e_var, e_con, e_fnv, e_bin, y_bin1, y_bin, e_neg, e_not, y_not, y_notI, e_cmp, y_cmp1, y_cmp, e_chain, y_ch1, y_ch2, y_ch3, e_and, e_or, e_and1, e_or1, e_and2, e_or2, y_and, y_or, e_ite, y_ite, e_tup, y_tup0, y_tup1, y_tup2, y_tup3, y_tup4, y_tup5, e_lst, y_lst, e_idx, y_idx1, y_idx, e_dict0i, e_sset, y_sset, e_rev, y_rev, e_upper, e_trng1, e_trng2, y_trng1, y_trng2, e_sl, y_sl1, y_sl2, y_sl3, e_call, e_bi, y_bi, e_isi, y_isiI, y_isiB, y_isiB2, y_isiI2, y_isiT, y_isiS, y_isiL, e_lenset, e_meth, y_meth2, e_comp, y_comp, y_mk, y_mkT, m_f, m_t, e_o0, asI_int, e_o1, y_trB, e_c0, e_c1, e_nil, e_cons, y_es, y_con, i_val, y_valT, y_valL, i_rng2, y_rng, i_rng1, enuT_tup, i_enuT, i_zip, y_zip, t_set, y_set, setA_nil, setA_cons, t_par, tgtA_name, tgtA_pair, tgtA_three, t_tgt, t_setI, y_put1, y_put2, t_ret, y_ret, t_retN, t_ifs, y_ifs, t_wh, t_fors, t_ex, y_ex, t_raise, t_tryR, ct_nx, ct_rt, ct_ex, pik_nil, pik_cons, n_ex, q_ex, z_exS, z_exB, t_brk, t_cnt, t_pass, t_nil, t_cons, q_nx, q_rt, q_bk, q_ct, q_if, n_if, n_rt, n_nx, g_ok, g_bl, g_int, g_bind, g_bindS, z_bind, z_bindS, z_o, z_if, z_no, List.getElem?_cons_zero, List.getElem?_cons_succ, Option.join_some, List.set_cons_zero, List.set_cons_succ, neg, getIx, seqOf, lstOf, rd, itemsOf, wipeS, D.same, ix_0, ix_1, ix_2, sl_to, b_add, b_sub, b_mul, b_div, b_mod, b_pow, b_cat, b_catT, b_catL, c_lt, c_le, c_gt, c_ge, c_eqI, c_neI, c_eqS, c_neS, c_eqB, c_neB, c_isN, c_notN, c_memL, c_nmemL, c_memT, c_nmemT, k_lenT, k_lenL, k_lenR, k_lenS, k_intI, k_intB, k_abs, k_tupL, k_tupT, k_max2, k_min2, k_divmod, k_all, k_sorted, k_sum, List.length_cons, List.length_nil, List.length_map, if_true, Bool.true_and, Bool.and_true, Bool.not_true, Bool.not_false, decide_true, Bool.false_eq_true, if_false, Int.reduceLT, Int.reduceLE, Int.reduceNeg, Int.reducePow, Int.reduceAdd, Int.reduceSub, Int.reduceMul, Nat.reduceAdd, Nat.reducePow, Nat.reduceLT, Nat.reduceLeDiff, Int.reduceEq, cond_true, cond_false, Bool.cond_false_right, Bool.cond_false_left, Bool.cond_true_left, Bool.cond_true_right, hS, h, hw, hd]
      rw [putA_at hS (ix_0 1)]
      simp only [e_int, e_bl, e_non, e_str, e_var, e_con, e_fnv, e_bin, y_bin1, y_bin, e_neg, e_not, y_not, y_notI, e_cmp, y_cmp1, y_cmp, e_chain, y_ch1, y_ch2, y_ch3, e_and, e_or, e_and1, e_or1, e_and2, e_or2, y_and, y_or, e_ite, y_ite, e_tup, y_tup0, y_tup1, y_tup2, y_tup3, y_tup4, y_tup5, e_lst, y_lst, e_idx, y_idx1, y_idx, e_dict0i, e_sset, y_sset, e_rev, y_rev, e_upper, e_trng1, e_trng2, y_trng1, y_trng2, e_sl, y_sl1, y_sl2, y_sl3, e_call, e_bi, y_bi, e_isi, y_isiI, y_isiB, y_isiB2, y_isiI2, y_isiT, y_isiS, y_isiL, e_lenset, e_meth, y_meth2, e_comp, y_comp, y_mk, y_mkT, m_f, m_t, e_o0, asI_int, e_o1, y_trB, e_c0, e_c1, e_nil, e_cons, y_es, y_con, i_val, y_valT, y_valL, i_rng2, y_rng, i_rng1, enuT_tup, i_enuT, i_zip, y_zip, t_set, y_set, setA_nil, setA_cons, t_par, tgtA_name, tgtA_pair, tgtA_three, t_tgt, t_setI, y_put1, y_put2, t_ret, y_ret, t_retN, t_ifs, y_ifs, t_wh, t_fors, t_ex, y_ex, t_raise, t_tryR, ct_nx, ct_rt, ct_ex, pik_nil, pik_cons, n_ex, q_ex, z_exS, z_exB, t_brk, t_cnt, t_pass, t_nil, t_cons, q_nx, q_rt, q_bk, q_ct, q_if, n_if, n_rt, n_nx, g_ok, g_bl, g_int, g_bind, g_bindS, z_bind, z_bindS, z_o, z_if, z_no, List.getElem?_cons_zero, List.getElem?_cons_succ, Option.join_some, List.set_cons_zero, List.set_cons_succ, neg, getIx, seqOf, lstOf, rd, itemsOf, wipeS, D.same, ix_0, ix_1, ix_2, sl_to, b_add, b_sub, b_mul, b_div, b_mod, b_pow, b_cat, b_catT, b_catL, c_lt, c_le, c_gt, c_ge, c_eqI, c_neI, c_eqS, c_neS, c_eqB, c_neB, c_isN, c_notN, c_memL, c_nmemL, c_memT, c_nmemT, k_lenT, k_lenL, k_lenR, k_lenS, k_intI, k_intB, k_abs, k_tupL, k_tupT, k_max2, k_min2, k_divmod, k_all, k_sorted, k_sum, List.length_cons, List.length_nil, List.length_map, if_true, Bool.true_and, Bool.and_true, Bool.not_true, Bool.not_false, decide_true, Bool.false_eq_true, if_false, Int.reduceLT, Int.reduceLE, Int.reduceNeg, Int.reducePow, Int.reduceAdd, Int.reduceSub, Int.reduceMul, Nat.reduceAdd, Nat.reducePow, Nat.reduceLT, Nat.reduceLeDiff, Int.reduceEq, cond_true, cond_false, Bool.cond_false_right, Bool.cond_false_left, Bool.cond_true_left, Bool.cond_true_right]
      exact ⟨_, _, _, rfl⟩
    · simp only [e_int, e_bl, e_non, e_str, e_var, e_con, e_fnv, e_bin, y_bin1, y_bin, e_neg, e_not, y_not, y_notI, e_cmp, y_cmp1, y_cmp, e_chain, y_ch1, y_ch2, y_ch3, e_and, e_or, e_and1, e_or1, e_and2, e_or2, y_and, y_or, e_ite, y_ite, e_tup, y_tup0, y_tup1, y_tup2, y_tup3, y_tup4, y_tup5, e_lst, y_lst, e_idx, y_idx1, y_idx, e_dict0i, e_sset, y_sset, e_rev, y_rev, e_upper, e_trng1, e_trng2, y_trng1, y_trng2, e_sl, y_sl1, y_sl2, y_sl3, e_call, e_bi, y_bi, e_isi, y_isiI, y_isiB, y_isiB2, y_isiI2, y_isiT, y_isiS, y_isiL, e_lenset, e_meth, y_meth2, e_comp, y_comp, y_mk, y_mkT, m_f, m_t, e_o0, asI_int, e_o1, y_trB, e_c0, e_c1, e_nil, e_cons, y_es, y_con, i_val, y_valT, y_valL, i_rng2, y_rng, i_rng1, enuT_tup, i_enuT, i_zip, y_zip, t_set, y_set, setA_nil, setA_cons, t_par, tgtA_name, tgtA_pair, tgtA_three, t_tgt, t_setI, y_put1, y_put2, t_ret, y_ret, t_retN, t_ifs, y_ifs, t_wh, t_fors, t_ex, y_ex, t_raise, t_tryR, ct_nx, ct_rt, ct_ex, pik_nil, pik_cons, n_ex, q_ex, z_exS, z_exB, t_brk, t_cnt, t_pass, t_nil, t_cons, q_nx, q_rt, q_bk, q_ct, q_if, n_if, n_rt, n_nx, g_ok, g_bl, g_int, g_bind, g_bindS, z_bind, z_bindS, z_o, z_if, z_no, List.getElem?_cons_zero, List.getElem?_cons_succ, Option.join_some, List.set_cons_zero, List.set_cons_succ, neg, getIx, seqOf, lstOf, rd, itemsOf, wipeS, D.same, ix_0, ix_1, ix_2, sl_to, b_add, b_sub, b_mul, b_div, b_mod, b_pow, b_cat, b_catT, b_catL, c_lt, c_le, c_gt, c_ge, c_eqI, c_neI, c_eqS, c_neS, c_eqB, c_neB, c_isN, c_notN, c_memL, c_nmemL, c_memT, c_nmemT, k_lenT, k_lenL, k_lenR, k_lenS, k_intI, k_intB, k_abs, k_tupL, k_tupT, k_max2, k_min2, k_divmod, k_all, k_sorted, k_sum, List.length_cons, List.length_nil, List.length_map, if_true, Bool.true_and, Bool.and_true, Bool.not_true, Bool.not_false, decide_true, Bool.false_eq_true, if_false, Int.reduceLT, Int.reduceLE, Int.reduceNeg, Int.reducePow, Int.reduceAdd, Int.reduceSub, Int.reduceMul, Nat.reduceAdd, Nat.reducePow, Nat.reduceLT, Nat.reduceLeDiff, Int.reduceEq, cond_true, cond_false, Bool.cond_false_right, Bool.cond_false_left, Bool.cond_true_left, Bool.cond_true_right, hS, h, decide_false, mulOk_r]
      rw [putA_at hS (ix_1 0)]
      simp only [e_int, e_bl, e_non, e_str, e_var, e_con, e_fnv, e_bin, y_bin1, y_bin, e_neg, e_not, y_not, y_notI, e_cmp, y_cmp1, y_cmp, e_chain, y_ch1, y_ch2, y_ch3, e_and, e_or, e_and1, e_or1, e_and2, e_or2, y_and, y_or, e_ite, y_ite, e_tup, y_tup0, y_tup1, y_tup2, y_tup3, y_tup4, y_tup5, e_lst, y_lst, e_idx, y_idx1, y_idx, e_dict0i, e_sset, y_sset, e_rev, y_rev, e_upper, e_trng1, e_trng2, y_trng1, y_trng2, e_sl, y_sl1, y_sl2, y_sl3, e_call, e_bi, y_bi, e_isi, y_isiI, y_isiB, y_isiB2, y_isiI2, y_isiT, y_isiS, y_isiL, e_lenset, e_meth, y_meth2, e_comp, y_comp, y_mk, y_mkT, m_f, m_t, e_o0, asI_int, e_o1, y_trB, e_c0, e_c1, e_nil, e_cons, y_es, y_con, i_val, y_valT, y_valL, i_rng2, y_rng, i_rng1, enuT_tup, i_enuT, i_zip, y_zip, t_set, y_set, setA_nil, setA_cons, t_par, tgtA_name, tgtA_pair, tgtA_three, t_tgt, t_setI, y_put1, y_put2, t_ret, y_ret, t_retN, t_ifs, y_ifs, t_wh, t_fors, t_ex, y_ex, t_raise, t_tryR, ct_nx, ct_rt, ct_ex, pik_nil, pik_cons, n_ex, q_ex, z_exS, z_exB, t_brk, t_cnt, t_pass, t_nil, t_cons, q_nx, q_rt, q_bk, q_ct, q_if, n_if, n_rt, n_nx, g_ok, g_bl, g_int, g_bind, g_bindS, z_bind, z_bindS, z_o, z_if, z_no, List.getElem?_cons_zero, List.getElem?_cons_succ, Option.join_some, List.set_cons_zero, List.set_cons_succ, neg, getIx, seqOf, lstOf, rd, itemsOf, wipeS, D.same, ix_0, ix_1, ix_2, sl_to, b_add, b_sub, b_mul, b_div, b_mod, b_pow, b_cat, b_catT, b_catL, c_lt, c_le, c_gt, c_ge, c_eqI, c_neI, c_eqS, c_neS, c_eqB, c_neB, c_isN, c_notN, c_memL, c_nmemL, c_memT, c_nmemT, k_lenT, k_lenL, k_lenR, k_lenS, k_intI, k_intB, k_abs, k_tupL, k_tupT, k_max2, k_min2, k_divmod, k_all, k_sorted, k_sum, List.length_cons, List.length_nil, List.length_map, if_true, Bool.true_and, Bool.and_true, Bool.not_true, Bool.not_false, decide_true, Bool.false_eq_true, if_false, Int.reduceLT, Int.reduceLE, Int.reduceNeg, Int.reducePow, Int.reduceAdd, Int.reduceSub, Int.reduceMul, Nat.reduceAdd, Nat.reducePow, Nat.reduceLT, Nat.reduceLeDiff, Int.reduceEq, cond_true, cond_false, Bool.cond_false_right, Bool.cond_false_left, Bool.cond_true_left, Bool.cond_true_right, set_at hS, mulOk_mod, divOk_small, hw]
      exact ⟨_, _, _, rfl⟩
  obtain ⟨r, a', b', e⟩ := e
  exact ⟨r % w, a', b', e, Int.emod_nonneg _ (by omega), Int.emod_lt_of_pos _ hw⟩
theorem s_pail (n : Nat) (ns : List Int) (k : Nat) (S : Store) : ∃ a b : Int, evF fs (n + 1) 0 [script ns, .int (k : Nat)] S = .ok (.loc S.length) (S ++ [.list [.int a, .int b]]) := by
  rw [u0]
  have hp : binop .pow (.int 10) (.int 18) S = .ok (.int 1000000000000000000) S := rfl
  unfold script
  by_cases h : k < ns.length
  · have h' : (k : Int) < (ns.length : Nat) := by omega
    simp only [e_int, e_bl, e_non, e_str, e_var, e_con, e_fnv, e_bin, y_bin1, y_bin, e_neg, e_not, y_not, y_notI, e_cmp, y_cmp1, y_cmp, e_chain, y_ch1, y_ch2, y_ch3, e_and, e_or, e_and1, e_or1, e_and2, e_or2, y_and, y_or, e_ite, y_ite, e_tup, y_tup0, y_tup1, y_tup2, y_tup3, y_tup4, y_tup5, e_lst, y_lst, e_idx, y_idx1, y_idx, e_dict0i, e_sset, y_sset, e_rev, y_rev, e_upper, e_trng1, e_trng2, y_trng1, y_trng2, e_sl, y_sl1, y_sl2, y_sl3, e_call, e_bi, y_bi, e_isi, y_isiI, y_isiB, y_isiB2, y_isiI2, y_isiT, y_isiS, y_isiL, e_lenset, e_meth, y_meth2, e_comp, y_comp, y_mk, y_mkT, m_f, m_t, e_o0, asI_int, e_o1, y_trB, e_c0, e_c1, e_nil, e_cons, y_es, y_con, i_val, y_valT, y_valL, i_rng2, y_rng, i_rng1, enuT_tup, i_enuT, i_zip, y_zip, t_set, y_set, setA_nil, setA_cons, t_par, tgtA_name, tgtA_pair, tgtA_three, t_tgt, t_setI, y_put1, y_put2, t_ret, y_ret, t_retN, t_ifs, y_ifs, t_wh, t_fors, t_ex, y_ex, t_raise, t_tryR, ct_nx, ct_rt, ct_ex, pik_nil, pik_cons, n_ex, q_ex, z_exS, z_exB, t_brk, t_cnt, t_pass, t_nil, t_cons, q_nx, q_rt, q_bk, q_ct, q_if, n_if, n_rt, n_nx, g_ok, g_bl, g_int, g_bind, g_bindS, z_bind, z_bindS, z_o, z_if, z_no, List.getElem?_cons_zero, List.getElem?_cons_succ, Option.join_some, List.set_cons_zero, List.set_cons_succ, neg, getIx, seqOf, lstOf, rd, itemsOf, wipeS, D.same, ix_0, ix_1, ix_2, sl_to, b_add, b_sub, b_mul, b_div, b_mod, b_pow, b_cat, b_catT, b_catL, c_lt, c_le, c_gt, c_ge, c_eqI, c_neI, c_eqS, c_neS, c_eqB, c_neB, c_isN, c_notN, c_memL, c_nmemL, c_memT, c_nmemT, k_lenT, k_lenL, k_lenR, k_lenS, k_intI, k_intB, k_abs, k_tupL, k_tupT, k_max2, k_min2, k_divmod, k_all, k_sorted, k_sum, List.length_cons, List.length_nil, List.length_map, if_true, Bool.true_and, Bool.and_true, Bool.not_true, Bool.not_false, decide_true, Bool.false_eq_true, if_false, Int.reduceLT, Int.reduceLE, Int.reduceNeg, Int.reducePow, Int.reduceAdd, Int.reduceSub, Int.reduceMul, Nat.reduceAdd, Nat.reducePow, Nat.reduceLT, Nat.reduceLeDiff, Int.reduceEq, cond_true, cond_false, Bool.cond_false_right, Bool.cond_false_left, Bool.cond_true_left, Bool.cond_true_right, h', ix_at h, List.getElem?_map, List.getElem?_eq_getElem h, Option.map_some, hp, mulOk_r, mulOk_l]
    exact ⟨_, _, rfl⟩
  · have h' : ¬ (k : Int) < (ns.length : Nat) := by omega
    simp only [e_int, e_bl, e_non, e_str, e_var, e_con, e_fnv, e_bin, y_bin1, y_bin, e_neg, e_not, y_not, y_notI, e_cmp, y_cmp1, y_cmp, e_chain, y_ch1, y_ch2, y_ch3, e_and, e_or, e_and1, e_or1, e_and2, e_or2, y_and, y_or, e_ite, y_ite, e_tup, y_tup0, y_tup1, y_tup2, y_tup3, y_tup4, y_tup5, e_lst, y_lst, e_idx, y_idx1, y_idx, e_dict0i, e_sset, y_sset, e_rev, y_rev, e_upper, e_trng1, e_trng2, y_trng1, y_trng2, e_sl, y_sl1, y_sl2, y_sl3, e_call, e_bi, y_bi, e_isi, y_isiI, y_isiB, y_isiB2, y_isiI2, y_isiT, y_isiS, y_isiL, e_lenset, e_meth, y_meth2, e_comp, y_comp, y_mk, y_mkT, m_f, m_t, e_o0, asI_int, e_o1, y_trB, e_c0, e_c1, e_nil, e_cons, y_es, y_con, i_val, y_valT, y_valL, i_rng2, y_rng, i_rng1, enuT_tup, i_enuT, i_zip, y_zip, t_set, y_set, setA_nil, setA_cons, t_par, tgtA_name, tgtA_pair, tgtA_three, t_tgt, t_setI, y_put1, y_put2, t_ret, y_ret, t_retN, t_ifs, y_ifs, t_wh, t_fors, t_ex, y_ex, t_raise, t_tryR, ct_nx, ct_rt, ct_ex, pik_nil, pik_cons, n_ex, q_ex, z_exS, z_exB, t_brk, t_cnt, t_pass, t_nil, t_cons, q_nx, q_rt, q_bk, q_ct, q_if, n_if, n_rt, n_nx, g_ok, g_bl, g_int, g_bind, g_bindS, z_bind, z_bindS, z_o, z_if, z_no, List.getElem?_cons_zero, List.getElem?_cons_succ, Option.join_some, List.set_cons_zero, List.set_cons_succ, neg, getIx, seqOf, lstOf, rd, itemsOf, wipeS, D.same, ix_0, ix_1, ix_2, sl_to, b_add, b_sub, b_mul, b_div, b_mod, b_pow, b_cat, b_catT, b_catL, c_lt, c_le, c_gt, c_ge, c_eqI, c_neI, c_eqS, c_neS, c_eqB, c_neB, c_isN, c_notN, c_memL, c_nmemL, c_memT, c_nmemT, k_lenT, k_lenL, k_lenR, k_lenS, k_intI, k_intB, k_abs, k_tupL, k_tupT, k_max2, k_min2, k_divmod, k_all, k_sorted, k_sum, List.length_cons, List.length_nil, List.length_map, if_true, Bool.true_and, Bool.and_true, Bool.not_true, Bool.not_false, decide_true, Bool.false_eq_true, if_false, Int.reduceLT, Int.reduceLE, Int.reduceNeg, Int.reducePow, Int.reduceAdd, Int.reduceSub, Int.reduceMul, Nat.reduceAdd, Nat.reducePow, Nat.reduceLT, Nat.reduceLeDiff, Int.reduceEq, cond_true, cond_false, Bool.cond_false_right, Bool.cond_false_left, Bool.cond_true_left, Bool.cond_true_right, h', decide_false, hp, mulOk_r, mulOk_l]
    exact ⟨_, _, rfl⟩
theorem s_cupN (n p : Nat) (w : Int) (S : Store) (hS : Two2 S p) (hw : 0 < w) (hw2 : w < 2 ^ 62) :
    ∃ (r : Nat) (o : MO), evF fs (n + 1) 1 [.loc p, .int w] S = .ok (.int (r : Nat)) (S.set p o) ∧ (r : Int) < w ∧ Two2 (S.set p o) p := by
  obtain ⟨a, b, hS⟩ := hS
  obtain ⟨r, a', b', e, h1, h2⟩ := s_cup n p a b w S hS hw hw2
  exact ⟨r.toNat, _, by rw [e]; congr; omega, by omega, a', b', set_at hS⟩
theorem s_any (n p : Nat) (ds : List D) (S : Store) (hS : Two2 S p) (h0 : 0 < ds.length) (hl : ds.length < 1000000) :
    ∃ d ∈ ds, ∃ o, evF fs (n + 2) 2 [.loc p, .lst ds] S = .ok d (S.set p o) ∧ Two2 (S.set p o) p := by
  obtain ⟨r, o, e, h1, h2⟩ := s_cupN n p (ds.length : Nat) S hS (by omega) (by omega)
  have hr : r < ds.length := by omega
  refine ⟨ds[r], List.getElem_mem hr, o, ?_, h2⟩
  rw [u2]
  simp only [e_int, e_bl, e_non, e_str, e_var, e_con, e_fnv, e_bin, y_bin1, y_bin, e_neg, e_not, y_not, y_notI, e_cmp, y_cmp1, y_cmp, e_chain, y_ch1, y_ch2, y_ch3, e_and, e_or, e_and1, e_or1, e_and2, e_or2, y_and, y_or, e_ite, y_ite, e_tup, y_tup0, y_tup1, y_tup2, y_tup3, y_tup4, y_tup5, e_lst, y_lst, e_idx, y_idx1, y_idx, e_dict0i, e_sset, y_sset, e_rev, y_rev, e_upper, e_trng1, e_trng2, y_trng1, y_trng2, e_sl, y_sl1, y_sl2, y_sl3, e_call, e_bi, y_bi, e_isi, y_isiI, y_isiB, y_isiB2, y_isiI2, y_isiT, y_isiS, y_isiL, e_lenset, e_meth, y_meth2, e_comp, y_comp, y_mk, y_mkT, m_f, m_t, e_o0, asI_int, e_o1, y_trB, e_c0, e_c1, e_nil, e_cons, y_es, y_con, i_val, y_valT, y_valL, i_rng2, y_rng, i_rng1, enuT_tup, i_enuT, i_zip, y_zip, t_set, y_set, setA_nil, setA_cons, t_par, tgtA_name, tgtA_pair, tgtA_three, t_tgt, t_setI, y_put1, y_put2, t_ret, y_ret, t_retN, t_ifs, y_ifs, t_wh, t_fors, t_ex, y_ex, t_raise, t_tryR, ct_nx, ct_rt, ct_ex, pik_nil, pik_cons, n_ex, q_ex, z_exS, z_exB, t_brk, t_cnt, t_pass, t_nil, t_cons, q_nx, q_rt, q_bk, q_ct, q_if, n_if, n_rt, n_nx, g_ok, g_bl, g_int, g_bind, g_bindS, z_bind, z_bindS, z_o, z_if, z_no, List.getElem?_cons_zero, List.getElem?_cons_succ, Option.join_some, List.set_cons_zero, List.set_cons_succ, neg, getIx, seqOf, lstOf, rd, itemsOf, wipeS, D.same, ix_0, ix_1, ix_2, sl_to, b_add, b_sub, b_mul, b_div, b_mod, b_pow, b_cat, b_catT, b_catL, c_lt, c_le, c_gt, c_ge, c_eqI, c_neI, c_eqS, c_neS, c_eqB, c_neB, c_isN, c_notN, c_memL, c_nmemL, c_memT, c_nmemT, k_lenT, k_lenL, k_lenR, k_lenS, k_intI, k_intB, k_abs, k_tupL, k_tupT, k_max2, k_min2, k_divmod, k_all, k_sorted, k_sum, List.length_cons, List.length_nil, List.length_map, if_true, Bool.true_and, Bool.and_true, Bool.not_true, Bool.not_false, decide_true, Bool.false_eq_true, if_false, Int.reduceLT, Int.reduceLE, Int.reduceNeg, Int.reducePow, Int.reduceAdd, Int.reduceSub, Int.reduceMul, Nat.reduceAdd, Nat.reducePow, Nat.reduceLT, Nat.reduceLeDiff, Int.reduceEq, cond_true, cond_false, Bool.cond_false_right, Bool.cond_false_left, Bool.cond_true_left, Bool.cond_true_right, e, ix_at hr, List.getElem?_eq_getElem hr]
theorem b_in {v : Int} {n : Nat} (h : (n : Int) < v) : (0 : Int) ≤ n := by omega
end Lw
namespace Lw
open PySem L2 Ev
theorem hbig (n : Nat) (h : n ≤ 1000) : decide (n ≤ big) = true := decide_eq_true (by have : big = 16777216 := rfl; omega)
theorem u_too (n : Nat) (i : Int) (S : Store) : evF fs (n + 1) 6 [.int i] S = .ok (.loc S.length) (S ++ [.ins 12 [("limit", .int i)]]) :=
  (evF_succ (fs := fs) (k := n) (f := 6) (S := S) (d := iniFD 12 "TooMany") rfl).trans ((if_pos rfl).trans (ini_end _ 12 "TooMany" (.int i) S))
theorem u_txt (n : Nat) (i : Int) (S : Store) : evF fs (n + 1) 7 [.int i] S = .ok (.loc S.length) (S ++ [.ins 13 [("row", .int i)]]) :=
  (evF_succ (fs := fs) (k := n) (f := 7) (S := S) (d := iniFD 13 "InvalidText") rfl).trans ((if_pos rfl).trans (ini_end _ 13 "InvalidText" (.int i) S))
def errs (i : Int) : List MO := [.ins 1 [], .ins 2 [], .ins 3 [], .ins 4 [], .ins 5 [], .ins 6 [], .ins 7 [], .ins 8 [], .ins 9 [], .ins 10 [], .ins 11 [], .ins 12 [("limit", .int i)], .ins 13 [("row", .int i)]]
theorem s_all (n : Nat) (x : Str) (i : Int) (S : Store) : evF fs (n + 2) 3 [.str x, .int i] S = .ok (.lst ((List.range 13).map fun k => .loc (S.length + k))) (S ++ errs i) := by
  rw [u3]
  simp only [e_int, e_bl, e_non, e_str, e_var, e_con, e_fnv, e_bin, y_bin1, y_bin, e_neg, e_not, y_not, y_notI, e_cmp, y_cmp1, y_cmp, e_chain, y_ch1, y_ch2, y_ch3, e_and, e_or, e_and1, e_or1, e_and2, e_or2, y_and, y_or, e_ite, y_ite, e_tup, y_tup0, y_tup1, y_tup2, y_tup3, y_tup4, y_tup5, e_lst, y_lst, e_idx, y_idx1, y_idx, e_dict0i, e_sset, y_sset, e_rev, y_rev, e_upper, e_trng1, e_trng2, y_trng1, y_trng2, e_sl, y_sl1, y_sl2, y_sl3, e_call, e_bi, y_bi, e_isi, y_isiI, y_isiB, y_isiB2, y_isiI2, y_isiT, y_isiS, y_isiL, e_lenset, e_meth, y_meth2, e_comp, y_comp, y_mk, y_mkT, m_f, m_t, e_o0, asI_int, e_o1, y_trB, e_c0, e_c1, e_nil, e_cons, y_es, y_con, i_val, y_valT, y_valL, i_rng2, y_rng, i_rng1, enuT_tup, i_enuT, i_zip, y_zip, t_set, y_set, setA_nil, setA_cons, t_par, tgtA_name, tgtA_pair, tgtA_three, t_tgt, t_setI, y_put1, y_put2, t_ret, y_ret, t_retN, t_ifs, y_ifs, t_wh, t_fors, t_ex, y_ex, t_raise, t_tryR, ct_nx, ct_rt, ct_ex, pik_nil, pik_cons, n_ex, q_ex, z_exS, z_exB, t_brk, t_cnt, t_pass, t_nil, t_cons, q_nx, q_rt, q_bk, q_ct, q_if, n_if, n_rt, n_nx, g_ok, g_bl, g_int, g_bind, g_bindS, z_bind, z_bindS, z_o, z_if, z_no, List.getElem?_cons_zero, List.getElem?_cons_succ, Option.join_some, List.set_cons_zero, List.set_cons_succ, neg, getIx, seqOf, lstOf, rd, itemsOf, wipeS, D.same, ix_0, ix_1, ix_2, sl_to, b_add, b_sub, b_mul, b_div, b_mod, b_pow, b_cat, b_catT, b_catL, c_lt, c_le, c_gt, c_ge, c_eqI, c_neI, c_eqS, c_neS, c_eqB, c_neB, c_isN, c_notN, c_memL, c_nmemL, c_memT, c_nmemT, k_lenT, k_lenL, k_lenR, k_lenS, k_intI, k_intB, k_abs, k_tupL, k_tupT, k_max2, k_min2, k_divmod, k_all, k_sorted, k_sum, List.length_cons, List.length_nil, List.length_map, if_true, Bool.true_and, Bool.and_true, Bool.not_true, Bool.not_false, decide_true, Bool.false_eq_true, if_false, Int.reduceLT, Int.reduceLE, Int.reduceNeg, Int.reducePow, Int.reduceAdd, Int.reduceSub, Int.reduceMul, Nat.reduceAdd, Nat.reducePow, Nat.reduceLT, Nat.reduceLeDiff, Int.reduceEq, cond_true, cond_false, Bool.cond_false_right, Bool.cond_false_left, Bool.cond_true_left, Bool.cond_true_right, e_mkE, y_mkE, u_too, u_txt, List.length_append, List.append_assoc, List.cons_append, List.nil_append, Nat.add_assoc, hbig]
  rfl
theorem s_classes (n l c : Nat) (gs : List (Str × D)) (S : Store) (h : S[l]? = some (.ins c gs)) : evF fs (n + 1) 4 [.loc l] S = .ok (.lst ((List.range 13).map fun k => .bl ([k + 1].contains c))) S := by
  rw [u4]
  simp only [e_int, e_bl, e_non, e_str, e_var, e_con, e_fnv, e_bin, y_bin1, y_bin, e_neg, e_not, y_not, y_notI, e_cmp, y_cmp1, y_cmp, e_chain, y_ch1, y_ch2, y_ch3, e_and, e_or, e_and1, e_or1, e_and2, e_or2, y_and, y_or, e_ite, y_ite, e_tup, y_tup0, y_tup1, y_tup2, y_tup3, y_tup4, y_tup5, e_lst, y_lst, e_idx, y_idx1, y_idx, e_dict0i, e_sset, y_sset, e_rev, y_rev, e_upper, e_trng1, e_trng2, y_trng1, y_trng2, e_sl, y_sl1, y_sl2, y_sl3, e_call, e_bi, y_bi, e_isi, y_isiI, y_isiB, y_isiB2, y_isiI2, y_isiT, y_isiS, y_isiL, e_lenset, e_meth, y_meth2, e_comp, y_comp, y_mk, y_mkT, m_f, m_t, e_o0, asI_int, e_o1, y_trB, e_c0, e_c1, e_nil, e_cons, y_es, y_con, i_val, y_valT, y_valL, i_rng2, y_rng, i_rng1, enuT_tup, i_enuT, i_zip, y_zip, t_set, y_set, setA_nil, setA_cons, t_par, tgtA_name, tgtA_pair, tgtA_three, t_tgt, t_setI, y_put1, y_put2, t_ret, y_ret, t_retN, t_ifs, y_ifs, t_wh, t_fors, t_ex, y_ex, t_raise, t_tryR, ct_nx, ct_rt, ct_ex, pik_nil, pik_cons, n_ex, q_ex, z_exS, z_exB, t_brk, t_cnt, t_pass, t_nil, t_cons, q_nx, q_rt, q_bk, q_ct, q_if, n_if, n_rt, n_nx, g_ok, g_bl, g_int, g_bind, g_bindS, z_bind, z_bindS, z_o, z_if, z_no, List.getElem?_cons_zero, List.getElem?_cons_succ, Option.join_some, List.set_cons_zero, List.set_cons_succ, neg, getIx, seqOf, lstOf, rd, itemsOf, wipeS, D.same, ix_0, ix_1, ix_2, sl_to, b_add, b_sub, b_mul, b_div, b_mod, b_pow, b_cat, b_catT, b_catL, c_lt, c_le, c_gt, c_ge, c_eqI, c_neI, c_eqS, c_neS, c_eqB, c_neB, c_isN, c_notN, c_memL, c_nmemL, c_memT, c_nmemT, k_lenT, k_lenL, k_lenR, k_lenS, k_intI, k_intB, k_abs, k_tupL, k_tupT, k_max2, k_min2, k_divmod, k_all, k_sorted, k_sum, List.length_cons, List.length_nil, List.length_map, if_true, Bool.true_and, Bool.and_true, Bool.not_true, Bool.not_false, decide_true, Bool.false_eq_true, if_false, Int.reduceLT, Int.reduceLE, Int.reduceNeg, Int.reducePow, Int.reduceAdd, Int.reduceSub, Int.reduceMul, Nat.reduceAdd, Nat.reducePow, Nat.reduceLT, Nat.reduceLeDiff, Int.reduceEq, cond_true, cond_false, Bool.cond_false_right, Bool.cond_false_left, Bool.cond_true_left, Bool.cond_true_right, e_isE, y_isE _ _ h, List.cons_append, List.nil_append, hbig]
  rfl
theorem ne_same (k : Nat) (hk : k < 13) (S : Store) : cmpop .ne (.lst ((List.range 13).map fun j => .bl ([j + 1].contains (k + 1)))) (.lst ((List.range 13).map fun j => .bl (((j : Nat) : Int) == ((k : Nat) : Int)))) S = .ok (.bl false) S := by
  have : k = 0 ∨ k = 1 ∨ k = 2 ∨ k = 3 ∨ k = 4 ∨ k = 5 ∨ k = 6 ∨ k = 7 ∨ k = 8 ∨ k = 9 ∨ k = 10 ∨ k = 11 ∨ k = 12 := by omega
  rcases this with rfl | rfl | rfl | rfl | rfl | rfl | rfl | rfl | rfl | rfl | rfl | rfl | rfl <;> rfl
theorem errs_at (S : Store) (i : Int) (k : Nat) (hk : k < 13) : ∃ gs, (S ++ errs i)[S.length + k]? = some (.ins (k + 1) gs) := by
  rw [List.getElem?_append_right (Nat.le_add_right _ _), Nat.add_sub_cancel_left]
  have : k = 0 ∨ k = 1 ∨ k = 2 ∨ k = 3 ∨ k = 4 ∨ k = 5 ∨ k = 6 ∨ k = 7 ∨ k = 8 ∨ k = 9 ∨ k = 10 ∨ k = 11 ∨ k = 12 := by omega
  rcases this with rfl | rfl | rfl | rfl | rfl | rfl | rfl | rfl | rfl | rfl | rfl | rfl | rfl <;> exact ⟨_, rfl⟩
theorem hol : Holds := by
  intro ns hns
  show ∃ S, evF fs (20 + 1) 5 [script ns] (store0 lf) = _
  rw [u5]
  obtain ⟨J, hJ, eJ⟩ : ∃ J : Nat, J ≤ 100 ∧ (if (if (ns.length : Int) + 2 < 6 then (ns.length : Int) + 2 else 6) > 3 then (if (ns.length : Int) + 2 < 6 then (ns.length : Int) + 2 else 6) else 3) = (J : Int) := by
    refine ⟨(if (if (ns.length : Int) + 2 < 6 then (ns.length : Int) + 2 else 6) > 3 then (if (ns.length : Int) + 2 < 6 then (ns.length : Int) + 2 else 6) else 3).toNat, ?_, ?_⟩ <;> (split <;> split <;> omega)
  unfold script
  simp only [e_int, e_bl, e_non, e_str, e_var, e_con, e_fnv, e_bin, y_bin1, y_bin, e_neg, e_not, y_not, y_notI, e_cmp, y_cmp1, y_cmp, e_chain, y_ch1, y_ch2, y_ch3, e_and, e_or, e_and1, e_or1, e_and2, e_or2, y_and, y_or, e_ite, y_ite, e_tup, y_tup0, y_tup1, y_tup2, y_tup3, y_tup4, y_tup5, e_lst, y_lst, e_idx, y_idx1, y_idx, e_dict0i, e_sset, y_sset, e_rev, y_rev, e_upper, e_trng1, e_trng2, y_trng1, y_trng2, e_sl, y_sl1, y_sl2, y_sl3, e_call, e_bi, y_bi, e_isi, y_isiI, y_isiB, y_isiB2, y_isiI2, y_isiT, y_isiS, y_isiL, e_lenset, e_meth, y_meth2, e_comp, y_comp, y_mk, y_mkT, m_f, m_t, e_o0, asI_int, e_o1, y_trB, e_c0, e_c1, e_nil, e_cons, y_es, y_con, i_val, y_valT, y_valL, i_rng2, y_rng, i_rng1, enuT_tup, i_enuT, i_zip, y_zip, t_set, y_set, setA_nil, setA_cons, t_par, tgtA_name, tgtA_pair, tgtA_three, t_tgt, t_setI, y_put1, y_put2, t_ret, y_ret, t_retN, t_ifs, y_ifs, t_wh, t_fors, t_ex, y_ex, t_raise, t_tryR, ct_nx, ct_rt, ct_ex, pik_nil, pik_cons, n_ex, q_ex, z_exS, z_exB, t_brk, t_cnt, t_pass, t_nil, t_cons, q_nx, q_rt, q_bk, q_ct, q_if, n_if, n_rt, n_nx, g_ok, g_bl, g_int, g_bind, g_bindS, z_bind, z_bindS, z_o, z_if, z_no, List.getElem?_cons_zero, List.getElem?_cons_succ, Option.join_some, List.set_cons_zero, List.set_cons_succ, neg, getIx, seqOf, lstOf, rd, itemsOf, wipeS, D.same, ix_0, ix_1, ix_2, sl_to, b_add, b_sub, b_mul, b_div, b_mod, b_pow, b_cat, b_catT, b_catL, c_lt, c_le, c_gt, c_ge, c_eqI, c_neI, c_eqS, c_neS, c_eqB, c_neB, c_isN, c_notN, c_memL, c_nmemL, c_memT, c_nmemT, k_lenT, k_lenL, k_lenR, k_lenS, k_intI, k_intB, k_abs, k_tupL, k_tupT, k_max2, k_min2, k_divmod, k_all, k_sorted, k_sum, List.length_cons, List.length_nil, List.length_map, if_true, Bool.true_and, Bool.and_true, Bool.not_true, Bool.not_false, decide_true, Bool.false_eq_true, if_false, Int.reduceLT, Int.reduceLE, Int.reduceNeg, Int.reducePow, Int.reduceAdd, Int.reduceSub, Int.reduceMul, Nat.reduceAdd, Nat.reducePow, Nat.reduceLT, Nat.reduceLeDiff, Int.reduceEq, cond_true, cond_false, Bool.cond_false_right, Bool.cond_false_left, Bool.cond_true_left, Bool.cond_true_right, eJ]
  rw [rngS_nat J (by have : big = 16777216 := rfl; omega)]
  simp only [e_int, e_bl, e_non, e_str, e_var, e_con, e_fnv, e_bin, y_bin1, y_bin, e_neg, e_not, y_not, y_notI, e_cmp, y_cmp1, y_cmp, e_chain, y_ch1, y_ch2, y_ch3, e_and, e_or, e_and1, e_or1, e_and2, e_or2, y_and, y_or, e_ite, y_ite, e_tup, y_tup0, y_tup1, y_tup2, y_tup3, y_tup4, y_tup5, e_lst, y_lst, e_idx, y_idx1, y_idx, e_dict0i, e_sset, y_sset, e_rev, y_rev, e_upper, e_trng1, e_trng2, y_trng1, y_trng2, e_sl, y_sl1, y_sl2, y_sl3, e_call, e_bi, y_bi, e_isi, y_isiI, y_isiB, y_isiB2, y_isiI2, y_isiT, y_isiS, y_isiL, e_lenset, e_meth, y_meth2, e_comp, y_comp, y_mk, y_mkT, m_f, m_t, e_o0, asI_int, e_o1, y_trB, e_c0, e_c1, e_nil, e_cons, y_es, y_con, i_val, y_valT, y_valL, i_rng2, y_rng, i_rng1, enuT_tup, i_enuT, i_zip, y_zip, t_set, y_set, setA_nil, setA_cons, t_par, tgtA_name, tgtA_pair, tgtA_three, t_tgt, t_setI, y_put1, y_put2, t_ret, y_ret, t_retN, t_ifs, y_ifs, t_wh, t_fors, t_ex, y_ex, t_raise, t_tryR, ct_nx, ct_rt, ct_ex, pik_nil, pik_cons, n_ex, q_ex, z_exS, z_exB, t_brk, t_cnt, t_pass, t_nil, t_cons, q_nx, q_rt, q_bk, q_ct, q_if, n_if, n_rt, n_nx, g_ok, g_bl, g_int, g_bind, g_bindS, z_bind, z_bindS, z_o, z_if, z_no, List.getElem?_cons_zero, List.getElem?_cons_succ, Option.join_some, List.set_cons_zero, List.set_cons_succ, neg, getIx, seqOf, lstOf, rd, itemsOf, wipeS, D.same, ix_0, ix_1, ix_2, sl_to, b_add, b_sub, b_mul, b_div, b_mod, b_pow, b_cat, b_catT, b_catL, c_lt, c_le, c_gt, c_ge, c_eqI, c_neI, c_eqS, c_neS, c_eqB, c_neB, c_isN, c_notN, c_memL, c_nmemL, c_memT, c_nmemT, k_lenT, k_lenL, k_lenR, k_lenS, k_intI, k_intB, k_abs, k_tupL, k_tupT, k_max2, k_min2, k_divmod, k_all, k_sorted, k_sum, List.length_cons, List.length_nil, List.length_map, if_true, Bool.true_and, Bool.and_true, Bool.not_true, Bool.not_false, decide_true, Bool.false_eq_true, if_false, Int.reduceLT, Int.reduceLE, Int.reduceNeg, Int.reducePow, Int.reduceAdd, Int.reduceSub, Int.reduceMul, Nat.reduceAdd, Nat.reducePow, Nat.reduceLT, Nat.reduceLeDiff, Int.reduceEq, cond_true, cond_false, Bool.cond_false_right, Bool.cond_false_left, Bool.cond_true_left, Bool.cond_true_right]
  generalize hf : forB _ _ _ _ _ _ = z
  obtain ⟨τ', S', rfl, a1, a2, a3, a4, a5, a6, rfl⟩ := forB_inv hf (fun τ S => ∃ a1 a2 a3 a4 a5 a6, τ = [some (.scr (ns.map .int)), a1, a2, a3, a4, a5, a6, none]) (by
    rintro k - τ S ⟨a1, a2, a3, a4, a5, a6, rfl⟩
    refine ⟨_, rfl, ?_⟩
    obtain ⟨x, y, ep⟩ := s_pail 19 ns k S
    unfold script at ep
    simp only [e_int, e_bl, e_non, e_str, e_var, e_con, e_fnv, e_bin, y_bin1, y_bin, e_neg, e_not, y_not, y_notI, e_cmp, y_cmp1, y_cmp, e_chain, y_ch1, y_ch2, y_ch3, e_and, e_or, e_and1, e_or1, e_and2, e_or2, y_and, y_or, e_ite, y_ite, e_tup, y_tup0, y_tup1, y_tup2, y_tup3, y_tup4, y_tup5, e_lst, y_lst, e_idx, y_idx1, y_idx, e_dict0i, e_sset, y_sset, e_rev, y_rev, e_upper, e_trng1, e_trng2, y_trng1, y_trng2, e_sl, y_sl1, y_sl2, y_sl3, e_call, e_bi, y_bi, e_isi, y_isiI, y_isiB, y_isiB2, y_isiI2, y_isiT, y_isiS, y_isiL, e_lenset, e_meth, y_meth2, e_comp, y_comp, y_mk, y_mkT, m_f, m_t, e_o0, asI_int, e_o1, y_trB, e_c0, e_c1, e_nil, e_cons, y_es, y_con, i_val, y_valT, y_valL, i_rng2, y_rng, i_rng1, enuT_tup, i_enuT, i_zip, y_zip, t_set, y_set, setA_nil, setA_cons, t_par, tgtA_name, tgtA_pair, tgtA_three, t_tgt, t_setI, y_put1, y_put2, t_ret, y_ret, t_retN, t_ifs, y_ifs, t_wh, t_fors, t_ex, y_ex, t_raise, t_tryR, ct_nx, ct_rt, ct_ex, pik_nil, pik_cons, n_ex, q_ex, z_exS, z_exB, t_brk, t_cnt, t_pass, t_nil, t_cons, q_nx, q_rt, q_bk, q_ct, q_if, n_if, n_rt, n_nx, g_ok, g_bl, g_int, g_bind, g_bindS, z_bind, z_bindS, z_o, z_if, z_no, List.getElem?_cons_zero, List.getElem?_cons_succ, Option.join_some, List.set_cons_zero, List.set_cons_succ, neg, getIx, seqOf, lstOf, rd, itemsOf, wipeS, D.same, ix_0, ix_1, ix_2, sl_to, b_add, b_sub, b_mul, b_div, b_mod, b_pow, b_cat, b_catT, b_catL, c_lt, c_le, c_gt, c_ge, c_eqI, c_neI, c_eqS, c_neS, c_eqB, c_neB, c_isN, c_notN, c_memL, c_nmemL, c_memT, c_nmemT, k_lenT, k_lenL, k_lenR, k_lenS, k_intI, k_intB, k_abs, k_tupL, k_tupT, k_max2, k_min2, k_divmod, k_all, k_sorted, k_sum, List.length_cons, List.length_nil, List.length_map, if_true, Bool.true_and, Bool.and_true, Bool.not_true, Bool.not_false, decide_true, Bool.false_eq_true, if_false, Int.reduceLT, Int.reduceLE, Int.reduceNeg, Int.reducePow, Int.reduceAdd, Int.reduceSub, Int.reduceMul, Nat.reduceAdd, Nat.reducePow, Nat.reduceLT, Nat.reduceLeDiff, Int.reduceEq, cond_true, cond_false, Bool.cond_false_right, Bool.cond_false_left, Bool.cond_true_left, Bool.cond_true_right, ep]
    have hk0 : Two2 (S ++ [.list [.int x, .int y]]) S.length := ⟨x, y, app_new _ _⟩
    generalize S ++ [.list [.int x, .int y]] = S0 at hk0 ⊢
    generalize S.length = p at *
    obtain ⟨d, hd, o1, e1, k1⟩ := s_any 18 p [.str "", .str "a message", .str "x y"] S0 hk0 (by simp) (by simp)
    obtain ⟨t, rfl⟩ : ∃ t : Str, d = .str t := by
      simp only [List.mem_cons, List.not_mem_nil, or_false] at hd
      rcases hd with rfl | rfl | rfl <;> exact ⟨_, rfl⟩
    obtain ⟨r, o2, e2, h2, k2⟩ := s_cupN 19 p 1000 _ k1 (by omega) (by omega)
    simp only [e_int, e_bl, e_non, e_str, e_var, e_con, e_fnv, e_bin, y_bin1, y_bin, e_neg, e_not, y_not, y_notI, e_cmp, y_cmp1, y_cmp, e_chain, y_ch1, y_ch2, y_ch3, e_and, e_or, e_and1, e_or1, e_and2, e_or2, y_and, y_or, e_ite, y_ite, e_tup, y_tup0, y_tup1, y_tup2, y_tup3, y_tup4, y_tup5, e_lst, y_lst, e_idx, y_idx1, y_idx, e_dict0i, e_sset, y_sset, e_rev, y_rev, e_upper, e_trng1, e_trng2, y_trng1, y_trng2, e_sl, y_sl1, y_sl2, y_sl3, e_call, e_bi, y_bi, e_isi, y_isiI, y_isiB, y_isiB2, y_isiI2, y_isiT, y_isiS, y_isiL, e_lenset, e_meth, y_meth2, e_comp, y_comp, y_mk, y_mkT, m_f, m_t, e_o0, asI_int, e_o1, y_trB, e_c0, e_c1, e_nil, e_cons, y_es, y_con, i_val, y_valT, y_valL, i_rng2, y_rng, i_rng1, enuT_tup, i_enuT, i_zip, y_zip, t_set, y_set, setA_nil, setA_cons, t_par, tgtA_name, tgtA_pair, tgtA_three, t_tgt, t_setI, y_put1, y_put2, t_ret, y_ret, t_retN, t_ifs, y_ifs, t_wh, t_fors, t_ex, y_ex, t_raise, t_tryR, ct_nx, ct_rt, ct_ex, pik_nil, pik_cons, n_ex, q_ex, z_exS, z_exB, t_brk, t_cnt, t_pass, t_nil, t_cons, q_nx, q_rt, q_bk, q_ct, q_if, n_if, n_rt, n_nx, g_ok, g_bl, g_int, g_bind, g_bindS, z_bind, z_bindS, z_o, z_if, z_no, List.getElem?_cons_zero, List.getElem?_cons_succ, Option.join_some, List.set_cons_zero, List.set_cons_succ, neg, getIx, seqOf, lstOf, rd, itemsOf, wipeS, D.same, ix_0, ix_1, ix_2, sl_to, b_add, b_sub, b_mul, b_div, b_mod, b_pow, b_cat, b_catT, b_catL, c_lt, c_le, c_gt, c_ge, c_eqI, c_neI, c_eqS, c_neS, c_eqB, c_neB, c_isN, c_notN, c_memL, c_nmemL, c_memT, c_nmemT, k_lenT, k_lenL, k_lenR, k_lenS, k_intI, k_intB, k_abs, k_tupL, k_tupT, k_max2, k_min2, k_divmod, k_all, k_sorted, k_sum, List.length_cons, List.length_nil, List.length_map, if_true, Bool.true_and, Bool.and_true, Bool.not_true, Bool.not_false, decide_true, Bool.false_eq_true, if_false, Int.reduceLT, Int.reduceLE, Int.reduceNeg, Int.reducePow, Int.reduceAdd, Int.reduceSub, Int.reduceMul, Nat.reduceAdd, Nat.reducePow, Nat.reduceLT, Nat.reduceLeDiff, Int.reduceEq, cond_true, cond_false, Bool.cond_false_right, Bool.cond_false_left, Bool.cond_true_left, Bool.cond_true_right, e1, e2]
    generalize (S0.set p o1).set p o2 = S1
    simp only [s_all 18, e_int, e_bl, e_non, e_str, e_var, e_con, e_fnv, e_bin, y_bin1, y_bin, e_neg, e_not, y_not, y_notI, e_cmp, y_cmp1, y_cmp, e_chain, y_ch1, y_ch2, y_ch3, e_and, e_or, e_and1, e_or1, e_and2, e_or2, y_and, y_or, e_ite, y_ite, e_tup, y_tup0, y_tup1, y_tup2, y_tup3, y_tup4, y_tup5, e_lst, y_lst, e_idx, y_idx1, y_idx, e_dict0i, e_sset, y_sset, e_rev, y_rev, e_upper, e_trng1, e_trng2, y_trng1, y_trng2, e_sl, y_sl1, y_sl2, y_sl3, e_call, e_bi, y_bi, e_isi, y_isiI, y_isiB, y_isiB2, y_isiI2, y_isiT, y_isiS, y_isiL, e_lenset, e_meth, y_meth2, e_comp, y_comp, y_mk, y_mkT, m_f, m_t, e_o0, asI_int, e_o1, y_trB, e_c0, e_c1, e_nil, e_cons, y_es, y_con, i_val, y_valT, y_valL, i_rng2, y_rng, i_rng1, enuT_tup, i_enuT, i_zip, y_zip, t_set, y_set, setA_nil, setA_cons, t_par, tgtA_name, tgtA_pair, tgtA_three, t_tgt, t_setI, y_put1, y_put2, t_ret, y_ret, t_retN, t_ifs, y_ifs, t_wh, t_fors, t_ex, y_ex, t_raise, t_tryR, ct_nx, ct_rt, ct_ex, pik_nil, pik_cons, n_ex, q_ex, z_exS, z_exB, t_brk, t_cnt, t_pass, t_nil, t_cons, q_nx, q_rt, q_bk, q_ct, q_if, n_if, n_rt, n_nx, g_ok, g_bl, g_int, g_bind, g_bindS, z_bind, z_bindS, z_o, z_if, z_no, List.getElem?_cons_zero, List.getElem?_cons_succ, Option.join_some, List.set_cons_zero, List.set_cons_succ, neg, getIx, seqOf, lstOf, rd, itemsOf, wipeS, D.same, ix_0, ix_1, ix_2, sl_to, b_add, b_sub, b_mul, b_div, b_mod, b_pow, b_cat, b_catT, b_catL, c_lt, c_le, c_gt, c_ge, c_eqI, c_neI, c_eqS, c_neS, c_eqB, c_neB, c_isN, c_notN, c_memL, c_nmemL, c_memT, c_nmemT, k_lenT, k_lenL, k_lenR, k_lenS, k_intI, k_intB, k_abs, k_tupL, k_tupT, k_max2, k_min2, k_divmod, k_all, k_sorted, k_sum, List.length_cons, List.length_nil, List.length_map, if_true, Bool.true_and, Bool.and_true, Bool.not_true, Bool.not_false, decide_true, Bool.false_eq_true, if_false, Int.reduceLT, Int.reduceLE, Int.reduceNeg, Int.reducePow, Int.reduceAdd, Int.reduceSub, Int.reduceMul, Nat.reduceAdd, Nat.reducePow, Nat.reduceLT, Nat.reduceLeDiff, Int.reduceEq, cond_true, cond_false, Bool.cond_false_right, Bool.cond_false_left, Bool.cond_true_left, Bool.cond_true_right]
    have e13 : ∀ S, rngS (.int 13) S = .ok { xs := (List.range 13).map fun i => .int (i : Nat) } S := fun S => rngS_nat 13 (by decide) S
    have l13 : ((List.range 13).length : Int) = 13 := rfl
    simp only [List.length_range]
    rw [show ((13 : Nat) : Int) = 13 from rfl]
    simp only [e13, e_int, e_bl, e_non, e_str, e_var, e_con, e_fnv, e_bin, y_bin1, y_bin, e_neg, e_not, y_not, y_notI, e_cmp, y_cmp1, y_cmp, e_chain, y_ch1, y_ch2, y_ch3, e_and, e_or, e_and1, e_or1, e_and2, e_or2, y_and, y_or, e_ite, y_ite, e_tup, y_tup0, y_tup1, y_tup2, y_tup3, y_tup4, y_tup5, e_lst, y_lst, e_idx, y_idx1, y_idx, e_dict0i, e_sset, y_sset, e_rev, y_rev, e_upper, e_trng1, e_trng2, y_trng1, y_trng2, e_sl, y_sl1, y_sl2, y_sl3, e_call, e_bi, y_bi, e_isi, y_isiI, y_isiB, y_isiB2, y_isiI2, y_isiT, y_isiS, y_isiL, e_lenset, e_meth, y_meth2, e_comp, y_comp, y_mk, y_mkT, m_f, m_t, e_o0, asI_int, e_o1, y_trB, e_c0, e_c1, e_nil, e_cons, y_es, y_con, i_val, y_valT, y_valL, i_rng2, y_rng, i_rng1, enuT_tup, i_enuT, i_zip, y_zip, t_set, y_set, setA_nil, setA_cons, t_par, tgtA_name, tgtA_pair, tgtA_three, t_tgt, t_setI, y_put1, y_put2, t_ret, y_ret, t_retN, t_ifs, y_ifs, t_wh, t_fors, t_ex, y_ex, t_raise, t_tryR, ct_nx, ct_rt, ct_ex, pik_nil, pik_cons, n_ex, q_ex, z_exS, z_exB, t_brk, t_cnt, t_pass, t_nil, t_cons, q_nx, q_rt, q_bk, q_ct, q_if, n_if, n_rt, n_nx, g_ok, g_bl, g_int, g_bind, g_bindS, z_bind, z_bindS, z_o, z_if, z_no, List.getElem?_cons_zero, List.getElem?_cons_succ, Option.join_some, List.set_cons_zero, List.set_cons_succ, neg, getIx, seqOf, lstOf, rd, itemsOf, wipeS, D.same, ix_0, ix_1, ix_2, sl_to, b_add, b_sub, b_mul, b_div, b_mod, b_pow, b_cat, b_catT, b_catL, c_lt, c_le, c_gt, c_ge, c_eqI, c_neI, c_eqS, c_neS, c_eqB, c_neB, c_isN, c_notN, c_memL, c_nmemL, c_memT, c_nmemT, k_lenT, k_lenL, k_lenR, k_lenS, k_intI, k_intB, k_abs, k_tupL, k_tupT, k_max2, k_min2, k_divmod, k_all, k_sorted, k_sum, List.length_cons, List.length_nil, List.length_map, if_true, Bool.true_and, Bool.and_true, Bool.not_true, Bool.not_false, decide_true, Bool.false_eq_true, if_false, Int.reduceLT, Int.reduceLE, Int.reduceNeg, Int.reducePow, Int.reduceAdd, Int.reduceSub, Int.reduceMul, Nat.reduceAdd, Nat.reducePow, Nat.reduceLT, Nat.reduceLeDiff, Int.reduceEq, cond_true, cond_false, Bool.cond_false_right, Bool.cond_false_left, Bool.cond_true_left, Bool.cond_true_right]
    generalize hf : forB _ _ _ _ _ _ = z
    obtain ⟨τ', S', rfl, ⟨a6', rfl⟩, hT⟩ := forB_inv hf (fun τ S' => (∃ a6, τ = [some (.scr (ns.map .int)), some (.int (k : Nat)), some (.loc p), some (.str t), some (.int (r : Nat)), some (.lst ((List.range 13).map fun k => .loc (S1.length + k))), a6, none]) ∧ S' = S1 ++ errs (r : Nat)) (by
      rintro i hi τ S ⟨⟨a6, rfl⟩, rfl⟩
      refine ⟨_, rfl, ?_⟩
      have hi : i < 13 := by simpa using hi
      obtain ⟨gs, hg⟩ := errs_at S1 (r : Nat) i hi
      generalize S1 ++ errs (r : Nat) = S at hg ⊢
      have hc := s_classes 19 (S1.length + i) (i + 1) gs S hg
      have hix : Ev.ix 13 ((i : Nat) : Int) = some i := ix_at hi
      have hat : ((List.range 13).map fun k => D.loc (S1.length + k))[i]? = some (.loc (S1.length + i)) := by
        rw [List.getElem?_map, List.getElem?_range hi]; rfl
      simp only [e_int, e_bl, e_non, e_str, e_var, e_con, e_fnv, e_bin, y_bin1, y_bin, e_neg, e_not, y_not, y_notI, e_cmp, y_cmp1, y_cmp, e_chain, y_ch1, y_ch2, y_ch3, e_and, e_or, e_and1, e_or1, e_and2, e_or2, y_and, y_or, e_ite, y_ite, e_tup, y_tup0, y_tup1, y_tup2, y_tup3, y_tup4, y_tup5, e_lst, y_lst, e_idx, y_idx1, y_idx, e_dict0i, e_sset, y_sset, e_rev, y_rev, e_upper, e_trng1, e_trng2, y_trng1, y_trng2, e_sl, y_sl1, y_sl2, y_sl3, e_call, e_bi, y_bi, e_isi, y_isiI, y_isiB, y_isiB2, y_isiI2, y_isiT, y_isiS, y_isiL, e_lenset, e_meth, y_meth2, e_comp, y_comp, y_mk, y_mkT, m_f, m_t, e_o0, asI_int, e_o1, y_trB, e_c0, e_c1, e_nil, e_cons, y_es, y_con, i_val, y_valT, y_valL, i_rng2, y_rng, i_rng1, enuT_tup, i_enuT, i_zip, y_zip, t_set, y_set, setA_nil, setA_cons, t_par, tgtA_name, tgtA_pair, tgtA_three, t_tgt, t_setI, y_put1, y_put2, t_ret, y_ret, t_retN, t_ifs, y_ifs, t_wh, t_fors, t_ex, y_ex, t_raise, t_tryR, ct_nx, ct_rt, ct_ex, pik_nil, pik_cons, n_ex, q_ex, z_exS, z_exB, t_brk, t_cnt, t_pass, t_nil, t_cons, q_nx, q_rt, q_bk, q_ct, q_if, n_if, n_rt, n_nx, g_ok, g_bl, g_int, g_bind, g_bindS, z_bind, z_bindS, z_o, z_if, z_no, List.getElem?_cons_zero, List.getElem?_cons_succ, Option.join_some, List.set_cons_zero, List.set_cons_succ, neg, getIx, seqOf, lstOf, rd, itemsOf, wipeS, D.same, ix_0, ix_1, ix_2, sl_to, b_add, b_sub, b_mul, b_div, b_mod, b_pow, b_cat, b_catT, b_catL, c_lt, c_le, c_gt, c_ge, c_eqI, c_neI, c_eqS, c_neS, c_eqB, c_neB, c_isN, c_notN, c_memL, c_nmemL, c_memT, c_nmemT, k_lenT, k_lenL, k_lenR, k_lenS, k_intI, k_intB, k_abs, k_tupL, k_tupT, k_max2, k_min2, k_divmod, k_all, k_sorted, k_sum, List.length_cons, List.length_nil, List.length_map, if_true, Bool.true_and, Bool.and_true, Bool.not_true, Bool.not_false, decide_true, Bool.false_eq_true, if_false, Int.reduceLT, Int.reduceLE, Int.reduceNeg, Int.reducePow, Int.reduceAdd, Int.reduceSub, Int.reduceMul, Nat.reduceAdd, Nat.reducePow, Nat.reduceLT, Nat.reduceLeDiff, Int.reduceEq, cond_true, cond_false, Bool.cond_false_right, Bool.cond_false_left, Bool.cond_true_left, Bool.cond_true_right, List.length_range, hix, hat, hc]
      rw [show ((13 : Nat) : Int) = 13 from rfl]
      simp only [e13, e_int, e_bl, e_non, e_str, e_var, e_con, e_fnv, e_bin, y_bin1, y_bin, e_neg, e_not, y_not, y_notI, e_cmp, y_cmp1, y_cmp, e_chain, y_ch1, y_ch2, y_ch3, e_and, e_or, e_and1, e_or1, e_and2, e_or2, y_and, y_or, e_ite, y_ite, e_tup, y_tup0, y_tup1, y_tup2, y_tup3, y_tup4, y_tup5, e_lst, y_lst, e_idx, y_idx1, y_idx, e_dict0i, e_sset, y_sset, e_rev, y_rev, e_upper, e_trng1, e_trng2, y_trng1, y_trng2, e_sl, y_sl1, y_sl2, y_sl3, e_call, e_bi, y_bi, e_isi, y_isiI, y_isiB, y_isiB2, y_isiI2, y_isiT, y_isiS, y_isiL, e_lenset, e_meth, y_meth2, e_comp, y_comp, y_mk, y_mkT, m_f, m_t, e_o0, asI_int, e_o1, y_trB, e_c0, e_c1, e_nil, e_cons, y_es, y_con, i_val, y_valT, y_valL, i_rng2, y_rng, i_rng1, enuT_tup, i_enuT, i_zip, y_zip, t_set, y_set, setA_nil, setA_cons, t_par, tgtA_name, tgtA_pair, tgtA_three, t_tgt, t_setI, y_put1, y_put2, t_ret, y_ret, t_retN, t_ifs, y_ifs, t_wh, t_fors, t_ex, y_ex, t_raise, t_tryR, ct_nx, ct_rt, ct_ex, pik_nil, pik_cons, n_ex, q_ex, z_exS, z_exB, t_brk, t_cnt, t_pass, t_nil, t_cons, q_nx, q_rt, q_bk, q_ct, q_if, n_if, n_rt, n_nx, g_ok, g_bl, g_int, g_bind, g_bindS, z_bind, z_bindS, z_o, z_if, z_no, List.getElem?_cons_zero, List.getElem?_cons_succ, Option.join_some, List.set_cons_zero, List.set_cons_succ, neg, getIx, seqOf, lstOf, rd, itemsOf, wipeS, D.same, ix_0, ix_1, ix_2, sl_to, b_add, b_sub, b_mul, b_div, b_mod, b_pow, b_cat, b_catT, b_catL, c_lt, c_le, c_gt, c_ge, c_eqI, c_neI, c_eqS, c_neS, c_eqB, c_neB, c_isN, c_notN, c_memL, c_nmemL, c_memT, c_nmemT, k_lenT, k_lenL, k_lenR, k_lenS, k_intI, k_intB, k_abs, k_tupL, k_tupT, k_max2, k_min2, k_divmod, k_all, k_sorted, k_sum, List.length_cons, List.length_nil, List.length_map, if_true, Bool.true_and, Bool.and_true, Bool.not_true, Bool.not_false, decide_true, Bool.false_eq_true, if_false, Int.reduceLT, Int.reduceLE, Int.reduceNeg, Int.reducePow, Int.reduceAdd, Int.reduceSub, Int.reduceMul, Nat.reduceAdd, Nat.reducePow, Nat.reduceLT, Nat.reduceLeDiff, Int.reduceEq, cond_true, cond_false, Bool.cond_false_right, Bool.cond_false_left, Bool.cond_true_left, Bool.cond_true_right]
      generalize hf : compB _ _ _ _ _ _ _ = z
      have q := compB_map hf (fun j => .bl (((j : Nat) : Int) == ((i : Nat) : Int))) (by
        rintro j -
        refine ⟨_, rfl, ?_⟩
        simp only [e_int, e_bl, e_non, e_str, e_var, e_con, e_fnv, e_bin, y_bin1, y_bin, e_neg, e_not, y_not, y_notI, e_cmp, y_cmp1, y_cmp, e_chain, y_ch1, y_ch2, y_ch3, e_and, e_or, e_and1, e_or1, e_and2, e_or2, y_and, y_or, e_ite, y_ite, e_tup, y_tup0, y_tup1, y_tup2, y_tup3, y_tup4, y_tup5, e_lst, y_lst, e_idx, y_idx1, y_idx, e_dict0i, e_sset, y_sset, e_rev, y_rev, e_upper, e_trng1, e_trng2, y_trng1, y_trng2, e_sl, y_sl1, y_sl2, y_sl3, e_call, e_bi, y_bi, e_isi, y_isiI, y_isiB, y_isiB2, y_isiI2, y_isiT, y_isiS, y_isiL, e_lenset, e_meth, y_meth2, e_comp, y_comp, y_mk, y_mkT, m_f, m_t, e_o0, asI_int, e_o1, y_trB, e_c0, e_c1, e_nil, e_cons, y_es, y_con, i_val, y_valT, y_valL, i_rng2, y_rng, i_rng1, enuT_tup, i_enuT, i_zip, y_zip, t_set, y_set, setA_nil, setA_cons, t_par, tgtA_name, tgtA_pair, tgtA_three, t_tgt, t_setI, y_put1, y_put2, t_ret, y_ret, t_retN, t_ifs, y_ifs, t_wh, t_fors, t_ex, y_ex, t_raise, t_tryR, ct_nx, ct_rt, ct_ex, pik_nil, pik_cons, n_ex, q_ex, z_exS, z_exB, t_brk, t_cnt, t_pass, t_nil, t_cons, q_nx, q_rt, q_bk, q_ct, q_if, n_if, n_rt, n_nx, g_ok, g_bl, g_int, g_bind, g_bindS, z_bind, z_bindS, z_o, z_if, z_no, List.getElem?_cons_zero, List.getElem?_cons_succ, Option.join_some, List.set_cons_zero, List.set_cons_succ, neg, getIx, seqOf, lstOf, rd, itemsOf, wipeS, D.same, ix_0, ix_1, ix_2, sl_to, b_add, b_sub, b_mul, b_div, b_mod, b_pow, b_cat, b_catT, b_catL, c_lt, c_le, c_gt, c_ge, c_eqI, c_neI, c_eqS, c_neS, c_eqB, c_neB, c_isN, c_notN, c_memL, c_nmemL, c_memT, c_nmemT, k_lenT, k_lenL, k_lenR, k_lenS, k_intI, k_intB, k_abs, k_tupL, k_tupT, k_max2, k_min2, k_divmod, k_all, k_sorted, k_sum, List.length_cons, List.length_nil, List.length_map, if_true, Bool.true_and, Bool.and_true, Bool.not_true, Bool.not_false, decide_true, Bool.false_eq_true, if_false, Int.reduceLT, Int.reduceLE, Int.reduceNeg, Int.reducePow, Int.reduceAdd, Int.reduceSub, Int.reduceMul, Nat.reduceAdd, Nat.reducePow, Nat.reduceLT, Nat.reduceLeDiff, Int.reduceEq, cond_true, cond_false, Bool.cond_false_right, Bool.cond_false_left, Bool.cond_true_left, Bool.cond_true_right])
      subst q
      have all1 : [0, 1, 2, 3, 4, 5, 6, 7, 8, 9, 10, 11, 12, 13].contains (i + 1) = true := by
        simp only [List.contains_iff_mem, List.mem_cons, List.not_mem_nil, or_false]
        omega
      simp only [e_int, e_bl, e_non, e_str, e_var, e_con, e_fnv, e_bin, y_bin1, y_bin, e_neg, e_not, y_not, y_notI, e_cmp, y_cmp1, y_cmp, e_chain, y_ch1, y_ch2, y_ch3, e_and, e_or, e_and1, e_or1, e_and2, e_or2, y_and, y_or, e_ite, y_ite, e_tup, y_tup0, y_tup1, y_tup2, y_tup3, y_tup4, y_tup5, e_lst, y_lst, e_idx, y_idx1, y_idx, e_dict0i, e_sset, y_sset, e_rev, y_rev, e_upper, e_trng1, e_trng2, y_trng1, y_trng2, e_sl, y_sl1, y_sl2, y_sl3, e_call, e_bi, y_bi, e_isi, y_isiI, y_isiB, y_isiB2, y_isiI2, y_isiT, y_isiS, y_isiL, e_lenset, e_meth, y_meth2, e_comp, y_comp, y_mk, y_mkT, m_f, m_t, e_o0, asI_int, e_o1, y_trB, e_c0, e_c1, e_nil, e_cons, y_es, y_con, i_val, y_valT, y_valL, i_rng2, y_rng, i_rng1, enuT_tup, i_enuT, i_zip, y_zip, t_set, y_set, setA_nil, setA_cons, t_par, tgtA_name, tgtA_pair, tgtA_three, t_tgt, t_setI, y_put1, y_put2, t_ret, y_ret, t_retN, t_ifs, y_ifs, t_wh, t_fors, t_ex, y_ex, t_raise, t_tryR, ct_nx, ct_rt, ct_ex, pik_nil, pik_cons, n_ex, q_ex, z_exS, z_exB, t_brk, t_cnt, t_pass, t_nil, t_cons, q_nx, q_rt, q_bk, q_ct, q_if, n_if, n_rt, n_nx, g_ok, g_bl, g_int, g_bind, g_bindS, z_bind, z_bindS, z_o, z_if, z_no, List.getElem?_cons_zero, List.getElem?_cons_succ, Option.join_some, List.set_cons_zero, List.set_cons_succ, neg, getIx, seqOf, lstOf, rd, itemsOf, wipeS, D.same, ix_0, ix_1, ix_2, sl_to, b_add, b_sub, b_mul, b_div, b_mod, b_pow, b_cat, b_catT, b_catL, c_lt, c_le, c_gt, c_ge, c_eqI, c_neI, c_eqS, c_neS, c_eqB, c_neB, c_isN, c_notN, c_memL, c_nmemL, c_memT, c_nmemT, k_lenT, k_lenL, k_lenR, k_lenS, k_intI, k_intB, k_abs, k_tupL, k_tupT, k_max2, k_min2, k_divmod, k_all, k_sorted, k_sum, List.length_cons, List.length_nil, List.length_map, if_true, Bool.true_and, Bool.and_true, Bool.not_true, Bool.not_false, decide_true, Bool.false_eq_true, if_false, Int.reduceLT, Int.reduceLE, Int.reduceNeg, Int.reducePow, Int.reduceAdd, Int.reduceSub, Int.reduceMul, Nat.reduceAdd, Nat.reducePow, Nat.reduceLT, Nat.reduceLeDiff, Int.reduceEq, cond_true, cond_false, Bool.cond_false_right, Bool.cond_false_left, Bool.cond_true_left, Bool.cond_true_right, ne_same i hi, e_isE, hix, hat, List.length_range, y_isE _ _ hg, all1]
      exact ⟨_, _, .inl rfl, ⟨_, rfl⟩, rfl⟩) ⟨⟨_, rfl⟩, rfl⟩
    subst hT
    have g11 : (S1 ++ errs (r : Nat))[S1.length + 11]? = some (.ins 12 [("limit", .int (r : Nat))]) := by
      rw [List.getElem?_append_right (Nat.le_add_right _ _), Nat.add_sub_cancel_left]; rfl
    have g12 : (S1 ++ errs (r : Nat))[S1.length + 12]? = some (.ins 13 [("row", .int (r : Nat))]) := by
      rw [List.getElem?_append_right (Nat.le_add_right _ _), Nat.add_sub_cancel_left]; rfl
    have i11 : Ev.ix 13 11 = some 11 := rfl
    have i12 : Ev.ix 13 12 = some 12 := rfl
    have t11 : ((List.range 13).map fun k => D.loc (S1.length + k))[11]? = some (.loc (S1.length + 11)) := rfl
    have t12 : ((List.range 13).map fun k => D.loc (S1.length + k))[12]? = some (.loc (S1.length + 12)) := rfl
    have q1 : List.lookup ("limit" : Str) [("limit", D.int (r : Nat))] = some (.int (r : Nat)) := rfl
    have q2 : List.lookup ("row" : Str) [("row", D.int (r : Nat))] = some (.int (r : Nat)) := rfl
    simp only [e_int, e_bl, e_non, e_str, e_var, e_con, e_fnv, e_bin, y_bin1, y_bin, e_neg, e_not, y_not, y_notI, e_cmp, y_cmp1, y_cmp, e_chain, y_ch1, y_ch2, y_ch3, e_and, e_or, e_and1, e_or1, e_and2, e_or2, y_and, y_or, e_ite, y_ite, e_tup, y_tup0, y_tup1, y_tup2, y_tup3, y_tup4, y_tup5, e_lst, y_lst, e_idx, y_idx1, y_idx, e_dict0i, e_sset, y_sset, e_rev, y_rev, e_upper, e_trng1, e_trng2, y_trng1, y_trng2, e_sl, y_sl1, y_sl2, y_sl3, e_call, e_bi, y_bi, e_isi, y_isiI, y_isiB, y_isiB2, y_isiI2, y_isiT, y_isiS, y_isiL, e_lenset, e_meth, y_meth2, e_comp, y_comp, y_mk, y_mkT, m_f, m_t, e_o0, asI_int, e_o1, y_trB, e_c0, e_c1, e_nil, e_cons, y_es, y_con, i_val, y_valT, y_valL, i_rng2, y_rng, i_rng1, enuT_tup, i_enuT, i_zip, y_zip, t_set, y_set, setA_nil, setA_cons, t_par, tgtA_name, tgtA_pair, tgtA_three, t_tgt, t_setI, y_put1, y_put2, t_ret, y_ret, t_retN, t_ifs, y_ifs, t_wh, t_fors, t_ex, y_ex, t_raise, t_tryR, ct_nx, ct_rt, ct_ex, pik_nil, pik_cons, n_ex, q_ex, z_exS, z_exB, t_brk, t_cnt, t_pass, t_nil, t_cons, q_nx, q_rt, q_bk, q_ct, q_if, n_if, n_rt, n_nx, g_ok, g_bl, g_int, g_bind, g_bindS, z_bind, z_bindS, z_o, z_if, z_no, List.getElem?_cons_zero, List.getElem?_cons_succ, Option.join_some, List.set_cons_zero, List.set_cons_succ, neg, getIx, seqOf, lstOf, rd, itemsOf, wipeS, D.same, ix_0, ix_1, ix_2, sl_to, b_add, b_sub, b_mul, b_div, b_mod, b_pow, b_cat, b_catT, b_catL, c_lt, c_le, c_gt, c_ge, c_eqI, c_neI, c_eqS, c_neS, c_eqB, c_neB, c_isN, c_notN, c_memL, c_nmemL, c_memT, c_nmemT, k_lenT, k_lenL, k_lenR, k_lenS, k_intI, k_intB, k_abs, k_tupL, k_tupT, k_max2, k_min2, k_divmod, k_all, k_sorted, k_sum, List.length_cons, List.length_nil, List.length_map, if_true, Bool.true_and, Bool.and_true, Bool.not_true, Bool.not_false, decide_true, Bool.false_eq_true, if_false, Int.reduceLT, Int.reduceLE, Int.reduceNeg, Int.reducePow, Int.reduceAdd, Int.reduceSub, Int.reduceMul, Nat.reduceAdd, Nat.reducePow, Nat.reduceLT, Nat.reduceLeDiff, Int.reduceEq, cond_true, cond_false, Bool.cond_false_right, Bool.cond_false_left, Bool.cond_true_left, Bool.cond_true_right, List.length_range, i11, i12, t11, t12, e_fld, y_fld _ _ g11, y_fld _ _ g12, q1, q2, beq_self_eq_true]
    exact ⟨_, _, .inl rfl, _, _, _, _, _, _, rfl⟩) ⟨_, _, _, _, _, _, rfl⟩
  exact ⟨S', rfl⟩
end Lw
theorem PySem.Challenge.cw_barredhalves_k17_errors_and_their_classe_holds : PySem.Challenge.rw_barredhalves_k17_errors_and_their_classe.Holds :=
  Lw.end_ Lw.hol
