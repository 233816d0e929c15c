import PyProof.Rows.All
import Wide.All
import OpenK.AllK
import Wide.FinOn
import HandS.ForMost
import HandS.Lambda
import HandS.Exc
import HandS.TryMany
import HandS.Flow
import HandS.Style
import HandS.Deep
import HandS.TupAny
import HandS.TupMul
import HandS.CallSlots
import HandS.Zip
import HandS.WordsExc
import HandS.ExcOwn
import HandS.IsInst
import HandS.HeadHook4
import KE.DataEq
import KE.DataFind
import KE.DataIsa
import PyProof.CollectStr
import PyProof.ListRange
import HandS.Conv
import HandS.ReCall
import HandS.Strs
import HandS.Rev
import KE.DataMinMax
import HandS.WordsDict
import KE.SortData
import KE.LtData
import HandS.Iter
import KE.GoesMore
import HandS.ListItems
import HandS.DictComp
import HandS.SetFor
import HandS.TupSets
import HandS.Small
import KE.KStateDown
import HandS.Defaults
import HandS.Head0
import HandS.Head1
import HandS.Head2
import HandS.HeadHook1
import HandS.HeadHook2
import HandS.HeadHook3
import HandS.HeadWalk
import PySem.Challenge.RW_heardonce_k47_houses_and_steps_that_are
set_option linter.all false
set_option Elab.async false
section
/-! EvCore: plain data, a small language of expressions and statements, and what they come to. No program in sight. -/
set_option autoImplicit false
namespace Ev

/-- plain data: what is never changed in place -/
inductive D where
  | none | bool (b : Bool) | int (i : Int) | str (s : List Nat) | list (xs : List D) | tup (xs : List D)

/-- a value: plain data, a cell of the store, a table that is only read -/
inductive PV where
  | d (x : D) | ref (l : Nat) | dict (kvs : List (D × D)) | scr (xs : List D) | tp (xs : List PV)

inductive Cell where
  | lst (xs : List PV) | dic (kvs : List (D × PV))

abbrev Hh := List Cell
abbrev Env := List (Option PV)

inductive R (α : Type) where
  | ok (a : α) (h : Hh) | exc (c : Nat) (v : PV) (h : Hh) | stuck
abbrev M (α : Type) := Hh → R α
def M.ret {α : Type} (a : α) : M α := fun h => .ok a h
def M.bnd {α β : Type} (x : M α) (f : α → M β) : M β := fun h => match x h with
  | .ok a h' => f a h'
  | .exc c v h' => .exc c v h'
  | .stuck => .stuck
def M.lift {α : Type} (f : Hh → Option α) : M α := fun h => match f h with
  | some a => .ok a h
  | .none => .stuck
def M.stuck {α : Type} : M α := fun _ => .stuck
/-- an exception within is out of reach -/
def M.calm {α : Type} (x : M α) : M α := fun h => match x h with
  | .ok a h' => .ok a h'
  | _ => .stuck

theorem M.ret_ap {α : Type} (a : α) (h : Hh) : M.ret a h = .ok a h := rfl
theorem M.bnd_ok {α β : Type} {x : M α} {f : α → M β} {h h' : Hh} {a : α} (e : x h = .ok a h') : M.bnd x f h = f a h' := by
  simp only [M.bnd, e]
theorem M.bnd_exc {α β : Type} {x : M α} {f : α → M β} {h h' : Hh} {c : Nat} {v : PV} (e : x h = .exc c v h') : M.bnd x f h = .exc c v h' := by
  simp only [M.bnd, e]
theorem M.bnd_stuck {α β : Type} {x : M α} {f : α → M β} {h : Hh} (e : x h = .stuck) : M.bnd x f h = .stuck := by
  simp only [M.bnd, e]
theorem M.lift_some {α : Type} {f : Hh → Option α} {h : Hh} {a : α} (e : f h = some a) : M.lift f h = .ok a h := by
  simp only [M.lift, e]
theorem M.calm_ok {α : Type} {x : M α} {h h' : Hh} {a : α} (e : x h = .ok a h') : M.calm x h = .ok a h' := by
  simp only [M.calm, e]

theorem M.bnd_assoc {α β γ : Type} (x : M α) (f : α → M β) (g : β → M γ) : M.bnd (M.bnd x f) g = M.bnd x fun a => M.bnd (f a) g := by
  funext h
  simp only [M.bnd]
  cases x h <;> rfl
theorem M.ret_bnd {α β : Type} (a : α) (f : α → M β) : M.bnd (M.ret a) f = f a := rfl
theorem M.stuck_bnd {α β : Type} (f : α → M β) : M.bnd M.stuck f = M.stuck := rfl

abbrev LIM : Nat := 16777216

/-! ### equality, order, truth -/
mutual
def D.eqv : D → D → Bool
  | .none, .none => true
  | .bool a, .bool b => a == b
  | .bool a, .int j => (if a then 1 else 0) == j
  | .int i, .bool b => i == (if b then 1 else 0)
  | .int i, .int j => i == j
  | .str s, .str t => s == t
  | .list xs, .list ys => D.eqvs xs ys
  | .tup xs, .tup ys => D.eqvs xs ys
  | _, _ => false
def D.eqvs : List D → List D → Bool
  | [], [] => true
  | x :: xs, y :: ys => D.eqv x y && D.eqvs xs ys
  | _, _ => false
end

mutual
def D.shal : D → Nat → Bool
  | .list _, 0 => false
  | .list xs, n + 1 => D.shals xs n
  | .tup _, 0 => false
  | .tup xs, n + 1 => D.shals xs n
  | _, _ => true
def D.shals : List D → Nat → Bool
  | [], _ => true
  | x :: xs, n => D.shal x n && D.shals xs n
end
/-- one of two is not too deep -/
def near (a b : D) : Bool := a.shal 60 || b.shal 60

def ltStr : List Nat → List Nat → Bool
  | [], [] => false
  | [], _ :: _ => true
  | _ :: _, [] => false
  | a :: as, b :: bs => if a = b then ltStr as bs else decide (a < b)

def D.truthy : D → Bool
  | .none => false
  | .bool b => b
  | .int i => !(i == 0)
  | .str s => !s.isEmpty
  | .list xs => !xs.isEmpty
  | .tup xs => !xs.isEmpty

def allD : List PV → Option (List D)
  | [] => some []
  | .d x :: r => (allD r).map (x :: ·)
  | _ :: _ => .none

/-- a list of the store as data -/
def deref (h : Hh) : PV → Option D
  | .d x => some x
  | .ref l => match h[l]? with
    | some (.lst xs) => (allD xs).map D.list
    | _ => .none
  | _ => .none

def truthy (h : Hh) : PV → Option Bool
  | .d (.str s) => if s.length ≤ LIM then some (!s.isEmpty) else .none
  | .d x => some x.truthy
  | .ref l => match h[l]? with
    | some (.lst xs) => some (!xs.isEmpty)
    | some (.dic kvs) => some (!kvs.isEmpty)
    | .none => .none
  | .dict kvs => some (!kvs.isEmpty)
  | .scr xs => some (!xs.isEmpty)
  | .tp xs => some (!xs.isEmpty)

/-- the items of a list or a tuple -/
def items (h : Hh) : PV → Option (List PV)
  | .d (.list xs) => some (xs.map PV.d)
  | .d (.tup xs) => some (xs.map PV.d)
  | .ref l => match h[l]? with
    | some (.lst xs) => some xs
    | _ => .none
  | .tp xs => some xs
  | _ => .none
/-- a key of a dict -/
def isKey : D → Bool
  | .int _ => true
  | .str _ => true
  | _ => false
def dGet (kvs : List (D × PV)) (k : D) : Option PV := (kvs.find? fun p => D.eqv p.1 k).map (·.2)
def dPut (kvs : List (D × PV)) (k : D) (v : PV) : List (D × PV) :=
  if (kvs.any fun p => D.eqv p.1 k) = true then kvs.map (fun p => if D.eqv p.1 k = true then (p.1, v) else p) else kvs ++ [(k, v)]
def dDrop (kvs : List (D × PV)) (k : D) : List (D × PV) := kvs.filter fun p => !D.eqv p.1 k
def dMerge (kvs more : List (D × PV)) : List (D × PV) := more.foldl (fun acc p => dPut acc p.1 p.2) kvs
/-- the dict at a place of the store -/
def dicAt (h : Hh) : PV → Option (List (D × PV))
  | .ref l => match h[l]? with
    | some (.dic kvs) => some kvs
    | _ => .none
  | _ => .none

/-! ### operators -/
inductive Op where
  | add | sub | mul | fdiv | mod | pow | shl | shr
inductive Cm where
  | eq | ne | lt | le | gt | ge | isin | notin
inductive Ty where
  | int | str | bool | tuple | list | dict
inductive Bl where
  | len | all | any | tuple | list | sum | max | min | max2 | min2 | int | str | bool | ord | abs | sorted | sortedSet | lenSet | dict
inductive Mt where
  | index | count | split | join | get1 | get2 | upper

def bigInt (i : Int) : Bool := decide (-(2 ^ 64) < i) && decide (i < 2 ^ 64)

def addOp (h : Hh) : PV → PV → Option PV
  | .d (.int i), .d (.int j) => some (.d (.int (i + j)))
  | .d (.str s), .d (.str t) => if s.length + t.length ≤ LIM then some (.d (.str (s ++ t))) else .none
  | .d (.tup s), .d (.tup t) => if s.length + t.length ≤ LIM then some (.d (.tup (s ++ t))) else .none
  | .d (.list s), .d (.list t) => if s.length + t.length ≤ LIM then some (.d (.list (s ++ t))) else .none
  | .ref l, y => match deref h (.ref l), deref h y with
    | some (.list s), some (.list t) => if s.length + t.length ≤ LIM then some (.d (.list (s ++ t))) else .none
    | _, _ => .none
  | x, .ref l => match deref h x, deref h (.ref l) with
    | some (.list s), some (.list t) => if s.length + t.length ≤ LIM then some (.d (.list (s ++ t))) else .none
    | _, _ => .none
  | _, _ => .none
def mulOp : PV → PV → Option PV
  | .d (.int i), .d (.int j) => if bigInt i || bigInt j then some (.d (.int (i * j))) else .none
  | .d (.tup s), .d (.int k) => if decide (-1000 ≤ k) && decide (k ≤ 1000) && decide (s.length ≤ 1000) then some (.d (.tup (List.replicate k.toNat s).flatten)) else .none
  | .d (.list s), .d (.int k) => if decide (-1000 ≤ k) && decide (k ≤ 1000) && decide (s.length ≤ 1000) then some (.d (.list (List.replicate k.toNat s).flatten)) else .none
  | _, _ => .none
/-- two intsOf, the way of an operator on them -/
def intOp (f : Int → Int → Option Int) : PV → PV → Option PV
  | .d (.int i), .d (.int j) => (f i j).map fun r => .d (.int r)
  | _, _ => .none
def binop (h : Hh) : Op → PV → PV → Option PV
  | .add => addOp h
  | .mul => mulOp
  | .sub => intOp fun i j => some (i - j)
  | .fdiv => intOp fun i j => if decide (0 < j) && decide (j < 1073741824) then some (i / j) else .none
  | .mod => intOp fun i j => if decide (0 < j) then some (i % j) else .none
  | .pow => intOp fun i j => if decide (0 ≤ j) && decide (j ≤ 1000000) && decide (i.natAbs < 2 ^ 64) then some (i ^ j.toNat) else .none
  | .shl => intOp fun i j => if decide (0 ≤ j) && decide (j ≤ 1000000) && decide (i.natAbs < 2 ^ 64) then some (i * 2 ^ j.toNat) else .none
  | .shr => intOp fun i j => if decide (0 ≤ j) then some (i / 2 ^ j.toNat) else .none

def isinD (x : D) : D → Option Bool
  | .list ys => if near x (.list ys) then some (ys.any fun y => D.eqv y x) else .none
  | .tup ys => if near x (.tup ys) then some (ys.any fun y => D.eqv y x) else .none
  | .str t => match x with
    | .str [c] => some (t.contains c)
    | _ => .none
  | _ => .none
def isin (h : Hh) (x y : PV) : Option Bool := match y with
  | .dict kvs => match deref h x with
    | some k => some (kvs.any fun p => D.eqv p.1 k)
    | .none => .none
  | y => match dicAt h y with
    | some kvs => match x with
      | .d k => if isKey k then some (dGet kvs k).isSome else .none
      | _ => .none
    | .none => match deref h x, deref h y with
      | some a, some b => isinD a b
      | _, _ => .none

def ltD : D → D → Option Bool
  | .int i, .int j => some (decide (i < j))
  | .str s, .str t => some (ltStr s t)
  | _, _ => .none

def cmpop (h : Hh) (o : Cm) (x y : PV) : Option Bool := match o with
  | .eq => match deref h x, deref h y with
    | some a, some b => if near a b then some (D.eqv a b) else .none
    | _, _ => .none
  | .ne => match deref h x, deref h y with
    | some a, some b => if near a b then some (!D.eqv a b) else .none
    | _, _ => .none
  | .lt => match x, y with
    | .d a, .d b => ltD a b
    | _, _ => .none
  | .le => match x, y with
    | .d (.int i), .d (.int j) => some (decide (i ≤ j))
    | _, _ => .none
  | .gt => match x, y with
    | .d (.int i), .d (.int j) => some (decide (j < i))
    | _, _ => .none
  | .ge => match x, y with
    | .d (.int i), .d (.int j) => some (decide (j ≤ i))
    | _, _ => .none
  | .isin => isin h x y
  | .notin => (isin h x y).map (!·)

def isTyD : D → Ty → Bool
  | .int _, .int => true
  | .bool _, .int => true
  | .bool _, .bool => true
  | .str _, .str => true
  | .tup _, .tuple => true
  | .list _, .list => true
  | _, _ => false
/-- isinstance -/
def isTy (h : Hh) (x : PV) (t : Ty) : Option PV := (deref h x).map fun d => .d (.bool (isTyD d t))

def isNone : PV → Bool
  | .d .none => true
  | _ => false
/-- x is None, x is True: the latter where x is a bool -/
def isC (x : PV) : D → Option Bool
  | .none => some (isNone x)
  | .bool b => match x with
    | .d (.bool a) => some (a == b)
    | _ => .none
  | _ => .none

/-- the place of an index, as Python counts -/
def place (n : Nat) (i : Int) : Option Nat :=
  if 0 ≤ i then (if i.toNat < n then some i.toNat else .none) else (if (-i).toNat ≤ n then some (n - (-i).toNat) else .none)
/-- an end of a slice -/
def bound (n : Nat) (i : Int) : Nat := if 0 ≤ i then min i.toNat n else n - (-i).toNat
def cut {α : Type} (xs : List α) (lo hi : Option Int) : List α :=
  let a := match lo with | some i => bound xs.length i | .none => 0
  let b := match hi with | some i => bound xs.length i | .none => xs.length
  (xs.drop a).take (b - a)

def indexOp (h : Hh) : PV → PV → Option PV
  | .d (.list xs), .d (.int i) => (place xs.length i).bind fun j => (xs[j]?).map PV.d
  | .d (.tup xs), .d (.int i) => (place xs.length i).bind fun j => (xs[j]?).map PV.d
  | .d (.str s), .d (.int i) => if s.length ≤ LIM then (place s.length i).bind fun j => (s[j]?).map fun c => PV.d (.str [c]) else .none
  | .tp xs, .d (.int i) => (place xs.length i).bind fun j => xs[j]?
  | .ref l, .d k => match h[l]? with
    | some (.lst xs) => match k with
      | .int i => (place xs.length i).bind fun j => xs[j]?
      | _ => .none
    | some (.dic kvs) => if isKey k then dGet kvs k else .none
    | .none => .none
  | .dict kvs, .d k => (kvs.find? fun p => D.eqv p.1 k).map fun p => .d p.2
  | _, _ => .none

def optInt : Option PV → Option (Option Int)
  | .none => some .none
  | some (.d (.int i)) => some (some i)
  | some (.d .none) => some .none
  | _ => .none
def sliceOp (h : Hh) (x : PV) (lo hi : Option Int) : Option PV := match x with
  | .d (.list xs) => some (.d (.list (cut xs lo hi)))
  | .d (.tup xs) => some (.d (.tup (cut xs lo hi)))
  | .d (.str s) => if s.length ≤ LIM then some (.d (.str (cut s lo hi))) else .none
  | .ref l => match deref h (.ref l) with
    | some (.list xs) => some (.d (.list (cut xs lo hi)))
    | _ => .none
  | _ => .none

/-! ### built-ins -/
def intsOf : List D → Option (List Int)
  | [] => some []
  | .int i :: r => (intsOf r).map (i :: ·)
  | _ :: _ => .none
def boolsOf : List D → Option (List Bool)
  | [] => some []
  | .bool b :: r => (boolsOf r).map (b :: ·)
  | _ :: _ => .none
def strsOf : List D → Option (List (List Nat))
  | [] => some []
  | .str b :: r => (strsOf r).map (b :: ·)
  | _ :: _ => .none

def maxL : Int → List Int → Int
  | m, [] => m
  | m, x :: r => maxL (if m < x then x else m) r
def minL : Int → List Int → Int
  | m, [] => m
  | m, x :: r => minL (if x < m then x else m) r

def digits (n : Nat) : List Nat := (Nat.toDigits 10 n).map Char.toNat
def intStr (i : Int) : List Nat := if i < 0 then 45 :: digits i.natAbs else digits i.natAbs

/-- split at each c -/
def splitC (c : Nat) : List Nat → List (List Nat)
  | [] => [[]]
  | x :: r => if x = c then [] :: splitC c r else match splitC c r with
    | w :: ws => (x :: w) :: ws
    | [] => [[x]]
def joinL (sep : List Nat) : List (List Nat) → List Nat
  | [] => []
  | [w] => w
  | w :: ws => w ++ sep ++ joinL sep ws

/-! ### the order, where sorting is served: keys of data, place by place -/
mutual
def D.toks : D → List (Int ⊕ List Nat)
  | .none => []
  | .bool b => [.inl (if b = true then 1 else 0)]
  | .int n => [.inl n]
  | .str x => [.inr x]
  | .list xs => D.toksAll xs
  | .tup xs => D.toksAll xs
def D.toksAll : List D → List (Int ⊕ List Nat)
  | [] => [.inl 0]
  | x :: xs => .inl 1 :: (D.toks x ++ D.toksAll xs)
end
def ltTok : Int ⊕ List Nat → Int ⊕ List Nat → Bool
  | .inl a, .inl b => decide (a < b)
  | .inl _, .inr _ => true
  | .inr _, .inl _ => false
  | .inr a, .inr b => ltStr a b
def ltToks : List (Int ⊕ List Nat) → List (Int ⊕ List Nat) → Bool
  | [], [] => false
  | [], _ :: _ => true
  | _ :: _, [] => false
  | x :: r, y :: t => ltTok x y || (!ltTok y x && ltToks r t)
mutual
/-- the two can be compared, place by place -/
def D.like : D → D → Bool
  | .none, .none => true
  | .bool _, .bool _ => true
  | .int _, .int _ => true
  | .str _, .str _ => true
  | .list xs, .list ys => D.likes xs ys
  | .tup xs, .tup ys => D.likes xs ys
  | _, _ => false
def D.likes : List D → List D → Bool
  | x :: xs, y :: ys => D.like x y && D.likes xs ys
  | [], _ => true
  | _ :: _, [] => true
end
/-- .. as far as they are equal -/
def D.wlikes : List D → List D → Bool
  | x :: xs, y :: ys => D.like x y && (!D.eqv x y || D.wlikes xs ys)
  | [], _ => true
  | _ :: _, [] => true
/-- all of a sort that can be sorted: texts, ints, .. or tuples whose first items are alike -/
def sortable (xs : List D) : Bool :=
  (xs.all fun x => x.shal 50) && ((xs.all fun x => match x with
    | .tup (a :: r) => xs.all fun y => match y with
      | .tup (b :: t) => D.wlikes (a :: r) (b :: t)
      | _ => false
    | _ => false) || (xs.all fun x => (match x with
      | .tup _ => false
      | .none => false
      | _ => true) && xs.all fun y => D.like x y))
def sortD (xs : List D) : List D := xs.mergeSort fun a b => !ltToks b.toks a.toks
def sortedOp (h : Hh) (v : PV) : Option PV := match dicAt h v with
  | some kvs => if sortable (kvs.map (·.1)) then some (.d (.list (sortD (kvs.map (·.1))))) else .none
  | .none => match deref h v with
    | some (.list xs) => if sortable xs then some (.d (.list (sortD xs))) else .none
    | some (.tup xs) => if sortable xs then some (.d (.list (sortD xs))) else .none
    | _ => .none

def lenOp (h : Hh) : PV → Option PV
  | .scr xs => some (.d (.int xs.length))
  | .d (.str s) => if s.length ≤ LIM then some (.d (.int s.length)) else .none
  | .d (.list xs) => some (.d (.int xs.length))
  | .d (.tup xs) => some (.d (.int xs.length))
  | .ref l => match h[l]? with
    | some (.lst xs) => some (.d (.int xs.length))
    | some (.dic kvs) => some (.d (.int kvs.length))
    | .none => .none
  | .tp xs => some (.d (.int xs.length))
  | _ => .none
/-- what is made of a list of data -/
def onList (f : List D → Option D) (h : Hh) (v : PV) : Option PV := match deref h v with
  | some (.list xs) => (f xs).map PV.d
  | _ => .none
/-- of a list or a tuple -/
def onSeq (f : List D → Option D) (h : Hh) (v : PV) : Option PV := match deref h v with
  | some (.list xs) => (f xs).map PV.d
  | some (.tup xs) => (f xs).map PV.d
  | _ => .none
def tupleOp (h : Hh) (v : PV) : Option PV := match deref h v with
  | some (.list xs) => some (.d (.tup xs))
  | some (.tup xs) => some (.d (.tup xs))
  | _ => .none
def listOp (h : Hh) : PV → Option PV
  | .scr xs => some (.d (.list xs))
  | v => match dicAt h v with
    | some kvs => some (.d (.list (kvs.map (·.1))))
    | .none => match deref h v with
      | some (.list xs) => some (.d (.list xs))
      | some (.tup xs) => some (.d (.list xs))
      | some (.str s) => if s.length ≤ LIM then some (.d (.list (s.map fun c => .str [c]))) else .none
      | _ => .none
def maxOf (xs : List D) : Option D := match intsOf xs with
  | some (i :: is) => some (.int (maxL i is))
  | _ => .none
def minOf (xs : List D) : Option D := match intsOf xs with
  | some (i :: is) => some (.int (minL i is))
  | _ => .none
def intOf : PV → Option PV
  | .d (.int i) => some (.d (.int i))
  | .d (.bool b) => some (.d (.int (if b then 1 else 0)))
  | _ => .none
def ordOf : PV → Option PV
  | .d (.str [c]) => some (.d (.int c))
  | _ => .none
def absOf : PV → Option PV
  | .d (.int i) => some (.d (.int (if i < 0 then -i else i)))
  | _ => .none
def one (f : PV → Option PV) : List PV → Option PV
  | [v] => f v
  | _ => .none
def two (f : PV → PV → Option PV) : List PV → Option PV
  | [v, w] => f v w
  | _ => .none
def blt (h : Hh) : Bl → List PV → Option PV
  | .len => one (lenOp h)
  | .all => one (onList (fun xs => (boolsOf xs).map fun bs => .bool (bs.all id)) h)
  | .any => one (onList (fun xs => (boolsOf xs).map fun bs => .bool (bs.any id)) h)
  | .sum => one (onList (fun xs => (intsOf xs).map fun bs => .int bs.sum) h)
  | .max => one (onSeq maxOf h)
  | .min => one (onSeq minOf h)
  | .max2 => two (intOp fun i j => some (if i < j then j else i))
  | .min2 => two (intOp fun i j => some (if j < i then j else i))
  | .tuple => one (tupleOp h)
  | .list => one (listOp h)
  | .int => one intOf
  | .ord => one ordOf
  | .abs => one absOf
  | .sorted => one (sortedOp h)
  | _ => fun _ => .none

/-- where k stands -/
def indexL (h : Hh) (xs : List D) (k : PV) : Option PV := match deref h k with
  | some d => if near d (.list xs) then (xs.findIdx? fun x => D.eqv x d).map fun (n : Nat) => .d (.int (n : Int)) else .none
  | _ => .none
def countL (h : Hh) (xs : List D) (k : PV) : Option PV := match deref h k with
  | some d => if near d (.list xs) then some (.d (.int (xs.countP fun x => D.eqv x d))) else .none
  | _ => .none
/-- the method is served for such a value -/
def isLst (h : Hh) (l : Nat) : Bool := match h[l]? with
  | some (.lst _) => true
  | _ => false
def isDic (h : Hh) (l : Nat) : Bool := match h[l]? with
  | some (.dic _) => true
  | _ => false
def mtOk (h : Hh) : Mt → PV → Bool
  | .index, .d (.list _) => true
  | .index, .ref l => isLst h l
  | .get1, .ref l => isDic h l
  | .get2, .ref l => isDic h l
  | .count, .d (.list _) => true
  | .count, .ref l => isLst h l
  | .count, .d (.str _) => true
  | .split, .d (.str _) => true
  | .join, .d (.str _) => true
  | _, _ => false
/-- a text's parts by one sign -/
def splitOp (s : List Nat) : PV → Option PV
  | .d (.str [c]) => if c < 256 ∧ s.length + 2 ≤ LIM then some (.d (.list ((splitC c s).map D.str))) else .none
  | _ => .none
def joinOp (h : Hh) (s : List Nat) (v : PV) : Option PV := match deref h v with
  | some (.list xs) => (strsOf xs).bind fun ws => if (ws.map List.length).sum + ws.length * s.length ≤ LIM then some (.d (.str (joinL s ws))) else .none
  | some (.tup xs) => (strsOf xs).bind fun ws => if (ws.map List.length).sum + ws.length * s.length ≤ LIM then some (.d (.str (joinL s ws))) else .none
  | _ => .none
/-- how often a sign stands in a text -/
def countS (s : List Nat) : PV → Option PV
  | .d (.str [c]) => if c < 256 then some (.d (.int (((splitC c s).length : Int) - 1))) else .none
  | _ => .none
def getA1 (kvs : List (D × PV)) : List PV → Option PV
  | [.d k] => if isKey k then some ((dGet kvs k).getD (.d .none)) else .none
  | _ => .none
def getA2 (kvs : List (D × PV)) : List PV → Option PV
  | [.d k, v] => if isKey k then some ((dGet kvs k).getD v) else .none
  | _ => .none
def meth (h : Hh) (m : Mt) (o : PV) (as : List PV) : Option PV := match m with
  | .index => match deref h o with
    | some (.list xs) => one (indexL h xs) as
    | _ => .none
  | .count => match o with
    | .d (.str s) => one (countS s) as
    | o => match deref h o with
      | some (.list xs) => one (countL h xs) as
      | _ => .none
  | .split => match o with
    | .d (.str s) => one (splitOp s) as
    | _ => .none
  | .join => match o with
    | .d (.str s) => one (joinOp h s) as
    | _ => .none
  | .get1 => match dicAt h o with
    | some kvs => getA1 kvs as
    | .none => .none
  | .get2 => match dicAt h o with
    | some kvs => getA2 kvs as
    | .none => .none
  | _ => .none
/-- of a written tuple -/
def methT (h : Hh) (m : Mt) (xs : List D) (as : List PV) : Option PV := match m with
  | .index => one (indexL h xs) as
  | .count => one (countL h xs) as
  | _ => .none
def tupOf : PV → Option (List D)
  | .d (.tup xs) => some xs
  | _ => .none
def isRef (h : Hh) : PV → Bool
  | .ref l => isLst h l
  | _ => false
def guardM (b : Bool) : M Unit := M.lift fun _ => if b then some () else .none
def guardH (f : Hh → Bool) : M Unit := M.lift fun h => if f h then some () else .none

/-- a tuple: of data alone, or with cells in it -/
def mkTup (xs : List PV) : PV := match allD xs with
  | some ds => .d (.tup ds)
  | .none => .tp xs
def newDic (kvs : List (D × PV)) : M PV := fun h => .ok (.ref h.length) (h ++ [.dic kvs])
/-- pairs with such keys -/
def keyed : List PV → Option (List (D × PV))
  | [] => some []
  | .d k :: v :: r => if isKey k then (keyed r).map ((k, v) :: ·) else .none
  | _ => .none
/-- data as pairs -/
def pairsD : List D → Option (List (D × PV))
  | [] => some []
  | .tup [k, v] :: r => if isKey k then (pairsD r).map ((k, .d v) :: ·) else .none
  | _ :: _ => .none
/-- dict(x) -/
def dcopyM (x : PV) : M PV := fun h => match dicAt h x with
  | some kvs => newDic kvs h
  | .none => match deref h x with
    | some (.list xs) => match pairsD xs with
      | some kvs => newDic (dMerge [] kvs) h
      | .none => .stuck
    | _ => .stuck
def itemsD : List (D × PV) → Option (List D)
  | [] => some []
  | (k, .d v) :: r => (itemsD r).map (.tup [k, v] :: ·)
  | _ :: _ => .none
/-- keys, to be put into a set -/
def keysL (h : Hh) (x : PV) : Option (List D) := match deref h x with
  | some (.list xs) => if xs.all isKey && decide (xs.length < 4000) then some xs else .none
  | some (.tup xs) => if xs.all isKey && decide (xs.length < 4000) then some xs else .none
  | _ => .none
def addD (acc : List D) (x : D) : List D := if (acc.any fun y => D.eqv y x) = true then acc else acc ++ [x]
def onceD (xs : List D) : List D := xs.foldl addD []
/-- sorted(set(x)), len(set(x)) -/
def ssetOp (h : Hh) (x : PV) : Option PV := (keysL h x).bind fun xs => if sortable xs then some (.d (.list (sortD (onceD xs)))) else .none
def lsetOp (h : Hh) (x : PV) : Option PV := (keysL h x).map fun xs => .d (.int ((onceD xs).length : Nat))
/-- two lists, one behind the other, as a new cell -/
def newCat (x y : PV) : M PV := fun h => match deref h x, deref h y with
  | some (.list s), some (.list t) => if s.length + t.length ≤ LIM then .ok (.ref h.length) (h ++ [.lst ((s ++ t).map PV.d)]) else .stuck
  | _, _ => .stuck

/-! ### the language -/
mutual
inductive T where
  | nm (i : Nat) | tp (ts : Ts)
inductive Ts where
  | nil | cons (t : T) (r : Ts)
end
mutual
def T.slots : T → List Nat
  | .nm i => [i]
  | .tp ts => Ts.slots ts
def Ts.slots : Ts → List Nat
  | .nil => []
  | .cons t r => t.slots ++ Ts.slots r
end
mutual
inductive E where
  | var (i : Nat) | cst (c : Nat) | lit (d : D)
  | bin (o : Op) (a b : E) | neg (a : E) | not (a : E)
  | cmp (o : Cm) (a b : E) | cmp2 (o p : Cm) (a b c : E) | isc (neg : Bool) (a : E) (c : D)
  | and (a b : E) | or (a b : E) | ite (c a b : E)
  | call (f : Nat) (as : Es) | bl (b : Bl) (as : Es) | isi (a : E) (t : Ty) | mt (m : Mt) (o : E) (as : Es) | mtc (m : Mt) (c : Nat) (as : Es)
  | ix (a b : E) | sl (a : E) (lo hi : Eo) | rev (a : E)
  | kin (n : Bool) (a : E) (c : Nat) | kix (c : Nat) (a : E)
  | dnew | ddisp (ps : Es) | dcat (a : E) (ps : Es) | dcopy (a : E) | ditems (a : E) | sset (a : E) | lset (a : E) | demp (n : Bool) (a : E)
  | tup (as : Es) | lst (as : Es) | new (as : Es) | dsp (ks vs : Es) | thk (f : Nat) (e : E) | badd (a b : E)
  | lc (elt : E) (t : T) (own : List Nat) (it : It) (ifs : Es)
  | lc2 (elt : E) (t : T) (own : List Nat) (it : It) (ifs : Es) (t1 : T) (own1 : List Nat) (it1 : It) (ifs1 : Es)
inductive Es where
  | nil | cons (e : E) (r : Es)
inductive Eo where
  | no | some (e : E)
inductive It where
  | seq (e : E) | cell (e : E) | rng1 (a : E) | rng2 (a b : E) | rng3 (a b : E) (c : Int) | zip (a b : E) | enum (a : E)
end
mutual
inductive S where
  | expr (e : E) | set (i : Nat) (e : E) | sett (t : T) (e : E) | setix (o i e : E) | sixs (o1 i1 o2 i2 : E) (es : Es) | app (o e : E) | par2 (i j : Nat) (es : Es) | par3 (i j l : Nat) (es : Es)
  | ret (e : E) | retN | ifs (c : E) (a b : Ss) | for_ (t : T) (it : It) (b : Ss) | while_ (c : E) (b : Ss)
  | raise (c : Nat) | brk | cont | pass | never
inductive Ss where
  | nil | cons (s : S) (r : Ss)
end

def wipe (env : Env) : List Nat → Env
  | [] => env
  | v :: vs => (wipe env vs).set v .none

mutual
def T.store : T → PV → Env → Option Env
  | .nm i, v, env => some (env.set i (some v))
  | .tp ts, v, env => match v with
    | .d (.tup xs) => Ts.stores ts (xs.map PV.d) env
    | .tp xs => Ts.stores ts xs env
    | _ => .none
def Ts.stores : Ts → List PV → Env → Option Env
  | .nil, [], env => some env
  | .cons t r, x :: xs, env => (T.store t x env).bind fun env' => Ts.stores r xs env'
  | _, _, _ => .none
end

structure Fns where
  call : Nat → List PV → M PV
  cst : Nat → Option PV
  callT : Nat → M PV → M PV

/-- what is walked: its items, or a cell of the store with so many -/
inductive Run where
  | its (xs : List PV) | cell (l n : Nat)

def rangeD (lo : Int) (n : Nat) (c : Int) : List PV := (List.range n).map fun k => .d (.int (lo + (k : Nat) * c))
def zipD : List D → List D → List PV
  | x :: xs, y :: ys => .d (.tup [x, y]) :: zipD xs ys
  | _, _ => []
def enumD : Nat → List D → List PV
  | _, [] => []
  | n, x :: xs => .d (.tup [.int n, x]) :: enumD (n + 1) xs
/-- how many turns range(a, b, c) has -/
def turns (a b c : Int) : Nat := if 0 < c then ((b - a + c - 1) / c).toNat else ((a - b + -c - 1) / -c).toNat
def small (i : Int) : Bool := decide (-(2 ^ 62) ≤ i) && decide (i < 2 ^ 62)

/-- a comprehension over items -/
def lcGo (elt : Env → M (Option PV)) (st : PV → Env → Option Env) (env : Env) : List PV → List D → M PV
  | [], acc => M.ret (.d (.list acc))
  | x :: xs, acc => match st x env with
    | .none => M.stuck
    | some env' => M.bnd (M.calm (elt env')) fun r => match r with
      | .none => lcGo elt st env xs acc
      | some (.d y) => if acc.length < LIM then lcGo elt st env xs (acc ++ [y]) else M.stuck
      | _ => M.stuck
/-- over a cell -/
def lcCell (elt : Env → M (Option PV)) (st : PV → Env → Option Env) (env : Env) (l n : Nat) : Nat → List D → M PV
  | 0, acc => fun h => match h[l]? with
    | some (.lst xs) => if xs.length = n then .ok (.d (.list acc)) h else .stuck
    | _ => .stuck
  | k + 1, acc => fun h => match h[l]? with
    | some (.lst xs) => if xs.length = n then match xs[n - (k + 1)]? with
        | some x => match st x env with
          | .none => .stuck
          | some env' => M.bnd (M.calm (elt env')) (fun r => match r with
            | .none => lcCell elt st env l n k acc
            | some (.d y) => if acc.length < LIM then lcCell elt st env l n k (acc ++ [y]) else M.stuck
            | _ => M.stuck) h
        | .none => .stuck
      else .stuck
    | _ => .stuck
/-- two walks, one within the other: what the inner one makes is laid on -/
def lc2Go (inner : Env → List D → M PV) (st : PV → Env → Option Env) (env : Env) : List PV → List D → M PV
  | [], acc => M.ret (.d (.list acc))
  | x :: xs, acc => match st x env with
    | .none => M.stuck
    | some env' => M.bnd (inner env' acc) fun r => match r with
      | .d (.list ys) => lc2Go inner st env xs ys
      | _ => M.stuck
/-- the inner one: its tests, its items, what is made of each -/
def lc2In (rt : Env → M Bool) (rit : Env → M Run) (elt : Env → M (Option PV)) (st : PV → Env → Option Env) (own : List Nat) (env : Env) (acc : List D) : M PV :=
  M.bnd (M.calm (rt env)) fun b => if b then M.bnd (M.calm (rit env)) fun r => match r with
    | .its ys => lcGo elt st (wipe env own) ys acc
    | _ => M.stuck
  else M.ret (.d (.list acc))

/-- in a table that is only read -/
def kinOp (n : Bool) : Option PV → PV → Option PV
  | some (.dict kvs), .d (.str s) => some (.d (.bool (n != (kvs.any fun p => D.eqv p.1 (.str s)))))
  | _, _ => .none
def kixOp : Option PV → PV → Option PV
  | some (.dict kvs), .d (.str s) => (kvs.find? fun p => D.eqv p.1 (.str s)).map fun p => .d p.2
  | _, _ => .none
mutual
def evE (F : Fns) : E → Env → M PV
  | .var i, env => M.lift fun _ => (env[i]?).bind id
  | .cst c, _ => M.lift fun _ => F.cst c
  | .lit d, _ => M.ret (.d d)
  | .bin o a b, env => M.bnd (evE F a env) fun x => M.bnd (evE F b env) fun y => M.lift fun h => binop h o x y
  | .neg a, env => M.bnd (evE F a env) fun x => M.lift fun _ => match x with
    | .d (.int i) => some (.d (.int (-i)))
    | _ => .none
  | .not a, env => M.bnd (evE F a env) fun x => M.lift fun h => (truthy h x).map fun b => .d (.bool (!b))
  | .cmp o a b, env => M.bnd (evE F a env) fun x => M.bnd (evE F b env) fun y => M.lift fun h => (cmpop h o x y).map fun b => .d (.bool b)
  | .cmp2 o p a b c, env => M.bnd (evE F a env) fun x => M.bnd (evE F b env) fun y => M.bnd (M.lift fun h => cmpop h o x y) fun r =>
    if r then M.bnd (evE F c env) fun z => M.lift fun h => (cmpop h p y z).map fun b => .d (.bool b) else M.ret (.d (.bool false))
  | .isc n a c, env => M.bnd (evE F a env) fun x => M.lift fun _ => (isC x c).map fun b => .d (.bool (if n then !b else b))
  | .and a b, env => M.bnd (evE F a env) fun x => M.bnd (M.lift fun h => truthy h x) fun r => if r then evE F b env else M.ret x
  | .or a b, env => M.bnd (evE F a env) fun x => M.bnd (M.lift fun h => truthy h x) fun r => if r then M.ret x else evE F b env
  | .ite c a b, env => M.bnd (evE F c env) fun x => M.bnd (M.lift fun h => truthy h x) fun r => if r then evE F a env else evE F b env
  | .call f as, env => M.bnd (evEs F as env) fun xs => F.call f xs
  | .bl b as, env => M.bnd (evEs F as env) fun xs => M.lift fun h => blt h b xs
  | .isi a t, env => M.bnd (evE F a env) fun x => M.lift fun h => isTy h x t
  | .mt m o as, env => M.bnd (evE F o env) fun x => M.bnd (guardH fun h => mtOk h m x) fun _ => M.bnd (evEs F as env) fun xs => M.lift fun h => meth h m x xs
  | .mtc m c as, env => M.bnd (M.lift fun _ => (F.cst c).bind tupOf) fun o => M.bnd (evEs F as env) fun xs => M.lift fun h => methT h m o xs
  | .ix a b, env => M.bnd (evE F a env) fun x => M.bnd (evE F b env) fun y => M.lift fun h => indexOp h x y
  | .sl a lo hi, env => M.bnd (evE F a env) fun x => M.bnd (evEo F lo env) fun i => M.bnd (evEo F hi env) fun j => M.lift fun h => sliceOp h x i j
  | .tup as, env => M.bnd (evEs F as env) fun xs => M.lift fun _ => if xs.length ≤ LIM then some (mkTup xs) else .none
  | .lst as, env => M.bnd (evEs F as env) fun xs => M.lift fun _ => if xs.length ≤ LIM then (allD xs).map fun ds => .d (.list ds) else .none
  | .kin n a c, env => M.bnd (evE F a env) fun x => M.lift fun _ => kinOp n (F.cst c) x
  | .kix c a, env => M.bnd (evE F a env) fun x => M.lift fun _ => kixOp (F.cst c) x
  | .dnew, _ => newDic []
  | .ddisp ps, env => M.bnd (evEs F ps env) fun xs => match keyed xs with
    | some kvs => if kvs.length ≤ 15 then newDic (dMerge [] kvs) else M.stuck
    | .none => M.stuck
  | .dcat a ps, env => M.bnd (evE F a env) fun x => M.bnd (evEs F ps env) fun xs => fun h => match dicAt h x, keyed xs with
    | some d, some kvs => if d.length + kvs.length ≤ LIM then newDic (dMerge d kvs) h else .stuck
    | _, _ => .stuck
  | .dcopy a, env => M.bnd (evE F a env) fun x => dcopyM x
  | .ditems a, env => M.bnd (evE F a env) fun x => M.lift fun h => ((dicAt h x).bind itemsD).map fun ds => .d (.list ds)
  | .sset a, env => M.bnd (evE F a env) fun x => M.lift fun h => ssetOp h x
  | .lset a, env => M.bnd (evE F a env) fun x => M.lift fun h => lsetOp h x
  | .demp n a, env => M.bnd (evE F a env) fun x => M.lift fun h => (dicAt h x).map fun kvs => .d (.bool (if n then !kvs.isEmpty else kvs.isEmpty))
  | .new as, env => M.bnd (evEs F as env) fun xs => fun h => if xs.length ≤ LIM then .ok (.ref h.length) (h ++ [.lst xs]) else .stuck
  | .thk f e, env => F.callT f (evE F e env)
  | .badd a b, env => M.bnd (evE F a env) fun x => M.bnd (evE F b env) fun y => newCat x y
  | .dsp ks vs, env => M.bnd (evEs F ks env) fun xs => M.bnd (evEs F vs env) fun ys => M.lift fun _ =>
    (allD xs).bind fun a => (allD ys).bind fun b => some (.dict (a.zip b))
  | .lc elt t own it ifs, env => M.bnd (evIt F it env) fun r => match r with
    | .its xs => lcGo (fun env' => M.bnd (evTs F ifs env') fun b => if b then M.bnd (evE F elt env') fun v => M.ret (some v) else M.ret .none) (T.store t) (wipe env own) xs []
    | .cell l n => lcCell (fun env' => M.bnd (evTs F ifs env') fun b => if b then M.bnd (evE F elt env') fun v => M.ret (some v) else M.ret .none) (T.store t) (wipe env own) l n n []
  | .lc2 elt t own it ifs t1 own1 it1 ifs1, env => M.bnd (evIt F it env) fun r => match r with
    | .its xs => lc2Go (lc2In (fun env' => evTs F ifs env') (fun env' => evIt F it1 env') (fun env2 => M.bnd (evTs F ifs1 env2) fun b => if b then M.bnd (evE F elt env2) fun v => M.ret (some v) else M.ret .none) (T.store t1) own1) (T.store t) (wipe env own) xs []
    | _ => M.stuck
  | .rev a, env => M.bnd (evE F a env) fun x => M.lift fun _ => match x with
    | .d (.tup xs) => some (.d (.tup xs.reverse))
    | _ => .none
def evEs (F : Fns) : Es → Env → M (List PV)
  | .nil, _ => M.ret []
  | .cons e r, env => M.bnd (evE F e env) fun x => M.bnd (evEs F r env) fun xs => M.ret (x :: xs)
/-- all tests, from the left -/
def evTs (F : Fns) : Es → Env → M Bool
  | .nil, _ => M.ret true
  | .cons e r, env => M.bnd (evE F e env) fun x => M.bnd (M.lift fun h => truthy h x) fun b => if b then evTs F r env else M.ret false
def evEo (F : Fns) : Eo → Env → M (Option Int)
  | .no, _ => M.ret .none
  | .some e, env => M.bnd (evE F e env) fun x => M.lift fun _ => match x with
    | .d (.int i) => some (some i)
    | _ => .none
def evIt (F : Fns) : It → Env → M Run
  | .seq e, env => M.bnd (evE F e env) fun x => M.lift fun _ => match x with
    | .d (.list xs) => some (.its (xs.map PV.d))
    | .d (.tup xs) => some (.its (xs.map PV.d))
    | .d (.str s) => some (.its (s.map fun c => PV.d (.str [c])))
    | _ => .none
  | .cell e, env => M.bnd (evE F e env) fun x => M.lift fun h => match x with
    | .ref l => (items h (.ref l)).map fun xs => .cell l xs.length
    | _ => .none
  | .rng1 a, env => M.bnd (evE F a env) fun x => M.lift fun _ => match x with
    | .d (.int j) => if small j then some (.its (rangeD 0 j.toNat 1)) else .none
    | _ => .none
  | .rng2 a b, env => M.bnd (evE F a env) fun x => M.bnd (evE F b env) fun y => M.lift fun _ => match x, y with
    | .d (.int i), .d (.int j) => if small i && small j then some (.its (rangeD i (j - i).toNat 1)) else .none
    | _, _ => .none
  | .rng3 a b c, env => M.bnd (evE F a env) fun x => M.bnd (evE F b env) fun y => M.lift fun _ => match x, y with
    | .d (.int i), .d (.int j) => if decide (-1000000 ≤ i) && decide (i ≤ 1000000) && decide (-1000000 ≤ j) && decide (j ≤ 1000000) && decide (c = -1) then some (.its (rangeD i (turns i j c) c)) else .none
    | _, _ => .none
  | .zip a b, env => M.bnd (evE F a env) fun x => M.bnd (evE F b env) fun y => M.lift fun _ => match x, y with
    | .d (.list xs), .d (.list ys) => some (.its (zipD xs ys))
    | .d (.tup xs), .d (.tup ys) => some (.its (zipD xs ys))
    | _, _ => .none
  | .enum a, env => M.bnd (evE F a env) fun x => M.lift fun _ => match x with
    | .d (.list xs) => some (.its (enumD 0 xs))
    | .d (.tup xs) => some (.its (enumD 0 xs))
    | _ => .none
end

/-- how a statement ends -/
inductive Fl where
  | nxt (env : Env) | ret (v : PV) | brk (env : Env) | cont (env : Env)

def forGo (body : Env → M Fl) (st : PV → Env → Option Env) : List PV → Env → M Fl
  | [], env => M.ret (.nxt env)
  | x :: xs, env => match st x env with
    | .none => M.stuck
    | some env' => M.bnd (body env') fun f => match f with
      | .nxt e => forGo body st xs e
      | .cont e => forGo body st xs e
      | .brk e => M.ret (.nxt e)
      | .ret v => M.ret (.ret v)
def forCell (body : Env → M Fl) (st : PV → Env → Option Env) (l n : Nat) : Nat → Env → M Fl
  | 0, env => fun h => match h[l]? with
    | some (.lst xs) => if xs.length = n then .ok (.nxt env) h else .stuck
    | _ => .stuck
  | k + 1, env => fun h => match h[l]? with
    | some (.lst xs) => if xs.length = n then match xs[n - (k + 1)]? with
        | some x => match st x env with
          | .none => .stuck
          | some env' => M.bnd (body env') (fun f => match f with
            | .nxt e => forCell body st l n k e
            | .cont e => forCell body st l n k e
            | .brk e => M.ret (.nxt e)
            | .ret v => M.ret (.ret v)) h
        | .none => .stuck
      else .stuck
    | _ => .stuck
def whileGo (test : Env → M Bool) (body : Env → M Fl) : Nat → Env → M Fl
  | 0, _ => M.stuck
  | k + 1, env => M.bnd (test env) fun b => if b then M.bnd (body env) fun f => match f with
      | .nxt e => whileGo test body k e
      | .cont e => whileGo test body k e
      | .brk e => M.ret (.nxt e)
      | .ret v => M.ret (.ret v)
    else M.ret (.nxt env)
def turnsMost : Nat := 1000000

def setCell (h : Hh) (l : Nat) (xs : List PV) : Hh := h.set l (.lst xs)
def setDic (h : Hh) (l : Nat) (kvs : List (D × PV)) : Hh := h.set l (.dic kvs)

/-- o[k] = v -/
def putIx (x k v : PV) (env : Env) : M Fl := fun h => match x, k with
    | .ref l, .d k => match h[l]? with
      | some (.lst xs) => match k with
        | .int n => match place xs.length n with
          | some j => .ok (.nxt env) (setCell h l (xs.set j v))
          | .none => .stuck
        | _ => .stuck
      | some (.dic kvs) => if isKey k && decide (kvs.length < LIM) then .ok (.nxt env) (setDic h l (dPut kvs k v)) else .stuck
      | .none => .stuck
    | _, _ => .stuck
mutual
def evS (F : Fns) : S → Env → M Fl
  | .expr e, env => M.bnd (evE F e env) fun _ => M.ret (.nxt env)
  | .set i e, env => M.bnd (evE F e env) fun v => M.ret (.nxt (env.set i (some v)))
  | .sett t e, env => M.bnd (evE F e env) fun v => M.lift fun _ => (T.store t v env).map Fl.nxt
  | .par2 i j es, env => M.bnd (evEs F es env) fun vs => M.lift fun _ => match vs with
    | [v, w] => some (.nxt ((env.set i (some v)).set j (some w)))
    | _ => .none
  | .par3 i j l es, env => M.bnd (evEs F es env) fun vs => M.lift fun _ => match vs with
    | [u, v, w] => some (.nxt (((env.set i (some u)).set j (some v)).set l (some w)))
    | _ => .none
  | .setix o i e, env => M.bnd (evE F e env) fun v => M.bnd (evE F o env) fun x => M.bnd (evE F i env) fun k => fun h => match x, k with
    | .ref l, .d k => match h[l]? with
      | some (.lst xs) => match k with
        | .int n => match place xs.length n with
          | some j => .ok (.nxt env) (setCell h l (xs.set j v))
          | .none => .stuck
        | _ => .stuck
      | some (.dic kvs) => if isKey k && decide (kvs.length < LIM) then .ok (.nxt env) (setDic h l (dPut kvs k v)) else .stuck
      | .none => .stuck
    | _, _ => .stuck
  | .sixs o1 i1 o2 i2 es, env => M.bnd (evEs F es env) fun vs => match vs with
    | [v, w] => M.bnd (evE F o1 env) fun x => M.bnd (evE F i1 env) fun k => M.bnd (putIx x k v env) fun _ => M.bnd (evE F o2 env) fun y => M.bnd (evE F i2 env) fun j => putIx y j w env
    | _ => M.stuck
  | .app o e, env => M.bnd (evE F o env) fun x => M.bnd (guardH fun h => isRef h x) fun _ => M.bnd (evE F e env) fun v => fun h => match x with
    | .ref l => match h[l]? with
      | some (.lst xs) => if xs.length < LIM then .ok (.nxt env) (setCell h l (xs ++ [v])) else .stuck
      | _ => .stuck
    | _ => .stuck
  | .ret e, env => M.bnd (evE F e env) fun v => M.ret (.ret v)
  | .retN, _ => M.ret (.ret (.d .none))
  | .ifs c a b, env => M.bnd (evE F c env) fun x => M.bnd (M.lift fun h => truthy h x) fun r => if r then evSs F a env else evSs F b env
  | .for_ t it b, env => M.bnd (evIt F it env) fun r => match r with
    | .its xs => forGo (evSs F b) (T.store t) xs env
    | .cell l n => forCell (evSs F b) (T.store t) l n n env
  | .while_ c b, env => whileGo (fun env => M.bnd (evE F c env) fun x => M.lift fun h => truthy h x) (evSs F b) turnsMost env
  | .raise c, _ => fun h => .exc c (.d .none) h
  | .never, _ => M.stuck
  | .brk, env => M.ret (.brk env)
  | .cont, env => M.ret (.cont env)
  | .pass, env => M.ret (.nxt env)
def evSs (F : Fns) : Ss → Env → M Fl
  | .nil, env => M.ret (.nxt env)
  | .cons s r, env => M.bnd (evS F s env) fun f => match f with
    | .nxt e => evSs F r e
    | f => M.ret f
end

/-- td: a def that runs what it gets: its word behind a run, and its words by the exceptions -/
structure Fn where
  np : Nat
  ns : Nat
  body : Ss
  td : Option (List Nat × List (Nat × List Nat))
/-- a def that runs what it gets -/
def callT (T : Nat → Option Fn) (f : Nat) (th : M PV) : M PV := fun h => match T f with
  | some ⟨_, _, _, some (ok, hs)⟩ => (match th h with
    | .ok _ h' => .ok (.d (.str ok)) h'
    | .exc c _ h' => (match hs.lookup c with
      | some s => .ok (.d (.str s)) h'
      | .none => .stuck)
    | .stuck => .stuck)
  | _ => .stuck

def start (ns : Nat) (args : List PV) : Env := args.map some ++ List.replicate (ns - args.length) .none

/-- a def's run; k: how deep calls may still go -/
def call (T : Nat → Option Fn) (C : Nat → Option PV) : Nat → Nat → List PV → M PV
  | 0, _, _ => M.stuck
  | k + 1, f, args => match T f with
    | .none => M.stuck
    | some d => if args.length = d.np then M.bnd (evSs ⟨call T C k, C, callT T⟩ d.body (start d.ns args)) fun r => match r with
        | .ret v => M.ret v
        | .nxt _ => M.ret (.d .none)
        | _ => M.stuck
      else M.stuck

end Ev
end

section
/-! EvTr: a def's text as a text of EvCore. -/
set_option autoImplicit false
set_option linter.all false
namespace Ev
open PySem L2

def code (s : Str) : Nat := s.cps.toList.foldl (fun a c => a * 128 + c) 0

/-- what is known of the text's own names -/
structure TrP where
  fns : List Str
  csts : List Str
  blts : List Str
  excs : List Str
  sup : List (Str × Str)
  hds : List Str
  boxes : List (Nat × Nat)
  lam : Bool
  dics : List Str
/-- .. where no lambda is served -/
def TrP.noLam (P : TrP) : TrP := { P with lam := false }

def idx (N : List Str) (x : Str) : Option Nat := (N.findIdx? (· == x))
def isVis (sc : Scope) (x : Str) : Bool := match sc.names.lookup x with
  | some .local => true
  | some .cell => true
  | some .free => true
  | _ => false
def isLoc (sc : Scope) (x : Str) : Bool := match sc.names.lookup x with
  | some .local => true
  | some .cell => true
  | _ => false
def isGl (sc : Scope) (x : Str) : Bool := sc.names.lookup x == some .globalImplicit
def okN (x : Str) : Bool := !(x == ("__debug__" : Str)) && !(x == ("__classdict__" : Str)) && !(x == ("__name__" : Str))

def trOp : Operator → Option Op
  | .Add => some .add | .Sub => some .sub | .Mult => some .mul | .FloorDiv => some .fdiv | .Mod => some .mod | .Pow => some .pow
  | .LShift => some .shl | .RShift => some .shr | _ => none
def trCm : CmpOp → Option Cm
  | .Eq => some .eq | .NotEq => some .ne | .Lt => some .lt | .LtE => some .le | .Gt => some .gt | .GtE => some .ge | .In => some .isin | .NotIn => some .notin | _ => none
def trTy (x : Str) : Option Ty :=
  if x == ("int" : Str) then some .int else if x == ("str" : Str) then some .str else if x == ("bool" : Str) then some .bool
  else if x == ("tuple" : Str) then some .tuple else if x == ("list" : Str) then some .list else if x == ("dict" : Str) then some .dict else none
def trBl (x : Str) (n : Nat) : Option Bl :=
  if x == ("len" : Str) then some .len else if x == ("all" : Str) then some .all else if x == ("any" : Str) then some .any
  else if x == ("tuple" : Str) then some .tuple else if x == ("list" : Str) then some .list else if x == ("sum" : Str) then some .sum
  else if x == ("max" : Str) then some (if n = 2 then .max2 else .max) else if x == ("min" : Str) then some (if n = 2 then .min2 else .min)
  else if x == ("int" : Str) then some .int else if x == ("str" : Str) then some .str else if x == ("bool" : Str) then some .bool
  else if x == ("ord" : Str) then some .ord else if x == ("abs" : Str) then some .abs else if x == ("sorted" : Str) then some .sorted else none
def trMt (x : Str) (n : Nat) : Option Mt :=
  if x == ("index" : Str) then some .index else if x == ("count" : Str) then some .count else if x == ("split" : Str) then some .split
  else if x == ("join" : Str) then some .join else if x == ("get" : Str) then some (if n = 2 then .get2 else .get1) else none

def isIC : Mt → Bool
  | .index => true
  | .count => true
  | _ => false
def codes (s : Str) : List Nat := s.cps.toList

def trConst : Const → Option D
  | .none => some .none
  | .bool b => some (.bool b)
  | .int i => some (.int i)
  | .str s => if (codes s).all (fun c => c < 1114112) then some (.str (codes s)) else none
  | _ => none

def ownOf (N : List Str) : List (Str × NameKind) → List (Str × Nat)
  | [] => []
  | (n, k) :: r => if k == .local || k == .cell then (match idx N n with
    | some i => (n, i) :: ownOf N r
    | none => ownOf N r) else ownOf N r

mutual
def trT : Nat → List Str → Scope → Expr → Option T
  | 0, _, _, _ => none
  | k + 1, N, sc, e => match e with
    | .Name x _ => if isLoc sc x then (idx N x).map T.nm else none
    | .Tuple es _ _ => (trTs k N sc es).map T.tp
    | _ => none
def trTs : Nat → List Str → Scope → List Expr → Option Ts
  | 0, _, _, _ => none
  | k + 1, N, sc, es => match es with
    | [] => some .nil
    | e :: r => (trT k N sc e).bind fun t => (trTs k N sc r).map fun ts => .cons t ts
end

def namesOfT : Nat → Expr → List Str
  | 0, _ => []
  | k + 1, e => match e with
    | .Name x _ => [x]
    | .Tuple es _ _ => es.flatMap (namesOfT k)
    | _ => []
def slots (N : List Str) (xs : List Str) : List Nat := xs.filterMap (idx N)

def nCall : Expr → Bool
  | .Call .. => false
  | _ => true
def isAdd : Op → Bool
  | .add => true
  | _ => false
/-- no parameters at all -/
def noPar (a : Arguments) : Bool := a.posonlyargs.isEmpty && a.args.isEmpty && a.vararg.isNone && a.kwonlyargs.isEmpty && a.kw_defaults.isEmpty && a.kwarg.isNone && a.defaults.isEmpty
/-- what a set is made of -/
def setArg (P : TrP) (sc : Scope) : List Expr → Option Expr
  | [.Call (.Name y _) [a] [] _] => if y == ("set" : Str) && isGl sc y && P.blts.contains y then some a else none
  | _ => none
/-- a table of the written part, by its name -/
def dicN (P : TrP) (sc : Scope) : Expr → Option Str
  | .Name x _ => if okN x && isGl sc x && P.dics.contains x then some x else none
  | _ => none
/-- an index of its own -/
def soloIx : Expr → Bool
  | .Slice .. => false
  | .Tuple .. => false
  | .Starred .. => false
  | _ => true
mutual
def trE (P : TrP) : Nat → List Str → Scope → Expr → Option E
  | 0, _, _, _ => none
  | k + 1, N, sc, e => match e with
    | .Name x _ => if okN x then (if isVis sc x then (idx N x).map E.var else if isGl sc x && P.csts.contains x then some (.cst (code x)) else none) else none
    | .Constant c _ _ => (trConst c).map E.lit
    | .BinOp a o b pos => (trOp o).bind fun o' => (trE P k N sc a).bind fun a' => (trE P k N sc b).map fun b' => if isAdd o' && P.boxes.contains (pos.line, pos.col) then .badd a' b' else .bin o' a' b'
    | .UnaryOp .USub a _ => (trE P k N sc a).map E.neg
    | .UnaryOp .Not a _ => (trE P k N sc a).map E.not
    | .BoolOp o es p => trBool P k N sc o es
    | .IfExp c a b _ => (trE P k N sc c).bind fun c' => (trE P k N sc a).bind fun a' => (trE P k N sc b).map fun b' => .ite c' a' b'
    | .Compare a ops bs _ => match ops, bs with
      | [.Is], [.Constant c _ _] => match c with
        | .none => (trE P k N sc a).map fun a' => .isc false a' .none
        | .bool b => (trE P k N sc a).map fun a' => .isc false a' (.bool b)
        | _ => none
      | [.IsNot], [.Constant c _ _] => match c with
        | .none => (trE P k N sc a).map fun a' => .isc true a' .none
        | .bool b => (trE P k N sc a).map fun a' => .isc true a' (.bool b)
        | _ => none
      | [.Eq], [.Dict [] [] _] => (trE P k N sc a).map fun a' => .demp false a'
      | [.NotEq], [.Dict [] [] _] => (trE P k N sc a).map fun a' => .demp true a'
      | [o], [b] => match dicN P sc b, o with
        | some x, .In => (trE P k N sc a).map fun a' => .kin false a' (code x)
        | some x, .NotIn => (trE P k N sc a).map fun a' => .kin true a' (code x)
        | _, o => (trCm o).bind fun o' => (trE P k N sc a).bind fun a' => (trE P k N sc b).map fun b' => .cmp o' a' b'
      | [o, o2], [b, c] => (trCm o).bind fun o' => (trCm o2).bind fun o2' => (trE P k N sc a).bind fun a' => (trE P k N sc b).bind fun b' => (trE P k N sc c).map fun c' => .cmp2 o' o2' a' b' c'
      | _, _ => none
    | .Call f as ks pos => match f, ks with
      | .Name x _, [] => if okN x && isGl sc x then
          (if P.fns.contains x then (match as with
            | [.Lambda params body scope _] => if P.lam && LamX.lamSB sc scope && noPar params then (trE P.noLam k N scope body).map fun b => .thk (code x) b else none
            | as => (trEs P k N sc as).map fun as' => .call (code x) as')
          else if P.blts.contains x then (if x == ("isinstance" : Str) then (match as with
            | [a, .Name t _] => if okN t && isGl sc t && P.blts.contains t then (trTy t).bind fun t' => (trE P k N sc a).map fun a' => .isi a' t' else none
            | _ => none)
            else if x == ("dict" : Str) then (match as with
              | [a] => (trE P k N sc a).map E.dcopy
              | _ => none)
            else (match x == ("list" : Str), as with
              | true, [.Call (.Attribute e m apos) [] [] cpos] => if m == ("items" : Str) && (apos.endLine == cpos.line) && nCall e then (trE P k N sc e).map E.ditems else none
              | _, as => match setArg P sc as with
                | some a => if x == ("sorted" : Str) then (trE P k N sc a).map E.sset else if x == ("len" : Str) then (trE P k N sc a).map E.lset else none
                | none => (trBl x as.length).bind fun b => (trEs P k N sc as).map fun as' => .bl b as'))
          else none) else none
      | .Attribute o m apos, [] => if apos.endLine != pos.line || as.length > 20 || as.length == 0 then none else (trMt m as.length).bind fun m' => match o with
          | .Name x p => if okN x && isGl sc x && P.csts.contains x && isIC m' then (trEs P k N sc as).map fun as' => .mtc m' (code x) as' else (trE P k N sc (.Name x p)).bind fun o' => (trEs P k N sc as).map fun as' => .mt m' o' as'
          | .Call .. => none
          | o => (trE P k N sc o).bind fun o' => (trEs P k N sc as).map fun as' => .mt m' o' as'
      | _, _ => none
    | .Subscript a i _ => match i with
      | .Slice none none (some (.UnaryOp .USub (.Constant (.int 1) _ _) _)) _ => (trE P k N sc a).map E.rev
      | .Slice lo hi none _ => (trE P k N sc a).bind fun a' => (trEo P k N sc lo).bind fun lo' => (trEo P k N sc hi).map fun hi' => .sl a' lo' hi'
      | .Tuple .. => none
      | .Starred .. => none
      | i => match dicN P sc a with
        | some x => (trE P k N sc i).map fun i' => .kix (code x) i'
        | none => (trE P k N sc a).bind fun a' => (trE P k N sc i).map fun i' => .ix a' i'
    | .Dict ks vs _ => match ks, vs with
      | [], [] => some .dnew
      | ks, vs => if ks.length ≤ 15 then (trPs P k N sc ks vs).map E.ddisp else none
    | .Tuple es _ _ => (trEs P k N sc es).map E.tup
    | .List es pos => if P.boxes.contains (pos.line, pos.col) then (trEs P k N sc es).map E.new else (trEs P k N sc es).map E.lst
    | .ListComp elt [⟨tg, iter, ifs, 0⟩] scope _ =>
      let sc' := relS scope sc
      if blkC N sc scope (ownOf N scope.names) && decide (ifs.length ≤ 1) then
        (trIt P k N sc tg iter).bind fun it => (trT k N scope tg).bind fun t => (trEs P.noLam k N sc' ifs).bind fun ifs' => (trE P.noLam k N sc' elt).map fun elt' => .lc elt' t ((ownOf N scope.names).map (·.2)) it ifs'
      else none
    | .ListComp elt [⟨tg, iter, ifs, 0⟩, ⟨tg1, iter1, ifs1, 0⟩] scope _ =>
      let sc' := relS scope sc
      if blkC N sc scope (ownOf N scope.names) && decide (ifs.length ≤ 1) && decide (ifs1.length ≤ 1) then
        (trIt P k N sc tg iter).bind fun it => (trT k N scope tg).bind fun t => (trEs P.noLam k N sc' ifs).bind fun ifs' => (trIt P.noLam k N sc' tg1 iter1).bind fun it1 => (trT k N scope tg1).bind fun t1 => (trEs P.noLam k N sc' ifs1).bind fun ifs1' =>
        (trE P.noLam k N sc' elt).map fun elt' => .lc2 elt' t ((ownOf N scope.names).map (·.2)) it ifs' t1 (T.slots t1) it1 ifs1'
      else none
    | _ => none
def trBool (P : TrP) : Nat → List Str → Scope → BoolOp → List Expr → Option E
  | 0, _, _, _, _ => none
  | k + 1, N, sc, o, es => match es with
    | [] => none
    | [a] => trE P k N sc a
    | a :: r => (trE P k N sc a).bind fun a' => (trBool P k N sc o r).map fun r' => match o with
      | .And => .and a' r'
      | .Or => .or a' r'
def trEs (P : TrP) : Nat → List Str → Scope → List Expr → Option Es
  | 0, _, _, _ => none
  | k + 1, N, sc, es => match es with
    | [] => some .nil
    | .Starred .. :: _ => none
    | e :: r => (trE P k N sc e).bind fun e' => (trEs P k N sc r).map fun r' => .cons e' r'
def trPs (P : TrP) : Nat → List Str → Scope → List (Option Expr) → List Expr → Option Es
  | 0, _, _, _, _ => none
  | k + 1, N, sc, ks, vs => match ks, vs with
    | [], [] => some .nil
    | some a :: ks, b :: vs => (trE P k N sc a).bind fun a' => (trE P k N sc b).bind fun b' => (trPs P k N sc ks vs).map fun r => .cons a' (.cons b' r)
    | _, _ => none
def trEo (P : TrP) : Nat → List Str → Scope → Option Expr → Option Eo
  | 0, _, _, _ => none
  | k + 1, N, sc, e => match e with
    | none => some .no
    | some e => (trE P k N sc e).map Eo.some
def trIt (P : TrP) : Nat → List Str → Scope → Expr → Expr → Option It
  | 0, _, _, _, _ => none
  | k + 1, N, sc, tg, e => match e with
    | .Call (.Name x _) [a] [] _ =>
      if x == ("range" : Str) && isGl sc x && P.blts.contains x then (trE P k N sc a).map It.rng1
      else if x == ("enumerate" : Str) && isGl sc x && P.blts.contains x then (match tg with
        | .Tuple _ _ _ => (trE P k N sc a).map It.enum
        | _ => none)
      else (trE P k N sc e).map It.seq
    | .Call (.Name x _) [a, b] [] _ =>
      if x == ("range" : Str) && isGl sc x && P.blts.contains x then (trE P k N sc a).bind fun a' => (trE P k N sc b).map fun b' => .rng2 a' b'
      else if x == ("zip" : Str) && isGl sc x && P.blts.contains x then (match tg with
        | .Tuple _ _ _ => (trE P k N sc a).bind fun a' => (trE P k N sc b).map fun b' => .zip a' b'
        | _ => none)
      else (trE P k N sc e).map It.seq
    | .Call (.Name x _) [a, b, .UnaryOp .USub (.Constant (.int 1) _ _) _] [] _ =>
      if x == ("range" : Str) && isGl sc x && P.blts.contains x then (trE P k N sc a).bind fun a' => (trE P k N sc b).map fun b' => .rng3 a' b' (-1)
      else (trE P k N sc e).map It.seq
    | .Name x pos => if P.boxes.contains (pos.line, pos.col) then (trE P k N sc e).map It.cell else (trE P k N sc e).map It.seq
    | e => (trE P k N sc e).map It.seq
end

def parNames (sc : Scope) (ts : List Expr) : List Str := ts.filterMap fun
    | .Name id pos => if sc.names.lookup id == some .local && pos.line == (ts.head?.map (·.pos.line)).getD 0 then some id else none
    | _ => none
def swK (sc : Scope) (ts vs : List Expr) : Nat :=
  if !(ts.length == 2 || ts.length == 3) || vs.length != ts.length then 0
  else if vs.any (fun | .Starred .. => true | _ => false) then 0
  else if (parNames sc ts).length != ts.length || (parNames sc ts).eraseDups.length != (parNames sc ts).length then 0
  else if vs.all (foldedForSure 8) then 0
  else if vs.all (constantsAlone 8) then 2 else 1
def notCallT : Expr → Bool
  | .Call .. => false
  | _ => true
mutual
def trS (P : TrP) : Nat → List Str → Scope → Stmt → Option S
  | 0, _, _, _ => none
  | k + 1, N, sc, s => match s with
    | .Expr e pos => match e with
      | .Call (.Attribute o m apos) [a] [] cpos => if m == ("append" : Str) && (apos.endLine == cpos.line) && notCallT o then (trE P k N sc o).bind fun o' => (trE P k N sc a).map fun a' => .app o' a' else (trE P k N sc e).map S.expr
      | .ListComp .. => none
      | e => (trE P k N sc e).map S.expr
    | .Assign [.Name x _] e _ => if isLoc sc x then (idx N x).bind fun i => (trE P k N sc e).map fun e' => .set i e' else none
    | .Assign [.Tuple ts a p] e _ => match e with
      | .Tuple vs _ _ => (match ts, vs with
        | [.Subscript o1 i1 _, .Subscript o2 i2 _], [v, w] => if soloIx i1 && soloIx i2 then (trE P k N sc o1).bind fun o1' => (trE P k N sc i1).bind fun i1' => (trE P k N sc o2).bind fun o2' => (trE P k N sc i2).bind fun i2' => (trEs P k N sc [v, w]).map fun es => .sixs o1' i1' o2' i2' es else none
        | ts, vs => match swK sc ts vs with
        | 0 => (trT k N sc (.Tuple ts a p)).bind fun t => (trE P k N sc e).map fun e' => .sett t e'
        | 1 => (match ts, vs with
          | [.Name x _, .Name y _], [v, w] => (idx N x).bind fun i => (idx N y).bind fun j => if i != j && sc.names.lookup x == some .local && sc.names.lookup y == some .local then (trEs P k N sc [v, w]).map fun es => .par2 i j es else none
          | [.Name x _, .Name y _, .Name z _], [u, v, w] => (idx N x).bind fun i => (idx N y).bind fun j => (idx N z).bind fun l => if i != j && i != l && j != l && sc.names.lookup x == some .local && sc.names.lookup y == some .local && sc.names.lookup z == some .local then (trEs P k N sc [u, v, w]).map fun es => .par3 i j l es else none
          | _, _ => none)
        | _ => none)
      | e => (trT k N sc (.Tuple ts a p)).bind fun t => (trE P k N sc e).map fun e' => .sett t e'
    | .Assign [.Subscript o i _] e _ => match i with
      | .Slice .. => none
      | .Tuple .. => none
      | .Starred .. => none
      | i => (trE P k N sc o).bind fun o' => (trE P k N sc i).bind fun i' => (trE P k N sc e).map fun e' => .setix o' i' e'
    | .Return (some e) _ => (trE P k N sc e).map S.ret
    | .Return none _ => some .retN
    | .If c a b _ => (trE P k N sc c).bind fun c' => (trSs P k N sc a).bind fun a' => (trSs P k N sc b).map fun b' => .ifs c' a' b'
    | .For tg iter b [] _ => (trIt P k N sc tg iter).bind fun it => (trT k N sc tg).bind fun t => (trSs P k N sc b).map fun b' => .for_ t it b'
    | .While c b [] _ => (trE P k N sc c).bind fun c' => (trSs P k N sc b).map fun b' => .while_ c' b'
    | .Raise (some (.Call (.Name x _) [a] [] _)) none _ => if okN x && isGl sc x && P.excs.contains x then (match a with
        | .Constant (.str _) _ _ => some (.raise (code x))
        | _ => none)
      else none
    | .Break _ => some .brk
    | .Continue _ => some .cont
    | .Pass _ => some .pass
    | _ => none
def trSs (P : TrP) : Nat → List Str → Scope → List Stmt → Option Ss
  | 0, _, _, _ => none
  | k + 1, N, sc, ss => match ss with
    | [] => some .nil
    | s :: r => (trSs P k N sc r).map fun r' => .cons ((trS P k N sc s).getD .never) r'
end

end Ev
namespace Ev
open PySem L2
def paramsOf (st : Stmt) : List Str := (defArgs st).args.map (·.arg)
def fastOf (st : Stmt) : List Str := (defScope st).more.filterMap fun p => if p.1 == ("fast" : Str) then (match p.2 with
  | .str s => some s
  | _ => none) else none
/-- a def's own names, the parameters first -/
def localsOf (st : Stmt) : List Str := (defScope st).names.filterMap fun p => if p.2 == .local || p.2 == .cell then some p.1 else none
def namesOf (st : Stmt) : List Str := (paramsOf st ++ (localsOf st ++ fastOf st)).foldl (fun a x => if a.contains x then a else a ++ [x]) []
/-- y is x's class or above it -/
def isSub (sup : List (Str × Str)) : Nat → Str → Str → Bool
  | 0, _, _ => false
  | n + 1, x, y => x == y || (match sup.lookup x with
    | some z => isSub sup n z y
    | none => false)
/-- a clause: its class, its word (none: not served) -/
def hdOf (sc : Scope) (hdn : List Str) : ExceptHandler → Option (Str × Option (List Nat))
  | .ExceptHandler (some (.Name x _)) nm body _ => if okN x && isGl sc x && hdn.contains x then (match nm, body with
    | none, [.Return (some (.Constant (.str s) _ _)) _] => some (x, some (codes s))
    | _, _ => some (x, none)) else none
  | _ => none
def hdsOf (sc : Scope) (hdn : List Str) : List ExceptHandler → Option (List (Str × Option (List Nat)))
  | [] => some []
  | h :: r => (hdOf sc hdn h).bind fun p => (hdsOf sc hdn r).map fun ps => p :: ps
/-- the word of the first clause that takes x -/
def pick (sup : List (Str × Str)) (x : Str) : List (Str × Option (List Nat)) → Option (List Nat)
  | [] => none
  | (y, s) :: r => if isSub sup 8 x y then s else pick sup x r
/-- try: call() except ..: return .. ; return .. -/
def trTd (excs : List Str) (sup : List (Str × Str)) (hdn : List Str) (st : Stmt) : Option (List Nat × List (Nat × List Nat)) := match defBody st with
  | [.Try [.Expr (.Call (.Name a _) [] [] _) _] (h :: hds) [] [] _, .Return (some (.Constant (.str s) _ _)) _] => if paramsOf st == [a] && okN a && isLoc (defScope st) a then
      (hdsOf (defScope st) hdn (h :: hds)).map fun l => (codes s, excs.filterMap fun x => (pick sup x l).map fun w => (code x, w)) else none
  | _ => none
def trFn (P : TrP) (st : Stmt) : Option Fn := match trTd P.excs P.sup P.hds st with
  | some d => some ⟨1, (namesOf st).length, .cons .never .nil, some d⟩
  | none => (trSs P 60 (namesOf st) (defScope st) (defBody st)).map fun b => ⟨(paramsOf st).length, (namesOf st).length, b, none⟩
def defNames : List Stmt → List Str
  | [] => []
  | .FunctionDef n _ _ _ _ _ _ _ _ _ :: r => n :: defNames r
  | _ :: r => defNames r
def cstNames : List Stmt → List Str
  | [] => []
  | .Assign [.Name n _] e _ :: r => if n == ("__name__" : Str) || (match e with
      | .Dict .. => true
      | _ => false) then cstNames r else n :: cstNames r
  | _ :: r => cstNames r
def excNames (ini : Bool) : List Stmt → List Str
  | [] => []
  | .ClassDef n _ _ b _ _ _ _ _ _ _ :: r => if (match b with
      | [.Pass _] => false
      | _ => true) == ini then n :: excNames ini r else excNames ini r
  | _ :: r => excNames ini r
def dicNames : List Stmt → List Str
  | [] => []
  | .Assign [.Name n _] (.Dict _ _ _) _ :: r => n :: dicNames r
  | _ :: r => dicNames r
def bltNames : List Str := ["len", "all", "any", "tuple", "list", "sum", "max", "min", "int", "str", "bool", "ord", "abs", "sorted", "set", "dict", "range", "zip", "enumerate", "isinstance"]
def supsOf : List Stmt → List (Str × Str)
  | [] => []
  | .ClassDef n [.Name b _] _ _ _ _ _ _ _ _ _ :: r => (n, b) :: supsOf r
  | _ :: r => supsOf r
def hdNames : List ExceptHandler → List Str
  | [] => []
  | .ExceptHandler (some (.Name x _)) _ _ _ :: r => x :: hdNames r
  | _ :: r => hdNames r
/-- the classes that the text's except clauses name -/
def hdsIn : List Stmt → List Str
  | [] => []
  | .FunctionDef _ _ b _ _ _ _ _ _ _ :: r => b.flatMap (fun s => match s with
    | .Try _ hs _ _ _ => hdNames hs
    | _ => []) ++ hdsIn r
  | _ :: r => hdsIn r
def trPOf (b : List Stmt) (boxes : List (Nat × Nat)) : TrP := ⟨defNames b, cstNames b, bltNames, excNames false b, supsOf b, (hdsIn b).eraseDups, boxes, true, dicNames b⟩
end Ev
end

section
/-! EvRep: how plain data lies in the machine's store. -/
set_option autoImplicit false
set_option linter.all false
set_option Elab.async false
set_option maxRecDepth 100000
namespace Ev
open PySem L2 PyProof.Rows

def KLst (K : PySem.W.Frag) (a : Addr) (xs : List V) : Prop := ∃ (o : Obj) (its : Array Value) (n : Nat), K.lookup a = some o ∧ o.cls = .type "list" ∧ o.dict = none ∧ o.data = .seq its n ∧ its.size ≤ sizeLine ∧ Vals xs its.toList
def KTup (K : PySem.W.Frag) (a : Addr) (xs : List V) : Prop := ∃ (o : Obj) (its : Array Value) (n : Nat), K.lookup a = some o ∧ o.cls = .type "tuple" ∧ o.dict = none ∧ o.data = .seq its n ∧ its.size ≤ sizeLine ∧ Vals xs its.toList
theorem KTup.sq {K : PySem.W.Frag} {a : Addr} {xs : List V} (h : KTup K a xs) : ∃ (o : Obj) (its : Array Value) (n : Nat), K.lookup a = some o ∧ o.cls = .type "tuple" ∧ o.data = .seq its n ∧ its.size ≤ sizeLine ∧ Vals xs its.toList := by
  obtain ⟨o, its, n, h1, h2, _, h3⟩ := h
  exact ⟨o, its, n, h1, h2, h3⟩
def LstAt (K : PySem.W.Frag) (z m : List Addr) (H : Hp) (a : Addr) (us : List V) : Prop := H a = some (.lst us) ∧ a ∉ m ∧ a ∉ z
def TupAt (K : PySem.W.Frag) (z m : List Addr) (H : Hp) (a : Addr) (us : List V) : Prop := (Rd H a (.tup us) ∧ a ∉ m ∧ a ∉ z) ∨ KTup K a us
theorem LstAt.sq {K : PySem.W.Frag} {z m : List Addr} {H : Hp} {a : Addr} {us : List V} (h : LstAt K z m H a us) : SqL K H a us := .inl (.inl h.1)
theorem TupAt.sq {K : PySem.W.Frag} {z m : List Addr} {H : Hp} {a : Addr} {us : List V} (h : TupAt K z m H a us) : SqT K H a us := h.elim (fun x => .inl x.1) fun q => .inr q.sq

mutual
def RepD (K : PySem.W.Frag) (z m : List Addr) (H : Hp) : D → V → Prop
  | .none, v => v = .non
  | .bool b, v => v = .bl b
  | .int i, v => v = .int i
  | .str s, v => v = .str ⟨s.toArray⟩
  | .list xs, v => ∃ a us, v = .ref a ∧ LstAt K z m H a us ∧ us.length ≤ sizeLine ∧ RepDs K z m H xs us
  | .tup xs, v => ∃ a us, v = .ref a ∧ TupAt K z m H a us ∧ us.length ≤ sizeLine ∧ RepDs K z m H xs us
def RepDs (K : PySem.W.Frag) (z m : List Addr) (H : Hp) : List D → List V → Prop
  | [], us => us = []
  | x :: xs, us => ∃ u r, us = u :: r ∧ RepD K z m H x u ∧ RepDs K z m H xs r
end

/-- a table of the written part or of the store that is only read: what look-ups and walks of it give -/
def DicAt (K : PySem.W.Frag) (z m : List Addr) (H : Hp) (a : Addr) (kvs : List (D × D)) : Prop := False

mutual
def Rep (K : PySem.W.Frag) (z m : List Addr) (H : Hp) : PV → V → Prop
  | .d x, v => RepD K z m H x v
  | .ref l, v => ∃ a, v = .ref a ∧ m[l]? = some a
  | .dict kvs, v => ∃ a, v = .ref a ∧ DicAt K z m H a kvs
  | .scr xs, v => ∃ a us, v = .ref a ∧ ((Rd H a (.lst us) ∧ a ∉ m ∧ a ∉ z) ∨ KLst K a us) ∧ us.length ≤ sizeLine ∧ RepDs K z m H xs us
  | .tp xs, v => ∃ a us, v = .ref a ∧ TupAt K z m H a us ∧ us.length ≤ sizeLine ∧ Reps K z m H xs us
def Reps (K : PySem.W.Frag) (z m : List Addr) (H : Hp) : List PV → List V → Prop
  | [], us => us = []
  | x :: xs, us => ∃ u r, us = u :: r ∧ Rep K z m H x u ∧ Reps K z m H xs r
end

/-- what stood stands, but for the cells -/
structure Ext (m : List Addr) (H : Hp) (m' : List Addr) (H' : Hp) : Prop where
  pre : ∃ w, m' = m ++ w
  imm : ∀ a o, H a = some o → a ∉ m → (∀ ps, o ≠ .tbl ps) → H' a = some o ∧ a ∉ m'
theorem Ext.refl (m : List Addr) (H : Hp) : Ext m H m H := ⟨⟨[], by simp⟩, fun _ _ h n _ => ⟨h, n⟩⟩
theorem Ext.trans {m m1 m2 : List Addr} {H H1 H2 : Hp} (a : Ext m H m1 H1) (b : Ext m1 H1 m2 H2) : Ext m H m2 H2 := by
  refine ⟨?_, fun x o h n y => ?_⟩
  · obtain ⟨u, e⟩ := a.pre
    obtain ⟨v, e'⟩ := b.pre
    exact ⟨u ++ v, by rw [e', e, List.append_assoc]⟩
  · obtain ⟨h1, n1⟩ := a.imm x o h n y
    exact b.imm x o h1 n1 y
theorem Ext.at {m m1 : List Addr} {H H1 : Hp} (a : Ext m H m1 H1) {l : Nat} {p : Addr} (h : m[l]? = some p) : m1[l]? = some p := by
  obtain ⟨u, e⟩ := a.pre
  rw [e, List.getElem?_append_left]
  · exact h
  · exact (List.getElem?_eq_some_iff.mp h).1
theorem Ext.rd {m m1 : List Addr} {H H1 : Hp} (e : Ext m H m1 H1) {a : Addr} {u : HO} (h : Rd H a u) (n : a ∉ m) (hu : ∀ ps, u ≠ .tbl ps) : Rd H1 a u ∧ a ∉ m1 := by
  rcases h with h | ⟨o, h⟩
  · exact ⟨.inl (e.imm _ _ h n hu).1, (e.imm _ _ h n hu).2⟩
  · exact ⟨.inr ⟨o, (e.imm _ _ h n fun ps q => by cases q).1⟩, (e.imm _ _ h n fun ps q => by cases q).2⟩
/-- a new object -/
theorem Ext.new {m : List Addr} {H : Hp} {p : Addr} {o : HO} (h : H p = none) : Ext m H m (upd H p o) :=
  ⟨⟨[], by simp⟩, fun a u e n _ => ⟨by rw [upd_ne (ne_of_none e h)]; exact e, n⟩⟩
/-- a cell is changed -/
theorem Ext.cell {m : List Addr} {H : Hp} {p : Addr} {o : HO} (h : p ∈ m) : Ext m H m (upd H p o) :=
  ⟨⟨[], by simp⟩, fun a u e n _ => ⟨by rw [upd_ne (fun q => n (by rw [q]; exact h))]; exact e, n⟩⟩

section
variable {K : PySem.W.Frag} {z m m1 : List Addr} {H H1 : Hp}
theorem LstAt.mono (e : Ext m H m1 H1) {a : Addr} {us : List V} (h : LstAt K z m H a us) : LstAt K z m1 H1 a us := by
  obtain ⟨r, n, y⟩ := h
  exact ⟨(e.imm _ _ r n fun ps q => by cases q).1, (e.imm _ _ r n fun ps q => by cases q).2, y⟩
theorem TupAt.mono (e : Ext m H m1 H1) {a : Addr} {us : List V} (h : TupAt K z m H a us) : TupAt K z m1 H1 a us := by
  rcases h with ⟨r, n, y⟩ | h
  · exact .inl ⟨(e.rd r n fun ps q => by cases q).1, (e.rd r n fun ps q => by cases q).2, y⟩
  · exact .inr h
/-- anything that keeps what lies at an address -/
structure Kept (K : PySem.W.Frag) (z m : List Addr) (H : Hp) (z1 m1 : List Addr) (H1 : Hp) : Prop where
  l : ∀ a us, LstAt K z m H a us → LstAt K z1 m1 H1 a us
  t : ∀ a us, TupAt K z m H a us → TupAt K z1 m1 H1 a us
  c : ∀ (l : Nat) (a : Addr), m[l]? = some a → m1[l]? = some a
  r : ∀ a us, Rd H a (.lst us) ∧ a ∉ m ∧ a ∉ z → Rd H1 a (.lst us) ∧ a ∉ m1 ∧ a ∉ z1
theorem Ext.keeps (e : Ext m H m1 H1) : Kept K z m H z m1 H1 := ⟨fun _ _ h => h.mono e, fun _ _ h => h.mono e, fun _ _ h => e.at h, fun _ _ ⟨h, n, y⟩ => ⟨(e.rd h n fun ps q => by cases q).1, (e.rd h n fun ps q => by cases q).2, y⟩⟩
mutual
theorem RepD.keep {z1 : List Addr} (e : Kept K z m H z1 m1 H1) : ∀ {x : D} {v : V}, RepD K z m H x v → RepD K z1 m1 H1 x v
  | .none, _, h => by simpa [RepD] using h
  | .bool _, _, h => by simpa [RepD] using h
  | .int _, _, h => by simpa [RepD] using h
  | .str _, _, h => by simpa [RepD] using h
  | .list xs, _, h => by
    rw [RepD] at h ⊢
    obtain ⟨a, us, h1, h2, h3, h4⟩ := h
    exact ⟨a, us, h1, e.l _ _ h2, h3, RepDs.keep e h4⟩
  | .tup xs, _, h => by
    rw [RepD] at h ⊢
    obtain ⟨a, us, h1, h2, h3, h4⟩ := h
    exact ⟨a, us, h1, e.t _ _ h2, h3, RepDs.keep e h4⟩
theorem RepDs.keep {z1 : List Addr} (e : Kept K z m H z1 m1 H1) : ∀ {xs : List D} {us : List V}, RepDs K z m H xs us → RepDs K z1 m1 H1 xs us
  | [], _, h => by simpa [RepDs] using h
  | x :: xs, _, h => by
    rw [RepDs] at h ⊢
    obtain ⟨u, r, h1, h2, h3⟩ := h
    exact ⟨u, r, h1, RepD.keep e h2, RepDs.keep e h3⟩
end
mutual
theorem Rep.keep {z1 : List Addr} (e : Kept K z m H z1 m1 H1) : ∀ {x : PV} {v : V}, Rep K z m H x v → Rep K z1 m1 H1 x v
  | .d x, _, h => by
    rw [Rep] at h ⊢
    exact RepD.keep e (x := x) h
  | .ref l, _, h => by
    rw [Rep] at h ⊢
    obtain ⟨a, h1, h2⟩ := h
    exact ⟨a, h1, e.c _ _ h2⟩
  | .dict kvs, _, h => by
    rw [Rep] at h
    obtain ⟨a, h1, h2⟩ := h
    exact h2.elim
  | .scr xs, _, h => by
    rw [Rep] at h ⊢
    obtain ⟨a, us, h1, h2, h3, h4⟩ := h
    exact ⟨a, us, h1, h2.imp (e.r _ _) id, h3, h4.keep e⟩
  | .tp xs, _, h => by
    rw [Rep] at h ⊢
    obtain ⟨a, us, h1, h2, h3, h4⟩ := h
    exact ⟨a, us, h1, e.t _ _ h2, h3, Reps.keep e h4⟩
theorem Reps.keep {z1 : List Addr} (e : Kept K z m H z1 m1 H1) : ∀ {xs : List PV} {us : List V}, Reps K z m H xs us → Reps K z1 m1 H1 xs us
  | [], _, h => by
    rw [Reps] at h ⊢
    exact h
  | x :: xs, _, h => by
    rw [Reps] at h ⊢
    obtain ⟨u, r, h1, h2, h3⟩ := h
    exact ⟨u, r, h1, Rep.keep e h2, Reps.keep e h3⟩
end
theorem Reps.length : ∀ {xs : List PV} {us : List V}, Reps K z m H xs us → xs.length = us.length
  | [], us, h => by rw [show us = [] from h]; rfl
  | x :: xs, _, h => by
    obtain ⟨u, r, rfl, h2, h3⟩ := h
    simp [Reps.length h3]
theorem RepDs.length : ∀ {xs : List D} {us : List V}, RepDs K z m H xs us → xs.length = us.length
  | [], _, h => by rw [RepDs] at h; rw [h]; rfl
  | x :: xs, _, h => by
    rw [RepDs] at h
    obtain ⟨u, r, rfl, h2, h3⟩ := h
    simp [RepDs.length h3]
theorem Reps.get : ∀ {xs : List PV} {us : List V} {i : Nat} {x : PV}, Reps K z m H xs us → xs[i]? = some x → ∃ u, us[i]? = some u ∧ Rep K z m H x u
  | [], _, _, _, _, e => by simp at e
  | y :: xs, _, 0, x, h, e => by
    obtain ⟨u, r, rfl, h2, h3⟩ := h
    simp at e; subst e
    exact ⟨u, rfl, h2⟩
  | y :: xs, _, i + 1, x, h, e => by
    obtain ⟨u, r, rfl, h2, h3⟩ := h
    simpa using Reps.get h3 (i := i) (by simpa using e)
theorem RepDs.get : ∀ {xs : List D} {us : List V} {i : Nat} {x : D}, RepDs K z m H xs us → xs[i]? = some x → ∃ u, us[i]? = some u ∧ RepD K z m H x u
  | [], _, _, _, _, e => by simp at e
  | y :: xs, _, 0, x, h, e => by
    rw [RepDs] at h
    obtain ⟨u, r, rfl, h2, h3⟩ := h
    simp at e; subst e
    exact ⟨u, rfl, h2⟩
  | y :: xs, _, i + 1, x, h, e => by
    rw [RepDs] at h
    obtain ⟨u, r, rfl, h2, h3⟩ := h
    simpa using RepDs.get h3 (i := i) (by simpa using e)
theorem RepDs.reps : ∀ {xs : List D} {us : List V}, RepDs K z m H xs us → Reps K z m H (xs.map PV.d) us
  | [], _, h => by rw [RepDs] at h; rw [List.map_nil, Reps]; exact h
  | x :: xs, _, h => by
    rw [RepDs] at h
    obtain ⟨u, r, h1, h2, h3⟩ := h
    rw [List.map_cons, Reps]
    exact ⟨u, r, h1, by rw [Rep]; exact h2, RepDs.reps h3⟩
theorem Reps.ds : ∀ {xs : List PV} {us : List V} {ds : List D}, Reps K z m H xs us → allD xs = some ds → RepDs K z m H ds us
  | [], _, _, h, e => by
    simp [allD] at e; subst e
    rw [Reps] at h
    rw [RepDs]; exact h
  | .d x :: xs, _, ds, h, e => by
    rw [Reps] at h
    obtain ⟨u, r, h1, h2, h3⟩ := h
    rw [Rep] at h2
    simp only [allD, Option.map_eq_some_iff] at e
    obtain ⟨ds', e1, rfl⟩ := e
    rw [RepDs]
    exact ⟨u, r, h1, h2, Reps.ds h3 e1⟩
  | .ref _ :: _, _, _, _, e => by simp [allD] at e
  | .dict _ :: _, _, _, _, e => by simp [allD] at e
  | .scr _ :: _, _, _, _, e => by simp [allD] at e
  | .tp _ :: _, _, _, _, e => by simp [allD] at e
theorem RepDs.append : ∀ {xs ys : List D} {us vs : List V}, RepDs K z m H xs us → RepDs K z m H ys vs → RepDs K z m H (xs ++ ys) (us ++ vs)
  | [], _, _, _, h, k => by rw [RepDs] at h; subst h; exact k
  | x :: xs, _, _, _, h, k => by
    rw [RepDs] at h
    obtain ⟨u, r, rfl, h2, h3⟩ := h
    rw [List.cons_append, RepDs]
    exact ⟨u, _, rfl, h2, RepDs.append h3 k⟩
theorem RepDs.take : ∀ {xs : List D} {us : List V} (n : Nat), RepDs K z m H xs us → RepDs K z m H (xs.take n) (us.take n)
  | _, _, 0, _ => by simp [RepDs]
  | [], _, n + 1, h => by rw [RepDs] at h; subst h; simp [RepDs]
  | x :: xs, _, n + 1, h => by
    rw [RepDs] at h
    obtain ⟨u, r, rfl, h2, h3⟩ := h
    rw [List.take_succ_cons, RepDs]
    exact ⟨u, _, by simp, h2, RepDs.take n h3⟩
theorem RepDs.drop : ∀ {xs : List D} {us : List V} (n : Nat), RepDs K z m H xs us → RepDs K z m H (xs.drop n) (us.drop n)
  | _, _, 0, h => by simpa using h
  | [], _, n + 1, h => by rw [RepDs] at h; subst h; simp [RepDs]
  | x :: xs, _, n + 1, h => by
    rw [RepDs] at h
    obtain ⟨u, r, rfl, h2, h3⟩ := h
    simpa using RepDs.drop n h3
theorem Reps.append : ∀ {xs ys : List PV} {us vs : List V}, Reps K z m H xs us → Reps K z m H ys vs → Reps K z m H (xs ++ ys) (us ++ vs)
  | [], _, _, _, h, k => by rw [show _ = [] from h]; exact k
  | x :: xs, _, _, _, h, k => by
    obtain ⟨u, r, rfl, h2, h3⟩ := h
    exact ⟨u, _, rfl, h2, Reps.append h3 k⟩
theorem Reps.set : ∀ {xs : List PV} {us : List V} (i : Nat) {x : PV} {v : V}, Reps K z m H xs us → Rep K z m H x v → Reps K z m H (xs.set i x) (us.set i v)
  | [], _, _, _, _, h, _ => by rw [show _ = [] from h]; rfl
  | y :: xs, _, 0, _, _, h, k => by
    obtain ⟨u, r, rfl, h2, h3⟩ := h
    exact ⟨_, r, rfl, k, h3⟩
  | y :: xs, _, i + 1, _, _, h, k => by
    obtain ⟨u, r, rfl, h2, h3⟩ := h
    exact ⟨u, _, rfl, h2, Reps.set i h3 k⟩
end

/-- the tables of code objects of all functions of the written part -/
def tabsK (K : PySem.W.Frag) : List (Addr × Str) := K.filterMap fun p => match p.2.data with
  | .func fd => (match fd.code with
    | .ref c => some (He.tabOf K c, fd.qualname ++ ".<locals>." ++ "<lambda>")
    | _ => none)
  | _ => none
theorem tabs_new {T : List (Addr × Str)} {H : Hp} {p : Addr} {o : HO} (t : LamX.Tabs T H) (h : H p = none) : LamX.Tabs T (upd H p o) :=
  t.ext fun b u e => by rw [upd_ne (ne_of_none e h)]; exact e
theorem tabs_lst {T : List (Addr × Str)} {H : Hp} {a : Addr} {us vs : List V} (t : LamX.Tabs T H) (h : H a = some (.lst us)) : LamX.Tabs T (upd H a (.lst vs)) := fun p hp => by
  obtain ⟨ps, h1, h2, h3⟩ := t p hp
  have n1 : p.1 ≠ a := fun q => by rw [q, h] at h1; cases h1
  refine ⟨ps, by rw [upd_ne n1]; exact h1, h2, fun pos cv hc => ?_⟩
  obtain ⟨c, e1, e2⟩ := h3 pos cv hc
  refine ⟨c, e1, ?_⟩
  have n2 : c ≠ a := fun q => by
    rw [q, h] at e2
    unfold LamX.CodeO at e2
    cases e2
  rw [upd_ne n2]; exact e2
theorem tabs_dic {T : List (Addr × Str)} {H : Hp} {a : Addr} {us vs : List (L2.Key × V)} (t : LamX.Tabs T H) (h : H a = some (.dK us)) : LamX.Tabs T (upd H a (.dK vs)) := fun p hp => by
  obtain ⟨ps, h1, h2, h3⟩ := t p hp
  have n1 : p.1 ≠ a := fun q => by rw [q, h] at h1; cases h1
  refine ⟨ps, by rw [upd_ne n1]; exact h1, h2, fun pos cv hc => ?_⟩
  obtain ⟨c, e1, e2⟩ := h3 pos cv hc
  refine ⟨c, e1, ?_⟩
  have n2 : c ≠ a := fun q => by
    rw [q, h] at e2
    unfold LamX.CodeO at e2
    cases e2
  rw [upd_ne n2]; exact e2
/-- a key as data -/
def keyD : L2.Key → D
  | .inl i => .int i
  | .inr s => .str s.cps.toList
/-- a dict's pairs -/
def RepK (K : PySem.W.Frag) (z m : List Addr) (H : Hp) : List (D × PV) → List (L2.Key × V) → Prop
  | [], ks => ks = []
  | (k, v) :: r, ks => ∃ key u ks', ks = (key, u) :: ks' ∧ k = keyD key ∧ Rep K z m H v u ∧ RepK K z m H r ks'
theorem RepK.keep {K : PySem.W.Frag} {z m m1 z1 : List Addr} {H H1 : Hp} (e : Kept K z m H z1 m1 H1) : ∀ {kvs : List (D × PV)} {ks : List (L2.Key × V)}, RepK K z m H kvs ks → RepK K z1 m1 H1 kvs ks
  | [], _, h => h
  | (k, v) :: r, _, h => by
    obtain ⟨key, u, ks', h1, h2, h3, h4⟩ := h
    exact ⟨key, u, ks', h1, h2, h3.keep e, h4.keep e⟩
/-- the store's cells -/
structure RelH (K : PySem.W.Frag) (z m : List Addr) (H : Hp) (h : Hh) : Prop where
  nd : m.Nodup
  len : m.length = h.length
  cell : ∀ (l : Nat) (a : Addr) (xs : List PV), m[l]? = some a → h[l]? = some (.lst xs) → ∃ us, H a = some (.lst us) ∧ us.length ≤ sizeLine ∧ Reps K z m H xs us
  dcell : ∀ (l : Nat) (a : Addr) (kvs : List (D × PV)), m[l]? = some a → h[l]? = some (.dic kvs) → ∃ ks, H a = some (.dK ks) ∧ ks.length ≤ sizeLine ∧ RepK K z m H kvs ks
  zt : ∀ a ∈ z, (∃ us, H a = some (.lst us)) ∧ a ∉ m
  tb : LamX.Tabs (tabsK K) H
theorem RelH.there {K : PySem.W.Frag} {z m : List Addr} {H : Hp} {h : Hh} (r : RelH K z m H h) {a : Addr} (ha : a ∈ m) : (∃ us, H a = some (.lst us)) ∨ ∃ ks, H a = some (.dK ks) := by
  obtain ⟨l, hl, e⟩ := List.getElem_of_mem ha
  have e1 : m[l]? = some a := by rw [List.getElem?_eq_getElem hl, e]
  have hl2 : l < h.length := by rw [← r.len]; exact hl
  cases hc : h[l] with
  | lst xs =>
    obtain ⟨us, h1, _⟩ := r.cell l a xs e1 (by rw [List.getElem?_eq_getElem hl2, hc])
    exact .inl ⟨us, h1⟩
  | dic kvs =>
    obtain ⟨us, h1, _⟩ := r.dcell l a kvs e1 (by rw [List.getElem?_eq_getElem hl2, hc])
    exact .inr ⟨us, h1⟩
theorem RelH.fresh {K : PySem.W.Frag} {z m : List Addr} {H : Hp} {h : Hh} (r : RelH K z m H h) {p : Addr} (hp : H p = none) : p ∉ m ∧ p ∉ z := by
  constructor
  · intro hm
    rcases r.there hm with ⟨us, e⟩ | ⟨us, e⟩ <;> (rw [hp] at e; cases e)
  · intro hz
    obtain ⟨⟨o, e⟩, _⟩ := r.zt p hz
    rw [hp] at e; cases e

/-- the slots -/
def RelS (K : PySem.W.Frag) (z m : List Addr) (H : Hp) (env : Env) (σ : L2.St) : Prop :=
  env.length = σ.length ∧ ∀ (i : Nat) (v : PV), env[i]? = some (some v) → ∃ x, σ[i]? = some (some x) ∧ Rep K z m H v x
section
variable {K : PySem.W.Frag} {z m m1 : List Addr} {H H1 : Hp} {env : Env} {σ : L2.St}
theorem RelS.keep {z1 : List Addr} (e : Kept K z m H z1 m1 H1) (r : RelS K z m H env σ) : RelS K z1 m1 H1 env σ :=
  ⟨r.1, fun i v h => let ⟨x, h1, h2⟩ := r.2 i v h; ⟨x, h1, h2.keep e⟩⟩
theorem RelS.set (r : RelS K z m H env σ) {i : Nat} {v : PV} {x : V} (h : Rep K z m H v x) : RelS K z m H (env.set i (some v)) (σ.set i (some x)) := by
  refine ⟨by simpa using r.1, fun j w e => ?_⟩
  by_cases hj : i = j
  · subst hj
    rw [List.getElem?_set] at e
    simp only [if_true] at e
    split at e
    · rename_i hl
      cases e
      exact ⟨x, by rw [List.getElem?_set_self (by rw [← r.1]; exact hl)], h⟩
    · cases e
  · rw [List.getElem?_set_ne hj] at e
    obtain ⟨y, h1, h2⟩ := r.2 j w e
    exact ⟨y, by rw [List.getElem?_set_ne hj]; exact h1, h2⟩
theorem wipe_len (env : Env) : ∀ vs : List Nat, (Ev.wipe env vs).length = env.length
  | [] => rfl
  | v :: vs => by simp [Ev.wipe, wipe_len env vs]
theorem RelS.wipe (r : RelS K z m H env σ) : ∀ (vs : List Nat), RelS K z m H (Ev.wipe env vs) (L2.wipe σ vs)
  | [] => r
  | v :: vs => by
    have q := RelS.wipe r vs
    refine ⟨by simpa [Ev.wipe, L2.wipe] using q.1, fun j w e => ?_⟩
    simp only [Ev.wipe, L2.wipe] at e ⊢
    by_cases hj : v = j
    · subst hj
      rw [List.getElem?_set] at e
      simp only [if_true] at e
      split at e
      · cases e
      · cases e
    · rw [List.getElem?_set_ne hj] at e ⊢
      exact q.2 j w e
end
theorem RelH.keepNew {K : PySem.W.Frag} {z m : List Addr} {H : Hp} {h : Hh} (r : RelH K z m H h) {p : Addr} {o : HO} (hp : H p = none) : RelH K z m (upd H p o) h := by
  have k : Kept K z m H z m (upd H p o) := (Ext.new hp).keeps
  refine ⟨r.nd, r.len, fun l a xs h1 h2 => ?_, fun l a xs h1 h2 => ?_, fun a ha => ?_, tabs_new r.tb hp⟩
  · obtain ⟨us, e1, e2, e3⟩ := r.cell l a xs h1 h2
    exact ⟨us, by rw [upd_ne (ne_of_none e1 hp)]; exact e1, e2, e3.keep k⟩
  · obtain ⟨us, e1, e2, e3⟩ := r.dcell l a xs h1 h2
    exact ⟨us, by rw [upd_ne (ne_of_none e1 hp)]; exact e1, e2, e3.keep k⟩
  · obtain ⟨⟨o', e⟩, n⟩ := r.zt a ha
    exact ⟨⟨o', by rw [upd_ne (ne_of_none e hp)]; exact e⟩, n⟩
end Ev
end

section
/-! EvOps: what the machine's operators, built-ins and methods do with plain data. -/
set_option autoImplicit false
set_option linter.all false
set_option Elab.async false
set_option maxRecDepth 100000
namespace Ev
open PySem L2 PyProof.Rows

mutual
def D.py : D → PyData
  | .none => .none
  | .bool b => .bool b
  | .int i => .int i
  | .str s => .str ⟨s.toArray⟩
  | .list xs => .list (D.pys xs)
  | .tup xs => .tuple (D.pys xs)
def D.pys : List D → List PyData
  | [] => []
  | x :: xs => D.py x :: D.pys xs
end
theorem D.pys_map : ∀ xs : List D, D.pys xs = xs.map D.py
  | [] => rfl
  | x :: xs => by rw [D.pys, D.pys_map xs]; rfl
mutual
theorem D.plain : ∀ x : D, x.py.plain = true
  | .none => rfl
  | .bool _ => rfl
  | .int _ => rfl
  | .str _ => rfl
  | .list xs => by rw [D.py, PyData.plain]; exact D.plains xs
  | .tup xs => by rw [D.py, PyData.plain]; exact D.plains xs
theorem D.plains : ∀ xs : List D, PyData.plainAll (D.pys xs) = true
  | [] => rfl
  | x :: xs => by rw [D.pys, PyData.plainAll, D.plain x, D.plains xs]; rfl
end
mutual
theorem D.py_eqv : ∀ x y : D, PyData.eqv x.py y.py = D.eqv x y
  | .none, y => by cases y <;> simp [D.py, PyData.eqv, D.eqv]
  | .bool _, y => by cases y <;> simp [D.py, PyData.eqv, D.eqv]
  | .int _, y => by cases y <;> simp [D.py, PyData.eqv, D.eqv]
  | .str s, y => by
    cases y with
    | str t => simp only [D.py, PyData.eqv, D.eqv]; rw [Bool.eq_iff_iff]; simp
    | _ => simp [D.py, PyData.eqv, D.eqv]
  | .list xs, y => by
    cases y with
    | list ys => simp only [D.py, PyData.eqv, D.eqv]; exact D.pys_eqv xs ys
    | _ => simp [D.py, PyData.eqv, D.eqv]
  | .tup xs, y => by
    cases y with
    | tup ys => simp only [D.py, PyData.eqv, D.eqv]; exact D.pys_eqv xs ys
    | _ => simp [D.py, PyData.eqv, D.eqv]
theorem D.pys_eqv : ∀ xs ys : List D, PyData.eqvAll (D.pys xs) (D.pys ys) = D.eqvs xs ys
  | [], [] => rfl
  | [], _ :: _ => rfl
  | _ :: _, [] => rfl
  | x :: xs, y :: ys => by simp only [D.pys, PyData.eqvAll, D.eqvs, D.py_eqv x y, D.pys_eqv xs ys]
end
mutual
theorem D.shal_depth : ∀ (x : D) (n : Nat), x.shal n = true → x.py.depth ≤ n
  | .none, _, _ => Nat.zero_le _
  | .bool _, _, _ => Nat.zero_le _
  | .int _, _, _ => Nat.zero_le _
  | .str _, _, _ => Nat.zero_le _
  | .list xs, 0, h => by simp [D.shal] at h
  | .list xs, n + 1, h => by
    rw [D.shal] at h
    rw [D.py, PyData.depth]
    exact Nat.succ_le_succ (D.shals_depth xs n h)
  | .tup xs, 0, h => by simp [D.shal] at h
  | .tup xs, n + 1, h => by
    rw [D.shal] at h
    rw [D.py, PyData.depth]
    exact Nat.succ_le_succ (D.shals_depth xs n h)
theorem D.shals_depth : ∀ (xs : List D) (n : Nat), D.shals xs n = true → PyData.depthAll (D.pys xs) ≤ n
  | [], _, _ => Nat.zero_le _
  | x :: xs, n, h => by
    rw [D.shals, Bool.and_eq_true] at h
    rw [D.pys, PyData.depthAll]
    exact Nat.max_le.mpr ⟨D.shal_depth x n h.1, D.shals_depth xs n h.2⟩
end
theorem near_depth {a b : D} (h : near a b = true) : min a.py.depth b.py.depth ≤ 60 := by
  rw [near, Bool.or_eq_true] at h
  rcases h with h | h
  · exact Nat.le_trans (Nat.min_le_left _ _) (D.shal_depth a 60 h)
  · exact Nat.le_trans (Nat.min_le_right _ _) (D.shal_depth b 60 h)
theorem near_in {a : D} {ys : List D} (h : near a (.list ys) = true ∨ near a (.tup ys) = true) : min (PyData.depthAll (D.pys ys)) a.py.depth ≤ 60 := by
  have k : a.py.depth ≤ 60 ∨ PyData.depthAll (D.pys ys) + 1 ≤ 60 := by
    rcases h with h | h
    · rw [near, Bool.or_eq_true] at h
      rcases h with h | h
      · exact .inl (D.shal_depth a 60 h)
      · have q := D.shal_depth _ 60 h
        rw [D.py, PyData.depth] at q
        exact .inr q
    · rw [near, Bool.or_eq_true] at h
      rcases h with h | h
      · exact .inl (D.shal_depth a 60 h)
      · have q := D.shal_depth _ 60 h
        rw [D.py, PyData.depth] at q
        exact .inr q
  omega

section
variable {K : PySem.W.Frag} {z m : List Addr} {H : Hp}
mutual
theorem RepD.dp : ∀ {x : D} {v : V}, RepD K z m H x v → Dp K H v x.py
  | .none, _, h => by rw [RepD] at h; subst h; rw [D.py]; exact .non
  | .bool _, _, h => by rw [RepD] at h; subst h; rw [D.py]; exact .bl _
  | .int _, _, h => by rw [RepD] at h; subst h; rw [D.py]; exact .int _
  | .str _, _, h => by rw [RepD] at h; subst h; rw [D.py]; exact .str _
  | .list xs, _, h => by
    rw [RepD] at h
    obtain ⟨a, us, rfl, h2, h3, h4⟩ := h
    rw [D.py]
    exact .lst h2.sq (RepDs.dp h4)
  | .tup xs, _, h => by
    rw [RepD] at h
    obtain ⟨a, us, rfl, h2, h3, h4⟩ := h
    rw [D.py]
    exact .tup h2.sq (RepDs.dp h4)
theorem RepDs.dp : ∀ {xs : List D} {us : List V}, RepDs K z m H xs us → DpAll K H us (D.pys xs)
  | [], _, h => by rw [RepDs] at h; subst h; rw [D.pys]; exact .nil
  | x :: xs, _, h => by
    rw [RepDs] at h
    obtain ⟨u, r, rfl, h2, h3⟩ := h
    rw [D.pys]
    exact .cons (RepD.dp h2) (RepDs.dp h3)
end
/-- a value as a list or a tuple of data -/
theorem deref_seq {h : Hh} {v : PV} {x : V} {d : D} (rh : RelH K z m H h) (r : Rep K z m H v x) (e : deref h v = some d) : Dp K H x d.py := by
  cases v with
  | d y => simp only [deref, Option.some.injEq] at e; subst e; exact RepD.dp r
  | ref l =>
    obtain ⟨a, rfl, ha⟩ := r
    simp only [deref] at e
    cases hc : h[l]? with
    | none => rw [hc] at e; simp at e
    | some c =>
      cases c with
      | lst xs =>
        rw [hc] at e
        simp only [Option.map_eq_some_iff] at e
        obtain ⟨ds, e1, rfl⟩ := e
        obtain ⟨us, h1, h2, h3⟩ := rh.cell l a xs ha hc
        rw [D.py]
        exact .lst (.inl (.inl h1)) (RepDs.dp (h3.ds e1))
      | dic _ => rw [hc] at e; simp at e
  | dict kvs => simp [deref] at e
  | scr _ => simp [deref] at e
  | tp _ => simp [deref] at e
/-- .. as a list -/
theorem deref_list {h : Hh} {v : PV} {x : V} {xs : List D} (rh : RelH K z m H h) (r : Rep K z m H v x) (e : deref h v = some (.list xs)) : ∃ a us, x = .ref a ∧ SqL K H a us ∧ us.length ≤ sizeLine ∧ RepDs K z m H xs us := by
  cases v with
  | d y =>
    simp only [deref, Option.some.injEq] at e; subst e
    rw [Rep, RepD] at r
    obtain ⟨a, us, h1, h2, h3, h4⟩ := r
    exact ⟨a, us, h1, h2.sq, h3, h4⟩
  | ref l =>
    obtain ⟨a, rfl, ha⟩ := r
    simp only [deref] at e
    cases hc : h[l]? with
    | none => rw [hc] at e; simp at e
    | some c =>
      cases c with
      | lst ys =>
        rw [hc] at e
        simp only [Option.map_eq_some_iff] at e
        obtain ⟨ds, e1, e2⟩ := e
        cases e2
        obtain ⟨us, h1, h2, h3⟩ := rh.cell l a ys ha hc
        exact ⟨a, us, rfl, .inl (.inl h1), h2, h3.ds e1⟩
      | dic _ => rw [hc] at e; simp at e
  | dict kvs => simp [deref] at e
  | scr _ => simp [deref] at e
  | tp _ => simp [deref] at e
theorem deref_tup {h : Hh} {v : PV} {x : V} {xs : List D} (rh : RelH K z m H h) (r : Rep K z m H v x) (e : deref h v = some (.tup xs)) : ∃ a us, x = .ref a ∧ TupAt K z m H a us ∧ us.length ≤ sizeLine ∧ RepDs K z m H xs us := by
  cases v with
  | d y =>
    simp only [deref, Option.some.injEq] at e; subst e
    rw [Rep, RepD] at r
    exact r
  | ref l =>
    simp only [deref] at e
    cases hc : h[l]? with
    | none => rw [hc] at e; simp at e
    | some c =>
      cases c with
      | lst ys =>
        rw [hc] at e
        simp only [Option.map_eq_some_iff] at e
        obtain ⟨ds, e1, e2⟩ := e
        cases e2
      | dic _ => rw [hc] at e; simp at e
  | dict kvs => simp [deref] at e
  | scr _ => simp [deref] at e
  | tp _ => simp [deref] at e
end

theorem D.eqv_key : ∀ a b : L2.Key, D.eqv (keyD a) (keyD b) = decide (a = b)
  | .inl i, .inl j => by
    rw [keyD, keyD, D.eqv, Bool.eq_iff_iff]
    simp
  | .inl i, .inr s => by rw [keyD, keyD]; simp [D.eqv]
  | .inr s, .inl j => by rw [keyD, keyD]; simp [D.eqv]
  | .inr s, .inr u => by
    rw [keyD, keyD, D.eqv, Bool.eq_iff_iff]
    simp only [beq_iff_eq, decide_eq_true_eq, Sum.inr.injEq]
    constructor
    · intro e
      obtain ⟨⟨a⟩⟩ := s
      obtain ⟨⟨b⟩⟩ := u
      simp only at e
      rw [e]
    · intro e; rw [e]
section
variable {K : PySem.W.Frag} {z m : List Addr} {H : Hp}
/-- what is there, and what is told to be there -/
inductive RepO (K : PySem.W.Frag) (z m : List Addr) (H : Hp) : Option PV → Option V → Prop where
  | no : RepO K z m H .none .none
  | is {v : PV} {u : V} (h : Rep K z m H v u) : RepO K z m H (.some v) (.some u)
theorem RepO.isSome {o : Option PV} {p : Option V} (h : RepO K z m H o p) : o.isSome = p.isSome := by cases h <;> rfl
theorem RepO.some_of {v : PV} {p : Option V} (h : RepO K z m H (some v) p) : ∃ u, p = some u ∧ Rep K z m H v u := by
  cases h with
  | is h => exact ⟨_, rfl, h⟩
theorem RepK.get (key : L2.Key) : ∀ {kvs : List (D × PV)} {ks : List (L2.Key × V)}, RepK K z m H kvs ks → RepO K z m H (dGet kvs (keyD key)) (valV ks key)
  | [], _, h => by
    rw [show _ = [] from h]
    exact .no
  | (k, v) :: r, _, h => by
    obtain ⟨key', u, ks', rfl, rfl, h3, h4⟩ := h
    unfold dGet
    rw [List.find?_cons]
    dsimp only
    rw [D.eqv_key]
    by_cases e : key' = key
    · rw [decide_eq_true e, valV_pos e]
      exact .is h3
    · rw [decide_eq_false e, valV_neg e]
      exact RepK.get key h4
theorem RepK.length : ∀ {kvs : List (D × PV)} {ks : List (L2.Key × V)}, RepK K z m H kvs ks → kvs.length = ks.length
  | [], _, h => by rw [show _ = [] from h]; rfl
  | (k, v) :: r, _, h => by
    obtain ⟨key, u, ks', rfl, h2, h3, h4⟩ := h
    simp [RepK.length h4]
theorem key_of {k : D} {x : V} (r : Rep K z m H (.d k) x) (hk : isKey k = true) : ∃ key, x = kV key ∧ k = keyD key := by
  cases k with
  | int i =>
    rw [Rep, RepD] at r
    exact ⟨.inl i, r, rfl⟩
  | str s =>
    rw [Rep, RepD] at r
    exact ⟨.inr ⟨s.toArray⟩, r, by simp [keyD]⟩
  | _ => simp [isKey] at hk
theorem dicAt_rep {h : Hh} {v : PV} {x : V} {kvs : List (D × PV)} (rh : RelH K z m H h) (r : Rep K z m H v x) (e : dicAt h v = some kvs) : ∃ a ks, x = .ref a ∧ H a = some (.dK ks) ∧ ks.length ≤ sizeLine ∧ RepK K z m H kvs ks := by
  cases v with
  | ref l =>
    simp only [dicAt] at e
    split at e
    · rename_i kvs' hc
      cases e
      rw [Rep] at r
      obtain ⟨a, rfl, ha⟩ := r
      obtain ⟨ks, h1, h2, h3⟩ := rh.dcell l a _ ha hc
      exact ⟨a, ks, rfl, h1, h2, h3⟩
    · cases e
  | _ => simp [dicAt] at e
end
/-- the end of a value's way -/
def Post (K : PySem.W.Frag) (z m : List Addr) (H : Hp) (Q : VK) (v : PV) (h : Hh) : Prop :=
  ∀ m' H' x, Ext m H m' H' → RelH K z m' H' h → Rep K z m' H' v x → Q x H'
theorem Post.here {K : PySem.W.Frag} {z m : List Addr} {H : Hp} {Q : VK} {v : PV} {h : Hh} {x : V} (p : Post K z m H Q v h) (rh : RelH K z m H h) (r : Rep K z m H v x) : Q x H := p m H x (Ext.refl _ _) rh r
/-- a new tuple, a new list -/
theorem Post.tup {K : PySem.W.Frag} {z m : List Addr} {H : Hp} {Q : VK} {xs : List D} {h : Hh} {us : List V} (p : Post K z m H Q (.d (.tup xs)) h) (rh : RelH K z m H h) (r : RepDs K z m H xs us) (hl : us.length ≤ sizeLine) {q : Addr} (hq : H q = none) : Q (.ref q) (upd H q (.tup us)) := by
  refine p m _ _ (Ext.new hq) (rh.keepNew hq) ?_
  rw [Rep, RepD]
  exact ⟨q, us, rfl, .inl ⟨.inl upd_same, rh.fresh hq⟩, hl, RepDs.keep (Ext.new hq).keeps r⟩
theorem Post.lst {K : PySem.W.Frag} {z m : List Addr} {H : Hp} {Q : VK} {xs : List D} {h : Hh} {us : List V} (p : Post K z m H Q (.d (.list xs)) h) (rh : RelH K z m H h) (r : RepDs K z m H xs us) (hl : us.length ≤ sizeLine) {q : Addr} (hq : H q = none) : Q (.ref q) (upd H q (.lst us)) := by
  refine p m _ _ (Ext.new hq) (rh.keepNew hq) ?_
  rw [Rep, RepD]
  exact ⟨q, us, rfl, ⟨upd_same, rh.fresh hq⟩, hl, RepDs.keep (Ext.new hq).keeps r⟩

/-- an operator on values -/
def R2of (K : PySem.W.Frag) (f : Hh → PV → PV → Option PV) : R2 := fun x y H Q => ∃ a b h z m v, Rep K z m H a x ∧ Rep K z m H b y ∧ RelH K z m H h ∧ f h a b = some v ∧ Post K z m H Q v h

section
variable {X : Cx}
theorem units_of {k : Nat} (hr : Room k X.A) : X.A.units + 200 < cLine := by have := hr.un; omega

theorem opr_eq {k : Nat} (hr : Room k X.A) : OpR X (compareOp .Eq) (R2of X.K fun h a b => (cmpop h .eq a b).map fun r => .d (.bool r)) := by
  intro pins s σ H x y v u Q I rx ry q
  obtain ⟨a, b, h, z, m, w, ha, hb, rh, e, p⟩ := q
  simp only [cmpop] at e
  cases e1 : deref h a with
  | none => simp [e1] at e
  | some d1 =>
    cases e2 : deref h b with
    | none => simp [e1, e2] at e
    | some d2 =>
      simp only [e1, e2] at e
      by_cases hn : near d1 d2 = true
      · simp only [hn, if_true, Option.map_some, Option.some.injEq] at e
        subst e
        obtain ⟨as, r1⟩ := Dp.reads I _ _ _ (deref_seq rh ha e1) rx
        obtain ⟨bs, r2⟩ := Dp.reads I _ _ _ (deref_seq rh hb e2) ry
        refine SeqAt.eq_plain r1 r2 (D.plain _) (D.plain _) (by have := near_depth hn; have := units_of hr; omega) ?_
        exact ⟨.bl _, H, I, rfl, p.here rh (by rw [D.py_eqv]; rfl)⟩
      · simp [hn] at e
theorem opr_ne {k : Nat} (hr : Room k X.A) : OpR X (compareOp .NotEq) (R2of X.K fun h a b => (cmpop h .ne a b).map fun r => .d (.bool r)) := by
  intro pins s σ H x y v u Q I rx ry q
  obtain ⟨a, b, h, z, m, w, ha, hb, rh, e, p⟩ := q
  simp only [cmpop] at e
  cases e1 : deref h a with
  | none => simp [e1] at e
  | some d1 =>
    cases e2 : deref h b with
    | none => simp [e1, e2] at e
    | some d2 =>
      simp only [e1, e2] at e
      by_cases hn : near d1 d2 = true
      · simp only [hn, if_true, Option.map_some, Option.some.injEq] at e
        subst e
        obtain ⟨as, r1⟩ := Dp.reads I _ _ _ (deref_seq rh ha e1) rx
        obtain ⟨bs, r2⟩ := Dp.reads I _ _ _ (deref_seq rh hb e2) ry
        refine SeqAt.ne_plain r1 r2 (D.plain _) (D.plain _) (by have := near_depth hn; have := units_of hr; omega) ?_
        exact ⟨.bl _, H, I, rfl, p.here rh (by rw [D.py_eqv]; rfl)⟩
      · simp [hn] at e

theorem dp_list {K : PySem.W.Frag} {H : Hp} {v : V} {ds : List PyData} (h : Dp K H v (.list ds)) : True := trivial
theorem opr_in {k : Nat} (hr : Room k X.A) (neg : Bool) : OpR X (compareOp (if neg then .NotIn else .In)) (R2of X.K fun h a b => (cmpop h (if neg then .notin else .isin) a b).map fun r => .d (.bool r)) := by
  intro pins s σ H x y v u Q I rx ry q
  obtain ⟨a, b, h, z, m, w, ha, hb, rh, e, p⟩ := q
  have e' : (isin h a b).map (fun r => PV.d (.bool (if neg then !r else r))) = some w := by
    cases neg
    · simpa [cmpop] using e
    · simp only [cmpop, if_true, Option.map_map] at e
      exact e
  clear e
  have hu := units_of hr
  have key : ∀ (d1 d2 : D) (r : Bool), deref h a = some d1 → deref h b = some d2 → isinD d1 d2 = some r → PV.d (.bool (if neg then !r else r)) = w →
      wpAny (model X.prog X.w) X.A (compareOp (if neg then .NotIn else .In) v u) (EP X pins σ Q) X.xe s := by
    intro d1 d2 r e1 e2 e3 e4
    subst e4
    obtain ⟨as, r1⟩ := Dp.reads I _ _ _ (deref_seq rh ha e1) rx
    obtain ⟨bs, r2⟩ := Dp.reads I _ _ _ (deref_seq rh hb e2) ry
    have fin : EP X pins σ Q (.bool (if neg then !r else r)) s := ⟨.bl _, H, I, rfl, p.here rh rfl⟩
    cases d2 with
    | list ys =>
      simp only [isinD] at e3
      by_cases hn : near d1 (.list ys) = true
      · simp only [hn, if_true, Option.some.injEq] at e3
        have hd := near_in (.inl hn)
        rw [D.py] at r2
        have eq : ((D.pys ys).any fun y => PyData.eqv y d1.py) = r := by
          rw [← e3, D.pys_map, List.any_map]
          congr 1
          funext y
          exact D.py_eqv y d1
        cases neg
        · exact SeqAt.in_list_data r2 r1 (D.plains _) (D.plain _) (by omega) (by rw [eq]; exact fin)
        · exact SeqAt.notIn_list_data r2 r1 (D.plains _) (D.plain _) (by omega) (by rw [eq]; exact fin)
      · simp [hn] at e3
    | tup ys =>
      simp only [isinD] at e3
      by_cases hn : near d1 (.tup ys) = true
      · simp only [hn, if_true, Option.some.injEq] at e3
        have hd := near_in (.inr hn)
        rw [D.py] at r2
        have eq : ((D.pys ys).any fun y => PyData.eqv y d1.py) = r := by
          rw [← e3, D.pys_map, List.any_map]
          congr 1
          funext y
          exact D.py_eqv y d1
        cases neg
        · exact SeqAt.in_tuple_data r2 r1 (D.plains _) (D.plain _) (by omega) (by rw [eq]; exact fin)
        · exact SeqAt.notIn_tuple_data r2 r1 (D.plains _) (D.plain _) (by omega) (by rw [eq]; exact fin)
      · simp [hn] at e3
    | str t =>
      cases d1 with
      | str l =>
        match l, e3 with
        | [c], e3 =>
          simp only [isinD, Option.some.injEq] at e3
          have hx : x = .str ⟨#[c]⟩ := by
            cases a with
            | d y => simp only [deref, Option.some.injEq] at e1; subst e1; simpa [Rep, RepD] using ha
            | ref l => simp only [deref] at e1; split at e1 <;> simp at e1
            | dict _ => simp [deref] at e1
            | scr _ => simp [deref] at e1
            | tp _ => simp [deref] at e1
          have hy : y = .str ⟨t.toArray⟩ := by
            cases b with
            | d y => simp only [deref, Option.some.injEq] at e2; subst e2; simpa [Rep, RepD] using hb
            | ref l => simp only [deref] at e2; split at e2 <;> simp at e2
            | dict _ => simp [deref] at e2
            | scr _ => simp [deref] at e2
            | tp _ => simp [deref] at e2
          have ec : decide (c ∈ (⟨t.toArray⟩ : Str).cps.toList) = r := by
            rw [← e3, Bool.eq_iff_iff]
            simp
          cases neg
          · exact op_in_sign pins s σ H x y v u Q I rx ry ⟨c, _, hx, hy, by rw [ec]; exact p.here rh rfl⟩
          · exact op_notIn_sign pins s σ H x y v u Q I rx ry ⟨c, _, hx, hy, by rw [ec]; exact p.here rh rfl⟩
      | _ => simp [isinD] at e3
    | _ => simp [isinD] at e3
  cases b with
  | dict kvs =>
    obtain ⟨_, _, f⟩ := hb
    exact f.elim
  | scr _ =>
    simp only [isin, deref, dicAt] at e'
    split at e' <;> simp at e'
  | tp _ =>
    simp only [isin, deref, dicAt] at e'
    split at e' <;> simp at e'
  | d y =>
    simp only [isin, dicAt] at e'
    cases e1 : deref h a with
    | none => simp [e1] at e'
    | some d1 =>
      have e2 : deref h (.d y) = some y := rfl
      rw [e1, e2] at e'
      simp only [Option.map_eq_some_iff] at e'
      obtain ⟨r, e3, e4⟩ := e'
      exact key d1 y r e1 rfl e3 e4
  | ref l =>
    simp only [isin] at e'
    cases ed : dicAt h (.ref l) with
    | some kvs =>
      rw [ed] at e'
      obtain ⟨ad, ks, rfl, hks, hl, rk⟩ := dicAt_rep rh hb ed
      cases a with
      | d k =>
        simp only at e'
        by_cases hk : isKey k = true
        · simp only [hk, if_true, Option.map_some, Option.some.injEq] at e'
          obtain ⟨ky, hkey, rfl⟩ := key_of ha hk
          have g : DGet H ad (kV ky) (valV ks ky) := DGet.k hks
          have e5 : (dGet kvs (keyD ky)).isSome = (valV ks ky).isSome := (rk.get ky).isSome
          rw [e5] at e'
          subst e'
          rw [hkey] at rx
          cases (show u = Value.ref ad from ry)
          cases neg
          · exact d_in (by omega) I g rx fun s' I' => ⟨.bl _, H, I', rfl, p.here rh rfl⟩
          · exact d_notIn (by omega) I g rx fun s' I' => ⟨.bl _, H, I', rfl, p.here rh rfl⟩
        · simp [hk] at e'
      | _ => simp at e'
    | none =>
      rw [ed] at e'
      cases e1 : deref h a with
      | none => simp [e1] at e'
      | some d1 =>
        cases e2 : deref h (.ref l) with
        | none => simp [e1, e2] at e'
        | some d2 =>
          simp only [e1, e2, Option.map_eq_some_iff] at e'
          obtain ⟨r, e3, e4⟩ := e'
          exact key d1 d2 r e1 e2 e3 e4

theorem ltStr_iff : ∀ s t : List Nat, ltStr s t = decide (s < t)
  | [], [] => by simp [ltStr]
  | [], _ :: _ => by simp [ltStr]
  | _ :: _, [] => by simp [ltStr]
  | a :: as, b :: bs => by
    simp only [ltStr]
    by_cases e : a = b
    · subst e
      simp [ltStr_iff as bs, List.cons_lt_cons_iff]
    · simp [e, List.cons_lt_cons_iff]
theorem cmp_lt_inv {h : Hh} {a b w : PV} (e : (cmpop h .lt a b).map (fun r => PV.d (.bool r)) = some w) : (∃ i j, a = .d (.int i) ∧ b = .d (.int j) ∧ PV.d (.bool (decide (i < j))) = w) ∨ ∃ i j, a = .d (.str i) ∧ b = .d (.str j) ∧ PV.d (.bool (ltStr i j)) = w := by
  simp only [cmpop] at e
  split at e
  · rename_i a b
    unfold ltD at e
    split at e
    · exact .inl ⟨_, _, rfl, rfl, by simpa using e⟩
    · exact .inr ⟨_, _, rfl, rfl, by simpa using e⟩
    · simp at e
  · simp at e
/-- int comparisons and < of texts -/
def cmOp : Cm → CmpOp
  | .eq => .Eq | .ne => .NotEq | .lt => .Lt | .le => .LtE | .gt => .Gt | .ge => .GtE | .isin => .In | .notin => .NotIn
theorem opr_cmp {k : Nat} (hr : Room k X.A) (o : Cm) : OpR X (compareOp (cmOp o)) (R2of X.K fun h a b => (cmpop h o a b).map fun r => .d (.bool r)) := by
  cases o with
  | eq => exact opr_eq hr
  | ne => exact opr_ne hr
  | isin => exact opr_in hr false
  | notin => exact opr_in hr true
  | lt =>
    intro pins s σ H x y v u Q I rx ry q
    obtain ⟨a, b, h, z, m, w, ha, hb, rh, e, p⟩ := q
    rcases cmp_lt_inv e with ⟨i, j, rfl, rfl, rfl⟩ | ⟨i, j, rfl, rfl, rfl⟩
    · exact op_lt pins s σ H x y v u Q I rx ry ⟨i, j, by simpa [Rep, RepD] using ha, by simpa [Rep, RepD] using hb, p.here rh rfl⟩
    · exact op_lt_str pins s σ H x y v u Q I rx ry ⟨_, _, by simpa [Rep, RepD] using ha, by simpa [Rep, RepD] using hb, p.here rh (by rw [ltStr_iff]; rfl)⟩
  | le =>
    intro pins s σ H x y v u Q I rx ry q
    obtain ⟨a, b, h, z, m, w, ha, hb, rh, e, p⟩ := q
    simp only [cmpop] at e
    split at e
    · simp only [Option.map_some, Option.some.injEq] at e
      subst e
      exact op_le pins s σ H x y v u Q I rx ry ⟨_, _, by simpa [Rep, RepD] using ha, by simpa [Rep, RepD] using hb, p.here rh rfl⟩
    · simp at e
  | gt =>
    intro pins s σ H x y v u Q I rx ry q
    obtain ⟨a, b, h, z, m, w, ha, hb, rh, e, p⟩ := q
    simp only [cmpop] at e
    split at e
    · simp only [Option.map_some, Option.some.injEq] at e
      subst e
      exact op_gt pins s σ H x y v u Q I rx ry ⟨_, _, by simpa [Rep, RepD] using ha, by simpa [Rep, RepD] using hb, p.here rh rfl⟩
    · simp at e
  | ge =>
    intro pins s σ H x y v u Q I rx ry q
    obtain ⟨a, b, h, z, m, w, ha, hb, rh, e, p⟩ := q
    simp only [cmpop] at e
    split at e
    · simp only [Option.map_some, Option.some.injEq] at e
      subst e
      exact op_ge pins s σ H x y v u Q I rx ry ⟨_, _, by simpa [Rep, RepD] using ha, by simpa [Rep, RepD] using hb, p.here rh rfl⟩
    · simp at e

theorem Rep.str {K : PySem.W.Frag} {z m : List Addr} {H : Hp} {t : List Nat} {x : V} (h : Rep K z m H (.d (.str t)) x) : x = .str ⟨t.toArray⟩ := by simpa [Rep, RepD] using h
theorem Rep.int {K : PySem.W.Frag} {z m : List Addr} {H : Hp} {i : Int} {x : V} (h : Rep K z m H (.d (.int i)) x) : x = .int i := by simpa [Rep, RepD] using h
theorem Rep.tup {K : PySem.W.Frag} {z m : List Addr} {H : Hp} {xs : List D} {x : V} (h : Rep K z m H (.d (.tup xs)) x) : ∃ a us, x = .ref a ∧ TupAt K z m H a us ∧ us.length ≤ sizeLine ∧ RepDs K z m H xs us := by rwa [Rep, RepD] at h
theorem Rep.list {K : PySem.W.Frag} {z m : List Addr} {H : Hp} {xs : List D} {x : V} (h : Rep K z m H (.d (.list xs)) x) : ∃ a us, x = .ref a ∧ LstAt K z m H a us ∧ us.length ≤ sizeLine ∧ RepDs K z m H xs us := by rwa [Rep, RepD] at h
theorem lim_size : LIM = sizeLine := by rw [sizeLine_eq]
theorem CMul.of {i j : Int} (h : (bigInt i || bigInt j) = true) : CMul i j := by
  rw [Bool.or_eq_true] at h
  rcases h with h | h
  · simp only [bigInt, Bool.and_eq_true, decide_eq_true_eq] at h
    exact .inl h
  · simp only [bigInt, Bool.and_eq_true, decide_eq_true_eq] at h
    exact .inr h



/-- a list of data, whatever it is -/
theorem deref_mut {K : PySem.W.Frag} {z m : List Addr} {H : Hp} {h : Hh} {v : PV} {x : V} {xs : List D} (rh : RelH K z m H h) (r : Rep K z m H v x) (e : deref h v = some (.list xs)) : ∃ a us, x = .ref a ∧ H a = some (.lst us) ∧ us.length ≤ sizeLine ∧ RepDs K z m H xs us := by
  cases v with
  | d y =>
    simp only [deref, Option.some.injEq] at e; subst e
    obtain ⟨a, us, h1, h2, h3, h4⟩ := Rep.list r
    exact ⟨a, us, h1, h2.1, h3, h4⟩
  | ref l =>
    obtain ⟨a, rfl, ha⟩ := r
    simp only [deref] at e
    cases hc : h[l]? with
    | none => rw [hc] at e; simp at e
    | some c =>
      cases c with
      | lst ys =>
        rw [hc] at e
        simp only [Option.map_eq_some_iff] at e
        obtain ⟨ds, e1, e2⟩ := e
        cases e2
        obtain ⟨us, h1, h2, h3⟩ := rh.cell l a ys ha hc
        exact ⟨a, us, rfl, h1, h2, h3.ds e1⟩
      | dic _ => rw [hc] at e; simp at e
  | dict kvs => simp [deref] at e
  | scr _ => simp [deref] at e
  | tp _ => simp [deref] at e
theorem addL (h : Hh) (a b : PV) {v : PV} {xs ys : List D} (e1 : deref h a = some (.list xs)) (e2 : deref h b = some (.list ys)) : True := trivial
theorem opr_cat {h : Hh} {z m : List Addr} {H : Hp} {s : Shared} {pins : List (Addr × Obj)} {σ : L2.St} {x y : V} {v u : Value} {Q : VK} {a b : PV} {xs ys : List D} (I : Inv X pins σ H s) (rx : RelV x v) (ry : RelV y u) (rh : RelH X.K z m H h)
    (ha : Rep X.K z m H a x) (hb : Rep X.K z m H b y) (e1 : deref h a = some (.list xs)) (e2 : deref h b = some (.list ys)) (hl : xs.length + ys.length ≤ LIM) (p : Post X.K z m H Q (.d (.list (xs ++ ys))) h) :
    wpAny (model X.prog X.w) X.A (binaryOp .Add v u) (EP X pins σ Q) X.xe s := by
  obtain ⟨l, us, ex, hl1, _, r1⟩ := deref_mut rh ha e1
  obtain ⟨l2, vs, ey, hl2, _, r2⟩ := deref_mut rh hb e2
  have n1 := r1.length
  have n2 := r2.length
  have hz : us.length + vs.length ≤ sizeLine := by rw [← n1, ← n2, ← lim_size]; exact hl
  exact op_cat pins s σ H x y v u Q I rx ry ⟨l, l2, us, vs, ex, ey, hl1, hl2, hz, fun q hq => p.lst rh (r1.append r2) (by rw [List.length_append]; exact hz) hq⟩

theorem mulSame (l : Addr) (ws : Array Value) (n : Nat) (dd : Option Addr) (sl : Array (Option Value)) (k : Int) (u : Tok)
    (c0 : (decide (k < -(2 ^ 63)) || decide (k ≥ 2 ^ 63)) = false) (c1 : (ws.isEmpty || k == 1) = true) :
    Meets (Builtin.«tuple.__mul__» ⟨[.ref l, .int k u], []⟩) (fun _ R s =>
      s.heap.get? l = some { cls := .type "tuple", dict := dd, data := .seq ws n, slots := sl } ∧ R (.ok (.ret (.ref l))) s) :=
  .of_wp fun prog w A R s h => by
    obtain ⟨hp, g, d, tk, os⟩ := s
    obtain ⟨there, h⟩ := h
    have f1 := AutoSeq1.idx_int
    wp_walk using wpAny_loadPart' there
    repeat (first
      | (refine wpAny_ite_false (decide_eq_false (by rw [c0]; exact Bool.false_ne_true)) ?_; wp_walk using wpAny_loadPart' there)
      | (refine wpAny_ite_true (decide_eq_true c1) ?_; wp_walk using wpAny_loadPart' there))
    exact ⟨_, rfl, h⟩
theorem mulNone (l : Addr) (ws : Array Value) (n : Nat) (dd : Option Addr) (sl : Array (Option Value)) (k : Int) (u : Tok)
    (c0 : (decide (k < -(2 ^ 63)) || decide (k ≥ 2 ^ 63)) = false) (c1 : (ws.isEmpty || k == 1) = false) (c2 : (decide (k ≤ 0) || ws.isEmpty) = true) :
    Meets (Builtin.«tuple.__mul__» ⟨[.ref l, .int k u], []⟩) (fun _ R s =>
      s.heap.get? l = some { cls := .type "tuple", dict := dd, data := .seq ws n, slots := sl } ∧
      R (.ok (.ret (.ref s.heap.objs.size))) { s with heap := s.heap.push { cls := .type "tuple", data := .seq #[] }, toks := s.toks }) :=
  .of_wp fun prog w A R s h => by
    obtain ⟨hp, g, d, tk, os⟩ := s
    obtain ⟨there, h⟩ := h
    have f1 := AutoSeq1.idx_int
    have hsz : (#[] : Array Value).size ≤ sizeLine := Nat.zero_le _
    wp_walk using wpAny_loadPart' there
    repeat (first
      | (refine wpAny_ite_false (decide_eq_false (by rw [c0]; exact Bool.false_ne_true)) ?_; wp_walk using wpAny_loadPart' there)
      | (refine wpAny_ite_false (decide_eq_false (by rw [c1]; exact Bool.false_ne_true)) ?_; wp_walk using wpAny_loadPart' there)
      | (refine wpAny_ite_true (decide_eq_true c2) ?_; wp_walk using wpAny_loadPart' there)
      | (refine wpAny_ite_false (decide_eq_false (Nat.not_lt.mpr hsz)) ?_; wp_walk using wpAny_loadPart' there))
    exact ⟨_, rfl, h⟩
theorem op_repS : OpR X (binaryOp .Mult) (fun x y H Q => ∃ l k xs, x = .ref l ∧ y = .int k ∧ SqT X.K H l xs ∧ k ≤ 1000 ∧ -1000 ≤ k ∧ ((k = 1 ∨ xs = []) ∧ Q (.ref l) H ∨ k ≤ 0 ∧ xs ≠ [] ∧ ∀ p, H p = none → Q (.ref p) (upd H p (.tup [])))) := by
  intro pins s σ H x y v u Q I rx ry h
  obtain ⟨l, k, xs, rfl, rfl, hT, h1, h2, q⟩ := h
  cases rx
  obtain ⟨t, rfl⟩ := ry
  obtain ⟨its, r, ⟨⟨cls, dd, data, sl⟩, ho, hc, n, hd⟩, hs⟩ := I.tuple hT
  simp only at hc hd
  subst hc hd
  have c0 : (decide (k < -(2 ^ 63)) || decide (k ≥ 2 ^ 63)) = false := by
    rw [decide_eq_false (by omega), decide_eq_false (by omega)]; rfl
  have he : its.toArray.isEmpty = xs.isEmpty := by cases r <;> simp
  rcases q with ⟨c, q⟩ | ⟨hk, hne, q⟩
  · have c1 : (its.toArray.isEmpty || k == 1) = true := by
      rw [he, Bool.or_eq_true]
      rcases c with c | c
      · exact .inr (by simpa using c)
      · exact .inl (by rw [c]; rfl)
    refine wpAny_binaryOp_repeat_ref (T := "tuple") (U := "int") (by decide) ⟨_, ho, rfl⟩ (fun s' => typeIs_int s' k t) noFill_tuple_mul F.fills_int_mul F.slot_int_rmul repeat_tuple F.slot_int_index.lookup
      (call_meets F.slot_int_rmul (typeIs_int s k t) F.entry_int_rmul (F.args_int_rmul_2 _ _) (int_rmul_tuple k t l its.toArray n dd sl)
        ⟨ho, rfl, ⟨_, ho, rfl⟩, call_meets F.slot_tuple_mul ⟨_, ho, rfl⟩ F.entry_tuple_mul (F.args_tuple_mul_2 _ _) (mulSame l its.toArray n dd sl k t c0 c1) ⟨ho, ?_⟩⟩)
    exact ⟨.ref l, H, I, rfl, q⟩
  · have hx : xs.isEmpty = false := by cases xs with
      | nil => exact absurd rfl hne
      | cons _ _ => rfl
    have c1 : (its.toArray.isEmpty || k == 1) = false := by
      rw [he, hx, Bool.false_or]; exact beq_eq_false_iff_ne.mpr (by omega)
    have c2 : (decide (k ≤ 0) || its.toArray.isEmpty) = true := by rw [decide_eq_true hk]; rfl
    refine wpAny_binaryOp_repeat_ref (T := "tuple") (U := "int") (by decide) ⟨_, ho, rfl⟩ (fun s' => typeIs_int s' k t) noFill_tuple_mul F.fills_int_mul F.slot_int_rmul repeat_tuple F.slot_int_index.lookup
      (call_meets F.slot_int_rmul (typeIs_int s k t) F.entry_int_rmul (F.args_int_rmul_2 _ _) (int_rmul_tuple k t l its.toArray n dd sl)
        ⟨ho, rfl, ⟨_, ho, rfl⟩, call_meets F.slot_tuple_mul ⟨_, ho, rfl⟩ F.entry_tuple_mul (F.args_tuple_mul_2 _ _) (mulNone l its.toArray n dd sl k t c0 c1 c2) ⟨ho, ?_⟩⟩)
    exact ⟨.ref s.heap.objs.size, _, I.laid (t' := s.toks) (o := .tup []) (fun b ob q => Heap.get?_push_of_some _ q) (Nat.le_refl _) ⟨Nat.zero_le _, [], .nil, IsTup.new _ _⟩, rfl, q _ (I.hok.fresh (Nat.le_refl _))⟩

theorem RepDs.rep {K : PySem.W.Frag} {z m : List Addr} {H : Hp} {xs : List D} {us : List V} (r : RepDs K z m H xs us) : ∀ n : Nat, RepDs K z m H (List.replicate n xs).flatten (List.replicate n us).flatten
  | 0 => by simp [RepDs]
  | n + 1 => by
    rw [List.replicate_succ, List.replicate_succ, List.flatten_cons, List.flatten_cons]
    exact r.append (RepDs.rep r n)
theorem flat_len {α : Type} (xs : List α) (n : Nat) : (List.replicate n xs).flatten.length = n * xs.length := by
  induction n with
  | zero => simp
  | succ n ih => rw [List.replicate_succ, List.flatten_cons, List.length_append, ih, Nat.succ_mul]; omega

def opOf : Op → Operator
  | .add => .Add | .sub => .Sub | .mul => .Mult | .fdiv => .FloorDiv | .mod => .Mod | .pow => .Pow | .shl => .LShift | .shr => .RShift
theorem opr_int {f : Value → Value → Sem Value} {C : Int → Int → Prop} {g : Int → Int → Int} {t : Int → Int → Option Int} (r : OpR X f (rI C fun i j => .int (g i j))) (ht : ∀ i j w, t i j = some w → C i j ∧ w = g i j) :
    OpR X f (R2of X.K fun _ a b => intOp t a b) := by
  intro pins s σ H x y v u Q I rx ry q
  obtain ⟨a, b, h, z, m, w, ha, hb, rh, e, p⟩ := q
  have e : intOp t a b = some w := e
  unfold intOp at e
  split at e
  · simp only [Option.map_eq_some_iff] at e
    obtain ⟨n, e1, rfl⟩ := e
    obtain ⟨c, rfl⟩ := ht _ _ _ e1
    exact r pins s σ H x y v u Q I rx ry ⟨_, _, ha.int, hb.int, c, p.here rh rfl⟩
  · cases e
theorem opr_bin (o : Op) : OpR X (binaryOp (opOf o)) (R2of X.K fun h a b => binop h o a b) := by
  have ls := lim_size
  cases o with
  | add =>
    intro pins s σ H x y v u Q I rx ry q
    obtain ⟨a, b, h, z, m, w, ha, hb, rh, e, p⟩ := q
    simp only [binop] at e
    have lists : ∀ {xs ys : List D}, deref h a = some (.list xs) → deref h b = some (.list ys) → (if xs.length + ys.length ≤ LIM then some (PV.d (.list (xs ++ ys))) else none) = some w → wpAny (model X.prog X.w) X.A (binaryOp .Add v u) (EP X pins σ Q) X.xe s := by
      intro xs ys e1 e2 e3
      by_cases hl : xs.length + ys.length ≤ LIM
      · rw [if_pos hl] at e3
        cases e3
        exact opr_cat I rx ry rh ha hb e1 e2 hl p
      · rw [if_neg hl] at e3; cases e3
    unfold addOp at e
    split at e
    · cases e
      exact op_add pins s σ H x y v u Q I rx ry ⟨_, _, ha.int, hb.int, p.here rh rfl⟩
    · rename_i s1 t1
      by_cases hl : s1.length + t1.length ≤ LIM
      · rw [if_pos hl] at e
        cases e
        refine op_add_str pins s σ H x y v u Q I rx ry ⟨_, _, ha.str, hb.str, ?_, p.here rh ?_⟩
        · rw [← ls]; simpa [Str.length] using hl
        · show V.str _ = V.str _
          congr 1
          show (⟨s1.toArray ++ t1.toArray⟩ : Str) = ⟨(s1 ++ t1).toArray⟩
          simp
      · rw [if_neg hl] at e; cases e
    · rename_i s1 t1
      by_cases hl : s1.length + t1.length ≤ LIM
      · rw [if_pos hl] at e
        cases e
        obtain ⟨l, us, ex, t, hu, r1⟩ := ha.tup
        obtain ⟨l2, vs, ey, t2, hv, r2⟩ := hb.tup
        have n1 := r1.length
        have n2 := r2.length
        have hz : us.length + vs.length ≤ sizeLine := by rw [← n1, ← n2, ← ls]; exact hl
        have out : ∀ {a : Addr} {ws : List V}, TupAt X.K z m H a ws → ws.length ≤ sizeLine → RepDs X.K z m H (s1 ++ t1) ws → Q (.ref a) H := fun {a ws} t hw r => p.here rh (by rw [Rep, RepD]; exact ⟨a, ws, rfl, t, hw, r⟩)
        refine op_catA pins s σ H x y v u Q I rx ry ⟨l, l2, us, vs, ex, ey, t.sq, t2.sq, hz, fun e => ?_, fun _ e => ?_, fun _ _ q hq => p.tup rh (r1.append r2) (by rw [List.length_append]; exact hz) hq⟩
        · have q := r1.append r2
          subst e
          exact out t2 hv q
        · have q := r1.append r2
          subst e
          rw [List.append_nil] at q
          exact out t hu q
      · rw [if_neg hl] at e; cases e
    · exact lists rfl rfl e
    · split at e
      · rename_i e1 e2
        exact lists e1 e2 e
      · cases e
    · split at e
      · rename_i e1 e2
        exact lists e1 e2 e
      · cases e
    · cases e
  | mul =>
    intro pins s σ H x y v u Q I rx ry q
    obtain ⟨a, b, h, z, m, w, ha, hb, rh, e, p⟩ := q
    simp only [binop] at e
    unfold mulOp at e
    split at e
    · rename_i i j
      by_cases hl : (bigInt i || bigInt j) = true
      · rw [if_pos hl] at e
        cases e
        exact op_mul pins s σ H x y v u Q I rx ry ⟨_, _, ha.int, hb.int, CMul.of hl, p.here rh rfl⟩
      · rw [if_neg hl] at e; cases e
    · rename_i s1 k
      by_cases hl : (decide (-1000 ≤ k) && decide (k ≤ 1000) && decide (s1.length ≤ 1000)) = true
      · rw [if_pos hl] at e
        cases e
        simp only [Bool.and_eq_true, decide_eq_true_eq] at hl
        obtain ⟨⟨k1, k2⟩, k3⟩ := hl
        obtain ⟨l, us, ex, t, hu, r1⟩ := ha.tup
        have n1 := r1.length
        have r2 := r1.rep k.toNat
        have hz : (List.replicate k.toNat us).flatten.length ≤ sizeLine := by
          have hs := sizeLine_eq
          rw [flat_len, ← n1]
          have : k.toNat * s1.length ≤ 1000 * 1000 := Nat.mul_le_mul (by omega) k3
          omega
        by_cases hx : us = []
        · subst hx
          refine op_repS pins s σ H x y v u Q I rx ry ⟨l, k, [], ex, hb.int, t.sq, k2, k1, .inl ⟨.inr rfl, p.here rh ?_⟩⟩
          rw [Rep, RepD]
          refine ⟨l, [], rfl, t, hu, ?_⟩
          simpa using r2
        by_cases h1 : k = 1
        · subst h1
          refine op_repS pins s σ H x y v u Q I rx ry ⟨l, 1, us, ex, hb.int, t.sq, k2, k1, .inl ⟨.inl rfl, p.here rh ?_⟩⟩
          rw [Rep, RepD]
          refine ⟨l, us, rfl, t, hu, ?_⟩
          simpa using r2
        by_cases h0 : k ≤ 0
        · refine op_repS pins s σ H x y v u Q I rx ry ⟨l, k, us, ex, hb.int, t.sq, k2, k1, .inr ⟨h0, hx, fun q hq => ?_⟩⟩
          have e0 : k.toNat = 0 := by omega
          rw [e0] at r2 p
          exact p.tup rh (us := []) (by simpa using r2) (Nat.zero_le _) hq
        · exact op_repT pins s σ H x y v u Q I rx ry ⟨l, k, us, ex, hb.int, t.sq, hx, by omega, k2, by omega, fun q hq => p.tup rh r2 hz hq⟩
      · rw [if_neg hl] at e; cases e
    · rename_i s1 k
      by_cases hl : (decide (-1000 ≤ k) && decide (k ≤ 1000) && decide (s1.length ≤ 1000)) = true
      · rw [if_pos hl] at e
        cases e
        simp only [Bool.and_eq_true, decide_eq_true_eq] at hl
        obtain ⟨⟨k1, k2⟩, k3⟩ := hl
        obtain ⟨l, us, ex, t, hu, r1⟩ := ha.list
        have n1 := r1.length
        have r2 := r1.rep k.toNat
        have hz : us.length * k.toNat ≤ sizeLine := by
          have hs := sizeLine_eq
          rw [← n1]
          have : s1.length * k.toNat ≤ 1000 * 1000 := Nat.mul_le_mul k3 (by omega)
          omega
        exact op_rep pins s σ H x y v u Q I rx ry ⟨l, k, us, ex, hb.int, t.1, by omega, by omega, hz, fun q hq => p.lst rh r2 (by rw [flat_len, Nat.mul_comm]; exact hz) hq⟩
      · rw [if_neg hl] at e; cases e
    · cases e
  | sub => exact opr_int (C := fun _ _ => True) (g := fun i j => i - j) (fun pins s σ H x y v u Q I rx ry q => by
      obtain ⟨i, j, h1, h2, _, q⟩ := q
      exact op_sub pins s σ H x y v u Q I rx ry ⟨i, j, h1, h2, q⟩) (fun i j w e => ⟨trivial, (Option.some.inj e).symm⟩)
  | fdiv => exact opr_int op_fdiv (fun i j w e => by
      by_cases hl : (decide (0 < j) && decide (j < 1073741824)) = true
      · rw [if_pos hl] at e
        simp only [Bool.and_eq_true, decide_eq_true_eq] at hl
        exact ⟨hl, (Option.some.inj e).symm⟩
      · rw [if_neg hl] at e; cases e)
  | mod => exact opr_int op_mod (fun i j w e => by
      by_cases hl : decide (0 < j) = true
      · rw [if_pos hl] at e
        exact ⟨of_decide_eq_true hl, (Option.some.inj e).symm⟩
      · rw [if_neg hl] at e; cases e)
  | pow => exact opr_int op_pow (fun i j w e => by
      by_cases hl : (decide (0 ≤ j) && decide (j ≤ 1000000) && decide (i.natAbs < 2 ^ 64)) = true
      · rw [if_pos hl] at e
        simp only [Bool.and_eq_true, decide_eq_true_eq] at hl
        exact ⟨⟨hl.1.1, hl.1.2, hl.2⟩, (Option.some.inj e).symm⟩
      · rw [if_neg hl] at e; cases e)
  | shl => exact opr_int op_shl (fun i j w e => by
      by_cases hl : (decide (0 ≤ j) && decide (j ≤ 1000000) && decide (i.natAbs < 2 ^ 64)) = true
      · rw [if_pos hl] at e
        simp only [Bool.and_eq_true, decide_eq_true_eq] at hl
        exact ⟨⟨hl.1.1, hl.1.2, hl.2⟩, (Option.some.inj e).symm⟩
      · rw [if_neg hl] at e; cases e)
  | shr => exact opr_int op_shr (fun i j w e => by
      by_cases hl : decide (0 ≤ j) = true
      · rw [if_pos hl] at e
        exact ⟨of_decide_eq_true hl, (Option.some.inj e).symm⟩
      · rw [if_neg hl] at e; cases e)
end
end Ev
end

section
/-! EvStrL: list(text). -/
set_option autoImplicit false
set_option linter.all false
set_option Elab.async false
set_option maxRecDepth 100000
set_option maxHeartbeats 1000000
namespace PySem
open Sem (wp)
section
variable {prog : Program} {w : World} {A : Around} {E : Value → Shared → Prop} {s : Shared}
theorem wpAny_extend_text {R : Result → Shared → Prop} {x : Str} {t : Tok} (hh : A.handled = none) (hlen : x.cps.size ≤ sizeLine) (S : Addr) (res : Value) (c₀ : Nat) (hS : s.heap.get? S = some { cls := .type "list", data := .seq #[] c₀ })
    (hR : ∀ h' tk acc' c', (∀ b o, b ≠ S → s.heap.get? b = some o → h'.get? b = some o) → h'.get? S = some { cls := .type "list", dict := none, data := .seq acc' c', slots := #[] } →
      ItemsOf (SignAt x) acc' x.cps.size → R (.ok (.ret res)) { s with heap := h', toks := tk }) :
    wpAny (model prog w) A.in1 (Builtin.List.listExtendWith (.ref S) (.str x t) res)
      (fun fin s' => match fin with | .done f => R (.ok f) s' | .again c' => c'.quiet = true ∧ codeAny (model prog w) A c' R s') (fun e s' => R (.error e) s') s := by
  have hSlt : S < s.heap.objs.size := Heap.lt_size hS
  have hSI : S ≠ s.heap.objs.size := Nat.ne_of_lt hSlt
  have hSf : S ∉ [s.heap.objs.size] := fun hm => hSI (List.mem_singleton.mp hm)
  unfold Builtin.List.listExtendWith
  refine wpAny_bind (wpAny_typeOf (T := "str") (v := .str x t) rfl ?_)
  have h1 : Builtin.List.listSameRef (.ref S) (.str x t) = false := rfl
  have h2 : (Value.type "str" == Value.type "list") = false := by decide
  have h3 : (Value.type "str" == Value.type "tuple") = false := by decide
  simp only [h1, h2, h3, Bool.or_false, Bool.false_eq_true, if_false]
  refine wpAny_bind (wpAny_pyIter_str fun o St W hst => ?_)
  refine wpAny_bind (wpAny_holding ?_)
  unfold Builtin.List.listLengthHint
  refine wpAny_bind (wpAny_specialOf (T := "str") (v := .str x t) rfl F.str_len ?_)
  wp_delta
  refine wpAny_bind (wpAny_isInstance (T := "str") (v := .str x t) (b := true) rfl (by rw [isSubtype_type]; kernel_rfl) ?_)
  show wpAny _ A.in1 (typeOf (Value.str x t) >>= _) _ _ _
  refine wpAny_bind (wpAny_typeOf (T := "str") (v := .str x t) rfl ?_)
  refine wpAny_pure ?_
  rw [if_neg (by decide)]
  have hS1 : (s.heap.push o).get? S = some { cls := .type "list", data := .seq #[] c₀ } := Heap.get?_push_of_some _ hS
  refine wpAny_pure ⟨plainId_quiet F.plain_extend_loop _, codeAny_extend_loopS (W A.in1 hh).toS hlen S hSf res x.cps.size 0 _ #[] c₀ rfl (Nat.zero_le _) hst hS1 (ItemsOf.nil _) fun s' acc' c' hm hS' hacc => ?_⟩
  rw [Moved.eq_with hm]
  refine hR s'.heap s'.toks acc' c' (fun b o hb e => hm.heap b o (fun hmem => ?_) (Heap.get?_push_of_some _ e)) hS' hacc
  rcases List.mem_cons.mp hmem with e' | hmem
  · exact hb e'
  · exact absurd (Heap.lt_size e) (by rw [List.mem_singleton.mp hmem]; exact Nat.lt_irrefl _)
theorem wpAny_list_init_text {R : Result → Shared → Prop} {x : Str} {t : Tok} (hh : A.handled = none) (hlen : x.cps.size ≤ sizeLine) (S : Addr) (hS : s.heap.get? S = some { cls := .type "list", data := .seq #[] })
    (hR : ∀ h' tk acc' c', (∀ b o, b ≠ S → s.heap.get? b = some o → h'.get? b = some o) → h'.get? S = some { cls := .type "list", dict := none, data := .seq acc' c', slots := #[] } →
      ItemsOf (SignAt x) acc' x.cps.size → R (.ok (.ret .none)) { s with heap := h', toks := tk }) :
    wpAny (model prog w) A.in1 (Builtin.«list.__init__» ⟨[.ref S, .str x t], []⟩)
      (fun fin s' => match fin with | .done f => R (.ok f) s' | .again c' => c'.quiet = true ∧ codeAny (model prog w) A c' R s') (fun e s' => R (.error e) s') s := by
  show wpAny _ _ (do let old ← Builtin.List.listItems (.ref S); Builtin.List.listUpdate (.ref S) (fun _ => #[]); letGo old.toList.reverse; Builtin.List.listExtendWith (.ref S) (.str x t) .none) _ _ s
  refine wpAny_bind ?_
  unfold Builtin.List.listItems
  refine wpAny_bind (wpAny_seqItems hS rfl (wpAny_pure ?_))
  show wpAny _ _ (updateSeq S (fun _ => #[]) >>= fun _ => letGo (#[] : Array Value).toList.reverse >>= fun _ => Builtin.List.listExtendWith (.ref S) (.str x t) .none) _ _ s
  refine wpAny_bind (wpAny_updateSeq hS rfl ?_)
  have hS₂ := Heap.get?_update_self (Obj.mapSeq (fun _ => (#[] : Array Value))) hS rfl
  have oth : ∀ b o, b ≠ S → s.heap.get? b = some o → (s.heap.update S (Obj.mapSeq (fun _ => (#[] : Array Value)))).get? b = some o :=
    fun b o hb e => (Heap.get?_update_other _ _ (Ne.symm hb)).trans e
  refine wpAny_bind (wpAny_letGo ?_)
  refine wpAny_extend_text hh hlen S .none _ hS₂ fun h' tk acc' c' hk hS' hacc => ?_
  exact hR h' tk acc' c' (fun b o hb e => hk b o hb (oth b o hb e)) hS' hacc
theorem call_list_text {Q : Value → Shared → Prop} {x : Str} {t : Tok} (hh : A.handled = none) (hlen : x.cps.size ≤ sizeLine)
    (hQ : ∀ h' tk acc' c', (∀ b o, s.heap.get? b = some o → h'.get? b = some o) →
      h'.get? s.heap.objs.size = some { cls := .type "list", dict := none, data := .seq acc' c', slots := #[] } → ItemsOf (SignAt x) acc' x.cps.size → Q (.ref s.heap.objs.size) { s with heap := h', toks := tk }) :
    wpAny (model prog w) A (call (.type "list") [.str x t]) Q E s := by
  refine callType_codes (Q₁ := fun obj s₁ => obj = .ref s.heap.objs.size ∧ s₁ = { s with heap := s.heap.push { cls := .type "list", data := .seq #[] } }) F.called_list (F.typeCall_list_1 _) F.entry_list_init
    (code_list_new _ ⟨rfl, rfl⟩) fun obj s₁ h₁ => ?_
  obtain ⟨rfl, rfl⟩ := h₁
  have hS : (s.heap.push { cls := .type "list", data := .seq #[] }).get? s.heap.objs.size = some { cls := .type "list", data := .seq #[] } := Heap.get?_push_size _ rfl
  refine ⟨⟨_, hS, rfl⟩, F.args_list_init_2 _ _, wpAny_list_init_text (A := A.in1) hh hlen _ hS fun h' tk acc' c' hk hS' hacc => ?_⟩
  exact ⟨rfl, hQ h' tk acc' c' (fun b o e => hk b o (Nat.ne_of_lt (Heap.lt_size e)) (Heap.get?_push_of_some _ e)) hS' hacc⟩
end
end PySem
namespace L2
open PySem PySem.Spec PyProof.Rows
theorem call_list_str {X : Cx} (hc : X.calm = true) : CallR X (.type "list") (fun xs H Q => ∃ x : Str, xs = [.str x] ∧ x.cps.size ≤ sizeLine ∧ ∀ q, H q = none → Q (.ref q) (upd H q (.lst (x.cps.toList.map fun c => V.str ⟨#[c]⟩)))) := by
  intro pins s σ H xs us Q I r h
  obtain ⟨x, rfl, hl, q⟩ := h
  obtain ⟨u, rfl, rx⟩ := vals1 r
  obtain ⟨t, rfl⟩ := rx
  refine call_list_text (I.ok.hd hc) hl fun h' tk acc' c' hk e' hi => ?_
  refine ⟨.ref s.heap.objs.size, upd H s.heap.objs.size (.lst (x.cps.toList.map fun c => V.str ⟨#[c]⟩)), I.laid hk (Nat.le_refl _) (show ObjOk X.prog X.w _ _ _ (.lst (x.cps.toList.map fun c => V.str ⟨#[c]⟩)) from ⟨?_, acc'.toList, c', ?_, ?_⟩), rfl, q _ (I.hok.fresh (Nat.le_refl _))⟩
  · rw [List.length_map, Array.length_toList]; exact hl
  · refine vals_of_at (by rw [List.length_map, Array.length_toList, Array.length_toList, hi.1]) fun j y w h1 h2 => ?_
    obtain ⟨c, u, h3, rfl⟩ := hi.2 j w (by rw [← Array.getElem?_toList]; exact h2)
    rw [List.getElem?_map, Array.getElem?_toList, h3] at h1
    cases h1
    exact ⟨u, rfl⟩
  · rw [Array.toArray_toList]; exact e'
end L2
end

section
/-! EvSnd: what the evaluator comes to, the machine comes to. -/
set_option autoImplicit false
set_option linter.all false
set_option Elab.async false
set_option maxRecDepth 100000
set_option maxHeartbeats 1000000
namespace Ev
open PySem L2 PyProof.Rows

/-- an exception without a word of its own -/
def XRep (XC : Nat → Option Addr) (c : Nat) (v : PV) (cls : Value) (d : Option Addr) : Prop := ∃ C, XC c = some C ∧ cls = .ref C ∧ d = none
section
variable (K : PySem.W.Frag) (XC : Nat → Option Addr)
/-- how a run ends: P of what it gives, E of what it raises -/
def Out {α : Type} (z m : List Addr) (H : Hp) (r : R α) (P : α → Hh → List Addr → Hp → Prop) (E : XK) : Prop := match r with
  | .ok a h' => ∀ m' H', Ext m H m' H' → RelH K z m' H' h' → P a h' m' H'
  | .exc c v h' => ∀ m' H' cls d, Ext m H m' H' → RelH K z m' H' h' → XRep XC c v cls d → E cls d H'
  | .stuck => False
end
section
variable {K : PySem.W.Frag} {XC : Nat → Option Addr} {z m m1 : List Addr} {H H1 : Hp} {E E' : XK}
theorem Out.mono {α : Type} {r : R α} {P : α → Hh → List Addr → Hp → Prop} (e : Ext m H m1 H1) (o : Out K XC z m H r P E) : Out K XC z m1 H1 r P E := by
  cases r with
  | ok a h' => exact fun m' H' e' rh => o m' H' (e.trans e') rh
  | exc c v h' => exact fun m' H' cls d e' rh x => o m' H' cls d (e.trans e') rh x
  | stuck => exact o
theorem Out.imp {α : Type} {r : R α} {P P' : α → Hh → List Addr → Hp → Prop} (o : Out K XC z m H r P E) (f : ∀ a h' m' H', Ext m H m' H' → RelH K z m' H' h' → P a h' m' H' → P' a h' m' H') : Out K XC z m H r P' E := by
  cases r with
  | ok a h' => exact fun m' H' e' rh => f a h' m' H' e' rh (o m' H' e' rh)
  | exc c v h' => exact o
  | stuck => exact o
theorem Out.bnd {α β : Type} {x : M α} {f : α → M β} {h : Hh} {P : β → Hh → List Addr → Hp → Prop} (o : Out K XC z m H (M.bnd x f h) P E) : Out K XC z m H (x h) (fun a h' m' H' => Out K XC z m' H' (f a h') P E) E := by
  unfold M.bnd at o
  cases e : x h with
  | ok a h' =>
    simp only [e] at o
    exact fun m' H' e' rh => o.mono e'
  | exc c v h' =>
    simp only [e] at o
    exact o
  | stuck =>
    simp only [e] at o
    exact o
theorem Out.lift {α : Type} {f : Hh → Option α} {h : Hh} {P : α → Hh → List Addr → Hp → Prop} (o : Out K XC z m H (M.lift f h) P E) : ∃ a, f h = some a ∧ ∀ m' H', Ext m H m' H' → RelH K z m' H' h → P a h m' H' := by
  unfold M.lift at o
  cases e : f h with
  | none => simp only [e] at o; exact o.elim
  | some a => simp only [e] at o; exact ⟨a, rfl, o⟩
theorem Out.ret {α : Type} {a : α} {h : Hh} {P : α → Hh → List Addr → Hp → Prop} (o : Out K XC z m H (M.ret a h) P E) : ∀ m' H', Ext m H m' H' → RelH K z m' H' h → P a h m' H' := o
theorem Out.calm {α : Type} {x : M α} {h : Hh} {P : α → Hh → List Addr → Hp → Prop} (o : Out K XC z m H (M.calm x h) P E) : Out K XC z m H (x h) P fun _ _ _ => False := by
  unfold M.calm at o
  cases e : x h with
  | ok a h' => simp only [e] at o; exact o
  | exc c v h' => simp only [e] at o; exact o.elim
  | stuck => simp only [e] at o; exact o
end

/-- the reading of an expression -/
def tE (K : PySem.W.Frag) (XC : Nat → Option Addr) (W : WX) (r : Env → M PV) : TE := fun σ H Q => ∃ env h z m, RelS K z m H env σ ∧ RelH K z m H h ∧
  Out K XC z m H (r env h) (fun v h' m' H' => ∀ x, Rep K z m' H' v x → Q x H') fun cls d H' => W cls d σ H'
def tEs (K : PySem.W.Frag) (XC : Nat → Option Addr) (W : WX) (r : Env → M (List PV)) : TA := fun σ H Q => ∃ env h z m, RelS K z m H env σ ∧ RelH K z m H h ∧
  Out K XC z m H (r env h) (fun vs h' m' H' => ∀ xs, Reps K z m' H' vs xs → Q xs H') fun cls d H' => W cls d σ H'
def tTt (K : PySem.W.Frag) (XC : Nat → Option Addr) (W : WX) (r : Env → M Bool) : TT := fun σ H Q => ∃ env h z m, RelS K z m H env σ ∧ RelH K z m H h ∧
  Out K XC z m H (r env h) (fun b h' m' H' => Q b H') fun cls d H' => W cls d σ H'
def tPo (K : PySem.W.Frag) (XC : Nat → Option Addr) (W : WX) (r : Env → M (Option Int)) : TO := fun σ H Q => ∃ env h z m, RelS K z m H env σ ∧ RelH K z m H h ∧
  Out K XC z m H (r env h) (fun o h' m' H' => Q o H') fun cls d H' => W cls d σ H'
/-- a value's truth -/
def tst (r : Env → M PV) : Env → M Bool := fun env => M.bnd (r env) fun x => M.lift fun h => truthy h x

theorem _root_.L2.PE.to {X : Cx} {e : Expr} {t t' : TE} (p : PE X e t) (h : ∀ σ H Q, t' σ H Q → t σ H Q) : PE X e t' := ⟨fun pins s σ H Q I q => p.run pins s σ H Q I (h σ H Q q)⟩
theorem _root_.L2.PT.to {X : Cx} {e : Expr} {t t' : TT} (p : PT X e t) (h : ∀ σ H Q, t' σ H Q → t σ H Q) : PT X e t' := ⟨fun pins s σ H Q I q => p.run pins s σ H Q I (h σ H Q q)⟩
theorem _root_.L2.PW.to {X : Cx} {e : Expr} {t t' : TT} (p : PW X e t) (h : ∀ σ H Q, t' σ H Q → t σ H Q) : PW X e t' := ⟨fun wh pins s σ H Q I q => p.run wh pins s σ H Q I (h σ H Q q)⟩
theorem _root_.L2.PA.to {X : Cx} {es : List Expr} {t t' : TA} (p : PA X es t) (h : ∀ σ H Q, t' σ H Q → t σ H Q) : PA X es t' := ⟨fun pos pins s σ H Q I q => p.run pos pins s σ H Q I (h σ H Q q)⟩
theorem _root_.L2.PS.to {X : Cx} {st : Stmt} {t t' : TS} (p : PS X st t) (h : ∀ D σ H, t' D σ H → t D σ H) : PS X st t' := ⟨fun pins s σ H D I q => p.run pins s σ H D I (h D σ H q)⟩
theorem _root_.L2.PSs.to {X : Cx} {st : List Stmt} {t t' : TS} (p : PSs X st t) (h : ∀ D σ H, t' D σ H → t D σ H) : PSs X st t' := ⟨fun pins s σ H D I q => p.run pins s σ H D I (h D σ H q)⟩
theorem _root_.L2.PI.to {X : Cx} {tg e : Expr} {t t' : TI} (p : PI X tg e t) (h : ∀ σ H Q, t' σ H Q → t σ H Q) : PI X tg e t' := ⟨fun pins s σ H Q I q => p.run pins s σ H Q I (h σ H Q q)⟩
theorem _root_.L2.PI.or {X : Cx} {tg e : Expr} {t t' : TI} (p : PI X tg e t) (p' : PI X tg e t') : PI X tg e (fun σ H R => t σ H R ∨ t' σ H R) := ⟨fun pins s σ H Q I q => q.elim (p.run pins s σ H Q I) (p'.run pins s σ H Q I)⟩
theorem _root_.L2.PE.or {X : Cx} {e : Expr} {t t' : TE} (p : PE X e t) (p' : PE X e t') : PE X e (fun σ H R => t σ H R ∨ t' σ H R) := ⟨fun pins s σ H Q I q => q.elim (p.run pins s σ H Q I) (p'.run pins s σ H Q I)⟩

/-- a def's promise: what its run comes to -/
def spEv (K : PySem.W.Frag) (XC : Nat → Option Addr) (np : Nat) (r : List PV → M PV) : Sp := fun vs H Q E => vs.length = np ∧ ∃ args h z m, Reps K z m H args vs ∧ RelH K z m H h ∧
  Out K XC z m H (r args h) (fun v h' m' H' => ∀ x, Rep K z m' H' v x → Q x H') E

/-- a table of the written part: what look-ups give -/
def DicOk (K : PySem.W.Frag) (a : Addr) (kvs : List (D × D)) : Prop := ∀ s : List Nat, (∀ p, (kvs.find? fun p => D.eqv p.1 (.str s)) = some p → ∃ u y, PySem.W.nsIn K a ⟨s.toArray⟩ = some (some u) ∧ RelV y u ∧ ∀ z m H, RepD K z m H p.2 y) ∧
  ((kvs.find? fun p => D.eqv p.1 (.str s)) = none → PySem.W.nsIn K a ⟨s.toArray⟩ = some none)
def DicC (C : Nat → Option PV) (K : PySem.W.Frag) (w : World) (mg : Str → Option Value) (x : Str) : Prop := ∃ kvs a es n, C (code x) = some (.dict kvs) ∧ mg x = some (.ref a) ∧ KDict K w a es n ∧ DicOk K a kvs
/-- what is known of the text's names -/
structure Facts (P : TrP) (T : Nat → Option Fn) (C : Nat → Option PV) (XC : Nat → Option Addr) (prog : Program) (w : World) (K : PySem.W.Frag) (mg : Str → Option Value) (base : Heap) (k : Nat) : Prop where
  fns : ∀ x, P.fns.contains x = true → ∃ f fd ps, mg x = some (.ref f) ∧ PySem.W.keepIn K (.ref f) = true ∧ Binds K fd ps [] ∧ (∀ d, T (code x) = some d → d.np = ps.length) ∧ FnOk prog w K mg base (CX prog w) (3 * k) f fd ps (spEv K XC ps.length (call T C k (code x)))
  csts : ∀ x, P.csts.contains x = true → ∀ v, C (code x) = some v → ∃ u y, mg x = some u ∧ RelV y u ∧ ∀ z m H, Rep K z m H v y
  blts : ∀ x, P.blts.contains x = true → mg x = none
  excs : ∀ x, P.excs.contains x = true → ∃ Cc, XC (code x) = some Cc ∧ mg x = some (.ref Cc) ∧ PySem.W.excIn K Cc [.type "ValueError", .type "Exception", .type "BaseException", .type "object"] "ValueError.__new__" = true ∧ PySem.W.keepIn K (.ref Cc) = true ∧ PySem.W.subIn K (.ref Cc) (.type "BaseException") = some true ∧ PySem.W.typeIn K (.ref Cc) = some (.type "type")
  raw : ∀ x, P.fns.contains x = true → ∃ g fd st, mg x = some (.ref g) ∧ PySem.W.keepIn K (.ref g) = true ∧ (∀ us : List Value, us.length = (paramsOf st).length → bindArgs fd ⟨us, []⟩ = pure ((paramsOf st).zip us)) ∧ L2.Fun K x x st g fd ∧ FnScope (namesOf st) (paramsOf st) (defScope st) ∧ ∀ d t, T (code x) = some d → d.td = some t → trTd P.excs P.sup P.hds st = some t
  exm : ∀ x y, P.excs.contains x = true → P.hds.contains y = true → ∃ Cx Cy, XC (code x) = some Cx ∧ mg y = some (.ref Cy) ∧ PySem.W.exmOne K (.ref Cx) (.ref Cy) = some (isSub P.sup 8 x y)
  hdm : ∀ y, P.hds.contains y = true → ∃ Cy, mg y = some (.ref Cy)
  tbs : ∀ f oc od fd osl c, K.lookup f = some ⟨oc, od, .func fd, osl⟩ → fd.code = .ref c → LamX.TabB base mg c (He.tabOf K c)
  tbu : ∀ p ∈ tabsK K, ∀ q ∈ tabsK K, p.1 = q.1 → p.2 = q.2
  dics : ∀ x, P.dics.contains x = true → DicC C K w mg x
theorem Facts.noLam {P : TrP} {T : Nat → Option Fn} {C : Nat → Option PV} {XC : Nat → Option Addr} {prog : Program} {w : World} {K : PySem.W.Frag} {mg : Str → Option Value} {base : Heap} {k : Nat} (F : Facts P T C XC prog w K mg base k) : Facts P.noLam T C XC prog w K mg base k :=
  ⟨F.fns, F.csts, F.blts, F.excs, F.raw, F.exm, F.hdm, F.tbs, F.tbu, F.dics⟩
/-- the code object that runs, as its function has it -/
def CdOk (k : Nat) (X : Cx) : Prop := ∃ f oc od fd osl c, X.K.lookup f = some ⟨oc, od, .func fd, osl⟩ ∧ fd.code = .ref c ∧ X.env.code = .ref c ∧ fd.qualname ++ ".<locals>." = X.env.qual ∧ Room (3 * k + 2) X.A

structure Gd (P : TrP) (T : Nat → Option Fn) (C : Nat → Option PV) (XC : Nat → Option Addr) (k : Nat) (N : List Str) (sc : Scope) (X : Cx) : Prop where
  facts : Facts P T C XC X.prog X.w X.K X.mg X.base k
  hN : X.N = N
  sc : X.env.scope = sc
  calm : X.calm = true
  room : Room (3 * k) X.A
  nd : N.Nodup
  cd : P.lam = true → CdOk k X

section
variable {P : TrP} {T : Nat → Option Fn} {C : Nat → Option PV} {XC : Nat → Option Addr} {k : Nat} {N : List Str} {sc : Scope} {X : Cx} {W : WX}
theorem idx_at {N : List Str} {x : Str} {i : Nat} (h : idx N x = some i) : N[i]? = some x := by
  unfold idx at h
  obtain ⟨hi, h1, _⟩ := List.findIdx?_eq_some_iff_getElem.mp h
  rw [List.getElem?_eq_getElem hi]
  simp only [beq_iff_eq] at h1
  rw [h1]
theorem vis_of {sc : Scope} {x : Str} (h : isVis sc x = true) : Vis sc x := by
  unfold isVis at h
  unfold Vis
  split at h
  · exact .inl ‹_›
  · exact .inr (.inl ‹_›)
  · exact .inr (.inr ‹_›)
  · cases h
theorem loc_of {sc : Scope} {x : Str} (h : isLoc sc x = true) : L2.Loc sc x := by
  unfold isLoc at h
  unfold L2.Loc
  split at h
  · exact .inl ‹_›
  · exact .inr ‹_›
  · cases h
theorem gl_of (G : Gd P T C XC k N sc X) {x : Str} (h : isGl sc x = true) : Gl X x := by
  unfold isGl at h
  show X.env.scope.names.lookup x = some .globalImplicit
  rw [G.sc]
  simpa using h
theorem okN_of {x : Str} (h : okN x = true) : (x == ("__debug__" : Str)) = false ∧ (x == ("__classdict__" : Str)) = false ∧ x ≠ ("__name__" : Str) := by
  unfold okN at h
  simp only [Bool.and_eq_true, Bool.not_eq_true'] at h
  exact ⟨h.1.1, h.1.2, fun e => by have := h.2; rw [e] at this; simp at this⟩

theorem snd_var (G : Gd P T C XC k N sc X) {x : Str} {i : Nat} {pos : Pos} (h1 : okN x = true) (h2 : isVis sc x = true) (h3 : idx N x = some i) : PE X (.Name x pos) (tE X.K XC W fun env => M.lift fun _ => (env[i]?).bind id) := by
  obtain ⟨d1, d2, _⟩ := okN_of h1
  refine (pe_var (i := i) (by rw [G.hN]; exact idx_at h3) (by rw [G.sc]; exact vis_of h2) d1 d2).to fun σ H Q q => ?_
  obtain ⟨env, h, z, m, rs, rh, o⟩ := q
  obtain ⟨v, e, p⟩ := o.lift
  cases e1 : env[i]? with
  | none => rw [e1] at e; cases e
  | some o1 =>
    rw [e1] at e
    have e : o1 = some v := e
    subst e
    obtain ⟨y, h4, h5⟩ := rs.2 i v e1
    exact ⟨y, h4, p m H (Ext.refl _ _) rh y h5⟩
theorem snd_cst (G : Gd P T C XC k N sc X) {x : Str} {pos : Pos} (h1 : okN x = true) (h2 : isGl sc x = true) (h3 : P.csts.contains x = true) : PE X (.Name x pos) (tE X.K XC W fun _ => M.lift fun _ => C (code x)) := by
  obtain ⟨d1, d2, _⟩ := okN_of h1
  refine ⟨fun pins s σ H Q I q => ?_⟩
  obtain ⟨env, h, z, m, rs, rh, o⟩ := q
  obtain ⟨v, e, p⟩ := o.lift
  obtain ⟨u, y, hm, rv, hr⟩ := G.facts.csts x h3 v e
  exact (pe_glob (gl_of G h2) hm rv d1).run pins s σ H Q I (p m H (Ext.refl _ _) rh y (hr z m H))
theorem snd_lit {c : Const} {d : D} {j : Nat} {pos : Pos} (h : trConst c = some d) : PE X (.Constant c j pos) (tE X.K XC W fun _ => M.ret (.d d)) := by
  have fin : ∀ {y : V}, (∀ z m H, RepD X.K z m H d y) → ∀ σ H Q, tE X.K XC W (fun _ => M.ret (.d d)) σ H Q → Q y H := fun hy σ H Q q => by
    obtain ⟨env, h, z, m, rs, rh, o⟩ := q
    exact o.ret m H (Ext.refl _ _) rh _ (hy z m H)
  cases c with
  | none => cases h; exact pe_non.to (fin fun _ _ _ => rfl)
  | bool b => cases h; exact pe_bl.to (fin fun _ _ _ => rfl)
  | int i => cases h; exact pe_int.to (fin fun _ _ _ => rfl)
  | str x =>
    simp only [trConst] at h
    split at h
    · cases h
      refine pe_str.to (fin fun _ _ _ => ?_)
      rw [RepD]
      show V.str x = V.str ⟨(codes x).toArray⟩
      simp [codes]
    · cases h
  | _ => cases h

theorem snd_op {o : Op} {a b : Expr} {ra rb : Env → M PV} {pos : Pos} (ha : PE X a (tE X.K XC W ra)) (hb : PE X b (tE X.K XC W rb)) :
    PE X (.BinOp a (opOf o) b pos) (tE X.K XC W fun env => M.bnd (ra env) fun x => M.bnd (rb env) fun y => M.lift fun h => binop h o x y) := by
  refine (pe_op (opr_bin o) ha hb).to fun σ H Q q => ?_
  obtain ⟨env, h, z, m, rs, rh, out⟩ := q
  refine ⟨env, h, z, m, rs, rh, out.bnd.imp fun x h1 m1 H1 e1 rh1 o1 vx rx => ?_⟩
  refine ⟨env, h1, z, m1, rs.keep e1.keeps, rh1, o1.bnd.imp fun y h2 m2 H2 e2 rh2 o2 vy ry => ?_⟩
  obtain ⟨v, e, p⟩ := o2.lift
  exact ⟨x, y, h2, z, m2, v, rx.keep e2.keeps, ry, rh2, e, fun m' H' x' e' r' rr => p m' H' e' r' x' rr⟩
theorem snd_cmp {o : Cm} {a b : Expr} {ra rb : Env → M PV} {pos : Pos} (hr : Room k X.A) (hs : behindInMarks (cmOp o) b = false) (ha : PE X a (tE X.K XC W ra)) (hb : PE X b (tE X.K XC W rb)) :
    PE X (.Compare a [cmOp o] [b] pos) (tE X.K XC W fun env => M.bnd (ra env) fun x => M.bnd (rb env) fun y => M.lift fun h => (cmpop h o x y).map fun r => .d (.bool r)) := by
  refine (pe_cmpR (opr_cmp hr o) ha hb hs).to fun σ H Q q => ?_
  obtain ⟨env, h, z, m, rs, rh, out⟩ := q
  refine ⟨env, h, z, m, rs, rh, out.bnd.imp fun x h1 m1 H1 e1 rh1 o1 vx rx => ?_⟩
  refine ⟨env, h1, z, m1, rs.keep e1.keeps, rh1, o1.bnd.imp fun y h2 m2 H2 e2 rh2 o2 vy ry => ?_⟩
  obtain ⟨v, e, p⟩ := o2.lift
  exact ⟨x, y, h2, z, m2, v, rx.keep e2.keeps, ry, rh2, e, fun m' H' x' e' r' rr => p m' H' e' r' x' rr⟩

/-- truth, as the machine has it -/
theorem truV {h : Hh} {z m : List Addr} {H : Hp} {v : PV} {x : V} {b : Bool} (rh : RelH X.K z m H h) (r : Rep X.K z m H v x) (e : truthy h v = some b) : TruV X.K x H b := by
  have seq : ∀ {a : Addr} {us : List V} {n : Nat} {c : Bool}, us.length = n → (c = !(n == 0)) → SqL X.K H a us ∨ SqT X.K H a us → TruV X.K (.ref a) H c := fun {a us n c} hl hc hs => by
    have hb : c = !us.isEmpty := by
      rw [hc, ← hl]
      cases us <;> simp
    rcases hs with hs | hs
    · exact .inl ⟨us, hs, hb⟩
    · exact .inr (.inl ⟨us, hs, hb⟩)
  have ie : ∀ {α : Type} (xs : List α), xs.isEmpty = (xs.length == 0) := fun xs => by cases xs <;> simp
  cases v with
  | d y =>
    cases y with
    | none =>
      have r : x = .non := by simpa [Rep, RepD] using r
      subst r
      simp only [truthy, D.truthy, Option.some.injEq] at e
      exact e.symm
    | bool c =>
      have r : x = .bl c := by simpa [Rep, RepD] using r
      subst r
      simp only [truthy, D.truthy, Option.some.injEq] at e
      exact e.symm
    | int i =>
      have r : x = .int i := by simpa [Rep, RepD] using r
      subst r
      simp only [truthy, D.truthy, Option.some.injEq] at e
      exact e.symm
    | str t =>
      have r := r.str
      subst r
      simp only [truthy] at e
      split at e
      · rename_i hl
        simp only [Option.some.injEq] at e
        refine ⟨by rw [← lim_size]; simpa [Str.length] using hl, ?_⟩
        rw [← e, ie]
        show (!t.length == 0) = !((((⟨t.toArray⟩ : Str).length : Int)) == 0)
        congr 1
        rw [Bool.eq_iff_iff]
        simp [Str.length]
      · cases e
    | list xs =>
      obtain ⟨a, us, rfl, h2, h3, h4⟩ := r.list
      simp only [truthy, D.truthy, Option.some.injEq] at e
      exact seq h4.length.symm (by rw [← e, ie]) (.inl h2.sq)
    | tup xs =>
      obtain ⟨a, us, rfl, h2, h3, h4⟩ := r.tup
      simp only [truthy, D.truthy, Option.some.injEq] at e
      exact seq h4.length.symm (by rw [← e, ie]) (.inr h2.sq)
  | ref l =>
    obtain ⟨a, rfl, ha⟩ := r
    simp only [truthy] at e
    cases hc : h[l]? with
    | none => rw [hc] at e; simp at e
    | some c =>
      cases c with
      | lst xs =>
        rw [hc] at e
        simp only [Option.some.injEq] at e
        obtain ⟨us, h1, h2, h3⟩ := rh.cell l a xs ha hc
        exact seq h3.length.symm (by rw [← e, ie]) (.inl (.inl (.inl h1)))
      | dic kvs =>
        rw [hc] at e
        simp only [Option.some.injEq] at e
        obtain ⟨ks, h1, h2, h3⟩ := rh.dcell l a kvs ha hc
        refine .inr (.inr ⟨ks, h1, ?_⟩)
        rw [← e, ie, ie, h3.length]
  | dict kvs => obtain ⟨_, _, f⟩ := r; exact f.elim
  | tp xs =>
    rw [Rep] at r
    obtain ⟨a, us, rfl, h2, h3, h4⟩ := r
    simp only [truthy, Option.some.injEq] at e
    exact seq h4.length.symm (by rw [← e, ie]) (.inr h2.sq)
  | scr xs =>
    obtain ⟨a, us, rfl, h2, h3, h4⟩ := r
    simp only [truthy, Option.some.injEq] at e
    exact seq h4.length.symm (by rw [← e, ie]) (.inl (h2.elim (fun q => .inl q.1) .inr))

/-- an expression, as a value and as a test -/
structure Both (XC : Nat → Option Addr) (X : Cx) (W : WX) (e : Expr) (r : Env → M PV) : Prop where
  v : PE X e (tE X.K XC W r)
  t : PT X e (tTt X.K XC W (tst r))
theorem Both.plain {e : Expr} {r : Env → M PV} (v : PE X e (tE X.K XC W r)) (he : ∀ whole, isTrue e X.env whole = (do let v ← whole; standAt e.pos; holding [v] (PySem.truthy v))) : Both XC X W e r := by
  refine ⟨v, (pt_truth v he).to fun σ H Q q => ?_⟩
  obtain ⟨env, h, z, m, rs, rh, o⟩ := q
  refine ⟨env, h, z, m, rs, rh, o.bnd.imp fun a h1 m1 H1 e1 rh1 o1 x rx => ?_⟩
  obtain ⟨b, e, p⟩ := o1.lift
  exact ⟨b, truV rh1 rx e, p m1 H1 (Ext.refl _ _) rh1⟩

theorem lift_bool (f : Hh → Option Bool) (k : Bool → Bool) : (M.bnd (M.lift fun h => (f h).map fun b => PV.d (.bool (k b))) fun x => M.lift fun h => truthy h x) = M.lift fun h => (f h).map k := by
  funext h
  simp only [M.bnd, M.lift]
  cases f h <;> rfl
theorem lift_bool1 (f : Hh → Option Bool) : (M.bnd (M.lift fun h => (f h).map fun b => PV.d (.bool b)) fun x => M.lift fun h => truthy h x) = M.lift f := by
  funext h
  simp only [M.bnd, M.lift]
  cases f h <;> rfl
theorem ret_bool (b : Bool) : (M.bnd (M.ret (PV.d (.bool b))) fun x => M.lift fun h => truthy h x) = M.ret b := rfl

theorem snd_not {a : Expr} {ra : Env → M PV} {pos : Pos} (ha : Both XC X W a ra) : Both XC X W (.UnaryOp .Not a pos) fun env => M.bnd (ra env) fun x => M.lift fun h => (truthy h x).map fun b => .d (.bool (!b)) := by
  refine ⟨(pe_notT ha.v).to fun σ H Q q => ?_, (pt_not ha.t).to fun σ H Q q => ?_⟩
  · obtain ⟨env, h, z, m, rs, rh, o⟩ := q
    refine ⟨env, h, z, m, rs, rh, o.bnd.imp fun a h1 m1 H1 e1 rh1 o1 x rx => ?_⟩
    obtain ⟨b, e, p⟩ := o1.lift
    simp only [Option.map_eq_some_iff] at e
    obtain ⟨c, e, rfl⟩ := e
    exact ⟨c, truV rh1 rx e, p m1 H1 (Ext.refl _ _) rh1 _ rfl⟩
  · obtain ⟨env, h, z, m, rs, rh, o⟩ := q
    refine ⟨env, h, z, m, rs, rh, ?_⟩
    simp only [tst, M.bnd_assoc, lift_bool] at o ⊢
    simp only [M.bnd] at o ⊢
    cases e : ra env h with
    | ok v h1 =>
      simp only [e, M.lift] at o ⊢
      cases e2 : truthy h1 v with
      | none => simp only [e2, Option.map_none] at o; exact o
      | some c => simp only [e2, Option.map_some] at o ⊢; exact o
    | exc c v h1 => simp only [e] at o ⊢; exact o
    | stuck => simp only [e] at o; exact o
theorem snd_cmpB {o : Cm} {a b : Expr} {ra rb : Env → M PV} {pos : Pos} (hr : Room k X.A) (hs : behindInMarks (cmOp o) b = false) (ha : PE X a (tE X.K XC W ra)) (hb : PE X b (tE X.K XC W rb)) :
    Both XC X W (.Compare a [cmOp o] [b] pos) fun env => M.bnd (ra env) fun x => M.bnd (rb env) fun y => M.lift fun h => (cmpop h o x y).map fun r => .d (.bool r) := by
  refine ⟨snd_cmp hr hs ha hb, (pt_cmpR (opr_cmp hr o) ha hb hs).to fun σ H Q q => ?_⟩
  obtain ⟨env, h, z, m, rs, rh, out⟩ := q
  simp only [tst, M.bnd_assoc, lift_bool1] at out
  refine ⟨env, h, z, m, rs, rh, out.bnd.imp fun x h1 m1 H1 e1 rh1 o1 vx rx => ?_⟩
  refine ⟨env, h1, z, m1, rs.keep e1.keeps, rh1, o1.bnd.imp fun y h2 m2 H2 e2 rh2 o2 vy ry => ?_⟩
  obtain ⟨v, e, p⟩ := o2.lift
  exact ⟨x, y, h2, z, m2, .d (.bool v), rx.keep e2.keeps, ry, rh2, by show Option.map _ _ = _; rw [e]; rfl, fun m' H' x' e' r' rr => ⟨v, rr, p m' H' e' r'⟩⟩
theorem snd_cmp2 {o o' : Cm} {a b c : Expr} {ra rb rc : Env → M PV} {pos : Pos} (hr : Room k X.A) (hs : lastMarks [cmOp o, cmOp o'] [b, c] = false) (ha : PE X a (tE X.K XC W ra)) (hb : PE X b (tE X.K XC W rb)) (hc : PE X c (tE X.K XC W rc)) :
    Both XC X W (.Compare a [cmOp o, cmOp o'] [b, c] pos) fun env => M.bnd (ra env) fun x => M.bnd (rb env) fun y => M.bnd (M.lift fun h => cmpop h o x y) fun r =>
      if r then M.bnd (rc env) fun w => M.lift fun h => (cmpop h o' y w).map fun b => .d (.bool b) else M.ret (.d (.bool false)) := by
  have key : ∀ {Q : V → Hp → Prop} {Q' : PV → Hh → List Addr → Hp → Prop} {σ : L2.St} {H : Hp} {env : Env} {h : Hh} {z m : List Addr}, RelS X.K z m H env σ → RelH X.K z m H h →
      (∀ (b : Bool) h' m' H', RelH X.K z m' H' h' → Q' (.d (.bool b)) h' m' H' → Q (.bl b) H') →
      Out X.K XC z m H ((M.bnd (ra env) fun x => M.bnd (rb env) fun y => M.bnd (M.lift fun h => cmpop h o x y) fun r =>
        if r then M.bnd (rc env) fun w => M.lift fun h => (cmpop h o' y w).map fun b => .d (.bool b) else M.ret (.d (.bool false))) h) Q' (fun cls d H' => W cls d σ H') →
      tChain (R2of X.K fun h a b => (cmpop h o a b).map fun r => .d (.bool r)) (R2of X.K fun h a b => (cmpop h o' a b).map fun r => .d (.bool r)) (tE X.K XC W ra) (tE X.K XC W rb) (tE X.K XC W rc) σ H Q := by
    intro Q Q' σ H env h z m rs rh hQ out
    refine ⟨env, h, z, m, rs, rh, out.bnd.imp fun x h1 m1 H1 e1 rh1 o1 vx rx => ?_⟩
    refine ⟨env, h1, z, m1, rs.keep e1.keeps, rh1, o1.bnd.imp fun y h2 m2 H2 e2 rh2 o2 vy ry => ?_⟩
    obtain ⟨v, e, p⟩ := o2.bnd.lift
    refine ⟨x, y, h2, z, m2, .d (.bool v), rx.keep e2.keeps, ry, rh2, by show Option.map _ _ = _; rw [e]; rfl, fun m' H' x' e' r' rr => ⟨v, rr, ?_⟩⟩
    have o3 := p m' H' e' r'
    have rs3 := (rs.keep e1.keeps).keep (e2.trans e').keeps
    cases v with
    | false =>
      simp only [Bool.false_eq_true, if_false] at o3 ⊢
      exact hQ false _ _ _ r' (o3.ret m' H' (Ext.refl _ _) r')
    | true =>
      simp only [if_true] at o3 ⊢
      refine ⟨env, h2, z, m', rs3, r', o3.bnd.imp fun w h3 m3 H3 e3 rh3 o4 vw rw' => ?_⟩
      obtain ⟨v2, e4, p4⟩ := o4.lift
      simp only [Option.map_eq_some_iff] at e4
      obtain ⟨b4, e4, rfl⟩ := e4
      refine ⟨y, w, h3, z, m3, .d (.bool b4), (ry.keep e'.keeps).keep e3.keeps, rw', rh3, by show Option.map _ _ = _; rw [e4]; rfl, fun m5 H5 x5 e5 r5 rr5 => ?_⟩
      rw [show x5 = .bl b4 from rr5]
      exact hQ b4 _ _ _ r5 (p4 m5 H5 e5 r5)
  refine ⟨(pe_chain (opr_cmp hr o) (opr_cmp hr o') ha hb hc hs).to fun σ H Q q => ?_, (pt_chain (opr_cmp hr o) (opr_cmp hr o') ha hb hc hs).to fun σ H Q q => ?_⟩
  · obtain ⟨env, h, z, m, rs, rh, out⟩ := q
    exact key rs rh (fun b h' m' H' _ p => p _ rfl) out
  · obtain ⟨env, h, z, m, rs, rh, out⟩ := q
    refine key (Q' := fun v h' m' H' => ∀ b, v = .d (.bool b) → Q b H') rs rh (fun b h' m' H' _ p => ⟨b, rfl, p b rfl⟩) ?_
    simp only [tst] at out
    refine Out.imp (P := fun v h' m' H' => Out X.K XC z m' H' (M.lift (fun h => truthy h v) h') (fun b _ _ H' => Q b H') fun cls d H' => W cls d σ H') out.bnd fun v h' m' H' e' r' o b eb => ?_
    subst eb
    obtain ⟨c, ec, pc⟩ := o.lift
    simp only [truthy, D.truthy, Option.some.injEq] at ec
    subst ec
    exact pc m' H' (Ext.refl _ _) r'

theorem Rep.non_iff {K : PySem.W.Frag} {z m : List Addr} {H : Hp} {v : PV} {x : V} (r : Rep K z m H v x) : decide (x = .non) = isNone v := by
  cases v with
  | d y =>
    cases y with
    | none => have e : x = .non := by simpa [Rep, RepD] using r
              subst e; rfl
    | bool b => have e : x = .bl b := by simpa [Rep, RepD] using r
                subst e; rfl
    | int b => have e := r.int
               subst e; rfl
    | str b => have e := r.str
               subst e; rfl
    | list b => obtain ⟨a, us, rfl, _⟩ := r.list; rfl
    | tup b => obtain ⟨a, us, rfl, _⟩ := r.tup; rfl
  | ref l => obtain ⟨a, rfl, _⟩ := r; rfl
  | dict l => obtain ⟨a, rfl, _⟩ := r; rfl
  | scr l => obtain ⟨a, us, rfl, _⟩ := r; rfl
  | tp l => rw [Rep] at r; obtain ⟨a, us, rfl, _⟩ := r; rfl
theorem isC_none (v : PV) : isC v .none = some (isNone v) := rfl
theorem snd_isN (n : Bool) {a : Expr} {ra : Env → M PV} {j : Nat} {p1 pos : Pos} (ha : PE X a (tE X.K XC W ra)) :
    Both XC X W (.Compare a [if n then .IsNot else .Is] [.Constant .none j p1] pos) fun env => M.bnd (ra env) fun x => M.lift fun _ => (isC x .none).map fun b => .d (.bool (if n then !b else b)) := by
  refine ⟨?_, ?_⟩
  · have r : PE X (.Compare a [if n then .IsNot else .Is] [.Constant .none j p1] pos) (fun σ H Q => tE X.K XC W ra σ H fun x H1 => Q (.bl (if n then !decide (x = .non) else decide (x = .non))) H1) := by
      cases n
      · exact pe_cmp (pc_isN ha)
      · exact pe_cmp (pc_notN ha)
    refine r.to fun σ H Q q => ?_
    obtain ⟨env, h, z, m, rs, rh, out⟩ := q
    refine ⟨env, h, z, m, rs, rh, out.bnd.imp fun x h1 m1 H1 e1 rh1 o1 vx rx => ?_⟩
    obtain ⟨v, e, p⟩ := o1.lift
    rw [isC_none] at e
    simp only [Option.map_some, Option.some.injEq] at e
    subst e
    refine p m1 H1 (Ext.refl _ _) rh1 _ ?_
    rw [Rep.non_iff rx]
    cases n <;> rfl
  · have r : PT X (.Compare a [if n then .IsNot else .Is] [.Constant .none j p1] pos) (fun σ H Q => tE X.K XC W ra σ H fun x H1 => Q (if n then !decide (x = .non) else decide (x = .non)) H1) := by
      cases n
      · exact (pt_cmp (pc_isN ha)).to fun σ H Q q => by
          obtain ⟨env, h, z, m, rs, rh, out⟩ := q
          exact ⟨env, h, z, m, rs, rh, out.imp fun x h1 m1 H1 e1 rh1 o1 vx rx => ⟨_, rfl, o1 vx rx⟩⟩
      · exact (pt_cmp (pc_notN ha)).to fun σ H Q q => by
          obtain ⟨env, h, z, m, rs, rh, out⟩ := q
          exact ⟨env, h, z, m, rs, rh, out.imp fun x h1 m1 H1 e1 rh1 o1 vx rx => ⟨_, rfl, o1 vx rx⟩⟩
    refine r.to fun σ H Q q => ?_
    obtain ⟨env, h, z, m, rs, rh, out⟩ := q
    simp only [tst, M.bnd_assoc, isC_none, Option.map_some] at out
    refine ⟨env, h, z, m, rs, rh, out.bnd.imp fun x h1 m1 H1 e1 rh1 o1 vx rx => ?_⟩
    obtain ⟨v, e, p⟩ := o1.bnd.lift
    cases e
    obtain ⟨c, ec, pc⟩ := (p m1 H1 (Ext.refl _ _) rh1).lift
    simp only [truthy, D.truthy, Option.some.injEq] at ec
    subst ec
    rw [Rep.non_iff rx]
    exact pc m1 H1 (Ext.refl _ _) rh1
theorem snd_isB (n b : Bool) {a : Expr} {ra : Env → M PV} {j : Nat} {p1 pos : Pos} (ha : PE X a (tE X.K XC W ra)) :
    Both XC X W (.Compare a [if n then .IsNot else .Is] [.Constant (.bool b) j p1] pos) fun env => M.bnd (ra env) fun x => M.lift fun _ => (isC x (.bool b)).map fun b => .d (.bool (if n then !b else b)) := by
  have get : ∀ {z m : List Addr} {H : Hp} {v : PV} {x : V} {w : Bool}, Rep X.K z m H v x → isC v (.bool b) = some w → ∃ c, x = .bl c ∧ w = (c == b) := fun {z m H v x w} r e => by
    cases v with
    | d y =>
      cases y with
      | bool c => exact ⟨c, by simpa [Rep, RepD] using r, (Option.some.inj e).symm⟩
      | _ => simp [isC] at e
    | _ => simp [isC] at e
  have deq : ∀ c : Bool, decide (c = b) = (c == b) := fun c => by cases c <;> cases b <;> rfl
  refine ⟨?_, ?_⟩
  · have r : PE X (.Compare a [if n then .IsNot else .Is] [.Constant (.bool b) j p1] pos) (fun σ H Q => tE X.K XC W ra σ H fun x H1 => ∃ c, x = .bl c ∧ Q (.bl (if n then !(c == b) else (c == b))) H1) := by
      cases n
      · exact (pe_cmpR op_isBl ha pe_bl (nomark _)).to fun σ H Q ⟨env, h, z, m, rs, rh, out⟩ => ⟨env, h, z, m, rs, rh, out.imp fun x h1 m1 H1 e1 rh1 o1 vx rx => by
          obtain ⟨c, hc, q⟩ := o1 vx rx
          exact ⟨c, b, hc, rfl, by rw [deq]; exact q⟩⟩
      · exact (pe_cmpR op_notBl ha pe_bl (nomark _)).to fun σ H Q ⟨env, h, z, m, rs, rh, out⟩ => ⟨env, h, z, m, rs, rh, out.imp fun x h1 m1 H1 e1 rh1 o1 vx rx => by
          obtain ⟨c, hc, q⟩ := o1 vx rx
          exact ⟨c, b, hc, rfl, by rw [deq]; exact q⟩⟩
    refine r.to fun σ H Q q => ?_
    obtain ⟨env, h, z, m, rs, rh, out⟩ := q
    refine ⟨env, h, z, m, rs, rh, out.bnd.imp fun x h1 m1 H1 e1 rh1 o1 vx rx => ?_⟩
    obtain ⟨v, e, p⟩ := o1.lift
    simp only [Option.map_eq_some_iff] at e
    obtain ⟨w, e, rfl⟩ := e
    obtain ⟨c, hc, rfl⟩ := get rx e
    exact ⟨c, hc, p m1 H1 (Ext.refl _ _) rh1 _ rfl⟩
  · have r : PT X (.Compare a [if n then .IsNot else .Is] [.Constant (.bool b) j p1] pos) (fun σ H Q => tE X.K XC W ra σ H fun x H1 => ∃ c, x = .bl c ∧ Q (if n then !(c == b) else (c == b)) H1) := by
      cases n
      · exact (pt_cmpR op_isBl ha pe_bl (nomark _)).to fun σ H Q ⟨env, h, z, m, rs, rh, out⟩ => ⟨env, h, z, m, rs, rh, out.imp fun x h1 m1 H1 e1 rh1 o1 vx rx => by
          obtain ⟨c, hc, q⟩ := o1 vx rx
          exact ⟨c, b, hc, rfl, _, rfl, by rw [deq]; exact q⟩⟩
      · exact (pt_cmpR op_notBl ha pe_bl (nomark _)).to fun σ H Q ⟨env, h, z, m, rs, rh, out⟩ => ⟨env, h, z, m, rs, rh, out.imp fun x h1 m1 H1 e1 rh1 o1 vx rx => by
          obtain ⟨c, hc, q⟩ := o1 vx rx
          exact ⟨c, b, hc, rfl, _, rfl, by rw [deq]; exact q⟩⟩
    refine r.to fun σ H Q q => ?_
    obtain ⟨env, h, z, m, rs, rh, out⟩ := q
    simp only [tst, M.bnd_assoc, lift_bool (fun _ => isC _ _)] at out
    refine ⟨env, h, z, m, rs, rh, out.bnd.imp fun x h1 m1 H1 e1 rh1 o1 vx rx => ?_⟩
    obtain ⟨v, e, p⟩ := o1.lift
    simp only [Option.map_eq_some_iff] at e
    obtain ⟨w, e, rfl⟩ := e
    obtain ⟨c, hc, rfl⟩ := get rx e
    exact ⟨c, hc, p m1 H1 (Ext.refl _ _) rh1⟩

theorem snd_and {a b : Expr} {rest : List Expr} {ra rb : Env → M PV} {pos : Pos} (ha : Both XC X W a ra) (hb : PE X (.BoolOp .And (b :: rest) pos) (tE X.K XC W rb)) (hb' : PW X (.BoolOp .And (b :: rest) pos) (tTt X.K XC W (tst rb))) :
    PE X (.BoolOp .And (a :: b :: rest) pos) (tE X.K XC W fun env => M.bnd (ra env) fun x => M.bnd (M.lift fun h => truthy h x) fun r => if r then rb env else M.ret x) ∧
    PW X (.BoolOp .And (a :: b :: rest) pos) (tTt X.K XC W (tst fun env => M.bnd (ra env) fun x => M.bnd (M.lift fun h => truthy h x) fun r => if r then rb env else M.ret x)) := by
  refine ⟨(pe_andT ha.v hb).to fun σ H Q q => ?_, (pw_and ha.t hb').to fun σ H Q q => ?_⟩
  · obtain ⟨env, h, z, m, rs, rh, out⟩ := q
    refine ⟨env, h, z, m, rs, rh, out.bnd.imp fun x h1 m1 H1 e1 rh1 o1 vx rx => ?_⟩
    obtain ⟨r, e, p⟩ := o1.bnd.lift
    have o2 := p m1 H1 (Ext.refl _ _) rh1
    refine ⟨r, truV rh1 rx e, ?_⟩
    cases r with
    | true => exact ⟨env, h1, z, m1, rs.keep e1.keeps, rh1, by simpa using o2⟩
    | false =>
      simp only [Bool.false_eq_true, if_false] at o2 ⊢
      exact o2.ret m1 H1 (Ext.refl _ _) rh1 vx rx
  · obtain ⟨env, h, z, m, rs, rh, out⟩ := q
    simp only [tst, M.bnd_assoc] at out
    refine ⟨env, h, z, m, rs, rh, ?_⟩
    simp only [M.bnd, tst] at out ⊢
    cases e : ra env h with
    | stuck => simp only [e] at out; exact out
    | exc c v h1 => simp only [e] at out ⊢; exact out
    | ok v h1 =>
      simp only [e, M.lift] at out ⊢
      cases e2 : truthy h1 v with
      | none => simp only [e2] at out; exact out
      | some c =>
        simp only [e2] at out ⊢
        intro m' H' e' r'
        cases c with
        | true =>
          simp only [if_true] at out ⊢
          exact ⟨env, h1, z, m', rs.keep e'.keeps, r', out.mono e'⟩
        | false =>
          simp only [Bool.false_eq_true, if_false, M.ret, e2] at out ⊢
          exact out m' H' e' r'
theorem snd_or {a b : Expr} {rest : List Expr} {ra rb : Env → M PV} {pos : Pos} (ha : Both XC X W a ra) (hb : PE X (.BoolOp .Or (b :: rest) pos) (tE X.K XC W rb)) (hb' : PW X (.BoolOp .Or (b :: rest) pos) (tTt X.K XC W (tst rb))) :
    PE X (.BoolOp .Or (a :: b :: rest) pos) (tE X.K XC W fun env => M.bnd (ra env) fun x => M.bnd (M.lift fun h => truthy h x) fun r => if r then M.ret x else rb env) ∧
    PW X (.BoolOp .Or (a :: b :: rest) pos) (tTt X.K XC W (tst fun env => M.bnd (ra env) fun x => M.bnd (M.lift fun h => truthy h x) fun r => if r then M.ret x else rb env)) := by
  refine ⟨(pe_orT ha.v hb).to fun σ H Q q => ?_, (pw_or ha.t hb').to fun σ H Q q => ?_⟩
  · obtain ⟨env, h, z, m, rs, rh, out⟩ := q
    refine ⟨env, h, z, m, rs, rh, out.bnd.imp fun x h1 m1 H1 e1 rh1 o1 vx rx => ?_⟩
    obtain ⟨r, e, p⟩ := o1.bnd.lift
    have o2 := p m1 H1 (Ext.refl _ _) rh1
    refine ⟨r, truV rh1 rx e, ?_⟩
    cases r with
    | false => exact ⟨env, h1, z, m1, rs.keep e1.keeps, rh1, by simpa using o2⟩
    | true =>
      simp only [if_true] at o2 ⊢
      exact o2.ret m1 H1 (Ext.refl _ _) rh1 vx rx
  · obtain ⟨env, h, z, m, rs, rh, out⟩ := q
    simp only [tst, M.bnd_assoc] at out
    refine ⟨env, h, z, m, rs, rh, ?_⟩
    simp only [M.bnd, tst] at out ⊢
    cases e : ra env h with
    | stuck => simp only [e] at out; exact out
    | exc c v h1 => simp only [e] at out ⊢; exact out
    | ok v h1 =>
      simp only [e, M.lift] at out ⊢
      cases e2 : truthy h1 v with
      | none => simp only [e2] at out; exact out
      | some c =>
        simp only [e2] at out ⊢
        intro m' H' e' r'
        cases c with
        | false =>
          simp only [Bool.false_eq_true, if_false] at out ⊢
          exact ⟨env, h1, z, m', rs.keep e'.keeps, r', out.mono e'⟩
        | true =>
          simp only [if_true, M.ret, e2] at out ⊢
          exact out m' H' e' r'

theorem _root_.L2.pt_ifExp {c a b : Expr} {pos : Pos} {tc ta tb : TT} (hc : PT X c tc) (ha : PT X a ta) (hb : PT X b tb) : PT X (.IfExp c a b pos) (fun σ H Q => tc σ H fun k H1 => if k = true then ta σ H1 Q else tb σ H1 Q) := by
  refine ⟨fun pins s σ H Q I h => ?_⟩
  refine PyProof.Rows.isTrue_IfExp (thn (hc.run pins s σ H _ I h) fun d s1 ⟨H1, I1, q1⟩ => ?_)
  cases d with
  | true => exact ha.run pins s1 σ H1 Q I1 q1
  | false => exact hb.run pins s1 σ H1 Q I1 q1
theorem snd_ite {c a b : Expr} {rc ra rb : Env → M PV} {pos : Pos} (hc : Both XC X W c rc) (ha : Both XC X W a ra) (hb : Both XC X W b rb) :
    Both XC X W (.IfExp c a b pos) fun env => M.bnd (rc env) fun x => M.bnd (M.lift fun h => truthy h x) fun r => if r then ra env else rb env := by
  have key : ∀ {α : Type} {P : α → Hh → List Addr → Hp → Prop} {σ : L2.St} {H : Hp} {env : Env} {h : Hh} {z m : List Addr} {fa fb : M α} {Q : Bool → Hp → Prop}, RelS X.K z m H env σ → RelH X.K z m H h →
      (∀ c h1 m1 H1, RelS X.K z m1 H1 env σ → RelH X.K z m1 H1 h1 → Out X.K XC z m1 H1 ((if c = true then fa else fb) h1) P (fun cls d H' => W cls d σ H') → Q c H1) →
      Out X.K XC z m H (M.bnd (rc env) (fun x => M.bnd (M.lift fun h => truthy h x) fun r => if r then fa else fb) h) P (fun cls d H' => W cls d σ H') → tTt X.K XC W (tst rc) σ H Q := by
    intro α P σ H env h z m fa fb Q rs rh hQ out
    refine ⟨env, h, z, m, rs, rh, ?_⟩
    simp only [M.bnd, tst] at out ⊢
    cases e : rc env h with
    | stuck => simp only [e] at out; exact out
    | exc c v h1 => simp only [e] at out ⊢; exact out
    | ok v h1 =>
      simp only [e, M.lift] at out ⊢
      cases e2 : truthy h1 v with
      | none => simp only [e2] at out; exact out
      | some c =>
        simp only [e2] at out ⊢
        intro m' H' e' r'
        exact hQ c h1 m' H' (rs.keep e'.keeps) r' (out.mono e')
  refine ⟨(pe_ifExp hc.t ha.v hb.v).to fun σ H Q q => ?_, (pt_ifExp hc.t ha.t hb.t).to fun σ H Q q => ?_⟩
  · obtain ⟨env, h, z, m, rs, rh, out⟩ := q
    refine key rs rh (fun c h1 m1 H1 rs1 rh1 o => ?_) out
    cases c with
    | true => exact ⟨env, h1, z, m1, rs1, rh1, o⟩
    | false => exact ⟨env, h1, z, m1, rs1, rh1, o⟩
  · obtain ⟨env, h, z, m, rs, rh, out⟩ := q
    simp only [tst, M.bnd_assoc] at out
    refine key (fa := tst ra env) (fb := tst rb env) rs rh (fun c h1 m1 H1 rs1 rh1 o => ?_) (P := fun b h' m' H' => Q b H') ?_
    · cases c with
      | true => exact ⟨env, h1, z, m1, rs1, rh1, o⟩
      | false => exact ⟨env, h1, z, m1, rs1, rh1, o⟩
    · have e : (fun x => M.bnd (M.lift fun h => truthy h x) fun r => M.bnd (if r = true then ra env else rb env) fun x => M.lift fun h => truthy h x) = fun x => M.bnd (M.lift fun h => truthy h x) fun r => if r = true then tst ra env else tst rb env := by
        funext x
        congr 1
        funext r
        cases r <;> rfl
      rw [← e]
      exact out
end
end Ev
end

section
/-! EvSnd2: argument lists, calls, built-ins, methods, displays, items, slices. -/
set_option autoImplicit false
set_option linter.all false
set_option Elab.async false
set_option maxRecDepth 100000
set_option maxHeartbeats 1000000
namespace Ev
open PySem L2 PyProof.Rows

def notStar : Expr → Bool
  | .Starred .. => false
  | _ => true
theorem starEach_one {e : Expr} {es : List Expr} {env : PySem.Env} (h : notStar e = true) : starEach (e :: es) env = (false, eval e env) :: starEach es env := by
  cases e <;> first | rfl | (simp [notStar] at h)
theorem stars_false : ∀ (es : List Expr) (env : PySem.Env) (pos : Pos), es.all notStar = true → (backTo pos (starEach es env)).any (·.1) = false
  | [], _, _, _ => rfl
  | e :: es, env, pos, h => by
    simp only [List.all_cons, Bool.and_eq_true] at h
    rw [starEach_one h.1]
    show ((false : Bool) || (backTo pos (starEach es env)).any (·.1)) = false
    rw [stars_false es env pos h.2]; rfl
theorem stars_all : ∀ (es : List Expr) (env : PySem.Env) (pos : Pos), es.all notStar = true → ((backTo pos (starEach es env)).all fun x => !x.1) = true
  | [], _, _, _ => rfl
  | e :: es, env, pos, h => by
    simp only [List.all_cons, Bool.and_eq_true] at h
    rw [starEach_one h.1]
    show (!(false : Bool) && (backTo pos (starEach es env)).all fun x => !x.1) = true
    rw [stars_all es env pos h.2]; rfl

section
variable {P : TrP} {T : Nat → Option Fn} {C : Nat → Option PV} {XC : Nat → Option Addr} {k : Nat} {N : List Str} {sc : Scope} {X : Cx} {W : WX}
theorem snd_nil : PA X [] (tEs X.K XC W fun _ => M.ret []) := pa_nil.to fun σ H Q q => by
  obtain ⟨env, h, z, m, rs, rh, o⟩ := q
  exact o.ret m H (Ext.refl _ _) rh [] rfl
theorem snd_cons {e : Expr} {es : List Expr} {re : Env → M PV} {rs : Env → M (List PV)} (h : notStar e = true) (he : PE X e (tE X.K XC W re)) (hs : PA X es (tEs X.K XC W rs)) :
    PA X (e :: es) (tEs X.K XC W fun env => M.bnd (re env) fun x => M.bnd (rs env) fun xs => M.ret (x :: xs)) := by
  refine (pa_cons he hs (starEach_one h)).to fun σ H Q q => ?_
  obtain ⟨env, h, z, m, rs, rh, out⟩ := q
  refine ⟨env, h, z, m, rs, rh, out.bnd.imp fun x h1 m1 H1 e1 rh1 o1 vx rx => ?_⟩
  refine ⟨env, h1, z, m1, rs.keep e1.keeps, rh1, o1.bnd.imp fun xs h2 m2 H2 e2 rh2 o2 us rus => ?_⟩
  exact o2.ret m2 H2 (Ext.refl _ _) rh2 (vx :: us) ⟨vx, us, rfl, rx.keep e2.keeps, rus⟩

theorem pe_call0SD {CX : CXT} {k : Nat} {f : Addr} {fd : FuncData} {ps : List Str} {sp : Sp} {E : L2.St → XK} {x : Str} {p pos : Pos} (F : FnOk X.prog X.w X.K X.mg X.base CX k f fd ps sp) (hr : Room k X.A) (hg : Gl X x) (hm : X.mg x = some (.ref f)) (hk : PySem.W.keepIn X.K (.ref f) = true)
    (hb : Binds X.K fd ps []) (hx : ∀ σ, PassesAt CX X σ (E σ)) (hdb : (x == ("__debug__" : Str)) = false) : PE X (.Call (.Name x p) [] [] pos) (fun σ H Q => sp [] H Q (E σ)) := by
  refine ⟨fun pins s σ H Q I h => ?_⟩
  refine wpAny_Call_Name_kw (ld_glob I hg hm ?_ hdb)
  exact PySem.W.callWith_K0 I.kIn hk (run_fnSD (dvs := []) (us := []) (vs := []) F hr hb .nil (hx σ) I .nil h)

theorem call_len {k : Nat} {c : Nat} {args : List PV} {h : Hh} {n : Nat} {z m : List Addr} {H : Hp} {P : PV → Hh → List Addr → Hp → Prop} {E : XK} (hn : ∀ d, T c = some d → d.np = n) (o : Out X.K XC z m H (call T C k c args h) P E) : args.length = n := by
  cases k with
  | zero => exact (show False from o).elim
  | succ k =>
    rw [Ev.call] at o
    cases e : T c with
    | none => rw [e] at o; exact (show False from o).elim
    | some d =>
      rw [e] at o
      simp only at o
      split at o
      · rename_i hl
        rw [hl, hn d e]
      · exact (show False from o).elim

theorem snd_call0 (G : Gd P T C XC k N sc X) (tk : Takes X W) {x : Str} {p pos : Pos} (h1 : okN x = true) (h2 : isGl sc x = true) (h3 : P.fns.contains x = true) :
    PE X (.Call (.Name x p) [] [] pos) (tE X.K XC W fun _ => M.bnd (M.ret []) fun xs => call T C k (code x) xs) := by
  obtain ⟨d1, d2, _⟩ := okN_of h1
  obtain ⟨f, fd, ps, hm, hk, hb, hn, F⟩ := G.facts.fns x h3
  refine (pe_call0SD (E := fun σ => WE W σ) F G.room (gl_of G h2) hm hk hb (passAt tk) d1).to fun σ H Q q => ?_
  obtain ⟨env, h, z, m, rs, rh, o⟩ := q
  have o : Out X.K XC z m H (call T C k (code x) [] h) _ _ := o
  exact ⟨call_len hn o, [], h, z, m, rfl, rh, o⟩
theorem snd_call (G : Gd P T C XC k N sc X) (tk : Takes X W) {x : Str} {e : Expr} {es : List Expr} {rs : Env → M (List PV)} {p pos : Pos} (h1 : okN x = true) (h2 : isGl sc x = true) (h3 : P.fns.contains x = true) (hst : (e :: es).all notStar = true) (hs : PA X (e :: es) (tEs X.K XC W rs)) :
    PE X (.Call (.Name x p) (e :: es) [] pos) (tE X.K XC W fun env => M.bnd (rs env) fun xs => call T C k (code x) xs) := by
  obtain ⟨d1, d2, _⟩ := okN_of h1
  obtain ⟨f, fd, ps, hm, hk, hb, hn, F⟩ := G.facts.fns x h3
  simp only [List.all_cons, Bool.and_eq_true] at hst
  refine (pe_callSD (dvs := []) (E := fun σ => WE W σ) F G.room (gl_of G h2) hm hk hb .nil (passAt tk) hs d1 (starEach_one hst.1) (stars_false _ _ _ hst.2)).to fun σ H Q q => ?_
  obtain ⟨env, h, z, m, rs, rh, out⟩ := q
  refine ⟨env, h, z, m, rs, rh, out.bnd.imp fun xs h1 m1 H1 e1 rh1 o1 us rus => ?_⟩
  show spEv _ _ _ _ (us ++ []) _ _ _
  rw [List.append_nil]
  refine ⟨?_, xs, h1, z, m1, rus, rh1, o1⟩
  rw [← rus.length]
  exact call_len hn o1

/-! ### displays -/
theorem allD_of {K : PySem.W.Frag} {z m : List Addr} {H : Hp} {xs : List PV} {us : List V} {ds : List D} (r : Reps K z m H xs us) (e : allD xs = some ds) : RepDs K z m H ds us := r.ds e
theorem short_of {K : PySem.W.Frag} {z m : List Addr} {H : Hp} {xs : List PV} {us : List V} (r : Reps K z m H xs us) (h : xs.length ≤ LIM) : us.length ≤ sizeLine := by rw [← r.length, ← lim_size]; exact h
theorem snd_tup {es : List Expr} {j : Nat} {rs : Env → M (List PV)} {pos : Pos} (hs : PA X es (tEs X.K XC W rs)) : PE X (.Tuple es j pos) (tE X.K XC W fun env => M.bnd (rs env) fun xs => M.lift fun _ => if xs.length ≤ LIM then some (mkTup xs) else .none) := by
  refine (pe_tup hs).to fun σ H Q q => ?_
  obtain ⟨env, h, z, m, rs, rh, out⟩ := q
  refine ⟨env, h, z, m, rs, rh, out.bnd.imp fun xs h1 m1 H1 e1 rh1 o1 us rus => ?_⟩
  obtain ⟨v, e, p⟩ := o1.lift
  split at e
  · rename_i hl
    cases e
    have hz := short_of rus hl
    refine ⟨hz, fun q hq => ?_⟩
    unfold mkTup at p
    cases ed : allD xs with
    | some ds =>
      rw [ed] at p
      exact Post.tup (fun m' H' x e' r' rr => p m' H' e' r' x rr) rh1 (rus.ds ed) hz hq
    | none =>
      rw [ed] at p
      refine p _ _ (Ext.new hq) (rh1.keepNew hq) _ ?_
      rw [Rep]
      exact ⟨q, us, rfl, .inl ⟨.inl upd_same, rh1.fresh hq⟩, hz, rus.keep (Ext.new hq).keeps⟩
  · cases e
theorem snd_lst {es : List Expr} {rs : Env → M (List PV)} {pos : Pos} (hs : PA X es (tEs X.K XC W rs)) : PE X (.List es pos) (tE X.K XC W fun env => M.bnd (rs env) fun xs => M.lift fun _ => if xs.length ≤ LIM then (allD xs).map fun ds => .d (.list ds) else .none) := by
  refine (pe_lst hs).to fun σ H Q q => ?_
  obtain ⟨env, h, z, m, rs, rh, out⟩ := q
  refine ⟨env, h, z, m, rs, rh, out.bnd.imp fun xs h1 m1 H1 e1 rh1 o1 us rus => ?_⟩
  obtain ⟨v, e, p⟩ := o1.lift
  split at e
  · rename_i hl
    simp only [Option.map_eq_some_iff] at e
    obtain ⟨ds, e, rfl⟩ := e
    have hz := short_of rus hl
    exact ⟨hz, fun q hq => Post.lst (fun m' H' x e' r' rr => p m' H' e' r' x rr) rh1 (rus.ds e) hz hq⟩
  · cases e
/-- a new cell -/
theorem RelH.pushG {K : PySem.W.Frag} {z m : List Addr} {H : Hp} {h : Hh} (r : RelH K z m H h) {p : Addr} (hp : H p = none) {c : Cell} {o : HO} (hL : ∀ xs, c = .lst xs → ∃ us, o = .lst us ∧ us.length ≤ sizeLine ∧ Reps K z m H xs us)
    (hD : ∀ kvs, c = .dic kvs → ∃ ks, o = .dK ks ∧ ks.length ≤ sizeLine ∧ RepK K z m H kvs ks) :
    Ext m H (m ++ [p]) (upd H p o) ∧ RelH K z (m ++ [p]) (upd H p o) (h ++ [c]) := by
  have nm := (r.fresh hp).1
  have e : Ext m H (m ++ [p]) (upd H p o) := ⟨⟨[p], rfl⟩, fun a o h1 h2 _ => by
    have hne := ne_of_none h1 hp
    exact ⟨by rw [upd_ne hne]; exact h1, by simp [h2, hne]⟩⟩
  have last : ∀ (l : Nat) (a : Addr) (c' : Cell), (m ++ [p])[l]? = some a → (h ++ [c])[l]? = some c' → (l < m.length ∧ m[l]? = some a ∧ h[l]? = some c') ∨ (a = p ∧ c' = c) := fun l a c' h1 h2 => by
    by_cases hl1 : l < m.length
    · rw [List.getElem?_append_left hl1] at h1
      rw [List.getElem?_append_left (by rw [← r.len]; exact hl1)] at h2
      exact .inl ⟨hl1, h1, h2⟩
    · rw [List.getElem?_append_right (by omega)] at h1
      rw [List.getElem?_append_right (by rw [← r.len]; omega)] at h2
      have e0 : l - m.length = 0 := by
        cases hq : l - m.length with
        | zero => rfl
        | succ n => rw [hq] at h1; simp at h1
      rw [e0] at h1
      rw [← r.len, e0] at h2
      simp only [List.getElem?_cons_zero, Option.some.injEq] at h1 h2
      exact .inr ⟨h1.symm, h2.symm⟩
  refine ⟨e, ?_, ?_, ?_, ?_, ?_, tabs_new r.tb hp⟩
  · rw [List.nodup_append]
    refine ⟨r.nd, by simp, fun a ha b hb => ?_⟩
    simp only [List.mem_singleton] at hb
    subst hb
    exact fun q => nm (q ▸ ha)
  · simp [r.len]
  · intro l a ys h1 h2
    rcases last l a _ h1 h2 with ⟨_, h1, h2⟩ | ⟨rfl, hc⟩
    · obtain ⟨vs, q1, q2, q3⟩ := r.cell l a ys h1 h2
      exact ⟨vs, by rw [upd_ne (ne_of_none q1 hp)]; exact q1, q2, q3.keep e.keeps⟩
    · obtain ⟨us, rfl, q2, q3⟩ := hL ys hc.symm
      exact ⟨us, upd_same, q2, q3.keep e.keeps⟩
  · intro l a ys h1 h2
    rcases last l a _ h1 h2 with ⟨_, h1, h2⟩ | ⟨rfl, hc⟩
    · obtain ⟨vs, q1, q2, q3⟩ := r.dcell l a ys h1 h2
      exact ⟨vs, by rw [upd_ne (ne_of_none q1 hp)]; exact q1, q2, q3.keep e.keeps⟩
    · obtain ⟨us, rfl, q2, q3⟩ := hD ys hc.symm
      exact ⟨us, upd_same, q2, q3.keep e.keeps⟩
  · intro a ha
    obtain ⟨⟨o, q⟩, n⟩ := r.zt a ha
    have hne := ne_of_none q hp
    exact ⟨⟨o, by rw [upd_ne hne]; exact q⟩, by simp [n, hne]⟩
theorem RelH.push {K : PySem.W.Frag} {z m : List Addr} {H : Hp} {h : Hh} (r : RelH K z m H h) {p : Addr} (hp : H p = none) {xs : List PV} {us : List V} (rx : Reps K z m H xs us) (hl : us.length ≤ sizeLine) :
    Ext m H (m ++ [p]) (upd H p (.lst us)) ∧ RelH K z (m ++ [p]) (upd H p (.lst us)) (h ++ [.lst xs]) :=
  r.pushG hp (fun ys e => by cases e; exact ⟨us, rfl, hl, rx⟩) fun ys e => by cases e
theorem RelH.pushD {K : PySem.W.Frag} {z m : List Addr} {H : Hp} {h : Hh} (r : RelH K z m H h) {p : Addr} (hp : H p = none) {kvs : List (D × PV)} {ks : List (L2.Key × V)} (rx : RepK K z m H kvs ks) (hl : ks.length ≤ sizeLine) :
    Ext m H (m ++ [p]) (upd H p (.dK ks)) ∧ RelH K z (m ++ [p]) (upd H p (.dK ks)) (h ++ [.dic kvs]) :=
  r.pushG hp (fun ys e => by cases e) fun ys e => by cases e; exact ⟨ks, rfl, hl, rx⟩
theorem snd_new {es : List Expr} {rs : Env → M (List PV)} {pos : Pos} (hs : PA X es (tEs X.K XC W rs)) : PE X (.List es pos) (tE X.K XC W fun env => M.bnd (rs env) fun xs => fun h => if xs.length ≤ LIM then .ok (.ref h.length) (h ++ [.lst xs]) else .stuck) := by
  refine (pe_lst hs).to fun σ H Q q => ?_
  obtain ⟨env, h, z, m, rs, rh, out⟩ := q
  refine ⟨env, h, z, m, rs, rh, out.bnd.imp fun xs h1 m1 H1 e1 rh1 o1 us rus => ?_⟩
  by_cases hl : xs.length ≤ LIM
  · simp only [hl, if_true] at o1
    have hz := short_of rus hl
    refine ⟨hz, fun q hq => ?_⟩
    obtain ⟨e, r⟩ := rh1.push hq rus hz
    exact o1 _ _ e r _ ⟨q, rfl, by rw [← rh1.len]; simp⟩
  · simp only [hl, if_false] at o1
    exact o1.elim

/-- a + b, changed in place later on -/
theorem snd_badd {a b : Expr} {ra rb : Env → M PV} {pos : Pos} (ha : PE X a (tE X.K XC W ra)) (hb : PE X b (tE X.K XC W rb)) :
    PE X (.BinOp a .Add b pos) (tE X.K XC W fun env => M.bnd (ra env) fun x => M.bnd (rb env) fun y => newCat x y) := by
  refine (pe_op op_cat ha hb).to fun σ H Q q => ?_
  obtain ⟨env, h, z, m, rs, rh, out⟩ := q
  refine ⟨env, h, z, m, rs, rh, out.bnd.imp fun x h1 m1 H1 e1 rh1 o1 vx rx => ?_⟩
  refine ⟨env, h1, z, m1, rs.keep e1.keeps, rh1, o1.bnd.imp fun y h2 m2 H2 e2 rh2 o2 vy ry => ?_⟩
  unfold newCat at o2
  split at o2
  · rename_i s t hs ht
    split at o2
    · rename_i hl
      obtain ⟨l, us, ex, q1, _, q2⟩ := deref_mut rh2 (rx.keep e2.keeps) hs
      obtain ⟨l2, vs, ey, q3, _, q4⟩ := deref_mut rh2 ry ht
      have hz : us.length + vs.length ≤ sizeLine := by rw [← q2.length, ← q4.length, ← lim_size]; exact hl
      refine ⟨l, l2, us, vs, ex, ey, q1, q3, hz, fun q hq => ?_⟩
      obtain ⟨e, r⟩ := rh2.push hq (q2.append q4).reps (by rw [List.length_append]; exact hz)
      exact o2 _ _ e r _ ⟨q, rfl, by rw [← rh2.len]; simp⟩
    · exact (show False from o2).elim
  · exact (show False from o2).elim

/-! ### built-ins by their names -/
def CBl (X : Cx) (f : Hh → List PV → Option PV) : List V → Hp → VK → Prop := fun us H Q => ∃ xs h z m v, Reps X.K z m H xs us ∧ RelH X.K z m H h ∧ f h xs = some v ∧ Post X.K z m H Q v h
theorem snd_callR {f : Value} {g : Hh → List PV → Option PV} {x : Str} {e : Expr} {es : List Expr} {rs : Env → M (List PV)} {p pos : Pos} (hp : PE X (.Call (.Name x p) (e :: es) [] pos) (tCB (CBl X g) (tEs X.K XC W rs))) :
    PE X (.Call (.Name x p) (e :: es) [] pos) (tE X.K XC W fun env => M.bnd (rs env) fun xs => M.lift fun h => g h xs) := by
  refine hp.to fun σ H Q q => ?_
  obtain ⟨env, h, z, m, rs, rh, out⟩ := q
  refine ⟨env, h, z, m, rs, rh, out.bnd.imp fun xs h1 m1 H1 e1 rh1 o1 us rus => ?_⟩
  obtain ⟨v, e, p⟩ := o1.lift
  exact ⟨xs, h1, z, m1, v, rus, rh1, e, fun m' H' x e' r' rr => p m' H' e' r' x rr⟩
theorem reps1 {K : PySem.W.Frag} {z m : List Addr} {H : Hp} {x : PV} {us : List V} (r : Reps K z m H [x] us) : ∃ u, us = [u] ∧ Rep K z m H x u := by
  obtain ⟨u, t, rfl, h1, h2⟩ := r
  rw [show t = [] from h2]
  exact ⟨u, rfl, h1⟩
theorem reps2 {K : PySem.W.Frag} {z m : List Addr} {H : Hp} {x y : PV} {us : List V} (r : Reps K z m H [x, y] us) : ∃ u v, us = [u, v] ∧ Rep K z m H x u ∧ Rep K z m H y v := by
  obtain ⟨u, t, rfl, h1, h2⟩ := r
  obtain ⟨v, rfl, h3⟩ := reps1 h2
  exact ⟨u, v, rfl, h1, h3⟩
theorem bools_of {K : PySem.W.Frag} {z m : List Addr} {H : Hp} : ∀ {xs : List D} {us : List V} {bs : List Bool}, RepDs K z m H xs us → boolsOf xs = some bs → us = bs.map V.bl
  | [], _, _, r, e => by rw [RepDs] at r; simp [boolsOf] at e; subst e; exact r
  | .bool b :: xs, _, _, r, e => by
    rw [RepDs] at r
    obtain ⟨u, t, rfl, h1, h2⟩ := r
    simp only [boolsOf, Option.map_eq_some_iff] at e
    obtain ⟨cs, e, rfl⟩ := e
    rw [show u = .bl b by simpa [RepD] using h1, bools_of h2 e]; rfl
  | .none :: _, _, _, _, e => by simp [boolsOf] at e
  | .int _ :: _, _, _, _, e => by simp [boolsOf] at e
  | .str _ :: _, _, _, _, e => by simp [boolsOf] at e
  | .list _ :: _, _, _, _, e => by simp [boolsOf] at e
  | .tup _ :: _, _, _, _, e => by simp [boolsOf] at e
theorem ints_of {K : PySem.W.Frag} {z m : List Addr} {H : Hp} : ∀ {xs : List D} {us : List V} {bs : List Int}, RepDs K z m H xs us → intsOf xs = some bs → us = bs.map V.int
  | [], _, _, r, e => by rw [RepDs] at r; simp [intsOf] at e; subst e; exact r
  | .int b :: xs, _, _, r, e => by
    rw [RepDs] at r
    obtain ⟨u, t, rfl, h1, h2⟩ := r
    simp only [intsOf, Option.map_eq_some_iff] at e
    obtain ⟨cs, e, rfl⟩ := e
    rw [show u = .int b by simpa [RepD] using h1, ints_of h2 e]; rfl
  | .none :: _, _, _, _, e => by simp [intsOf] at e
  | .bool _ :: _, _, _, _, e => by simp [intsOf] at e
  | .str _ :: _, _, _, _, e => by simp [intsOf] at e
  | .list _ :: _, _, _, _, e => by simp [intsOf] at e
  | .tup _ :: _, _, _, _, e => by simp [intsOf] at e
theorem maxL_eq : ∀ (xs : List Int) (m k : Int), k ∈ m :: xs → (∀ y ∈ m :: xs, y ≤ k) → k = maxL m xs
  | [], m, k, h1, h2 => by simpa [maxL] using h1
  | x :: xs, m, k, h1, h2 => by
    rw [maxL]
    refine maxL_eq xs _ k ?_ ?_
    · simp only [List.mem_cons] at h1 ⊢
      have hm := h2 m (by simp)
      have hx := h2 x (by simp)
      rcases h1 with h1 | h1 | h1
      · split
        · left; omega
        · exact .inl h1
      · split
        · exact .inl h1
        · left; omega
      · exact .inr h1
    · intro y hy
      simp only [List.mem_cons] at hy
      rcases hy with hy | hy
      · subst hy
        split
        · exact h2 x (by simp)
        · exact h2 m (by simp)
      · exact h2 y (by simp [hy])
theorem minL_eq : ∀ (xs : List Int) (m k : Int), k ∈ m :: xs → (∀ y ∈ m :: xs, k ≤ y) → k = minL m xs
  | [], m, k, h1, h2 => by simpa [minL] using h1
  | x :: xs, m, k, h1, h2 => by
    rw [minL]
    refine minL_eq xs _ k ?_ ?_
    · simp only [List.mem_cons] at h1 ⊢
      have hm := h2 m (by simp)
      have hx := h2 x (by simp)
      rcases h1 with h1 | h1 | h1
      · split
        · left; omega
        · exact .inl h1
      · split
        · exact .inl h1
        · left; omega
      · exact .inr h1
    · intro y hy
      simp only [List.mem_cons] at hy
      rcases hy with hy | hy
      · subst hy
        split
        · exact h2 x (by simp)
        · exact h2 m (by simp)
      · exact h2 y (by simp [hy])
theorem one_of {f : PV → Option PV} {xs : List PV} {w : PV} (e : one f xs = some w) : ∃ x, xs = [x] ∧ f x = some w := by
  match xs, e with
  | [x], e => exact ⟨x, rfl, e⟩
  | [], e => cases e
  | _ :: _ :: _, e => cases e
theorem two_of {f : PV → PV → Option PV} {xs : List PV} {w : PV} (e : two f xs = some w) : ∃ x y, xs = [x, y] ∧ f x y = some w := by
  match xs, e with
  | [x, y], e => exact ⟨x, y, rfl, e⟩
  | [], e => cases e
  | [_], e => cases e
  | _ :: _ :: _ :: _, e => cases e
theorem bl_len : CallR X (.builtin "len") (CBl X fun h xs => blt h .len xs) := by
  intro pins s σ H us vs Q I rv q
  obtain ⟨xs, h, z, m, w, r, rh, e0, p⟩ := q
  obtain ⟨x, rfl, e⟩ := one_of e0
  obtain ⟨u, rfl, ru⟩ := reps1 r
  clear e0
  cases x with
  | scr ys =>
    cases e
    obtain ⟨a, us, rfl, h2, h3, h4⟩ := ru
    refine call_len_seq pins s σ H _ vs Q I rv ⟨a, us, rfl, .inl (h2.elim (fun q => .inl q.1) .inr), ?_⟩
    rw [← h4.length]
    exact p.here rh rfl
  | dict _ => obtain ⟨_, _, f⟩ := ru; exact f.elim
  | ref l =>
    simp only [lenOp] at e
    rw [Rep] at ru
    obtain ⟨a, rfl, ha⟩ := ru
    cases hc : h[l]? with
    | none => rw [hc] at e; simp at e
    | some c =>
      cases c with
      | lst zs =>
        rw [hc] at e
        cases e
        obtain ⟨us, h1, h2, h3⟩ := rh.cell l a _ ha hc
        refine call_len_seq pins s σ H _ vs Q I rv ⟨a, us, rfl, .inl (.inl (.inl h1)), ?_⟩
        rw [← h3.length]
        exact p.here rh rfl
      | dic kvs =>
        rw [hc] at e
        cases e
        obtain ⟨ks, h1, h2, h3⟩ := rh.dcell l a _ ha hc
        refine L2.call_lenD pins s σ H _ vs Q I rv ⟨a, ks, rfl, h1, ?_⟩
        rw [← h3.length]
        exact p.here rh rfl
  | tp ys =>
    cases e
    rw [Rep] at ru
    obtain ⟨a, us, rfl, h2, h3, h4⟩ := ru
    refine call_len_seq pins s σ H _ vs Q I rv ⟨a, us, rfl, .inr h2.sq, ?_⟩
    rw [← h4.length]
    exact p.here rh rfl
  | d y =>
    cases y with
    | str t =>
      simp only [lenOp] at e
      split at e
      · rename_i hl
        cases e
        rw [ru.str] at rv
        exact call_len_str pins s σ H _ vs Q I rv ⟨⟨t.toArray⟩, rfl, by rw [← lim_size]; simpa [Str.length] using hl, p.here rh (by simp [Str.length, Rep, RepD])⟩
      · cases e
    | list ys =>
      cases e
      obtain ⟨a, us, rfl, h2, h3, h4⟩ := ru.list
      refine call_len_seq pins s σ H _ vs Q I rv ⟨a, us, rfl, .inl h2.sq, ?_⟩
      rw [← h4.length]
      exact p.here rh rfl
    | tup ys =>
      cases e
      obtain ⟨a, us, rfl, h2, h3, h4⟩ := ru.tup
      refine call_len_seq pins s σ H _ vs Q I rv ⟨a, us, rfl, .inr h2.sq, ?_⟩
      rw [← h4.length]
      exact p.here rh rfl
    | _ => cases e
theorem onList_of {f : List D → Option D} {h : Hh} {v w : PV} (e : onList f h v = some w) : ∃ xs d, deref h v = some (.list xs) ∧ f xs = some d ∧ w = .d d := by
  unfold onList at e
  split at e
  · rename_i xs e1
    simp only [Option.map_eq_some_iff] at e
    obtain ⟨d, e2, rfl⟩ := e
    exact ⟨xs, d, e1, e2, rfl⟩
  · cases e
theorem bl_onList {f : Value} {g : List D → Option D} {r : List V → Hp → VK → Prop} (c : CallR X f r)
    (hr : ∀ (z m : List Addr) (H : Hp) (a : Addr) (us : List V) (xs : List D) (d : D) (Q : VK), SqL X.K H a us → RepDs X.K z m H xs us → g xs = some d → (∀ y, RepD X.K z m H d y → Q y H) → r [.ref a] H Q) : CallR X f (CBl X fun h xs => one (onList g h) xs) := by
  intro pins s σ H us vs Q I rv q
  obtain ⟨xs, h, z, m, w, r', rh, e0, p⟩ := q
  obtain ⟨x, rfl, e⟩ := one_of e0
  clear e0
  obtain ⟨ys, d, e1, e2, rfl⟩ := onList_of e
  obtain ⟨u, rfl, ru⟩ := reps1 r'
  obtain ⟨a, vs', rfl, hs, hz, rd⟩ := deref_list rh ru e1
  exact c pins s σ H _ vs Q I rv (hr z m H a vs' ys d Q hs rd e2 fun y ry => p.here rh ry)
theorem bl_all (hc : X.calm = true) : CallR X (.builtin "all") (CBl X fun h xs => blt h .all xs) := bl_onList (cr_all hc) fun z m H a us xs d Q hs rd e q => by
  simp only [Option.map_eq_some_iff] at e
  obtain ⟨bs, e, rfl⟩ := e
  rw [bools_of rd e] at hs
  exact ⟨a, bs, rfl, hs, q _ rfl⟩
theorem bl_any (hc : X.calm = true) : CallR X (.builtin "any") (CBl X fun h xs => blt h .any xs) := bl_onList (cr_any hc) fun z m H a us xs d Q hs rd e q => by
  simp only [Option.map_eq_some_iff] at e
  obtain ⟨bs, e, rfl⟩ := e
  rw [bools_of rd e] at hs
  exact ⟨a, bs, rfl, hs, q _ rfl⟩
theorem bl_sum (hc : X.calm = true) : CallR X (.builtin "sum") (CBl X fun h xs => blt h .sum xs) := bl_onList (cr_sum hc) fun z m H a us xs d Q hs rd e q => by
  simp only [Option.map_eq_some_iff] at e
  obtain ⟨bs, e, rfl⟩ := e
  rw [ints_of rd e] at hs
  exact ⟨a, bs, rfl, hs, q _ rfl⟩
theorem onSeq_of {f : List D → Option D} {h : Hh} {v w : PV} (e : onSeq f h v = some w) : (∃ xs d, deref h v = some (.list xs) ∧ f xs = some d ∧ w = .d d) ∨ ∃ xs d, deref h v = some (.tup xs) ∧ f xs = some d ∧ w = .d d := by
  unfold onSeq at e
  split at e
  · rename_i xs e1
    obtain ⟨d, e2, rfl⟩ := Option.map_eq_some_iff.mp e
    exact .inl ⟨xs, d, e1, e2, rfl⟩
  · rename_i xs e1
    obtain ⟨d, e2, rfl⟩ := Option.map_eq_some_iff.mp e
    exact .inr ⟨xs, d, e1, e2, rfl⟩
  · cases e
theorem bl_onSeq {f : Value} {g : List D → Option D} {r : List V → Hp → VK → Prop} (c : CallR X f r)
    (hr : ∀ (z m : List Addr) (H : Hp) (a : Addr) (us : List V) (xs : List D) (d : D) (Q : VK), SqL X.K H a us → RepDs X.K z m H xs us → g xs = some d → (∀ y, RepD X.K z m H d y → Q y H) → r [.ref a] H Q)
    (ht : ∀ (pins : List (Addr × Obj)) (s : Shared) (σ : L2.St) (z m : List Addr) (H : Hp) (a : Addr) (us : List V) (xs : List D) (d : D) (Q : VK), Inv X pins σ H s → SqT X.K H a us → RepDs X.K z m H xs us → g xs = some d → (∀ y, RepD X.K z m H d y → Q y H) → wpAny (model X.prog X.w) X.A (PySem.call f [.ref a]) (EP X pins σ Q) X.xe s) :
    CallR X f (CBl X fun h xs => one (onSeq g h) xs) := by
  intro pins s σ H us vs Q I rv q
  obtain ⟨xs, h, z, m, w, r', rh, e0, p⟩ := q
  obtain ⟨x, rfl, e⟩ := one_of e0
  clear e0
  rcases onSeq_of e with ⟨ys, d, e1, e2, rfl⟩ | ⟨ys, d, e1, e2, rfl⟩
  · obtain ⟨u, rfl, ru⟩ := reps1 r'
    obtain ⟨a, vs', rfl, hs, hz, rd⟩ := deref_list rh ru e1
    exact c pins s σ H _ vs Q I rv (hr z m H a vs' ys d Q hs rd e2 fun y ry => p.here rh ry)
  · obtain ⟨u, rfl, ru⟩ := reps1 r'
    obtain ⟨a, vs', rfl, hs, hz, rd⟩ := deref_tup rh ru e1
    obtain ⟨u', rfl, ru'⟩ := vals1 rv
    cases ru'
    exact ht pins s σ z m H a vs' ys d Q I hs.sq rd e2 fun y ry => p.here rh ry
theorem intsOf_map : ∀ {xs : List D} {ns : List Int}, intsOf xs = some ns → xs = ns.map D.int
  | [], _, e => by simp [intsOf] at e; subst e; rfl
  | .int b :: xs, _, e => by
    simp only [intsOf, Option.map_eq_some_iff] at e
    obtain ⟨cs, e, rfl⟩ := e
    rw [intsOf_map e]; rfl
  | .none :: _, _, e => by simp [intsOf] at e
  | .bool _ :: _, _, e => by simp [intsOf] at e
  | .str _ :: _, _, e => by simp [intsOf] at e
  | .list _ :: _, _, e => by simp [intsOf] at e
  | .tup _ :: _, _, e => by simp [intsOf] at e
theorem pys_ints (ns : List Int) : D.pys (ns.map D.int) = ns.map PyData.int := by
  rw [D.pys_map, List.map_map]
  rfl
theorem maxL_fold : ∀ (ns : List Int) (n : Int), ns.foldl max n = maxL n ns
  | [], _ => rfl
  | x :: ns, n => by
    rw [List.foldl_cons, maxL, maxL_fold ns]
    congr 1
    rw [Int.max_def]
    split <;> split <;> omega
theorem minL_fold : ∀ (ns : List Int) (n : Int), ns.foldl min n = minL n ns
  | [], _ => rfl
  | x :: ns, n => by
    rw [List.foldl_cons, minL, minL_fold ns]
    congr 1
    rw [Int.min_def]
    split <;> split <;> omega
theorem alike_intsAll (n : Int) (ns : List Int) : PySem.W.AlikeAll (PyData.int n :: ns.map PyData.int) := by
  have h : ∀ x ∈ (PyData.int n :: ns.map PyData.int), ∃ i, x = PyData.int i := fun x hx => by
    rcases List.mem_cons.mp hx with rfl | hx
    · exact ⟨n, rfl⟩
    · obtain ⟨i, _, rfl⟩ := List.mem_map.mp hx
      exact ⟨i, rfl⟩
  refine ⟨fun x hx y hy => ?_, fun x hx => ?_⟩
  · obtain ⟨i, rfl⟩ := h x hx
    obtain ⟨j, rfl⟩ := h y hy
    rfl
  · obtain ⟨i, rfl⟩ := h x hx
    simp
theorem depth_intsAll (n : Int) (ns : List Int) : PyData.depthAll (PyData.int n :: ns.map PyData.int) = 0 := by
  have : ∀ ns : List Int, PyData.depthAll (ns.map PyData.int) = 0 := fun ns => by
    induction ns with
    | nil => rfl
    | cons x xs ih => rw [List.map_cons, PyData.depthAll, ih]; rfl
  exact this (n :: ns)
theorem bl_max (hc : X.calm = true) (hrm : Room k X.A) : CallR X (.builtin "max") (CBl X fun h xs => blt h .max xs) := bl_onSeq (cr_max hc) (fun z m H a us xs d Q hs rd e q => by
  unfold maxOf at e
  split at e
  · rename_i i is e1
    cases e
    rw [ints_of rd e1] at hs
    exact ⟨a, i :: is, rfl, hs, by simp, fun k h1 h2 => q _ (by rw [maxL_eq is i k h1 h2]; rfl)⟩
  · cases e) fun pins s σ z m H a us xs d Q I hs rd e q => by
  unfold maxOf at e
  split at e
  · rename_i i is e1
    cases e
    obtain ⟨its, rv, hl, _⟩ := I.tuple hs
    obtain ⟨as, h4⟩ := Dp.readsAll I _ _ its (RepDs.dp rd) rv
    rw [intsOf_map e1, pys_ints] at h4
    refine PySem.W.max_tuple_data (I.ok.hd hc) hl (x := .int i) (xs := is.map PyData.int) h4 (alike_intsAll i is) (by rw [depth_intsAll]; have := units_of hrm; omega) fun j v h' tk bs _ r kp => ?_
    rw [PySem.W.maxD_ints, maxL_fold] at r
    cases r
    exact ⟨.int _, H, I.kept kp, ⟨_, rfl⟩, q _ rfl⟩
  · cases e
theorem bl_min (hc : X.calm = true) (hrm : Room k X.A) : CallR X (.builtin "min") (CBl X fun h xs => blt h .min xs) := bl_onSeq (cr_min hc) (fun z m H a us xs d Q hs rd e q => by
  unfold minOf at e
  split at e
  · rename_i i is e1
    cases e
    rw [ints_of rd e1] at hs
    exact ⟨a, i :: is, rfl, hs, by simp, fun k h1 h2 => q _ (by rw [minL_eq is i k h1 h2]; rfl)⟩
  · cases e) fun pins s σ z m H a us xs d Q I hs rd e q => by
  unfold minOf at e
  split at e
  · rename_i i is e1
    cases e
    obtain ⟨its, rv, hl, _⟩ := I.tuple hs
    obtain ⟨as, h4⟩ := Dp.readsAll I _ _ its (RepDs.dp rd) rv
    rw [intsOf_map e1, pys_ints] at h4
    refine PySem.W.min_tuple_data (I.ok.hd hc) hl (x := .int i) (xs := is.map PyData.int) h4 (alike_intsAll i is) (by rw [depth_intsAll]; have := units_of hrm; omega) fun j v h' tk bs _ r kp => ?_
    rw [PySem.W.minD_ints, minL_fold] at r
    cases r
    exact ⟨.int _, H, I.kept kp, ⟨_, rfl⟩, q _ rfl⟩
  · cases e
theorem bl_two {f : Value} {g : Int → Int → Int} (c : CallR X f (fun xs H Q => ∃ i j, xs = [.int i, .int j] ∧ Q (.int (g i j)) H)) : CallR X f (CBl X fun h xs => two (intOp fun i j => some (g i j)) xs) := by
  intro pins s σ H us vs Q I rv q
  obtain ⟨xs, h, z, m, w, r', rh, e0, p⟩ := q
  obtain ⟨x, y, rfl, e⟩ := two_of e0
  clear e0
  unfold intOp at e
  split at e
  · cases e
    obtain ⟨u, v, rfl, r1, r2⟩ := reps2 r'
    rw [r1.int, r2.int] at rv
    exact c pins s σ H _ vs Q I rv ⟨_, _, rfl, p.here rh rfl⟩
  · cases e
theorem bl_max2 (hc : X.calm = true) : CallR X (.builtin "max") (CBl X fun h xs => blt h .max2 xs) := bl_two (call_max2 hc)
theorem bl_min2 (hc : X.calm = true) : CallR X (.builtin "min") (CBl X fun h xs => blt h .min2 xs) := bl_two (call_min2 hc)
theorem bl_int : CallR X (.type "int") (CBl X fun h xs => blt h .int xs) := by
  intro pins s σ H us vs Q I rv q
  obtain ⟨xs, h, z, m, w, r', rh, e0, p⟩ := q
  obtain ⟨x, rfl, e⟩ := one_of e0
  clear e0
  obtain ⟨u, rfl, ru⟩ := reps1 r'
  unfold intOf at e
  split at e
  · cases e
    rw [ru.int] at rv
    exact call_int1 pins s σ H _ vs Q I rv (.inl ⟨_, rfl, p.here rh rfl⟩)
  · cases e
    rw [show u = .bl _ by simpa [Rep, RepD] using ru] at rv
    exact call_int1 pins s σ H _ vs Q I rv (.inr ⟨_, rfl, p.here rh rfl⟩)
  · cases e
theorem bl_ord : CallR X (.builtin "ord") (CBl X fun h xs => blt h .ord xs) := by
  intro pins s σ H us vs Q I rv q
  obtain ⟨xs, h, z, m, w, r', rh, e0, p⟩ := q
  obtain ⟨x, rfl, e⟩ := one_of e0
  clear e0
  obtain ⟨u, rfl, ru⟩ := reps1 r'
  unfold ordOf at e
  split at e
  · cases e
    rw [ru.str] at rv
    exact call_ord pins s σ H _ vs Q I rv ⟨_, rfl, rfl, p.here rh rfl⟩
  · cases e
theorem bl_abs : CallR X (.builtin "abs") (CBl X fun h xs => blt h .abs xs) := by
  intro pins s σ H us vs Q I rv q
  obtain ⟨xs, h, z, m, w, r', rh, e0, p⟩ := q
  obtain ⟨x, rfl, e⟩ := one_of e0
  clear e0
  obtain ⟨u, rfl, ru⟩ := reps1 r'
  unfold absOf at e
  split at e
  · cases e
    rw [ru.int] at rv
    exact call_abs pins s σ H _ vs Q I rv ⟨_, rfl, p.here rh rfl⟩
  · cases e
theorem bl_tuple : CallR X (.type "tuple") (CBl X fun h xs => blt h .tuple xs) := by
  intro pins s σ H us vs Q I rv q
  obtain ⟨xs, h, z, m, w, r', rh, e0, p⟩ := q
  obtain ⟨x, rfl, e⟩ := one_of e0
  clear e0
  obtain ⟨u, rfl, ru⟩ := reps1 r'
  unfold tupleOp at e
  split at e
  · rename_i ys e1
    cases e
    obtain ⟨a, vs', rfl, hs, hz, rd⟩ := deref_list rh ru e1
    exact call_tuple_of pins s σ H _ vs Q I rv ⟨a, vs', rfl, .inl ⟨hs, fun q hq => p.tup rh rd hz hq⟩⟩
  · rename_i ys e1
    cases e
    obtain ⟨a, vs', rfl, hs, hz, rd⟩ := deref_tup rh ru e1
    exact call_tuple_of pins s σ H _ vs Q I rv ⟨a, vs', rfl, .inr ⟨hs.sq, p.here rh (by rw [Rep, RepD]; exact ⟨a, vs', rfl, hs, hz, rd⟩)⟩⟩
  · cases e
theorem repDs_chars {K : PySem.W.Frag} {z m : List Addr} {H : Hp} : ∀ s : List Nat, RepDs K z m H (s.map fun c => D.str [c]) (s.map fun c => V.str ⟨#[c]⟩)
  | [] => by rw [List.map_nil, List.map_nil, RepDs]
  | c :: s => by
    rw [List.map_cons, List.map_cons, RepDs]
    exact ⟨_, _, rfl, by rw [RepD], repDs_chars s⟩
theorem keys_rep {K : PySem.W.Frag} {z m : List Addr} {H : Hp} : ∀ {kvs : List (D × PV)} {ks : List (L2.Key × V)}, RepK K z m H kvs ks → RepDs K z m H (kvs.map (·.1)) (ks.map fun kv => kV kv.1)
  | [], _, h => by
    rw [show _ = [] from h]
    rw [List.map_nil, List.map_nil, RepDs]
  | (k, v) :: r, _, h => by
    obtain ⟨key, u, ks', rfl, rfl, h3, h4⟩ := h
    rw [List.map_cons, List.map_cons, RepDs]
    refine ⟨_, _, rfl, ?_, keys_rep h4⟩
    cases key with
    | inl i => simp only [keyD, kV, RepD]
    | inr t => simp only [keyD, kV, RepD]
theorem deref_str {h : Hh} {x : PV} {s : List Nat} (e : deref h x = some (.str s)) : x = .d (.str s) := by
  cases x with
  | d d => simp [deref] at e; rw [e]
  | ref l =>
    simp only [deref] at e
    split at e
    · rename_i xs _
      cases q : allD xs with
      | none => rw [q] at e; cases e
      | some ds => rw [q] at e; cases e
    · cases e
  | _ => simp [deref] at e
theorem bl_list (hc : X.calm = true) : CallR X (.type "list") (CBl X fun h xs => blt h .list xs) := by
  intro pins s σ H us vs Q I rv q
  obtain ⟨xs, h, z, m, w, r', rh, e0, p⟩ := q
  obtain ⟨x, rfl, e⟩ := one_of e0
  clear e0
  obtain ⟨u, rfl, ru⟩ := reps1 r'
  have gen : ∀ ys, (deref h x = some (.list ys) ∨ deref h x = some (.tup ys)) → w = .d (.list ys) → wpAny (model X.prog X.w) X.A (PySem.call (.type "list") vs) (EP X pins σ Q) X.xe s := by
    rintro ys (e1 | e1) rfl
    · obtain ⟨a, vs', rfl, hs, hz, rd⟩ := deref_list rh ru e1
      exact call_list_of pins s σ H _ vs Q I rv ⟨a, vs', rfl, .inl hs, fun q hq => p.lst rh rd hz hq⟩
    · obtain ⟨a, vs', rfl, hs, hz, rd⟩ := deref_tup rh ru e1
      exact call_list_of pins s σ H _ vs Q I rv ⟨a, vs', rfl, .inr hs.sq, fun q hq => p.lst rh rd hz hq⟩
  unfold listOp at e
  split at e
  · cases e
    obtain ⟨a, us, rfl, h2, h3, h4⟩ := ru
    exact call_list_of pins s σ H _ vs Q I rv ⟨a, us, rfl, .inl (h2.elim (fun q => .inl q.1) .inr), fun q hq => p.lst rh h4 h3 hq⟩
  · split at e
    · rename_i kvs hd
      cases e
      obtain ⟨ad, ks, rfl, hu, hz, rk⟩ := dicAt_rep rh ru hd
      exact L2.call_listD hc pins s σ H _ vs Q I rv ⟨ad, ks, rfl, .inl hu, fun q hq => p.lst rh (keys_rep rk) (by rw [List.length_map]; exact hz) hq⟩
    split at e
    · rename_i ys e1
      exact gen ys (.inl e1) (Option.some.inj e).symm
    · rename_i ys e1
      exact gen ys (.inr e1) (Option.some.inj e).symm
    · rename_i s1 e1
      split at e
      · rename_i hl
        cases e
        have ex := deref_str e1
        subst ex
        have hx := ru.str
        subst hx
        have hz : (⟨s1.toArray⟩ : Str).cps.size ≤ sizeLine := by rw [← lim_size]; simpa using hl
        refine call_list_str hc pins s σ H _ vs Q I rv ⟨_, rfl, hz, fun q hq => p.lst rh (repDs_chars s1) (by rw [List.length_map]; simpa using hz) hq⟩
      · cases e
    · cases e
end
end Ev
end

section
/-! EvSort: sorted(..). -/
set_option autoImplicit false
set_option linter.all false
set_option Elab.async false
set_option maxRecDepth 100000
set_option maxHeartbeats 2000000
namespace Ev
open PySem L2 PyProof.Rows PySem.W PySem.SeqAt

mutual
theorem toks_py : ∀ x : D, keyToks x.py = x.toks
  | .none => rfl
  | .bool _ => rfl
  | .int _ => rfl
  | .str s => by simp [D.py, keyToks, D.toks]
  | .list xs => by rw [D.py, keyToks, D.toks, toksAll_py xs]
  | .tup xs => by rw [D.py, keyToks, D.toks, toksAll_py xs]
theorem toksAll_py : ∀ xs : List D, keyToksAll (D.pys xs) = D.toksAll xs
  | [] => rfl
  | x :: xs => by rw [D.pys, keyToksAll, D.toksAll, toks_py x, toksAll_py xs]
end
theorem ltTok_eq : ∀ a b : Int ⊕ List Nat, itemLt a b = ltTok a b
  | .inl _, .inl _ => rfl
  | .inl _, .inr _ => rfl
  | .inr _, .inl _ => rfl
  | .inr a, .inr b => by
    show PyProof.Rows.strKind.blt a b = ltStr a b
    rw [ltStr_iff]
theorem ltToks_eq : ∀ a b : List (Int ⊕ List Nat), PyProof.Rows.lexLt itemOrd a b = ltToks a b
  | [], [] => rfl
  | [], _ :: _ => rfl
  | _ :: _, [] => rfl
  | x :: r, y :: t => by
    show (itemLt x y || (!itemLt y x && PyProof.Rows.lexLt itemOrd r t)) = _
    rw [ltTok_eq, ltTok_eq, ltToks_eq r t, ltToks]
mutual
theorem like_py : ∀ x y : D, alike x.py y.py = D.like x y
  | .none, y => by cases y <;> simp [D.py, alike, D.like]
  | .bool _, y => by cases y <;> simp [D.py, alike, D.like]
  | .int _, y => by cases y <;> simp [D.py, alike, D.like]
  | .str _, y => by cases y <;> simp [D.py, alike, D.like]
  | .list xs, y => by
    cases y with
    | list ys => simp only [D.py, alike, D.like]; exact likes_py xs ys
    | _ => simp [D.py, alike, D.like]
  | .tup xs, y => by
    cases y with
    | tup ys => simp only [D.py, alike, D.like]; exact likes_py xs ys
    | _ => simp [D.py, alike, D.like]
theorem likes_py : ∀ xs ys : List D, alikeAll (D.pys xs) (D.pys ys) = D.likes xs ys
  | [], _ => by simp [D.pys, alikeAll, D.likes]
  | _ :: _, [] => by simp [D.pys, alikeAll, D.likes]
  | x :: xs, y :: ys => by simp only [D.pys, alikeAll, D.likes, like_py x y, likes_py xs ys]
end

section
variable {prog : Program} {w : World} {A : Around} {E : Value → Shared → Prop} {s : Shared}
/-- tuples that are alike as far as they are equal -/
theorem katLex_weak {b fin : Bool} {Q : Bool → Shared → Prop} : ∀ (xs ys : List D) (i : Nat) (vs ws : List Value) (as bs : List Addr), ReadsAll s.heap vs (D.pys xs) as → ReadsAll s.heap ws (D.pys ys) bs → D.wlikes xs ys = true →
    A.units + min (PyData.depthAll (D.pys xs)) (PyData.depthAll (D.pys ys)) < cLine → (b = true → i = 0 → ∀ x r t, xs = x :: r → x ≠ .tup t) → fin = decide (xs.length < ys.length) → Q (PyProof.Rows.lexLt itemOrd (keyToksAll (D.pys xs)) (keyToksAll (D.pys ys))) s → KatLex prog w A b fin Q (vs.zip ws) i s
  | [], [], i, _, _, _, _, ra, rb, _, _, _, hf, hq => by
    cases ra
    cases rb
    have e : fin = false := by rw [hf]; rfl
    subst e
    rw [lex_irrefl] at hq
    exact kat_nil hq
  | [], y :: ys, i, _, _, _, _, ra, rb, _, _, _, hf, hq => by
    cases ra
    have e : fin = true := by rw [hf]; exact decide_eq_true (Nat.succ_pos _)
    subst e
    rw [D.pys, D.pys, toks_all_cons] at hq
    simp only [keyToksAll] at hq
    rw [lex_diff (O := itemOrd) (by simp)] at hq
    rw [List.zip_nil_left]
    exact kat_nil (by simpa [itemLt] using hq)
  | x :: xs, [], i, _, _, _, _, ra, rb, _, _, _, hf, hq => by
    cases rb
    have e : fin = false := by rw [hf]; exact decide_eq_false (Nat.not_lt_zero _)
    subst e
    rw [D.pys, D.pys, toks_all_cons] at hq
    simp only [keyToksAll] at hq
    rw [lex_diff (O := itemOrd) (by simp)] at hq
    rw [List.zip_nil_right]
    exact kat_nil (by simpa [itemLt] using hq)
  | x :: xs, y :: ys, i, _, _, _, _, ra, rb, h, hu, hb, hf, hq => by
    rw [D.wlikes, Bool.and_eq_true] at h
    have h1 : alike x.py y.py = true := by rw [like_py]; exact h.1
    have hf' : fin = decide (xs.length < ys.length) := by
      rw [hf]
      simp only [List.length_cons, Nat.add_lt_add_iff_right]
    rw [D.pys] at ra rb hu hq
    rw [D.pys] at hu hq
    cases ra with
    | cons r rs =>
      cases rb with
      | cons r' rs' =>
        rw [List.zip_cons_cons]
        refine kat_cons (eqAt_alike x.py y.py A s _ _ _ _ r r' h1 (room_head hu) prog w _ _ ?_)
        cases hx : PyData.eqv x.py y.py with
        | true =>
          rw [dataLt_all_yes h1 hx] at hq
          have h2 : D.wlikes xs ys = true := by
            rw [D.py_eqv] at hx
            simpa [hx] using h.2
          exact kat_yes (katLex_weak xs ys (i + 1) _ _ _ _ rs rs' h2 (room_tail hu) (fun _ hi => absurd hi (Nat.succ_ne_zero i)) hf' hq)
        | false =>
          rw [dataLt_all_no h1 hx] at hq
          refine kat_no (oneLt_alike (fun hbi t => ?_) r r' h1 (ne_none_of h1 hx) (room_head hu) hq)
          rw [Bool.and_eq_true] at hbi
          intro et
          cases x with
          | tup t' => exact hb hbi.1 (by simpa using hbi.2) _ _ t' rfl rfl
          | _ => simp [D.py] at et
theorem kind_some {h : Heap} {xs : List D} {v : Value} {x : D} (hx : x ∈ xs) {as : List Addr} (r : Reads h v x.py as) : (dataKind h (xs.map D.py)).keyOf v = some (keyToks x.py) := by
  have q : ∃ d, d ∈ xs.map D.py ∧ ∃ as, Reads h v d as := ⟨x.py, List.mem_map_of_mem hx, as, r⟩
  have e : (dataKind h (xs.map D.py)).keyOf v = some (keyToks q.choose) := by
    show (open Classical in if q : ∃ d, d ∈ xs.map D.py ∧ ∃ as, Reads h v d as then some (keyToks q.choose) else none) = _
    rw [dif_pos q]
  obtain ⟨h1, as', h2⟩ := q.choose_spec
  obtain ⟨y, _, ey⟩ := List.mem_map.mp h1
  have hp : q.choose.plain = true := by rw [← ey]; exact D.plain y
  rw [e, ← readOf_plain hp h2, readOf_plain (D.plain x) r]
theorem kind_inv {h : Heap} {xs : List D} {v : Value} {k : List (Int ⊕ List Nat)} (e : (dataKind h (xs.map D.py)).keyOf v = some k) : ∃ x as, x ∈ xs ∧ Reads h v x.py as ∧ k = keyToks x.py := by
  obtain ⟨d, as, hd, r, hk⟩ := dataKind_inv e
  obtain ⟨x, hx, rfl⟩ := List.mem_map.mp hd
  exact ⟨x, as, hx, r, hk⟩
theorem sortsAt_ev {vs : List Value} {xs : List D} (e : EachIs (fun v x => ∃ as, Reads s.heap v (D.py x) as) vs xs) (hs : sortable xs = true) (hu : A.units + 60 < cLine) : SortsAt prog w A s (dataKind s.heap (xs.map D.py)) vs := by
  unfold sortable at hs
  rw [Bool.and_eq_true] at hs
  obtain ⟨hsh, hs⟩ := hs
  have dep : ∀ x ∈ xs, x.py.depth ≤ 50 := fun x hx => D.shal_depth x 50 (List.all_eq_true.mp hsh x hx)
  have room : ∀ {x y : D}, x ∈ xs → A.units + min x.py.depth y.py.depth < cLine := fun {x y} hx => by
    have := dep x hx
    omega
  refine ⟨fun v hv => ?_, ?_⟩
  · obtain ⟨x, hx, as, r⟩ := e.left v hv
    exact ⟨_, kind_some hx r⟩
  · rw [Bool.or_eq_true] at hs
    rcases hs with ht | hn
    · have tup : ∀ x ∈ xs, ∃ a r, x = .tup (a :: r) ∧ ∀ y ∈ xs, ∃ b t, y = .tup (b :: t) ∧ D.wlikes (a :: r) (b :: t) = true := fun x hx => by
        have q := List.all_eq_true.mp ht x hx
        split at q
        · rename_i a r
          refine ⟨a, r, rfl, fun y hy => ?_⟩
          have q2 := List.all_eq_true.mp q y hy
          split at q2
          · exact ⟨_, _, rfl, q2⟩
          · cases q2
        · cases q
      cases hxs : xs with
      | nil =>
        subst hxs
        cases e
        exact ⟨general', fun E x y a b Q ha _ _ => (by
          obtain ⟨d, _, hd, _⟩ := kind_inv ha
          exact absurd hd (by simp)), fun h2 => absurd h2 (by simp)⟩
      | cons z zs =>
        rw [← hxs]
        have hz : z ∈ xs := by rw [hxs]; exact List.mem_cons_self ..
        obtain ⟨a0, r0, rfl, hall⟩ := tup z hz
        have hfirst : ∀ a r, D.tup (a :: r) ∈ xs → dataType a.py = dataType a0.py := fun a r hm => by
          obtain ⟨b, t, eb, hw⟩ := hall _ hm
          cases eb
          rw [D.wlikes, Bool.and_eq_true] at hw
          exact (dataType_alike (by rw [like_py]; exact hw.1)).symm
        have e' : EachIs (fun v d => ∃ as, Reads s.heap v d as) vs (xs.map D.py) := PySem.W.each_map D.py e
        refine ⟨tuples' (dataType a0.py != Value.type "tuple"), ?_, fun h2 E Q hq => ?_⟩
        · intro E x y a b Q ha hb hq
          obtain ⟨d, as, hd, ra, rfl⟩ := kind_inv ha
          obtain ⟨d', as', hd', rb, rfl⟩ := kind_inv hb
          obtain ⟨x1, r1, rfl, hw⟩ := tup d hd
          obtain ⟨x2, r2, ed, hw⟩ := hw d' hd'
          subst ed
          have hroom := room (y := .tup (x2 :: r2)) hd
          have hq' : Q (dataLt (D.tup (x1 :: r1)).py (D.tup (x2 :: r2)).py) s := hq
          rw [D.py, D.py, dataLt_tuple] at hq'
          rw [D.py, D.py] at hroom
          rw [D.py] at ra rb
          cases ra with
          | @tuple l o ws n _ _ h1 h2 h3 h4 =>
            cases rb with
            | @tuple l' o' ws' n' _ _ k1 k2 k3 k4 =>
              have n1 : ws.size = (x1 :: r1).length := by
                have := SeqAt.ReadsAll.length _ _ _ h4
                rw [D.pys_map, List.length_map] at this
                simpa using this
              have n2 : ws'.size = (x2 :: r2).length := by
                have := SeqAt.ReadsAll.length _ _ _ k4
                rw [D.pys_map, List.length_map] at this
                simpa using this
              refine kat_lt h1 h3 k1 k3 (katLex_weak (x1 :: r1) (x2 :: r2) 0 _ _ _ _ h4 k4 hw (by have q := SeqAt.room_in hroom; omega) (fun hb _ x r t ex => ?_) (by rw [n1, n2]) hq')
              obtain ⟨rfl, rfl⟩ := List.cons.inj ex
              rw [← hfirst _ _ hd] at hb
              intro et
              subst et
              exact dataType_tuple hb (D.pys t) (by rw [D.py])
        · obtain ⟨fs, t1, t2, t3⟩ := each_katTups e' fun d hd => by
            obtain ⟨x, hx, rfl⟩ := List.mem_map.mp hd
            obtain ⟨a, r, rfl, _⟩ := tup x hx
            exact ⟨a.py, D.pys r, by rw [D.py, D.pys]⟩
          refine kat_kind (T := dataType a0.py) t1 (by omega) (fun f hf => ?_) (beq_self_eq_true _) hq
          obtain ⟨x, r, as, m1, m2⟩ := t3 f hf
          obtain ⟨y, hy, ey⟩ := List.mem_map.mp m1
          obtain ⟨a, t, rfl, _⟩ := tup y hy
          rw [D.py, D.pys] at ey
          cases ey
          rw [← hfirst a t hy]
          exact looks_reads m2
    · have non : ∀ x ∈ xs, x.py ≠ .none ∧ (∀ t, x.py ≠ .tuple t) ∧ ∀ y ∈ xs, alike x.py y.py = true := fun x hx => by
        have q := List.all_eq_true.mp hn x hx
        rw [Bool.and_eq_true] at q
        refine ⟨?_, ?_, fun y hy => by rw [like_py]; exact List.all_eq_true.mp q.2 y hy⟩
        · cases x <;> simp_all [D.py]
        · intro t
          cases x <;> simp_all [D.py]
      refine ⟨oneType', ?_, fun h2 E Q hq => ?_⟩
      · intro E x y a b Q ha hb hq
        obtain ⟨d, as, hd, ra, rfl⟩ := kind_inv ha
        obtain ⟨d', as', hd', rb, rfl⟩ := kind_inv hb
        rw [keyLt'_oneType]
        exact oneLt_alike (fun _ => (non d hd).2.1) ra rb ((non d hd).2.2 d' hd') (non d hd).1 (room hd) hq
      · cases hxs : xs with
        | nil =>
          subst hxs
          cases e
          exact absurd h2 (by simp)
        | cons z zs =>
          have hz : z ∈ xs := by rw [hxs]; exact List.mem_cons_self ..
          refine kas_kind (T := dataType z.py) h2 (fun v hv => ?_) (dataType_other (non z hz).2.1) (beq_self_eq_true _) hq
          obtain ⟨d, hd, as, r⟩ := e.left v hv
          rw [← dataType_alike ((non d hd).2.2 z hz)]
          exact looks_reads r
end
section
variable {prog : Program} {w : World} {A : Around} {E : Value → Shared → Prop} {s : Shared}
theorem collect_tup {l : Addr} {vs : List Value} {Q : List Value → Shared → Prop} (hl : s.heap.IsTuple l vs.toArray)
    (h : Q vs { s with heap := (s.heap.push (seqObj "list" #[] 0)).update s.heap.objs.size (Obj.mapSeq (· ++ vs.toArray)) }) (hsz : vs.length ≤ sizeLine) :
    wpAny (model prog w) A (collect (.ref l)) Q E s := by
  obtain ⟨o, ho, hc, n, hd⟩ := id hl
  unfold collect
  refine wpAny_bind (wpAny_runValue (codeAny_builtin entry_proto_collect' ?_))
  show wpAny _ _ (do again (.builtin "list.__iadd__" ⟨[← newList [], .ref l], []⟩)) _ _ s
  refine wpAny_bind (wpAny_newList (wpAny_pure ⟨Code.quiet_builtin _ (by decide +kernel), codeAny_builtin entry_list_iadd' ?_⟩))
  show wpAny _ _ (Builtin.List.listExtendWith (.ref s.heap.objs.size) (.ref l) (.ref s.heap.objs.size)) _ _ { s with heap := s.heap.push (seqObj "list" #[] 0) }
  unfold Builtin.List.listExtendWith
  have ho' : (s.heap.push (seqObj "list" #[] 0)).get? l = some o := Heap.get?_push_of_some _ ho
  refine wpAny_bind (wpAny_typeOf (T := "tuple") ⟨o, ho', hc⟩ ?_)
  have ht : (Value.type "tuple" == Value.type "tuple") = true := by rfl
  rw [if_pos (by rw [ht]; simp)]
  refine wpAny_bind (listItems_at ho' hd ?_)
  refine wpAny_bind (listItems_at (xs := #[]) (n := 0) (Heap.get?_push_size _ rfl) rfl ?_)
  rw [if_neg (by simp)]
  refine wpAny_bind (listUpdate_at (xs := #[]) (n := 0) (Heap.get?_push_size _ rfl) rfl ?_ (Nat.zero_le _) (by show (#[] ++ vs.toArray).size ≤ sizeLine + 1; simp only [Array.size_append, List.size_toArray, List.length_nil]; omega))
  refine wpAny_pure ?_
  show wpAny (model prog w) A (do
      let o ← load s.heap.objs.size
      match o.data with
      | .seq xs _ => pure xs.toList
      | _ => unsupported "internal:collect") Q E { s with heap := (s.heap.push (seqObj "list" #[] 0)).update s.heap.objs.size (Obj.mapSeq (· ++ vs.toArray)) }
  refine wpAny_bind (wpAny_load (get?_update_seq (Heap.get?_push_size _ rfl) _) ?_)
  show wpAny _ _ (pure ((#[] : Array Value) ++ vs.toArray).toList) Q E _
  rw [show ((#[] : Array Value) ++ vs.toArray).toList = vs by simp]
  exact wpAny_pure h
theorem sorted_tup {l : Addr} {vs : List Value} {κ : PyProof.Rows.KeyKind} {Q : Value → Shared → Prop} (hl : s.heap.IsTuple l vs.toArray) (S : SortsAt prog w A.in1.in1 { s with heap := sortingHeap (copyHeap s.heap vs) (s.heap.objs.size + 1) vs } κ vs) (hL : vs.length ≤ sizeLine)
    (h : Q (.ref (s.heap.objs.size + 1)) { s with heap := sortedAll s.heap vs (sortVals κ false vs vs).toArray }) : wpAny (model prog w) A (PySem.call (.builtin "sorted") [.ref l]) Q E s := by
  refine call_function_entry_kw (kw := []) kind_sorted plain_sorted entry_sorted (args_sorted1 _) ?_
  unfold Builtin.«sorted»
  refine wpAny_bind (m := checkCount "sorted" 1 1 _) (wpAny_pure ?_)
  refine wpAny_bind (collect_tup hl ?_ hL)
  refine wpAny_bind (wpAny_newList ?_ hL)
  have hsz : ((s.heap.push (seqObj "list" #[] 0)).update s.heap.objs.size (Obj.mapSeq (· ++ vs.toArray))).objs.size = s.heap.objs.size + 1 := by
    rw [Heap.size_update, size_push']
  show wpAny _ _ _ _ _ { s with heap := copyHeap s.heap vs }
  rw [hsz]
  refine wpAny_bind (wpAny_holding (wpAny_call_entry_kw slot_list_sort ⟨_, copyHeap_at s.heap vs, rfl⟩ entry_list_sort ?body (args_list_sort _)))
  case body =>
    show wpAny (model prog w) A.in1.in1 (Builtin.«list.sort» ⟨[.ref (s.heap.objs.size + 1)], []⟩) _ _ _
    refine wpAny_mono (list_sort_vals (P := fun f s' => f = .done (.ret .none) ∧ Q (.ref (s.heap.objs.size + 1)) s') (s := { s with heap := copyHeap s.heap vs }) (copyHeap_at s.heap vs) S hL ⟨rfl, h⟩) (fun f s' hf => ?_) fun _ _ e => e
    obtain ⟨rfl, hq⟩ := hf
    exact ⟨_, rfl, wpAny_pure ⟨_, rfl, hq⟩⟩
end
section
variable {K : PySem.W.Frag} {z m : List Addr} {H : Hp}
theorem each_of : ∀ {xs : List D} {us : List V} {vs : List Value}, RepDs K z m H xs us → Vals us vs → EachIs (fun v (p : D × V) => RelV p.2 v ∧ RepD K z m H p.1 p.2) vs (xs.zip us)
  | [], _, _, r, h => by
    rw [RepDs] at r
    subst r
    cases h
    exact .nil
  | x :: xs, _, _, r, h => by
    rw [RepDs] at r
    obtain ⟨u, t, rfl, r1, r2⟩ := r
    cases h with
    | cons h1 h2 => exact .cons ⟨h1, r1⟩ (each_of r2 h2)
theorem of_each : ∀ {vs : List Value} {bs : List (D × V)}, EachIs (fun v (p : D × V) => RelV p.2 v ∧ RepD K z m H p.1 p.2) vs bs → RepDs K z m H (bs.map (·.1)) (bs.map (·.2)) ∧ Vals (bs.map (·.2)) vs
  | _, _, .nil => ⟨by rw [List.map_nil, RepDs]; rfl, .nil⟩
  | _, _, .cons (b := b) h t => by
    obtain ⟨h1, h2⟩ := of_each t
    refine ⟨?_, .cons h.1 h2⟩
    rw [List.map_cons, RepDs]
    exact ⟨b.2, _, rfl, h.2, h1⟩
end
section
variable {X : Cx} {k : Nat}
theorem sort_fin {pins : List (Addr × Obj)} {s : Shared} {σ : L2.St} {H : Hp} {z m : List Addr} {h : Hh} {xs : List D} {us : List V} {its : List Value} {Q : VK} (hr : Room k X.A) (I : Inv X pins σ H s) (rh : RelH X.K z m H h) (rd : RepDs X.K z m H xs us) (rv : Vals us its) (hz : us.length ≤ sizeLine) (hs : sortable xs = true)
    (p : Post X.K z m H Q (.d (.list (sortD xs))) h) :
    SortsAt X.prog X.w X.A.in1.in1 { s with heap := sortingHeap (copyHeap s.heap its) (s.heap.objs.size + 1) its } (dataKind (sortingHeap (copyHeap s.heap its) (s.heap.objs.size + 1) its) (xs.map D.py)) its ∧ its.length ≤ sizeLine ∧
    EP X pins σ Q (.ref (s.heap.objs.size + 1)) { s with heap := sortedAll s.heap its (sortVals (dataKind (sortingHeap (copyHeap s.heap its) (s.heap.objs.size + 1) its) (xs.map D.py)) false its its).toArray } := by
  have hil : its.length ≤ sizeLine := by rw [← rv.length]; exact hz
  have e1 := each_of rd rv
  have rd1 : ∀ (g : Heap), (∀ b o, s.heap.get? b = some o → g.get? b = some o) → ∀ {xs : List D} {us : List V} {its : List Value}, RepDs X.K z m H xs us → Vals us its → EachIs (fun v x => ∃ as, Reads g v (D.py x) as) its xs := by
    intro g hg xs
    induction xs with
    | nil =>
      intro us its r h
      rw [RepDs] at r
      subst r
      cases h
      exact .nil
    | cons x xs ih =>
      intro us its r h
      rw [RepDs] at r
      obtain ⟨u, t, rfl, r1, r2⟩ := r
      cases h with
      | cons h1 h2 =>
        obtain ⟨as, q⟩ := Dp.reads I _ _ _ r1.dp h1
        exact .cons ⟨as, PyProof.Rows.Reads.keeps (fun _ _ e => hg _ _ e) q⟩ (ih r2 h2)
  have er := rd1 (sortingHeap (copyHeap s.heap its) (s.heap.objs.size + 1) its) (fun _ _ => sorting_copy_old) rd rv
  have hu : X.A.in1.in1.units + 60 < cLine := by
    have := units_of hr
    show X.A.units + 1 + 1 + 60 < cLine
    omega
  refine ⟨sortsAt_ev (s := { s with heap := sortingHeap (copyHeap s.heap its) (s.heap.objs.size + 1) its }) er hs hu, hil, ?_⟩
  have hk : EachIs (fun v (b : D × V) => (dataKind (sortingHeap (copyHeap s.heap its) (s.heap.objs.size + 1) its) (xs.map D.py)).keyOf v = some (keyToks b.1.py)) its (xs.zip us) := by
    have gen : ∀ {ys : List D} {us : List V} {its' : List Value}, (∀ y ∈ ys, y ∈ xs) → RepDs X.K z m H ys us → EachIs (fun v x => ∃ as, Reads (sortingHeap (copyHeap s.heap its) (s.heap.objs.size + 1) its) v (D.py x) as) its' ys →
        EachIs (fun v (b : D × V) => (dataKind (sortingHeap (copyHeap s.heap its) (s.heap.objs.size + 1) its) (xs.map D.py)).keyOf v = some (keyToks b.1.py)) its' (ys.zip us) := by
      intro ys
      induction ys with
      | nil =>
        intro us its' _ r h
        cases h
        exact .nil
      | cons y ys ih =>
        intro us its' hm r h
        rw [RepDs] at r
        obtain ⟨u, t, rfl, r1, r2⟩ := r
        cases h with
        | cons h1 h2 =>
          obtain ⟨as, q⟩ := h1
          exact .cons (kind_some (hm y (List.mem_cons_self ..)) q) (ih (fun y hy => hm y (List.mem_cons_of_mem _ hy)) r2 h2)
    exact gen (fun _ h => h) rd er
  have out := sortVals_each (κ := dataKind (sortingHeap (copyHeap s.heap its) (s.heap.objs.size + 1) its) (xs.map D.py)) (rev := false) (fun b : D × V => keyToks b.1.py) e1 hk
  obtain ⟨o1, o2⟩ := of_each out
  have hmap : ((xs.zip us).mergeSort (sortLe (dataKind (sortingHeap (copyHeap s.heap its) (s.heap.objs.size + 1) its) (xs.map D.py)).toKeyOrd false fun b : D × V => keyToks b.1.py)).map (·.1) = sortD xs := by
    unfold sortD
    rw [List.map_mergeSort (s := fun a b => !ltToks b.toks a.toks)]
    · rw [List.map_fst_zip (by rw [rd.length]; exact Nat.le_refl _)]
    · intro a _ b _
      show (!PyProof.Rows.lexLt itemOrd (keyToks b.1.py) (keyToks a.1.py)) = _
      rw [ltToks_eq, toks_py, toks_py]
  rw [hmap] at o1
  obtain ⟨ep, he'⟩ := PyProof.Rows.sortedAll_at s.heap its (sortVals (dataKind (sortingHeap (copyHeap s.heap its) (s.heap.objs.size + 1) its) (xs.map D.py)) false its its).toArray
  have hl2 : (((xs.zip us).mergeSort (sortLe (dataKind (sortingHeap (copyHeap s.heap its) (s.heap.objs.size + 1) its) (xs.map D.py)).toKeyOrd false fun b : D × V => keyToks b.1.py)).map (·.2)).length ≤ sizeLine := by
    rw [o2.length, sortVals_length false rfl]
    exact hil
  generalize hys : ((xs.zip us).mergeSort (sortLe (dataKind (sortingHeap (copyHeap s.heap its) (s.heap.objs.size + 1) its) (xs.map D.py)).toKeyOrd false fun b : D × V => keyToks b.1.py)).map (·.2) = ys at hl2 o1 o2
  exact ⟨.ref _, upd H (s.heap.objs.size + 1) (.lst ys), I.laid (t' := s.toks) (fun _ _ => PyProof.Rows.sortedAll_old) (Nat.le_succ _) ⟨hl2, _, ep, o2, he'⟩, rfl, p.lst rh o1 hl2 (I.hok.fresh (Nat.le_succ _))⟩
theorem sort_fin2 {pins : List (Addr × Obj)} {s : Shared} {σ : L2.St} {H : Hp} {z m : List Addr} {h : Hh} {xs : List D} {us : List V} {its : List Value} {Q : VK} (hr : Room k X.A) (I : Inv X pins σ H s) (rh : RelH X.K z m H h) (rd : RepDs X.K z m H xs us) (rv : Vals us its) (hz : us.length ≤ sizeLine) (hs : sortable xs = true)
    (p : Post X.K z m H Q (.d (.list (sortD xs))) h) :
    SortsAt X.prog X.w X.A.in1.in1 { s with heap := sortingHeap (s.heap.push (seqObj "list" its.toArray 0)) s.heap.objs.size its } (dataKind (sortingHeap (s.heap.push (seqObj "list" its.toArray 0)) s.heap.objs.size its) (xs.map D.py)) its ∧ its.length ≤ sizeLine ∧
    EP X pins σ Q (.ref s.heap.objs.size) { s with heap := sortedHeap (s.heap.push (seqObj "list" its.toArray 0)) s.heap.objs.size its (sortVals (dataKind (sortingHeap (s.heap.push (seqObj "list" its.toArray 0)) s.heap.objs.size its) (xs.map D.py)) false its its).toArray } := by
  have hil : its.length ≤ sizeLine := by rw [← rv.length]; exact hz
  have e1 := each_of rd rv
  have rd1 : ∀ (g : Heap), (∀ b o, s.heap.get? b = some o → g.get? b = some o) → ∀ {xs : List D} {us : List V} {its : List Value}, RepDs X.K z m H xs us → Vals us its → EachIs (fun v x => ∃ as, Reads g v (D.py x) as) its xs := by
    intro g hg xs
    induction xs with
    | nil =>
      intro us its r h
      rw [RepDs] at r
      subst r
      cases h
      exact .nil
    | cons x xs ih =>
      intro us its r h
      rw [RepDs] at r
      obtain ⟨u, t, rfl, r1, r2⟩ := r
      cases h with
      | cons h1 h2 =>
        obtain ⟨as, q⟩ := Dp.reads I _ _ _ r1.dp h1
        exact .cons ⟨as, PyProof.Rows.Reads.keeps (fun _ _ e => hg _ _ e) q⟩ (ih r2 h2)
  have er := rd1 (sortingHeap (s.heap.push (seqObj "list" its.toArray 0)) s.heap.objs.size its) (fun _ _ e => sortingHeap_old (Nat.ne_of_lt (Heap.lt_size e)) (Heap.get?_push_of_some _ e)) rd rv
  have hu : X.A.in1.in1.units + 60 < cLine := by
    have := units_of hr
    show X.A.units + 1 + 1 + 60 < cLine
    omega
  refine ⟨sortsAt_ev (s := { s with heap := sortingHeap (s.heap.push (seqObj "list" its.toArray 0)) s.heap.objs.size its }) er hs hu, hil, ?_⟩
  have hk : EachIs (fun v (b : D × V) => (dataKind (sortingHeap (s.heap.push (seqObj "list" its.toArray 0)) s.heap.objs.size its) (xs.map D.py)).keyOf v = some (keyToks b.1.py)) its (xs.zip us) := by
    have gen : ∀ {ys : List D} {us : List V} {its' : List Value}, (∀ y ∈ ys, y ∈ xs) → RepDs X.K z m H ys us → EachIs (fun v x => ∃ as, Reads (sortingHeap (s.heap.push (seqObj "list" its.toArray 0)) s.heap.objs.size its) v (D.py x) as) its' ys →
        EachIs (fun v (b : D × V) => (dataKind (sortingHeap (s.heap.push (seqObj "list" its.toArray 0)) s.heap.objs.size its) (xs.map D.py)).keyOf v = some (keyToks b.1.py)) its' (ys.zip us) := by
      intro ys
      induction ys with
      | nil =>
        intro us its' _ r h
        cases h
        exact .nil
      | cons y ys ih =>
        intro us its' hm r h
        rw [RepDs] at r
        obtain ⟨u, t, rfl, r1, r2⟩ := r
        cases h with
        | cons h1 h2 =>
          obtain ⟨as, q⟩ := h1
          exact .cons (kind_some (hm y (List.mem_cons_self ..)) q) (ih (fun y hy => hm y (List.mem_cons_of_mem _ hy)) r2 h2)
    exact gen (fun _ h => h) rd er
  have out := sortVals_each (κ := dataKind (sortingHeap (s.heap.push (seqObj "list" its.toArray 0)) s.heap.objs.size its) (xs.map D.py)) (rev := false) (fun b : D × V => keyToks b.1.py) e1 hk
  obtain ⟨o1, o2⟩ := of_each out
  have hmap : ((xs.zip us).mergeSort (sortLe (dataKind (sortingHeap (s.heap.push (seqObj "list" its.toArray 0)) s.heap.objs.size its) (xs.map D.py)).toKeyOrd false fun b : D × V => keyToks b.1.py)).map (·.1) = sortD xs := by
    unfold sortD
    rw [List.map_mergeSort (s := fun a b => !ltToks b.toks a.toks)]
    · rw [List.map_fst_zip (by rw [rd.length]; exact Nat.le_refl _)]
    · intro a _ b _
      show (!PyProof.Rows.lexLt itemOrd (keyToks b.1.py) (keyToks a.1.py)) = _
      rw [ltToks_eq, toks_py, toks_py]
  rw [hmap] at o1
  obtain ⟨ep, he'⟩ := sortedHeap_at (a := s.heap.objs.size) (n := 0) (vs := its) (h := s.heap.push (seqObj "list" its.toArray 0)) (out := (sortVals (dataKind (sortingHeap (s.heap.push (seqObj "list" its.toArray 0)) s.heap.objs.size its) (xs.map D.py)) false its its).toArray) (Heap.get?_push_size _ rfl)
  have hl2 : (((xs.zip us).mergeSort (sortLe (dataKind (sortingHeap (s.heap.push (seqObj "list" its.toArray 0)) s.heap.objs.size its) (xs.map D.py)).toKeyOrd false fun b : D × V => keyToks b.1.py)).map (·.2)).length ≤ sizeLine := by
    rw [o2.length, sortVals_length false rfl]
    exact hil
  generalize hys : ((xs.zip us).mergeSort (sortLe (dataKind (sortingHeap (s.heap.push (seqObj "list" its.toArray 0)) s.heap.objs.size its) (xs.map D.py)).toKeyOrd false fun b : D × V => keyToks b.1.py)).map (·.2) = ys at hl2 o1 o2
  exact ⟨.ref _, upd H s.heap.objs.size (.lst ys), I.laid (t' := s.toks) (fun b u e => by rw [sortedHeap_old (Nat.ne_of_lt (Heap.lt_size e)) (by rw [size_push']; exact Nat.lt_succ_of_lt (Heap.lt_size e))]; exact Heap.get?_push_of_some _ e) (Nat.le_refl _) ⟨hl2, _, ep, o2, he'⟩, rfl, p.lst rh o1 hl2 (I.hok.fresh (Nat.le_refl _))⟩

/-- sorted(d): its keys -/
theorem sorted_dic (hc : X.calm = true) (hr : Room k X.A) {pins : List (Addr × Obj)} {s : Shared} {σ : L2.St} {H : Hp} {z m : List Addr} {h : Hh} {kvs : List (D × PV)} {ks : List (L2.Key × V)} {a : Addr} {Q : VK} (I : Inv X pins σ H s) (rh : RelH X.K z m H h)
    (hd : H a = some (.dK ks)) (rk : RepK X.K z m H kvs ks) (hs : sortable (kvs.map (·.1)) = true) (p : Post X.K z m H Q (.d (.list (sortD (kvs.map (·.1))))) h) :
    wpAny (model X.prog X.w) X.A (PySem.call (.builtin "sorted") [.ref a]) (EP X pins σ Q) X.xe s := by
  obtain ⟨zl, lo, vs, rel, dd⟩ := dk_rd I.hok (.inl hd)
  obtain ⟨ep, hat⟩ := dd.dictAt
  have ek : (ks.map fun kv => kV kv.1) = vs.map fun p => kV p.1 := by
    have e := congrArg (List.map kV) rel.keys
    rw [List.map_map, List.map_map] at e
    exact e
  have h16 : vs.length ≤ sizeLine := by rw [← rel.length]; exact zl
  refine call_function_entry_kw (kw := []) kind_sorted plain_sorted entry_sorted (args_sorted1 _) ?_
  unfold Builtin.«sorted»
  refine wpAny_bind (m := checkCount "sorted" 1 1 _) (wpAny_pure ?_)
  refine wpAny_bind (PySem.W.kdu_collect (A := X.A.in1) (PySem.W.kdl_dict (knd := mixKind X.prog X.w) (kvs := vs) (ep := ep) lo) (I.ok.hd hc) hat h16 fun h' tk acc hk hacc => ?_)
  have hv : Vals (ks.map fun kv => kV kv.1) acc.toList := by
    rw [ek]
    exact keys_at (by rw [Array.length_toList]; exact hacc.1) fun j v e => hacc.2 j v (by rw [← Array.getElem?_toList]; exact e)
  have I1 : Inv X pins σ H { s with heap := h', toks := tk } := I.kept hk
  obtain ⟨S, hL, fin⟩ := sort_fin2 (s := { s with heap := h', toks := tk }) hr I1 rh (keys_rep rk) hv (by rw [List.length_map]; exact zl) hs p
  refine wpAny_bind (wpAny_newList ?_ hL)
  show wpAny _ _ _ _ _ { s with heap := h'.push (seqObj "list" acc.toList.toArray 0), toks := tk }
  refine wpAny_bind (wpAny_holding (wpAny_call_entry_kw slot_list_sort ⟨_, Heap.get?_push_size _ rfl, rfl⟩ entry_list_sort ?body (args_list_sort _)))
  case body =>
    show wpAny (model X.prog X.w) X.A.in1.in1 (Builtin.«list.sort» ⟨[.ref h'.objs.size], []⟩) _ _ _
    refine wpAny_mono (list_sort_vals (P := fun f s' => f = .done (.ret .none) ∧ EP X pins σ Q (.ref h'.objs.size) s') (s := { s with heap := h'.push (seqObj "list" acc.toList.toArray 0), toks := tk }) (Heap.get?_push_size _ rfl) S hL ⟨rfl, fin⟩) (fun f s' hf => ?_) fun _ _ e => e
    obtain ⟨rfl, hq⟩ := hf
    exact ⟨_, rfl, wpAny_pure ⟨_, rfl, hq⟩⟩
theorem bl_sorted (hc : X.calm = true) (hr : Room k X.A) : CallR X (.builtin "sorted") (CBl X fun h xs => blt h .sorted xs) := by
  intro pins s σ H us vs Q I rv q
  obtain ⟨xs, h, z, m, v, r, rh, e0, p⟩ := q
  obtain ⟨x, rfl, e⟩ := one_of e0
  obtain ⟨u, rfl, ru⟩ := reps1 r
  unfold sortedOp at e
  split at e
  · rename_i kvs hd
    split at e
    · rename_i hs
      cases e
      obtain ⟨ad, ks, rfl, hu, hz, rk⟩ := dicAt_rep rh ru hd
      obtain ⟨u', rfl, ru'⟩ := vals1 rv
      cases ru'
      exact sorted_dic hc hr I rh hu rk hs p
    · cases e
  split at e
  · rename_i ys hd
    split at e
    · rename_i hs
      cases e
      obtain ⟨a, ws, rfl, hq, hz, rd⟩ := deref_list rh ru hd
      obtain ⟨its, rw', hl, _⟩ := I.list hq
      obtain ⟨u', rfl, ru'⟩ := vals1 rv
      cases ru'
      obtain ⟨S, hL, fin⟩ := sort_fin hr I rh rd rw' hz hs p
      exact sorted_vals hl.isList S hL fin
    · cases e
  · rename_i ys hd
    split at e
    · rename_i hs
      cases e
      obtain ⟨a, ws, rfl, hq, hz, rd⟩ := deref_tup rh ru hd
      obtain ⟨its, rw', hl, _⟩ := I.tuple hq.sq
      obtain ⟨u', rfl, ru'⟩ := vals1 rv
      cases ru'
      obtain ⟨S, hL, fin⟩ := sort_fin hr I rh rd rw' hz hs p
      exact sorted_tup hl S hL fin
    · cases e
  · cases e
end
end Ev
end

section
/-! EvSnd3: built-ins by their names, isinstance, items, slices. -/
set_option autoImplicit false
set_option linter.all false
set_option Elab.async false
set_option maxRecDepth 100000
set_option maxHeartbeats 1000000
namespace Ev
open PySem L2 PyProof.Rows

section
variable {P : TrP} {T : Nat → Option Fn} {C : Nat → Option PV} {XC : Nat → Option Addr} {k : Nat} {N : List Str} {sc : Scope} {X : Cx} {W : WX}
theorem starEachs {e : Expr} {es : List Expr} {env : PySem.Env} {pos : Pos} (h : (e :: es).all notStar = true) : starEach (e :: es) env = (false, eval e env) :: starEach es env ∧ (backTo pos (starEach es env)).any (·.1) = false := by
  simp only [List.all_cons, Bool.and_eq_true] at h
  exact ⟨starEach_one h.1, stars_false _ _ _ h.2⟩

/-- a built-in of this name, under this word -/
def BlOk (X : Cx) (x : Str) (b : Bl) : Prop := (∃ id, bootBuiltins x = some (.builtin id) ∧ CallR X (.builtin id) (CBl X fun h xs => blt h b xs)) ∨ (∃ T, bootBuiltins x = some (.type T) ∧ CallR X (.type T) (CBl X fun h xs => blt h b xs))
theorem snd_bl (G : Gd P T C XC k N sc X) {x : Str} {b : Bl} {e : Expr} {es : List Expr} {rs : Env → M (List PV)} {p pos : Pos} (h1 : okN x = true) (h2 : isGl sc x = true) (h3 : P.blts.contains x = true) (hb : BlOk X x b)
    (hst : (e :: es).all notStar = true) (hs : PA X (e :: es) (tEs X.K XC W rs)) : PE X (.Call (.Name x p) (e :: es) [] pos) (tE X.K XC W fun env => M.bnd (rs env) fun xs => M.lift fun h => blt h b xs) := by
  obtain ⟨d1, d2, d3⟩ := okN_of h1
  obtain ⟨q1, q2⟩ := starEachs (pos := pos) (env := X.env) hst
  rcases hb with ⟨id, hv, c⟩ | ⟨T', hv, c⟩
  · exact snd_callR (f := .builtin id) (pe_callB c (gl_of G h2) (G.facts.blts x h3) hv hs d3 d1 q1 q2)
  · exact snd_callR (f := .type T') (pe_callTy c (gl_of G h2) (G.facts.blts x h3) hv hs d3 d1 q1 q2)

theorem stuckBl (f : Value) (b : Bl) (h : ∀ hh xs, blt hh b xs = none) : CallR X f (CBl X fun h xs => blt h b xs) := by
  intro pins s σ H us vs Q I rv q
  obtain ⟨xs, hh, z, m, w, r, rh, e0, p⟩ := q
  exact absurd ((h hh xs).symm.trans e0) (by simp)

theorem ite_or {α : Type} {c : Prop} [Decidable c] {a b : Option α} {r : α} (h : (if c then a else b) = some r) : (c ∧ a = some r) ∨ (¬ c ∧ b = some r) := by
  by_cases q : c
  · rw [if_pos q] at h; exact .inl ⟨q, h⟩
  · rw [if_neg q] at h; exact .inr ⟨q, h⟩
theorem str_eq {x y : Str} (h : (x == y) = true) : x = y := by simpa using h
theorem blOk_of (hc : X.calm = true) (hr : Room k X.A) {x : Str} {n : Nat} {b : Bl} (h : trBl x n = some b) : BlOk X x b := by
  unfold trBl at h
  rcases ite_or h with ⟨c, h⟩ | ⟨_, h⟩
  · obtain rfl := str_eq c; cases h; exact .inl ⟨_, rfl, bl_len⟩
  rcases ite_or h with ⟨c, h⟩ | ⟨_, h⟩
  · obtain rfl := str_eq c; cases h; exact .inl ⟨_, rfl, bl_all hc⟩
  rcases ite_or h with ⟨c, h⟩ | ⟨_, h⟩
  · obtain rfl := str_eq c; cases h; exact .inl ⟨_, rfl, bl_any hc⟩
  rcases ite_or h with ⟨c, h⟩ | ⟨_, h⟩
  · obtain rfl := str_eq c; cases h; exact .inr ⟨_, rfl, bl_tuple⟩
  rcases ite_or h with ⟨c, h⟩ | ⟨_, h⟩
  · obtain rfl := str_eq c; cases h; exact .inr ⟨_, rfl, bl_list hc⟩
  rcases ite_or h with ⟨c, h⟩ | ⟨_, h⟩
  · obtain rfl := str_eq c; cases h; exact .inl ⟨_, rfl, bl_sum hc⟩
  rcases ite_or h with ⟨c, h⟩ | ⟨_, h⟩
  · obtain rfl := str_eq c
    by_cases hn : n = 2
    · rw [if_pos hn] at h; cases h; exact .inl ⟨_, rfl, bl_max2 hc⟩
    · rw [if_neg hn] at h; cases h; exact .inl ⟨_, rfl, bl_max hc hr⟩
  rcases ite_or h with ⟨c, h⟩ | ⟨_, h⟩
  · obtain rfl := str_eq c
    by_cases hn : n = 2
    · rw [if_pos hn] at h; cases h; exact .inl ⟨_, rfl, bl_min2 hc⟩
    · rw [if_neg hn] at h; cases h; exact .inl ⟨_, rfl, bl_min hc hr⟩
  rcases ite_or h with ⟨c, h⟩ | ⟨_, h⟩
  · obtain rfl := str_eq c; cases h; exact .inr ⟨_, rfl, bl_int⟩
  rcases ite_or h with ⟨c, h⟩ | ⟨_, h⟩
  · obtain rfl := str_eq c; cases h; exact .inr ⟨_, rfl, stuckBl _ _ fun _ _ => rfl⟩
  rcases ite_or h with ⟨c, h⟩ | ⟨_, h⟩
  · obtain rfl := str_eq c; cases h; exact .inr ⟨_, rfl, stuckBl _ _ fun _ _ => rfl⟩
  rcases ite_or h with ⟨c, h⟩ | ⟨_, h⟩
  · obtain rfl := str_eq c; cases h; exact .inl ⟨_, rfl, bl_ord⟩
  rcases ite_or h with ⟨c, h⟩ | ⟨_, h⟩
  · obtain rfl := str_eq c; cases h; exact .inl ⟨_, rfl, bl_abs⟩
  rcases ite_or h with ⟨c, h⟩ | ⟨_, h⟩
  · obtain rfl := str_eq c; cases h; exact .inl ⟨_, rfl, bl_sorted hc hr⟩
  cases h

/-! ### isinstance -/
def tyName : Ty → String
  | .int => "int" | .str => "str" | .bool => "bool" | .tuple => "tuple" | .list => "list" | .dict => "dict"
theorem isi_call (ty : Ty) : CallR X (.builtin "isinstance") (fun us H Q => ∃ u a h z m v, us = [u, .ty (tyName ty)] ∧ Rep X.K z m H a u ∧ RelH X.K z m H h ∧ isTy h a ty = some v ∧ Post X.K z m H Q v h) := by
  intro pins s σ H us vs Q I rv q
  obtain ⟨u, a, h, z, m, v, rfl, ra, rh, e, p⟩ := q
  obtain ⟨w1, w2, rfl, r1, r2⟩ := vals2 rv
  unfold isTy at e
  simp only [Option.map_eq_some_iff] at e
  obtain ⟨d, e, rfl⟩ := e
  obtain ⟨as, rd⟩ := Dp.reads I _ _ _ (deref_seq rh ra e) r1
  have hw : w2 = .type (tyName ty) := r2
  subst hw
  have fin : ∀ tk b, b = isTyD d ty → EP X pins σ Q (.bool b) { s with toks := tk } := fun tk b hb => ⟨.bl b, H, I.tok tk, rfl, p.here rh (by rw [hb]; rfl)⟩
  cases ty with
  | int => exact W.isinstance_int_data rd fun tk _ => fin tk _ (by cases d <;> rfl)
  | str => exact W.isinstance_str_data rd fun tk _ => fin tk _ (by cases d <;> rfl)
  | bool => exact W.isinstance_bool_data rd fun tk _ => fin tk _ (by cases d <;> rfl)
  | tuple => exact W.isinstance_tuple_data rd fun tk _ => fin tk _ (by cases d <;> rfl)
  | list => exact W.isinstance_list_data rd fun tk _ => fin tk _ (by cases d <;> rfl)
  | dict => exact W.isinstance_dict_data rd fun tk _ => fin tk _ (by cases d <;> rfl)
theorem trTy_boot {t : Str} {ty : Ty} (h : trTy t = some ty) : bootBuiltins t = some (.type (tyName ty)) := by
  unfold trTy at h
  rcases ite_or h with ⟨c, h⟩ | ⟨_, h⟩
  · obtain rfl := str_eq c; cases h; rfl
  rcases ite_or h with ⟨c, h⟩ | ⟨_, h⟩
  · obtain rfl := str_eq c; cases h; rfl
  rcases ite_or h with ⟨c, h⟩ | ⟨_, h⟩
  · obtain rfl := str_eq c; cases h; rfl
  rcases ite_or h with ⟨c, h⟩ | ⟨_, h⟩
  · obtain rfl := str_eq c; cases h; rfl
  rcases ite_or h with ⟨c, h⟩ | ⟨_, h⟩
  · obtain rfl := str_eq c; cases h; rfl
  rcases ite_or h with ⟨c, h⟩ | ⟨_, h⟩
  · obtain rfl := str_eq c; cases h; rfl
  cases h
theorem snd_isi (G : Gd P T C XC k N sc X) {t : Str} {ty : Ty} {a : Expr} {ra : Env → M PV} {p p1 pos : Pos} (h2 : isGl sc "isinstance" = true) (h3 : P.blts.contains "isinstance" = true)
    (t1 : okN t = true) (t2 : isGl sc t = true) (t3 : P.blts.contains t = true) (ht : trTy t = some ty) (hst : notStar a = true) (ha : PE X a (tE X.K XC W ra)) :
    PE X (.Call (.Name "isinstance" p) [a, .Name t p1] [] pos) (tE X.K XC W fun env => M.bnd (ra env) fun x => M.lift fun h => isTy h x ty) := by
  obtain ⟨d1, d2, d3⟩ := okN_of t1
  have hs : ([a, .Name t p1] : List Expr).all notStar = true := by show (notStar a && _) = true; rw [hst]; rfl
  obtain ⟨q1, q2⟩ := starEachs (pos := pos) (env := X.env) hs
  have hn : PE X (.Name t p1) (tC (.ty (tyName ty))) := pe_bltn (gl_of G t2) (G.facts.blts t t3) (trTy_boot ht) rfl d3 d1
  refine (pe_callB (isi_call ty) (gl_of G h2) (G.facts.blts _ h3) rfl (pa_cons ha (pa_cons hn pa_nil rfl) q1) (by decide) (by decide) q1 q2).to fun σ H Q q => ?_
  obtain ⟨env, h, z, m, rs, rh, out⟩ := q
  refine ⟨env, h, z, m, rs, rh, out.bnd.imp fun x h1 m1 H1 e1 rh1 o1 vx rx => ?_⟩
  obtain ⟨v, e, p⟩ := o1.lift
  exact ⟨vx, x, h1, z, m1, v, rfl, rx, rh1, e, fun m' H' x' e' r' rr => p m' H' e' r' x' rr⟩

/-! ### -x -/
theorem snd_neg {a : Expr} {ra : Env → M PV} {pos : Pos} (ha : PE X a (tE X.K XC W ra)) : PE X (.UnaryOp .USub a pos) (tE X.K XC W fun env => M.bnd (ra env) fun x => M.lift fun _ => match x with
    | .d (.int i) => some (.d (.int (-i)))
    | _ => .none) := by
  refine (pe_un un_neg ha).to fun σ H Q q => ?_
  obtain ⟨env, h, z, m, rs, rh, out⟩ := q
  refine ⟨env, h, z, m, rs, rh, out.bnd.imp fun x h1 m1 H1 e1 rh1 o1 vx rx => ?_⟩
  obtain ⟨v, e, p⟩ := o1.lift
  split at e
  · cases e
    exact ⟨_, rx.int, p m1 H1 (Ext.refl _ _) rh1 _ rfl⟩
  · cases e

/-! ### a[b] -/
theorem place_ix {n : Nat} {i : Int} : place n i = ixN n i := by
  unfold place ixN
  by_cases h0 : 0 ≤ i
  · rw [if_pos h0, if_pos h0]
    by_cases h1 : i < n
    · rw [if_pos (by omega), if_pos h1]
    · rw [if_neg (by omega), if_neg h1]
  · rw [if_neg h0, if_neg h0]
    by_cases h1 : -(n : Int) ≤ i
    · rw [if_pos (by omega), if_pos h1]
      congr 1
      omega
    · rw [if_neg (by omega), if_neg h1]
theorem at_of {α : Type} {xs : List α} {i : Int} {v : α} (h : (place xs.length i).bind (fun j => xs[j]?) = some v) : atI xs i = some v := by
  unfold atI; rw [← place_ix]; exact h
theorem ix_dictK : IxR X (fun x y H Q => ∃ a ks key w, x = .ref a ∧ y = kV key ∧ H a = some (.dK ks) ∧ valV ks key = some w ∧ Q w H) := by
  intro value slice pins s σ H x y v u Q I rx ry q hs
  obtain ⟨a, ks, key, w, rfl, rfl, e, l, q⟩ := q
  cases rx
  obtain ⟨z, hd, vs, rel, dd⟩ := dk_rd I.hok (.inl e)
  obtain ⟨w', hw, rw'⟩ := RelO.some_of (v := w) (o := valueAt vs key) (by rw [← l]; exact rel.val key)
  exact subscriptTail_builtinR (x := w') dd.typeIs PySem.F.slot_dict_getitem.lookup
    (wpAny_getItem_of (Q := fun r s' => r = w' ∧ EP X pins σ Q r s') (kV_is ry) dd.mapOf hw ⟨rfl, w, H, I.tok _, rw', q⟩) hs
theorem ixr_ev : IxR X (R2of X.K indexOp) := by
  intro value slice pins s σ H x y v u Q I rx ry q hs
  obtain ⟨a, b, h, z, m, w, ha, hb, rh, e, p⟩ := q
  have dl : ∀ {xs : List D} {i : Int} {ad : Addr} {us : List V}, x = .ref ad → b = .d (.int i) → us.length ≤ sizeLine → RepDs X.K z m H xs us → ((place xs.length i).bind fun j => (xs[j]?).map PV.d) = some w → ∃ y', y = .int i ∧ atI us i = some y' ∧ Q y' H := fun {xs i ad us} hx hb' hz rd eq => by
    rw [hb'] at hb
    obtain ⟨j, e1, e3⟩ := Option.bind_eq_some_iff.mp eq
    obtain ⟨d, e2, rfl⟩ := Option.map_eq_some_iff.mp e3
    obtain ⟨y', h1, h2⟩ := rd.get e2
    refine ⟨y', hb.int, at_of ?_, p.here rh h2⟩
    rw [← rd.length, e1]
    exact h1
  unfold indexOp at e
  split at e
  · obtain ⟨ad, us, rfl, h2, h3, h4⟩ := ha.list
    obtain ⟨y', rfl, h5, h6⟩ := dl rfl rfl h3 h4 e
    exact ix_list value slice pins s σ H _ _ v u Q I rx ry ⟨ad, us, _, y', rfl, rfl, h2.sq, h5, h6⟩ hs
  · obtain ⟨ad, us, rfl, h2, h3, h4⟩ := ha.tup
    obtain ⟨y', rfl, h5, h6⟩ := dl rfl rfl h3 h4 e
    exact ix_tup value slice pins s σ H _ _ v u Q I rx ry ⟨ad, us, _, y', rfl, rfl, h2.sq, h5, h6⟩ hs
  · split at e
    · rename_i hl
      simp only [Option.bind_eq_some_iff, Option.map_eq_some_iff] at e
      obtain ⟨j, e1, c, e2, rfl⟩ := e
      have hx := ha.str
      have hy := hb.int
      subst hx hy
      refine ix_str value slice pins s σ H _ _ v u Q I rx ry ⟨_, _, c, rfl, rfl, by rw [← lim_size]; simpa [Str.length] using hl, ?_, p.here rh rfl⟩ hs
      refine at_of ?_
      show (place _ _).bind _ = _
      rw [e1]
      exact e2
    · cases e
  · obtain ⟨j, e1, e2⟩ := Option.bind_eq_some_iff.mp e
    rw [Rep] at ha
    obtain ⟨ad, us, rfl, h2, h3, h4⟩ := ha
    obtain ⟨y', h5, h6⟩ := h4.get e2
    rw [hb.int] at ry
    refine ix_tup value slice pins s σ H _ _ v u Q I rx ry ⟨ad, us, _, y', rfl, rfl, h2.sq, ?_, p.here rh h6⟩ hs
    refine at_of ?_
    rw [← h4.length, e1]
    exact h5
  · split at e
    · rename_i ys hc
      split at e
      · obtain ⟨j, e1, e2⟩ := Option.bind_eq_some_iff.mp e
        rw [Rep] at ha
        obtain ⟨ad, rfl, hm⟩ := ha
        obtain ⟨us, h1, h2, h3⟩ := rh.cell _ _ _ hm hc
        obtain ⟨y', h4, h5⟩ := h3.get e2
        rw [hb.int] at ry
        refine ix_list value slice pins s σ H _ _ v u Q I rx ry ⟨ad, us, _, y', rfl, rfl, .inl (.inl h1), ?_, p.here rh h5⟩ hs
        refine at_of ?_
        rw [← h3.length, e1]
        exact h4
      · cases e
    · rename_i kvs hc
      split at e
      · rename_i hk
        rw [Rep] at ha
        obtain ⟨ad, rfl, hm⟩ := ha
        obtain ⟨ks, h1, h2, h3⟩ := rh.dcell _ _ _ hm hc
        obtain ⟨ky, rfl, rfl⟩ := key_of hb hk
        have g := h3.get ky
        rw [e] at g
        obtain ⟨o', hv, hr⟩ := g.some_of
        exact ix_dictK value slice pins s σ H _ _ v u Q I rx ry ⟨ad, ks, ky, o', rfl, rfl, h1, hv, p.here rh hr⟩ hs
      · cases e
    · cases e
  · obtain ⟨_, _, f⟩ := ha; exact f.elim
  · cases e
def plainIx : Expr → Bool
  | .Slice .. => false
  | _ => true
theorem plainIx_of {b : Expr} (h : plainIx b = true) : PlainIx b := by
  intro o i
  cases b <;> first | rfl | (simp [plainIx] at h)
theorem snd_ix {a b : Expr} {ra rb : Env → M PV} {pos : Pos} (hp : plainIx b = true) (ha : PE X a (tE X.K XC W ra)) (hb : PE X b (tE X.K XC W rb)) :
    PE X (.Subscript a b pos) (tE X.K XC W fun env => M.bnd (ra env) fun x => M.bnd (rb env) fun y => M.lift fun h => indexOp h x y) := by
  refine (pe_ix ixr_ev ha hb (plainIx_of hp)).to fun σ H Q q => ?_
  obtain ⟨env, h, z, m, rs, rh, out⟩ := q
  refine ⟨env, h, z, m, rs, rh, out.bnd.imp fun x h1 m1 H1 e1 rh1 o1 vx rx => ?_⟩
  refine ⟨env, h1, z, m1, rs.keep e1.keeps, rh1, o1.bnd.imp fun y h2 m2 H2 e2 rh2 o2 vy ry => ?_⟩
  obtain ⟨v, e, p⟩ := o2.lift
  exact ⟨x, y, h2, z, m2, v, rx.keep e2.keeps, ry, rh2, e, fun m' H' x' e' r' rr => p m' H' e' r' x' rr⟩

/-! ### a[lo:hi] -/
theorem bound_sIx {n : Nat} {i : Int} (d : Nat) : bound n i = HT.sIx n d (some i) := by
  unfold bound HT.sIx
  by_cases h : 0 ≤ i
  · rw [if_pos h]
    show _ = if i < 0 then _ else _
    rw [if_neg (by omega)]
  · rw [if_neg h]
    show _ = if i < 0 then _ else _
    rw [if_pos (by omega)]
    omega
theorem cut_sIx {α : Type} (xs : List α) (lo hi : Option Int) : cut xs lo hi = (xs.drop (HT.sIx xs.length 0 lo)).take (HT.sIx xs.length xs.length hi - HT.sIx xs.length 0 lo) := by
  unfold cut
  cases lo with
  | none => cases hi with
    | none => rfl
    | some j => simp only [bound_sIx xs.length]; rfl
  | some i => cases hi with
    | none => simp only [bound_sIx 0]; rfl
    | some j => simp only [bound_sIx (i := j) xs.length, bound_sIx (i := i) 0]
theorem RepDs.cutV {z m : List Addr} {H : Hp} {xs : List D} {us : List V} (lo hi : Option Int) (r : RepDs X.K z m H xs us) : RepDs X.K z m H (cut xs lo hi) (L2.cutV us lo hi) := by
  rw [cut_sIx]
  unfold L2.cutV
  rw [r.length]
  exact (r.drop _).take _
def rSlE (X : Cx) : V → Option Int → Option Int → Hp → VK → Prop := fun x lo hi H Q => ∃ a h z m v, Rep X.K z m H a x ∧ RelH X.K z m H h ∧ sliceOp h a lo hi = some v ∧ Post X.K z m H Q v h
theorem slr_ev : SlR X (rSlE X) := by
  intro pins s σ H x v vl vu lo hi sl Q I rx hs pl pu q
  obtain ⟨a, h, z, m, w, ra, rh, e, p⟩ := q
  have lst : ∀ {ad : Addr} {us : List V} {xs : List D}, x = .ref ad → SqL X.K H ad us → us.length ≤ sizeLine → RepDs X.K z m H xs us → w = .d (.list (cut xs lo hi)) → rSlL X.K x lo hi H Q := fun {ad us xs} hx h2 h3 h4 hw => by
    subst hw
    exact ⟨ad, us, hx, h2, fun q hq => p.lst rh (h4.cutV lo hi) (Nat.le_trans (cutV_length us lo hi) h3) hq⟩
  unfold sliceOp at e
  split at e
  · obtain ⟨ad, us, rfl, h2, h3, h4⟩ := ra.list
    exact sl_list pins s σ H _ v vl vu lo hi sl Q I rx hs pl pu (lst rfl h2.sq h3 h4 (Option.some.inj e).symm)
  · obtain ⟨ad, us, rfl, h2, h3, h4⟩ := ra.tup
    cases e
    have hc := h4.cutV (X := X) lo hi
    refine sl_tupA pins s σ H _ v vl vu lo hi sl Q I rx hs pl pu ⟨ad, us, rfl, h2.sq, fun hw => p.here rh ?_, fun hw q hq => p.tup rh hc (Nat.le_trans (cutV_length us lo hi) h3) hq⟩
    rw [Rep, RepD]
    refine ⟨ad, us, rfl, h2, h3, ?_⟩
    unfold L2.cutV at hc
    rw [hw.1, hw.2] at hc
    simpa using hc
  · split at e
    · rename_i hl
      cases e
      have hx := ra.str
      subst hx
      refine sl_str pins s σ H _ v vl vu lo hi sl Q I rx hs pl pu ⟨_, rfl, by rw [← lim_size]; simpa [Str.length] using hl, p.here rh ?_⟩
      show V.str _ = _
      rw [cut_sIx]
      simp [cutS, Str.length]
    · cases e
  · split at e
    · rename_i xs hd
      obtain ⟨ad, us, rfl, h2, h3, h4⟩ := deref_list rh ra hd
      exact sl_list pins s σ H _ v vl vu lo hi sl Q I rx hs pl pu (lst rfl h2 h3 h4 (Option.some.inj e).symm)
    · cases e
  · cases e

theorem snd_po0 : PO X none (tPo X.K XC W fun _ => M.ret none) := ⟨fun pins s σ H Q I q => po_none.run pins s σ H Q I (by
  obtain ⟨env, h, z, m, rs, rh, o⟩ := q
  exact o.ret m H (Ext.refl _ _) rh)⟩
theorem snd_po1 {e : Expr} {re : Env → M PV} (he : PE X e (tE X.K XC W re)) : PO X (some e) (tPo X.K XC W fun env => M.bnd (re env) fun x => M.lift fun _ => match x with
    | .d (.int i) => some (some i)
    | _ => .none) := ⟨fun pins s σ H Q I q => (po_some he).run pins s σ H Q I (by
  obtain ⟨env, h, z, m, rs, rh, out⟩ := q
  refine ⟨env, h, z, m, rs, rh, out.bnd.imp fun x h1 m1 H1 e1 rh1 o1 vx rx => ?_⟩
  obtain ⟨v, e, p⟩ := o1.lift
  split at e
  · cases e
    exact ⟨_, rx.int, p m1 H1 (Ext.refl _ _) rh1⟩
  · cases e)⟩
theorem snd_sl {a : Expr} {lo hi : Option Expr} {ra : Env → M PV} {rl rh' : Env → M (Option Int)} {pos p2 : Pos} (ha : PE X a (tE X.K XC W ra)) (hl : PO X lo (tPo X.K XC W rl)) (hh : PO X hi (tPo X.K XC W rh')) :
    PE X (.Subscript a (.Slice lo hi none p2) pos) (tE X.K XC W fun env => M.bnd (ra env) fun x => M.bnd (rl env) fun i => M.bnd (rh' env) fun j => M.lift fun h => sliceOp h x i j) := by
  refine (pe_slice slr_ev ha hl hh).to fun σ H Q q => ?_
  obtain ⟨env, h, z, m, rs, rh, out⟩ := q
  refine ⟨env, h, z, m, rs, rh, out.bnd.imp fun x h1 m1 H1 e1 rh1 o1 vx rx => ?_⟩
  refine ⟨env, h1, z, m1, rs.keep e1.keeps, rh1, o1.bnd.imp fun i h2 m2 H2 e2 rh2 o2 => ?_⟩
  refine ⟨env, h2, z, m2, (rs.keep e1.keeps).keep e2.keeps, rh2, o2.bnd.imp fun j h3 m3 H3 e3 rh3 o3 => ?_⟩
  obtain ⟨v, e, p⟩ := o3.lift
  exact ⟨x, h3, z, m3, v, (rx.keep e2.keeps).keep e3.keeps, rh3, e, fun m' H' x' e' r' rr => p m' H' e' r' x' rr⟩
end
end Ev
end

section
/-! EvSnd4: methods. -/
set_option autoImplicit false
set_option linter.all false
set_option Elab.async false
set_option maxRecDepth 100000
set_option maxHeartbeats 1000000
namespace Ev
open PySem L2 PyProof.Rows

section
variable {P : TrP} {T : Nat → Option Fn} {C : Nat → Option PV} {XC : Nat → Option Addr} {k : Nat} {N : List Str} {sc : Scope} {X : Cx} {W : WX}
theorem near_inl {a : D} {ys : List D} (h : near a (.list ys) = true) : min (PyData.depthAll (D.pys ys)) a.py.depth ≤ 60 := near_in (.inl h)
theorem find_pys (xs : List D) (d : D) : SeqAt.dataPlace (D.pys xs) d.py = xs.findIdx? fun x => D.eqv x d := by
  unfold SeqAt.dataPlace
  rw [D.pys_map, List.findIdx?_map]
  congr 1
  funext x
  exact D.py_eqv x d
theorem count_pys (xs : List D) (d : D) : ((D.pys xs).countP fun y => PyData.eqv y d.py) = xs.countP fun x => D.eqv x d := by
  rw [D.pys_map, List.countP_map]
  congr 1
  funext x
  exact D.py_eqv x d
/-- the argument is one, with data -/
def rAt (X : Cx) (f : Hh → List PV → Option PV) : List V → Hp → VK → Prop := fun us H Q => ∃ as h z m v, Reps X.K z m H as us ∧ RelH X.K z m H h ∧ f h as = some v ∧ Post X.K z m H Q v h
theorem one_deref {h : Hh} {f : D → Option PV} {as : List PV} {v : PV} {z m : List Addr} {H : Hp} {us : List V} (rs : Reps X.K z m H as us) (rh : RelH X.K z m H h) (e : one (fun k => match deref h k with | some d => f d | _ => none) as = some v) :
    ∃ u d, us = [u] ∧ Dp X.K H u d.py ∧ f d = some v := by
  obtain ⟨x, rfl, e2⟩ := one_of e
  obtain ⟨u, rfl, ru⟩ := reps1 rs
  clear e
  split at e2
  · rename_i d e1
    exact ⟨u, d, rfl, deref_seq rh ru e1, e2⟩
  · cases e2
theorem mt_indexL (hr : Room k X.A) : MtR X "list.index" (fun x us H Q => ∃ a ws xs as h z m v, x = .ref a ∧ SqL X.K H a ws ∧ RepDs X.K z m H xs ws ∧ Reps X.K z m H as us ∧ RelH X.K z m H h ∧ one (indexL h xs) as = some v ∧ Post X.K z m H Q v h) := by
  intro pins s σ H x us w vs Q I rx rs q
  obtain ⟨a, ws, xs, as, h, z, m, v, rfl, hs, rd, ra, rh, e, p⟩ := q
  cases rx
  obtain ⟨u, d, rfl, dp, e⟩ := one_deref (f := fun d => if near d (.list xs) then (xs.findIdx? fun x => D.eqv x d).map fun (n : Nat) => .d (.int (n : Int)) else .none) ra rh e
  split at e
  · rename_i hn
    obtain ⟨j, e1, rfl⟩ := Option.map_eq_some_iff.mp e
    obtain ⟨uy, rfl, r1⟩ := vals1 rs
    obtain ⟨bs, r2⟩ := Dp.reads I _ _ _ dp r1
    obtain ⟨its, rv, ⟨⟨cls, dd, data, sls⟩, n, ho, hc, hdn, hdt⟩, hlen⟩ := I.list hs
    simp only at hc hdt
    subst hc hdt
    obtain ⟨as', h4⟩ := Dp.readsAll I _ _ its (RepDs.dp rd) rv
    have h4 : ReadsAll s.heap its.toArray.toList (D.pys xs) as' := h4
    have hu : X.A.units + 1 + min (PyData.depthAll (D.pys xs)) d.py.depth < cLine := by have := near_inl hn; have := units_of hr; omega
    rw [← find_pys] at e1
    obtain ⟨hj, hit, hno⟩ := SeqAt.hit_at h4 (D.plains xs) e1
    have hjz : (j : Int) < 2 ^ 63 - 1 := by
      have h5 : its.toArray.size = its.length := by simp
      have h6 := sizeLine_eq
      have h7 := rv.length
      omega
    exact call_meets PySem.F.slot_list_index ⟨_, ho, rfl⟩ PySem.F.entry_list_index (PySem.F.args_list_index_2 _ _)
      (SeqAt.list_indexAt a its.toArray n dd sls uy (fun u => PyData.eqv (SeqAt.readOf s.heap u) d.py) j hj hjz hit hno) ⟨ho, SeqAt.items_plain h4 r2 (D.plains xs) (D.plain d) hu, ⟨.int (j : Nat), H, I.tok _, ⟨_, rfl⟩, p.here rh rfl⟩⟩
  · cases e
theorem mt_countL (hr : Room k X.A) : MtR X "list.count" (fun x us H Q => ∃ a ws xs as h z m v, x = .ref a ∧ SqL X.K H a ws ∧ RepDs X.K z m H xs ws ∧ Reps X.K z m H as us ∧ RelH X.K z m H h ∧ one (countL h xs) as = some v ∧ Post X.K z m H Q v h) := by
  intro pins s σ H x us w vs Q I rx rs q
  obtain ⟨a, ws, xs, as, h, z, m, v, rfl, hs, rd, ra, rh, e, p⟩ := q
  cases rx
  obtain ⟨u, d, rfl, dp, e⟩ := one_deref (f := fun d => if near d (.list xs) then some (.d (.int (xs.countP fun x => D.eqv x d))) else .none) ra rh e
  split at e
  · rename_i hn
    cases e
    obtain ⟨uy, rfl, r1⟩ := vals1 rs
    obtain ⟨bs, r2⟩ := Dp.reads I _ _ _ dp r1
    obtain ⟨its, rv, pl, hlen⟩ := I.list hs
    obtain ⟨as', h4⟩ := Dp.readsAll I _ _ its (RepDs.dp rd) rv
    have h4 : ReadsAll s.heap its.toArray.toList (D.pys xs) as' := h4
    have hu : X.A.units + 1 + min (PyData.depthAll (D.pys xs)) d.py.depth < cLine := by have := near_inl hn; have := units_of hr; omega
    refine SeqAt.count_list_data pl.isList h4 r2 (D.plains xs) (D.plain d) hu ?_
    rw [count_pys]
    exact ⟨.int _, H, I.tok _, ⟨_, rfl⟩, p.here rh rfl⟩
  · cases e
theorem mt_indexT (hr : Room k X.A) : MtR X "tuple.index" (fun x us H Q => ∃ a ws xs as h z m v, x = .ref a ∧ SqT X.K H a ws ∧ RepDs X.K z m H xs ws ∧ Reps X.K z m H as us ∧ RelH X.K z m H h ∧ one (indexL h xs) as = some v ∧ Post X.K z m H Q v h) := by
  intro pins s σ H x us w vs Q I rx rs q
  obtain ⟨a, ws, xs, as, h, z, m, v, rfl, hs, rd, ra, rh, e, p⟩ := q
  cases rx
  obtain ⟨u, d, rfl, dp, e⟩ := one_deref (f := fun d => if near d (.list xs) then (xs.findIdx? fun x => D.eqv x d).map fun (n : Nat) => .d (.int (n : Int)) else .none) ra rh e
  split at e
  · rename_i hn
    obtain ⟨j, e1, rfl⟩ := Option.map_eq_some_iff.mp e
    obtain ⟨uy, rfl, r1⟩ := vals1 rs
    obtain ⟨bs, r2⟩ := Dp.reads I _ _ _ dp r1
    obtain ⟨its, rv, pl, hlen⟩ := I.tuple hs
    obtain ⟨⟨cls, dd, data, sls⟩, ho, hc, n, hdt⟩ := pl
    simp only at hc hdt
    subst hc hdt
    obtain ⟨as', h4⟩ := Dp.readsAll I _ _ its (RepDs.dp rd) rv
    have h4 : ReadsAll s.heap its.toArray.toList (D.pys xs) as' := h4
    have hu : X.A.units + 1 + min (PyData.depthAll (D.pys xs)) d.py.depth < cLine := by have := near_inl hn; have := units_of hr; omega
    rw [← find_pys] at e1
    obtain ⟨hj, hit, hno⟩ := SeqAt.hit_at h4 (D.plains xs) e1
    exact call_meets PySem.F.slot_tuple_index ⟨_, ho, rfl⟩ PySem.F.entry_tuple_index (PySem.F.args_tuple_index_2 _ _)
      (TI.tuple_indexAt a its.toArray n dd sls uy (fun u => PyData.eqv (SeqAt.readOf s.heap u) d.py) j hj hit hno) ⟨ho, SeqAt.items_plain h4 r2 (D.plains xs) (D.plain d) hu, ⟨.int (j : Nat), H, I.tok _, ⟨_, rfl⟩, p.here rh rfl⟩⟩
  · cases e
theorem mt_countT (hr : Room k X.A) : MtR X "tuple.count" (fun x us H Q => ∃ a ws xs as h z m v, x = .ref a ∧ SqT X.K H a ws ∧ RepDs X.K z m H xs ws ∧ Reps X.K z m H as us ∧ RelH X.K z m H h ∧ one (countL h xs) as = some v ∧ Post X.K z m H Q v h) := by
  intro pins s σ H x us w vs Q I rx rs q
  obtain ⟨a, ws, xs, as, h, z, m, v, rfl, hs, rd, ra, rh, e, p⟩ := q
  cases rx
  obtain ⟨u, d, rfl, dp, e⟩ := one_deref (f := fun d => if near d (.list xs) then some (.d (.int (xs.countP fun x => D.eqv x d))) else .none) ra rh e
  split at e
  · rename_i hn
    cases e
    obtain ⟨uy, rfl, r1⟩ := vals1 rs
    obtain ⟨bs, r2⟩ := Dp.reads I _ _ _ dp r1
    obtain ⟨its, rv, pl, hlen⟩ := I.tuple hs
    obtain ⟨as', h4⟩ := Dp.readsAll I _ _ its (RepDs.dp rd) rv
    have h4 : ReadsAll s.heap its.toArray.toList (D.pys xs) as' := h4
    have hu : X.A.units + 1 + min (PyData.depthAll (D.pys xs)) d.py.depth < cLine := by have := near_inl hn; have := units_of hr; omega
    refine SeqAt.count_tuple_data pl h4 r2 (D.plains xs) (D.plain d) hu ?_
    rw [count_pys]
    exact ⟨.int _, H, I.tok _, ⟨_, rfl⟩, p.here rh rfl⟩
  · cases e

theorem _root_.L2.PE.never {X : Cx} {e : Expr} {t : TE} (h : ∀ σ H Q, ¬ t σ H Q) : PE X e t := ⟨fun _ _ σ H Q _ q => (h σ H Q q).elim⟩
def notCall : Expr → Bool
  | .Call .. => false
  | _ => true
theorem base_of {o : Expr} {name : Str} {env : PySem.Env} (h : notCall o = true) : attributeBase o name env (eval o env) = eval o env := by
  cases o <;> first | rfl | (simp [notCall] at h)
theorem few_of {e : Expr} {es : List Expr} {env : PySem.Env} {pos : Pos} (h : (e :: es).all notStar = true) (hl : (e :: es).length ≤ 20) : ((backTo pos (starEach (e :: es) env)).all (fun x => !x.1) && (backToKw pos (keywordEach [] env)).all (fun x => x.1.isSome)
      && decide ((e :: es).length + ([] : List Keyword).length + (if ([] : List Keyword).isEmpty then 0 else 1) < 30)) = true := by
  rw [stars_all _ _ _ h, Bool.true_and]
  have h1 : (backToKw pos (keywordEach [] env)).all (fun x => x.1.isSome) = true := rfl
  rw [h1, Bool.true_and]
  have h2 : (if ([] : List Keyword).isEmpty then 0 else 1) = 0 := rfl
  rw [h2]
  have h3 : ([] : List Keyword).length = 0 := rfl
  rw [h3]
  exact decide_eq_true (by omega)
/-- the guard for lists -/
def gL (h : Hh) : PV → Bool
  | .d (.list _) => true
  | .ref l => isLst h l
  | _ => false
/-- the guard for dicts -/
def gD (h : Hh) : PV → Bool
  | .ref l => isDic h l
  | _ => false
/-- the guard for texts -/
def gS : PV → Bool
  | .d (.str _) => true
  | _ => false
theorem listOf {x : PV} {u : V} {h : Hh} {z m : List Addr} {H : Hp} (rh : RelH X.K z m H h) (r : Rep X.K z m H x u) (e : gL h x = true) : tyV X.K "list" u H ∧ ∃ a, u = .ref a ∧ ((∃ us, SqL X.K H a us ∧ H a = some (.lst us)) ∧ ∀ (m' : List Addr) (H' : Hp) (h' : Hh) (xs : List D), Ext m H m' H' → RelH X.K z m' H' h' → deref h' x = some (.list xs) → ∃ ws, SqL X.K H' a ws ∧ RepDs X.K z m' H' xs ws) := by
  have key : (∃ xs, x = .d (.list xs)) ∨ ∃ l, x = .ref l := by
    cases x with
    | d y => cases y <;> first | exact .inl ⟨_, rfl⟩ | (simp [gL] at e)
    | ref l => exact .inr ⟨l, rfl⟩
    | dict _ => simp [gL] at e
    | scr _ => simp [gL] at e
    | tp _ => simp [gL] at e
  have fin : ∀ a us, u = .ref a → H a = some (.lst us) → tyV X.K "list" u H ∧ ∃ a, u = .ref a ∧ ((∃ us, SqL X.K H a us ∧ H a = some (.lst us)) ∧ ∀ (m' : List Addr) (H' : Hp) (h' : Hh) (xs : List D), Ext m H m' H' → RelH X.K z m' H' h' → deref h' x = some (.list xs) → ∃ ws, SqL X.K H' a ws ∧ RepDs X.K z m' H' xs ws) := by
    rintro a us rfl h1
    refine ⟨.inl ⟨rfl, us, .inl (.inl h1)⟩, a, rfl, ⟨us, .inl (.inl h1), h1⟩, fun m' H' h' xs e' rh' e2 => ?_⟩
    obtain ⟨a', us', h3, h4, h5, h6⟩ := deref_list rh' (r.keep e'.keeps) e2
    cases h3
    exact ⟨us', h4, h6⟩
  rcases key with ⟨xs, rfl⟩ | ⟨l, rfl⟩
  · obtain ⟨a, us, rfl, h2, _, _⟩ := r.list
    exact fin a us rfl h2.1
  · obtain ⟨a, rfl, hm⟩ := id r
    have hc : ∃ xs, h[l]? = some (.lst xs) := by
      simp only [gL, isLst] at e
      split at e
      · exact ⟨_, ‹_›⟩
      · cases e
    obtain ⟨xs, hc⟩ := hc
    obtain ⟨us, h1, _⟩ := rh.cell l a xs hm hc
    exact fin a us rfl h1
/-! ### texts cut and joined -/
theorem splitC_ne (c : Nat) : ∀ s : List Nat, splitC c s ≠ []
  | [] => by simp [splitC]
  | x :: r => by
    rw [splitC]
    split
    · simp
    · split <;> simp
theorem spl_splitC (c : Nat) : ∀ (s acc : List Nat), TL.spl [c] 0 acc s = (match splitC c s with
    | w :: ws => (acc ++ w) :: ws
    | [] => [acc])
  | [], acc => by simp [TL.spl, splitC]
  | x :: r, acc => by
    have hp : TL.pre [c] (x :: r) = decide (x = c) := by
      by_cases h : x = c <;> simp [TL.pre, h]
    rw [TL.spl, hp]
    by_cases h : x = c
    · subst h
      simp only [decide_true, if_true, List.length_singleton, Nat.sub_self, splitC]
      rw [spl_splitC x r []]
      cases e : splitC x r with
      | nil => exact (splitC_ne x r e).elim
      | cons w ws => simp
    · simp only [h, decide_false, Bool.false_eq_true, if_false, splitC]
      rw [spl_splitC c r (acc ++ [x])]
      cases splitC c r <;> simp
theorem splitC_len (c : Nat) : ∀ s : List Nat, (splitC c s).length ≤ s.length + 1
  | [] => by simp [splitC]
  | x :: r => by
    have := splitC_len c r
    rw [splitC]
    split
    · simp; omega
    · split
      · rename_i e; rw [e] at this; simp at this ⊢; omega
      · simp
theorem split_at {s : List Nat} {c : Nat} (hc : c < 256) : (PySem.Txt.split ⟨s.toArray⟩ ⟨[c].toArray⟩).map TL.tl = splitC c s := by
  rw [TL.split_spl _ _ (by simp [TL.tl]) (TL.kind_ok (by simp [hc]))]
  show TL.spl [c] 0 [] s = _
  rw [spl_splitC]
  cases e : splitC c s with
  | nil => exact (splitC_ne c s e).elim
  | cons w ws => simp
theorem repDs_strs {K : PySem.W.Frag} {z m : List Addr} {H : Hp} : ∀ (ys : List Str), RepDs K z m H ((ys.map TL.tl).map D.str) (ys.map V.str)
  | [] => by rw [List.map_nil, List.map_nil, RepDs, List.map_nil]
  | y :: ys => by
    rw [List.map_cons, List.map_cons, RepDs]
    exact ⟨_, _, rfl, by rw [RepD], repDs_strs ys⟩
theorem strs_repDs {K : PySem.W.Frag} {z m : List Addr} {H : Hp} : ∀ {xs : List D} {us : List V} {ws : List (List Nat)}, RepDs K z m H xs us → strsOf xs = some ws → us = (ws.map fun w => (⟨w.toArray⟩ : Str)).map V.str
  | [], us, ws, h, e => by
    simp [strsOf] at e; subst e
    rw [RepDs] at h
    exact h
  | x :: xs, us, ws, h, e => by
    rw [RepDs] at h
    obtain ⟨u, r, rfl, h2, h3⟩ := h
    cases x with
    | str s =>
      simp only [strsOf, Option.map_eq_some_iff] at e
      obtain ⟨ws', e1, rfl⟩ := e
      rw [RepD] at h2
      rw [h2, strs_repDs h3 e1]; rfl
    | _ => simp [strsOf] at e
theorem joinL_eq (S : List Nat) : ∀ ws : List (List Nat), TL.joinL S ws = joinL S ws
  | [] => rfl
  | [_] => rfl
  | p :: q :: r => by
    rw [TL.joinL, joinL, joinL_eq S (q :: r), List.append_assoc]
    intro h; cases h
theorem mt_splitE : MtR X "str.split" (fun x us H Q => ∃ s as h z m v, x = .str ⟨s.toArray⟩ ∧ Reps X.K z m H as us ∧ RelH X.K z m H h ∧ one (splitOp s) as = some v ∧ Post X.K z m H Q v h) := by
  intro pins σs σ H x us w vs Q I rx rs q
  obtain ⟨s, as, h, z, m, v, rfl, ra, rh, e, p⟩ := q
  have hv : ∃ c, as = [.d (.str [c])] ∧ c < 256 ∧ s.length + 2 ≤ LIM ∧ v = .d (.list ((splitC c s).map D.str)) := by
    revert e
    clear ra p
    intro e
    cases as with
    | nil => cases e
    | cons a r =>
      cases r with
      | cons _ _ => cases e
      | nil =>
        simp only [one, splitOp] at e
        split at e
        · split at e
          · rename_i c hq
            cases e
            exact ⟨c, rfl, hq.1, hq.2, rfl⟩
          · cases e
        · cases e
  obtain ⟨c, rfl, hc, hl, rfl⟩ := hv
  obtain ⟨u, r, rfl, h2, h3⟩ := ra
  obtain rfl : r = [] := h3
  have h2 : u = .str ⟨[c].toArray⟩ := by rw [Rep, RepD] at h2; exact h2
  subst h2
  refine mt_split pins σs σ H _ _ w vs Q I rx rs ⟨_, _, rfl, rfl, rfl, ?_, fun q hq => ?_⟩
  · show s.length + 2 ≤ sizeLine
    rw [← lim_size]; exact hl
  · have hd := repDs_strs (K := X.K) (z := z) (m := m) (H := H) (PySem.Txt.split ⟨s.toArray⟩ ⟨[c].toArray⟩)
    rw [split_at hc] at hd
    refine Post.lst p rh hd ?_ hq
    rw [List.length_map, ← List.length_map (f := TL.tl), split_at hc, ← lim_size]
    have := splitC_len c s
    omega
theorem mt_joinE : MtR X "str.join" (fun x us H Q => ∃ s as h z m v, x = .str ⟨s.toArray⟩ ∧ Reps X.K z m H as us ∧ RelH X.K z m H h ∧ one (joinOp h s) as = some v ∧ Post X.K z m H Q v h) := by
  intro pins σs σ H x us w vs Q I rx rs q
  obtain ⟨s, as, h, z, m, v, rfl, ra, rh, e, p⟩ := q
  have hv : ∃ a xs ws, as = [a] ∧ (deref h a = some (.list xs) ∨ deref h a = some (.tup xs)) ∧ strsOf xs = some ws ∧ (ws.map List.length).sum + ws.length * s.length ≤ LIM ∧ v = .d (.str (joinL s ws)) := by
    clear ra p
    cases as with
    | nil => cases e
    | cons a r =>
      cases r with
      | cons _ _ => cases e
      | nil =>
        simp only [one, joinOp] at e
        split at e
        · rename_i xs hd
          obtain ⟨ws, h1, h2⟩ := Option.bind_eq_some_iff.mp e
          split at h2
          · cases h2
            exact ⟨a, xs, ws, rfl, .inl hd, h1, ‹_›, rfl⟩
          · cases h2
        · rename_i xs hd
          obtain ⟨ws, h1, h2⟩ := Option.bind_eq_some_iff.mp e
          split at h2
          · cases h2
            exact ⟨a, xs, ws, rfl, .inr hd, h1, ‹_›, rfl⟩
          · cases h2
        · cases e
  obtain ⟨a, xs, ws, rfl, hd, hw, hl, rfl⟩ := hv
  obtain ⟨u, r, rfl, h2, h3⟩ := ra
  obtain rfl : r = [] := h3
  have key : ∃ b us', u = .ref b ∧ (SqL X.K H b us' ∨ SqT X.K H b us') ∧ RepDs X.K z m H xs us' := by
    rcases hd with hd | hd
    · obtain ⟨b, us', q1, q2, q3, q4⟩ := deref_list rh h2 hd
      exact ⟨b, us', q1, .inl q2, q4⟩
    · obtain ⟨b, us', q1, q2, q3, q4⟩ := deref_tup rh h2 hd
      exact ⟨b, us', q1, .inr q2.sq, q4⟩
  obtain ⟨b, us', rfl, hq, hrd⟩ := key
  have hus := strs_repDs hrd hw
  rw [hus] at hq
  refine mt_join pins σs σ H _ _ w vs Q I rx rs ⟨_, b, _, rfl, rfl, hq, ?_, ?_⟩
  · rw [List.map_map, List.length_map]
    have : (ws.map ((fun x : Str => x.length) ∘ fun w => (⟨w.toArray⟩ : Str))) = ws.map List.length := by
      refine List.map_congr_left fun w _ => ?_
      show (⟨w.toArray⟩ : Str).length = _
      rw [TL.len_tl]
    rw [this, show (⟨s.toArray⟩ : Str).length = s.length from by rw [TL.len_tl]]
    exact hl
  · refine p.here rh ?_
    rw [Rep, RepD, TL.join_eq]
    refine congrArg V.str (TL.ext_tl ?_)
    rw [TL.tl_join, List.map_map, joinL_eq]
    show _ = joinL s ws
    congr 1
    conv => rhs; rw [← List.map_id ws]
    exact List.map_congr_left fun w _ => rfl
theorem len_parts (x : Str) (cuts : List Nat) (w : Nat) : (Builtin.Str.partsBetween x cuts w).length = cuts.length + 1 := by
  unfold Builtin.Str.partsBetween
  simp
theorem count_at {s : List Nat} {c : Nat} (hc : c < 256) : PySem.Txt.count ⟨s.toArray⟩ ⟨[c].toArray⟩ = ((splitC c s).length : Int) - 1 := by
  have h := congrArg List.length (split_at (s := s) hc)
  rw [List.length_map] at h
  rw [← h]
  unfold PySem.Txt.count PySem.Txt.split
  split
  · rename_i q
    have hs : s = [] := by
      rw [Bool.or_eq_true] at q
      rcases q with q | q
      · have q := of_decide_eq_true q
        rw [TL.len_tl, TL.len_tl] at q
        simp [TL.tl] at q
        simpa using q
      · exact (TL.kind_ok (x := ⟨s.toArray⟩) (by simp [hc]) (of_decide_eq_true q)).elim
    subst hs
    obtain ⟨f, hch, _⟩ := PySem.StrLaws.occ_tight ⟨([] : List Nat).toArray⟩ ⟨[c].toArray⟩ (by show 1 ≤ 1; omega)
    cases ho : Builtin.Str.occurrences ⟨([] : List Nat).toArray⟩ ⟨[c].toArray⟩ 0 (⟨([] : List Nat).toArray⟩ : Str).length ((⟨([] : List Nat).toArray⟩ : Str).length + 1) with
    | nil => rfl
    | cons a r =>
      rw [ho] at hch
      have z : a + 1 ≤ 0 := hch.2.1.1
      omega
  · split
    · rename_i q
      rw [List.isEmpty_iff] at q
      rw [q]; rfl
    · rw [len_parts]
      omega
theorem mt_countSE : MtR X "str.count" (fun x us H Q => ∃ s as h z m v, x = .str ⟨s.toArray⟩ ∧ Reps X.K z m H as us ∧ RelH X.K z m H h ∧ one (countS s) as = some v ∧ Post X.K z m H Q v h) := by
  intro pins σs σ H x us w vs Q I rx rs q
  obtain ⟨s, as, h, z, m, v, rfl, ra, rh, e, p⟩ := q
  have hv : ∃ c, as = [.d (.str [c])] ∧ c < 256 ∧ v = .d (.int (((splitC c s).length : Int) - 1)) := by
    clear ra p
    cases as with
    | nil => cases e
    | cons a r =>
      cases r with
      | cons _ _ => cases e
      | nil =>
        simp only [one, countS] at e
        split at e
        · split at e
          · rename_i c hq
            cases e
            exact ⟨c, rfl, hq, rfl⟩
          · cases e
        · cases e
  obtain ⟨c, rfl, hc, rfl⟩ := hv
  obtain ⟨u, r, rfl, h2, h3⟩ := ra
  obtain rfl : r = [] := h3
  have h2 : u = .str ⟨[c].toArray⟩ := by rw [Rep, RepD] at h2; exact h2
  subst h2
  refine mt_count pins σs σ H _ _ w vs Q I rx rs ⟨_, _, rfl, rfl, ?_⟩
  rw [count_at hc]
  exact p.here rh (by rw [Rep, RepD])
theorem isDic_of {h : Hh} {l : Nat} (e : isDic h l = true) : ∃ kvs, dicAt h (.ref l) = some kvs := by
  unfold isDic at e
  unfold dicAt
  cases hc : h[l]? with
  | none => rw [hc] at e; cases e
  | some c =>
    cases c with
    | lst _ => rw [hc] at e; cases e
    | dic kvs => exact ⟨kvs, by dsimp only; rw [hc]⟩
theorem meth_count {h : Hh} {x : PV} {as : List PV} (hx : ∀ s, x ≠ .d (.str s)) : meth h .count x as = match deref h x with
    | some (.list xs) => one (countL h xs) as
    | _ => .none := by
  cases x with
  | d y => cases y <;> first | rfl | exact (hx _ rfl).elim
  | _ => rfl
theorem mt_getE (hr : Room k X.A) : MtR X "dict.get" (fun x us H Q => ∃ a ks kvs as h z m v, x = .ref a ∧ H a = some (.dK ks) ∧ RepK X.K z m H kvs ks ∧ Reps X.K z m H as us ∧ RelH X.K z m H h ∧
    (getA1 kvs as = some v ∨ getA2 kvs as = some v) ∧ Post X.K z m H Q v h) := by
  intro pins s σ H x us w vs Q I rx rs q
  obtain ⟨a, ks, kvs, as, h, z, m, v, rfl, hd, rk, ra, rh, e, p⟩ := q
  cases rx
  have hu := units_of hr
  have getD : ∀ {o : Option PV} {q : Option V} {d : PV} {y : V}, RepO X.K z m H o q → Rep X.K z m H d y → Rep X.K z m H (o.getD d) (q.getD y) := fun h1 h2 => by
    cases h1 with
    | no => exact h2
    | is h => exact h
  rcases e with e | e
  · unfold getA1 at e
    split at e
    · rename_i k0
      split at e
      · rename_i hk
        cases e
        rw [Reps] at ra
        obtain ⟨u, r, rfl, r1, r2⟩ := ra
        rw [Reps] at r2
        subst r2
        obtain ⟨ky, rfl, rfl⟩ := key_of r1 hk
        cases rs with
        | cons rv rs =>
          cases rs
          exact d_get1 (by omega) I (DGet.k hd) rv fun w' s' I' rw' => ⟨_, H, I', rw', p.here rh (getD (rk.get ky) (by rw [Rep, RepD]))⟩
      · cases e
    · cases e
  · unfold getA2 at e
    split at e
    · rename_i k0 w0
      split at e
      · rename_i hk
        cases e
        rw [Reps] at ra
        obtain ⟨u, r, rfl, r1, r2⟩ := ra
        rw [Reps] at r2
        obtain ⟨u2, r3, rfl, r4, r5⟩ := r2
        rw [Reps] at r5
        subst r5
        obtain ⟨ky, rfl, rfl⟩ := key_of r1 hk
        cases rs with
        | cons rv rs =>
          cases rs with
          | cons rv2 rs =>
            cases rs
            exact d_get2 (by omega) I (DGet.k hd) rv rv2 fun w' s' I' rw' => ⟨_, H, I', rw', p.here rh (getD (rk.get ky) r4)⟩
      · cases e
    · cases e
theorem snd_mt (hr : Room k X.A) {m : Mt} {name : Str} {o e : Expr} {es : List Expr} {ro : Env → M PV} {rs : Env → M (List PV)} {apos cpos : Pos} (hm : trMt name (e :: es).length = some m) (ho : notCall o = true) (hl : (e :: es).length ≤ 20) (hline : (apos.endLine == cpos.line) = true)
    (hst : (e :: es).all notStar = true) (po : PE X o (tE X.K XC W ro)) (ha : PA X (e :: es) (tEs X.K XC W rs)) :
    PE X (.Call (.Attribute o name apos) (e :: es) [] cpos) (tE X.K XC W fun env => M.bnd (ro env) fun x => M.bnd (guardH fun h => mtOk h m x) fun _ => M.bnd (rs env) fun xs => M.lift fun h => meth h m x xs) := by
  obtain ⟨q1, q2⟩ := starEachs (pos := cpos) (env := X.env) hst
  have go : ∀ {id : String} {r : V → List V → Hp → VK → Prop}, Slot "list" name id → typeOf (.builtin id) = pure (.type "method_descriptor") → MtR X id r →
      (∀ (x : PV) (as : List PV) (h : Hh) (z m' : List Addr) (H : Hp) (a : Addr) (us : List V) (ws : List V) (xs : List D) (v : PV) (Q : VK), (∀ s, x ≠ .d (.str s)) → deref h x = some (.list xs) → SqL X.K H a ws → RepDs X.K z m' H xs ws → Reps X.K z m' H as us → RelH X.K z m' H h → meth h m x as = some v → Post X.K z m' H Q v h → r (.ref a) us H Q) →
      (∀ x h as v, (∀ s, x ≠ .d (.str s)) → meth h m x as = some v → ∃ xs, deref h x = some (.list xs)) →
      PE X (.Call (.Attribute o name apos) (e :: es) [] cpos) (tE X.K XC W fun env => M.bnd (ro env) fun x => M.bnd (guardH fun h => gL h x) fun _ => M.bnd (rs env) fun xs => M.lift fun h => meth h m x xs) := by
    intro id r slot hty hmt hrule hdr
    refine (pe_bm PySem.F.plainAttrs_list slot hty hmt po ha (base_of ho) (few_of hst hl) hline q1 q2).to fun σ H Q q => ?_
    obtain ⟨env, h, z, m1, rs', rh, out⟩ := q
    refine ⟨env, h, z, m1, rs', rh, out.bnd.imp fun x h1 m2 H1 e1 rh1 o1 vx rx => ?_⟩
    obtain ⟨_, e2, p2⟩ := o1.bnd.lift
    have hk : gL h1 x = true := by
      cases hq : gL h1 x with
      | true => rfl
      | false => simp [hq] at e2
    obtain ⟨ty, a, rfl, _, hd⟩ := listOf rh1 rx hk
    have hk : ∀ s, x ≠ .d (.str s) := fun s q => by subst q; simp [gL] at hk
    have o2 := p2 m2 H1 (Ext.refl _ _) rh1
    refine ⟨ty, env, h1, z, m2, rs'.keep e1.keeps, rh1, o2.bnd.imp fun as h2 m3 H2 e3 rh2 o3 us rus => ?_⟩
    obtain ⟨v, e4, p4⟩ := o3.lift
    obtain ⟨xs, hxs⟩ := hdr x h2 as v hk e4
    obtain ⟨ws, h5, h6⟩ := hd _ _ _ _ e3 rh2 hxs
    exact hrule x as h2 z m3 H2 a us ws xs v Q hk hxs h5 h6 rus rh2 e4 fun m' H' x' e' r' rr => p4 m' H' e' r' x' rr
  have goS : ∀ {id : String} {r : V → List V → Hp → VK → Prop}, Slot "str" name id → typeOf (.builtin id) = pure (.type "method_descriptor") → MtR X id r →
      (∀ (s : List Nat) (as : List PV) (h : Hh) (z m' : List Addr) (H : Hp) (us : List V) (v : PV) (Q : VK), Reps X.K z m' H as us → RelH X.K z m' H h → meth h m (.d (.str s)) as = some v → Post X.K z m' H Q v h → r (.str ⟨s.toArray⟩) us H Q) →
      PE X (.Call (.Attribute o name apos) (e :: es) [] cpos) (tE X.K XC W fun env => M.bnd (ro env) fun x => M.bnd (guardH fun _ => gS x) fun _ => M.bnd (rs env) fun xs => M.lift fun h => meth h m x xs) := by
    intro id r slot hty hmt hrule
    refine (pe_bm PySem.F.plainAttrs_str slot hty hmt po ha (base_of ho) (few_of hst hl) hline q1 q2).to fun σ H Q q => ?_
    obtain ⟨env, h, z, m1, rs', rh, out⟩ := q
    refine ⟨env, h, z, m1, rs', rh, out.bnd.imp fun x h1 m2 H1 e1 rh1 o1 vx rx => ?_⟩
    obtain ⟨_, e2, p2⟩ := o1.bnd.lift
    have hk : ∃ s, x = .d (.str s) := by
      cases x with
      | d y => cases y <;> first | exact ⟨_, rfl⟩ | (simp [gS] at e2)
      | _ => simp [gS] at e2
    obtain ⟨s, rfl⟩ := hk
    have hx : vx = .str ⟨s.toArray⟩ := by rw [Rep, RepD] at rx; exact rx
    subst hx
    have o2 := p2 m2 H1 (Ext.refl _ _) rh1
    refine ⟨rfl, env, h1, z, m2, rs'.keep e1.keeps, rh1, o2.bnd.imp fun as h2 m3 H2 e3 rh2 o3 us rus => ?_⟩
    obtain ⟨v, e4, p4⟩ := o3.lift
    exact hrule s as h2 z m3 H2 us v Q rus rh2 e4 fun m' H' x' e' r' rr => p4 m' H' e' r' x' rr
  have goD : ∀ {id : String} {r : V → List V → Hp → VK → Prop}, Slot "dict" name id → typeOf (.builtin id) = pure (.type "method_descriptor") → MtR X id r →
      (∀ (x : PV) (as : List PV) (h : Hh) (z m' : List Addr) (H : Hp) (us : List V) (a : Addr) (ks : List (L2.Key × V)) (kvs : List (D × PV)) (v : PV) (Q : VK), dicAt h x = some kvs → H a = some (.dK ks) → RepK X.K z m' H kvs ks → Reps X.K z m' H as us → RelH X.K z m' H h → meth h m x as = some v → Post X.K z m' H Q v h → r (.ref a) us H Q) →
      (∀ x h as v, meth h m x as = some v → ∃ kvs, dicAt h x = some kvs) →
      PE X (.Call (.Attribute o name apos) (e :: es) [] cpos) (tE X.K XC W fun env => M.bnd (ro env) fun x => M.bnd (guardH fun h => gD h x) fun _ => M.bnd (rs env) fun xs => M.lift fun h => meth h m x xs) := by
    intro id r slot hty hmt hrule hdr
    refine (pe_bm PySem.F.plainAttrs_dict slot hty hmt po ha (base_of ho) (few_of hst hl) hline q1 q2).to fun σ H Q q => ?_
    obtain ⟨env, h, z, m1, rs', rh, out⟩ := q
    refine ⟨env, h, z, m1, rs', rh, out.bnd.imp fun x h1 m2 H1 e1 rh1 o1 vx rx => ?_⟩
    obtain ⟨_, e2, p2⟩ := o1.bnd.lift
    have hk : ∃ kvs, dicAt h1 x = some kvs := by
      cases x with
      | ref l =>
        cases hq : isDic h1 l with
        | true => exact isDic_of hq
        | false => simp [gD, hq] at e2
      | _ => simp [gD] at e2
    obtain ⟨kvs, hk⟩ := hk
    obtain ⟨a, ks, rfl, h3, _, _⟩ := dicAt_rep rh1 rx hk
    have o2 := p2 m2 H1 (Ext.refl _ _) rh1
    refine ⟨.inr (.inr (.inl ⟨rfl, .inl ⟨ks, h3⟩⟩)), env, h1, z, m2, rs'.keep e1.keeps, rh1, o2.bnd.imp fun as h2 m3 H2 e3 rh2 o3 us rus => ?_⟩
    obtain ⟨v, e4, p4⟩ := o3.lift
    obtain ⟨kvs2, hk2⟩ := hdr _ _ _ _ e4
    obtain ⟨a2, ks2, e5, h5, _, h6⟩ := dicAt_rep rh2 (rx.keep e3.keeps) hk2
    cases e5
    exact hrule x as h2 z m3 H2 us a ks2 kvs2 v Q hk2 h5 h6 rus rh2 e4 fun m' H' x' e' r' rr => p4 m' H' e' r' x' rr
  have both : ∀ {g : Hh → PV → Bool}, (∀ h x, mtOk h m x = true → g h x = true) → PE X (.Call (.Attribute o name apos) (e :: es) [] cpos) (tE X.K XC W fun env => M.bnd (ro env) fun x => M.bnd (guardH fun h => g h x) fun _ => M.bnd (rs env) fun xs => M.lift fun h => meth h m x xs) →
      PE X (.Call (.Attribute o name apos) (e :: es) [] cpos) (tE X.K XC W fun env => M.bnd (ro env) fun x => M.bnd (guardH fun h => mtOk h m x) fun _ => M.bnd (rs env) fun xs => M.lift fun h => meth h m x xs) := fun {g} hg hp => by
    refine hp.to fun σ H Q q => ?_
    obtain ⟨env, h, z, m1, rs', rh, out⟩ := q
    refine ⟨env, h, z, m1, rs', rh, ?_⟩
    dsimp only [M.bnd] at out ⊢
    cases e1 : ro env h with
    | ok x h1 =>
      rw [e1] at out
      cases hq : mtOk h1 m x with
      | true => simpa only [guardH, M.lift, hq, hg h1 x hq] using out
      | false => simp only [hq, guardH, M.lift] at out; exact out.elim
    | exc c v h1 => rw [e1] at out; exact out
    | stuck => rw [e1] at out; exact out
  unfold trMt at hm
  rcases ite_or hm with ⟨c, hm⟩ | ⟨_, hm⟩
  · obtain rfl := str_eq c
    cases hm
    refine both (g := gL) (fun h x hx => by cases x with
      | d y => cases y <;> first | rfl | (simp [mtOk] at hx)
      | ref l => exact hx
      | _ => simp [mtOk] at hx) (go PySem.F.slot_list_index PySem.F.type_list_index (mt_indexL hr) (fun x as h z m' H a us ws xs v Q _ hd hs rd ra rh e p => ⟨a, ws, xs, as, h, z, m', v, rfl, hs, rd, ra, rh, by simp only [meth, hd] at e; exact e, p⟩) fun x h as v _ e => ?_)
    simp only [meth] at e
    split at e
    · exact ⟨_, ‹_›⟩
    · cases e
  rcases ite_or hm with ⟨c, hm⟩ | ⟨_, hm⟩
  · obtain rfl := str_eq c
    cases hm
    have nostr : ∀ {x : PV}, (∀ s, x ≠ .d (.str s)) → ∀ s, x ≠ .d (.str s) := fun h => h
    have p1 := go PySem.F.slot_list_count PySem.F.type_list_count (mt_countL hr) (fun x as h z m' H a us ws xs v Q hg hd hs rd ra rh e p => ⟨a, ws, xs, as, h, z, m', v, rfl, hs, rd, ra, rh, by
      rw [meth_count hg, hd] at e
      exact e, p⟩) fun x h as v hg e => by
        rw [meth_count hg] at e
        split at e
        · exact ⟨_, ‹_›⟩
        · cases e
    have p2 := goS PySem.F.slot_str_count PySem.F.type_str_count mt_countSE fun s as h z m' H us v Q ra rh e p => ⟨s, as, h, z, m', v, rfl, ra, rh, by simpa only [meth] using e, p⟩
    refine (PE.or p1 p2).to fun σ H Q q => ?_
    obtain ⟨env, h, z, m1, rs', rh, out⟩ := q
    dsimp only [M.bnd] at out
    cases e1 : ro env h with
    | ok x h1 =>
      rw [e1] at out
      cases hq : gS x with
      | true =>
        refine .inr ⟨env, h, z, m1, rs', rh, ?_⟩
        dsimp only [M.bnd]
        rw [e1]
        have : mtOk h1 .count x = true := by
          cases x with
          | d y => cases y <;> first | rfl | (simp [gS] at hq)
          | _ => simp [gS] at hq
        simpa only [guardH, M.lift, this, hq] using out
      | false =>
        refine .inl ⟨env, h, z, m1, rs', rh, ?_⟩
        dsimp only [M.bnd]
        rw [e1]
        have : mtOk h1 .count x = gL h1 x := by
          cases x with
          | d y => cases y <;> first | rfl | (simp [gS] at hq)
          | _ => rfl
        simpa only [guardH, M.lift, this] using out
    | exc c v h1 =>
      rw [e1] at out
      refine .inl ⟨env, h, z, m1, rs', rh, ?_⟩
      dsimp only [M.bnd]
      rw [e1]; exact out
    | stuck => rw [e1] at out; exact out.elim
  rcases ite_or hm with ⟨c, hm⟩ | ⟨_, hm⟩
  · obtain rfl := str_eq c
    cases hm
    exact both (g := fun _ => gS) (fun h x hx => by cases x with
      | d y => cases y <;> first | rfl | (simp [mtOk] at hx)
      | _ => simp [mtOk] at hx) (goS PySem.F.slot_str_split PySem.F.type_str_split mt_splitE fun s as h z m' H us v Q ra rh e p => ⟨s, as, h, z, m', v, rfl, ra, rh, by simpa only [meth] using e, p⟩)
  rcases ite_or hm with ⟨c, hm⟩ | ⟨_, hm⟩
  · obtain rfl := str_eq c
    cases hm
    exact both (g := fun _ => gS) (fun h x hx => by cases x with
      | d y => cases y <;> first | rfl | (simp [mtOk] at hx)
      | _ => simp [mtOk] at hx) (goS PySem.F.slot_str_join PySem.F.type_str_join mt_joinE fun s as h z m' H us v Q ra rh e p => ⟨s, as, h, z, m', v, rfl, ra, rh, by simpa only [meth] using e, p⟩)
  rcases ite_or hm with ⟨c, hm⟩ | ⟨_, hm⟩
  · obtain rfl := str_eq c
    by_cases hn : (e :: es).length = 2
    · rw [if_pos hn] at hm; cases hm
      refine both (g := gD) (fun h x hx => by cases x <;> first | exact hx | (simp [mtOk] at hx)) (goD PySem.F.slot_dict_get PySem.F.type_dict_get (mt_getE hr) (fun x as h z m' H us a ks kvs v Q hd hk rk ra rh e p => ⟨a, ks, kvs, as, h, z, m', v, rfl, hk, rk, ra, rh, by simp only [meth, hd] at e; exact .inr e, p⟩) fun x h as v e => ?_)
      simp only [meth] at e
      split at e
      · exact ⟨_, ‹_›⟩
      · cases e
    · rw [if_neg hn] at hm; cases hm
      refine both (g := gD) (fun h x hx => by cases x <;> first | exact hx | (simp [mtOk] at hx)) (goD PySem.F.slot_dict_get PySem.F.type_dict_get (mt_getE hr) (fun x as h z m' H us a ks kvs v Q hd hk rk ra rh e p => ⟨a, ks, kvs, as, h, z, m', v, rfl, hk, rk, ra, rh, by simp only [meth, hd] at e; exact .inl e, p⟩) fun x h as v e => ?_)
      simp only [meth] at e
      split at e
      · exact ⟨_, ‹_›⟩
      · cases e
  cases hm
theorem kept0 {K : PySem.W.Frag} {z m : List Addr} {H : Hp} : Kept K [] [] (fun _ => none) z m H := by
  have no : ∀ {a : Addr} {o : HO}, ¬ Rd (fun _ => none) a o := fun h => by
    rcases h with h | ⟨_, h⟩ <;> cases h
  refine ⟨fun a us h => ?_, fun a us h => ?_, fun l a h => ?_, fun a us h => (no h.1).elim⟩
  · cases h.1
  · exact h.elim (fun q => (no q.1).elim) .inr
  · cases h
/-- a method of a written tuple -/
theorem snd_mtc (G : Gd P T C XC k N sc X) {m : Mt} {name x : Str} {e : Expr} {es : List Expr} {rs : Env → M (List PV)} {apos cpos p1 : Pos} (hm : trMt name (e :: es).length = some m) (hi : isIC m = true) (hl : (e :: es).length ≤ 20) (hline : (apos.endLine == cpos.line) = true)
    (hst : (e :: es).all notStar = true) (h1 : okN x = true) (h2 : isGl sc x = true) (h3 : P.csts.contains x = true) (ha : PA X (e :: es) (tEs X.K XC W rs)) :
    PE X (.Call (.Attribute (.Name x p1) name apos) (e :: es) [] cpos) (tE X.K XC W fun env => M.bnd (M.lift fun _ => (C (code x)).bind tupOf) fun o => M.bnd (rs env) fun xs => M.lift fun h => methT h m o xs) := by
  obtain ⟨q1, q2⟩ := starEachs (pos := cpos) (env := X.env) hst
  obtain ⟨d1, d2, _⟩ := okN_of h1
  cases e0 : (C (code x)).bind tupOf with
  | none => exact PE.never fun σ H Q ⟨env, h, z, m, rs, rh, o⟩ => o
  | some o =>
    have get : ∃ a u us, X.mg x = some u ∧ RelV (.ref a) u ∧ KTup X.K a us ∧ ∀ z m H, RepDs X.K z m H o us := by
      obtain ⟨v, e1, e2⟩ := Option.bind_eq_some_iff.mp e0
      obtain ⟨u, y, hm, rv, hrep⟩ := G.facts.csts x h3 v e1
      have hv : v = .d (.tup o) := by
        cases v with
        | d w => cases w <;> first | (cases e2; rfl) | (cases e2)
        | _ => cases e2
      subst hv
      obtain ⟨a, us, rfl, h7, _, h8⟩ := (hrep [] [] fun _ => none).tup
      refine ⟨a, u, us, hm, rv, ?_, fun z m H => h8.keep kept0⟩
      rcases h7 with ⟨h7 | ⟨_, h7⟩, _⟩ | h7
      · cases h7
      · cases h7
      · exact h7
    obtain ⟨a, u, us, hmg, rv, hk, hrd⟩ := get
    have po : PE X (.Name x p1) (tC (.ref a)) := pe_glob (gl_of G h2) hmg rv d1
    have hty : ∀ H, tyV X.K "tuple" (.ref a) H := fun H => by
      obtain ⟨ob, its, n, k1, k2, k3, _⟩ := hk
      exact .inr (.inl ⟨rfl, ob, k1, k2, k3⟩)
    have hsq : ∀ H, SqT X.K H a us := fun H => .inr hk.sq
    have go : ∀ {id : String} {r : V → List V → Hp → VK → Prop}, Slot "tuple" name id → typeOf (.builtin id) = pure (.type "method_descriptor") → MtR X id r →
        (∀ (as : List PV) (h : Hh) (z m' : List Addr) (H : Hp) (vs : List V) (v : PV) (Q : VK), SqT X.K H a us → RepDs X.K z m' H o us → Reps X.K z m' H as vs → RelH X.K z m' H h → methT h m o as = some v → Post X.K z m' H Q v h → r (.ref a) vs H Q) →
        PE X (.Call (.Attribute (.Name x p1) name apos) (e :: es) [] cpos) (tE X.K XC W fun env => M.bnd (M.lift fun _ => some o) fun o => M.bnd (rs env) fun xs => M.lift fun h => methT h m o xs) := by
      intro id r slot hty' hmt hrule
      refine (pe_bm PySem.F.plainAttrs_tuple slot hty' hmt po ha rfl (few_of hst hl) hline q1 q2).to fun σ H Q q => ?_
      obtain ⟨env, h, z, m1, rs', rh, out⟩ := q
      have out : Out X.K XC z m1 H (M.bnd (rs env) (fun xs => M.lift fun h => methT h m o xs) h) _ _ := out
      refine ⟨hty H, env, h, z, m1, rs', rh, out.bnd.imp fun as h2 m3 H2 e3 rh2 o3 vs rvs => ?_⟩
      obtain ⟨v, e4, p4⟩ := o3.lift
      exact hrule as h2 z m3 H2 vs v Q (hsq _) (hrd _ _ _) rvs rh2 e4 fun m' H' x' e' r' rr => p4 m' H' e' r' x' rr
    unfold trMt at hm
    rcases ite_or hm with ⟨c, hm⟩ | ⟨_, hm⟩
    · obtain rfl := str_eq c
      cases hm
      exact go PySem.F.slot_tuple_index PySem.F.type_tuple_index (mt_indexT G.room) fun as h z m' H vs v Q hs rd ra rh e p => ⟨a, us, o, as, h, z, m', v, rfl, hs, rd, ra, rh, e, p⟩
    rcases ite_or hm with ⟨c, hm⟩ | ⟨_, hm⟩
    · obtain rfl := str_eq c
      cases hm
      exact go PySem.F.slot_tuple_count PySem.F.type_tuple_count (mt_countT G.room) fun as h z m' H vs v Q hs rd ra rh e p => ⟨a, us, o, as, h, z, m', v, rfl, hs, rd, ra, rh, e, p⟩
    rcases ite_or hm with ⟨c, hm⟩ | ⟨_, hm⟩
    · cases hm; cases hi
    rcases ite_or hm with ⟨c, hm⟩ | ⟨_, hm⟩
    · cases hm; cases hi
    rcases ite_or hm with ⟨c, hm⟩ | ⟨_, hm⟩
    · by_cases hn : (e :: es).length = 2
      · rw [if_pos hn] at hm; cases hm; cases hi
      · rw [if_neg hn] at hm; cases hm; cases hi
    cases hm
end
end Ev
end

section
/-! EvSnd5: targets. -/
set_option autoImplicit false
set_option linter.all false
set_option Elab.async false
set_option maxRecDepth 100000
set_option maxHeartbeats 1000000
namespace Ev
open PySem L2 PyProof.Rows

def Ts.len : Ts → Nat
  | .nil => 0
  | .cons _ r => Ts.len r + 1
theorem wipe_at {σ : L2.St} {vs : List Nat} {i : Nat} : (L2.wipe σ vs)[i]? = if i ∈ vs then (if i < σ.length then some none else none) else σ[i]? := by
  induction vs with
  | nil => simp [L2.wipe]
  | cons v vs ih =>
    rw [L2.wipe, List.getElem?_set]
    by_cases h : v = i
    · subst h
      simp only [if_true, wipe_length, List.mem_cons, true_or]
    · rw [if_neg h, ih]
      simp only [List.mem_cons]
      by_cases h2 : i ∈ vs
      · simp [h2]
      · simp [h2, Ne.symm h]
theorem wipe_set {σ : L2.St} {vs : List Nat} {i : Nat} {x : Option V} (h : i ∈ vs) : L2.wipe (σ.set i x) vs = L2.wipe σ vs := by
  apply List.ext_getElem?
  intro j
  rw [wipe_at, wipe_at]
  by_cases hj : j ∈ vs
  · simp [hj]
  · have hne : i ≠ j := fun e => hj (e ▸ h)
    simp only [hj, if_false]
    rw [List.getElem?_set_ne hne]
/-- nothing but these slots has been changed -/
def Only (is : List Nat) (σ σ' : L2.St) : Prop := σ'.length = σ.length ∧ ∀ vs : List Nat, (∀ i ∈ is, i ∈ vs) → L2.wipe σ' vs = L2.wipe σ vs
theorem Only.refl (is : List Nat) (σ : L2.St) : Only is σ σ := ⟨rfl, fun _ _ => rfl⟩

/-- the names of a target may be stored -/
def TgOk (X : Cx) (scope : Scope) : Prop := ∀ x, isLoc scope x = true → L2.Loc X.env.scope x ∧ (X.fn x = true ∨ X.env.scope.names.lookup x = some .local)

def gT (K : PySem.W.Frag) (t : T) : TG := fun v σ H Q => ∃ env env' pv z m, RelS K z m H env σ ∧ Rep K z m H pv v ∧ T.store t pv env = some env' ∧ ∀ σ', RelS K z m H env' σ' → Only t.slots σ σ' → Q σ' H
def gTs (K : PySem.W.Frag) (ts : Ts) : TGs := fun vs σ H Q => ∃ env env' xs z m, RelS K z m H env σ ∧ Reps K z m H xs vs ∧ Ts.stores ts xs env = some env' ∧ ∀ σ', RelS K z m H env' σ' → Only ts.slots σ σ' → Q σ' H
theorem _root_.L2.PG.to {X : Cx} {e : Expr} {t t' : TG} (p : PG X e t) (h : ∀ v σ H Q, t' v σ H Q → t v σ H Q) : PG X e t' := ⟨fun pins s σ H v u Q I r q => p.run pins s σ H v u Q I r (h v σ H Q q)⟩
theorem _root_.L2.PGs.to {X : Cx} {e : List Expr} {t t' : TGs} (p : PGs X e t) (h : ∀ v σ H Q, t' v σ H Q → t v σ H Q) : PGs X e t' := ⟨fun pins s σ H v u Q I r q => p.run pins s σ H v u Q I r (h v σ H Q q)⟩
theorem Ts.stores_len : ∀ {ts : Ts} {xs : List PV} {env env' : Env}, Ts.stores ts xs env = some env' → xs.length = ts.len
  | .nil, [], _, _, _ => rfl
  | .nil, _ :: _, _, _, h => by simp [Ts.stores] at h
  | .cons t r, [], _, _, h => by simp [Ts.stores] at h
  | .cons t r, x :: xs, env, env', h => by
    rw [Ts.stores] at h
    obtain ⟨e1, h1, h2⟩ := Option.bind_eq_some_iff.mp h
    rw [List.length_cons, Ts.stores_len h2, Ts.len]
section
variable {X : Cx} {N : List Str}
theorem trTs_each {scope : Scope} : ∀ {k : Nat} {es : List Expr} {ts : Ts}, trTs k N scope es = some ts → ∀ env, (assignEach es env).map (·.2) = es.map (fun e => assign e env) ∧ (assignEach es env).length = ts.len ∧ (assignEach es env).findIdx? (·.1) = none
  | 0, _, _, h, _ => by simp [trTs] at h
  | k + 1, [], ts, h, env => by
    simp only [trTs, Option.some.injEq] at h
    subst h
    exact ⟨rfl, rfl, rfl⟩
  | k + 1, e :: es, ts, h, env => by
    simp only [trTs] at h
    obtain ⟨t, h1, h2⟩ := Option.bind_eq_some_iff.mp h
    obtain ⟨r, h3, rfl⟩ := Option.map_eq_some_iff.mp h2
    obtain ⟨q1, q2, q3⟩ := trTs_each h3 env
    have hs : assignEach (e :: es) env = (false, assign e env) :: assignEach es env := by
      cases k with
      | zero => simp [trT] at h1
      | succ k => cases e <;> first | rfl | (simp [trT] at h1)
    rw [hs]
    refine ⟨by rw [List.map_cons, q1, List.map_cons], by rw [List.length_cons, q2, Ts.len], ?_⟩
    rw [List.findIdx?_cons]
    simp [q3]
mutual
theorem snd_T (hc : X.calm = true) (nd : N.Nodup) (hN : X.N = N) {scope : Scope} (ok : TgOk X scope) : ∀ {k : Nat} {e : Expr} {t : T}, trT k N scope e = some t → PG X e (gT X.K t)
  | 0, _, _, h => by simp [trT] at h
  | k + 1, e, t, h => by
    cases e with
    | Name x pos =>
      simp only [trT] at h
      split at h
      · rename_i hl
        obtain ⟨i, hi, rfl⟩ := Option.map_eq_some_iff.mp h
        obtain ⟨q1, q2⟩ := ok x hl
        refine (pg_name (by rw [hN]; exact nd) (by rw [hN]; exact idx_at hi) q1 q2).to fun v σ H Q q => ?_
        obtain ⟨env, env', pv, z, m, rs, rp, st, fin⟩ := q
        simp only [T.store, Option.some.injEq] at st
        subst st
        exact fin _ (rs.set rp) ⟨by simp, fun vs hv => wipe_set (hv i (by simp [T.slots]))⟩
      · cases h
    | Tuple es a pos =>
      simp only [trT] at h
      obtain ⟨ts, hts, rfl⟩ := Option.map_eq_some_iff.mp h
      obtain ⟨q1, q2, q3⟩ := trTs_each hts X.env
      refine (pg_tup hc (snd_Ts hc nd hN ok hts) q2 q3).to fun v σ H Q q => ?_
      obtain ⟨env, env', pv, z, m, rs, rp, st, fin⟩ := q
      simp only [T.store] at st
      split at st
      · rename_i xs
        obtain ⟨ad, us, rfl, h2, h3, h4⟩ := rp.tup
        refine ⟨ad, us, rfl, h2.sq, ?_, env, env', xs.map PV.d, z, m, rs, h4.reps, st, fin⟩
        rw [← h4.length, ← List.length_map (f := PV.d), Ts.stores_len st]
      · rename_i xs
        rw [Rep] at rp
        obtain ⟨ad, us, rfl, h2, h3, h4⟩ := rp
        refine ⟨ad, us, rfl, h2.sq, ?_, env, env', xs, z, m, rs, h4, st, fin⟩
        rw [← h4.length, Ts.stores_len st]
      · cases st
    | _ => simp [trT] at h
theorem snd_Ts (hc : X.calm = true) (nd : N.Nodup) (hN : X.N = N) {scope : Scope} (ok : TgOk X scope) : ∀ {k : Nat} {es : List Expr} {ts : Ts}, trTs k N scope es = some ts → PGs X es (gTs X.K ts)
  | 0, _, _, h => by simp [trTs] at h
  | k + 1, [], ts, h => by
    simp only [trTs, Option.some.injEq] at h
    subst h
    refine pgs_nil.to fun vs σ H Q q => ?_
    obtain ⟨env, env', xs, z, m, rs, rp, st, fin⟩ := q
    cases xs with
    | cons _ _ => simp [Ts.stores] at st
    | nil =>
      simp only [Ts.stores, Option.some.injEq] at st
      subst st
      rw [Reps] at rp
      exact ⟨rp, fin σ rs (.refl _ _)⟩
  | k + 1, e :: es, ts, h => by
    obtain ⟨q1, q2, q3⟩ := trTs_each h X.env
    simp only [trTs] at h
    obtain ⟨t, h1, h2⟩ := Option.bind_eq_some_iff.mp h
    obtain ⟨r, h3, rfl⟩ := Option.map_eq_some_iff.mp h2
    obtain ⟨q4, _, _⟩ := trTs_each h3 X.env
    refine (pgs_cons (snd_T hc nd hN ok h1) (snd_Ts hc nd hN ok h3) (by rw [q1, q4]; rfl)).to fun vs σ H Q q => ?_
    obtain ⟨env, env', xs, z, m, rs, rp, st, fin⟩ := q
    cases xs with
    | nil => simp [Ts.stores] at st
    | cons x xs =>
      rw [Ts.stores] at st
      obtain ⟨e1, s1, s2⟩ := Option.bind_eq_some_iff.mp st
      rw [Reps] at rp
      obtain ⟨u, us, rfl, r1, r2⟩ := rp
      refine ⟨u, us, rfl, env, e1, x, z, m, rs, r1, s1, fun σ1 rs1 o1 => ⟨e1, env', xs, z, m, rs1, r2, s2, fun σ2 rs2 o2 => fin σ2 rs2 ⟨o2.1.trans o1.1, fun ws hw => ?_⟩⟩⟩
      rw [o2.2 ws fun i hi => hw i (by rw [Ts.slots]; exact List.mem_append_right _ hi), o1.2 ws fun i hi => hw i (by rw [Ts.slots]; exact List.mem_append_left _ hi)]
end
end
end Ev
end

section
/-! EvEnum: enumerate of a tuple. -/
set_option autoImplicit false
set_option linter.all false
set_option Elab.async false
set_option maxRecDepth 100000
set_option maxHeartbeats 1000000
namespace PySem
open Sem (wp)
open AutoSeq1 (wpAny_loadPart')
theorem meets_enumT (t : Addr) (its : Array Value) (m : Nat) (dct : Option Addr) (sl : Array (Option Value)) :
    Meets (Builtin.«enumerate.__new__» ⟨[.type "enumerate", .ref t], []⟩) (fun _ R z => z.heap.get? t = some { cls := .type "tuple", dict := dct, data := .seq its m, slots := sl } ∧
      R (.ok (.ret (.ref (z.heap.push { cls := .type "tuple_iterator", data := .fields #[.ref t, .int 0 0] }).objs.size)))
        { z with heap := (z.heap.push { cls := .type "tuple_iterator", data := .fields #[.ref t, .int 0 0] }).push { cls := .type "enumerate", data := .fields #[.none, .bool false, .ref z.heap.objs.size, rawInt 0, .none, .none] } }) :=
  .of_wp fun pr w A R z h => by
    obtain ⟨hp, gg, dd, kk, oo⟩ := z; obtain ⟨ht, h⟩ := h
    have hsub := sub_enumerate
    have hL : Heap.IsTuple (Shared.heap ⟨hp, gg, dd, kk, oo⟩) t its := ⟨_, ht, rfl, m, rfl⟩
    wp_walk using wpAny_loadPart' ht
    refine wpAny_stack_any fun stk => wpAny_pure ?_
    split
    · rename_i c _ _ _ _ _
      cases (c == Value.type "enumerate")
      · wp_walk using wpAny_loadPart' ht, wpAny_pyIter_tuple hL
        exact ⟨_, rfl, h⟩
      · wp_walk using wpAny_loadPart' ht, wpAny_pyIter_tuple hL
        exact ⟨_, rfl, h⟩
    · wp_walk using wpAny_loadPart' ht, wpAny_pyIter_tuple hL
      exact ⟨_, rfl, h⟩
section
variable {prog : Program} {w : World} {A : Around} {E : Value → Shared → Prop} {s : Shared}
theorem call_enumT {t : Addr} {its : Array Value} {Q : Value → Shared → Prop} (hL : s.heap.IsTuple t its)
    (h : ∀ g, IsEnum g (s.heap.objs.size + 1) s.heap.objs.size 0 .none → g.IsTupleIter s.heap.objs.size t 0 → (∀ b o, s.heap.get? b = some o → g.get? b = some o) → Q (.ref (s.heap.objs.size + 1)) { s with heap := g }) :
    wpAny (model prog w) A (call (.type "enumerate") [.ref t]) Q E s := by
  obtain ⟨⟨c, dct, dt, sl⟩, hl, hc, n, hd⟩ := hL
  have hc' : c = .type "tuple" := hc
  have hd' : dt = .seq its n := hd
  subst hc' hd'
  refine callType_new F.called_enumerate (by decide) (F.typeCall_enumerate_1 _) (F.newCall_enumerate_1 _) (fun ob => F.args_object_init_2 ob _) F.entry_enumerate_new (meets_enumT t its n dct sl) ⟨hl, ?_⟩
  generalize hx : s.heap.push { cls := .type "tuple_iterator", data := .fields #[.ref t, .int 0 0] } = g1
  have z1 : g1.objs.size = s.heap.objs.size + 1 := by rw [← hx]; exact Heap.size_push ..
  have k1 : ∀ b o, s.heap.get? b = some o → g1.get? b = some o := fun b o x => by rw [← hx]; exact Heap.get?_push_of_some _ x
  have i1 : g1.get? s.heap.objs.size = some { cls := .type "tuple_iterator", data := .fields #[.ref t, .int 0 0] } := by rw [← hx]; exact Heap.get?_push_size _ rfl
  have he : (g1.push { cls := .type "enumerate", data := .fields #[.none, .bool false, .ref s.heap.objs.size, rawInt 0, .none, .none] }).get? g1.objs.size = some { cls := .type "enumerate", data := .fields #[.none, .bool false, .ref s.heap.objs.size, rawInt 0, .none, .none] } := Heap.get?_push_size _ rfl
  show _ ∧ _
  rw [z1] at he ⊢
  exact ⟨⟨_, he, rfl⟩, h _ he ⟨_, Heap.get?_push_of_some _ i1, rfl, rfl⟩ fun b o x => Heap.get?_push_of_some _ (k1 b o x)⟩
theorem enumT_end {e it t : Addr} {i : Nat} {c : Int} {its : Array Value} {old : Value} {Q : Option Value → Shared → Prop} (hh : A.handled = none) (he : IsEnum s.heap e it c old) (hit : s.heap.IsTupleIter it t i) (ht : s.heap.IsTuple t its) (hx : its[i]? = none)
    (hQ : ∀ g, Heap.ExtBut it s.heap g → Q none { s with heap := g }) : wpAny (model prog w) A (pyNext (.ref e)) Q E s := by
  have ty : s.TypeIs (.ref e) "enumerate" := ⟨_, he, rfl⟩
  unfold pyNext
  refine wpAny_bind (wpAny_attempt (wpAny_callSpecial?_slot (name := Str.ofString "__next__") ty F.slot_enumerate_next
    (wpAny_call_entry F.slot_enumerate_next ty F.entry_enumerate_next ?_ (F.args_enumerate_next_1 _))))
  show wpAny _ _ (field (.ref e) 2 >>= _) _ _ _
  refine wpAny_bind (wpAny_field he rfl (x := .ref it) rfl ?_)
  refine wpAny_bind (wpAny_nextOf_tuple_end hh hit ht hx fun g x eb hx' => ?_)
  obtain ⟨ob, ho, hcl⟩ := hx'
  refine wpAny_bind (wpAny_isInstance (T := "StopIteration") (b := true) ⟨ob, ho, hcl⟩ isSubtype_stop ?_)
  exact wpAny_pure (hQ g eb)
end
end PySem
namespace RE
open PySem PySem.Spec PyProof.Rows L2
/-- the tuple at a, each item in a new pair -/
def IteT (K : PySem.W.Frag) (a : Addr) : It :=
  ⟨fun i H => ∃ (xs : List V) (x : V), SqT K H a xs ∧ xs[i]? = some x, fun i H v H' => ∃ q x, v = .ref q ∧ H q = none ∧ H' = upd H q (.tup [.int (i : Nat), x]) ∧ ∀ xs, SqT K H a xs → xs[i]? = some x, fun i H => ∃ xs : List V, SqT K H a xs ∧ xs.length ≤ i⟩
theorem turn_enumT {P : Program} {w : World} {K : PySem.W.Frag} {elts : List Expr} {kk : Nat} {tp : Pos} (a e it : Addr) :
    Turn P w K (.Tuple elts kk tp) (IteT K a) [e, it] e (fun i g => (∃ old, IsEnum g e it ((i : Nat) : Int) old) ∧ g.IsTupleIter it a i ∧ e ≠ it ∧ a ≠ it ∧ a ≠ e) where
  mem := List.mem_cons_self
  obj := fun i g st b hb => by
    obtain ⟨⟨old, he⟩, ⟨o, ho, _, hd⟩, _⟩ := st
    rcases List.mem_cons.mp hb with z | z
    · exact ⟨_, by rw [z]; exact he, fun v q => by cases q⟩
    · rw [List.mem_singleton] at z
      exact ⟨o, by rw [z]; exact ho, fun v q => by rw [hd] at q; cases q⟩
  keep := fun i g g' st k => let ⟨⟨old, he⟩, hi, hne⟩ := st; ⟨⟨old, k e (by simp) _ he⟩, hi.at fun o q => k it (by simp) o q, hne⟩
  item := by
    intro X hP hw hK hc i pins s σ H E I hf st hg
    subst hP hw hK
    obtain ⟨⟨old, he⟩, hit, hne, hai, hae⟩ := st
    obtain ⟨xs, x, hq, hx⟩ := hg
    obtain ⟨its, rv, p, hz⟩ := I.tuple hq
    have hlen := rv.length
    have hil : i < xs.length := (List.getElem?_eq_some_iff.mp hx).1
    have el : e < s.heap.objs.size := Heap.lt_size he
    have il : it < s.heap.objs.size := let ⟨_, q, _⟩ := hit; Heap.lt_size q
    have pt : s.heap.IsTuple a its.toArray := p
    refine wpAny_pyNext_enum_itemD (Draws.tuple (A := X.A.in1) (show X.A.in1.handled = none from I.ok.hd hc) it a hai its.toArray) he ⟨hit, pt⟩ (by simp; omega) hne (by simp [hne, hae.symm]) fun u g tk hu ho hst hT hsz hk => ?_
    obtain ⟨u', hu', ru⟩ := rv.get hx
    have hu2 : its[i]? = some u := by simpa using hu
    rw [hu2] at hu'
    cases hu'
    refine ⟨_, rfl, wpAny_letOwnedTupleGo_enum (s := { s with heap := g, toks := tk + 1 }) ho fun g2 he' sb => ?_⟩
    have hT2 : g2.get? s.heap.objs.size = some { cls := .type "tuple", data := .seq #[.int i tk, u] } := (sb.2 _ (Nat.ne_of_gt el)).trans hT
    have nw : ObjOk X.prog X.w (upd H s.heap.objs.size (.tup [.int (i : Nat), x])) g2 s.heap.objs.size (.tup [.int (i : Nat), x]) :=
      ⟨show 2 ≤ sizeLine by decide, [.int i tk, u], .cons ⟨_, rfl⟩ (.cons ru .nil), ⟨_, hT2, rfl, _, rfl⟩⟩
    have J : Inv X pins σ (upd H s.heap.objs.size (.tup [.int (i : Nat), x])) { s with heap := g2, toks := tk + 1 } :=
      I.turnedNew (ch := [e, it]) (fun b ob hb q => (sb.2 b (fun z => hb (by simp [z]))).trans (hk b ob (fun z => hb (by simp [z])) (fun z => hb (by simp [z])) q)) hf (Nat.le_refl _) nw
    refine ⟨.ref s.heap.objs.size, _, J, rfl, ⟨_, x, rfl, I.hok.fresh (Nat.le_refl _), rfl, fun ys hy => by rw [I.tuple_inj hy hq]; exact hx⟩, ⟨⟨u, ?_⟩, hst.1.at fun o q => (sb.2 it (Ne.symm hne)).trans q, hne, hai, hae⟩, fun b hb => ?_⟩
    · rw [show ((i + 1 : Nat) : Int) = (i : Int) + 1 by omega]
      exact he'
    · have hb' : b < s.heap.objs.size := by
        rcases List.mem_cons.mp hb with z | z
        · rw [z]; exact el
        · rw [List.mem_singleton] at z
          rw [z]; exact il
      rw [upd_ne (Nat.ne_of_lt hb')]
      exact (hf b hb).1
  done := by
    intro X hP hw hK hc i pins s σ H E I hf st hg
    subst hP hw hK
    obtain ⟨⟨old, he⟩, hit, hne, hai, hae⟩ := st
    obtain ⟨xs, hq, hx⟩ := hg
    obtain ⟨its, rv, p, hz⟩ := I.tuple hq
    obtain ⟨f0, f1, f2, f3, f4, f5⟩ := hf it (by simp)
    have hlen := rv.length
    have pt : s.heap.IsTuple a its.toArray := p
    have e1 : its.toArray[i]? = none := by simp; omega
    exact enumT_end (I.ok.hd hc) he hit pt e1 fun g eb => ⟨rfl, I.turned (t' := s.toks) (fun b o hb q => eb b o hb q) f0 f1 f3 f4 f5⟩
  self := fun A i s Q E st h => let ⟨⟨_, he⟩, _⟩ := st; wpAny_pyIter_enum he h
/-- a list or a tuple -/
def iEnumA (K : PySem.W.Frag) (ta : TA) : TI := fun σ H R => ta σ H fun vs H1 => ∃ a xs, vs = [.ref a] ∧ ((SqL K H1 a xs ∧ R (Ite K a) H1) ∨ (SqT K H1 a xs ∧ R (IteT K a) H1))
theorem pi_enumA {X : Cx} {e : Expr} {ta : TA} {p pos tp : Pos} {elts : List Expr} {kk : Nat} (hg : Gl X "enumerate") (hm : X.mg "enumerate" = none) (ha : PA X [e] ta) (hs : starEach [e] X.env = [(false, eval e X.env)] := by rfl) :
    PI X (.Tuple elts kk tp) (.Call (.Name "enumerate" p) [e] [] pos) (iEnumA X.K ta) := by
  refine ⟨fun pins s σ H R I h => ?_⟩
  refine Call_ (ld_blt I hg hm boot_enumerate (PyProof.Rows.callWith_type1 (thn (ha.run pos pins s σ H _ I h) fun us s1 ⟨vs, H1, J, r1, q1⟩ => ?_) hs rfl))
  obtain ⟨a, xs, rfl, q⟩ := q1
  cases r1 with
  | cons r rr =>
    cases rr
    cases r
    have fr : ∀ b ∈ [s1.heap.objs.size + 1, s1.heap.objs.size], FpOk X pins H1 b := fun b hb => by
      have hle : s1.heap.objs.size ≤ b := by
        rcases List.mem_cons.mp hb with z | z
        · omega
        · rw [List.mem_singleton] at z; omega
      exact J.fpOk hle (J.hok.fresh hle)
    rcases q with ⟨hq, q⟩ | ⟨hq, q⟩
    · obtain ⟨its, rv, p1, hz⟩ := J.list hq
      refine call_enumerate_list p1.isList fun g he hit hsz hk => wpAny_pyIter_enum he ?_
      exact ⟨s1.heap.objs.size + 1, [s1.heap.objs.size + 1, s1.heap.objs.size], _, _, H1, rfl, J.kept (t' := s1.toks) hk, turn_enum a (s1.heap.objs.size + 1) s1.heap.objs.size, ⟨⟨.none, he⟩, hit, Nat.succ_ne_self _⟩, fr, q⟩
    · obtain ⟨its, rv, p1, hz⟩ := J.tuple hq
      have lt : a < s1.heap.objs.size := let ⟨_, z, _⟩ := p1; Heap.lt_size z
      refine call_enumT (its := its.toArray) p1 fun g he hit hk => wpAny_pyIter_enum he ?_
      exact ⟨s1.heap.objs.size + 1, [s1.heap.objs.size + 1, s1.heap.objs.size], _, _, H1, rfl, J.kept (t' := s1.toks) hk, turn_enumT a (s1.heap.objs.size + 1) s1.heap.objs.size, ⟨⟨.none, he⟩, hit, Nat.succ_ne_self _, Nat.ne_of_lt lt, Nat.ne_of_lt (Nat.lt_succ_of_lt lt)⟩, fr, q⟩
end RE
end

section
/-! EvSnd6: what is walked. -/
set_option autoImplicit false
set_option linter.all false
set_option Elab.async false
set_option maxRecDepth 100000
set_option maxHeartbeats 1000000
namespace Ev
open PySem L2 PyProof.Rows

theorem Ext.keepsZ {K : PySem.W.Frag} {z z' m m' : List Addr} {H H' : Hp} (e : Ext m H m' H') (hz : ∀ a ∈ z', a ∈ z ∨ H a = none) : Kept K z m H z' m' H' := by
  have nz : ∀ {a : Addr} {o : HO}, H a = some o → a ∉ z → a ∉ z' := fun h n q => by
    rcases hz _ q with q | q
    · exact n q
    · rw [h] at q; cases q
  have rd : ∀ {a : Addr} {u : HO}, (∀ ps, u ≠ .tbl ps) → Rd H a u → a ∉ m → a ∉ z → Rd H' a u ∧ a ∉ m' ∧ a ∉ z' := fun hu h n y => by
    refine ⟨(e.rd h n hu).1, (e.rd h n hu).2, ?_⟩
    rcases h with h | ⟨_, h⟩
    · exact nz h y
    · exact nz h y
  refine ⟨fun a us ⟨h, n, y⟩ => ⟨(e.imm _ _ h n (fun ps q => by cases q)).1, (e.imm _ _ h n (fun ps q => by cases q)).2, nz h y⟩, fun a us h => ?_, fun l a h => e.at h, fun a us ⟨h, n, y⟩ => rd (fun ps q => by cases q) h n y⟩
  rcases h with ⟨h, n, y⟩ | h
  · exact .inl (rd (fun ps q => by cases q) h n y)
  · exact .inr h

/-- J walks these items, whatever else goes on -/
structure ItsOk (K : PySem.W.Frag) (z m : List Addr) (H : Hp) (xs : List PV) (J : L2.It) : Prop where
  go : ∀ i z' m' H', Kept K z m H z' m' H' → i < xs.length → J.go i H'
  stop : ∀ z' m' H', Kept K z m H z' m' H' → J.stop xs.length H'
  yld : ∀ i z' m' H' h' x H'' v, Kept K z m H z' m' H' → RelH K z' m' H' h' → xs[i]? = some v → J.yld i H' x H'' → Ext m' H' m' H'' ∧ RelH K z' m' H'' h' ∧ Rep K z' m' H'' v x ∧ ∀ a, H' a ≠ none → H'' a = H' a
def RunOk (K : PySem.W.Frag) (z m : List Addr) (H : Hp) : Run → L2.It → Prop
  | .its xs, J => ItsOk K z m H xs J
  | .cell l _, J => ∃ a, m[l]? = some a ∧ J = Itl K a

section
variable {K : PySem.W.Frag} {z m : List Addr} {H : Hp}
theorem its_list {a : Addr} {us : List V} {xs : List D} (h : LstAt K z m H a us) (r : RepDs K z m H xs us) : ItsOk K z m H (xs.map PV.d) (Itl K a) := by
  have sq : ∀ {z' m' : List Addr} {H' : Hp}, Kept K z m H z' m' H' → SqL K H' a us := fun e => (e.l _ _ h).sq
  have hl := r.length
  refine ⟨fun i z' m' H' e hi => ?_, fun z' m' H' e => ⟨us, sq e, by simp [hl]⟩, fun i z' m' H' h' x H'' v e rh hx y => ?_⟩
  · have hi' : i < us.length := by simpa [hl] using hi
    exact ⟨us, us[i], sq e, by simp [hi']⟩
  · obtain ⟨rfl, y⟩ := y
    obtain ⟨u, h1, h2⟩ := r.reps.get hx
    rw [y us (sq e)] at h1
    cases h1
    exact ⟨.refl _ _, rh, h2.keep e, fun _ _ => rfl⟩
theorem its_tup {a : Addr} {us : List V} {xs : List D} (h : TupAt K z m H a us) (r : RepDs K z m H xs us) : ItsOk K z m H (xs.map PV.d) (Itt K a) := by
  have sq : ∀ {z' m' : List Addr} {H' : Hp}, Kept K z m H z' m' H' → SqT K H' a us := fun e => (e.t _ _ h).sq
  have hl := r.length
  refine ⟨fun i z' m' H' e hi => ?_, fun z' m' H' e => ⟨us, sq e, by simp [hl]⟩, fun i z' m' H' h' x H'' v e rh hx y => ?_⟩
  · have hi' : i < us.length := by simpa [hl] using hi
    exact ⟨us, us[i], sq e, by simp [hi']⟩
  · obtain ⟨rfl, y⟩ := y
    obtain ⟨u, h1, h2⟩ := r.reps.get hx
    rw [y us (sq e)] at h1
    cases h1
    exact ⟨.refl _ _, rh, h2.keep e, fun _ _ => rfl⟩
theorem its_str {s : List Nat} : ItsOk K z m H (s.map fun c => PV.d (.str [c])) (Its ⟨s.toArray⟩) := by
  refine ⟨fun i z' m' H' e hi => ?_, fun z' m' H' e => ?_, fun i z' m' H' h' x H'' v e rh hx y => ?_⟩
  · show i < s.toArray.size
    simpa using hi
  · show s.toArray.size ≤ _
    simp
  · obtain ⟨rfl, c, h1, rfl⟩ := y
    have h1 : s[i]? = some c := by simpa using h1
    rw [List.getElem?_map, h1] at hx
    cases hx
    exact ⟨.refl _ _, rh, rfl, fun _ _ => rfl⟩
theorem its_range {lo : Int} {n : Nat} : ItsOk K z m H (rangeD lo n 1) (Itr lo n) := by
  have hl : (rangeD lo n 1).length = n := by simp [rangeD]
  refine ⟨fun i z' m' H' e hi => ?_, fun z' m' H' e => ?_, fun i z' m' H' h' x H'' v e rh hx y => ?_⟩
  · rw [hl] at hi; exact hi
  · rw [hl]; exact Nat.le_refl _
  · obtain ⟨rfl, rfl⟩ := y
    simp only [rangeD, List.getElem?_map, Option.map_eq_some_iff] at hx
    obtain ⟨j, h1, rfl⟩ := hx
    have h2 := (List.getElem?_eq_some_iff.mp h1).2
    simp only [List.getElem_range] at h2
    subst h2
    exact ⟨.refl _ _, rh, by rw [Rep, RepD, Int.mul_one], fun _ _ => rfl⟩
theorem its_rangeC {lo c : Int} {n : Nat} : ItsOk K z m H (rangeD lo n c) (Itc lo c n) := by
  have hl : (rangeD lo n c).length = n := by simp [rangeD]
  refine ⟨fun i z' m' H' e hi => ?_, fun z' m' H' e => ?_, fun i z' m' H' h' x H'' v e rh hx y => ?_⟩
  · rw [hl] at hi; exact hi
  · rw [hl]; exact Nat.le_refl _
  · obtain ⟨rfl, rfl⟩ := y
    simp only [rangeD, List.getElem?_map, Option.map_eq_some_iff] at hx
    obtain ⟨j, h1, rfl⟩ := hx
    have h2 := (List.getElem?_eq_some_iff.mp h1).2
    simp only [List.getElem_range] at h2
    subst h2
    exact ⟨.refl _ _, rh, by rw [Rep, RepD], fun _ _ => rfl⟩
theorem zipD_at : ∀ {xs ys : List D} {i : Nat} {v : PV}, (zipD xs ys)[i]? = some v → ∃ x y, xs[i]? = some x ∧ ys[i]? = some y ∧ v = .d (.tup [x, y])
  | [], _, _, _, h => by simp [zipD] at h
  | _ :: _, [], _, _, h => by simp [zipD] at h
  | x :: xs, y :: ys, 0, v, h => by simp [zipD] at h; exact ⟨x, y, rfl, rfl, h.symm⟩
  | x :: xs, y :: ys, i + 1, v, h => by
    obtain ⟨x', y', h1, h2, h3⟩ := zipD_at (xs := xs) (ys := ys) (i := i) (by simpa [zipD] using h)
    exact ⟨x', y', by simpa using h1, by simpa using h2, h3⟩
theorem zipD_len : ∀ (xs ys : List D), (zipD xs ys).length = min xs.length ys.length
  | [], _ => by simp [zipD]
  | _ :: _, [] => by simp [zipD]
  | x :: xs, y :: ys => by simp only [zipD, List.length_cons, zipD_len xs ys]; omega
/-- a new pair -/
theorem pair_new {z' m' : List Addr} {H' : Hp} {h' : Hh} {T : Addr} {x y : D} {u w : V} (rh : RelH K z' m' H' h') (hT : H' T = none) (r1 : RepD K z' m' H' x u) (r2 : RepD K z' m' H' y w) :
    Ext m' H' m' (upd H' T (.tup [u, w])) ∧ RelH K z' m' (upd H' T (.tup [u, w])) h' ∧ Rep K z' m' (upd H' T (.tup [u, w])) (.d (.tup [x, y])) (.ref T) ∧ ∀ a, H' a ≠ none → upd H' T (.tup [u, w]) a = H' a := by
  have e : Ext m' H' m' (upd H' T (.tup [u, w])) := Ext.new hT
  obtain ⟨n1, n2⟩ := rh.fresh hT
  refine ⟨e, rh.keepNew hT, ?_, fun a ha => upd_ne (fun q => ha (by rw [q]; exact hT))⟩
  rw [Rep, RepD]
  refine ⟨T, [u, w], rfl, .inl ⟨.inl upd_same, n1, n2⟩, by show 2 ≤ sizeLine; decide, ?_⟩
  rw [RepDs]
  refine ⟨u, [w], rfl, r1.keep e.keeps, ?_⟩
  rw [RepDs]
  refine ⟨w, [], rfl, r2.keep e.keeps, ?_⟩
  rw [RepDs]
theorem its_zipL {a b : Addr} {us ws : List V} {xs ys : List D} (h : LstAt K z m H a us) (r : RepDs K z m H xs us) (h2 : LstAt K z m H b ws) (r2 : RepDs K z m H ys ws) : ItsOk K z m H (zipD xs ys) (Itz K a b) := by
  have sq : ∀ {z' m' : List Addr} {H' : Hp}, Kept K z m H z' m' H' → SqL K H' a us := fun e => (e.l _ _ h).sq
  have sq2 : ∀ {z' m' : List Addr} {H' : Hp}, Kept K z m H z' m' H' → SqL K H' b ws := fun e => (e.l _ _ h2).sq
  have hl := r.length
  have hl2 := r2.length
  refine ⟨fun i z' m' H' e hi => ?_, fun z' m' H' e => ⟨us, ws, sq e, sq2 e, ?_⟩, fun i z' m' H' h' x H'' v e rh hx y => ?_⟩
  · rw [zipD_len] at hi
    have hi1 : i < us.length := by omega
    have hi2 : i < ws.length := by omega
    exact ⟨us, ws, us[i], ws[i], sq e, sq2 e, by simp [hi1], by simp [hi2]⟩
  · rw [zipD_len]; omega
  · obtain ⟨T, u, w, rfl, hT, rfl, y1, y2⟩ := y
    obtain ⟨x', y', h3, h4, rfl⟩ := zipD_at hx
    obtain ⟨u', q1, q2⟩ := r.get h3
    obtain ⟨w', q3, q4⟩ := r2.get h4
    rw [y1 us (sq e)] at q1
    rw [y2 ws (sq2 e)] at q3
    cases q1
    cases q3
    exact pair_new rh hT (q2.keep e) (q4.keep e)
theorem its_zipT {a b : Addr} {us ws : List V} {xs ys : List D} (h : TupAt K z m H a us) (r : RepDs K z m H xs us) (h2 : TupAt K z m H b ws) (r2 : RepDs K z m H ys ws) : ItsOk K z m H (zipD xs ys) (RZ.ItzT K a b) := by
  have sq : ∀ {z' m' : List Addr} {H' : Hp}, Kept K z m H z' m' H' → SqT K H' a us := fun e => (e.t _ _ h).sq
  have sq2 : ∀ {z' m' : List Addr} {H' : Hp}, Kept K z m H z' m' H' → SqT K H' b ws := fun e => (e.t _ _ h2).sq
  have hl := r.length
  have hl2 := r2.length
  refine ⟨fun i z' m' H' e hi => ?_, fun z' m' H' e => ⟨us, ws, sq e, sq2 e, ?_⟩, fun i z' m' H' h' x H'' v e rh hx y => ?_⟩
  · rw [zipD_len] at hi
    have hi1 : i < us.length := by omega
    have hi2 : i < ws.length := by omega
    exact ⟨us, ws, us[i], ws[i], sq e, sq2 e, by simp [hi1], by simp [hi2]⟩
  · rw [zipD_len]; omega
  · obtain ⟨T, u, w, rfl, hT, rfl, y1, y2⟩ := y
    obtain ⟨x', y', h3, h4, rfl⟩ := zipD_at hx
    obtain ⟨u', q1, q2⟩ := r.get h3
    obtain ⟨w', q3, q4⟩ := r2.get h4
    rw [y1 us (sq e)] at q1
    rw [y2 ws (sq2 e)] at q3
    cases q1
    cases q3
    exact pair_new rh hT (q2.keep e) (q4.keep e)
theorem enumD_at : ∀ {xs : List D} {n i : Nat} {v : PV}, (enumD n xs)[i]? = some v → ∃ x, xs[i]? = some x ∧ v = .d (.tup [.int ((n + i : Nat) : Int), x])
  | [], _, _, _, h => by simp [enumD] at h
  | x :: xs, n, 0, v, h => by simp [enumD] at h; exact ⟨x, rfl, h.symm⟩
  | x :: xs, n, i + 1, v, h => by
    obtain ⟨x', h1, h2⟩ := enumD_at (xs := xs) (n := n + 1) (i := i) (by simpa [enumD] using h)
    exact ⟨x', by simpa using h1, by rw [h2]; congr 5; omega⟩
theorem enumD_len : ∀ (xs : List D) (n : Nat), (enumD n xs).length = xs.length
  | [], _ => rfl
  | x :: xs, n => by simp [enumD, enumD_len xs (n + 1)]
theorem its_enum {a : Addr} {us : List V} {xs : List D} (h : LstAt K z m H a us) (r : RepDs K z m H xs us) : ItsOk K z m H (enumD 0 xs) (Ite K a) := by
  have sq : ∀ {z' m' : List Addr} {H' : Hp}, Kept K z m H z' m' H' → SqL K H' a us := fun e => (e.l _ _ h).sq
  have hl := r.length
  refine ⟨fun i z' m' H' e hi => ?_, fun z' m' H' e => ⟨us, sq e, ?_⟩, fun i z' m' H' h' x H'' v e rh hx y => ?_⟩
  · rw [enumD_len] at hi
    have hi1 : i < us.length := by omega
    exact ⟨us, us[i], sq e, by simp [hi1]⟩
  · rw [enumD_len]; omega
  · obtain ⟨T, w, rfl, hT, rfl, y1⟩ := y
    obtain ⟨x', h3, rfl⟩ := enumD_at hx
    obtain ⟨u', q1, q2⟩ := r.get h3
    rw [y1 us (sq e)] at q1
    cases q1
    refine pair_new rh hT ?_ (q2.keep e)
    rw [RepD, Nat.zero_add]
theorem its_enumT {a : Addr} {us : List V} {xs : List D} (h : TupAt K z m H a us) (r : RepDs K z m H xs us) : ItsOk K z m H (enumD 0 xs) (RE.IteT K a) := by
  have sq : ∀ {z' m' : List Addr} {H' : Hp}, Kept K z m H z' m' H' → SqT K H' a us := fun e => (e.t _ _ h).sq
  have hl := r.length
  refine ⟨fun i z' m' H' e hi => ?_, fun z' m' H' e => ⟨us, sq e, ?_⟩, fun i z' m' H' h' x H'' v e rh hx y => ?_⟩
  · rw [enumD_len] at hi
    have hi1 : i < us.length := by omega
    exact ⟨us, us[i], sq e, by simp [hi1]⟩
  · rw [enumD_len]; omega
  · obtain ⟨T, w, rfl, hT, rfl, y1⟩ := y
    obtain ⟨x', h3, rfl⟩ := enumD_at hx
    obtain ⟨u', q1, q2⟩ := r.get h3
    rw [y1 us (sq e)] at q1
    cases q1
    refine pair_new rh hT ?_ (q2.keep e)
    rw [RepD, Nat.zero_add]
end

/-- the reading of what is walked -/
def tI (K : PySem.W.Frag) (XC : Nat → Option Addr) (W : WX) (r : Env → M Run) : TI := fun σ H R => ∃ env h z m, RelS K z m H env σ ∧ RelH K z m H h ∧
  Out K XC z m H (r env h) (fun run h' m' H' => ∀ J, RunOk K z m' H' run J → R J H') fun cls d H' => W cls d σ H'
theorem _root_.L2.PI.never {X : Cx} {tg e : Expr} {t : TI} (h : ∀ σ H Q, ¬ t σ H Q) : PI X tg e t := ⟨fun _ _ σ H _ _ q => (h σ H _ q).elim⟩
section
variable {P : TrP} {T : Nat → Option Fn} {C : Nat → Option PV} {XC : Nat → Option Addr} {k : Nat} {N : List Str} {sc : Scope} {X : Cx} {W : WX} {tg : Expr}
theorem iter_list {pins : List (Addr × Obj)} {s : Shared} {σ : L2.St} {H : Hp} {a : Addr} {us : List V} {R : L2.It → Hp → Prop} (I : Inv X pins σ H s) (h : SqL X.K H a us) (q : R (Itl X.K a) H) : wpAny (model X.prog X.w) X.A (pyIter (.ref a)) (PIE X pins σ tg R) X.xe s := by
  obtain ⟨its, rv, p, hz⟩ := I.list h
  refine wpAny_pyIter_list p.isList ?_
  refine ⟨s.heap.objs.size, [s.heap.objs.size], _, _, H, rfl, I.kept (t' := s.toks) fun b o e => Heap.get?_push_of_some _ e, turn_list a _, ⟨_, Heap.get?_push_size _ rfl, rfl, rfl⟩, fun b hb => ?_, q⟩
  have e : b = s.heap.objs.size := by simpa using hb
  subst e
  exact I.fpOk (Nat.le_refl _) (I.hok.fresh (Nat.le_refl _))
theorem iter_tup {pins : List (Addr × Obj)} {s : Shared} {σ : L2.St} {H : Hp} {a : Addr} {us : List V} {R : L2.It → Hp → Prop} (I : Inv X pins σ H s) (h : SqT X.K H a us) (q : R (Itt X.K a) H) : wpAny (model X.prog X.w) X.A (pyIter (.ref a)) (PIE X pins σ tg R) X.xe s := by
  obtain ⟨its, rv, p, hz⟩ := I.tuple h
  refine wpAny_pyIter_tuple (show s.heap.IsTuple a its.toArray from p) ?_
  refine ⟨s.heap.objs.size, [s.heap.objs.size], _, _, H, rfl, I.kept (t' := s.toks) fun b o e => Heap.get?_push_of_some _ e, turn_tuple a _, ⟨_, Heap.get?_push_size _ rfl, rfl, rfl⟩, fun b hb => ?_, q⟩
  have e : b = s.heap.objs.size := by simpa using hb
  subst e
  exact I.fpOk (Nat.le_refl _) (I.hok.fresh (Nat.le_refl _))
theorem iter_str {pins : List (Addr × Obj)} {s : Shared} {σ : L2.St} {H : Hp} {x : Str} {v : Value} {R : L2.It → Hp → Prop} (I : Inv X pins σ H s) (r : RelV (.str x) v) (q : R (Its x) H) : wpAny (model X.prog X.w) X.A (pyIter v) (PIE X pins σ tg R) X.xe s := by
  obtain ⟨t, rfl⟩ := r
  cases ha : x.cps.all (· < 128)
  · exact wpAny_pyIter_wide ha (pi_one (tk := s.toks) I _ (turn_str _ x t "str_iterator" (.inr rfl)) ⟨_, Heap.get?_push_size _ rfl, rfl, rfl⟩ q)
  · exact wpAny_pyIter_ascii ha (pi_one (tk := s.toks) I _ (turn_str _ x t "str_ascii_iterator" (.inl rfl)) ⟨_, Heap.get?_push_size _ rfl, rfl, rfl⟩ q)
theorem snd_seq {e : Expr} {re : Env → M PV} (he : PE X e (tE X.K XC W re)) : PI X tg e (tI X.K XC W fun env => M.bnd (re env) fun x => M.lift fun _ => match x with
    | .d (.list xs) => some (.its (xs.map PV.d))
    | .d (.tup xs) => some (.its (xs.map PV.d))
    | .d (.str s) => some (.its (s.map fun c => PV.d (.str [c])))
    | _ => .none) := by
  refine ⟨fun pins s σ H R I q => ?_⟩
  obtain ⟨env, h, z, m, rs, rh, out⟩ := q
  refine thn (he.run pins s σ H (fun x H1 => ∃ v h1 m1 r, Rep X.K z m1 H1 v x ∧ (match v with
    | .d (.list xs) => some (Run.its (xs.map PV.d))
    | .d (.tup xs) => some (.its (xs.map PV.d))
    | .d (.str s) => some (.its (s.map fun c => PV.d (.str [c])))
    | _ => .none) = some r ∧ RelH X.K z m1 H1 h1 ∧ ∀ J, RunOk X.K z m1 H1 r J → R J H1) I ⟨env, h, z, m, rs, rh, out.bnd.imp fun v h1 m1 H1 e1 rh1 o1 x rx => ?_⟩) fun v s1 ⟨x, H1, I1, r1, w, h1, m1, r, rx, er, rh1, q⟩ => ?_
  · obtain ⟨r, er, p⟩ := o1.lift
    exact ⟨v, h1, m1, r, rx, er, rh1, p m1 H1 (Ext.refl _ _) rh1⟩
  · split at er
    · cases er
      obtain ⟨a, us, rfl, h2, h3, h4⟩ := rx.list
      cases r1
      exact iter_list I1 h2.sq (q _ (its_list h2 h4))
    · cases er
      obtain ⟨a, us, rfl, h2, h3, h4⟩ := rx.tup
      cases r1
      exact iter_tup I1 h2.sq (q _ (its_tup h2 h4))
    · cases er
      have hx := rx.str
      subst hx
      exact iter_str I1 r1 (q _ its_str)
    · cases er
theorem snd_cellI {e : Expr} {re : Env → M PV} (he : PE X e (tE X.K XC W re)) : PI X tg e (tI X.K XC W fun env => M.bnd (re env) fun x => M.lift fun h => match x with
    | .ref l => (items h (.ref l)).map fun xs => .cell l xs.length
    | _ => .none) := by
  refine (pi_list he).to fun σ H R q => ?_
  obtain ⟨env, h, z, m, rs, rh, out⟩ := q
  refine ⟨env, h, z, m, rs, rh, out.bnd.imp fun v h1 m1 H1 e1 rh1 o1 x rx => ?_⟩
  obtain ⟨r, er, p⟩ := o1.lift
  split at er
  · rename_i l
    obtain ⟨xs, hit, rfl⟩ := Option.map_eq_some_iff.mp er
    rw [Rep] at rx
    obtain ⟨a, rfl, ha⟩ := rx
    have hc : h1[l]? = some (.lst xs) := by
      simp only [items] at hit
      split at hit
      · cases hit; assumption
      · cases hit
    obtain ⟨us, h2, _⟩ := rh1.cell l a xs ha hc
    exact ⟨a, rfl, ⟨us, .inl (.inl h2)⟩, p m1 H1 (Ext.refl _ _) rh1 _ ⟨a, ha, rfl⟩⟩
  · cases er
theorem small_of {i : Int} (h : small i = true) : -(2 ^ 62) ≤ i ∧ i < 2 ^ 62 := by
  unfold small at h
  simp only [Bool.and_eq_true, decide_eq_true_eq] at h
  exact h
theorem snd_rng1 (G : Gd P T C XC k N sc X) {a : Expr} {ra : Env → M PV} {p pos : Pos} (h2 : isGl sc "range" = true) (h3 : P.blts.contains "range" = true) (hs : notStar a = true) (ha : PE X a (tE X.K XC W ra)) :
    PI X tg (.Call (.Name "range" p) [a] [] pos) (tI X.K XC W fun env => M.bnd (ra env) fun x => M.lift fun _ => match x with
    | .d (.int j) => if small j then some (.its (rangeD 0 j.toNat 1)) else .none
    | _ => .none) := by
  refine (pi_range1 (gl_of G h2) (G.facts.blts _ h3) (pa_cons ha pa_nil (starEach_one hs)) (starEach_one hs)).to fun σ H R q => ?_
  obtain ⟨env, h, z, m, rs, rh, out⟩ := q
  refine ⟨env, h, z, m, rs, rh, out.bnd.imp fun v h1 m1 H1 e1 rh1 o1 x rx => ?_⟩
  obtain ⟨r, er, p⟩ := o1.lift
  split at er
  · split at er
    · cases er
      obtain ⟨q1, q2⟩ := small_of ‹_›
      refine ⟨_, by rw [rx.int], q1, q2, p m1 H1 (Ext.refl _ _) rh1 _ its_range⟩
    · cases er
  · cases er
theorem snd_rng2 (G : Gd P T C XC k N sc X) {a b : Expr} {ra rb : Env → M PV} {p pos : Pos} (h2 : isGl sc "range" = true) (h3 : P.blts.contains "range" = true) (hs : notStar a = true) (hs2 : notStar b = true) (ha : PE X a (tE X.K XC W ra)) (hb : PE X b (tE X.K XC W rb)) :
    PI X tg (.Call (.Name "range" p) [a, b] [] pos) (tI X.K XC W fun env => M.bnd (ra env) fun x => M.bnd (rb env) fun y => M.lift fun _ => match x, y with
    | .d (.int i), .d (.int j) => if small i && small j then some (.its (rangeD i (j - i).toNat 1)) else .none
    | _, _ => .none) := by
  have s2 := starEach_one (es := []) (env := X.env) hs2
  refine (pi_range2 (gl_of G h2) (G.facts.blts _ h3) (pa_cons ha (pa_cons hb pa_nil s2) (starEach_one hs)) (by rw [starEach_one hs, s2]; rfl) s2).to fun σ H R q => ?_
  obtain ⟨env, h, z, m, rs, rh, out⟩ := q
  refine ⟨env, h, z, m, rs, rh, out.bnd.imp fun v h1 m1 H1 e1 rh1 o1 x rx => ?_⟩
  refine ⟨env, h1, z, m1, rs.keep e1.keeps, rh1, o1.bnd.imp fun v2 h2 m2 H2 e2 rh2 o2 y ry => ?_⟩
  obtain ⟨r, er, p⟩ := o2.lift
  split at er
  · split at er
    · cases er
      rename_i hsm
      simp only [Bool.and_eq_true] at hsm
      obtain ⟨q1, q2⟩ := small_of hsm.1
      obtain ⟨q3, q4⟩ := small_of hsm.2
      exact ⟨_, _, by rw [rx.int, ry.int], ⟨q1, q2, q3, q4⟩, p m2 H2 (Ext.refl _ _) rh2 _ its_range⟩
    · cases er
  · cases er
theorem snd_rng3 (G : Gd P T C XC k N sc X) {a b : Expr} {ra rb : Env → M PV} {p pos p1 p2 : Pos} {j : Nat} (h2 : isGl sc "range" = true) (h3 : P.blts.contains "range" = true) (hs : notStar a = true) (hs2 : notStar b = true) (ha : PE X a (tE X.K XC W ra)) (hb : PE X b (tE X.K XC W rb)) :
    PI X tg (.Call (.Name "range" p) [a, b, .UnaryOp .USub (.Constant (.int 1) j p1) p2] [] pos) (tI X.K XC W fun env => M.bnd (ra env) fun x => M.bnd (rb env) fun y => M.lift fun _ => match x, y with
    | .d (.int i), .d (.int j) => if decide (-1000000 ≤ i) && decide (i ≤ 1000000) && decide (-1000000 ≤ j) && decide (j ≤ 1000000) && decide ((-1 : Int) = -1) then some (.its (rangeD i (turns i j (-1)) (-1))) else .none
    | _, _ => .none) := by
  have s2 : starEach (b :: [.UnaryOp .USub (.Constant (.int 1) j p1) p2]) X.env = (false, eval b X.env) :: starEach [.UnaryOp .USub (.Constant (.int 1) j p1) p2] X.env := starEach_one hs2
  refine (pi_range3 (gl_of G h2) (G.facts.blts _ h3) (pa_cons ha (pa_cons hb (pa_cons (pe_un un_neg pe_int) pa_nil rfl) s2) (starEach_one hs)) (starEach_one hs) (stars_false _ _ _ (by show (notStar b && _) = true; rw [hs2]; rfl))).to fun σ H R q => ?_
  obtain ⟨env, h, z, m, rs, rh, out⟩ := q
  refine ⟨env, h, z, m, rs, rh, out.bnd.imp fun v h1 m1 H1 e1 rh1 o1 x rx => ?_⟩
  refine ⟨env, h1, z, m1, rs.keep e1.keeps, rh1, o1.bnd.imp fun v2 h2 m2 H2 e2 rh2 o2 y ry => ?_⟩
  obtain ⟨r, er, p⟩ := o2.lift
  split at er
  · rename_i i j
    split at er
    · cases er
      rename_i hsm
      simp only [Bool.and_eq_true, decide_eq_true_eq] at hsm
      obtain ⟨⟨⟨⟨q1, q2⟩, q3⟩, q4⟩, _⟩ := hsm
      have ht : turns i j (-1) = (i - j).toNat := by
        unfold turns
        rw [if_neg (by decide)]
        congr 1
        simp
      refine ⟨1, rfl, i, j, -1, (i - j).toNat, by rw [rx.int, ry.int], RgC.neg (by omega) (by omega) (by omega) (by omega), ?_⟩
      rw [← ht]
      exact p m2 H2 (Ext.refl _ _) rh2 _ its_rangeC
    · cases er
  · cases er
theorem snd_zip (G : Gd P T C XC k N sc X) {a b : Expr} {ra rb : Env → M PV} {p pos tpos : Pos} {elts : List Expr} {kk : Nat} (h2 : isGl sc "zip" = true) (h3 : P.blts.contains "zip" = true) (hs : notStar a = true) (hs2 : notStar b = true) (ha : PE X a (tE X.K XC W ra)) (hb : PE X b (tE X.K XC W rb)) :
    PI X (.Tuple elts kk tpos) (.Call (.Name "zip" p) [a, b] [] pos) (tI X.K XC W fun env => M.bnd (ra env) fun x => M.bnd (rb env) fun y => M.lift fun _ => match x, y with
    | .d (.list xs), .d (.list ys) => some (.its (zipD xs ys))
    | .d (.tup xs), .d (.tup ys) => some (.its (zipD xs ys))
    | _, _ => .none) := by
  have s2 := starEach_one (es := []) (env := X.env) hs2
  refine (RZ.pi_zipA (gl_of G h2) (G.facts.blts _ h3) (pa_cons ha (pa_cons hb pa_nil s2) (starEach_one hs)) (starEach_one hs) (stars_false _ _ _ (by show (notStar b && _) = true; rw [hs2]; rfl))).to fun σ H R q => ?_
  obtain ⟨env, h, z, m, rs, rh, out⟩ := q
  refine ⟨env, h, z, m, rs, rh, out.bnd.imp fun v h1 m1 H1 e1 rh1 o1 x rx => ?_⟩
  refine ⟨env, h1, z, m1, rs.keep e1.keeps, rh1, o1.bnd.imp fun v2 h2 m2 H2 e2 rh2 o2 y ry => ?_⟩
  obtain ⟨r, er, p⟩ := o2.lift
  have rx := rx.keep e2.keeps
  split at er
  · cases er
    obtain ⟨a1, us, rfl, l2, l3, l4⟩ := rx.list
    obtain ⟨a2, ws, rfl, k2, k3, k4⟩ := ry.list
    exact ⟨a1, a2, us, ws, rfl, .inl ⟨l2.sq, k2.sq, p m2 H2 (Ext.refl _ _) rh2 _ (its_zipL l2 l4 k2 k4)⟩⟩
  · cases er
    obtain ⟨a1, us, rfl, l2, l3, l4⟩ := rx.tup
    obtain ⟨a2, ws, rfl, k2, k3, k4⟩ := ry.tup
    exact ⟨a1, a2, us, ws, rfl, .inr ⟨l2.sq, k2.sq, p m2 H2 (Ext.refl _ _) rh2 _ (its_zipT l2 l4 k2 k4)⟩⟩
  · cases er
theorem snd_enum (G : Gd P T C XC k N sc X) {a : Expr} {ra : Env → M PV} {p pos tpos : Pos} {elts : List Expr} {kk : Nat} (h2 : isGl sc "enumerate" = true) (h3 : P.blts.contains "enumerate" = true) (hs : notStar a = true) (ha : PE X a (tE X.K XC W ra)) :
    PI X (.Tuple elts kk tpos) (.Call (.Name "enumerate" p) [a] [] pos) (tI X.K XC W fun env => M.bnd (ra env) fun x => M.lift fun _ => match x with
    | .d (.list xs) => some (.its (enumD 0 xs))
    | .d (.tup xs) => some (.its (enumD 0 xs))
    | _ => .none) := by
  refine (RE.pi_enumA (gl_of G h2) (G.facts.blts _ h3) (pa_cons ha pa_nil (starEach_one hs)) (starEach_one hs)).to fun σ H R q => ?_
  obtain ⟨env, h, z, m, rs, rh, out⟩ := q
  refine ⟨env, h, z, m, rs, rh, out.bnd.imp fun v h1 m1 H1 e1 rh1 o1 x rx => ?_⟩
  obtain ⟨r, er, p⟩ := o1.lift
  split at er
  · cases er
    obtain ⟨a1, us, rfl, l2, l3, l4⟩ := rx.list
    exact ⟨a1, us, rfl, .inl ⟨l2.sq, p m1 H1 (Ext.refl _ _) rh1 _ (its_enum l2 l4)⟩⟩
  · cases er
    obtain ⟨a1, us, rfl, l2, l3, l4⟩ := rx.tup
    exact ⟨a1, us, rfl, .inr ⟨l2.sq, p m1 H1 (Ext.refl _ _) rh1 _ (its_enumT l2 l4)⟩⟩
  · cases er
end
end Ev
end

section
/-! EvSnd7: comprehensions. -/
set_option autoImplicit false
set_option linter.all false
set_option Elab.async false
set_option maxRecDepth 100000
set_option maxHeartbeats 1000000
namespace Ev
open PySem L2 PyProof.Rows

def WNo : WX := fun _ _ _ _ => False
section
variable {K : PySem.W.Frag} {XC : Nat → Option Addr}
theorem Out.bndB {α β : Type} {z z' m1 m' : List Addr} {H1 H' : Hp} {x : M α} {f : α → M β} {h : Hh} {P : β → Hh → List Addr → Hp → Prop} {E E' : XK} (o : Out K XC z m1 H1 (M.bnd (M.calm x) f h) P E) :
    Out K XC z' m' H' (x h) (fun a h'' _ _ => Out K XC z m1 H1 (f a h'') P E) E' := by
  unfold M.bnd M.calm at o
  cases e : x h with
  | ok a h' => simp only [e] at o; exact fun _ _ _ _ => o
  | exc c v h' => simp only [e] at o; exact o.elim
  | stuck => simp only [e] at o; exact o

/-- the list D is being built -/
def LcInv (K : PySem.W.Frag) (z m1 : List Addr) (H1 : Hp) (Dd : Addr) (acc : List D) (h' : Hh) (m' : List Addr) (H : Hp) : Prop :=
  Ext m1 H1 m' H ∧ RelH K (Dd :: z) m' H h' ∧ ∃ us, H Dd = some (.lst us) ∧ us.length ≤ sizeLine ∧ RepDs K (Dd :: z) m' H acc us
theorem zsub {z : List Addr} {H1 : Hp} {Dd : Addr} (hD : H1 Dd = none) : ∀ a ∈ Dd :: z, a ∈ z ∨ H1 a = none := fun a ha => by
  rcases List.mem_cons.mp ha with rfl | h
  · exact .inr hD
  · exact .inl h
theorem kept_tail {z m : List Addr} {H : Hp} {Dd : Addr} : Kept K (Dd :: z) m H z m H := by
  have t : ∀ {a : Addr}, a ∉ Dd :: z → a ∉ z := fun h q => h (List.mem_cons_of_mem _ q)
  exact ⟨fun a us ⟨h, n, y⟩ => ⟨h, n, t y⟩, fun a us h => h.imp (fun ⟨h, n, y⟩ => ⟨h, n, t y⟩) id, fun _ _ h => h, fun a us ⟨h, n, y⟩ => ⟨h, n, t y⟩⟩
theorem kept_upd {z m : List Addr} {H : Hp} {Dd : Addr} {o : HO} : Kept K (Dd :: z) m H (Dd :: z) m (upd H Dd o) := by
  have ne : ∀ {a : Addr}, a ∉ Dd :: z → a ≠ Dd := fun h q => h (by rw [q]; exact List.mem_cons_self ..)
  have rd : ∀ {a : Addr} {u : HO}, Rd H a u → a ≠ Dd → Rd (upd H Dd o) a u := fun h n => by
    rcases h with h | ⟨x, h⟩
    · exact .inl (by rw [upd_ne n]; exact h)
    · exact .inr ⟨x, by rw [upd_ne n]; exact h⟩
  exact ⟨fun a us ⟨h, n, y⟩ => ⟨by rw [upd_ne (ne y)]; exact h, n, y⟩, fun a us h => h.imp (fun ⟨h, n, y⟩ => ⟨rd h (ne y), n, y⟩) id, fun _ _ h => h, fun a us ⟨h, n, y⟩ => ⟨rd h (ne y), n, y⟩⟩
theorem RelH.tail {z m : List Addr} {H : Hp} {h : Hh} {Dd : Addr} (r : RelH K (Dd :: z) m H h) : RelH K z m H h :=
  ⟨r.nd, r.len, fun l a xs h1 h2 => let ⟨us, e1, e2, e3⟩ := r.cell l a xs h1 h2; ⟨us, e1, e2, e3.keep kept_tail⟩, fun l a xs h1 h2 => let ⟨us, e1, e2, e3⟩ := r.dcell l a xs h1 h2; ⟨us, e1, e2, e3.keep kept_tail⟩, fun a ha => r.zt a (List.mem_cons_of_mem _ ha), r.tb⟩
theorem RelH.upd {z m : List Addr} {H : Hp} {h : Hh} {Dd : Addr} {us0 : List V} (r : RelH K (Dd :: z) m H h) : RelH K (Dd :: z) m (L2.upd H Dd (.lst us0)) h := by
  have nD := (r.zt Dd (List.mem_cons_self ..)).2
  obtain ⟨us1, hD⟩ := (r.zt Dd (List.mem_cons_self ..)).1
  refine ⟨r.nd, r.len, fun l a xs h1 h2 => ?_, fun l a xs h1 h2 => ?_, fun a ha => ?_, tabs_lst r.tb hD⟩
  · obtain ⟨us, e1, e2, e3⟩ := r.cell l a xs h1 h2
    have ne : a ≠ Dd := fun q => nD (q ▸ List.mem_of_getElem? h1)
    exact ⟨us, by rw [upd_ne ne]; exact e1, e2, e3.keep kept_upd⟩
  · obtain ⟨us, e1, e2, e3⟩ := r.dcell l a xs h1 h2
    have ne : a ≠ Dd := fun q => nD (q ▸ List.mem_of_getElem? h1)
    exact ⟨us, by rw [upd_ne ne]; exact e1, e2, e3.keep kept_upd⟩
  · refine ⟨?_, (r.zt a ha).2⟩
    by_cases e : a = Dd
    · subst e; exact ⟨_, upd_same⟩
    · obtain ⟨⟨u, q⟩, _⟩ := r.zt a ha
      exact ⟨u, by rw [upd_ne e]; exact q⟩
theorem LcInv.start {z m1 : List Addr} {H1 : Hp} {Dd : Addr} {h1 : Hh} (rh : RelH K z m1 H1 h1) (hD : H1 Dd = none) : LcInv K z m1 H1 Dd [] h1 m1 (upd H1 Dd (.lst [])) := by
  have e : Ext m1 H1 m1 (upd H1 Dd (.lst [])) := Ext.new hD
  refine ⟨e, ⟨rh.nd, rh.len, fun l a xs q1 q2 => ?_, fun l a xs q1 q2 => ?_, fun a ha => ?_, tabs_new rh.tb hD⟩, [], upd_same, Nat.zero_le _, by rw [RepDs]⟩
  · obtain ⟨us, e1, e2, e3⟩ := rh.cell l a xs q1 q2
    exact ⟨us, by rw [upd_ne (ne_of_none e1 hD)]; exact e1, e2, e3.keep (e.keepsZ (zsub hD))⟩
  · obtain ⟨us, e1, e2, e3⟩ := rh.dcell l a xs q1 q2
    exact ⟨us, by rw [upd_ne (ne_of_none e1 hD)]; exact e1, e2, e3.keep (e.keepsZ (zsub hD))⟩
  · rcases List.mem_cons.mp ha with rfl | h
    · exact ⟨⟨_, upd_same⟩, (rh.fresh hD).1⟩
    · obtain ⟨⟨u, q⟩, n⟩ := rh.zt a h
      exact ⟨⟨u, by rw [upd_ne (ne_of_none q hD)]; exact q⟩, n⟩
/-- the built list is a value -/
theorem LcInv.done {z m1 m' : List Addr} {H1 H : Hp} {Dd : Addr} {acc : List D} {h1 h' : Hh} (rh1 : RelH K z m1 H1 h1) (hD : H1 Dd = none) (I : LcInv K z m1 H1 Dd acc h' m' H) : RelH K z m' H h' ∧ Rep K z m' H (.d (.list acc)) (.ref Dd) := by
  obtain ⟨e, rh, us, q1, q2, q3⟩ := I
  refine ⟨rh.tail, ?_⟩
  rw [Rep, RepD]
  exact ⟨Dd, us, rfl, ⟨q1, (rh.zt Dd (List.mem_cons_self ..)).2, (rh1.fresh hD).2⟩, q2, q3.keep kept_tail⟩

def Step {α : Type} (kont : List D → M PV) (acc : List D) (r : Option PV) : M PV := match r with
  | none => kont acc
  | some (.d y) => if acc.length < LIM then kont (acc ++ [y]) else M.stuck
  | _ => M.stuck
theorem lc_turn {z m1 m' : List Addr} {H1 H H' : Hp} {Dd : Addr} {acc : List D} {h' : Hh} {P : PV → Hh → List Addr → Hp → Prop} {E : XK} {kont : List D → M PV} {rt : Env → M Bool} {re : Env → M PV} {env' : Env} {σ2 : L2.St} (hD : H1 Dd = none)
    (I : LcInv K z m1 H1 Dd acc h' m' H) (e : Ext m' H m' H') (rh : RelH K (Dd :: z) m' H' h') (hk : ∀ a, H a ≠ none → H' a = H a) (rs : RelS K (Dd :: z) m' H' env' σ2)
    (o : Out K XC z m1 H1 (M.bnd (M.calm (M.bnd (rt env') fun b => if b then M.bnd (re env') fun v => M.ret (some v) else M.ret none)) (Step (α := Unit) kont acc) h') P E) :
    tTt K XC WNo rt σ2 H' fun b H3 => if b = true then tE K XC WNo re σ2 H3 fun y H4 => ∃ us, H4 Dd = some (.lst us) ∧ us.length < sizeLine ∧ (∃ acc' h'' m'', LcInv K z m1 H1 Dd acc' h'' m'' (upd H4 Dd (.lst (us ++ [y]))) ∧ Out K XC z m1 H1 (kont acc' h'') P E)
      else ∃ acc' h'' m'', LcInv K z m1 H1 Dd acc' h'' m'' H3 ∧ Out K XC z m1 H1 (kont acc' h'') P E := by
  obtain ⟨e0, rh0, us, q1, q2, q3⟩ := I
  have nD : Dd ∉ m' := (rh0.zt Dd (List.mem_cons_self ..)).2
  have qD : H' Dd = some (.lst us) := by rw [hk Dd (by rw [q1]; simp)]; exact q1
  have o1 := (Out.bndB (z' := Dd :: z) (m' := m') (H' := H') (E' := fun cls d H' => WNo cls d σ2 H') o).bnd
  refine ⟨env', h', Dd :: z, m', rs, rh, o1.imp fun b h3 m3 H3 e3 rh3 o3 => ?_⟩
  have e13 : Ext m1 H1 m3 H3 := (e0.trans e).trans e3
  have qD3 := e3.imm _ _ qD nD fun ps q => by cases q
  have acc3 : RepDs K (Dd :: z) m3 H3 acc us := (q3.keep e.keeps).keep e3.keeps
  cases b with
  | false =>
    simp only [Bool.false_eq_true, if_false] at o3 ⊢
    have o4 := o3.ret m3 H3 (Ext.refl _ _) rh3
    exact ⟨acc, h3, m3, ⟨e13, rh3, us, qD3.1, q2, acc3⟩, o4⟩
  | true =>
    simp only [if_true] at o3 ⊢
    refine ⟨env', h3, Dd :: z, m3, rs.keep e3.keeps, rh3, o3.bnd.imp fun v h4 m4 H4 e4 rh4 o4 y ry => ?_⟩
    have o5 := o4.ret m4 H4 (Ext.refl _ _) rh4
    have qD4 := e4.imm _ _ qD3.1 qD3.2 fun ps q => by cases q
    cases v with
    | d w =>
      simp only [Step] at o5
      split at o5
      · rename_i hl
        have hlen : acc.length = us.length := q3.length
        refine ⟨us, qD4.1, by rw [← hlen, ← lim_size]; exact hl, acc ++ [w], h4, m4, ⟨⟨?_, fun a o h1 h2 hy => ?_⟩, rh4.upd, us ++ [y], upd_same, ?_, ?_⟩, o5⟩
        · exact (e13.trans e4).pre
        · have ne : a ≠ Dd := ne_of_none h1 hD
          have z := (e13.trans e4).imm a o h1 h2 hy
          exact ⟨by rw [upd_ne ne]; exact z.1, z.2⟩
        · rw [List.length_append, List.length_singleton, ← hlen, ← lim_size]; exact hl
        · refine RepDs.keep kept_upd ((acc3.keep e4.keeps).append ?_)
          rw [RepDs]
          exact ⟨y, [], rfl, ry, by rw [RepDs]⟩
      · exact (show False from o5).elim
    | ref _ => exact (show False from o5).elim
    | dict _ => exact (show False from o5).elim
    | scr _ => exact (show False from o5).elim
    | tp _ => exact (show False from o5).elim
theorem step_its (kont : List D → M PV) (acc : List D) : (fun r : Option PV => match r with
      | .none => kont acc
      | some (.d y) => if acc.length < LIM then kont (acc ++ [y]) else M.stuck
      | _ => M.stuck) = Step (α := Unit) kont acc := by
  funext r
  cases r with
  | none => rfl
  | some v => cases v <;> rfl

section
variable {σ : L2.St} {W : WX} {Q : VK} {t : T} {vs : List Nat} {rt : Env → M Bool} {re : Env → M PV}
/-- what a turn makes -/
def eltOf (rt : Env → M Bool) (re : Env → M PV) : Env → M (Option PV) := fun env' => M.bnd (rt env') fun b => if b then M.bnd (re env') fun v => M.ret (some v) else M.ret none
theorem lc_its {z m1 : List Addr} {H1 : Hp} {h1 : Hh} {env : Env} {xs : List PV} {J : L2.It} (hs : ∀ i ∈ t.slots, i ∈ vs) (rs : RelS K z m1 H1 env σ) (rh1 : RelH K z m1 H1 h1) (hJ : ItsOk K z m1 H1 xs J)
    (o : Out K XC z m1 H1 (lcGo (eltOf rt re) (T.store t) (Ev.wipe env vs) xs [] h1) (fun v h' m' H' => ∀ x, Rep K z m' H' v x → Q x H') fun cls d H' => W cls d σ H') (Dd : Addr) (hD : H1 Dd = none) :
    ∃ Wt : Nat → Nat → Hp → Prop, (∃ n, Wt 0 n (upd H1 Dd (.lst []))) ∧ ∀ i n H, Wt i n H →
  (J.stop i H ∧ Q (.ref Dd) H) ∨ (J.go i H ∧ ∃ Nx : Hp → Prop, (∀ H', Nx H' → ∃ m', m' < n ∧ Wt (i + 1) m' H') ∧ ∀ x H', J.yld i H x H' → gT K t x (L2.wipe σ vs) H' fun σ2 H2 => L2.wipe σ2 vs = L2.wipe σ vs ∧ tTt K XC WNo rt σ2 H2 fun b H3 =>
    if b = true then tE K XC WNo re σ2 H3 fun y H4 => ∃ acc, H4 Dd = some (.lst acc) ∧ acc.length < sizeLine ∧ Nx (upd H4 Dd (.lst (acc ++ [y]))) else Nx H3) := by
  refine ⟨fun i n H => n = xs.length - i ∧ i ≤ xs.length ∧ ∃ acc h' m', LcInv K z m1 H1 Dd acc h' m' H ∧ Out K XC z m1 H1 (lcGo (eltOf rt re) (T.store t) (Ev.wipe env vs) (xs.drop i) acc h') (fun v h' m' H' => ∀ x, Rep K z m' H' v x → Q x H') (fun cls d H' => W cls d σ H'),
    ⟨xs.length, by simp, Nat.zero_le _, [], h1, m1, LcInv.start rh1 hD, o⟩, ?_⟩
  rintro i n H ⟨rfl, hi, acc, h', m', I, o'⟩
  by_cases hlt : i < xs.length
  · refine .inr ⟨hJ.go i _ m' H (I.1.keepsZ (zsub hD)) hlt, fun H' => ∃ acc' h'' m'', LcInv K z m1 H1 Dd acc' h'' m'' H' ∧ Out K XC z m1 H1 (lcGo (eltOf rt re) (T.store t) (Ev.wipe env vs) (xs.drop (i + 1)) acc' h'') (fun v h' m' H' => ∀ x, Rep K z m' H' v x → Q x H') (fun cls d H' => W cls d σ H'), fun H' hN => ⟨xs.length - (i + 1), by omega, rfl, hlt, hN⟩, fun x H' y => ?_⟩
    rw [List.drop_eq_getElem_cons hlt, lcGo] at o'
    obtain ⟨e2, rh2, rx, hk⟩ := hJ.yld i (Dd :: z) m' H h' x H' xs[i] (I.1.keepsZ (zsub hD)) I.2.1 (by simp [hlt]) y
    cases est : T.store t xs[i] (Ev.wipe env vs) with
    | none => rw [est] at o'; exact (show False from o').elim
    | some env' =>
      rw [est] at o'
      simp only [step_its (fun acc => lcGo (eltOf rt re) (T.store t) (Ev.wipe env vs) (xs.drop (i + 1)) acc)] at o'
      refine ⟨Ev.wipe env vs, env', xs[i], Dd :: z, m', ?_, rx, est, fun σ' rs' only => ⟨?_, ?_⟩⟩
      · exact (rs.keep ((I.1.trans e2).keepsZ (zsub hD))).wipe vs
      · rw [only.2 vs hs]
        apply List.ext_getElem?
        intro j
        rw [wipe_at, wipe_at, wipe_length]
        by_cases hj : j ∈ vs <;> simp [hj]
      · exact lc_turn hD I e2 rh2 hk rs' o'
  · have hi' : i = xs.length := by omega
    subst hi'
    refine .inl ⟨hJ.stop _ m' H (I.1.keepsZ (zsub hD)), ?_⟩
    rw [List.drop_length, lcGo] at o'
    obtain ⟨q1, q2⟩ := I.done rh1 hD
    exact o'.ret m' H I.1 q1 _ q2
theorem lc_cell {z m1 : List Addr} {H1 : Hp} {h1 : Hh} {env : Env} {l n : Nat} {a : Addr} (hs : ∀ i ∈ t.slots, i ∈ vs) (rs : RelS K z m1 H1 env σ) (rh1 : RelH K z m1 H1 h1) (ha : m1[l]? = some a)
    (o : Out K XC z m1 H1 (lcCell (eltOf rt re) (T.store t) (Ev.wipe env vs) l n n [] h1) (fun v h' m' H' => ∀ x, Rep K z m' H' v x → Q x H') fun cls d H' => W cls d σ H') (Dd : Addr) (hD : H1 Dd = none) :
    ∃ Wt : Nat → Nat → Hp → Prop, (∃ n, Wt 0 n (upd H1 Dd (.lst []))) ∧ ∀ i k H, Wt i k H →
  ((Itl K a).stop i H ∧ Q (.ref Dd) H) ∨ ((Itl K a).go i H ∧ ∃ Nx : Hp → Prop, (∀ H', Nx H' → ∃ m', m' < k ∧ Wt (i + 1) m' H') ∧ ∀ x H', (Itl K a).yld i H x H' → gT K t x (L2.wipe σ vs) H' fun σ2 H2 => L2.wipe σ2 vs = L2.wipe σ vs ∧ tTt K XC WNo rt σ2 H2 fun b H3 =>
    if b = true then tE K XC WNo re σ2 H3 fun y H4 => ∃ acc, H4 Dd = some (.lst acc) ∧ acc.length < sizeLine ∧ Nx (upd H4 Dd (.lst (acc ++ [y]))) else Nx H3) := by
  refine ⟨fun i k H => k = n - i ∧ i ≤ n ∧ ∃ acc h' m', LcInv K z m1 H1 Dd acc h' m' H ∧ Out K XC z m1 H1 (lcCell (eltOf rt re) (T.store t) (Ev.wipe env vs) l n (n - i) acc h') (fun v h' m' H' => ∀ x, Rep K z m' H' v x → Q x H') (fun cls d H' => W cls d σ H'),
    ⟨n, by simp, Nat.zero_le _, [], h1, m1, LcInv.start rh1 hD, o⟩, ?_⟩
  rintro i k H ⟨rfl, hi, acc, h', m', I, o'⟩
  have get : ∀ {r : List PV → R PV} {P : PV → Hh → List Addr → Hp → Prop} {E : XK}, Out K XC z m1 H1 (match h'[l]? with | some (.lst xs) => r xs | _ => .stuck) P E → ∃ xs us, h'[l]? = some (.lst xs) ∧ H a = some (.lst us) ∧ Reps K (Dd :: z) m' H xs us ∧ Out K XC z m1 H1 (r xs) P E := fun {r P E} q => by
    cases hc : h'[l]? with
    | none => rw [hc] at q; exact (show False from q).elim
    | some c =>
      cases c with
      | lst xs =>
        rw [hc] at q
        obtain ⟨us, q1, _, q3⟩ := I.2.1.cell l a xs (I.1.at ha) hc
        exact ⟨xs, us, rfl, q1, q3, q⟩
      | dic _ => rw [hc] at q; exact (show False from q).elim
  by_cases hlt : i < n
  · have hk : n - i = (n - (i + 1)) + 1 := by omega
    rw [hk] at o'
    obtain ⟨xs, us, hc, hu, ru, o2⟩ := get o'
    split at o2
    · rename_i hn
      have hix : n - (n - (i + 1) + 1) = i := by omega
      rw [hix] at o2
      have hlx : i < xs.length := by omega
      have hlu : i < us.length := by rw [← ru.length]; exact hlx
      have sq : SqL K H a us := .inl (.inl hu)
      refine .inr ⟨⟨us, us[i], sq, by simp [hlu]⟩, fun H' => ∃ acc' h'' m'', LcInv K z m1 H1 Dd acc' h'' m'' H' ∧ Out K XC z m1 H1 (lcCell (eltOf rt re) (T.store t) (Ev.wipe env vs) l n (n - (i + 1)) acc' h'') (fun v h' m' H' => ∀ x, Rep K z m' H' v x → Q x H') (fun cls d H' => W cls d σ H'), fun H' hN => ⟨n - (i + 1), by omega, rfl, hlt, hN⟩, fun x H' y => ?_⟩
      obtain ⟨rfl, y⟩ := y
      obtain ⟨x', hx1, hx2⟩ := ru.get (i := i) (x := xs[i]) (by simp [hlx])
      rw [y us sq] at hx1
      cases hx1
      have hxi : xs[i]? = some xs[i] := by simp [hlx]
      rw [hxi] at o2
      simp only at o2
      cases est : T.store t xs[i] (Ev.wipe env vs) with
      | none => rw [est] at o2; exact (show False from o2).elim
      | some env' =>
        rw [est] at o2
        simp only [step_its (fun acc => lcCell (eltOf rt re) (T.store t) (Ev.wipe env vs) l n (n - (i + 1)) acc)] at o2
        refine ⟨Ev.wipe env vs, env', xs[i], Dd :: z, m', ?_, hx2, est, fun σ' rs' only => ⟨?_, ?_⟩⟩
        · exact (rs.keep (I.1.keepsZ (zsub hD))).wipe vs
        · rw [only.2 vs hs]
          apply List.ext_getElem?
          intro j
          rw [wipe_at, wipe_at, wipe_length]
          by_cases hj : j ∈ vs <;> simp [hj]
        · exact lc_turn hD I (.refl _ _) I.2.1 (fun _ _ => rfl) rs' o2
    · exact (show False from o2).elim
  · have hi' : i = n := by omega
    subst hi'
    rw [Nat.sub_self] at o'
    obtain ⟨xs, us, hc, hu, ru, o2⟩ := get o'
    split at o2
    · rename_i hn
      obtain ⟨q1, q2⟩ := I.done rh1 hD
      exact .inl ⟨⟨us, .inl (.inl hu), by rw [← ru.length, hn]; exact Nat.le_refl _⟩, o2 m' H I.1 q1 _ q2⟩
    · exact (show False from o2).elim
/-- the whole of it -/
theorem lc_all {rit : Env → M Run} {H : Hp} (hs : ∀ i ∈ t.slots, i ∈ vs) (q : tE K XC W (fun env => M.bnd (rit env) fun r => match r with
    | .its xs => lcGo (eltOf rt re) (T.store t) (Ev.wipe env vs) xs []
    | .cell l n => lcCell (eltOf rt re) (T.store t) (Ev.wipe env vs) l n n []) σ H Q) : tLc (tI K XC W rit) (gT K t) (tTt K XC WNo rt) (tE K XC WNo re) vs σ H Q := by
  obtain ⟨env, h, z, m, rs, rh, out⟩ := q
  refine ⟨env, h, z, m, rs, rh, out.bnd.imp fun run h1 m1 H1 e1 rh1 o1 J hJ Dd hD => ?_⟩
  cases run with
  | its xs => exact lc_its hs (rs.keep e1.keeps) rh1 hJ o1 Dd hD
  | cell l n =>
    obtain ⟨a, ha, rfl⟩ := hJ
    exact lc_cell hs (rs.keep e1.keeps) rh1 ha o1 Dd hD
end
end
end Ev
end

section
/-! EvLc2: double comprehensions; a tuple the other way round. -/
set_option autoImplicit false
set_option linter.all false
set_option Elab.async false
set_option maxRecDepth 100000
set_option maxHeartbeats 1000000
namespace HT
open PySem PySem.Spec PyProof.Rows
section
variable {prog : Program} {w : World} {A : Around} {E : Value → Shared → Prop} {s : Shared}
theorem adjust_rev (n : Nat) : Builtin.Slice.sliceAdjust none none (-1) (n : Int) = ((n : Int) - 1, -1) := by
  unfold Builtin.Slice.sliceAdjust
  have h : ((-1 : Int) < 0) := by decide
  simp only [h, if_true]
theorem places_rev (n : Nat) : Builtin.Slice.slicePlaces ((n : Int) - 1) (-1) (-1) = n := by
  unfold Builtin.Slice.slicePlaces
  have h1 : ¬ ((-1 : Int) > 0) := by decide
  simp only [h1, if_false]
  have e : (- -1 : Int) = 1 := by decide
  simp only [e, Int.ediv_one]
  split <;> omega
theorem sliceApplied_rev {sl : Addr} {tk : Tok} {n : Nat} {Q : Int × Int × Nat → Shared → Prop} (hs : s.heap.IsSliceOf sl .none .none (.int (-1) tk))
    (h : Q ((n : Int) - 1, -1, n) s) : wpAny (model prog w) A (Builtin.Slice.sliceApplied (.ref sl) (pure (n : Int))) Q E s := by
  obtain ⟨os, hos, hcs, hds⟩ := id hs
  unfold Builtin.Slice.sliceApplied Builtin.Slice.sliceFields
  refine wpAny_bind (wpAny_bind (wpAny_field hos hds (x := .none) rfl (wpAny_bind (wpAny_field hos hds (x := .none) rfl (wpAny_bind (wpAny_field hos hds (x := .int (-1) tk) rfl (wpAny_pure ?_)))))))
  refine wpAny_bind (slicePart_int ?_)
  show wpAny _ _ (if ((-1 : Int) == 0) = true then _ else _) _ _ s
  rw [if_neg (by decide)]
  refine wpAny_bind (slicePart_none (wpAny_bind (slicePart_none (wpAny_bind (wpAny_pure ?_)))))
  show wpAny _ _ (match Builtin.Slice.sliceAdjust none none (-1) (n : Int) with | (lo, hi) => pure (lo, (-1 : Int), Builtin.Slice.slicePlaces lo hi (-1))) _ _ s
  rw [adjust_rev n]
  show wpAny _ _ (pure ((n : Int) - 1, (-1 : Int), Builtin.Slice.slicePlaces ((n : Int) - 1) (-1) (-1))) _ _ s
  rw [places_rev]
  exact wpAny_pure h
theorem pick_rev (xs : Array Value) : ((List.range xs.size).filterMap fun (m : Nat) => xs[(((xs.size : Int) - 1) + (m : Int) * (-1)).toNat]?).toArray = xs.toList.reverse.toArray := by
  have e : ((List.range xs.size).filterMap fun (m : Nat) => xs[(((xs.size : Int) - 1) + (m : Int) * (-1)).toNat]?) = ((List.range xs.size).map fun k => xs.size - 1 - k).filterMap (xs[·]?) := by
    rw [List.filterMap_map]
    have : ∀ m : Nat, (((xs.size : Int) - 1) + (m : Int) * (-1)).toNat = xs.size - 1 - m := fun m => by omega
    simp only [this]
    rfl
  rw [e, PySem.W.krv_range, List.filterMap_reverse, PySem.W.krv_all]
theorem getItem_tuple_rev {t sl : Addr} {items : Array Value} {tk : Tok} {Q : Value → Shared → Prop} (ht : IsTup s.heap t items) (hs : s.heap.IsSliceOf sl .none .none (.int (-1) tk))
    (h : Q (.ref s.heap.objs.size) { s with heap := s.heap.push { cls := .type "tuple", data := .seq items.toList.reverse.toArray } })
    (hsz : items.size ≤ sizeLine) : wpAny (model prog w) A (getItem (.ref t) (.ref sl)) Q E s := by
  have htake : sizeOk (.seq items.toList.reverse.toArray) := by
    show items.toList.reverse.toArray.size ≤ sizeLine
    rw [List.size_toArray, List.length_reverse, Array.length_toList]
    exact hsz
  obtain ⟨os, hos, hcs, hds⟩ := id hs
  have hTs : s.TypeIs (.ref sl) "slice" := ⟨os, hos, hcs⟩
  unfold getItem
  try with_reducible refine wpAny_holding ?_
  first | refine wpAny_bind (wpAny_pure ?_) | skip
  refine wpAny_bind (wpAny_sequenceKey ht.typeIs (by decide) ?_)
  refine wpAny_bind (wpAny_callSpecial?_slot (name := Str.ofString "__getitem__") ht.typeIs PyProof.Rows.slot_tuple_getitem
    (wpAny_call_entry PyProof.Rows.slot_tuple_getitem ht.typeIs entry_tuple_getitem ?_ (args_tuple_getitem _ _)))
  show wpAny _ _ (Builtin.Tuple.tupleItemsOf (.ref t) >>= _) _ _ s
  refine wpAny_bind (tupleItemsOf_ ht ?_)
  refine wpAny_bind (wpAny_typeOf hTs ?_)
  rw [if_pos (by decide)]
  refine wpAny_bind (sliceApplied_rev hs ?_)
  have hno : ¬ ((((items.size : Int) - 1) == 0 && (-1 : Int) == 1 && items.size == items.size) = true) := by
    intro q
    rw [Bool.and_eq_true, Bool.and_eq_true] at q
    exact absurd (eq_of_beq q.1.2) (by decide)
  show wpAny _ _ (if (((items.size : Int) - 1) == 0 && (-1 : Int) == 1 && items.size == items.size) = true then _ else _) _ _ s
  rw [if_neg hno, pick_rev]
  first
    | exact wpAny_bind (m := Builtin.Tuple.tupleExact _) (wpAny_newObj_type (wpAny_pure ⟨_, rfl, wpAny_pure h⟩) htake)
    | exact wpAny_bind (m := Builtin.Tuple.tupleExact _) (wpAny_newObj_type (wpAny_bind (wpAny_pure (wpAny_pure ⟨_, rfl, wpAny_pure h⟩))) htake)
    | exact wpAny_bind (wpAny_bind (m := Builtin.Tuple.tupleExact _) (wpAny_newObj_type (wpAny_pure (wpAny_pure ⟨_, rfl, wpAny_pure h⟩)) htake))
    | exact wpAny_bind (wpAny_bind (m := Builtin.Tuple.tupleExact _) (wpAny_newObj_type (wpAny_pure ⟨_, rfl, wpAny_pure h⟩) htake))
end
end HT
namespace L2
open PySem PySem.Spec PyProof.Rows
theorem Vals.rev {xs : List V} {us : List Value} (h : Vals xs us) : Vals xs.reverse us.reverse := by
  induction h with
  | nil => exact .nil
  | cons r1 r2 ih => rw [List.reverse_cons, List.reverse_cons]; exact ih.append (.cons r1 .nil)
section
variable {X : Cx} {e : Expr} {te : TE} {pos p2 p3 p4 : Pos} {j : Nat}
/-- t[::-1] of a tuple -/
def tRv (K : PySem.W.Frag) (te : TE) : TE := fun σ H Q => te σ H fun x H1 => ∃ a xs, x = .ref a ∧ SqT K H1 a xs ∧ ∀ p, H1 p = none → Q (.ref p) (upd H1 p (.tup xs.reverse))
theorem pe_rv (he : PE X e te) : PE X (.Subscript e (.Slice none none (some (.UnaryOp .USub (.Constant (.int 1) j p3) p4)) p2) pos) (tRv X.K te) := by
  refine ⟨fun pins s σ H Q I h => ?_⟩
  refine Subscript_ (thn (he.run pins s σ H _ I h) fun v s1 ⟨x, H1, I1, r1, q1⟩ => ?_)
  obtain ⟨a, xs, rfl, hx, q⟩ := q1
  cases r1
  refine wpAny_Slice ?_
  rw [evalPart_none]
  refine wpAny_pure ?_
  refine wpAny_pure ?_
  rw [evalPart_some]
  have pm : PE X (.UnaryOp .USub (.Constant (.int 1) j p3) p4) _ := pe_un un_neg pe_int
  refine thn (pm.run pins s1 σ H1 (fun x H' => x = .int (-1) ∧ H' = H1) I1 ⟨1, rfl, rfl, rfl⟩) fun u s2 ⟨y, H2, I2, r2, e1, e2⟩ => ?_
  subst e1 e2
  obtain ⟨tk, rfl⟩ := r2
  have I4 : Inv X pins σ H2 { s2 with heap := s2.heap.push { cls := .type "slice", data := .fields #[.none, .none, .int (-1) tk] } } := I2.kept (t' := s2.toks) fun b ob q => Heap.get?_push_of_some _ q
  obtain ⟨its, r, ht, hz⟩ := I4.tuple hx
  have hlen : its.toArray.size = xs.length := by rw [List.size_toArray]; exact r.length.symm
  show wpAny (model X.prog X.w) X.A (subscriptTail e (.Slice none none (some (.UnaryOp .USub (.Constant (.int 1) j p3) p4)) p2) (.ref a) (.ref s2.heap.objs.size)) (EP X pins σ Q) X.xe { s2 with heap := s2.heap.push { cls := .type "slice", data := .fields #[.none, .none, .int (-1) tk] } }
  refine tail_any (ops := [.ref a, .ref s2.heap.objs.size]) ht.typeIs PyProof.Rows.slot_tuple_getitem.lookup ?_ (by with_unfolding_all rfl)
  refine HT.getItem_tuple_rev ht (Heap.IsSliceOf.new ..) ?_ (by rw [hlen]; exact hz)
  refine ⟨.ref _, _, I4.laid (t' := s2.toks) (o := .tup xs.reverse) (fun b ob q => Heap.get?_push_of_some _ q) (Nat.le_refl _) ?_, rfl, q _ (I4.hok.fresh (Nat.le_refl _))⟩
  refine ⟨by rw [List.length_reverse]; exact hz, _, r.rev, ?_⟩
  exact IsTup.new _ _
end
end L2
namespace Ev
open PySem L2 PyProof.Rows
section
variable {K : PySem.W.Frag} {XC : Nat → Option Addr}
theorem RepDs.rev {z m : List Addr} {H : Hp} : ∀ {xs : List D} {us : List V}, RepDs K z m H xs us → RepDs K z m H xs.reverse us.reverse
  | [], us, h => by
    rw [RepDs] at h
    subst h
    simp [RepDs]
  | x :: xs, us, h => by
    rw [RepDs] at h
    obtain ⟨u, r, rfl, h2, h3⟩ := h
    rw [List.reverse_cons, List.reverse_cons]
    refine h3.rev.append ?_
    rw [RepDs]
    exact ⟨u, [], rfl, h2, by rw [RepDs]⟩
end
section
variable {X : Cx} {W : WX} {XC : Nat → Option Addr}
theorem snd_rev {a : Expr} {ra : Env → M PV} {pos p2 p3 p4 : Pos} {j : Nat} (ha : PE X a (tE X.K XC W ra)) :
    PE X (.Subscript a (.Slice none none (some (.UnaryOp .USub (.Constant (.int 1) j p3) p4)) p2) pos) (tE X.K XC W fun env => M.bnd (ra env) fun x => M.lift fun _ => match x with
      | .d (.tup xs) => some (.d (.tup xs.reverse))
      | _ => .none) := by
  refine (pe_rv ha).to fun σ H Q q => ?_
  obtain ⟨env, h, z, m, rs, rh, out⟩ := q
  refine ⟨env, h, z, m, rs, rh, out.bnd.imp fun x h1 m1 H1 e1 rh1 o1 vx rx => ?_⟩
  obtain ⟨v, e, p⟩ := o1.lift
  split at e
  · cases e
    obtain ⟨a1, us, rfl, h2, h3, h4⟩ := rx.tup
    exact ⟨a1, us, rfl, h2.sq, fun q hq => Post.tup (fun m' H' x e' r' rr => p m' H' e' r' x rr) rh1 h4.rev (by rw [List.length_reverse]; exact h3) hq⟩
  · cases e
end
theorem bnd_bnd {α β γ : Type} (x : M α) (f : α → M β) (g : β → M γ) : M.bnd (M.bnd x f) g = M.bnd x fun a => M.bnd (f a) g := by
  funext h
  unfold M.bnd
  cases x h <;> rfl
theorem Kept.trans {K : PySem.W.Frag} {z m z1 m1 z2 m2 : List Addr} {H H1 H2 : Hp} (a : Kept K z m H z1 m1 H1) (b : Kept K z1 m1 H1 z2 m2 H2) : Kept K z m H z2 m2 H2 :=
  ⟨fun x us h => b.l _ _ (a.l _ _ h), fun x us h => b.t _ _ (a.t _ _ h), fun l x h => b.c _ _ (a.c _ _ h), fun x us h => b.r _ _ (a.r _ _ h)⟩
theorem Kept.refl {K : PySem.W.Frag} {z m : List Addr} {H : Hp} : Kept K z m H z m H := (Ext.refl m H).keeps
section
variable {K : PySem.W.Frag} {XC : Nat → Option Addr}
theorem step_bnd {kont : List D → M PV} {acc : List D} {g : PV → M PV} : (fun r => M.bnd (Step (α := Unit) kont acc r) g) = Step (α := Unit) (fun a => M.bnd (kont a) g) acc := by
  funext r
  cases r with
  | none => rfl
  | some v =>
    cases v with
    | d y =>
      simp only [Step]
      split <;> rfl
    | _ => rfl
theorem lc_turn2 {z m1 m' : List Addr} {H1 H H' : Hp} {Dd : Addr} {acc : List D} {h' : Hh} {P : PV → Hh → List Addr → Hp → Prop} {E : XK} {kont : List D → M PV} {rt : Env → M Bool} {re : Env → M PV} {env' : Env} {σ2 : L2.St} (hD : H1 Dd = none)
    (I : LcInv K z m1 H1 Dd acc h' m' H) (e : Ext m' H m' H') (rh : RelH K (Dd :: z) m' H' h') (hk : ∀ a, H a ≠ none → H' a = H a) (rs : RelS K (Dd :: z) m' H' env' σ2)
    (o : Out K XC z m1 H1 (M.bnd (M.calm (M.bnd (rt env') fun b => if b then M.bnd (re env') fun v => M.ret (some v) else M.ret none)) (Step (α := Unit) kont acc) h') P E) :
    tTt K XC WNo rt σ2 H' fun b H3 => if b = true then tE K XC WNo re σ2 H3 fun y H4 => ∃ us, H4 Dd = some (.lst us) ∧ us.length < sizeLine ∧ (∃ acc' h'' m'', LcInv K z m1 H1 Dd acc' h'' m'' (upd H4 Dd (.lst (us ++ [y]))) ∧ Kept K (Dd :: z) m' H (Dd :: z) m'' (upd H4 Dd (.lst (us ++ [y]))) ∧ Out K XC z m1 H1 (kont acc' h'') P E)
      else ∃ acc' h'' m'', LcInv K z m1 H1 Dd acc' h'' m'' H3 ∧ Kept K (Dd :: z) m' H (Dd :: z) m'' H3 ∧ Out K XC z m1 H1 (kont acc' h'') P E := by
  obtain ⟨e0, rh0, us, q1, q2, q3⟩ := I
  have nD : Dd ∉ m' := (rh0.zt Dd (List.mem_cons_self ..)).2
  have qD : H' Dd = some (.lst us) := by rw [hk Dd (by rw [q1]; simp)]; exact q1
  have o1 := (Out.bndB (z' := Dd :: z) (m' := m') (H' := H') (E' := fun cls d H' => WNo cls d σ2 H') o).bnd
  refine ⟨env', h', Dd :: z, m', rs, rh, o1.imp fun b h3 m3 H3 e3 rh3 o3 => ?_⟩
  have e13 : Ext m1 H1 m3 H3 := (e0.trans e).trans e3
  have qD3 := e3.imm _ _ qD nD fun ps q => by cases q
  have acc3 : RepDs K (Dd :: z) m3 H3 acc us := (q3.keep e.keeps).keep e3.keeps
  have k3 : Kept K (Dd :: z) m' H (Dd :: z) m3 H3 := (e.trans e3).keeps
  cases b with
  | false =>
    simp only [Bool.false_eq_true, if_false] at o3 ⊢
    have o4 := o3.ret m3 H3 (Ext.refl _ _) rh3
    exact ⟨acc, h3, m3, ⟨e13, rh3, us, qD3.1, q2, acc3⟩, k3, o4⟩
  | true =>
    simp only [if_true] at o3 ⊢
    refine ⟨env', h3, Dd :: z, m3, rs.keep e3.keeps, rh3, o3.bnd.imp fun v h4 m4 H4 e4 rh4 o4 y ry => ?_⟩
    have o5 := o4.ret m4 H4 (Ext.refl _ _) rh4
    have qD4 := e4.imm _ _ qD3.1 qD3.2 fun ps q => by cases q
    cases v with
    | d w =>
      simp only [Step] at o5
      split at o5
      · rename_i hl
        have hlen : acc.length = us.length := q3.length
        refine ⟨us, qD4.1, by rw [← hlen, ← lim_size]; exact hl, acc ++ [w], h4, m4, ⟨⟨?_, fun a o h1 h2 hy => ?_⟩, rh4.upd, us ++ [y], upd_same, ?_, ?_⟩, (k3.trans e4.keeps).trans kept_upd, o5⟩
        · exact (e13.trans e4).pre
        · have ne : a ≠ Dd := ne_of_none h1 hD
          have z := (e13.trans e4).imm a o h1 h2 hy
          exact ⟨by rw [upd_ne ne]; exact z.1, z.2⟩
        · rw [List.length_append, List.length_singleton, ← hlen, ← lim_size]; exact hl
        · refine RepDs.keep kept_upd ((acc3.keep e4.keeps).append ?_)
          rw [RepDs]
          exact ⟨y, [], rfl, ry, by rw [RepDs]⟩
      · exact (show False from o5).elim
    | ref _ => exact (show False from o5).elim
    | dict _ => exact (show False from o5).elim
    | scr _ => exact (show False from o5).elim
    | tp _ => exact (show False from o5).elim
theorem tTt.imp {W : WX} {r : Env → M Bool} {σ : L2.St} {H : Hp} {Q Q' : Bool → Hp → Prop} (q : tTt K XC W r σ H Q) (h : ∀ b H', Q b H' → Q' b H') : tTt K XC W r σ H Q' := by
  obtain ⟨env, h1, z, m, rs, rh, o⟩ := q
  exact ⟨env, h1, z, m, rs, rh, o.imp fun b h2 m2 H2 _ _ q => h b H2 q⟩
theorem tE.imp {W : WX} {r : Env → M PV} {σ : L2.St} {H : Hp} {Q Q' : VK} (q : tE K XC W r σ H Q) (h : ∀ b H', Q b H' → Q' b H') : tE K XC W r σ H Q' := by
  obtain ⟨env, h1, z, m, rs, rh, o⟩ := q
  exact ⟨env, h1, z, m, rs, rh, o.imp fun b h2 m2 H2 _ _ q x rx => h x H2 (q x rx)⟩
theorem lc_step {elt : Env → M (Option PV)} {st : PV → Env → Option Env} {env : Env} {x : PV} {xs : List PV} {acc : List D} {env' : Env} (h : st x env = some env') : lcGo elt st env (x :: xs) acc = M.bnd (M.calm (elt env')) (Step (α := Unit) (fun a => lcGo elt st env xs a) acc) := by
  rw [lcGo, h]
  exact congrArg (M.bnd (M.calm (elt env'))) (step_its (fun acc => lcGo elt st env xs acc) acc)
section
variable {σ : L2.St} {W : WX} {Q : VK} {t t1 : T} {vs : List Nat} {rt rt1 : Env → M Bool} {re : Env → M PV} {rit1 : Env → M Run}
theorem wipe_eq {vs : List Nat} {σ σ' : L2.St} {ss : List Nat} (only : Only ss (L2.wipe σ vs) σ') (hs : ∀ i ∈ ss, i ∈ vs) : L2.wipe σ' vs = L2.wipe σ vs := by
  rw [only.2 vs hs]
  apply List.ext_getElem?
  intro j
  rw [wipe_at, wipe_at, wipe_length]
  by_cases hj : j ∈ vs <;> simp [hj]
/-- the inner walk -/
theorem lc2_in {z m1 m4 : List Addr} {H1 H4 : Hp} {Dd : Addr} {acc : List D} {h4 : Hh} {P : PV → Hh → List Addr → Hp → Prop} {E : XK} {g : PV → M PV} {env' : Env} {σ2 : L2.St} {ys : List PV} {J1 : L2.It} (hD : H1 Dd = none)
    (I4 : LcInv K z m1 H1 Dd acc h4 m4 H4) (rs : RelS K (Dd :: z) m4 H4 env' σ2) (hJ : ItsOk K (Dd :: z) m4 H4 ys J1)
    (o4 : Out K XC z m1 H1 (M.bnd (lcGo (eltOf rt1 re) (T.store t1) (Ev.wipe env' t1.slots) ys acc) g h4) P E) :
    ∃ W1 : Nat → Nat → Hp → Prop, (∃ m, W1 0 m H4) ∧ ∀ j k H, W1 j k H →
      (J1.stop j H ∧ ∃ acc' h'' m'', LcInv K z m1 H1 Dd acc' h'' m'' H ∧ Out K XC z m1 H1 (g (.d (.list acc')) h'') P E) ∨ (J1.go j H ∧ ∃ Nx1 : Hp → Prop, (∀ H', Nx1 H' → ∃ k', k' < k ∧ W1 (j + 1) k' H') ∧ ∀ x H', J1.yld j H x H' → gT K t1 x (L2.wipe σ2 t1.slots) H' fun σ3 H5 => L2.wipe σ3 t1.slots = L2.wipe σ2 t1.slots ∧ tTt K XC WNo rt1 σ3 H5 fun b H6 =>
        if b = true then tE K XC WNo re σ3 H6 fun y H7 => ∃ acc, H7 Dd = some (.lst acc) ∧ acc.length < sizeLine ∧ Nx1 (upd H7 Dd (.lst (acc ++ [y]))) else Nx1 H6) := by
  let St (j : Nat) (H : Hp) : Prop := ∃ acc' h'' m'', LcInv K z m1 H1 Dd acc' h'' m'' H ∧ Kept K (Dd :: z) m4 H4 (Dd :: z) m'' H ∧ Out K XC z m1 H1 (M.bnd (lcGo (eltOf rt1 re) (T.store t1) (Ev.wipe env' t1.slots) (ys.drop j) acc') g h'') P E
  refine ⟨fun j k H => k = ys.length - j ∧ j ≤ ys.length ∧ St j H, ⟨ys.length, by simp, Nat.zero_le _, acc, h4, m4, I4, .refl, o4⟩, ?_⟩
  rintro j k H ⟨rfl, hj, acc', h', m', I, kp, o⟩
  by_cases hlt : j < ys.length
  · refine .inr ⟨hJ.go j _ m' H kp hlt, St (j + 1), fun H' hN => ⟨ys.length - (j + 1), by omega, rfl, hlt, hN⟩, fun x H' y => ?_⟩
    rw [List.drop_eq_getElem_cons hlt] at o
    obtain ⟨e2, rh2, rx, hk⟩ := hJ.yld j (Dd :: z) m' H h' x H' ys[j] kp I.2.1 (by simp [hlt]) y
    cases est : T.store t1 ys[j] (Ev.wipe env' t1.slots) with
    | none => rw [lcGo, est] at o; exact (show False from o).elim
    | some env2 =>
      rw [lc_step est, bnd_bnd, step_bnd] at o
      refine ⟨Ev.wipe env' t1.slots, env2, ys[j], Dd :: z, m', ((rs.keep kp).keep e2.keeps).wipe t1.slots, rx, est, fun σ' rs' only => ⟨wipe_eq only fun i hi => hi, ?_⟩⟩
      refine (lc_turn2 hD I e2 rh2 hk rs' o).imp fun b H3 q => ?_
      cases b with
      | false =>
        simp only [Bool.false_eq_true, if_false] at q ⊢
        obtain ⟨a1, a2, a3, a4, a5, a6⟩ := q
        exact ⟨a1, a2, a3, a4, kp.trans a5, a6⟩
      | true =>
        simp only [if_true] at q ⊢
        refine q.imp fun y4 H5 ⟨us, b1, b2, a1, a2, a3, a4, a5, a6⟩ => ?_
        exact ⟨us, b1, b2, a1, a2, a3, a4, kp.trans a5, a6⟩
  · have hj' : j = ys.length := by omega
    subst hj'
    rw [List.drop_length, lcGo] at o
    exact .inl ⟨hJ.stop _ m' H kp, acc', h', m', I, o⟩
/-- the outer walk -/
theorem lc2_its {z m1 : List Addr} {H1 : Hp} {h1 : Hh} {env : Env} {xs : List PV} {J : L2.It} (hs : ∀ i ∈ t.slots, i ∈ vs) (rs : RelS K z m1 H1 env σ) (rh1 : RelH K z m1 H1 h1) (hJ : ItsOk K z m1 H1 xs J)
    (o : Out K XC z m1 H1 (lc2Go (lc2In rt rit1 (eltOf rt1 re) (T.store t1) t1.slots) (T.store t) (Ev.wipe env vs) xs [] h1) (fun v h' m' H' => ∀ x, Rep K z m' H' v x → Q x H') fun cls d H' => W cls d σ H') (Dd : Addr) (hD : H1 Dd = none) :
    ∃ Wt : Nat → Nat → Hp → Prop, (∃ n, Wt 0 n (upd H1 Dd (.lst []))) ∧ ∀ i n H, Wt i n H →
  (J.stop i H ∧ Q (.ref Dd) H) ∨ (J.go i H ∧ ∃ Nx : Hp → Prop, (∀ H', Nx H' → ∃ m', m' < n ∧ Wt (i + 1) m' H') ∧ ∀ x H', J.yld i H x H' → gT K t x (L2.wipe σ vs) H' fun σ2 H2 => L2.wipe σ2 vs = L2.wipe σ vs ∧ tTt K XC WNo rt σ2 H2 fun b H3 =>
    if b = true then tI K XC WNo rit1 σ2 H3 fun J1 H4 => ∃ W1 : Nat → Nat → Hp → Prop, (∃ m, W1 0 m H4) ∧ ∀ j k H, W1 j k H →
      (J1.stop j H ∧ Nx H) ∨ (J1.go j H ∧ ∃ Nx1 : Hp → Prop, (∀ H', Nx1 H' → ∃ k', k' < k ∧ W1 (j + 1) k' H') ∧ ∀ x H', J1.yld j H x H' → gT K t1 x (L2.wipe σ2 t1.slots) H' fun σ3 H5 => L2.wipe σ3 t1.slots = L2.wipe σ2 t1.slots ∧ tTt K XC WNo rt1 σ3 H5 fun b H6 =>
        if b = true then tE K XC WNo re σ3 H6 fun y H7 => ∃ acc, H7 Dd = some (.lst acc) ∧ acc.length < sizeLine ∧ Nx1 (upd H7 Dd (.lst (acc ++ [y]))) else Nx1 H6)
    else Nx H3) := by
  let St (i : Nat) (H : Hp) : Prop := ∃ acc h' m', LcInv K z m1 H1 Dd acc h' m' H ∧ Out K XC z m1 H1 (lc2Go (lc2In rt rit1 (eltOf rt1 re) (T.store t1) t1.slots) (T.store t) (Ev.wipe env vs) (xs.drop i) acc h') (fun v h' m' H' => ∀ x, Rep K z m' H' v x → Q x H') (fun cls d H' => W cls d σ H')
  refine ⟨fun i n H => n = xs.length - i ∧ i ≤ xs.length ∧ St i H, ⟨xs.length, by simp, Nat.zero_le _, [], h1, m1, LcInv.start rh1 hD, o⟩, ?_⟩
  rintro i n H ⟨rfl, hi, acc, h', m', I, o'⟩
  by_cases hlt : i < xs.length
  · refine .inr ⟨hJ.go i _ m' H (I.1.keepsZ (zsub hD)) hlt, St (i + 1), fun H' hN => ⟨xs.length - (i + 1), by omega, rfl, hlt, hN⟩, fun x H' y => ?_⟩
    rw [List.drop_eq_getElem_cons hlt, lc2Go] at o'
    obtain ⟨e2, rh2, rx, hk⟩ := hJ.yld i (Dd :: z) m' H h' x H' xs[i] (I.1.keepsZ (zsub hD)) I.2.1 (by simp [hlt]) y
    cases est : T.store t xs[i] (Ev.wipe env vs) with
    | none => rw [est] at o'; exact (show False from o').elim
    | some env' =>
      rw [est] at o'
      simp only [lc2In, bnd_bnd] at o'
      refine ⟨Ev.wipe env vs, env', xs[i], Dd :: z, m', (rs.keep ((I.1.trans e2).keepsZ (zsub hD))).wipe vs, rx, est, fun σ' rs' only => ⟨wipe_eq only hs, ?_⟩⟩
      obtain ⟨e0, rh0, us, q1, q2, q3⟩ := I
      have nD : Dd ∉ m' := (rh0.zt Dd (List.mem_cons_self ..)).2
      have qD : H' Dd = some (.lst us) := by rw [hk Dd (by rw [q1]; simp)]; exact q1
      have o1 := Out.bndB (z' := Dd :: z) (m' := m') (H' := H') (E' := fun cls d H' => WNo cls d σ' H') o'
      refine ⟨env', h', Dd :: z, m', rs', rh2, o1.imp fun b h3 m3 H3 e3 rh3 o3 => ?_⟩
      have e13 : Ext m1 H1 m3 H3 := (e0.trans e2).trans e3
      have qD3 := e3.imm _ _ qD nD fun ps q => by cases q
      have acc3 : RepDs K (Dd :: z) m3 H3 acc us := (q3.keep e2.keeps).keep e3.keeps
      cases b with
      | false =>
        simp only [Bool.false_eq_true, if_false] at o3 ⊢
        exact ⟨acc, h3, m3, ⟨e13, rh3, us, qD3.1, q2, acc3⟩, o3⟩
      | true =>
        simp only [if_true, bnd_bnd] at o3 ⊢
        have o4 := Out.bndB (z' := Dd :: z) (m' := m3) (H' := H3) (E' := fun cls d H' => WNo cls d σ' H') o3
        refine ⟨env', h3, Dd :: z, m3, rs'.keep e3.keeps, rh3, o4.imp fun run h4 m4 H4 e4 rh4 o5 J1 hJ1 => ?_⟩
        cases run with
        | cell l n => exact (show False from o5).elim
        | its ys =>
          have qD4 := e4.imm _ _ qD3.1 qD3.2 fun ps q => by cases q
          have I4 : LcInv K z m1 H1 Dd acc h4 m4 H4 := ⟨e13.trans e4, rh4, us, qD4.1, q2, acc3.keep e4.keeps⟩
          exact lc2_in hD I4 ((rs'.keep e3.keeps).keep e4.keeps) hJ1 o5
  · have hi' : i = xs.length := by omega
    subst hi'
    refine .inl ⟨hJ.stop _ m' H (I.1.keepsZ (zsub hD)), ?_⟩
    rw [List.drop_length, lc2Go] at o'
    obtain ⟨q1, q2⟩ := I.done rh1 hD
    exact o'.ret m' H I.1 q1 _ q2
theorem lc2_all {rit : Env → M Run} {H : Hp} (hs : ∀ i ∈ t.slots, i ∈ vs) (q : tE K XC W (fun env => M.bnd (rit env) fun r => match r with
    | .its xs => lc2Go (lc2In rt rit1 (eltOf rt1 re) (T.store t1) t1.slots) (T.store t) (Ev.wipe env vs) xs []
    | _ => M.stuck) σ H Q) : tLc2 (tI K XC W rit) (gT K t) (tTt K XC WNo rt) (tI K XC WNo rit1) (gT K t1) (tTt K XC WNo rt1) (tE K XC WNo re) vs t1.slots σ H Q := by
  obtain ⟨env, h, z, m, rs, rh, out⟩ := q
  refine ⟨env, h, z, m, rs, rh, out.bnd.imp fun run h1 m1 H1 e1 rh1 o1 J hJ Dd hD => ?_⟩
  cases run with
  | its xs => exact lc2_its hs (rs.keep e1.keeps) rh1 hJ o1 Dd hD
  | cell l n => exact (show False from o1).elim
end
end
end Ev
end

section
/-! EvTry: except clauses by their classes; a clause that binds a name may stand among them where its class never takes what is raised. -/
set_option autoImplicit false
set_option linter.all false
set_option Elab.async false
set_option maxRecDepth 100000
set_option maxHeartbeats 4000000
namespace Ev
open PySem L2 PySem.Spec PyProof.Rows
abbrev ClTs : Type := Addr → Value → Option Addr → TS
/-- the clauses' wish: none: the clause takes nothing -/
def wMix (K : PySem.W.Frag) (Wo : WX) (D : Ends) : List (Value × Option ClTs) → WX
  | [] => Wo
  | (cv, some ts) :: rest => fun cl od τ G => ∃ yes, PySem.W.exmOne K cl cv = some yes ∧ (yes = true → ∀ x, G x = none → ts x cl od D τ G) ∧ (yes = false → wMix K Wo D rest cl od τ G)
  | (cv, none) :: rest => fun cl od τ G => PySem.W.exmOne K cl cv = some false ∧ wMix K Wo D rest cl od τ G
inductive HdsMix (X : Cx) : List ExceptHandler → List (Value × Option ClTs) → Prop
  | nil : HdsMix X [] []
  | take {nm : Str} {cv : Value} {ts : ClTs} {st0 : Stmt} {sts : List Stmt} {p1 p2 : Pos} {more : List ExceptHandler} {ls : List (Value × Option ClTs)} (hn : Names X nm cv)
      (suite : ∀ (x : Addr) (ob : Obj) (cl : Value) (od : Option Addr) (pl : List (Addr × Obj)), Zc cl od ob → (∃ fs, ob.data = .fields fs) → PSs (X.suite x ((x, ob) :: pl)) (st0 :: sts) (ts x cl od)) (rest : HdsMix X more ls) :
      HdsMix X (.ExceptHandler (some (.Name nm p1)) none (st0 :: sts) p2 :: more) ((cv, some ts) :: ls)
  | pass {nm : Str} {cv : Value} {as? : Option Str} {sts : List Stmt} {p1 p2 : Pos} {more : List ExceptHandler} {ls : List (Value × Option ClTs)} (hn : Names X nm cv) (rest : HdsMix X more ls) :
      HdsMix X (.ExceptHandler (some (.Name nm p1)) as? sts p2 :: more) ((cv, none) :: ls)
section
variable {X : Cx} {bd : List Stmt} {hd0 : ExceptHandler} {hdr : List ExceptHandler} {ls : List (Value × Option ClTs)} {pz : Pos} {tb : WX → TS} {Wo : WX}
theorem ps_try_mix (hst : X.stack = X.env :: X.outer) (hfr : X.env.frame = some X.env.locals) (tk : Takes X Wo)
    (hbd : ∀ (W : WX) (pl : List (Addr × Obj)) (xe : Value → Shared → Prop), Takes (X.tr pl xe) W → PassesOwn (model X.prog X.w) X.A X.env xe → PSs (X.tr pl xe) bd (tb W))
    (hhd : HdsMix X (hd0 :: hdr) ls) : PS X (.Try bd (hd0 :: hdr) [] [] pz) (fun D τ G => tb (wMix X.K Wo D ls) D τ G) := by
  refine ⟨fun pl st τ G D J q => ?_⟩
  have okX := J.ok
  have frames : X.A.frames = some (X.env :: X.outer) := by rw [okX.frames, hst]
  refine wpAny_Try_except ?_
  refine wpAny_mono ((hbd (wMix X.K Wo D ls) (X.pn ++ pl) (fun ev t1 => wpAny (model X.prog X.w) X.A (noteFrame ev X.env) (fun _ t2 => wpAny (model X.prog X.w) X.A (setFlight ev none) (fun _ t3 =>
    wpAny (model X.prog X.w) X.A (handleBy ev X.env (hd0 :: hdr)) (SP X pl D) X.xe t3) X.xe t2) X.xe t1) (fun uv t1 xx => ?_) PassesOwn.looking).run [] st τ G D (J.toTry _) q) (fun fl t1 hsp => ?_) (fun ev t1 hx => hx)
  · obtain ⟨x, B, tI, pl', τ', G', cl, od, rfl, Jt, nb, up, sky, na, os, ag, wz⟩ := xx
    have J1 : L2.Inv X pl τ' G' tI := Jt.ofTry okX
    have sky1 : Sky B (X.env :: X.outer) x (Zc cl od) X.env.locals t1.heap := by rw [← hst]; exact sky
    show wpAny (model X.prog X.w) X.A (noteFrame (.ref x) X.env) _ _ _
    refine Sky.land Zc.steady frames hfr sky1 fun g3 fl3 up3 => ?_
    have J3 : L2.Inv X pl τ' G' { t1 with heap := g3 } := J1.landed nb fl3.1 (up.trans up3) os ag
    obtain ⟨ob3, fs3, hob3, zc3, dt3⟩ := fl3.there
    have outOf : ∀ {g : Heap} {ob : Obj} {fs : Array Value}, g.FunFrames B (X.env :: X.outer) → g.get? x = some ob → ob.data = .fields fs → x ∉ frs (X.env :: X.outer) := fun {g ob fs} ff e1 e2 hm => by
      obtain ⟨_, ob', e3, nf⟩ := ff.mem hm
      rw [e1] at e3; cases e3
      exact nf _ e2
    have nfr := outOf fl3.2.2.1 hob3 dt3
    have nLoc : x ≠ X.env.locals := fun z => nfr (List.mem_filterMap.mpr ⟨X.env, List.mem_cons_self, by rw [hfr, z]⟩)
    have nFs : x ∉ X.fs := fun hm => by
      obtain ⟨e, he, z⟩ := List.mem_filterMap.mp hm
      exact nfr (List.mem_filterMap.mpr ⟨e, List.mem_cons_of_mem _ he, z⟩)
    have S3 := J3.suite hob3 dt3 na nLoc nFs
    -- the look at one class
    have look : ∀ {nm : Str} {cv : Value} {p1 : Pos} {yes : Bool} {R : Result → Shared → Prop}, Names X nm cv → PySem.W.exmOne X.K cl cv = some yes → R (.ok (if yes = true then .brk else .next)) { t1 with heap := g3 } →
        ∀ {p2 : Pos}, codeAny (model X.prog X.w) (X.A.mark (some (.ref x))) (.handlers (.ref x) [.ExceptHandler (some (.Name nm p1)) none [] p2] X.env) R { t1 with heap := g3 } := by
      intro nm cv p1 yes R hn hy hR p2
      refine codeAny_handlers_test ?_
      have LT : PySem.W.Looks (model X.prog X.w) g3 (typeOf (.ref x)) cl := fun A Q E s k z => wpAny_typeOf_ref (k _ _ hob3) (by rw [zc3.1]; exact z)
      have LM := PySem.W.exm_one (M := model X.prog X.w) J3.kIn LT hy
      have look1 : ∀ {Q : Value → Shared → Prop} {E : Value → Shared → Prop}, Q cv { t1 with heap := g3 } → wpAny (model X.prog X.w) (X.A.mark (some (.ref x))) (eval (.Name nm p1) X.env) Q E { t1 with heap := g3 } := fun {Q E} z => by
        obtain ⟨k1, k2, k3 | ⟨k3, k4, k5⟩⟩ := hn
        · exact ld_glob (X := X.suite x ((x, ob3) :: (X.pn ++ pl))) S3 k1 k3 z k2
        · exact ld_blt (X := X.suite x ((x, ob3) :: (X.pn ++ pl))) S3 k1 k3 k4 z k5 k2
      exact look1 (LM.here hR)
    have go : ∀ {hs' : List ExceptHandler} {ls' : List (Value × Option ClTs)}, HdsMix X hs' ls' → wMix X.K Wo D ls' cl od τ' G' →
        wpAny (model X.prog X.w) X.A (handleBy (.ref x) X.env hs') (SP X pl D) X.xe { t1 with heap := g3 } := by
      intro hs' ls' hm
      induction hm with
      | nil =>
        intro wz
        refine wpAny_handleBy_nil ?_
        obtain ⟨k1, k2, k3, ob, fs, Ta, oT, ts', hob, zc, dt, h1, hr⟩ := id fl3
        unfold PySem.passOn
        refine wpAny_bind (wpAny_field hob dt h1 ?_)
        rw [if_neg (show ¬ ((Value.ref Ta == Value.none) = true) from by simp)]
        have fin : wpAny (model X.prog X.w) X.A (setFlight (.ref x) X.env.frame) (fun _ t4 => wpAny (model X.prog X.w) X.A (throw (.ref x) : Sem Flow) (SP X pl D) X.xe t4) X.xe { t1 with heap := g3 } := by
          rw [hfr]
          refine HandSPX.setFlight_upZ fl3 fun g4 hg4 up4 => wpAny_throw (tk _ _ ?_)
          exact ⟨x, B, tI, pl, τ', G', cl, od, rfl, J1, nb, (up.trans up3).trans up4, .inr (.inr (by rw [hst]; exact hg4)), na, os, ag, wz⟩
        first
          | exact wpAny_bind (wpAny_pure (wpAny_bind fin))
          | exact wpAny_bind fin
      | @take nm cv ts st0 sts p1 p2 more ls2 hn suite rest ih =>
        intro wz
        obtain ⟨yes, hy, onYes, onNo⟩ := wz
        refine wpAny_handleBy_cons (look hn hy ?_) (by intro z; cases z)
        cases yes with
        | true =>
          refine codeAny_handlers_suite ?_
          refine HandSPX.lands_againZ fl3 fun g4 fl4 up4 => ?_
          have J4 : L2.Inv X pl τ' G' { t1 with heap := g4 } := J1.landed nb fl4.1 ((up.trans up3).trans up4) os ag
          obtain ⟨ob4, fs4, hob4, zc4, dt4⟩ := fl4.there
          have S4 := J4.suite hob4 dt4 na nLoc nFs
          refine wpAny_mono ((suite x ob4 cl od (X.pn ++ pl) zc4 ⟨_, dt4⟩).run [] _ _ G' _ S4 (onYes rfl x na)) (fun f t6 hsp => ?_) (fun _ _ z => False.elim z)
          cases f with
          | next =>
            obtain ⟨τ6, G6, S6, z6⟩ := hsp
            exact ⟨_, _, S6.unsuite okX, z6⟩
          | brk =>
            obtain ⟨τ6, G6, S6, z6⟩ := hsp
            exact ⟨_, _, S6.unsuite okX, z6⟩
          | cont =>
            obtain ⟨τ6, G6, S6, z6⟩ := hsp
            exact ⟨_, _, S6.unsuite okX, z6⟩
          | ret uv =>
            obtain ⟨v6, τ6, G6, S6, rv6, z6⟩ := hsp
            exact ⟨_, _, _, S6.unsuite okX, rv6, z6⟩
        | false =>
          show wpAny _ X.A (handleBy (.ref x) X.env more) _ _ _
          exact ih (onNo rfl)
      | @pass nm cv as? sts p1 p2 more ls2 hn rest ih =>
        intro wz
        refine wpAny_handleBy_cons (look hn wz.1 ?_) (by intro z; cases z)
        show wpAny _ X.A (handleBy (.ref x) X.env more) _ _ _
        exact ih wz.2
    exact go hhd wz
  · cases fl with
    | next =>
      obtain ⟨τ', G', J', z⟩ := hsp
      exact wpAny_execs_nil ⟨τ', G', J'.ofTry okX, z⟩
    | brk =>
      obtain ⟨τ', G', J', z⟩ := hsp
      exact ⟨τ', G', J'.ofTry okX, z⟩
    | cont =>
      obtain ⟨τ', G', J', z⟩ := hsp
      exact ⟨τ', G', J'.ofTry okX, z⟩
    | ret uv =>
      obtain ⟨v, τ', G', J', rv, z⟩ := hsp
      exact ⟨v, τ', G', J'.ofTry okX, rv, z⟩
end
end Ev
end

section
/-! EvSndT: a def that runs what it gets: try: call() except ..: return .. ; return .. -/
set_option autoImplicit false
set_option linter.all false
set_option Elab.async false
set_option maxRecDepth 100000
set_option maxHeartbeats 4000000
namespace Ev
open PySem L2 PyProof.Rows

abbrev WU (Ex : XK) : WX := fun c d _ H => Ex c d H
theorem RelH.extN {K : PySem.W.Frag} {z m : List Addr} {H H1 : Hp} {h : Hh} (r : RelH K z m H h) (e : LamX.ExtN H H1) (t : LamX.Tabs (tabsK K) H1) : Ext m H m H1 ∧ RelH K z m H1 h := by
  have x : Ext m H m H1 := ⟨⟨[], by simp⟩, fun a o h1 h2 h3 => ⟨e a o h1 h3, h2⟩⟩
  refine ⟨x, r.nd, r.len, fun l a xs h1 h2 => ?_, fun l a xs h1 h2 => ?_, fun a ha => ?_, t⟩
  · obtain ⟨us, e1, e2, e3⟩ := r.cell l a xs h1 h2
    exact ⟨us, e a _ e1 (fun ps q => by cases q), e2, e3.keep x.keeps⟩
  · obtain ⟨us, e1, e2, e3⟩ := r.dcell l a xs h1 h2
    exact ⟨us, e a _ e1 (fun ps q => by cases q), e2, e3.keep x.keeps⟩
  · obtain ⟨⟨us, q⟩, n⟩ := r.zt a ha
    exact ⟨⟨us, e a _ q (fun ps q => by cases q)⟩, n⟩

/-- what such a def makes of what it gets -/
def TTw (XC : Nat → Option Addr) (ok : List Nat) (hs : List (Nat × List Nat)) : (XK → Hp → VK → Prop) → Hp → VK → Prop := fun tl H Q =>
  tl (fun cls _ H' => ∃ c C s, XC c = some C ∧ cls = .ref C ∧ hs.lookup c = some s ∧ Q (.str ⟨s.toArray⟩) H') H (fun _ H' => Q (.str ⟨ok.toArray⟩) H')
section
variable {P : TrP} {T : Nat → Option Fn} {C : Nat → Option PV} {XC : Nat → Option Addr} {kk : Nat} {N : List Str}
inductive Al2 {α β : Type} (R : α → β → Prop) : List α → List β → Prop where
  | nil : Al2 R [] []
  | cons {a : α} {b : β} {as : List α} {bs : List β} (h : R a b) (t : Al2 R as bs) : Al2 R (a :: as) (b :: bs)
theorem lookup_mem {α : Type} {c : Nat} {s : α} : ∀ {l : List (Nat × α)}, l.lookup c = some s → (c, s) ∈ l
  | [], h => by cases h
  | (d, t) :: r, h => by
    rw [List.lookup] at h
    split at h
    · rename_i e
      cases h
      rw [eq_of_beq e]; exact List.mem_cons_self ..
    · exact List.mem_cons_of_mem _ (lookup_mem h)
/-- the words of the clauses, as readings -/
abbrev Cl : Type := Value × Option ClTs
def clOf (s : List Nat) : ClTs := fun _ _ _ D _ H => D.rt (.str ⟨s.toArray⟩) H
theorem codes_mk (s : Str) : (⟨(codes s).toArray⟩ : Str) = s := TL.ext_tl rfl
theorem hdOf_spec {sc : Scope} {hdn : List Str} {h : ExceptHandler} {p : Str × Option (List Nat)} (e : hdOf sc hdn h = some p) : okN p.1 = true ∧ isGl sc p.1 = true ∧ hdn.contains p.1 = true ∧
    ((∃ np j q1 q2 q3 s, h = .ExceptHandler (some (.Name p.1 np)) none [.Return (some (.Constant (.str s) j q1)) q2] q3 ∧ p.2 = some (codes s)) ∨ ∃ np nm body q3, h = .ExceptHandler (some (.Name p.1 np)) nm body q3 ∧ p.2 = none) := by
  unfold hdOf at e
  split at e
  · split at e
    · rename_i hc
      simp only [Bool.and_eq_true] at hc
      split at e
      · cases e
        exact ⟨hc.1.1, hc.1.2, hc.2, .inl ⟨_, _, _, _, _, _, rfl, rfl⟩⟩
      · cases e
        exact ⟨hc.1.1, hc.1.2, hc.2, .inr ⟨_, _, _, _, rfl, rfl⟩⟩
    · cases e
  · cases e
abbrev ClR (hdn : List Str) (mg : Str → Option Value) (p : Str × Option (List Nat)) (c : Cl) : Prop := hdn.contains p.1 = true ∧ (∃ Cy, mg p.1 = some (.ref Cy) ∧ c.1 = .ref Cy) ∧ c.2 = p.2.map clOf
/-- the clauses, each by its class -/
theorem hds_ok {X : Cx} {sc : Scope} (hsc : X.env.scope = sc) {hdn : List Str} (hmg : ∀ y, hdn.contains y = true → ∃ Cy, X.mg y = some (.ref Cy)) : ∀ {hds : List ExceptHandler} {l : List (Str × Option (List Nat))}, hdsOf sc hdn hds = some l →
    ∃ cl : List Cl, HdsMix X hds cl ∧ Al2 (ClR hdn X.mg) l cl
  | [], l, e => by
    simp only [hdsOf, Option.some.injEq] at e
    subst e
    exact ⟨[], .nil, .nil⟩
  | h :: r, l, e => by
    simp only [hdsOf] at e
    obtain ⟨p, h1, e⟩ := Option.bind_eq_some_iff.mp e
    obtain ⟨ps, h2, rfl⟩ := Option.map_eq_some_iff.mp e
    obtain ⟨cl, q1, q2⟩ := hds_ok hsc hmg h2
    obtain ⟨ho, hg, hc, hq⟩ := hdOf_spec h1
    obtain ⟨Cy, hm⟩ := hmg p.1 hc
    obtain ⟨d1, d2, _⟩ := okN_of ho
    have hgl : Gl X p.1 := by
      unfold isGl at hg
      show X.env.scope.names.lookup p.1 = some .globalImplicit
      rw [hsc]
      simpa using hg
    rcases hq with ⟨np, j, p1, p2, p3, s, rfl, hs⟩ | ⟨np, nm, body, p3, rfl, hs⟩
    · refine ⟨(.ref Cy, some (clOf (codes s))) :: cl, .take ⟨hgl, d1, .inl hm⟩ (fun a oe cls d pn _ _ => ?_) q1, .cons ⟨hc, ⟨Cy, hm, rfl⟩, by rw [hs]; rfl⟩ q2⟩
      refine (pss_one (ps_ret pe_str)).to fun D σ H q => ?_
      have q : D.rt (.str ⟨(codes s).toArray⟩) H := q
      rw [codes_mk] at q
      exact q
    · exact ⟨(.ref Cy, none) :: cl, .pass ⟨hgl, d1, .inl hm⟩ q1, .cons ⟨hc, ⟨Cy, hm, rfl⟩, by rw [hs]; rfl⟩ q2⟩
/-- what the clauses wish: the word of the first that takes x -/
theorem many_pick {K : PySem.W.Frag} {mg : Str → Option Value} {sup : List (Str × Str)} {hdn : List Str} {x : Str} {Cx : Addr} {W : WX} {D : Ends} {σ : L2.St} {H : Hp} {s : List Nat}
    (hx : ∀ y, hdn.contains y = true → ∃ Cy, mg y = some (.ref Cy) ∧ PySem.W.exmOne K (.ref Cx) (.ref Cy) = some (isSub sup 8 x y)) (hD : D.rt (.str ⟨s.toArray⟩) H) :
    ∀ {l : List (Str × Option (List Nat))} {cl : List Cl}, Al2 (ClR hdn mg) l cl → pick sup x l = some s → ∀ d, wMix K W D cl (.ref Cx) d σ H
  | _, _, .nil, e, d => by simp [pick] at e
  | _, _, .cons (a := p) (b := c) h t, e, d => by
    obtain ⟨h1, ⟨Cy, h2, h3⟩, h4⟩ := h
    obtain ⟨Cy', h5, h6⟩ := hx p.1 h1
    have hC : Cy = Cy' := by
      have := h2.symm.trans h5
      simpa using this
    subst hC
    obtain ⟨c1, c2⟩ := c
    obtain ⟨y, w⟩ := p
    dsimp only at h3 h4 h6
    subst h3 h4
    simp only [pick] at e
    cases w with
    | some w =>
      refine ⟨_, h6, fun hb a _ => ?_, fun hb => ?_⟩
      · rw [hb, if_pos rfl] at e
        cases e
        exact hD
      · rw [hb, if_neg (by simp)] at e
        exact many_pick hx hD t e d
    | none =>
      cases hb : isSub sup 8 x y with
      | true => rw [hb, if_pos rfl] at e; cases e
      | false =>
        rw [hb, if_neg (by simp)] at e
        exact ⟨by rw [h6, hb], many_pick hx hD t e d⟩
theorem td_lookup {excs : List Str} {sup : List (Str × Str)} {l : List (Str × Option (List Nat))} {c : Nat} {s : List Nat} (h : (excs.filterMap fun x => (pick sup x l).map fun w => (code x, w)).lookup c = some s) : ∃ x ∈ excs, code x = c ∧ pick sup x l = some s := by
  obtain ⟨x, hx, e⟩ := List.mem_filterMap.mp (lookup_mem h)
  obtain ⟨w, h1, h2⟩ := Option.map_eq_some_iff.mp e
  cases h2
  exact ⟨x, hx, rfl, h1⟩
/-- the def keeps its word -/
theorem td_gives {X : Cx} (F : Facts P T C XC X.prog X.w X.K X.mg X.base kk) {x q : Str} {st : Stmt} {g : Addr} {cdv : Value} {ok : List Nat} {hs : List (Nat × List Nat)} (S : FnScope (namesOf st) (paramsOf st) (defScope st)) (ht : trTd P.excs P.sup P.hds st = some (ok, hs)) :
    ∃ a, paramsOf st = [a] ∧ okN a = true ∧ isLoc (defScope st) a = true ∧ (namesOf st)[0]? = some a ∧ LamX.GivesTo X (namesOf st) x (defScope st) g cdv (defBody st) a q (TTw XC ok hs) := by
  unfold trTd at ht
  split at ht
  rotate_left
  · cases ht
  rename_i a p1 p2 p3 hh hds p4 s j p5 p6 hbody
  split at ht
  rotate_left
  · cases ht
  rename_i hc
  simp only [Bool.and_eq_true] at hc
  obtain ⟨⟨c1, c2⟩, c3⟩ := hc
  have c1 : paramsOf st = [a] := eq_of_beq c1
  obtain ⟨l, hl, e⟩ := Option.map_eq_some_iff.mp ht
  cases e
  have hN : (namesOf st)[0]? = some a := by
    have := S.pre
    rw [c1] at this
    cases e : namesOf st with
    | nil => rw [e] at this; simp at this
    | cons b r => rw [e] at this; simp at this; simp [this]
  refine ⟨a, c1, c2, c3, hN, fun f c' s0 H Q tl act hco hTT => ?_⟩
  let Xg := (cxOf C8.CX0 X.prog X.w X.K X.mg X.base (namesOf st) x (defScope st) g cdv X.A X.stack s0 H C8.E0).nox
  obtain ⟨cl, q1, q2⟩ := hds_ok (X := Xg) (sc := defScope st) rfl F.hdm hl
  rw [hbody]
  refine ⟨_, pss_cons (ps_try_mix (X := Xg) (tb := fun W D σ H => ∃ Ech : XK, (∀ cls d σ' H', Ech cls d H' → W cls d σ' H') ∧ σ[0]? = some (some (.ref f)) ∧ H c' = some (LamX.CodeO c' q) ∧ tl Ech H (fun _ H' => D.nx σ H')) rfl rfl LamX.takes0 (fun W pn xe tk _ => ?_) q1) (pss_one (ps_ret pe_str)), ?_⟩
  · refine ⟨fun pins s' σ H' D I h' => ?_⟩
    obtain ⟨Ech, hW, h1, h2, h3⟩ := h'
    have hp := act W pn xe Ech p1 p2 tk hW
    have hq := pss_one (ps_expr (pos := p3) hp (by rfl))
    exact hq.run pins s' σ H' D I ⟨h1, h2, h3⟩
  · refine ⟨fun cls _ H' => ∃ c C w, XC c = some C ∧ cls = .ref C ∧ (P.excs.filterMap fun x => (pick P.sup x l).map fun w => (code x, w)).lookup c = some w ∧ Q (.str ⟨w.toArray⟩) H', fun cls d σ' H' hE => ?_, ?_, hco, ?_⟩
    · obtain ⟨c, C0, w, e1, rfl, e3, e4⟩ := hE
      obtain ⟨y, hy, rfl, hpk⟩ := td_lookup e3
      have hyc : P.excs.contains y = true := by simpa using hy
      refine many_pick (mg := X.mg) (hdn := P.hds) (fun z hz => ?_) (show Q (.str ⟨w.toArray⟩) H' from e4) q2 hpk d
      obtain ⟨Cx, Cy, z1, z2, z3⟩ := F.exm y z hyc hz
      have hC : Cx = C0 := by
        have := z1.symm.trans e1
        simpa using this
      subst hC
      exact ⟨Cy, z2, z3⟩
    · show (L2.start (namesOf st) [V.ref f])[0]? = _
      unfold L2.start
      simp
    · have hTT : tl _ H (fun _ H' => Q (.str ⟨(codes s).toArray⟩) H') := hTT
      rw [codes_mk] at hTT
      exact hTT
theorem noPar_eq {a : Arguments} (h : noPar a = true) : a = ⟨[], [], none, [], [], none, []⟩ := by
  obtain ⟨a1, a2, a3, a4, a5, a6, a7⟩ := a
  unfold noPar at h
  simp only [Bool.and_eq_true, List.isEmpty_iff, Option.isNone_iff_eq_none] at h
  obtain ⟨⟨⟨⟨⟨⟨h1, h2⟩, h3⟩, h4⟩, h5⟩, h6⟩, h7⟩ := h
  subst h1 h2 h3 h4 h5 h6 h7
  rfl
theorem lookup_mem2 {α : Type} {c : Addr} {s : α} : ∀ {l : List (Addr × α)}, l.lookup c = some s → (c, s) ∈ l := fun h => lookup_mem h
/-- d(lambda: e) -/
theorem snd_thk {sc scope : Scope} {X : Cx} {W : WX} {x : Str} {params : Arguments} {body : Expr} {lpos p pos : Pos} {re : Env → M PV} (G : Gd P T C XC kk N sc X) (tk : Takes X W) (h1 : okN x = true) (h2 : isGl sc x = true) (h3 : P.fns.contains x = true) (hl : P.lam = true) (hs : LamX.lamSB sc scope = true) (hp : noPar params = true)
    (hb : ∀ {X' : Cx} {W' : WX}, Gd P.noLam T C XC kk N scope X' → Takes X' W' → PE X' body (tE X'.K XC W' re)) :
    PE X (.Call (.Name x p) [.Lambda params body scope lpos] [] pos) (tE X.K XC W fun env => callT T (code x) (re env)) := by
  obtain ⟨g, fd, st, hm, hk, hbd, F, S, hT⟩ := G.facts.raw x h3
  by_cases hd : ∃ d t, T (code x) = some d ∧ d.td = some t
  rotate_left
  · refine PE.never fun σ H Q ⟨env, h, z, m, rs, rh, o⟩ => ?_
    have : callT T (code x) (re env) h = .stuck := by
      unfold callT
      cases e : T (code x) with
      | none => rfl
      | some d =>
        obtain ⟨d1, d2, d3, d4⟩ := d
        cases d4 with
        | none => rfl
        | some t => exact (hd ⟨_, t, e, rfl⟩).elim
    have o : Out X.K XC z m H (callT T (code x) (re env) h) _ _ := o
    rw [this] at o
    exact o
  obtain ⟨d, ⟨ok, hs'⟩, hTd, htd⟩ := hd
  obtain ⟨f0, oc0, od0, fd0, osl0, c, k1, k2, k3, k4, hr⟩ := G.cd hl
  obtain ⟨oc, od, kV, doc, pm, an, cdv, ct, osl, rfl, lk, hcd⟩ := F.ex
  obtain ⟨a, e1, e2, e3, e4, hG⟩ := td_gives (X := X) (x := x) (q := X.env.qual ++ "<lambda>") (g := g) (cdv := cdv) G.facts S (hT d _ hTd htd)
  obtain ⟨d1, d2, _⟩ := okN_of h1
  obtain ⟨d3, d4, _⟩ := okN_of e2
  rw [e1] at hbd S
  have hmT : (He.tabOf X.K c, X.env.qual ++ "<lambda>") ∈ tabsK X.K := by
    refine List.mem_filterMap.mpr ⟨_, lookup_mem2 k1, ?_⟩
    dsimp only
    rw [k2, k4]
  have hva : Vis (defScope st) a := (loc_of e3).elim .inl fun q => .inr (.inl q)
  obtain rfl := noPar_eq hp
  refine (LamX.pe_lamcall (T := tabsK X.K) (c := c) (P := He.tabOf X.K c) (k := 3 * kk) (TT := TTw XC ok hs') (t := fun E => tE X.K XC (WU E) re) (gl_of G h2) hm hk lk hcd (.all hbd) S e4 hva hG (G.facts.tbs _ _ _ _ _ _ k1 k2) k3 hmT
    (fun q hq e => G.facts.tbu q hq _ hmT e) hr (LamX.lamS_by (by rw [G.sc]; exact hs)) rfl (fun _ _ _ _ _ => rfl) (fun A outer s H E f c' hr' => ?_) d1 d3 d4).to fun σ H Q q => ?_
  · exact hb (X' := LamX.lamCx X A outer s H E scope f c') ⟨G.facts.noLam, G.hN, rfl, rfl, hr', G.nd, fun e => Bool.noConfusion (show false = true from e)⟩ (L2.takes_of rfl rfl rfl rfl)
  · obtain ⟨env, h, z, m, rs, rh, out⟩ := q
    refine ⟨rh.tb, fun H1 eN T1 => ?_⟩
    obtain ⟨x1, rh1⟩ := rh.extN eN T1
    refine ⟨env, h, z, m, rs.keep x1.keeps, rh1, ?_⟩
    have out1 : Out X.K XC z m H1 (callT T (code x) (re env) h) _ _ := out.mono x1
    unfold callT at out1
    rw [hTd] at out1
    obtain ⟨n1, n2, n3, n4⟩ := d
    dsimp only at htd
    subst htd
    dsimp only at out1
    cases e : re env h with
    | ok v h' =>
      rw [e] at out1
      exact fun m' H' x' rh' y _ => out1 m' H' x' rh' (.str ⟨ok.toArray⟩) (by rw [Rep, RepD])
    | exc cc v h' =>
      rw [e] at out1
      dsimp only at out1
      cases e5 : hs'.lookup cc with
      | none => rw [e5] at out1; exact (show False from out1).elim
      | some w =>
        rw [e5] at out1
        intro m' H' cls dd x' rh' xr
        obtain ⟨C0, z1, z2, _⟩ := xr
        exact ⟨cc, C0, w, z1, z2, e5, out1 m' H' x' rh' (.str ⟨w.toArray⟩) (by rw [Rep, RepD])⟩
    | stuck => rw [e] at out1; exact out1
end
end Ev
end

section
/-! EvSndD: dicts. -/
set_option autoImplicit false
set_option linter.all false
set_option Elab.async false
set_option maxRecDepth 100000
set_option maxHeartbeats 2000000
namespace Ev
open PySem L2 PyProof.Rows

section
variable {P : TrP} {T : Nat → Option Fn} {C : Nat → Option PV} {XC : Nat → Option Addr} {k : Nat} {N : List Str} {sc : Scope} {X : Cx} {W : WX}
/-- a thing that lies there already becomes a cell -/
theorem late_cell {K : PySem.W.Frag} {z m : List Addr} {H : Hp} {h : Hh} (r : RelH K z m H h) {p : Addr} {ks0 : List (L2.Key × V)} (hp : H p = some (.dK ks0)) (nm : p ∉ m) (nz : p ∉ z) {kvs : List (D × PV)} {ks : List (L2.Key × V)} (rx : RepK K z m H kvs ks) (hl : ks.length ≤ sizeLine) :
    Kept K z m H z (m ++ [p]) (upd H p (.dK ks)) ∧ RelH K z (m ++ [p]) (upd H p (.dK ks)) (h ++ [.dic kvs]) := by
  have ne : ∀ {a : Addr} {u : HO}, H a = some u → (∀ q, u ≠ .dK q) → a ≠ p := fun h1 h2 q => by
    subst q
    rw [hp] at h1
    exact h2 _ (Option.some.inj h1).symm
  have rd : ∀ {a : Addr} {u : HO}, Rd H a u → a ∉ m → (∀ q, u ≠ .dK q) → (∀ o q, (.frz o u : HO) ≠ .dK q) → Rd (upd H p (.dK ks)) a u ∧ a ∉ m ++ [p] := fun h1 h2 h3 h4 => by
    rcases h1 with h1 | ⟨o, h1⟩
    · have n := ne h1 h3
      exact ⟨.inl (by rw [upd_ne n]; exact h1), by simp [h2, n]⟩
    · have n := ne h1 (h4 o)
      exact ⟨.inr ⟨o, by rw [upd_ne n]; exact h1⟩, by simp [h2, n]⟩
  have kp : Kept K z m H z (m ++ [p]) (upd H p (.dK ks)) := by
    refine ⟨fun a us h1 => ?_, fun a us h1 => ?_, fun l a h1 => ?_, fun a us h1 => ?_⟩
    · obtain ⟨q1, q2, q3⟩ := h1
      have n := ne q1 fun q e => by cases e
      exact ⟨by rw [upd_ne n]; exact q1, by simp [q2, n], q3⟩
    · rcases h1 with ⟨q1, q2, q3⟩ | h1
      · obtain ⟨r1, r2⟩ := rd q1 q2 (fun q e => by cases e) (fun o q e => by cases e)
        exact .inl ⟨r1, r2, q3⟩
      · exact .inr h1
    · rw [List.getElem?_append_left (List.getElem?_eq_some_iff.mp h1).1]
      exact h1
    · obtain ⟨r1, r2⟩ := rd h1.1 h1.2.1 (fun q e => by cases e) (fun o q e => by cases e)
      exact ⟨r1, r2, h1.2.2⟩
  have last : ∀ (l : Nat) (a : Addr) (c' : Cell), (m ++ [p])[l]? = some a → (h ++ [.dic kvs])[l]? = some c' → (m[l]? = some a ∧ h[l]? = some c') ∨ (a = p ∧ c' = .dic kvs) := fun l a c' h1 h2 => by
    by_cases hl1 : l < m.length
    · rw [List.getElem?_append_left hl1] at h1
      rw [List.getElem?_append_left (by rw [← r.len]; exact hl1)] at h2
      exact .inl ⟨h1, h2⟩
    · rw [List.getElem?_append_right (by omega)] at h1
      rw [List.getElem?_append_right (by rw [← r.len]; omega)] at h2
      have e0 : l - m.length = 0 := by
        cases hq : l - m.length with
        | zero => rfl
        | succ n => rw [hq] at h1; simp at h1
      rw [e0] at h1
      rw [← r.len, e0] at h2
      simp only [List.getElem?_cons_zero, Option.some.injEq] at h1 h2
      exact .inr ⟨h1.symm, h2.symm⟩
  have nep : ∀ {l : Nat} {a : Addr}, m[l]? = some a → a ≠ p := fun h1 q => nm (q ▸ List.mem_of_getElem? h1)
  refine ⟨kp, ?_, ?_, ?_, ?_, ?_, tabs_dic r.tb hp⟩
  · rw [List.nodup_append]
    refine ⟨r.nd, by simp, fun a ha b hb => ?_⟩
    simp only [List.mem_singleton] at hb
    subst hb
    exact fun q => nm (q ▸ ha)
  · simp [r.len]
  · intro l a ys h1 h2
    rcases last l a _ h1 h2 with ⟨h1, h2⟩ | ⟨rfl, hc⟩
    · obtain ⟨vs, q1, q2, q3⟩ := r.cell l a ys h1 h2
      exact ⟨vs, by rw [upd_ne (nep h1)]; exact q1, q2, q3.keep kp⟩
    · cases hc
  · intro l a ys h1 h2
    rcases last l a _ h1 h2 with ⟨h1, h2⟩ | ⟨rfl, hc⟩
    · obtain ⟨vs, q1, q2, q3⟩ := r.dcell l a ys h1 h2
      exact ⟨vs, by rw [upd_ne (nep h1)]; exact q1, q2, q3.keep kp⟩
    · cases hc
      exact ⟨ks, upd_same, hl, rx.keep kp⟩
  · intro a ha
    obtain ⟨⟨o, q⟩, n⟩ := r.zt a ha
    have hne : a ≠ p := fun e => nz (e ▸ ha)
    exact ⟨⟨o, by rw [upd_ne hne]; exact q⟩, by simp [n, hne]⟩
/-- a new dict as a new cell -/
theorem dic_new {z m : List Addr} {H : Hp} {h : Hh} {kvs : List (D × PV)} {ks : List (L2.Key × V)} {Q : VK} {E : XK} (rh : RelH X.K z m H h) (rk : RepK X.K z m H kvs ks) (hl : ks.length ≤ sizeLine)
    (o : Out X.K XC z m H (newDic kvs h) (fun v h' m' H' => ∀ x, Rep X.K z m' H' v x → Q x H') E) {p : Addr} (hp : H p = none) : Q (.ref p) (upd H p (.dK ks)) := by
  obtain ⟨e, rh'⟩ := rh.pushD hp rk hl
  have o : ∀ m' H', Ext m H m' H' → RelH X.K z m' H' (h ++ [.dic kvs]) → ∀ x, Rep X.K z m' H' (.ref h.length) x → Q x H' := o
  refine o _ _ e rh' _ ?_
  rw [Rep]
  exact ⟨p, rfl, by rw [← rh.len]; simp⟩
theorem snd_dnew {pos : Pos} : PE X (.Dict [] [] pos) (tE X.K XC W fun _ => newDic []) := pe_dnewK.to fun σ H Q q => by
  obtain ⟨env, h, z, m, rs, rh, o⟩ := q
  intro p hp
  exact dic_new rh (show RepK X.K z m H [] [] from rfl) (Nat.zero_le _) o hp
/-- `{}` beside a dict -/
def R2e (K : PySem.W.Frag) (neg : Bool) : R2 := fun x y H Q => ∃ v h z m kvs b, Rep K z m H v x ∧ RelH K z m H h ∧ dicAt h v = some kvs ∧ y = .ref b ∧ H b = some (.dK []) ∧ Q (.bl (if neg then !kvs.isEmpty else kvs.isEmpty)) H
theorem opr_demp (hr : Room k X.A) (neg : Bool) : OpR X (compareOp (if neg then .NotEq else .Eq)) (R2e X.K neg) := by
  have hu := units_of hr
  intro pins s σ H x y v u Q I rx ry q
  obtain ⟨pv, h, z, m, kvs, b, rp, rh, hd, rfl, eb, q⟩ := q
  obtain ⟨a, ks, rfl, ea, _, rk⟩ := dicAt_rep rh rp hd
  obtain rfl : v = Value.ref a := rx
  obtain rfl : u = Value.ref b := ry
  obtain ⟨_, ya, va, ra, da⟩ := (show ObjOk X.prog X.w H s.heap a (.dK ks) from I.hok a _ ea)
  obtain ⟨_, yb, vb, rb, db⟩ := (show ObjOk X.prog X.w H s.heap b (.dK []) from I.hok b _ eb)
  have hvb : vb.length = 0 := by rw [← rb.length]; rfl
  have hva : va.length = kvs.length := by rw [← ra.length, ← rk.length]
  have hb : (va.length == vb.length && true) = kvs.isEmpty := by
    rw [hva, hvb, Bool.and_true]
    cases kvs <;> simp
  cases neg with
  | false =>
    refine PySem.W.keq_eq (knd := mixKind X.prog X.w) (r := true) ya yb da db (by omega) (fun e => ?_) (fin_bl I q hb.symm)
    have hk : ks = [] := by
      have : ks.length = 0 := by rw [ra.length, e, hvb]
      exact List.length_eq_zero_iff.mp this
    subst hk
    exact hits_all rb ra fun p hp => by cases hp
  | true =>
    refine PySem.W.keq_ne (knd := mixKind X.prog X.w) (r := true) ya yb da db (by omega) (fun e => ?_) (fin_bl I q (by rw [hb]; rfl))
    have hk : ks = [] := by
      have : ks.length = 0 := by rw [ra.length, e, hvb]
      exact List.length_eq_zero_iff.mp this
    subst hk
    exact hits_all rb ra fun p hp => by cases hp
theorem snd_demp (hr : Room k X.A) (neg : Bool) {a : Expr} {ra : Env → M PV} {p1 pos : Pos} (ha : PE X a (tE X.K XC W ra)) :
    Both XC X W (.Compare a [if neg then .NotEq else .Eq] [.Dict [] [] p1] pos) fun env => M.bnd (ra env) fun x => M.lift fun h => (dicAt h x).map fun kvs => .d (.bool (if neg then !kvs.isEmpty else kvs.isEmpty)) := by
  have hs : behindInMarks (if neg then .NotEq else .Eq) (.Dict [] [] p1 : Expr) = false := by cases neg <;> rfl
  refine ⟨(pe_cmpR (opr_demp hr neg) ha pe_dnewK hs).to fun σ H Q q => ?_, (pt_cmpR (opr_demp hr neg) ha pe_dnewK hs).to fun σ H Q q => ?_⟩
  · obtain ⟨env, h, z, m, rs, rh, out⟩ := q
    refine ⟨env, h, z, m, rs, rh, out.bnd.imp fun x h1 m1 H1 e1 rh1 o1 vx rx p hp => ?_⟩
    obtain ⟨v, e, q⟩ := o1.lift
    obtain ⟨kvs, ek, rfl⟩ := Option.map_eq_some_iff.mp e
    have e2 : Ext m1 H1 m1 (upd H1 p (.dK [])) := Ext.new hp
    exact ⟨x, h1, z, m1, kvs, p, rx.keep e2.keeps, rh1.keepNew hp, ek, rfl, upd_same, q _ _ e2 (rh1.keepNew hp) _ (by rw [Rep, RepD])⟩
  · obtain ⟨env, h, z, m, rs, rh, out⟩ := q
    simp only [tst, M.bnd_assoc, lift_bool (fun h => (dicAt h _).map List.isEmpty)] at out
    refine ⟨env, h, z, m, rs, rh, out.bnd.imp fun x h1 m1 H1 e1 rh1 o1 vx rx p hp => ?_⟩
    have e2 : Ext m1 H1 m1 (upd H1 p (.dK [])) := Ext.new hp
    obtain ⟨v, e, q⟩ := o1.bnd.lift
    obtain ⟨kvs, ek, rfl⟩ := Option.map_eq_some_iff.mp e
    obtain ⟨c, ec, pc⟩ := (q _ _ e2 (rh1.keepNew hp)).lift
    simp only [truthy, D.truthy, Option.some.injEq] at ec
    subst ec
    exact ⟨x, h1, z, m1, kvs, p, rx.keep e2.keeps, rh1.keepNew hp, ek, rfl, upd_same, ⟨_, rfl, pc _ _ (.refl _ _) (rh1.keepNew hp)⟩⟩
/-- a key is put -/
theorem RepK.put {K : PySem.W.Frag} {z m : List Addr} {H : Hp} (ky : L2.Key) {v : PV} {u : V} (rv : Rep K z m H v u) : ∀ {kvs : List (D × PV)} {ks : List (L2.Key × V)}, RepK K z m H kvs ks → RepK K z m H (dPut kvs (keyD ky) v) (putK ks ky u) := by
  intro kvs ks rk
  have any : ∀ {kvs : List (D × PV)} {ks : List (L2.Key × V)}, RepK K z m H kvs ks → (kvs.any fun p => D.eqv p.1 (keyD ky)) = ks.any fun kv => decide (kv.1 = ky) := by
    intro kvs
    induction kvs with
    | nil => intro ks h; rw [show ks = [] from h]; rfl
    | cons p r ih =>
      intro ks h
      obtain ⟨k, w⟩ := p
      obtain ⟨key, u', ks', rfl, rfl, h3, h4⟩ := h
      rw [List.any_cons, List.any_cons, ih h4, D.eqv_key]
  unfold dPut putK
  rw [any rk]
  by_cases hq : (ks.any fun kv => decide (kv.1 = ky)) = true
  · rw [if_pos hq, if_pos hq]
    clear hq
    induction kvs generalizing ks with
    | nil => rw [show ks = [] from rk]; rfl
    | cons p r ih =>
      obtain ⟨k, w⟩ := p
      obtain ⟨key, u', ks', rfl, rfl, h3, h4⟩ := rk
      rw [List.map_cons, List.map_cons]
      dsimp only
      rw [D.eqv_key]
      by_cases e : key = ky
      · rw [decide_eq_true e, if_pos rfl, if_pos e]
        exact ⟨key, u, _, rfl, rfl, rv, ih h4⟩
      · rw [decide_eq_false e, if_neg (by simp), if_neg e]
        exact ⟨key, u', _, rfl, rfl, h3, ih h4⟩
  · rw [if_neg hq, if_neg hq]
    clear hq
    induction kvs generalizing ks with
    | nil => rw [show ks = [] from rk]; exact ⟨ky, u, [], rfl, rfl, rv, rfl⟩
    | cons p r ih =>
      obtain ⟨k, w⟩ := p
      obtain ⟨key, u', ks', rfl, rfl, h3, h4⟩ := rk
      exact ⟨key, u', _, rfl, rfl, h3, ih h4⟩
theorem RepK.merge {K : PySem.W.Frag} {z m : List Addr} {H : Hp} : ∀ {more : List (D × PV)} {ms : List (L2.Key × V)} {kvs : List (D × PV)} {ks : List (L2.Key × V)}, RepK K z m H kvs ks → RepK K z m H more ms → RepK K z m H (dMerge kvs more) (mergeK ks ms)
  | [], _, _, _, h, h2 => by
    rw [show _ = [] from h2]
    exact h
  | (k, v) :: r, _, kvs, ks, h, h2 => by
    obtain ⟨ky, u, ms', rfl, rfl, rv, h3⟩ := h2
    have q := RepK.merge (more := r) (RepK.put ky rv h) h3
    exact q
/-- a heap that has grown by new things -/
theorem RelH.grow {K : PySem.W.Frag} {z m : List Addr} {H H1 : Hp} {h : Hh} (r : RelH K z m H h) (g : ∀ b o, H b = some o → H1 b = some o) : Ext m H m H1 ∧ RelH K z m H1 h := by
  have x : Ext m H m H1 := ⟨⟨[], by simp⟩, fun a o h1 h2 _ => ⟨g a o h1, h2⟩⟩
  refine ⟨x, r.nd, r.len, fun l a xs h1 h2 => ?_, fun l a xs h1 h2 => ?_, fun a ha => ?_, r.tb.ext fun b u e => g b u e⟩
  · obtain ⟨us, e1, e2, e3⟩ := r.cell l a xs h1 h2
    exact ⟨us, g _ _ e1, e2, e3.keep x.keeps⟩
  · obtain ⟨us, e1, e2, e3⟩ := r.dcell l a xs h1 h2
    exact ⟨us, g _ _ e1, e2, e3.keep x.keeps⟩
  · obtain ⟨⟨us, q⟩, n⟩ := r.zt a ha
    exact ⟨⟨us, g _ _ q⟩, n⟩
theorem kV_rep {K : PySem.W.Frag} {z m : List Addr} {H : Hp} : ∀ ky : L2.Key, RepD K z m H (keyD ky) (kV ky)
  | .inl i => by rw [keyD, RepD]; rfl
  | .inr s => by
    rw [keyD, RepD]
    show V.str s = _
    simp
theorem items_rep {K : PySem.W.Frag} {z m : List Addr} {H : Hp} (nm : ∀ t, t ∈ m → ∃ o, H t = some o ∧ ∀ us, o ≠ .tup us) (nz : ∀ t, t ∈ z → ∃ o, H t = some o ∧ ∀ us, o ≠ .tup us) : ∀ {kvs : List (D × PV)} {ks : List (L2.Key × V)} {ts : List Addr} {ds : List D}, RepK K z m H kvs ks → itemsD kvs = some ds →
    Paired (fun (t : Addr) (q : L2.Key × V) => H t = some (.tup [kV q.1, q.2])) ts ks → RepDs K z m H ds (ts.map V.ref)
  | [], ks, ts, ds, rk, e, pr => by
    rw [show ks = [] from rk] at pr
    cases pr
    simp [itemsD] at e; subst e
    rw [List.map_nil, RepDs]
  | (k, v) :: r, _, ts, ds, rk, e, pr => by
    obtain ⟨ky, u, ks', rfl, rfl, rv, rk'⟩ := rk
    cases pr with
    | @cons t _ ts' _ h1 h2 =>
      cases v with
      | d w =>
        simp only [itemsD, Option.map_eq_some_iff] at e
        obtain ⟨ds', e, rfl⟩ := e
        rw [Rep] at rv
        rw [List.map_cons, RepDs]
        refine ⟨_, _, rfl, ?_, items_rep nm nz rk' e h2⟩
        rw [RepD]
        refine ⟨t, [kV ky, u], rfl, .inl ⟨.inl h1, fun hm => ?_, fun hz => ?_⟩, by show 2 ≤ sizeLine; decide, ?_⟩
        · obtain ⟨o, e1, e2⟩ := nm t hm
          rw [h1] at e1
          exact e2 _ (Option.some.inj e1).symm
        · obtain ⟨o, e1, e2⟩ := nz t hz
          rw [h1] at e1
          exact e2 _ (Option.some.inj e1).symm
        · rw [RepDs]
          refine ⟨_, _, rfl, kV_rep ky, ?_⟩
          rw [RepDs]
          exact ⟨_, _, rfl, rv, by rw [RepDs]⟩
      | _ => simp [itemsD] at e
theorem RelH.notup {K : PySem.W.Frag} {z m : List Addr} {H : Hp} {h : Hh} (r : RelH K z m H h) : (∀ t, t ∈ m → ∃ o, H t = some o ∧ ∀ us, o ≠ .tup us) ∧ ∀ t, t ∈ z → ∃ o, H t = some o ∧ ∀ us, o ≠ .tup us := by
  refine ⟨fun t ht => ?_, fun t ht => ?_⟩
  · rcases r.there ht with ⟨us, e⟩ | ⟨ks, e⟩
    · exact ⟨_, e, fun _ q => by cases q⟩
    · exact ⟨_, e, fun _ q => by cases q⟩
  · obtain ⟨⟨us, e⟩, _⟩ := r.zt t ht
    exact ⟨_, e, fun _ q => by cases q⟩
theorem snd_ditems (G : Gd P T C XC k N sc X) {e : Expr} {re : Env → M PV} {p apos cpos pos : Pos} (h2 : isGl sc "list" = true) (h3 : P.blts.contains "list" = true) (hn : notCall e = true) (hline : (apos.endLine == cpos.line) = true) (he : PE X e (tE X.K XC W re)) :
    PE X (.Call (.Name "list" p) [.Call (.Attribute e "items" apos) [] [] cpos] [] pos) (tE X.K XC W fun env => M.bnd (re env) fun x => M.lift fun h => ((dicAt h x).bind itemsD).map fun ds => .d (.list ds)) := by
  refine (LiI.pe_listItems G.calm he (gl_of G h2) (G.facts.blts _ h3) rfl (base_of hn) hline).to fun σ H Q q => ?_
  obtain ⟨env, h, z, m, rs, rh, out⟩ := q
  refine ⟨env, h, z, m, rs, rh, out.bnd.imp fun x h1 m1 H1 e1 rh1 o1 vx rx => ?_⟩
  obtain ⟨v, ev, q⟩ := o1.lift
  obtain ⟨ds, ev2, rfl⟩ := Option.map_eq_some_iff.mp ev
  obtain ⟨kvs, hd, hi⟩ := Option.bind_eq_some_iff.mp ev2
  obtain ⟨a, ks, rfl, ha, hl, rk⟩ := dicAt_rep rh1 rx hd
  refine ⟨a, ks, rfl, ha, fun H' p' ts g hp ht hnt hpl pr => ?_⟩
  obtain ⟨x', rh'⟩ := rh1.grow g
  obtain ⟨n1, n2⟩ := rh'.notup
  refine q _ _ x' rh' _ ?_
  rw [Rep, RepD]
  have fr := rh1.fresh hp
  refine ⟨p', ts.map V.ref, rfl, ⟨hpl, fr.1, fr.2⟩, ?_, items_rep n1 n2 (rk.keep x'.keeps) hi pr⟩
  rw [List.length_map, pr.length]
  exact hl
/-- pairs, as they lie -/
theorem pairs_rep {K : PySem.W.Frag} {z m : List Addr} {H : Hp} : ∀ {xs : List D} {us : List V} {kvs : List (D × PV)}, RepDs K z m H xs us → pairsD xs = some kvs → ∃ ps ks, us = ps.map V.ref ∧ RepK K z m H kvs ks ∧ Paired (fun (p : Addr) (kv : L2.Key × V) => SqT K H p [kV kv.1, kv.2]) ps ks
  | [], us, kvs, r, e => by
    rw [RepDs] at r
    simp [pairsD] at e
    subst r e
    exact ⟨[], [], rfl, rfl, .nil⟩
  | x :: xs, _, kvs, r, e => by
    rw [RepDs] at r
    obtain ⟨u, us, rfl, r1, r2⟩ := r
    match x, e, r1 with
    | .tup [k, v], e, r1 =>
      simp only [pairsD] at e
      split at e
      · rename_i hk
        obtain ⟨kvs', e1, rfl⟩ := Option.map_eq_some_iff.mp e
        obtain ⟨ps, ks, rfl, h2, h3⟩ := pairs_rep r2 e1
        rw [RepD] at r1
        obtain ⟨a, ws, rfl, h4, _, h5⟩ := r1
        rw [RepDs] at h5
        obtain ⟨w1, ws', rfl, h6, h5⟩ := h5
        rw [RepDs] at h5
        obtain ⟨w2, ws'', rfl, h7, h5⟩ := h5
        rw [RepDs] at h5
        subst h5
        obtain ⟨ky, rfl, rfl⟩ := key_of (z := z) (m := m) (H := H) (K := K) (x := w1) (by rw [Rep]; exact h6) hk
        exact ⟨a :: ps, (ky, w2) :: ks, rfl, ⟨ky, w2, ks, rfl, rfl, by rw [Rep]; exact h7, h2⟩, .cons h4.sq h3⟩
      · cases e
    | .none, e, _ => simp [pairsD] at e
    | .bool _, e, _ => simp [pairsD] at e
    | .int _, e, _ => simp [pairsD] at e
    | .str _, e, _ => simp [pairsD] at e
    | .list _, e, _ => simp [pairsD] at e
    | .tup [], e, _ => simp [pairsD] at e
    | .tup [_], e, _ => simp [pairsD] at e
    | .tup (_ :: _ :: _ :: _), e, _ => simp [pairsD] at e
def CDc (K : PySem.W.Frag) : List V → Hp → VK → Prop := fun us H Q => ∃ x u h z m, us = [u] ∧ Rep K z m H x u ∧ RelH K z m H h ∧ ∃ kvs, (dicAt h x = some kvs ∨ ∃ xs ps, deref h x = some (.list xs) ∧ pairsD xs = some ps ∧ kvs = dMerge [] ps) ∧
  ∀ ks p, RepK K z m H kvs ks → ks.length ≤ sizeLine → H p = none → Q (.ref p) (upd H p (.dK ks))
theorem bl_dict (hc : X.calm = true) : CallR X (.type "dict") (CDc X.K) := by
  intro pins s σ H us vs Q I rv q
  obtain ⟨x, u, h, z, m, rfl, rx, rh, kvs, hk, q⟩ := q
  rcases hk with hd | ⟨xs, ps, hd, hp, rfl⟩
  · obtain ⟨a, ks, rfl, ha, hl, rk⟩ := dicAt_rep rh rx hd
    exact call_dictD pins s σ H _ vs Q I rv ⟨a, ks, rfl, .inl ha, fun p hp => q ks p rk hl hp⟩
  · obtain ⟨a, us, rfl, hs, hl, rd⟩ := deref_list rh rx hd
    obtain ⟨as, ks, rfl, rk, pr⟩ := pairs_rep rd hp
    refine call_dictP hc pins s σ H _ vs Q I rv ⟨a, as, ks, rfl, hs, pr, fun p hp => q _ p (RepK.merge (show RepK X.K z m H [] [] from rfl) rk) ?_ hp⟩
    refine Nat.le_trans (length_mergeK ks []) ?_
    rw [List.length_nil, Nat.zero_add, ← pr.length, ← List.length_map (f := V.ref)]
    exact hl
theorem snd_dcopy (G : Gd P T C XC k N sc X) {a : Expr} {ra : Env → M PV} {p pos : Pos} (h2 : isGl sc "dict" = true) (h3 : P.blts.contains "dict" = true) (hst : notStar a = true) (ha : PE X a (tE X.K XC W ra)) :
    PE X (.Call (.Name "dict" p) [a] [] pos) (tE X.K XC W fun env => M.bnd (ra env) fun x => dcopyM x) := by
  have hst : ([a] : List Expr).all notStar = true := by simp [hst]
  obtain ⟨q1, q2⟩ := starEachs (pos := pos) (env := X.env) hst
  refine (pe_callTy (bl_dict G.calm) (gl_of G h2) (G.facts.blts _ h3) PyProof.Rows.boot_dict (pa_cons ha pa_nil q1) (by decide) (by decide) q1 q2).to fun σ H Q q => ?_
  obtain ⟨env, h, z, m, rs, rh, out⟩ := q
  refine ⟨env, h, z, m, rs, rh, out.bnd.imp fun x h1 m1 H1 e1 rh1 o1 vx rx => ?_⟩
  have o1 : Out X.K XC z m1 H1 (dcopyM x h1) _ _ := o1
  unfold dcopyM at o1
  cases hd : dicAt h1 x with
  | some kvs =>
    rw [hd] at o1
    exact ⟨x, vx, h1, z, m1, rfl, rx, rh1, kvs, .inl hd, fun ks p rk hl hp => dic_new rh1 rk hl o1 hp⟩
  | none =>
    rw [hd] at o1
    dsimp only at o1
    split at o1
    · rename_i xs hx
      split at o1
      · rename_i kvs hk
        exact ⟨x, vx, h1, z, m1, rfl, rx, rh1, _, .inr ⟨xs, kvs, hx, hk, rfl⟩, fun ks p rk hl hp => dic_new rh1 rk hl o1 hp⟩
      · exact (show False from o1).elim
    · exact (show False from o1).elim
/-! ### displays -/
def evP : List ((Env → M PV) × (Env → M PV)) → Env → M (List PV)
  | [], _ => M.ret []
  | p :: r, env => M.bnd (p.1 env) fun x => M.bnd (p.2 env) fun y => M.bnd (evP r env) fun xs => M.ret (x :: y :: xs)
theorem pairs_run {env : Env} {σ : L2.St} : ∀ {L : List ((Env → M PV) × (Env → M PV))} {h : Hh} {z m : List Addr} {H : Hp} {Pq : List PV → Hh → List Addr → Hp → Prop} {Q : List (V × V) → Hp → Prop}, RelS X.K z m H env σ → RelH X.K z m H h →
    Out X.K XC z m H (evP L env h) Pq (fun cls d H' => W cls d σ H') → (∀ xs h' m' H' ps, RelH X.K z m' H' h' → Ext m H m' H' → Reps X.K z m' H' xs (ps.flatMap fun p : V × V => [p.1, p.2]) → Pq xs h' m' H' → Q ps H') →
    tPairs (L.map fun p => (tE X.K XC W p.1, tE X.K XC W p.2)) σ H Q
  | [], h, z, m, H, Pq, Q, rs, rh, o, f => by
    have o := (show Out X.K XC z m H (M.ret [] h) Pq _ from o).ret m H (Ext.refl _ _) rh
    exact f [] h m H [] rh (Ext.refl _ _) (by rw [List.flatMap_nil, Reps]) o
  | p :: r, h, z, m, H, Pq, Q, rs, rh, o, f => by
    refine ⟨env, h, z, m, rs, rh, (show Out X.K XC z m H (M.bnd (p.1 env) _ h) Pq _ from o).bnd.imp fun x h1 m1 H1 e1 rh1 o1 vx rx => ?_⟩
    refine ⟨env, h1, z, m1, rs.keep e1.keeps, rh1, o1.bnd.imp fun y h2 m2 H2 e2 rh2 o2 vy ry => ?_⟩
    refine pairs_run ((rs.keep e1.keeps).keep e2.keeps) rh2 o2.bnd fun xs h3 m3 H3 ps rh3 e3 rps o3 => ?_
    refine f (x :: y :: xs) h3 m3 H3 ((vx, vy) :: ps) rh3 ((e1.trans e2).trans e3) ?_ (o3.ret m3 H3 (Ext.refl _ _) rh3)
    rw [List.flatMap_cons]
    show Reps X.K z m3 H3 (x :: y :: xs) (vx :: vy :: _)
    rw [Reps]
    refine ⟨vx, _, rfl, (rx.keep e2.keeps).keep e3.keeps, ?_⟩
    rw [Reps]
    exact ⟨vy, _, rfl, ry.keep e3.keeps, rps⟩
theorem keyed_rep {K : PySem.W.Frag} {z m : List Addr} {H : Hp} : ∀ {ps : List (V × V)} {xs : List PV} {kvs : List (D × PV)}, Reps K z m H xs (ps.flatMap fun p : V × V => [p.1, p.2]) → keyed xs = some kvs → ∃ ks : List (L2.Key × V), ps = ks.map (fun kv => (kV kv.1, kv.2)) ∧ RepK K z m H kvs ks
  | [], xs, kvs, r, e => by
    rw [List.flatMap_nil] at r
    cases xs with
    | nil => simp [keyed] at e; subst e; exact ⟨[], rfl, rfl⟩
    | cons x xs => rw [Reps] at r; obtain ⟨_, _, q, _⟩ := r; cases q
  | p :: ps, xs, kvs, r, e => by
    rw [List.flatMap_cons] at r
    have r : Reps K z m H xs (p.1 :: p.2 :: _) := r
    match xs, r, e with
    | .d kk :: v :: xs, r, e =>
      rw [Reps] at r
      obtain ⟨u1, us, q1, r1, r⟩ := r
      cases q1
      rw [Reps] at r
      obtain ⟨u2, us2, q2, r2, r⟩ := r
      cases q2
      simp only [keyed] at e
      split at e
      · rename_i hk
        obtain ⟨kvs', e1, rfl⟩ := Option.map_eq_some_iff.mp e
        obtain ⟨ky, hk1, rfl⟩ := key_of r1 hk
        obtain ⟨ks, rfl, h2⟩ := keyed_rep r e1
        exact ⟨(ky, p.2) :: ks, by rw [List.map_cons, ← hk1], ky, p.2, ks, rfl, rfl, r2, h2⟩
      · cases e
    | [], r, _ => rw [Reps] at r; cases r
    | [_], r, e => cases ‹PV› <;> simp [keyed] at e
    | .ref _ :: _ :: _, _, e => simp [keyed] at e
    | .dict _ :: _ :: _, _, e => simp [keyed] at e
    | .scr _ :: _ :: _, _, e => simp [keyed] at e
    | .tp _ :: _ :: _, _, e => simp [keyed] at e
theorem snd_ddisp {keys : List (Option Expr)} {values : List Expr} {L : List ((Env → M PV) × (Env → M PV))} {pos : Pos} (hp : PPs X pos keys values (L.map fun p => (tE X.K XC W p.1, tE X.K XC W p.2))) (hall : keys.all (·.isSome) = true) (hl : keys.length = values.length) (h0 : keys ≠ []) (h15 : keys.length ≤ 15) :
    PE X (.Dict keys values pos) (tE X.K XC W fun env => M.bnd (evP L env) fun xs => match keyed xs with
      | some kvs => if kvs.length ≤ 15 then newDic (dMerge [] kvs) else M.stuck
      | .none => M.stuck) := by
  refine (pe_disp hp hall hl h0 h15).to fun σ H Q q => ?_
  obtain ⟨env, h, z, m, rs, rh, out⟩ := q
  intro p hp0
  have e0 : Ext m H m (upd H p (.dK [])) := Ext.new hp0
  have rh0 := rh.keepNew (o := .dK []) hp0
  have npm := (rh.fresh hp0).1
  cases er : evP L env h with
  | ok xs h2 =>
    have out : Out X.K XC z m H ((match keyed xs with
      | some kvs => if kvs.length ≤ 15 then newDic (dMerge [] kvs) else M.stuck
      | .none => M.stuck) h2) (fun v h' m' H' => ∀ x, Rep X.K z m' H' v x → Q x H') (fun cls d H' => W cls d σ H') := by
      have : (M.bnd (evP L env) (fun xs => match keyed xs with
      | some kvs => if kvs.length ≤ 15 then newDic (dMerge [] kvs) else M.stuck
      | .none => M.stuck) h) = ((match keyed xs with
      | some kvs => if kvs.length ≤ 15 then newDic (dMerge [] kvs) else M.stuck
      | .none => M.stuck) h2) := M.bnd_ok er
      rw [← this]
      exact out
    refine pairs_run (Pq := fun xs' h' m' H' => xs' = xs ∧ h' = h2) (rs.keep e0.keeps) rh0 (by rw [er]; exact fun m' H' _ _ => ⟨rfl, rfl⟩) fun xs' h' m' H' ps rh' e' rps q => ?_
    obtain ⟨rfl, rfl⟩ := q
    cases hk : keyed xs' with
    | none => rw [hk] at out; exact (show False from out).elim
    | some kvs =>
      rw [hk] at out
      dsimp only at out
      split at out
      · rename_i h15'
        obtain ⟨ks, rfl, rk⟩ := keyed_rep rps hk
        have hpp := (e'.imm p _ upd_same npm fun ps q => by cases q).1
        have npm' := (e'.imm p _ upd_same npm fun ps q => by cases q).2
        have hkl : ks.length ≤ 15 := by rw [← rk.length]; exact h15'
        refine ⟨hpp, ks, rfl, hkl, ?_⟩
        have hml : (mergeK [] ks).length ≤ sizeLine := by
          refine Nat.le_trans (length_mergeK ks []) ?_
          rw [List.length_nil, Nat.zero_add]
          exact Nat.le_trans hkl (by decide)
        have out : ∀ m'' H'', Ext m H m'' H'' → RelH X.K z m'' H'' (h' ++ [.dic (dMerge [] kvs)]) → ∀ x, Rep X.K z m'' H'' (.ref h'.length) x → Q x H'' := out
        obtain ⟨e1, r1⟩ := late_cell rh' hpp npm' (fun hz => by
          obtain ⟨⟨us, q⟩, _⟩ := rh.zt p hz
          rw [hp0] at q; cases q) (RepK.merge (show RepK X.K z m' H' [] [] from rfl) rk) hml
        refine out (m' ++ [p]) _ ⟨?_, fun a o h1 h2 h3 => ?_⟩ r1 _ ?_
        · obtain ⟨w, e⟩ := e'.pre
          exact ⟨w ++ [p], by rw [e, List.append_assoc]⟩
        · have hne : a ≠ p := ne_of_none h1 hp0
          obtain ⟨z1, z2⟩ := e'.imm a o (by rw [upd_ne hne]; exact h1) h2 h3
          exact ⟨by rw [upd_ne hne]; exact z1, by simp [z2, hne]⟩
        · rw [Rep]
          exact ⟨p, rfl, by rw [← rh'.len]; simp⟩
      · exact (show False from out).elim
  | exc c v h2 =>
    have out : Out X.K XC z m H (.exc c v h2 : R PV) (fun v h' m' H' => ∀ x, Rep X.K z m' H' v x → Q x H') (fun cls d H' => W cls d σ H') := by
      rw [← M.bnd_exc (f := fun xs => match keyed xs with
      | some kvs => if kvs.length ≤ 15 then newDic (dMerge [] kvs) else M.stuck
      | .none => M.stuck) er]
      exact out
    refine pairs_run (Pq := fun _ _ _ _ => False) (rs.keep e0.keeps) rh0 (by rw [er]; exact fun m' H' cls d e' rh' x => out m' H' cls d (e0.trans e') rh' x) fun xs' h' m' H' ps rh' e' rps q => q.elim
  | stuck =>
    have out : Out X.K XC z m H (M.bnd (evP L env) (fun xs => match keyed xs with
      | some kvs => if kvs.length ≤ 15 then newDic (dMerge [] kvs) else M.stuck
      | .none => M.stuck) h) (fun v h' m' H' => ∀ x, Rep X.K z m' H' v x → Q x H') (fun cls d H' => W cls d σ H') := out
    rw [M.bnd_stuck er] at out
    exact (show False from out).elim
end
end Ev
end

section
/-! EvSet: set(..) of ints and texts, sorted and counted. -/
set_option autoImplicit false
set_option linter.all false
set_option Elab.async false
set_option maxRecDepth 100000
set_option maxHeartbeats 4000000
namespace Ev
open PySem PySem.Spec L2 PyProof.Rows PySem.W PySem.SeqAt

/-! ### rows of a set beside its keys -/
section
variable {P : Program} {w : World}
def RowK (P : Program) (w : World) (e : Int × Value) (k : Key) : Prop := keyIs k e.2 = true ∧ e.1 = (mixKind P w).hash k ∧ e.2.scannable = true
/-- rows and keys, in some order -/
def RowsK (P : Program) (w : World) (es : List (Int × Value)) (ks : List Key) : Prop := ∃ ks' : List Key, ks'.Perm ks ∧ EachIs (RowK P w) es ks'
theorem each_len {α β : Type} {R : α → β → Prop} : ∀ {xs : List α} {ys : List β}, EachIs R xs ys → xs.length = ys.length
  | _, _, .nil => rfl
  | _, _, .cons _ t => congrArg (· + 1) (each_len t)
theorem each_mem {α β : Type} {R : α → β → Prop} : ∀ {xs : List α} {ys : List β}, EachIs R xs ys → ∀ x ∈ xs, ∃ y ∈ ys, R x y
  | _, _, .nil, x, hx => by cases hx
  | _, _, .cons h t, x, hx => by
    rcases List.mem_cons.mp hx with rfl | hx
    · exact ⟨_, List.mem_cons_self .., h⟩
    · obtain ⟨y, hy, r⟩ := each_mem t x hx
      exact ⟨y, List.mem_cons_of_mem _ hy, r⟩
theorem each_back {α β : Type} {R : α → β → Prop} : ∀ {xs : List α} {ys : List β}, EachIs R xs ys → ∀ y ∈ ys, ∃ x ∈ xs, R x y
  | _, _, .nil, x, hx => by cases hx
  | _, _, .cons h t, x, hx => by
    rcases List.mem_cons.mp hx with rfl | hx
    · exact ⟨_, List.mem_cons_self .., h⟩
    · obtain ⟨y, hy, r⟩ := each_back t x hx
      exact ⟨y, List.mem_cons_of_mem _ hy, r⟩
/-- another order of the rows -/
theorem each_perm {α β : Type} {R : α → β → Prop} {xs zs : List α} (p : zs.Perm xs) : ∀ {ys : List β}, EachIs R xs ys → ∃ us : List β, us.Perm ys ∧ EachIs R zs us := by
  induction p with
  | nil =>
    intro ys h
    exact ⟨ys, List.Perm.refl _, h⟩
  | cons x p ih =>
    intro ys h
    cases h with
    | cons h t =>
      obtain ⟨us, q, r⟩ := ih t
      exact ⟨_ :: us, q.cons _, .cons h r⟩
  | swap x y l =>
    intro ys h
    cases h with
    | cons h1 t =>
      cases t with
      | cons h2 t => exact ⟨_ :: _ :: _, List.Perm.swap .., .cons h2 (.cons h1 t)⟩
  | trans p1 p2 ih1 ih2 =>
    intro ys h
    obtain ⟨us, q, r⟩ := ih2 h
    obtain ⟨vs, q', r'⟩ := ih1 r
    exact ⟨vs, q'.trans q, r'⟩
theorem RowsK.perm {es zs : List (Int × Value)} {ks : List Key} (r : RowsK P w es ks) (p : zs.Perm es) : RowsK P w zs ks := by
  obtain ⟨ks', q, r⟩ := r
  obtain ⟨us, q', r'⟩ := each_perm p r
  exact ⟨us, q'.trans q, r'⟩
theorem RowsK.elems {es : List (Int × Value)} {ks : List Key} (r : RowsK P w es ks) : ElemsOf (mixKind P w) es := fun e he => by
  obtain ⟨ks', _, r⟩ := r
  obtain ⟨k, _, h1, h2, h3⟩ := each_mem r e he
  exact ⟨⟨k, h1, h2⟩, h3⟩
theorem RowsK.len {es : List (Int × Value)} {ks : List Key} (r : RowsK P w es ks) : es.length = ks.length := by
  obtain ⟨ks', q, r⟩ := r
  rw [each_len r, q.length_eq]
theorem RowsK.has {es : List (Int × Value)} {ks : List Key} (r : RowsK P w es ks) (k : Key) : k ∈ ks ↔ ∃ e ∈ es, keyIs k e.2 = true := by
  obtain ⟨ks', q, r⟩ := r
  rw [← q.mem_iff]
  constructor
  · intro h
    obtain ⟨e, he, h1, _⟩ := each_back r k h
    exact ⟨e, he, h1⟩
  · rintro ⟨e, he, h1⟩
    obtain ⟨k', hk', h2, _⟩ := each_mem r e he
    have := (mixKind P w).inj e.2 k k' h1 h2
    rw [this]
    exact hk'
/-- the set at a: its keys, as they came -/
def SetM (P : Program) (w : World) (h : Heap) (a : Addr) (ks : List Key) : Prop :=
  ∃ ob es ep tb, h.get? a = some ob ∧ ob.ExactSet ∧ ob.data = .set es ep tb ∧ RowsK P w es.toList ks ∧ ks.Nodup ∧ ks.length < scanBound ∧ tb.fits es.size = true ∧ Ris tb.place.toList ∧ (w.params.followText "set-order" = true ∨ tb.led = true)
theorem SetM.keep {h h' : Heap} {a : Addr} {ks : List Key} (m : SetM P w h a ks) (k : ∀ o, h.get? a = some o → h'.get? a = some o) : SetM P w h' a ks := by
  obtain ⟨ob, es, ep, tb, g, r⟩ := m
  exact ⟨ob, es, ep, tb, k _ g, r⟩
def inK (ks : List Key) (k : Key) : Bool := ks.any fun x => decide (x = k)
theorem inK_iff {ks : List Key} {k : Key} : inK ks k = true ↔ k ∈ ks := by
  unfold inK
  rw [List.any_eq_true]
  constructor
  · rintro ⟨x, hx, e⟩
    rw [← of_decide_eq_true e]
    exact hx
  · intro h
    exact ⟨k, h, decide_eq_true rfl⟩
def addK (ks : List Key) (k : Key) : List Key := if inK ks k = true then ks else ks ++ [k]
def onceK (ks : List Key) : List Key := ks.foldl addK []
end
section
variable {P : Program} {w : World} {A : Around} {E : Value → Shared → Prop} {s : Shared} {a : Addr} {ks : List Key}
/-- what is stored, then laid anew where the table is full -/
theorem setM_store {give : Bool → Sem Unit} (hgive : ∀ (b : Bool) (s1 : Shared) (Q1 : Unit → Shared → Prop), Q1 () s1 → wpAny (model P w) A (give b) Q1 E s1) {ob : Obj} {es0 : Array (Int × Value)} {ep0 : Nat} {tb0 : SetTable}
    (hob : s.heap.get? a = some ob) (hexact : ob.ExactSet) (hdata : ob.data = .set es0 ep0 tb0) {es : Array (Int × Value)} {tb : SetTable} (rows : RowsK P w es.toList ks) (nodup : ks.Nodup) (bound : ks.length < scanBound) (fit : tb.fits es.size = true)
    (ris : Ris tb.place.toList) (led : w.params.followText "set-order" = true ∨ tb.led = true) {dum : Bool} {R : Option Bool → Shared → Prop} (hR : ∀ h', Heap.SameBut a s.heap h' → SetM P w h' a ks → R (some true) { s with heap := h' }) :
    wpAny (model P w) A (do
        storeSet a es tb
        if (!dum && tb.tooFull) = true then do
            give (relayAll tb es (SetTable.grown es.size)).2.2
            storeSet a (relayAll tb es (SetTable.grown es.size)).1 (relayAll tb es (SetTable.grown es.size)).2.1
            pure (some true)
          else pure (some true)) R E s := by
  have size1 : es.size = ks.length := by rw [← Array.length_toList]; exact rows.len
  refine wpAny_bind (wpAny_storeSet_of hob hdata ?_ (fits_of_scanBound (by rw [size1]; exact bound)))
  have at1 := store_at (es' := es) (t' := tb) hob hdata
  have same1 := Heap.SameBut.update s.heap a (Obj.putSet es tb)
  split
  · have p1 := relayAll_perm tb es (SetTable.grown es.size)
    have p2 := relayAll_fits tb es (SetTable.grown es.size)
    have p3 := relayAll_ris tb es (SetTable.grown es.size)
    have p4 := relayAll_led tb es (SetTable.grown es.size)
    generalize relayAll tb es (SetTable.grown es.size) = laid at p1 p2 p3 p4 ⊢
    obtain ⟨es1, tb1, gave⟩ := laid
    dsimp only at p1 p2 p3 p4 ⊢
    have rows1 := rows.perm p1
    have size2 : es1.size = ks.length := by rw [← Array.length_toList]; exact rows1.len
    refine wpAny_bind (hgive _ _ _ (wpAny_bind (wpAny_storeSet_of at1 rfl ?_ (fits_of_scanBound (by rw [size2]; exact bound)))))
    have at2 := store_at (es' := es1) (t' := tb1) at1 rfl
    exact wpAny_pure (hR _ (same1.trans (Heap.SameBut.update _ a _)) ⟨_, es1, _, tb1, at2, hexact, rfl, rows1, nodup, bound, p2, p3, led.imp id fun z => by rw [p4]; exact z⟩)
  · exact wpAny_pure (hR _ same1 ⟨_, es, _, tb, at1, hexact, rfl, rows, nodup, bound, fit, ris, led⟩)
theorem setM_add {k : Key} {v : Value} {Q : Bool → Shared → Prop} (hk : keyIs k v = true) (hsc : v.scannable = true) (m : SetM P w s.heap a ks) (room : ks.length + 1 < scanBound)
    (hQ : ∀ h' b, Heap.SameBut a s.heap h' → SetM P w h' a (addK ks k) → Q b { s with heap := h' }) : wpAny (model P w) A (setAddHashed a v ((mixKind P w).hash k)) Q E s := by
  obtain ⟨ob, es, ep, tb, hob, hexact, hdata, rows, nodup, bound, fit, ris, led⟩ := m
  have hk' : (mixKind P w).is k v = true := hk
  have size0 : es.size = ks.length := by rw [← Array.length_toList]; exact rows.len
  unfold setAddHashed setAddHashedIn
  refine wpAny_holding (wpAny_bind (wpAny_setState_of hob hdata fit ?_))
  dsimp only
  rw [byScan_of hsc (by rw [size0]; exact bound) rows.elems, if_pos rfl]
  unfold setAddByScan
  refine wpAny_bind (wpAny_bind (wpAny_rule (wpAny_bind (wpAny_setScan_of hk' hob hdata fit rows.elems ?_))))
  cases hf : List.findIdx? (fun e => (mixKind P w).is k e.2) es.toList with
  | some j =>
    dsimp only
    obtain ⟨hj, pj, _⟩ := List.findIdx?_eq_some_iff_getElem.mp hf
    have hin : k ∈ ks := (rows.has k).mpr ⟨es.toList[j], List.getElem_mem hj, pj⟩
    refine wpAny_pure (wpAny_pure (hQ s.heap _ (Heap.SameBut.refl a s.heap) ?_))
    rw [addK, if_pos (inK_iff.mpr hin)]
    exact ⟨ob, es, ep, tb, hob, hexact, hdata, rows, nodup, bound, fit, ris, led⟩
  | none =>
    dsimp only
    have hno : k ∉ ks := fun z => by
      obtain ⟨e, he, q⟩ := (rows.has k).mp z
      have c := List.findIdx?_eq_none_iff.mp hf e he
      rw [show (mixKind P w).is k e.2 = true from q] at c
      cases c
    have quiet : ∀ (b : Bool) (s1 : Shared) (Q1 : Unit → Shared → Prop), Q1 () s1 → wpAny (model P w) A (match b with | true => rule "set.scan.the-table-gave-way" | false => pure ()) Q1 E s1 := fun b s1 Q1 q => by
      cases b
      · exact wpAny_pure q
      · exact wpAny_rule q
    have p1 := layNew_perm tb es ((mixKind P w).hash k) v
    have p2 := layNew_fits tb es ((mixKind P w).hash k) v
    have p3 := layNew_ris tb es ((mixKind P w).hash k) v ris
    have p4 := layNew_led tb es ((mixKind P w).hash k) v
    generalize layNew tb es ((mixKind P w).hash k) v = laid at p1 p2 p3 p4 ⊢
    obtain ⟨es1, tb1, dum, gave⟩ := laid
    dsimp only at p1 p2 p3 p4 ⊢
    rw [Array.toList_push] at p1
    have rows1 : RowsK P w es1.toList (ks ++ [k]) := by
      refine RowsK.perm ?_ p1
      obtain ⟨ks', q, r⟩ := rows
      refine ⟨ks' ++ [k], q.append_right _, ?_⟩
      have app : ∀ {es : List (Int × Value)} {ks : List Key}, EachIs (RowK P w) es ks → EachIs (RowK P w) (es ++ [((mixKind P w).hash k, v)]) (ks ++ [k]) := by
        intro es ks h
        induction h with
        | nil => exact .cons ⟨hk, rfl, hsc⟩ .nil
        | cons h1 _ ih => exact .cons h1 ih
      exact app r
    have nodup1 : (ks ++ [k]).Nodup := by
      rw [List.nodup_append]
      refine ⟨nodup, by simp, fun x hx y hy e => ?_⟩
      rw [List.mem_singleton] at hy
      exact hno (by rw [← hy, ← e]; exact hx)
    have bound1 : (ks ++ [k]).length < scanBound := by rw [List.length_append]; exact room
    have led1 : w.params.followText "set-order" = true ∨ tb1.led = true := led.imp id fun z => by rw [p4]; exact z
    have fin : ∀ h', Heap.SameBut a s.heap h' → SetM P w h' a (ks ++ [k]) → Q true { s with heap := h' } := fun h' sb r => hQ h' true sb (by rw [addK, if_neg fun z => hno (inK_iff.mp z)]; exact r)
    refine wpAny_bind (quiet _ _ _ ?_)
    split
    · refine wpAny_bind ?_
      rw [hashByValue_scannable 8 hsc]
      refine wpAny_pure (setM_store quiet hob hexact hdata rows1 nodup1 bound1 ?_ ?_ ?_ fun h' sb r => wpAny_pure (fin h' sb r))
      · split
        · exact p2
        · exact SetTable.fits_plain_off p2
      · split <;> exact p3
      · split <;> exact led1
    · refine wpAny_bind (wpAny_pure ?_)
      rw [if_pos rfl]
      exact setM_store quiet hob hexact hdata rows1 nodup1 bound1 p2 p3 led1 fun h' sb r => wpAny_pure (fin h' sb r)
end
/-! ### the loop that fills a set, for any sort of keys -/
section
variable {P : Program} {w : World} {A : Around} {E : Value → Shared → Prop} {s : Shared}
def newSetO (w : World) : Obj := { cls := .type "set", dict := none, data := .set #[] 0 (.fresh 0 0 (!w.params.followText "set-order")) }
/-- the i-th item can be added -/
def Adds (P : Program) (w : World) (A : Around) (S : Addr) (items : Array Value) (G : Nat → Heap → Prop) : Prop :=
  ∀ (i : Nat) (v : Value) (s' : Shared) (A1 : Around) (E1 : Value → Shared → Prop) (Q1 : Bool → Shared → Prop), items[i]? = some v → G i s'.heap → A1.units ≤ A.units + 5 → A1.handled = A.handled →
    (∀ h' tk b, s'.toks ≤ tk → Heap.SameBut S s'.heap h' → G (i + 1) h' → Q1 b { s' with heap := h', toks := tk }) → wpAny (model P w) A1 (setAdd S v) Q1 E1 s'
theorem le_refl' (n : Nat) : n ≤ n := Nat.le_refl n
theorem set_loop {B : Around} {I : Addr} {fp wr : List Addr} {Gn : Array GenState → Array GenState → Prop} {n : Nat} {Pv : Nat → Value → Prop} {St : Nat → Shared → Prop} {R : Result → Shared → Prop} {items : Array Value} (W : WalksS P w B.in1 I fp wr Gn n Pv St)
    (S : Addr) (off : S ∉ fp) (above : ∀ b ∈ wr, S < b) (G : Nat → Heap → Prop) (gk : ∀ i h1 h2, (∀ b o, b ≤ S → h1.get? b = some o → h2.get? b = some o) → G i h1 → G i h2) (gs : Adds P w A S items G) (hval : ∀ i v, Pv i v → items[i]? = some v)
    (room : B.units + 1 ≤ A.units + 5) (same : B.in1.handled = A.handled) :
    ∀ (k i : Nat) (s : Shared), n - i = k → i ≤ n → St i s → G i s.heap → (∀ s', Moved (S :: wr) Gn s s' → G n s'.heap → R (.ok (.ret .none)) s') → codeAny (model P w) B (.builtin "set.update.loop" ⟨[.ref S, .ref I], []⟩) R s := by
  have offw : S ∉ wr := fun z => off (W.sub _ z)
  have into : ∀ b ∈ wr, b ∈ S :: wr := fun b hb => List.mem_cons_of_mem _ hb
  intro k
  induction k with
  | zero =>
    intro i s left hi st g hR
    have last : i = n := by omega
    subst last
    refine codeAny_builtin PyProof.Rows.F.entry_set_update_loop ?_
    rw [Around.under_plainId PyProof.Rows.F.plain_set_update_loop _]
    show wpAny _ B.in1 (pyNext (.ref I) >>= _) _ _ s
    refine wpAny_bind (W.done s _ _ st fun s1 mv => ?_)
    show wpAny _ B.in1 (ret Value.none) _ _ s1
    exact wpAny_pure (hR s1 (mv.mono into) (gk _ _ _ (fun b o hb e => mv.heap b o (fun z => Nat.not_lt_of_le hb (above b z)) e) g))
  | succ k ih =>
    intro i s left hi st g hR
    have more : i < n := by omega
    refine codeAny_builtin PyProof.Rows.F.entry_set_update_loop ?_
    rw [Around.under_plainId PyProof.Rows.F.plain_set_update_loop _]
    show wpAny _ B.in1 (pyNext (.ref I) >>= _) _ _ s
    refine wpAny_bind (W.item i s _ _ more st fun v s1 pv st1 mv => ?_)
    have g1 : G i s1.heap := gk _ _ _ (fun b o hb e => mv.heap b o (fun z => Nat.not_lt_of_le hb (above b z)) e) g
    show wpAny _ B.in1 (holding [v] (setAdd S v) >>= _) _ _ s1
    refine wpAny_bind (wpAny_holding (gs i v s1 B.in1 _ _ (hval i v pv) g1 room same fun h' tk b tk1 sb g2 => ?_))
    refine wpAny_pure ⟨plainId_quiet PyProof.Rows.F.plain_set_update_loop _, ih (i + 1) _ (by omega) more (W.frame _ s1 _ _ st1 tk1 fun c hc o e => ?_) g2 fun s2 mv2 g3 => ?_⟩
    · rw [sb.2 c (fun z : c = S => off (by rw [← z]; exact hc))]
      exact e
    · refine hR s2 (Moved.trans W.gtrans ((mv.mono into).then_heap tk1 fun c o hc e => ?_) mv2) g3
      rw [sb.2 c (fun z : c = S => hc (by rw [z]; exact List.mem_cons_self))]
      exact e
theorem set_of_list {l : Addr} {items : Array Value} {Q : Value → Shared → Prop} (G : Nat → Heap → Prop) (calm : A.handled = none) (src : s.heap.IsList l items)
    (g0 : ∀ h', h'.get? s.heap.objs.size = some (newSetO w) → (∀ b o, s.heap.get? b = some o → h'.get? b = some o) → G 0 h')
    (gk : ∀ i h1 h2, (∀ b o, b ≤ s.heap.objs.size → h1.get? b = some o → h2.get? b = some o) → G i h1 → G i h2)
    (gs : Adds P w A s.heap.objs.size items G)
    (hQ : ∀ (h' : Heap) (tk : Nat), G items.size h' → (∀ b o, s.heap.get? b = some o → h'.get? b = some o) → Q (.ref s.heap.objs.size) { s with heap := h', toks := tk }) :
    wpAny (model P w) A (PySem.call (.type "set") [.ref l]) Q E s := by
  obtain ⟨c, tl, hmro⟩ := PySem.F.called_set.mro
  have hmade := PySem.F.called_set.made
  have hsub := PySem.F.called_set.sub
  refine wpAny_call (codeAny_of_tree ?_)
  show wpAny _ _ (callAny (.type "set") _) _ _ _
  refine wpAny_pure ⟨Code.quiet_builtin _ (by decide +kernel), codeAny_builtin PySem.F.entry_type_call ?_⟩
  rw [Around.under_plain (weight_type_call_type "set" [.ref l] []) rfl]
  have n1 := PySem.F.called_set.notType
  have n2 := PySem.F.called_set.canCreate
  have n3 := PySem.F.typeCall_set_1 (.ref l)
  repeat (any_goals (first | assumption | wp_step))
  refine codeAny_mono (code_set_led1 (.ref l) (E := E) (Q₁ := fun obj s1 => obj = .ref s.heap.objs.size ∧ s1 = { s with heap := s.heap.push (newSetO w) }) ⟨rfl, rfl⟩) fun r s1 hr => ?_
  cases r with
  | error e => exact hr
  | ok fl =>
    cases fl with
    | ret obj =>
      obtain ⟨rfl, rfl⟩ := hr
      have hS : (s.heap.push (newSetO w)).get? s.heap.objs.size = some (newSetO w) := Heap.get?_push_size _ rfl
      have hT : Shared.TypeIs { s with heap := s.heap.push (newSetO w) } (.ref s.heap.objs.size) "set" := ⟨_, hS, rfl⟩
      have i1 := PySem.F.called_set.init.lookup
      have i2 := PySem.F.called_set.init.bind (.ref s.heap.objs.size)
      repeat (any_goals (first | assumption | wp_step))
      refine codeAny_mono (codeAny_call_builtin (R := wants (fun r s2 => r = .none ∧ ∃ h' tk, s2 = { s with heap := h', toks := tk } ∧ G items.size h' ∧ (∀ b o, s.heap.get? b = some o → h'.get? b = some o)) E) PySem.F.called_set.init.plain PySem.F.entry_set_init (check_set_init_1 hT ?_)) fun r2 s2 hr2 => ?_
      · obtain ⟨ol, hol, hcl, nl, hdl⟩ := src
        obtain ⟨ocls, odict, odata, oslots⟩ := ol
        simp only at hcl hdl
        subst hcl; subst hdl
        have hol1 : (s.heap.push (newSetO w)).get? l = some { cls := .type "list", dict := odict, data := .seq items nl, slots := oslots } := Heap.get?_push_of_some _ hol
        have u1 := PySem.F.sub_list_set
        have u2 := PySem.F.sub_list_frozenset
        have u3 : (Value.type "list" == Value.type "dict") = false := by decide
        have at1 : (s.heap.push (newSetO w)).IsList l items := ⟨_, hol1, rfl, nl, rfl⟩
        unfold Builtin.«set.__init__» noKeywords Builtin.Frozenset.updateFrom
        generalize hPI : pyIter = PI
        wp_walk
        subst hPI
        refine wpAny_pyIter_list at1 (wpAny_bind (wpAny_runValue ?_))
        have lt0 : l < s.heap.objs.size := Heap.lt_size hol
        have sz0 : (s.heap.push (newSetO w)).objs.size = s.heap.objs.size + 1 := Heap.size_push ..
        have calm3 : A.in1.in1.in1.handled = none := by simp [calm]
        have apart : l ≠ (s.heap.push (newSetO w)).objs.size := by rw [sz0]; exact Nat.ne_of_lt (Nat.lt_succ_of_lt lt0)
        refine set_loop (A := A) (items := items) ((Walks.list calm3 _ l apart items).toS) s.heap.objs.size
          (by rw [sz0]; simp only [List.mem_cons, List.not_mem_nil, or_false, not_or]; exact ⟨Nat.ne_of_lt (Nat.lt_succ_self _), Nat.ne_of_gt lt0⟩)
          (fun b hb => by rw [List.mem_singleton.mp hb, sz0]; exact Nat.lt_succ_self _) G gk gs (fun _ _ e => e) (by show A.units + 1 + 1 + 1 ≤ A.units + 5; omega) rfl (items.size - 0) 0 _ rfl (Nat.zero_le _) ⟨⟨_, Heap.get?_push_size _ rfl, rfl, rfl⟩, at1.push _⟩ ?gz ?gfin
        case gz => exact g0 _ (Heap.get?_push_of_some _ hS) fun b o e => Heap.get?_push_of_some _ (Heap.get?_push_of_some _ e)
        case gfin =>
          intro s' hm hG
          obtain ⟨h', gn', dr', tk', os'⟩ := s'
          have e1 : gn' = s.gens := hm.gens
          have e2 : dr' = s.drawn := hm.drawn
          have e3 : os' = s.os := hm.os
          subst e1 e2 e3
          show wpAny _ _ _ _ _ _
          refine wpAny_pure ?_
          show wpAny _ _ (ret Value.none) _ _ _
          refine wpAny_pure ⟨rfl, h', tk', rfl, hG, fun b o e => ?_⟩
          have lt1 : b < s.heap.objs.size := Heap.lt_size e
          refine hm.heap b o ?_ (Heap.get?_push_of_some _ (Heap.get?_push_of_some _ e))
          rw [sz0]
          simp only [List.mem_cons, List.not_mem_nil, or_false, not_or]
          exact ⟨Nat.ne_of_lt lt1, Nat.ne_of_lt (Nat.lt_succ_of_lt lt1)⟩
      · cases r2 with
        | error e => exact hr2
        | ok fl2 =>
          cases fl2 with
          | ret r =>
            obtain ⟨rfl, h', tk, rfl, hG, hk⟩ := hr2
            repeat (any_goals (first | assumption | wp_step))
            exact hQ _ _ hG hk
          | _ => exact hr2.elim
    | _ => exact hr.elim
theorem set_of_tuple {l : Addr} {items : Array Value} {Q : Value → Shared → Prop} (G : Nat → Heap → Prop) (calm : A.handled = none) (src : s.heap.IsTuple l items)
    (g0 : ∀ h', h'.get? s.heap.objs.size = some (newSetO w) → (∀ b o, s.heap.get? b = some o → h'.get? b = some o) → G 0 h')
    (gk : ∀ i h1 h2, (∀ b o, b ≤ s.heap.objs.size → h1.get? b = some o → h2.get? b = some o) → G i h1 → G i h2)
    (gs : Adds P w A s.heap.objs.size items G)
    (hQ : ∀ (h' : Heap) (tk : Nat), G items.size h' → (∀ b o, s.heap.get? b = some o → h'.get? b = some o) → Q (.ref s.heap.objs.size) { s with heap := h', toks := tk }) :
    wpAny (model P w) A (PySem.call (.type "set") [.ref l]) Q E s := by
  obtain ⟨c, tl, hmro⟩ := PySem.F.called_set.mro
  have hmade := PySem.F.called_set.made
  have hsub := PySem.F.called_set.sub
  refine wpAny_call (codeAny_of_tree ?_)
  show wpAny _ _ (callAny (.type "set") _) _ _ _
  refine wpAny_pure ⟨Code.quiet_builtin _ (by decide +kernel), codeAny_builtin PySem.F.entry_type_call ?_⟩
  rw [Around.under_plain (weight_type_call_type "set" [.ref l] []) rfl]
  have n1 := PySem.F.called_set.notType
  have n2 := PySem.F.called_set.canCreate
  have n3 := PySem.F.typeCall_set_1 (.ref l)
  repeat (any_goals (first | assumption | wp_step))
  refine codeAny_mono (code_set_led1 (.ref l) (E := E) (Q₁ := fun obj s1 => obj = .ref s.heap.objs.size ∧ s1 = { s with heap := s.heap.push (newSetO w) }) ⟨rfl, rfl⟩) fun r s1 hr => ?_
  cases r with
  | error e => exact hr
  | ok fl =>
    cases fl with
    | ret obj =>
      obtain ⟨rfl, rfl⟩ := hr
      have hS : (s.heap.push (newSetO w)).get? s.heap.objs.size = some (newSetO w) := Heap.get?_push_size _ rfl
      have hT : Shared.TypeIs { s with heap := s.heap.push (newSetO w) } (.ref s.heap.objs.size) "set" := ⟨_, hS, rfl⟩
      have i1 := PySem.F.called_set.init.lookup
      have i2 := PySem.F.called_set.init.bind (.ref s.heap.objs.size)
      repeat (any_goals (first | assumption | wp_step))
      refine codeAny_mono (codeAny_call_builtin (R := wants (fun r s2 => r = .none ∧ ∃ h' tk, s2 = { s with heap := h', toks := tk } ∧ G items.size h' ∧ (∀ b o, s.heap.get? b = some o → h'.get? b = some o)) E) PySem.F.called_set.init.plain PySem.F.entry_set_init (check_set_init_1 hT ?_)) fun r2 s2 hr2 => ?_
      · obtain ⟨ol, hol, hcl, nl, hdl⟩ := src
        obtain ⟨ocls, odict, odata, oslots⟩ := ol
        simp only at hcl hdl
        subst hcl; subst hdl
        have hol1 : (s.heap.push (newSetO w)).get? l = some { cls := .type "tuple", dict := odict, data := .seq items nl, slots := oslots } := Heap.get?_push_of_some _ hol
        have u1 := PySem.F.sub_tuple_set
        have u2 := PySem.F.sub_tuple_frozenset
        have u3 : (Value.type "tuple" == Value.type "dict") = false := by decide
        have at1 : (s.heap.push (newSetO w)).IsTuple l items := ⟨_, hol1, rfl, nl, rfl⟩
        unfold Builtin.«set.__init__» noKeywords Builtin.Frozenset.updateFrom
        generalize hPI : pyIter = PI
        wp_walk
        subst hPI
        refine wpAny_pyIter_tuple at1 (wpAny_bind (wpAny_runValue ?_))
        have lt0 : l < s.heap.objs.size := Heap.lt_size hol
        have sz0 : (s.heap.push (newSetO w)).objs.size = s.heap.objs.size + 1 := Heap.size_push ..
        have calm3 : A.in1.in1.in1.handled = none := by simp [calm]
        have apart : l ≠ (s.heap.push (newSetO w)).objs.size := by rw [sz0]; exact Nat.ne_of_lt (Nat.lt_succ_of_lt lt0)
        refine set_loop (A := A) (items := items) ((Walks.tuple calm3 _ l apart items).toS) s.heap.objs.size
          (by rw [sz0]; simp only [List.mem_cons, List.not_mem_nil, or_false, not_or]; exact ⟨Nat.ne_of_lt (Nat.lt_succ_self _), Nat.ne_of_gt lt0⟩)
          (fun b hb => by rw [List.mem_singleton.mp hb, sz0]; exact Nat.lt_succ_self _) G gk gs (fun _ _ e => e) (by show A.units + 1 + 1 + 1 ≤ A.units + 5; omega) rfl (items.size - 0) 0 _ rfl (Nat.zero_le _) ⟨⟨_, Heap.get?_push_size _ rfl, rfl, rfl⟩, at1.push _⟩ ?gz ?gfin
        case gz => exact g0 _ (Heap.get?_push_of_some _ hS) fun b o e => Heap.get?_push_of_some _ (Heap.get?_push_of_some _ e)
        case gfin =>
          intro s' hm hG
          obtain ⟨h', gn', dr', tk', os'⟩ := s'
          have e1 : gn' = s.gens := hm.gens
          have e2 : dr' = s.drawn := hm.drawn
          have e3 : os' = s.os := hm.os
          subst e1 e2 e3
          show wpAny _ _ _ _ _ _
          refine wpAny_pure ?_
          show wpAny _ _ (ret Value.none) _ _ _
          refine wpAny_pure ⟨rfl, h', tk', rfl, hG, fun b o e => ?_⟩
          have lt1 : b < s.heap.objs.size := Heap.lt_size e
          refine hm.heap b o ?_ (Heap.get?_push_of_some _ (Heap.get?_push_of_some _ e))
          rw [sz0]
          simp only [List.mem_cons, List.not_mem_nil, or_false, not_or]
          exact ⟨Nat.ne_of_lt lt1, Nat.ne_of_lt (Nat.lt_succ_of_lt lt1)⟩
      · cases r2 with
        | error e => exact hr2
        | ok fl2 =>
          cases fl2 with
          | ret r =>
            obtain ⟨rfl, h', tk, rfl, hG, hk⟩ := hr2
            repeat (any_goals (first | assumption | wp_step))
            exact hQ _ _ hG hk
          | _ => exact hr2.elim
    | _ => exact hr.elim
end
end Ev
end

section
/-! EvOrd: the order by which data are sorted. Plain Lean. -/
set_option autoImplicit false
set_option linter.all false
namespace Ev
theorem ltStr_irrefl : ∀ s : List Nat, ltStr s s = false
  | [] => rfl
  | a :: s => by rw [ltStr, if_pos rfl, ltStr_irrefl s]
theorem ltStr_trans : ∀ {s t u : List Nat}, ltStr s t = true → ltStr t u = true → ltStr s u = true
  | [], [], _, h, _ => by simp [ltStr] at h
  | [], _ :: _, [], _, h => by simp [ltStr] at h
  | [], _ :: _, _ :: _, _, _ => by simp [ltStr]
  | _ :: _, [], _, h, _ => by simp [ltStr] at h
  | _ :: _, _ :: _, [], _, h => by simp [ltStr] at h
  | a :: s, b :: t, c :: u, h1, h2 => by
    rw [ltStr] at h1 h2 ⊢
    split at h1
    · split at h2
      · rw [if_pos (by omega)]; exact ltStr_trans h1 h2
      · rw [if_neg (by omega)]; simp at h2 ⊢; omega
    · split at h2
      · rw [if_neg (by simp at h1; omega)]; simp at h1 ⊢; omega
      · simp at h1 h2
        rw [if_neg (by omega)]; simp; omega
theorem ltStr_tri : ∀ {s t : List Nat}, ltStr s t = false → ltStr t s = false → s = t
  | [], [], _, _ => rfl
  | [], _ :: _, h, _ => by simp [ltStr] at h
  | _ :: _, [], _, h => by simp [ltStr] at h
  | a :: s, b :: t, h1, h2 => by
    rw [ltStr] at h1 h2
    by_cases e : a = b
    · subst e
      rw [if_pos rfl] at h1 h2
      rw [ltStr_tri h1 h2]
    · rw [if_neg e] at h1
      rw [if_neg (Ne.symm e)] at h2
      simp at h1 h2
      omega
theorem ltStr_asymm {s t : List Nat} (h : ltStr s t = true) : ltStr t s = false := by
  cases e : ltStr t s with
  | false => rfl
  | true => have := ltStr_trans h e; rw [ltStr_irrefl] at this; cases this
theorem ltTok_asymm {a b : Int ⊕ List Nat} (h : ltTok a b = true) : ltTok b a = false := by
  cases a <;> cases b
  · simp [ltTok] at h ⊢; omega
  · rfl
  · simp [ltTok] at h
  · exact ltStr_asymm h
theorem ltTok_tri {a b : Int ⊕ List Nat} (h1 : ltTok a b = false) (h2 : ltTok b a = false) : a = b := by
  cases a <;> cases b
  · simp [ltTok] at h1 h2; congr 1; omega
  · simp [ltTok] at h1
  · simp [ltTok] at h2
  · exact congrArg Sum.inr (ltStr_tri h1 h2)
theorem ltTok_trans {a b c : Int ⊕ List Nat} (h1 : ltTok a b = true) (h2 : ltTok b c = true) : ltTok a c = true := by
  cases a <;> cases b <;> cases c <;> simp_all [ltTok]
  · omega
  · exact ltStr_trans h1 h2
theorem ltToks_irrefl : ∀ a : List (Int ⊕ List Nat), ltToks a a = false
  | [] => rfl
  | x :: r => by
    have h : ltTok x x = false := by
      cases e : ltTok x x with
      | false => rfl
      | true => have := ltTok_asymm e; rw [e] at this; cases this
    rw [ltToks, h, ltToks_irrefl r]
    rfl
theorem ltToks_trans : ∀ {a b c : List (Int ⊕ List Nat)}, ltToks a b = true → ltToks b c = true → ltToks a c = true
  | [], [], _, h, _ => by simp [ltToks] at h
  | [], _ :: _, [], _, h => by simp [ltToks] at h
  | [], _ :: _, _ :: _, _, _ => by simp [ltToks]
  | _ :: _, [], _, h, _ => by simp [ltToks] at h
  | _ :: _, _ :: _, [], _, h => by simp [ltToks] at h
  | x :: a, y :: b, z :: c, h1, h2 => by
    rw [ltToks, Bool.or_eq_true, Bool.and_eq_true, Bool.not_eq_true'] at h1 h2 ⊢
    rcases h1 with h1 | ⟨h1, h3⟩
    · rcases h2 with h2 | ⟨h2, h4⟩
      · exact .inl (ltTok_trans h1 h2)
      · cases e : ltTok y z with
        | true => exact .inl (ltTok_trans h1 e)
        | false => rw [← ltTok_tri e h2]; exact .inl h1
    · cases e1 : ltTok x y with
      | true =>
        rcases h2 with h2 | ⟨h2, h4⟩
        · exact .inl (ltTok_trans e1 h2)
        · cases e : ltTok y z with
          | true => exact .inl (ltTok_trans e1 e)
          | false => rw [← ltTok_tri e h2]; exact .inl e1
      | false =>
        have := ltTok_tri e1 h1
        subst this
        rcases h2 with h2 | ⟨h2, h4⟩
        · exact .inl h2
        · exact .inr ⟨h2, ltToks_trans h3 h4⟩
theorem ltToks_asymm {a b : List (Int ⊕ List Nat)} (h : ltToks a b = true) : ltToks b a = false := by
  cases e : ltToks b a with
  | false => rfl
  | true => have := ltToks_trans h e; rw [ltToks_irrefl] at this; cases this
theorem ltToks_tri : ∀ {a b : List (Int ⊕ List Nat)}, ltToks a b = false → ltToks b a = false → a = b
  | [], [], _, _ => rfl
  | [], _ :: _, h, _ => by simp [ltToks] at h
  | _ :: _, [], _, h => by simp [ltToks] at h
  | x :: a, y :: b, h1, h2 => by
    rw [ltToks, Bool.or_eq_false_iff, Bool.and_eq_false_iff] at h1 h2
    have e := ltTok_tri h1.1 h2.1
    subst e
    have q1 : ltToks a b = false := by
      rcases h1.2 with q | q
      · rw [h1.1] at q; cases q
      · exact q
    have q2 : ltToks b a = false := by
      rcases h2.2 with q | q
      · rw [h2.1] at q; cases q
      · exact q
    rw [ltToks_tri q1 q2]
/-- the order of sorting -/
def leD (a b : D) : Bool := !ltToks b.toks a.toks
theorem leD_trans (a b c : D) (h1 : leD a b = true) (h2 : leD b c = true) : leD a c = true := by
  unfold leD at *
  simp only [Bool.not_eq_true'] at *
  cases e : ltToks c.toks a.toks with
  | false => rfl
  | true =>
    cases e2 : ltToks a.toks b.toks with
    | true => have := ltToks_trans e e2; rw [h2] at this; cases this
    | false =>
      have := ltToks_tri e2 h1
      rw [this, h2] at e
      cases e
theorem leD_total (a b : D) : (leD a b || leD b a) = true := by
  unfold leD
  cases e : ltToks b.toks a.toks with
  | false => rfl
  | true => rw [ltToks_asymm e]; rfl
theorem sortD_sorted (xs : List D) : (sortD xs).Pairwise fun a b => leD a b = true := List.pairwise_mergeSort leD_trans leD_total xs
theorem sortD_perm_self (xs : List D) : (sortD xs).Perm xs := List.mergeSort_perm _ _
/-- what is in order already stays -/
theorem sortD_of_sorted {xs : List D} (h : xs.Pairwise fun a b => leD a b = true) : sortD xs = xs := List.mergeSort_of_pairwise h
end Ev
end

section
/-! EvSet2: sorted(set(..)), len(set(..)) of ints and texts. -/
set_option autoImplicit false
set_option linter.all false
set_option Elab.async false
set_option maxRecDepth 100000
set_option maxHeartbeats 4000000
namespace Ev
open PySem PySem.Spec L2 PyProof.Rows PySem.W PySem.SeqAt

/-! ### the order of keys -/
def tokK : Key → Int ⊕ List Nat
  | .inl i => .inl i
  | .inr s => .inr s.cps.toList
theorem tokK_inj {a b : Key} (h : tokK a = tokK b) : a = b := by
  cases a <;> cases b
  · cases h; rfl
  · cases h
  · cases h
  · rename_i s t
    have h : s.cps.toList = t.cps.toList := by injection h
    obtain ⟨⟨s⟩⟩ := s
    obtain ⟨⟨t⟩⟩ := t
    simp at h
    rw [h]
def leK (a b : Key) : Bool := !ltTok (tokK b) (tokK a)
theorem leK_trans (a b c : Key) (h1 : leK a b = true) (h2 : leK b c = true) : leK a c = true := by
  unfold leK at *
  simp only [Bool.not_eq_true'] at *
  cases e : ltTok (tokK c) (tokK a) with
  | false => rfl
  | true =>
    cases e2 : ltTok (tokK a) (tokK b) with
    | true => have := ltTok_trans e e2; rw [h2] at this; cases this
    | false =>
      have := ltTok_tri e2 h1
      rw [this, h2] at e
      cases e
theorem leK_total (a b : Key) : (leK a b || leK b a) = true := by
  unfold leK
  cases e : ltTok (tokK b) (tokK a) with
  | false => rfl
  | true => rw [ltTok_asymm e]; rfl
theorem leK_anti {a b : Key} (h1 : leK a b = true) (h2 : leK b a = true) : a = b := by
  unfold leK at *
  simp only [Bool.not_eq_true'] at *
  exact tokK_inj (ltTok_tri h2 h1)
theorem toks_key (k : Key) : (keyD k).toks = [tokK k] := by
  cases k <;> rfl
theorem sortD_keys (ks : List Key) : sortD (ks.map keyD) = (ks.mergeSort leK).map keyD := by
  unfold sortD
  rw [List.map_mergeSort]
  intro a _ b _
  rw [toks_key, toks_key]
  unfold leK ltToks
  cases e : ltTok (tokK b) (tokK a) with
  | true => rfl
  | false => simp [ltToks]
/-- the order in which keys come does not matter -/
theorem sortD_perm {us ks : List Key} (p : us.Perm ks) : sortD (us.map keyD) = sortD (ks.map keyD) := by
  rw [sortD_keys, sortD_keys]
  congr 1
  refine List.Perm.eq_of_pairwise (le := fun a b => leK a b = true) (fun a b _ _ h1 h2 => leK_anti h1 h2) (List.pairwise_mergeSort leK_trans leK_total _) (List.pairwise_mergeSort leK_trans leK_total _) ?_
  exact (List.mergeSort_perm _ _).trans (p.trans (List.mergeSort_perm _ _).symm)
theorem sortable_sub {xs ys : List D} (h : ∀ y ∈ ys, y ∈ xs) (s : sortable xs = true) : sortable ys = true := by
  unfold sortable at *
  rw [Bool.and_eq_true, Bool.or_eq_true] at *
  obtain ⟨s1, s2⟩ := s
  refine ⟨List.all_eq_true.mpr fun y hy => List.all_eq_true.mp s1 y (h y hy), ?_⟩
  rcases s2 with s2 | s2
  · refine .inl (List.all_eq_true.mpr fun y hy => ?_)
    have q := List.all_eq_true.mp s2 y (h y hy)
    cases y with
    | tup r =>
      cases r with
      | nil => exact q
      | cons a r => exact List.all_eq_true.mpr fun z hz => List.all_eq_true.mp q z (h z hz)
    | _ => exact q
  · refine .inr (List.all_eq_true.mpr fun y hy => ?_)
    have q := List.all_eq_true.mp s2 y (h y hy)
    rw [Bool.and_eq_true] at q ⊢
    exact ⟨q.1, List.all_eq_true.mpr fun z hz => List.all_eq_true.mp q.2 z (h z hz)⟩
theorem once_sub : ∀ {ks acc : List Key} {k : Key}, k ∈ ks.foldl addK acc → k ∈ acc ∨ k ∈ ks
  | [], _, _, h => .inl h
  | x :: ks, acc, k, h => by
    rcases once_sub (ks := ks) h with h | h
    · unfold addK at h
      split at h
      · exact .inl h
      · rcases List.mem_append.mp h with h | h
        · exact .inl h
        · rw [List.mem_singleton] at h
          exact .inr (by rw [h]; exact List.mem_cons_self ..)
    · exact .inr (List.mem_cons_of_mem _ h)
theorem once_len : ∀ (ks acc : List Key), (ks.foldl addK acc).length ≤ acc.length + ks.length
  | [], acc => Nat.le_refl _
  | x :: ks, acc => by
    have h := once_len ks (addK acc x)
    have : (addK acc x).length ≤ acc.length + 1 := by
      unfold addK
      split
      · exact Nat.le_succ _
      · rw [List.length_append]; exact Nat.le_refl _
    rw [List.foldl_cons, List.length_cons]
    omega
/-! ### the set made, sorted, counted -/
section
variable {P : Program} {w : World} {A : Around} {s : Shared}
theorem key_scans {k : Key} {v : Value} (h : keyIs k v = true) : v.scannable = true := by
  rcases keyIs_shape h with ⟨_, _, _, rfl⟩ | ⟨_, _, _, rfl⟩ <;> rfl
theorem adds_keys {S : Addr} {ks : List Key} {items : Array Value} (hv : ∀ (i : Nat) (v : Value), items[i]? = some v → ∃ k : Key, ks[i]? = some k ∧ keyIs k v = true) (room : ks.length + 1 < scanBound) : Adds P w A S items fun i h => SetM P w h S (onceK (ks.take i)) := by
  intro i v s1 A1 E1 Q1 hi g _ _ hQ
  obtain ⟨k, hk, kv⟩ := hv i v hi
  have hl := once_len (ks.take i) []
  rw [List.length_nil, Nat.zero_add] at hl
  have hl2 : (ks.take i).length ≤ ks.length := by rw [List.length_take]; exact Nat.min_le_right _ _
  unfold setAdd
  refine wpAny_holding (wpAny_bind ((mixKind P w).pyHash (k := k) kv ?_))
  refine setM_add (s := { s1 with toks := s1.toks + 1 }) kv (key_scans kv) g (Nat.lt_of_le_of_lt (Nat.succ_le_succ (Nat.le_trans hl hl2)) room) fun h' b sb g2 => hQ h' (s1.toks + 1) b (Nat.le_succ _) sb ?_
  show SetM P w h' S (onceK (ks.take (i + 1)))
  rw [List.take_add_one, hk]
  unfold onceK
  rw [Option.toList_some, List.foldl_append]
  exact g2
theorem setM_new {h : Heap} {a : Addr} (e : h.get? a = some (newSetO w)) : SetM P w h a [] :=
  ⟨_, #[], 0, _, e, ⟨rfl, rfl, rfl⟩, rfl, ⟨[], List.Perm.refl _, .nil⟩, List.nodup_nil, by decide, by rfl, List.Pairwise.nil, by
    show _ ∨ (!w.params.followText "set-order") = true
    cases w.params.followText "set-order"
    · exact .inr rfl
    · exact .inl rfl⟩
def SetKO (P : Program) (w : World) (a : Addr) (ks : List Key) : HO := .ext fun h => SetM P w h a ks
theorem setKO_ok {H : Hp} {h : Heap} {a : Addr} {ks : List Key} (m : SetM P w h a ks) : ObjOk P w H h a (SetKO P w a ks) := by
  have ⟨o, _, _, _, ho, _⟩ := m
  exact ⟨m, ⟨o, ho⟩, fun h1 h2 p k => SetM.keep p k⟩
theorem vals_keys (P : Program) (w : World) : ∀ {ks : List Key} {us : List Value}, Vals (ks.map kV) us → ∀ (i : Nat) (v : Value), us[i]? = some v → ∃ k, ks[i]? = some k ∧ keyIs k v = true
  | [], _, h, i, v, e => by cases h; simp at e
  | k :: ks, _, h, i, v, e => by
    cases h with
    | cons h1 h2 =>
      cases i with
      | zero =>
        have e : _ = v := Option.some.inj e
        subst e
        exact ⟨k, rfl, kV_is (P := P) (w := w) h1⟩
      | succ i => exact vals_keys P w h2 i v e
end
section
variable {X : Cx} {k : Nat}
def CSet (X : Cx) : List V → Hp → VK → Prop := fun us H Q => ∃ (l : Addr) (ks : List Key), us = [.ref l] ∧ (SqL X.K H l (ks.map kV) ∨ SqT X.K H l (ks.map kV)) ∧ ks.length + 1 < scanBound ∧ ∀ p, H p = none → Q (.ref p) (upd H p (SetKO X.prog X.w p (onceK ks)))
theorem bl_set (hc : X.calm = true) : CallR X (.type "set") (CSet X) := by
  intro pins s σ H us vs Q I rv q
  obtain ⟨l, ks, rfl, hq, room, q⟩ := q
  obtain ⟨u, rfl, ru⟩ := vals1 rv
  cases ru
  have fin : ∀ its : List Value, Vals (ks.map kV) its → ∀ (h' : Heap) (tk : Nat), SetM X.prog X.w h' s.heap.objs.size (onceK (ks.take its.toArray.size)) → (∀ b o, s.heap.get? b = some o → h'.get? b = some o) → EP X pins σ Q (.ref s.heap.objs.size) { s with heap := h', toks := tk } := by
    intro its rw' h' tk m keep
    have hl : its.toArray.size = ks.length := by rw [List.size_toArray, ← rw'.length, List.length_map]
    rw [hl, List.take_length] at m
    exact ⟨.ref _, upd H s.heap.objs.size (SetKO X.prog X.w s.heap.objs.size (onceK ks)), I.laid (t' := tk) keep (Nat.le_refl _) (setKO_ok m), rfl, q _ (I.hok.fresh (Nat.le_refl _))⟩
  have keeps : ∀ i h1 h2, (∀ b o, b ≤ s.heap.objs.size → h1.get? b = some o → h2.get? b = some o) → SetM X.prog X.w h1 s.heap.objs.size (onceK (ks.take i)) → SetM X.prog X.w h2 s.heap.objs.size (onceK (ks.take i)) :=
    fun i h1 h2 hk m => m.keep fun o e => hk _ o (Nat.le_refl _) e
  rcases hq with hq | hq
  · obtain ⟨its, rw', hl, _⟩ := I.list hq
    refine set_of_list (fun i h => SetM X.prog X.w h s.heap.objs.size (onceK (ks.take i))) (I.ok.hd hc) hl.isList (fun h' e _ => setM_new e) keeps (adds_keys (fun i v e => vals_keys X.prog X.w rw' i v (by rw [← e]; simp)) room) (fin its rw')
  · obtain ⟨its, rw', hl, _⟩ := I.tuple hq
    refine set_of_tuple (fun i h => SetM X.prog X.w h s.heap.objs.size (onceK (ks.take i))) (I.ok.hd hc) hl (fun h' e _ => setM_new e) keeps (adds_keys (fun i v e => vals_keys X.prog X.w rw' i v (by rw [← e]; simp)) room) (fin its rw')
theorem repDs_keys {K : PySem.W.Frag} {z m : List Addr} {H : Hp} : ∀ ks : List Key, RepDs K z m H (ks.map keyD) (ks.map kV)
  | [] => by rw [List.map_nil, List.map_nil, RepDs]
  | k :: ks => by
    rw [List.map_cons, List.map_cons, RepDs]
    refine ⟨_, _, rfl, ?_, repDs_keys ks⟩
    cases k with
    | inl i => simp only [keyD, kV, RepD]
    | inr t => simp only [keyD, kV, RepD]
theorem vals_of_each {P : Program} {w : World} : ∀ {out : List Value} {us : List Key}, EachIs (fun v k => keyIs k v = true) out us → Vals (us.map kV) out
  | _, _, .nil => .nil
  | _, _, .cons h t => .cons (by
      rcases keyIs_shape h with ⟨_, t, rfl, rfl⟩ | ⟨_, t, rfl, rfl⟩
      · exact ⟨t, rfl⟩
      · exact ⟨t, rfl⟩) (vals_of_each (P := P) (w := w) t)
theorem Inv.same {pins : List (Addr × Obj)} {σ : L2.St} {H : Hp} {s s1 : Shared} (I : Inv X pins σ H s) (keep : ∀ b o, s.heap.get? b = some o → s1.heap.get? b = some o) (g : s1.gens = s.gens) (o : s1.os = s.os) : Inv X pins σ H s1 := by
  have J : Inv X pins σ H { s with heap := s1.heap, gens := s1.gens, drawn := s1.drawn, toks := s1.toks } :=
    I.call (ch := []) (Un.kept keep) (I.hok.kept keep) (by rw [g]; exact I.bare) (fun _ z => nomatch z)
  have e : s1 = { s with heap := s1.heap, gens := s1.gens, drawn := s1.drawn, toks := s1.toks } := by
    cases s1
    cases s
    cases o
    rfl
  rw [e]
  exact J
def CSorted (X : Cx) : List V → Hp → VK → Prop := fun us H Q => ∃ (a : Addr) (ks : List Key) (z m : List Addr) (h : Hh), us = [.ref a] ∧ H a = some (SetKO X.prog X.w a ks) ∧ RelH X.K z m H h ∧ sortable (ks.map keyD) = true ∧ Post X.K z m H Q (.d (.list (sortD (ks.map keyD)))) h
theorem bl_sortedSet (hc : X.calm = true) (hr : Room k X.A) : CallR X (.builtin "sorted") (CSorted X) := by
  intro pins s σ H us vs Q I rv q
  obtain ⟨a, ks, z, m, h, rfl, ha, rh, hs, p⟩ := q
  obtain ⟨u, rfl, ru⟩ := vals1 rv
  cases ru
  have M : SetM X.prog X.w s.heap a ks := (I.hok a _ ha).1
  obtain ⟨ob, es, ep, tb, hob, hexact, hdata, rows, nodup, bound, fit, ris, led⟩ := M
  have size0 : es.size = ks.length := by rw [← Array.length_toList]; exact rows.len
  refine call_function_entry_kw (kw := []) kind_sorted plain_sorted entry_sorted (args_sorted1 _) ?_
  unfold Builtin.«sorted»
  refine wpAny_bind (m := checkCount "sorted" 1 1 _) (wpAny_pure ?_)
  refine wpAny_bind (collect_set (A := X.A.in1) (I.ok.hd hc) ⟨ob, hob, hexact.1, hdata⟩ fit (by rw [size0]; exact bound) ris led fun s1 out k1 sz g1 o1 pm => ?_)
  obtain ⟨ks', q1, r⟩ := rows
  have r2 : ∀ {es : List (Int × Value)} {ks : List Key}, EachIs (RowK X.prog X.w) es ks → EachIs (fun v k => keyIs k v = true) (es.map (·.2)) ks := by
    intro es ks h
    induction h with
    | nil => exact .nil
    | cons h1 _ ih => exact .cons h1.1 ih
  obtain ⟨us, q2, r3⟩ := each_perm pm (r2 r)
  have pk := q2.trans q1
  have vals := vals_of_each (P := X.prog) (w := X.w) r3
  have I1 : Inv X pins σ H s1 := Inv.same I k1 g1 o1
  obtain ⟨S, hL, fin⟩ := sort_fin2 (s := s1) hr I1 rh (repDs_keys us) vals (by rw [List.length_map, pk.length_eq]; exact fits_of_scanBound bound)
    (sortable_sub (fun y hy => by
      obtain ⟨k0, hk, rfl⟩ := List.mem_map.mp hy
      exact List.mem_map.mpr ⟨k0, pk.mem_iff.mp hk, rfl⟩) hs) (by rw [sortD_perm pk]; exact p)
  refine wpAny_bind (wpAny_newList ?_ hL)
  show wpAny _ _ _ _ _ { s1 with heap := s1.heap.push (seqObj "list" out.toArray 0) }
  refine wpAny_bind (wpAny_holding (wpAny_call_entry_kw slot_list_sort ⟨_, Heap.get?_push_size _ rfl, rfl⟩ entry_list_sort ?body (args_list_sort _)))
  case body =>
    show wpAny (model X.prog X.w) X.A.in1.in1 (Builtin.«list.sort» ⟨[.ref s1.heap.objs.size], []⟩) _ _ _
    refine wpAny_mono (list_sort_vals (P := fun f s' => f = .done (.ret .none) ∧ EP X pins σ Q (.ref s1.heap.objs.size) s') (s := { s1 with heap := s1.heap.push (seqObj "list" out.toArray 0) }) (Heap.get?_push_size _ rfl) S hL ⟨rfl, fin⟩) (fun f s' hf => ?_) fun _ _ e => e
    obtain ⟨rfl, hq⟩ := hf
    exact ⟨_, rfl, wpAny_pure ⟨_, rfl, hq⟩⟩
def CLenSet (X : Cx) : List V → Hp → VK → Prop := fun us H Q => ∃ (a : Addr) (ks : List Key), us = [.ref a] ∧ H a = some (SetKO X.prog X.w a ks) ∧ Q (.int (ks.length : Nat)) H
theorem bl_lenSet : CallR X (.builtin "len") (CLenSet X) := by
  intro pins s σ H us vs Q I rv q
  obtain ⟨a, ks, rfl, ha, q⟩ := q
  obtain ⟨u, rfl, ru⟩ := vals1 rv
  cases ru
  have M : SetM X.prog X.w s.heap a ks := (I.hok a _ ha).1
  obtain ⟨ob, es, ep, tb, hob, hexact, hdata, rows, nodup, bound, fit, ris, led⟩ := M
  have size0 : es.size = ks.length := by rw [← Array.length_toList]; exact rows.len
  have b4 : scanBound = 4096 := rfl
  exact call_len_set hob hexact hdata fit (by rw [size0]; omega) ⟨.int (ks.length : Nat), H, I.tok _, ⟨_, by rw [size0]⟩, q⟩
theorem eqv_keyD (a b : Key) : D.eqv (keyD a) (keyD b) = decide (a = b) := D.eqv_key a b
theorem add_key (acc : List Key) (k : Key) : addD (acc.map keyD) (keyD k) = (addK acc k).map keyD := by
  have e : ((acc.map keyD).any fun y => D.eqv y (keyD k)) = inK acc k := by
    unfold inK
    rw [List.any_map]
    congr 1
    funext x
    exact eqv_keyD x k
  unfold addD addK
  rw [e]
  split
  · rfl
  · rw [List.map_append]; rfl
theorem once_keys (ks : List Key) : onceD (ks.map keyD) = (onceK ks).map keyD := by
  have gen : ∀ (ks acc : List Key), (ks.map keyD).foldl addD (acc.map keyD) = (ks.foldl addK acc).map keyD := by
    intro ks
    induction ks with
    | nil => intro acc; rfl
    | cons k ks ih =>
      intro acc
      rw [List.map_cons, List.foldl_cons, List.foldl_cons, add_key, ih]
  exact gen ks []
theorem keys_of {K : PySem.W.Frag} {z m : List Addr} {H : Hp} : ∀ {xs : List D} {us : List V}, RepDs K z m H xs us → xs.all isKey = true → ∃ ks : List Key, xs = ks.map keyD ∧ us = ks.map kV
  | [], _, r, _ => by rw [RepDs] at r; exact ⟨[], rfl, r⟩
  | x :: xs, _, r, h => by
    rw [RepDs] at r
    obtain ⟨u, us, rfl, r1, r2⟩ := r
    rw [List.all_cons, Bool.and_eq_true] at h
    obtain ⟨ky, rfl, rfl⟩ := key_of (K := K) (z := z) (m := m) (H := H) (by rw [Rep]; exact r1) h.1
    obtain ⟨ks, rfl, rfl⟩ := keys_of r2 h.2
    exact ⟨ky :: ks, rfl, rfl⟩
theorem keysL_rep {K : PySem.W.Frag} {z m : List Addr} {H : Hp} {h : Hh} {x : PV} {v : V} {xs : List D} (rh : RelH K z m H h) (r : Rep K z m H x v) (e : keysL h x = some xs) :
    ∃ (l : Addr) (ks : List Key), v = .ref l ∧ xs = ks.map keyD ∧ (SqL K H l (ks.map kV) ∨ SqT K H l (ks.map kV)) ∧ ks.length + 1 < scanBound := by
  have b4 : scanBound = 4096 := rfl
  unfold keysL at e
  split at e
  · rename_i ys hd
    split at e
    · rename_i c
      cases e
      rw [Bool.and_eq_true, decide_eq_true_eq] at c
      obtain ⟨l, us, rfl, hs, hz, rd⟩ := deref_list rh r hd
      obtain ⟨ks, rfl, rfl⟩ := keys_of rd c.1
      exact ⟨l, ks, rfl, rfl, .inl hs, by have := c.2; rw [List.length_map] at this; omega⟩
    · cases e
  · rename_i ys hd
    split at e
    · rename_i c
      cases e
      rw [Bool.and_eq_true, decide_eq_true_eq] at c
      obtain ⟨l, us, rfl, hs, hz, rd⟩ := deref_tup rh r hd
      obtain ⟨ks, rfl, rfl⟩ := keys_of rd c.1
      exact ⟨l, ks, rfl, rfl, .inr hs.sq, by have := c.2; rw [List.length_map] at this; omega⟩
    · cases e
  · cases e
end
section
variable {P : TrP} {T : Nat → Option Fn} {C : Nat → Option PV} {XC : Nat → Option Addr} {k : Nat} {N : List Str} {sc : Scope} {X : Cx} {W : WX}
theorem snd_sset (G : Gd P T C XC k N sc X) {a : Expr} {ra : Env → M PV} {p p2 q pos : Pos} (h1 : isGl sc "sorted" = true) (h2 : P.blts.contains "sorted" = true) (h3 : isGl sc "set" = true) (h4 : P.blts.contains "set" = true) (hst : notStar a = true) (ha : PE X a (tE X.K XC W ra)) :
    PE X (.Call (.Name "sorted" p) [.Call (.Name "set" p2) [a] [] q] [] pos) (tE X.K XC W fun env => M.bnd (ra env) fun x => M.lift fun h => ssetOp h x) := by
  have hst : ([a] : List Expr).all notStar = true := by simp [hst]
  obtain ⟨q1, q2⟩ := starEachs (pos := q) (env := X.env) hst
  have inner := pe_callTy (p := p2) (bl_set G.calm) (gl_of G h3) (G.facts.blts _ h4) PyProof.Rows.boot_set (pa_cons ha pa_nil q1) (by decide) (by decide) q1 q2
  refine (pe_callB (bl_sortedSet G.calm G.room) (gl_of G h1) (G.facts.blts _ h2) rfl (pa_cons inner pa_nil rfl) (by decide) (by decide) rfl rfl).to fun σ H Q q => ?_
  obtain ⟨env, h, z, m, rs, rh, out⟩ := q
  refine ⟨env, h, z, m, rs, rh, out.bnd.imp fun x h1 m1 H1 e1 rh1 o1 vx rx => ?_⟩
  obtain ⟨v, ev, qv⟩ := o1.lift
  obtain ⟨xs, ek, ev⟩ := Option.bind_eq_some_iff.mp ev
  split at ev
  · rename_i hs
    cases ev
    obtain ⟨l, ks, rfl, rfl, hq, room⟩ := keysL_rep rh1 rx ek
    refine ⟨l, ks, rfl, hq, room, fun p0 hp => ⟨p0, onceK ks, z, m1, h1, rfl, upd_same, rh1.keepNew hp, ?_, fun m' H' y e' rh' ry => qv m' H' ((Ext.new hp).trans e') rh' y ?_⟩⟩
    · refine sortable_sub (fun y hy => ?_) hs
      obtain ⟨k0, hk, rfl⟩ := List.mem_map.mp hy
      rcases once_sub hk with h | h
      · cases h
      · exact List.mem_map.mpr ⟨k0, h, rfl⟩
    · rw [once_keys]
      exact ry
  · cases ev
theorem snd_lset (G : Gd P T C XC k N sc X) {a : Expr} {ra : Env → M PV} {p p2 q pos : Pos} (h1 : isGl sc "len" = true) (h2 : P.blts.contains "len" = true) (h3 : isGl sc "set" = true) (h4 : P.blts.contains "set" = true) (hst : notStar a = true) (ha : PE X a (tE X.K XC W ra)) :
    PE X (.Call (.Name "len" p) [.Call (.Name "set" p2) [a] [] q] [] pos) (tE X.K XC W fun env => M.bnd (ra env) fun x => M.lift fun h => lsetOp h x) := by
  have hst : ([a] : List Expr).all notStar = true := by simp [hst]
  obtain ⟨q1, q2⟩ := starEachs (pos := q) (env := X.env) hst
  have inner := pe_callTy (p := p2) (bl_set G.calm) (gl_of G h3) (G.facts.blts _ h4) PyProof.Rows.boot_set (pa_cons ha pa_nil q1) (by decide) (by decide) q1 q2
  refine (pe_callB bl_lenSet (gl_of G h1) (G.facts.blts _ h2) rfl (pa_cons inner pa_nil rfl) (by decide) (by decide) rfl rfl).to fun σ H Q q => ?_
  obtain ⟨env, h, z, m, rs, rh, out⟩ := q
  refine ⟨env, h, z, m, rs, rh, out.bnd.imp fun x h1 m1 H1 e1 rh1 o1 vx rx => ?_⟩
  obtain ⟨v, ev, qv⟩ := o1.lift
  obtain ⟨xs, ek, rfl⟩ := Option.map_eq_some_iff.mp ev
  obtain ⟨l, ks, rfl, rfl, hq, room⟩ := keysL_rep rh1 rx ek
  refine ⟨l, ks, rfl, hq, room, fun p0 hp => ⟨p0, onceK ks, rfl, upd_same, qv _ _ (Ext.new hp) (rh1.keepNew hp) _ ?_⟩⟩
  rw [once_keys, List.length_map, Rep, RepD]
theorem setArg_of {es : List Expr} {a : Expr} (h : setArg P sc es = some a) : ∃ p2 q, es = [.Call (.Name "set" p2) [a] [] q] ∧ isGl sc "set" = true ∧ P.blts.contains "set" = true := by
  unfold setArg at h
  split at h
  · rename_i y p2 b q
    split at h
    · rename_i c
      simp only [Bool.and_eq_true] at c
      have e : y = ("set" : Str) := by simpa using c.1.1
      subst e
      cases h
      exact ⟨p2, q, rfl, c.1.2, c.2⟩
    · cases h
  · cases h
end
end Ev
end

section
/-! EvDic: tables of the written part; stores of two items on one line. -/
set_option autoImplicit false
set_option linter.all false
set_option Elab.async false
set_option maxRecDepth 100000
set_option maxHeartbeats 2000000
namespace Ev
open PySem L2 PyProof.Rows
section
variable {P : TrP} {T : Nat → Option Fn} {C : Nat → Option PV} {XC : Nat → Option Addr} {k : Nat} {N : List Str} {sc : Scope} {X : Cx} {W : WX}
theorem find_any (kvs : List (D × D)) (f : D × D → Bool) : (kvs.any f) = (kvs.find? f).isSome := by
  induction kvs with
  | nil => rfl
  | cons p r ih =>
    rw [List.any_cons, List.find?_cons, ih]
    cases f p <;> rfl
theorem kin_at {K : PySem.W.Frag} {a : Addr} {kvs : List (D × D)} (d : DicOk K a kvs) (s : List Nat) : ∃ r, PySem.W.nsIn K a ⟨s.toArray⟩ = some r ∧ r.isSome = kvs.any fun p => D.eqv p.1 (.str s) := by
  rw [find_any]
  cases e : kvs.find? fun p => D.eqv p.1 (.str s) with
  | none => exact ⟨none, (d s).2 e, rfl⟩
  | some p =>
    obtain ⟨u, y, h, _⟩ := (d s).1 p e
    exact ⟨some u, h, rfl⟩
/-- `x in d`, `x not in d` -/
def R2k (K : PySem.W.Frag) (d : Addr) (neg : Bool) : R2 := fun x y H Q => ∃ (z : Str) (r : Option Value), x = .str z ∧ y = .ref d ∧ PySem.W.nsIn K d z = some r ∧ Q (.bl (neg != r.isSome)) H
theorem opr_kin {d : Addr} {es : Array DictEntry} {n : Nat} (D0 : KDict X.K X.w d es n) (neg : Bool) : OpR X (compareOp (if neg then .NotIn else .In)) (R2k X.K d neg) := by
  cases neg with
  | false =>
    intro pins s σ H x y v u Q I rx ry ⟨z, r, h1, h2, h3, q⟩
    exact op_in_kd D0 pins s σ H x y v u Q I rx ry ⟨z, r, h1, h2, h3, by simpa using q⟩
  | true =>
    intro pins s σ H x y v u Q I rx ry ⟨z, r, h1, h2, h3, q⟩
    exact op_notIn_kd D0 pins s σ H x y v u Q I rx ry ⟨z, r, h1, h2, h3, by simpa using q⟩
theorem kinOp_some {neg : Bool} {kvs : List (D × D)} {x v : PV} (h : kinOp neg (some (.dict kvs)) x = some v) : ∃ s, x = .d (.str s) ∧ v = .d (.bool (neg != kvs.any fun p => D.eqv p.1 (.str s))) := by
  unfold kinOp at h
  split at h
  · rename_i kvs' s e
    cases e
    cases h
    exact ⟨s, rfl, rfl⟩
  · cases h
theorem snd_kin (G : Gd P T C XC k N sc X) (neg : Bool) {x : Str} {a : Expr} {ra : Env → M PV} {p1 pos : Pos} (h1 : okN x = true) (h2 : isGl sc x = true) (h3 : P.dics.contains x = true) (ha : PE X a (tE X.K XC W ra)) :
    Both XC X W (.Compare a [if neg then .NotIn else .In] [.Name x p1] pos) fun env => M.bnd (ra env) fun v => M.lift fun _ => kinOp neg (C (code x)) v := by
  obtain ⟨d1, d2, _⟩ := okN_of h1
  obtain ⟨kvs, d, es, n, hC, hm, hk, hd⟩ := G.facts.dics x h3
  have hb : PE X (.Name x p1) (tC (.ref d)) := pe_glob (gl_of G h2) hm rfl d1
  have hs : behindInMarks (if neg then .NotIn else .In) (.Name x p1 : Expr) = false := by cases neg <;> rfl
  rw [hC]
  refine ⟨(pe_cmpR (opr_kin hk neg) ha hb hs).to fun σ H Q q => ?_, (pt_cmpR (opr_kin hk neg) ha hb hs).to fun σ H Q q => ?_⟩
  · obtain ⟨env, h, z, m, rs, rh, out⟩ := q
    refine ⟨env, h, z, m, rs, rh, out.bnd.imp fun x h1 m1 H1 e1 rh1 o1 vx rx => ?_⟩
    obtain ⟨v, e, q⟩ := o1.lift
    obtain ⟨s, rfl, rfl⟩ := kinOp_some e
    rw [Rep, RepD] at rx
    obtain ⟨r, hr, he⟩ := kin_at hd s
    exact ⟨_, r, rx, rfl, hr, q _ _ (Ext.refl _ _) rh1 _ (by rw [Rep, RepD, he])⟩
  · obtain ⟨env, h, z, m, rs, rh, out⟩ := q
    simp only [tst, M.bnd_assoc] at out
    refine ⟨env, h, z, m, rs, rh, out.bnd.imp fun x h1 m1 H1 e1 rh1 o1 vx rx => ?_⟩
    obtain ⟨v, e, q⟩ := o1.bnd.lift
    obtain ⟨s, rfl, rfl⟩ := kinOp_some e
    obtain ⟨c, ec, pc⟩ := (q _ _ (Ext.refl _ _) rh1).lift
    simp only [truthy, D.truthy, Option.some.injEq] at ec
    subst ec
    rw [Rep, RepD] at rx
    obtain ⟨r, hr, he⟩ := kin_at hd s
    refine ⟨_, r, rx, rfl, hr, ⟨_, rfl, ?_⟩⟩
    rw [he]
    exact pc _ _ (Ext.refl _ _) rh1
/-- d[x] -/
theorem snd_kix (G : Gd P T C XC k N sc X) {x : Str} {i : Expr} {ri : Env → M PV} {p1 pos : Pos} (h1 : okN x = true) (h2 : isGl sc x = true) (h3 : P.dics.contains x = true) (hp : plainIx i = true) (hi : PE X i (tE X.K XC W ri)) :
    PE X (.Subscript (.Name x p1) i pos) (tE X.K XC W fun env => M.bnd (ri env) fun v => M.lift fun _ => kixOp (C (code x)) v) := by
  obtain ⟨d1, d2, _⟩ := okN_of h1
  obtain ⟨kvs, d, es, n, hC, hm, hk, hd⟩ := G.facts.dics x h3
  have ha : PE X (.Name x p1) (tC (.ref d)) := pe_glob (gl_of G h2) hm rfl d1
  rw [hC]
  refine (pe_ix ix_kdict ha hi (plainIx_of hp)).to fun σ H Q q => ?_
  obtain ⟨env, h, z, m, rs, rh, out⟩ := q
  refine ⟨env, h, z, m, rs, rh, out.bnd.imp fun v h1 m1 H1 e1 rh1 o1 vv rv => ?_⟩
  obtain ⟨r, e, q⟩ := o1.lift
  unfold kixOp at e
  split at e
  · rename_i kvs' s e2
    cases e2
    obtain ⟨p, hp2, rfl⟩ := Option.map_eq_some_iff.mp e
    rw [Rep, RepD] at rv
    obtain ⟨u, y, q1, q2, q3⟩ := (hd s).1 p hp2
    exact ⟨d, _, y, rfl, rv, ⟨es, n, u, hk.at_, hk.lit, q1, q2⟩, q _ _ (Ext.refl _ _) rh1 _ (by rw [Rep]; exact q3 _ _ _)⟩
  · cases e
end
end Ev
end

section
/-! EvSnd8: what is read off a text comes to what the evaluator says: expressions. -/
set_option autoImplicit false
set_option linter.all false
set_option Elab.async false
set_option maxRecDepth 100000
set_option maxHeartbeats 2000000
namespace Ev
open PySem L2 PyProof.Rows

def plainE : Expr → Bool
  | .Starred .. => false
  | .Set .. => false
  | .Slice .. => false
  | _ => true
section
variable {P : TrP} {N : List Str} {sc : Scope}
theorem trE_plain {k : Nat} {e : Expr} {e' : E} (h : trE P k N sc e = some e') : plainE e = true := by
  cases k with
  | zero => simp [trE] at h
  | succ k => cases e <;> first | rfl | (simp [trE] at h)
theorem plainE_star {e : Expr} (h : plainE e = true) : notStar e = true := by
  cases e <;> first | rfl | (simp [plainE] at h)
theorem plainE_fold {e : Expr} (h : plainE e = true) (env : PySem.Env) (x : Value) : foldedSetIterable e env x = pure x := by
  cases e <;> first | rfl | (simp [plainE] at h)
theorem plainE_mark {e : Expr} (h : plainE e = true) (o : CmpOp) : behindInMarks o e = false := by
  cases e <;> first | rfl | (simp [plainE] at h)
theorem plainE_ix {e : Expr} (h : plainE e = true) : plainIx e = true := by
  cases e <;> first | rfl | (simp [plainE] at h)
theorem trCm_of {o : CmpOp} {o' : Cm} (h : trCm o = some o') : o = cmOp o' := by
  cases o <;> first | (cases h; rfl) | (simp [trCm] at h)
theorem trOp_of {o : Operator} {o' : Op} (h : trOp o = some o') : o = opOf o' := by
  cases o <;> first | (cases h; rfl) | (simp [trOp] at h)
end
theorem one_and {X : Cx} {a : Expr} {t : TE} {pos : Pos} {o : BoolOp} (ha : PE X a t) : PE X (.BoolOp o [a] pos) t := ⟨fun pins s σ H Q I q => ha.run pins s σ H Q I q⟩
theorem last_of {o o' : CmpOp} {b c : Expr} (h : plainE c = true) : lastMarks [o, o'] [b, c] = false := plainE_mark h o'

abbrev Fof (T : Nat → Option Fn) (C : Nat → Option PV) (kk : Nat) : Fns := ⟨call T C kk, C, callT T⟩
section
variable {P : TrP} {T : Nat → Option Fn} {C : Nat → Option PV} {XC : Nat → Option Addr} {kk : Nat} {N : List Str}
theorem tst_lift (f : Hh → Option Bool) : (M.bnd (M.lift f) fun b => if b = true then M.ret true else M.ret false) = M.lift f := by
  funext h
  simp only [M.bnd, M.lift]
  cases f h with
  | none => rfl
  | some b => cases b <;> rfl
theorem ts_one (F : Fns) (c : E) : evTs F (.cons c .nil) = tst (evE F c) := by
  funext env
  show M.bnd (evE F c env) (fun x => M.bnd (M.lift fun h => truthy h x) fun b => if b = true then M.ret true else M.ret false) = _
  unfold tst
  congr 1
  funext x
  exact tst_lift _
theorem own_slot {scope : Scope} {x : Str} {i : Nat} (hi : idx N x = some i) (hl : isLoc scope x = true) : i ∈ (ownOf N scope.names).map (·.2) := by
  have key : ∀ (ns : List (Str × NameKind)), (ns.lookup x = some .local ∨ ns.lookup x = some .cell) → i ∈ (ownOf N ns).map (·.2) := by
    intro ns
    induction ns with
    | nil => intro h; simp at h
    | cons p r ih =>
      obtain ⟨n, k⟩ := p
      intro h
      by_cases e : x = n
      · subst e
        simp only [List.lookup_cons, beq_self_eq_true] at h
        have hk : (k == NameKind.local || k == NameKind.cell) = true := by
          rcases h with h | h <;> (cases h; rfl)
        simp only [ownOf, hk, if_true, hi]
        simp
      · have hb : (x == n) = false := by simpa using e
        simp only [List.lookup_cons, hb] at h
        have q := ih h
        simp only [ownOf]
        split
        · split
          · simp only [List.map_cons, List.mem_cons]
            exact .inr q
          · exact q
        · exact q
  refine key _ ?_
  unfold isLoc at hl
  split at hl
  · exact .inl ‹_›
  · exact .inr ‹_›
  · cases hl
mutual
theorem slots_in {scope : Scope} : ∀ {k : Nat} {e : Expr} {t : Ev.T}, trT k N scope e = some t → ∀ i ∈ t.slots, i ∈ (ownOf N scope.names).map (·.2)
  | 0, _, _, h => by simp [trT] at h
  | k + 1, e, t, h => by
    cases e with
    | Name x pos =>
      simp only [trT] at h
      split at h
      · rename_i hl
        obtain ⟨i, hi, rfl⟩ := Option.map_eq_some_iff.mp h
        intro j hj
        simp only [T.slots, List.mem_singleton] at hj
        subst hj
        exact own_slot hi hl
      · cases h
    | Tuple es a pos =>
      simp only [trT] at h
      obtain ⟨ts, hts, rfl⟩ := Option.map_eq_some_iff.mp h
      intro j hj
      exact slots_ins hts j (by simpa [T.slots] using hj)
    | _ => simp [trT] at h
theorem slots_ins {scope : Scope} : ∀ {k : Nat} {es : List Expr} {ts : Ev.Ts}, trTs k N scope es = some ts → ∀ i ∈ ts.slots, i ∈ (ownOf N scope.names).map (·.2)
  | 0, _, _, h => by simp [trTs] at h
  | k + 1, [], ts, h => by
    simp only [trTs, Option.some.injEq] at h
    subst h
    intro i hi
    simp [Ts.slots] at hi
  | k + 1, e :: es, ts, h => by
    simp only [trTs] at h
    obtain ⟨t, h1, h2⟩ := Option.bind_eq_some_iff.mp h
    obtain ⟨r, h3, rfl⟩ := Option.map_eq_some_iff.mp h2
    intro i hi
    rw [Ts.slots, List.mem_append] at hi
    rcases hi with hi | hi
    · exact slots_in h1 i hi
    · exact slots_ins h3 i hi
end
theorem tgOk_blk {X : Cx} {s : Shared} {H : Hp} {scope : Scope} {C : Addr} {cl : List (Str × Addr)} {fp : List Addr} : TgOk (X.blk s H scope (compEnvC scope cl C X.env) fp) scope := by
  intro x hl
  unfold isLoc at hl
  split at hl
  · rename_i h
    have q : (relS scope X.env.scope).names.lookup x = some .local := lookup_relS_keep (by decide) h
    exact ⟨.inl q, .inr q⟩
  · rename_i h
    have q : (relS scope X.env.scope).names.lookup x = some .cell := lookup_relS_keep (by decide) h
    exact ⟨.inr q, .inl (by show (scope.names.lookup x == some NameKind.cell) = true; rw [h]; rfl)⟩
  · cases hl
theorem Gd.blk {sc : Scope} {X : Cx} (G : Gd P T C XC kk N sc X) (s : Shared) (H : Hp) (scope : Scope) (Cc : Addr) (cl : List (Str × Addr)) (fp : List Addr) : Gd P.noLam T C XC kk N (relS scope sc) (X.blk s H scope (compEnvC scope cl Cc X.env) fp) :=
  ⟨G.facts.noLam, G.hN, by show relS scope X.env.scope = _; rw [G.sc], G.calm, G.room, G.nd, fun e => Bool.noConfusion (show false = true from e)⟩
end
end Ev
end

section
/-! EvSnd9: expressions, all of them. -/
set_option autoImplicit false
set_option linter.all false
set_option Elab.async false
set_option maxRecDepth 100000
set_option maxHeartbeats 4000000
namespace Ev
open PySem L2 PyProof.Rows

theorem nCall_of {e : Expr} (h : nCall e = true) : notCall e = true := by
  cases e <;> first | rfl | (simp [nCall] at h)
theorem dicN_of {P : TrP} {sc : Scope} {e : Expr} {x : Str} (h : dicN P sc e = some x) : ∃ p, e = .Name x p ∧ okN x = true ∧ isGl sc x = true ∧ P.dics.contains x = true := by
  unfold dicN at h
  split at h
  · rename_i y p
    split at h
    · rename_i hc
      cases h
      simp only [Bool.and_eq_true] at hc
      exact ⟨p, rfl, hc.1.1, hc.1.2, hc.2⟩
    · cases h
  · cases h
section
variable {T : Nat → Option Fn} {C : Nat → Option PV} {XC : Nat → Option Addr} {kk : Nat} {N : List Str}
mutual
theorem sE : ∀ {P : TrP} {k : Nat} {X : Cx} {sc : Scope} {W : WX} {e : Expr} {e' : E}, Gd P T C XC kk N sc X → Takes X W → trE P k N sc e = some e' → Both XC X W e (evE (Fof T C kk) e')
  | _, 0, _, _, _, _, _, _, _, h => by simp [trE] at h
  | P, k + 1, X, sc, W, e, e', G, tk, h => by
    cases e with
    | Name x pos =>
      simp only [trE] at h
      split at h
      · rename_i h1
        split at h
        · rename_i h2
          obtain ⟨i, hi, rfl⟩ := Option.map_eq_some_iff.mp h
          exact .plain (snd_var G h1 h2 hi) fun _ => rfl
        · split at h
          · rename_i h3
            simp only [Bool.and_eq_true] at h3
            cases h
            exact .plain (snd_cst G h1 h3.1 h3.2) fun _ => rfl
          · cases h
      · cases h
    | Constant c j pos =>
      simp only [trE] at h
      obtain ⟨d, hd, rfl⟩ := Option.map_eq_some_iff.mp h
      exact .plain (snd_lit hd) fun _ => rfl
    | BinOp a o b pos =>
      simp only [trE] at h
      obtain ⟨o', ho, h⟩ := Option.bind_eq_some_iff.mp h
      obtain ⟨a', ha, h⟩ := Option.bind_eq_some_iff.mp h
      obtain ⟨b', hb, rfl⟩ := Option.map_eq_some_iff.mp h
      obtain rfl := trOp_of ho
      by_cases hq : (isAdd o' && P.boxes.contains (pos.line, pos.col)) = true
      · rw [if_pos hq]
        have ho' : o' = .add := by
          cases o' <;> first | rfl | (simp [isAdd] at hq)
        subst ho'
        exact .plain (snd_badd (sE G tk ha).v (sE G tk hb).v) fun _ => rfl
      · rw [if_neg hq]
        exact .plain (snd_op (sE G tk ha).v (sE G tk hb).v) fun _ => rfl
    | UnaryOp o a pos =>
      cases o with
      | USub =>
        simp only [trE] at h
        obtain ⟨a', ha, rfl⟩ := Option.map_eq_some_iff.mp h
        exact .plain (snd_neg (sE G tk ha).v) fun _ => rfl
      | Not =>
        simp only [trE] at h
        obtain ⟨a', ha, rfl⟩ := Option.map_eq_some_iff.mp h
        exact snd_not (sE G tk ha)
      | _ => simp [trE] at h
    | BoolOp o es pos =>
      simp only [trE] at h
      exact ⟨(sB G tk h).1, (sB G tk h).2.pt⟩
    | IfExp c a b pos =>
      simp only [trE] at h
      obtain ⟨c', hc, h⟩ := Option.bind_eq_some_iff.mp h
      obtain ⟨a', ha, h⟩ := Option.bind_eq_some_iff.mp h
      obtain ⟨b', hb, rfl⟩ := Option.map_eq_some_iff.mp h
      exact snd_ite (sE G tk hc) (sE G tk ha) (sE G tk hb)
    | Compare a ops bs pos =>
      simp only [trE] at h
      split at h
      · split at h
        · obtain ⟨a', ha, rfl⟩ := Option.map_eq_some_iff.mp h
          exact snd_isN false (sE G tk ha).v
        · obtain ⟨a', ha, rfl⟩ := Option.map_eq_some_iff.mp h
          exact snd_isB false _ (sE G tk ha).v
        · cases h
      · split at h
        · obtain ⟨a', ha, rfl⟩ := Option.map_eq_some_iff.mp h
          exact snd_isN true (sE G tk ha).v
        · obtain ⟨a', ha, rfl⟩ := Option.map_eq_some_iff.mp h
          exact snd_isB true _ (sE G tk ha).v
        · cases h
      · obtain ⟨a', ha, rfl⟩ := Option.map_eq_some_iff.mp h
        exact snd_demp G.room false (sE G tk ha).v
      · obtain ⟨a', ha, rfl⟩ := Option.map_eq_some_iff.mp h
        exact snd_demp G.room true (sE G tk ha).v
      · split at h
        · rename_i x hx _ _ _ _
          obtain ⟨a', ha, rfl⟩ := Option.map_eq_some_iff.mp h
          obtain ⟨p1, rfl, q1, q2, q3⟩ := dicN_of hx
          exact snd_kin G false q1 q2 q3 (sE G tk ha).v
        · rename_i x hx _ _ _ _
          obtain ⟨a', ha, rfl⟩ := Option.map_eq_some_iff.mp h
          obtain ⟨p1, rfl, q1, q2, q3⟩ := dicN_of hx
          exact snd_kin G true q1 q2 q3 (sE G tk ha).v
        · obtain ⟨o', ho, h⟩ := Option.bind_eq_some_iff.mp h
          obtain ⟨a', ha, h⟩ := Option.bind_eq_some_iff.mp h
          obtain ⟨b', hb, rfl⟩ := Option.map_eq_some_iff.mp h
          obtain rfl := trCm_of ho
          exact snd_cmpB G.room (plainE_mark (trE_plain hb) _) (sE G tk ha).v (sE G tk hb).v
      · obtain ⟨o', ho, h⟩ := Option.bind_eq_some_iff.mp h
        obtain ⟨o2', ho2, h⟩ := Option.bind_eq_some_iff.mp h
        obtain ⟨a', ha, h⟩ := Option.bind_eq_some_iff.mp h
        obtain ⟨b', hb, h⟩ := Option.bind_eq_some_iff.mp h
        obtain ⟨c', hc, rfl⟩ := Option.map_eq_some_iff.mp h
        obtain rfl := trCm_of ho
        obtain rfl := trCm_of ho2
        exact snd_cmp2 G.room (last_of (trE_plain hc)) (sE G tk ha).v (sE G tk hb).v (sE G tk hc).v
      · cases h
    | Dict keys values pos =>
      simp only [trE] at h
      split at h
      · cases h
        exact .plain snd_dnew fun _ => rfl
      · rename_i hne
        split at h
        · rename_i h15
          obtain ⟨ps, hps, rfl⟩ := Option.map_eq_some_iff.mp h
          obtain ⟨L, q1, q2, q3, q4⟩ := sPs G tk hps pos
          have h0 : keys ≠ [] := fun e => by
            subst e
            cases values with
            | nil => exact hne rfl rfl
            | cons _ _ => simp at q3
          have e : evE (Fof T C kk) (.ddisp ps) = fun env => M.bnd (evP L env) fun xs => match keyed xs with
              | some kvs => if kvs.length ≤ 15 then newDic (dMerge [] kvs) else M.stuck
              | .none => M.stuck := by
            funext env
            show M.bnd (evEs (Fof T C kk) ps env) _ = _
            rw [← q4]
            first | done | congr 1
          rw [e]
          exact .plain (snd_ddisp q1 q2 q3 h0 h15) fun _ => rfl
        · cases h
    | Call f as ks pos =>
      simp only [trE] at h
      split at h
      · rename_i x p
        split at h
        · rename_i h1
          simp only [Bool.and_eq_true] at h1
          split at h
          · rename_i h2
            split at h
            · rename_i params body scope lpos
              split at h
              · rename_i h3
                simp only [Bool.and_eq_true] at h3
                obtain ⟨b', hb, rfl⟩ := Option.map_eq_some_iff.mp h
                exact .plain (snd_thk G tk h1.1 h1.2 h2 h3.1.1 h3.1.2 h3.2 fun Gl tkl => (sE Gl tkl hb).v) fun _ => rfl
              · cases h
            obtain ⟨as', has, rfl⟩ := Option.map_eq_some_iff.mp h
            obtain ⟨pa, st⟩ := sEs G tk has
            cases as with
            | nil =>
              cases k with
              | zero => simp [trEs] at has
              | succ k =>
                simp only [trEs, Option.some.injEq] at has
                subst has
                exact .plain (snd_call0 G tk h1.1 h1.2 h2) fun _ => rfl
            | cons a as => exact .plain (snd_call G tk h1.1 h1.2 h2 st pa) fun _ => rfl
          · split at h
            · rename_i h3
              split at h
              · rename_i h4
                obtain rfl := str_eq h4
                split at h
                · rename_i a t p1
                  split at h
                  · rename_i h5
                    simp only [Bool.and_eq_true] at h5
                    obtain ⟨t', ht, h⟩ := Option.bind_eq_some_iff.mp h
                    obtain ⟨a', ha, rfl⟩ := Option.map_eq_some_iff.mp h
                    exact .plain (snd_isi G h1.2 h3 h5.1.1 h5.1.2 h5.2 ht (plainE_star (trE_plain ha)) (sE G tk ha).v) fun _ => rfl
                  · cases h
                · cases h
              · have gen0 : (trBl x as.length).bind (fun b => (trEs P k N sc as).map fun as' => E.bl b as') = some e' → Both XC X W (.Call (.Name x p) as [] pos) (evE (Fof T C kk) e') := fun h => by
                  obtain ⟨b, hb, h⟩ := Option.bind_eq_some_iff.mp h
                  obtain ⟨as', has, rfl⟩ := Option.map_eq_some_iff.mp h
                  obtain ⟨pa, st⟩ := sEs G tk has
                  cases as with
                  | nil =>
                    cases k with
                    | zero => simp [trEs] at has
                    | succ k =>
                      simp only [trEs, Option.some.injEq] at has
                      subst has
                      have hn : ∀ h, blt h b [] = none := fun h => by cases b <;> rfl
                      refine .plain (PE.never fun σ H Q q => ?_) fun _ => rfl
                      obtain ⟨env, h, z, m, rs, rh, o⟩ := q
                      have o : Out X.K XC z m H (M.lift (fun h => blt h b []) h) _ _ := o
                      obtain ⟨a, e, _⟩ := o.lift
                      rw [hn] at e
                      cases e
                  | cons a as => exact .plain (snd_bl G h1.1 h1.2 h3 (blOk_of G.calm G.room hb) st pa) fun _ => rfl
                have gen : (match setArg P sc as with
                    | some a => if x == ("sorted" : Str) then (trE P k N sc a).map E.sset else if x == ("len" : Str) then (trE P k N sc a).map E.lset else none
                    | none => (trBl x as.length).bind fun b => (trEs P k N sc as).map fun as' => E.bl b as') = some e' → Both XC X W (.Call (.Name x p) as [] pos) (evE (Fof T C kk) e') := fun hh => by
                  split at hh
                  · rename_i a hsa
                    obtain ⟨p2, q, rfl, g1, g2⟩ := setArg_of hsa
                    split at hh
                    · rename_i hx
                      obtain rfl := str_eq hx
                      obtain ⟨a', ha, rfl⟩ := Option.map_eq_some_iff.mp hh
                      exact .plain (snd_sset G h1.2 h3 g1 g2 (plainE_star (trE_plain ha)) (sE G tk ha).v) fun _ => rfl
                    · split at hh
                      · rename_i hx
                        obtain rfl := str_eq hx
                        obtain ⟨a', ha, rfl⟩ := Option.map_eq_some_iff.mp hh
                        exact .plain (snd_lset G h1.2 h3 g1 g2 (plainE_star (trE_plain ha)) (sE G tk ha).v) fun _ => rfl
                      · cases hh
                  · exact gen0 hh
                split at h
                · rename_i hd
                  obtain rfl := str_eq hd
                  split at h
                  · obtain ⟨a', ha, rfl⟩ := Option.map_eq_some_iff.mp h
                    exact .plain (snd_dcopy G h1.2 h3 (plainE_star (trE_plain ha)) (sE G tk ha).v) fun _ => rfl
                  · cases h
                · split at h
                  · rename_i hx
                    obtain rfl := str_eq hx
                    split at h
                    · rename_i h6
                      simp only [Bool.and_eq_true] at h6
                      obtain rfl := str_eq h6.1.1
                      obtain ⟨e2, he2, rfl⟩ := Option.map_eq_some_iff.mp h
                      exact .plain (snd_ditems G h1.2 h3 (nCall_of h6.2) h6.1.2 (sE G tk he2).v) fun _ => rfl
                    · cases h
                  · exact gen h
            · cases h
        · cases h
      · rename_i o m apos
        split at h
        · cases h
        · rename_i h1
          simp only [Bool.or_eq_true, bne_iff_ne, ne_eq, decide_eq_true_eq, beq_iff_eq, not_or, Decidable.not_not] at h1
          obtain ⟨⟨h1, h2⟩, h3⟩ := h1
          obtain ⟨m', hm, h⟩ := Option.bind_eq_some_iff.mp h
          cases as with
          | nil => simp at h3
          | cons a as =>
            have hl : (a :: as).length ≤ 20 := by omega
            have hline : (apos.endLine == pos.line) = true := by simpa using h1
            have gen : ∀ {o : Expr}, notCall o = true → (trE P k N sc o).bind (fun o' => (trEs P k N sc (a :: as)).map fun as' => E.mt m' o' as') = some e' → Both XC X W (.Call (.Attribute o m apos) (a :: as) [] pos) (evE (Fof T C kk) e') := fun {o} hc h => by
              obtain ⟨o', ho, h⟩ := Option.bind_eq_some_iff.mp h
              obtain ⟨as', has, rfl⟩ := Option.map_eq_some_iff.mp h
              obtain ⟨pa, st⟩ := sEs G tk has
              exact .plain (snd_mt G.room hm hc hl hline st (sE G tk ho).v pa) fun _ => rfl
            split at h
            · split at h
              · rename_i h4
                simp only [Bool.and_eq_true] at h4
                obtain ⟨as', has, rfl⟩ := Option.map_eq_some_iff.mp h
                obtain ⟨pa, st⟩ := sEs G tk has
                exact .plain (snd_mtc G hm h4.2 hl hline st h4.1.1.1 h4.1.1.2 h4.1.2 pa) fun _ => rfl
              · exact gen rfl h
            · cases h
            · rename_i hnc
              refine gen ?_ h
              cases o <;> first | rfl | exact (hnc _ _ _ _ rfl).elim
      · cases h
    | Subscript a i pos =>
      simp only [trE] at h
      split at h
      · obtain ⟨a', ha, rfl⟩ := Option.map_eq_some_iff.mp h
        exact .plain (snd_rev (sE G tk ha).v) fun _ => rfl
      · obtain ⟨a', ha, h⟩ := Option.bind_eq_some_iff.mp h
        obtain ⟨lo', hlo, h⟩ := Option.bind_eq_some_iff.mp h
        obtain ⟨hi', hhi, rfl⟩ := Option.map_eq_some_iff.mp h
        exact .plain (snd_sl (sE G tk ha).v (sEo G tk hlo) (sEo G tk hhi)) fun _ => rfl
      · cases h
      · cases h
      · split at h
        · rename_i x hx
          obtain ⟨i', hi, rfl⟩ := Option.map_eq_some_iff.mp h
          obtain ⟨p1, rfl, q1, q2, q3⟩ := dicN_of hx
          exact .plain (snd_kix G q1 q2 q3 (plainE_ix (trE_plain hi)) (sE G tk hi).v) fun _ => rfl
        · obtain ⟨a', ha, h⟩ := Option.bind_eq_some_iff.mp h
          obtain ⟨i', hi, rfl⟩ := Option.map_eq_some_iff.mp h
          exact .plain (snd_ix (plainE_ix (trE_plain hi)) (sE G tk ha).v (sE G tk hi).v) fun _ => rfl
    | Tuple es j pos =>
      simp only [trE] at h
      obtain ⟨es', hes, rfl⟩ := Option.map_eq_some_iff.mp h
      exact .plain (snd_tup (sEs G tk hes).1) fun _ => rfl
    | List es pos =>
      simp only [trE] at h
      split at h
      · obtain ⟨es', hes, rfl⟩ := Option.map_eq_some_iff.mp h
        exact .plain (snd_new (sEs G tk hes).1) fun _ => rfl
      · obtain ⟨es', hes, rfl⟩ := Option.map_eq_some_iff.mp h
        exact .plain (snd_lst (sEs G tk hes).1) fun _ => rfl
    | ListComp elt gens scope pos =>
      rcases gens with _ | ⟨⟨tg, iter, ifs, ia⟩, _ | ⟨g2, gs⟩⟩
      · simp [trE] at h
      · by_cases hia : ia = 0
        rotate_left
        · simp [trE, hia] at h
        subst hia
        simp only [trE] at h
        split at h
        · rename_i hb
          simp only [Bool.and_eq_true, decide_eq_true_eq] at hb
          obtain ⟨it, hit, h⟩ := Option.bind_eq_some_iff.mp h
          obtain ⟨t, ht, h⟩ := Option.bind_eq_some_iff.mp h
          obtain ⟨ifs', hifs, h⟩ := Option.bind_eq_some_iff.mp h
          obtain ⟨elt', helt, rfl⟩ := Option.map_eq_some_iff.mp h
          obtain ⟨pi, pf⟩ := sIt G tk hit
          refine .plain ((pe_lc (g := gT X.K t) (tt := tTt X.K XC WNo fun env => evTs (Fof T C kk) ifs' env) (te := tE X.K XC WNo (evE (Fof T C kk) elt')) G.calm (by rw [G.hN]; exact G.nd) pi (blkOk_by (by rw [G.hN, G.sc]; exact hb.1)) (fun s H Cc cl fp => ?_) (fun s H Cc cl fp => ?_) (fun s H Cc cl fp => ?_) (plainE_fold pf X.env)).to fun σ H Q q => ?_) fun _ => rfl
          · exact snd_T (X := X.blk s H scope (compEnvC scope cl Cc X.env) fp) G.calm G.nd G.hN tgOk_blk ht
          · exact sTs (W := WNo) hb.2 (G.blk s H scope Cc cl fp) L2.takes0 hifs
          · exact (sE (W := WNo) (G.blk s H scope Cc cl fp) L2.takes0 helt).v
          · exact lc_all (slots_in ht) q
        · cases h
      · rcases gs with _ | ⟨g3, gs⟩
        rotate_left
        · simp [trE] at h
        obtain ⟨tg1, iter1, ifs1, ia1⟩ := g2
        by_cases hia : ia = 0
        rotate_left
        · simp [trE, hia] at h
        by_cases hia1 : ia1 = 0
        rotate_left
        · simp [trE, hia1] at h
        subst hia hia1
        simp only [trE] at h
        split at h
        · rename_i hb
          simp only [Bool.and_eq_true, decide_eq_true_eq] at hb
          obtain ⟨it, hit, h⟩ := Option.bind_eq_some_iff.mp h
          obtain ⟨t, ht, h⟩ := Option.bind_eq_some_iff.mp h
          obtain ⟨ifs', hifs, h⟩ := Option.bind_eq_some_iff.mp h
          obtain ⟨it1, hit1, h⟩ := Option.bind_eq_some_iff.mp h
          obtain ⟨t1, ht1, h⟩ := Option.bind_eq_some_iff.mp h
          obtain ⟨ifs1', hifs1, h⟩ := Option.bind_eq_some_iff.mp h
          obtain ⟨elt', helt, rfl⟩ := Option.map_eq_some_iff.mp h
          obtain ⟨pi, pf⟩ := sIt G tk hit
          have pi1 := fun (s : Shared) (H : Hp) (Cc : Addr) (cl : List (Str × Addr)) (fp : List Addr) => sIt (W := WNo) (G.blk s H scope Cc cl fp) L2.takes0 hit1
          refine .plain ((pe_lc2 (vs1 := t1.slots) (g := gT X.K t) (tt := tTt X.K XC WNo fun env => evTs (Fof T C kk) ifs' env) (wi1 := tI X.K XC WNo fun env => evIt (Fof T C kk) it1 env) (g1 := gT X.K t1) (tt1 := tTt X.K XC WNo fun env => evTs (Fof T C kk) ifs1' env) (te := tE X.K XC WNo (evE (Fof T C kk) elt')) G.calm (by rw [G.hN]; exact G.nd) pi (blkOk_by (by rw [G.hN, G.sc]; exact hb.1.1)) (slots_in ht1)
            (fun s H Cc cl fp => ?_) (fun s H Cc cl fp => ?_) (fun s H Cc cl fp => (pi1 s H Cc cl fp).1) (fun s H Cc cl fp => ?_) (fun s H Cc cl fp => ?_) (fun s H Cc cl fp => ?_) (plainE_fold pf X.env) (plainE_fold (pi1 ({} : Shared) (fun _ => none) 0 [] []).2)).to fun σ H Q q => ?_) fun _ => rfl
          · exact snd_T (X := X.blk s H scope (compEnvC scope cl Cc X.env) fp) G.calm G.nd G.hN tgOk_blk ht
          · exact sTs (W := WNo) hb.1.2 (G.blk s H scope Cc cl fp) L2.takes0 hifs
          · exact snd_T (X := X.blk s H scope (compEnvC scope cl Cc X.env) fp) G.calm G.nd G.hN tgOk_blk ht1
          · exact sTs (W := WNo) hb.2 (G.blk s H scope Cc cl fp) L2.takes0 hifs1
          · exact (sE (W := WNo) (G.blk s H scope Cc cl fp) L2.takes0 helt).v
          · exact lc2_all (slots_in ht) q
        · cases h
    | _ => simp [trE] at h
theorem sB : ∀ {P : TrP} {k : Nat} {X : Cx} {sc : Scope} {W : WX} {o : BoolOp} {es : List Expr} {pos : Pos} {e' : E}, Gd P T C XC kk N sc X → Takes X W → trBool P k N sc o es = some e' →
    PE X (.BoolOp o es pos) (tE X.K XC W (evE (Fof T C kk) e')) ∧ PW X (.BoolOp o es pos) (tTt X.K XC W (tst (evE (Fof T C kk) e')))
  | _, 0, _, _, _, _, _, _, _, _, _, h => by simp [trBool] at h
  | P, k + 1, X, sc, W, o, es, pos, e', G, tk, h => by
    match es, h with
    | [], h => simp [trBool] at h
    | [a], h =>
      simp only [trBool] at h
      have b := sE G tk h
      cases o with
      | And => exact ⟨one_and b.v, pw_and1 b.t⟩
      | Or => exact ⟨one_and b.v, pw_or1 b.t⟩
    | a :: b :: r, h =>
      simp only [trBool] at h
      obtain ⟨a', ha, h⟩ := Option.bind_eq_some_iff.mp h
      obtain ⟨r', hr, h⟩ := Option.map_eq_some_iff.mp h
      have q := sB (pos := pos) G tk hr
      cases o with
      | And => cases h; exact snd_and (sE G tk ha) q.1 q.2
      | Or => cases h; exact snd_or (sE G tk ha) q.1 q.2
theorem sEs : ∀ {P : TrP} {k : Nat} {X : Cx} {sc : Scope} {W : WX} {es : List Expr} {es' : Es}, Gd P T C XC kk N sc X → Takes X W → trEs P k N sc es = some es' → PA X es (tEs X.K XC W (evEs (Fof T C kk) es')) ∧ es.all notStar = true
  | _, 0, _, _, _, _, _, _, _, h => by simp [trEs] at h
  | P, k + 1, X, sc, W, es, es', G, tk, h => by
    cases es with
    | nil =>
      simp only [trEs, Option.some.injEq] at h
      subst h
      exact ⟨snd_nil, rfl⟩
    | cons e r =>
      have hs : notStar e = true := by
        cases e <;> first | rfl | (simp [trEs] at h)
      have h : (trE P k N sc e).bind (fun e' => (trEs P k N sc r).map fun r' => Es.cons e' r') = some es' := by
        cases e <;> first | (simpa only [trEs] using h) | (simp [notStar] at hs)
      obtain ⟨e', he, h⟩ := Option.bind_eq_some_iff.mp h
      obtain ⟨r', hr, rfl⟩ := Option.map_eq_some_iff.mp h
      obtain ⟨pa, st⟩ := sEs G tk hr
      exact ⟨snd_cons hs (sE G tk he).v pa, by rw [List.all_cons, hs, st]; rfl⟩
theorem sPs : ∀ {P : TrP} {k : Nat} {X : Cx} {sc : Scope} {W : WX} {keys : List (Option Expr)} {values : List Expr} {ps : Es}, Gd P T C XC kk N sc X → Takes X W → trPs P k N sc keys values = some ps → ∀ pos : Pos,
    ∃ L : List ((Env → M PV) × (Env → M PV)), PPs X pos keys values (L.map fun p => (tE X.K XC W p.1, tE X.K XC W p.2)) ∧ keys.all (·.isSome) = true ∧ keys.length = values.length ∧ evP L = evEs (Fof T C kk) ps
  | _, 0, _, _, _, _, _, _, _, _, h, _ => by simp [trPs] at h
  | P, k + 1, X, sc, W, keys, values, ps, G, tk, h, pos => by
    match keys, values, h with
    | [], [], h =>
      simp only [trPs, Option.some.injEq] at h
      subst h
      exact ⟨[], pps_nil, rfl, rfl, rfl⟩
    | some a :: ks, b :: vs, h =>
      simp only [trPs] at h
      obtain ⟨a', ha, h⟩ := Option.bind_eq_some_iff.mp h
      obtain ⟨b', hb, h⟩ := Option.bind_eq_some_iff.mp h
      obtain ⟨r, hr, rfl⟩ := Option.map_eq_some_iff.mp h
      obtain ⟨L, q1, q2, q3, q4⟩ := sPs G tk hr pos
      refine ⟨(evE (Fof T C kk) a', evE (Fof T C kk) b') :: L, pps_cons (sE G tk ha).v (sE G tk hb).v q1, by rw [List.all_cons, q2]; rfl, by rw [List.length_cons, List.length_cons, q3], ?_⟩
      funext env
      show M.bnd _ _ = M.bnd _ _
      congr 1
      funext x
      show M.bnd _ (fun y => M.bnd (evP L env) fun xs => M.ret (x :: y :: xs)) = M.bnd (M.bnd _ _) _
      rw [M.bnd_assoc]
      congr 1
      funext y
      rw [M.bnd_assoc, q4]
      congr 1
    | none :: _, _, h => simp [trPs] at h
    | [], _ :: _, h => simp [trPs] at h
    | some _ :: _, [], h => simp [trPs] at h
theorem sTs : ∀ {P : TrP} {k : Nat} {X : Cx} {sc : Scope} {W : WX} {ifs : List Expr} {ifs' : Es}, ifs.length ≤ 1 → Gd P T C XC kk N sc X → Takes X W → trEs P k N sc ifs = some ifs' → PTs X ifs (tTt X.K XC W fun env => evTs (Fof T C kk) ifs' env)
  | _, 0, _, _, _, _, _, _, _, _, h => by simp [trEs] at h
  | P, k + 1, X, sc, W, ifs, ifs', hl, G, tk, h => by
    match ifs, hl, h with
    | [], _, h =>
      simp only [trEs, Option.some.injEq] at h
      subst h
      exact ⟨fun pins s σ H Q I q => pts_nil.run pins s σ H Q I (by
        obtain ⟨env, h, z, m, rs, rh, o⟩ := q
        exact (show Out X.K XC z m H (M.ret true h) _ _ from o).ret m H (Ext.refl _ _) rh)⟩
    | [c], _, h =>
      have hs : notStar c = true := by
        cases c <;> first | rfl | (simp [trEs] at h)
      have h : (trE P k N sc c).bind (fun e' => (trEs P k N sc []).map fun r' => Es.cons e' r') = some ifs' := by
        cases c <;> first | (simpa only [trEs] using h) | (simp [notStar] at hs)
      obtain ⟨c', h1, h2⟩ := Option.bind_eq_some_iff.mp h
      obtain ⟨r', h3, rfl⟩ := Option.map_eq_some_iff.mp h2
      have h4 : r' = .nil := by
        cases k with
        | zero => simp [trEs] at h3
        | succ k => simpa only [trEs, Option.some.injEq, eq_comm] using h3
      subst h4
      have e : (fun env => evTs (Fof T C kk) (.cons c' .nil) env) = tst (evE (Fof T C kk) c') := ts_one _ c'
      rw [e]
      exact pts_one (sE G tk h1).t
    | _ :: _ :: _, hl, _ => simp at hl
theorem sEo : ∀ {P : TrP} {k : Nat} {X : Cx} {sc : Scope} {W : WX} {e : Option Expr} {e' : Eo}, Gd P T C XC kk N sc X → Takes X W → trEo P k N sc e = some e' → PO X e (tPo X.K XC W (evEo (Fof T C kk) e'))
  | _, 0, _, _, _, _, _, _, _, h => by simp [trEo] at h
  | P, k + 1, X, sc, W, e, e', G, tk, h => by
    cases e with
    | none =>
      simp only [trEo, Option.some.injEq] at h
      subst h
      exact snd_po0
    | some e =>
      simp only [trEo] at h
      obtain ⟨e', he, rfl⟩ := Option.map_eq_some_iff.mp h
      exact snd_po1 (sE G tk he).v
theorem sIt : ∀ {P : TrP} {k : Nat} {X : Cx} {sc : Scope} {W : WX} {tg e : Expr} {it : Ev.It}, Gd P T C XC kk N sc X → Takes X W → trIt P k N sc tg e = some it → PI X tg e (tI X.K XC W (evIt (Fof T C kk) it)) ∧ plainE e = true
  | _, 0, _, _, _, _, _, _, _, _, h => by simp [trIt] at h
  | P, k + 1, X, sc, W, tg, e, it, G, tk, h => by
    have seq : ∀ {e : Expr}, (trE P k N sc e).map It.seq = some it → PI X tg e (tI X.K XC W (evIt (Fof T C kk) it)) ∧ plainE e = true := fun {e} h => by
      obtain ⟨e', he, rfl⟩ := Option.map_eq_some_iff.mp h
      exact ⟨snd_seq (sE G tk he).v, trE_plain he⟩
    simp only [trIt] at h
    split at h
    · rename_i x p a pos
      split at h
      · rename_i h1
        simp only [Bool.and_eq_true] at h1
        obtain rfl := str_eq h1.1.1
        obtain ⟨a', ha, rfl⟩ := Option.map_eq_some_iff.mp h
        exact ⟨snd_rng1 G h1.1.2 h1.2 (plainE_star (trE_plain ha)) (sE G tk ha).v, rfl⟩
      · split at h
        · rename_i h1
          simp only [Bool.and_eq_true] at h1
          obtain rfl := str_eq h1.1.1
          split at h
          · obtain ⟨a', ha, rfl⟩ := Option.map_eq_some_iff.mp h
            exact ⟨snd_enum G h1.1.2 h1.2 (plainE_star (trE_plain ha)) (sE G tk ha).v, rfl⟩
          · cases h
        · exact seq h
    · rename_i x p a b pos
      split at h
      · rename_i h1
        simp only [Bool.and_eq_true] at h1
        obtain rfl := str_eq h1.1.1
        obtain ⟨a', ha, h⟩ := Option.bind_eq_some_iff.mp h
        obtain ⟨b', hb, rfl⟩ := Option.map_eq_some_iff.mp h
        exact ⟨snd_rng2 G h1.1.2 h1.2 (plainE_star (trE_plain ha)) (plainE_star (trE_plain hb)) (sE G tk ha).v (sE G tk hb).v, rfl⟩
      · split at h
        · rename_i h1
          simp only [Bool.and_eq_true] at h1
          obtain rfl := str_eq h1.1.1
          split at h
          · obtain ⟨a', ha, h⟩ := Option.bind_eq_some_iff.mp h
            obtain ⟨b', hb, rfl⟩ := Option.map_eq_some_iff.mp h
            exact ⟨snd_zip G h1.1.2 h1.2 (plainE_star (trE_plain ha)) (plainE_star (trE_plain hb)) (sE G tk ha).v (sE G tk hb).v, rfl⟩
          · cases h
        · exact seq h
    · rename_i x p a b j p1 p2 pos
      split at h
      · rename_i h1
        simp only [Bool.and_eq_true] at h1
        obtain rfl := str_eq h1.1.1
        obtain ⟨a', ha, h⟩ := Option.bind_eq_some_iff.mp h
        obtain ⟨b', hb, rfl⟩ := Option.map_eq_some_iff.mp h
        exact ⟨snd_rng3 G h1.1.2 h1.2 (plainE_star (trE_plain ha)) (plainE_star (trE_plain hb)) (sE G tk ha).v (sE G tk hb).v, rfl⟩
      · exact seq h
    · split at h
      · obtain ⟨e', he, rfl⟩ := Option.map_eq_some_iff.mp h
        exact ⟨snd_cellI (sE G tk he).v, rfl⟩
      · exact seq h
    · exact seq h
end
end
end Ev
end

section
/-! EvSnd10: statements. -/
set_option autoImplicit false
set_option linter.all false
set_option Elab.async false
set_option maxRecDepth 100000
set_option maxHeartbeats 4000000
namespace Ev
open PySem L2 PyProof.Rows

/-- how a statement ends, in the machine's words -/
def FlP (K : PySem.W.Frag) (z : List Addr) (D : Ends) : Fl → Hh → List Addr → Hp → Prop
  | .nxt env, _, m, H => ∀ σ, RelS K z m H env σ → D.nx σ H
  | .ret v, _, m, H => ∀ x, Rep K z m H v x → D.rt x H
  | .brk env, _, m, H => ∀ σ, RelS K z m H env σ → D.bk σ H
  | .cont env, _, m, H => ∀ σ, RelS K z m H env σ → D.ct σ H
def tS (K : PySem.W.Frag) (XC : Nat → Option Addr) (Ex : XK) (r : Env → M Fl) : TS := fun D σ H => ∃ env h z m, RelS K z m H env σ ∧ RelH K z m H h ∧ Out K XC z m H (r env h) (FlP K z D) Ex

section
variable {P : TrP} {T : Nat → Option Fn} {C : Nat → Option PV} {XC : Nat → Option Addr} {kk : Nat} {N : List Str} {X : Cx} {Ex : XK} {F : Fns}
theorem st_nil : PSs X [] (tS X.K XC Ex fun env => M.ret (.nxt env)) := pss_nil.to fun D σ H q => by
  obtain ⟨env, h, z, m, rs, rh, o⟩ := q
  exact o.ret m H (Ext.refl _ _) rh σ rs
theorem st_cons {s : Stmt} {r : List Stmt} {rs rr : Env → M Fl} (h1 : PS X s (tS X.K XC Ex rs)) (h2 : PSs X r (tS X.K XC Ex rr)) :
    PSs X (s :: r) (tS X.K XC Ex fun env => M.bnd (rs env) fun f => match f with
    | .nxt e => rr e
    | f => M.ret f) := by
  refine (pss_cons h1 h2).to fun D σ H q => ?_
  obtain ⟨env, h, z, m, rs', rh, out⟩ := q
  refine ⟨env, h, z, m, rs', rh, out.bnd.imp fun f h1 m1 H1 e1 rh1 o1 => ?_⟩
  cases f with
  | nxt e => exact fun σ1 rs1 => ⟨e, h1, z, m1, rs1, rh1, o1⟩
  | ret v => exact o1.ret m1 H1 (Ext.refl _ _) rh1
  | brk e => exact o1.ret m1 H1 (Ext.refl _ _) rh1
  | cont e => exact o1.ret m1 H1 (Ext.refl _ _) rh1
theorem st_never {s : Stmt} : PS X s (tS X.K XC Ex fun _ => M.stuck) := ps_never.to fun D σ H q => by
  obtain ⟨env, h, z, m, rs', rh, out⟩ := q
  exact out
theorem st_pass {pos : Pos} : PS X (.Pass pos) (tS X.K XC Ex fun env => M.ret (.nxt env)) := ps_pass.to fun D σ H q => by
  obtain ⟨env, h, z, m, rs, rh, o⟩ := q
  exact o.ret m H (Ext.refl _ _) rh σ rs
theorem st_break {pos : Pos} : PS X (.Break pos) (tS X.K XC Ex fun env => M.ret (.brk env)) := ps_break.to fun D σ H q => by
  obtain ⟨env, h, z, m, rs, rh, o⟩ := q
  exact o.ret m H (Ext.refl _ _) rh σ rs
theorem st_cont {pos : Pos} : PS X (.Continue pos) (tS X.K XC Ex fun env => M.ret (.cont env)) := ps_continue.to fun D σ H q => by
  obtain ⟨env, h, z, m, rs, rh, o⟩ := q
  exact o.ret m H (Ext.refl _ _) rh σ rs
theorem st_retN {pos : Pos} : PS X (.Return none pos) (tS X.K XC Ex fun _ => M.ret (.ret (.d .none))) := ps_retN.to fun D σ H q => by
  obtain ⟨env, h, z, m, rs, rh, o⟩ := q
  exact o.ret m H (Ext.refl _ _) rh _ rfl
theorem st_ret {e : Expr} {re : Env → M PV} {pos : Pos} (he : PE X e (tE X.K XC (WU Ex) re)) : PS X (.Return (some e) pos) (tS X.K XC Ex fun env => M.bnd (re env) fun v => M.ret (.ret v)) := by
  refine (ps_ret he).to fun D σ H q => ?_
  obtain ⟨env, h, z, m, rs, rh, out⟩ := q
  refine ⟨env, h, z, m, rs, rh, out.bnd.imp fun v h1 m1 H1 e1 rh1 o1 x rx => ?_⟩
  exact o1.ret m1 H1 (Ext.refl _ _) rh1 x rx
theorem st_expr {e : Expr} {re : Env → M PV} {pos : Pos} (he : PE X e (tE X.K XC (WU Ex) re)) (hs : swapsWith e none pos.line X.env = pure false) : PS X (.Expr e pos) (tS X.K XC Ex fun env => M.bnd (re env) fun _ => M.ret (.nxt env)) := by
  refine (ps_expr he hs).to fun D σ H q => ?_
  obtain ⟨env, h, z, m, rs, rh, out⟩ := q
  refine ⟨env, h, z, m, rs, rh, out.bnd.imp fun v h1 m1 H1 e1 rh1 o1 x rx => ?_⟩
  exact o1.ret m1 H1 (Ext.refl _ _) rh1 σ (rs.keep e1.keeps)
theorem asg_name {re : Env → M PV} {i : Nat} {te : TE} (ht : ∀ σ H Q, tE X.K XC (WU Ex) re σ H Q → te σ H Q) : ∀ D σ H, tS X.K XC Ex (fun env => M.bnd (re env) fun v => M.ret (.nxt (env.set i (some v)))) D σ H → tAsg te (gName i) D σ H := by
  intro D σ H q
  obtain ⟨env, h, z, m, rs, rh, out⟩ := q
  refine ht _ _ _ ⟨env, h, z, m, rs, rh, out.bnd.imp fun v h1 m1 H1 e1 rh1 o1 x rx => ?_⟩
  exact o1.ret m1 H1 (Ext.refl _ _) rh1 _ ((rs.keep e1.keeps).set rx)
theorem st_tgt {tg e : Expr} {t : Ev.T} {re : Env → M PV} {pos : Pos} (he : PE X e (tE X.K XC (WU Ex) re)) (hg : PG X tg (gT X.K t)) (hs : swapsWithSole [tg] e pos.line X.env = pure false) (hw : swappedStores [tg] e X.env = pure none) (h1 : (assignEach [tg] X.env).map (·.2) = [assign tg X.env]) :
    PS X (.Assign [tg] e pos) (tS X.K XC Ex fun env => M.bnd (re env) fun v => M.lift fun _ => (Ev.T.store t v env).map Fl.nxt) := by
  refine (ps_asg he hg hs hw h1).to fun D σ H q => ?_
  obtain ⟨env, h, z, m, rs, rh, out⟩ := q
  refine ⟨env, h, z, m, rs, rh, out.bnd.imp fun v h1 m1 H1 e1 rh1 o1 x rx => ?_⟩
  obtain ⟨f, ef, p⟩ := o1.lift
  obtain ⟨env', est, rfl⟩ := Option.map_eq_some_iff.mp ef
  exact ⟨env, env', v, z, m1, rs.keep e1.keeps, rx, est, fun σ' rs' _ => p m1 H1 (Ext.refl _ _) rh1 σ' rs'⟩
theorem st_if {c : Expr} {a b : List Stmt} {rc : Env → M PV} {ra rb : Env → M Fl} {pos : Pos} (hc : PT X c (tTt X.K XC (WU Ex) (tst rc))) (ha : PSs X a (tS X.K XC Ex ra)) (hb : PSs X b (tS X.K XC Ex rb)) :
    PS X (.If c a b pos) (tS X.K XC Ex fun env => M.bnd (rc env) fun x => M.bnd (M.lift fun h => truthy h x) fun r => if r then ra env else rb env) := by
  refine (ps_if hc ha hb).to fun D σ H q => ?_
  obtain ⟨env, h, z, m, rs, rh, out⟩ := q
  have eq : (M.bnd (rc env) fun x => M.bnd (M.lift fun h => truthy h x) fun r => if r = true then ra env else rb env) = M.bnd (tst rc env) (fun r => if r = true then ra env else rb env) := (M.bnd_assoc _ _ _).symm
  have out : Out X.K XC z m H ((M.bnd (rc env) fun x => M.bnd (M.lift fun h => truthy h x) fun r => if r = true then ra env else rb env) h) (FlP X.K z D) Ex := out
  rw [eq] at out
  refine ⟨env, h, z, m, rs, rh, out.bnd.imp fun r h1 m1 H1 e1 rh1 o1 => ?_⟩
  cases r with
  | true => exact ⟨env, h1, z, m1, rs.keep e1.keeps, rh1, o1⟩
  | false => exact ⟨env, h1, z, m1, rs.keep e1.keeps, rh1, o1⟩

/-! ### changes of cells -/
theorem nodup_inj {xs : List Addr} (nd : xs.Nodup) {i j : Nat} (hi : i < xs.length) (hj : j < xs.length) (e : xs[i] = xs[j]) : i = j := by
  have p := List.pairwise_iff_getElem.mp nd
  rcases Nat.lt_trichotomy i j with h | h | h
  · exact absurd e (p i j hi hj h)
  · exact h
  · exact absurd e.symm (p j i hj hi h)
theorem RelH.putG {K : PySem.W.Frag} {z m : List Addr} {H : Hp} {h : Hh} {l : Nat} {a : Addr} {c : Cell} {o : HO} (r : RelH K z m H h) (ha : m[l]? = some a) (hL : ∀ xs, c = .lst xs → ∃ us, o = .lst us ∧ us.length ≤ sizeLine ∧ Reps K z m H xs us)
    (hD : ∀ kvs, c = .dic kvs → ∃ ks, o = .dK ks ∧ ks.length ≤ sizeLine ∧ RepK K z m H kvs ks) (ht : LamX.Tabs (tabsK K) (L2.upd H a o)) :
    Ext m H m (L2.upd H a o) ∧ RelH K z m (L2.upd H a o) (h.set l c) := by
  have e : Ext m H m (L2.upd H a o) := Ext.cell (List.mem_of_getElem? ha)
  have hlt : l < h.length := by rw [← r.len]; exact (List.getElem?_eq_some_iff.mp ha).1
  have at_ : ∀ (l' : Nat) (b : Addr) (c' : Cell), m[l']? = some b → (h.set l c)[l']? = some c' → (b = a ∧ c' = c) ∨ (b ≠ a ∧ h[l']? = some c') := fun l' b c' h1 h2 => by
    by_cases hq : l = l'
    · subst hq
      rw [ha] at h1
      cases h1
      rw [List.getElem?_set_self hlt, Option.some.injEq] at h2
      exact .inl ⟨rfl, h2.symm⟩
    · rw [List.getElem?_set_ne hq] at h2
      refine .inr ⟨fun q => ?_, h2⟩
      subst q
      obtain ⟨hl1, e1⟩ := List.getElem?_eq_some_iff.mp ha
      obtain ⟨hl2, e2⟩ := List.getElem?_eq_some_iff.mp h1
      exact hq (nodup_inj r.nd hl1 hl2 (e1.trans e2.symm))
  refine ⟨e, r.nd, by rw [r.len]; simp, fun l' b ys h1 h2 => ?_, fun l' b ys h1 h2 => ?_, fun b hb => ?_, ht⟩
  · rcases at_ l' b _ h1 h2 with ⟨rfl, hc⟩ | ⟨hne, h2⟩
    · obtain ⟨us, rfl, q2, q3⟩ := hL ys hc.symm
      exact ⟨us, upd_same, q2, q3.keep e.keeps⟩
    · obtain ⟨vs, q1, q2, q3⟩ := r.cell l' b ys h1 h2
      exact ⟨vs, by rw [upd_ne hne]; exact q1, q2, q3.keep e.keeps⟩
  · rcases at_ l' b _ h1 h2 with ⟨rfl, hc⟩ | ⟨hne, h2⟩
    · obtain ⟨us, rfl, q2, q3⟩ := hD ys hc.symm
      exact ⟨us, upd_same, q2, q3.keep e.keeps⟩
    · obtain ⟨vs, q1, q2, q3⟩ := r.dcell l' b ys h1 h2
      exact ⟨vs, by rw [upd_ne hne]; exact q1, q2, q3.keep e.keeps⟩
  · obtain ⟨⟨o, q⟩, n⟩ := r.zt b hb
    have hne : b ≠ a := fun q => n (by rw [q]; exact List.mem_of_getElem? ha)
    exact ⟨⟨o, by rw [upd_ne hne]; exact q⟩, n⟩
theorem RelH.put {K : PySem.W.Frag} {z m : List Addr} {H : Hp} {h : Hh} {l : Nat} {a : Addr} {xs : List PV} {us us0 : List V} (r : RelH K z m H h) (ha : m[l]? = some a) (h0 : H a = some (.lst us0)) (rx : Reps K z m H xs us) (hl : us.length ≤ sizeLine) :
    Ext m H m (L2.upd H a (.lst us)) ∧ RelH K z m (L2.upd H a (.lst us)) (setCell h l xs) :=
  r.putG ha (fun ys e => by cases e; exact ⟨us, rfl, hl, rx⟩) (fun ys e => by cases e) (tabs_lst r.tb h0)
theorem RelH.putD {K : PySem.W.Frag} {z m : List Addr} {H : Hp} {h : Hh} {l : Nat} {a : Addr} {kvs : List (D × PV)} {ks ks0 : List (L2.Key × V)} (r : RelH K z m H h) (ha : m[l]? = some a) (h0 : H a = some (.dK ks0)) (rx : RepK K z m H kvs ks) (hl : ks.length ≤ sizeLine) :
    Ext m H m (L2.upd H a (.dK ks)) ∧ RelH K z m (L2.upd H a (.dK ks)) (setDic h l kvs) :=
  r.putG ha (fun ys e => by cases e) (fun ys e => by cases e; exact ⟨ks, rfl, hl, rx⟩) (tabs_dic r.tb h0)
theorem set_both {k : Nat} (hr : Room k X.A) : PSet X (fun o i v H Q => rSetL o i v H Q ∨ rSetD o i v H Q) := by
  have hu := units_of hr
  intro pins s σ H o i v ov iv u Q I ro ri rv q
  rcases q with q | q
  · exact set_list pins s σ H o i v ov iv u Q I ro ri rv q
  · exact set_dict (by omega) pins s σ H o i v ov iv u Q I ro ri rv q
theorem st_app {o a : Expr} {ro ra : Env → M PV} {apos cpos pos : Pos} (hc : notCall o = true) (hline : (apos.endLine == cpos.line) = true) (hst : notStar a = true) (ho : PE X o (tE X.K XC (WU Ex) ro)) (ha : PE X a (tE X.K XC (WU Ex) ra)) :
    PS X (.Expr (.Call (.Attribute o "append" apos) [a] [] cpos) pos) (tS X.K XC Ex fun env => M.bnd (ro env) fun x => M.bnd (guardH fun h => isRef h x) fun _ => M.bnd (ra env) fun v => fun h => match x with
    | .ref l => match h[l]? with
      | some (.lst xs) => if xs.length < LIM then .ok (.nxt env) (setCell h l (xs ++ [v])) else .stuck
      | _ => .stuck
    | _ => .stuck) := by
  have hs : ([a] : List Expr).all notStar = true := by simp [hst]
  obtain ⟨q1, q2⟩ := starEachs (pos := cpos) (env := X.env) hs
  refine (ps_expr (pe_bm PySem.F.plainAttrs_list PySem.F.slot_list_append PySem.F.type_list_append (show MtR X "list.append" rAppend from mt_append) ho (pa_cons ha pa_nil q1) (base_of hc) (few_of hs (by show 1 ≤ 20; omega)) hline q1 q2) rfl).to fun D σ H q => ?_
  obtain ⟨env, h, z, m, rs, rh, out⟩ := q
  refine ⟨env, h, z, m, rs, rh, out.bnd.imp fun x h1 m1 H1 e1 rh1 o1 vx rx => ?_⟩
  obtain ⟨_, e2, p2⟩ := o1.bnd.lift
  have o2 := p2 m1 H1 (Ext.refl _ _) rh1
  cases x with
  | ref l =>
    rw [Rep] at rx
    obtain ⟨ad, rfl, hm⟩ := rx
    have hc : ∃ xs, h1[l]? = some (.lst xs) := by
      cases hq : isLst h1 l with
      | false => simp [isRef, hq] at e2
      | true =>
        unfold isLst at hq
        split at hq
        · exact ⟨_, ‹_›⟩
        · cases hq
    obtain ⟨xs0, hc⟩ := hc
    obtain ⟨us0, hu0, _⟩ := rh1.cell l ad xs0 hm hc
    refine ⟨.inl ⟨rfl, us0, .inl (.inl hu0)⟩, env, h1, z, m1, rs.keep e1.keeps, rh1, o2.bnd.imp fun v h2 m2 H2 e2 rh2 o3 y ry => ?_⟩
    simp only at o3
    have hm2 := e2.at hm
    cases hcl : h2[l]? with
    | none => rw [hcl] at o3; exact (show False from o3).elim
    | some c =>
      cases c with
      | lst xs =>
        rw [hcl] at o3
        simp only at o3
        split at o3
        · rename_i hlt
          obtain ⟨us, hu, hz, ru⟩ := rh2.cell l ad xs hm2 hcl
          have hlen : us.length < sizeLine := by rw [← ru.length, ← lim_size]; exact hlt
          obtain ⟨e3, rh3⟩ := rh2.put hm2 hu (ru.append (show Reps X.K z m2 H2 [v] [y] from by rw [Reps]; exact ⟨y, [], rfl, ry, by rw [Reps]⟩)) (by rw [List.length_append, List.length_singleton]; exact hlen)
          exact ⟨ad, us, y, rfl, rfl, hu, hlen, o3 m2 _ e3 rh3 σ (((rs.keep e1.keeps).keep e2.keeps).keep e3.keeps)⟩
        · exact (show False from o3).elim
      | dic _ => rw [hcl] at o3; exact (show False from o3).elim
  | d _ => simp [isRef] at e2
  | dict _ => simp [isRef] at e2
  | scr _ => simp [isRef] at e2
  | tp _ => simp [isRef] at e2
theorem st_setix {k : Nat} (hr : Room k X.A) {o i e : Expr} {ro ri re : Env → M PV} {p1 pos : Pos} (hs : swapsWithSole [.Subscript o i p1] e pos.line X.env = pure false) (hw : swappedStores [.Subscript o i p1] e X.env = pure none) (hp : plainIx i = true)
    (ho : PE X o (tE X.K XC (WU Ex) ro)) (hi : PE X i (tE X.K XC (WU Ex) ri)) (he : PE X e (tE X.K XC (WU Ex) re)) :
    PS X (.Assign [.Subscript o i p1] e pos) (tS X.K XC Ex fun env => M.bnd (re env) fun v => M.bnd (ro env) fun x => M.bnd (ri env) fun k => fun h => match x, k with
    | .ref l, .d k => match h[l]? with
      | some (.lst xs) => match k with
        | .int n => match place xs.length n with
          | some j => .ok (.nxt env) (setCell h l (xs.set j v))
          | .none => .stuck
        | _ => .stuck
      | some (.dic kvs) => if isKey k && decide (kvs.length < LIM) then .ok (.nxt env) (setDic h l (dPut kvs k v)) else .stuck
      | .none => .stuck
    | _, _ => .stuck) := by
  refine (ps_asg he (pg_sub ho hi (set_both hr) (fun v => by cases i <;> first | rfl | (simp [plainIx] at hp))) hs hw rfl).to fun D σ H q => ?_
  obtain ⟨env, h, z, m, rs, rh, out⟩ := q
  refine ⟨env, h, z, m, rs, rh, out.bnd.imp fun v h1 m1 H1 e1 rh1 o1 vv rv => ?_⟩
  refine ⟨env, h1, z, m1, rs.keep e1.keeps, rh1, o1.bnd.imp fun x h2 m2 H2 e2 rh2 o2 vx rx => ?_⟩
  refine ⟨env, h2, z, m2, (rs.keep e1.keeps).keep e2.keeps, rh2, o2.bnd.imp fun k h3 m3 H3 e3 rh3 o3 vk rk => ?_⟩
  split at o3
  · rename_i l kd
    rw [Rep] at rx
    obtain ⟨ad, rfl, hm⟩ := rx
    have hm3 := e3.at hm
    cases hcl : h3[l]? with
    | none => rw [hcl] at o3; exact (show False from o3).elim
    | some c =>
      cases c with
      | lst xs =>
        rw [hcl] at o3
        dsimp only at o3
        split at o3
        · rename_i n
          cases hj : place xs.length n with
          | none => rw [hj] at o3; exact (show False from o3).elim
          | some j =>
            rw [hj] at o3
            dsimp only at o3
            obtain ⟨us, hu, hz, ru⟩ := rh3.cell l ad xs hm3 hcl
            obtain ⟨e4, rh4⟩ := rh3.put hm3 hu (ru.set j ((rv.keep e2.keeps).keep e3.keeps)) (by rw [List.length_set]; exact hz)
            exact .inl ⟨ad, us, n, j, rfl, rk.int, hu, by rw [← place_ix, ← ru.length]; exact hj, o3 m3 _ e4 rh4 σ ((((rs.keep e1.keeps).keep e2.keeps).keep e3.keeps).keep e4.keeps)⟩
        · exact (show False from o3).elim
      | dic kvs =>
        rw [hcl] at o3
        dsimp only at o3
        split at o3
        · rename_i hk
          rw [Bool.and_eq_true, decide_eq_true_eq] at hk
          obtain ⟨ks, hu, hz, ru⟩ := rh3.dcell l ad kvs hm3 hcl
          obtain ⟨ky, rfl, rfl⟩ := key_of rk hk.1
          have hl : ks.length < sizeLine := by rw [← ru.length, ← lim_size]; exact hk.2
          obtain ⟨e4, rh4⟩ := rh3.putD hm3 hu (ru.put ky ((rv.keep e2.keeps).keep e3.keeps)) (by have := length_putK ks ky vv; omega)
          exact .inr ⟨ad, _, rfl, DPut.k hu hl, o3 m3 _ e4 rh4 σ ((((rs.keep e1.keeps).keep e2.keeps).keep e3.keeps).keep e4.keeps)⟩
        · exact (show False from o3).elim
  · exact (show False from o3).elim
end
end Ev
end

section
/-! EvSnd11: loops, exceptions, pairs of names. -/
set_option autoImplicit false
set_option linter.all false
set_option Elab.async false
set_option maxRecDepth 100000
set_option maxHeartbeats 4000000
namespace Ev
open PySem L2 PyProof.Rows

theorem sole_tup0 {ts : List Expr} {a : Nat} {p : Pos} (e : Expr) (line : Nat) (env : PySem.Env) : swapsWithSole [.Tuple ts a p] e line env = pure false := by
  show swapsWith e (some (.Tuple ts a p)) line env = pure false
  cases e <;> rfl
section
variable {P : TrP} {XC : Nat → Option Addr} {kk : Nat} {N : List Str} {X : Cx} {Ex : XK} {F : Fns}
/-- the turns' end -/
theorem fl_loop {K : PySem.W.Frag} {z m : List Addr} {H : Hp} {D : Ends} {Nx : L2.St → Hp → Prop} {kont : Env → M Fl} {f : Fl} {h1 : Hh} (rh : RelH K z m H h1)
    (o : Out K XC z m H ((match f with
      | .nxt e => kont e
      | .cont e => kont e
      | .brk e => M.ret (.nxt e)
      | .ret v => M.ret (.ret v) : M Fl) h1) (FlP K z D) Ex)
    (hN : ∀ e σ, RelS K z m H e σ → Out K XC z m H (kont e h1) (FlP K z D) Ex → Nx σ H) : FlP K z { D with nx := Nx, ct := Nx, bk := D.nx } f h1 m H := by
  cases f with
  | nxt e => exact fun σ rs => hN e σ rs o
  | cont e => exact fun σ rs => hN e σ rs o
  | brk e => exact fun σ rs => o.ret m H (Ext.refl _ _) rh σ rs
  | ret v => exact o.ret m H (Ext.refl _ _) rh
theorem for_its {t : Ev.T} {body : Env → M Fl} {D : Ends} {z m1 : List Addr} {H1 : Hp} {h1 : Hh} {env : Env} {σ : L2.St} {xs : List PV} {J : L2.It} (rs : RelS X.K z m1 H1 env σ) (rh1 : RelH X.K z m1 H1 h1) (hJ : ItsOk X.K z m1 H1 xs J)
    (o : Out X.K XC z m1 H1 (forGo body (Ev.T.store t) xs env h1) (FlP X.K z D) Ex) :
    ∃ W : Nat → Nat → L2.St → Hp → Prop, (∃ n, W 0 n σ H1) ∧ ∀ i n σ H, W i n σ H →
  (J.stop i H ∧ D.nx σ H) ∨ (J.go i H ∧ ∃ Nx : L2.St → Hp → Prop, (∀ σ' H', Nx σ' H' → ∃ m', m' < n ∧ W (i + 1) m' σ' H') ∧ ∀ x H', J.yld i H x H' → gT X.K t x σ H' fun σ2 H2 => tS X.K XC Ex body { D with nx := Nx, ct := Nx, bk := D.nx } σ2 H2) := by
  refine ⟨fun i n σ H => n = xs.length - i ∧ i ≤ xs.length ∧ ∃ env h' m', Ext m1 H1 m' H ∧ RelH X.K z m' H h' ∧ RelS X.K z m' H env σ ∧ Out X.K XC z m' H (forGo body (Ev.T.store t) (xs.drop i) env h') (FlP X.K z D) Ex,
    ⟨xs.length, by simp, Nat.zero_le _, env, h1, m1, .refl _ _, rh1, rs, o⟩, ?_⟩
  rintro i n σ H ⟨rfl, hi, env, h', m', e, rh, rs, o'⟩
  by_cases hlt : i < xs.length
  · refine .inr ⟨hJ.go i _ m' H e.keeps hlt, fun σ' H' => ∃ env h' m', Ext m1 H1 m' H' ∧ RelH X.K z m' H' h' ∧ RelS X.K z m' H' env σ' ∧ Out X.K XC z m' H' (forGo body (Ev.T.store t) (xs.drop (i + 1)) env h') (FlP X.K z D) Ex, fun σ' H' hN => ⟨xs.length - (i + 1), by omega, rfl, hlt, hN⟩, fun x H' y => ?_⟩
    rw [List.drop_eq_getElem_cons hlt, forGo] at o'
    obtain ⟨e2, rh2, rx, _⟩ := hJ.yld i z m' H h' x H' xs[i] e.keeps rh (by simp [hlt]) y
    cases est : Ev.T.store t xs[i] env with
    | none => rw [est] at o'; exact (show False from o').elim
    | some env' =>
      rw [est] at o'
      refine ⟨env, env', xs[i], z, m', rs.keep e2.keeps, rx, est, fun σ' rs' _ => ⟨env', h', z, m', rs', rh2, ?_⟩⟩
      refine (o'.mono e2).bnd.imp fun f h3 m3 H3 e3 rh3 o3 => ?_
      exact fl_loop rh3 o3 fun e4 σ4 rs4 o4 => ⟨e4, h3, m3, (e.trans e2).trans e3, rh3, rs4, o4⟩
  · have hi' : i = xs.length := by omega
    subst hi'
    rw [List.drop_length, forGo] at o'
    exact .inl ⟨hJ.stop _ m' H e.keeps, o'.ret m' H (Ext.refl _ _) rh σ rs⟩
theorem for_cell {t : Ev.T} {body : Env → M Fl} {D : Ends} {z m1 : List Addr} {H1 : Hp} {h1 : Hh} {env : Env} {σ : L2.St} {l n : Nat} {a : Addr} (rs : RelS X.K z m1 H1 env σ) (rh1 : RelH X.K z m1 H1 h1) (ha : m1[l]? = some a)
    (o : Out X.K XC z m1 H1 (forCell body (Ev.T.store t) l n n env h1) (FlP X.K z D) Ex) :
    ∃ W : Nat → Nat → L2.St → Hp → Prop, (∃ n, W 0 n σ H1) ∧ ∀ i k σ H, W i k σ H →
  ((Itl X.K a).stop i H ∧ D.nx σ H) ∨ ((Itl X.K a).go i H ∧ ∃ Nx : L2.St → Hp → Prop, (∀ σ' H', Nx σ' H' → ∃ m', m' < k ∧ W (i + 1) m' σ' H') ∧ ∀ x H', (Itl X.K a).yld i H x H' → gT X.K t x σ H' fun σ2 H2 => tS X.K XC Ex body { D with nx := Nx, ct := Nx, bk := D.nx } σ2 H2) := by
  refine ⟨fun i k σ H => k = n - i ∧ i ≤ n ∧ ∃ env h' m', Ext m1 H1 m' H ∧ RelH X.K z m' H h' ∧ RelS X.K z m' H env σ ∧ Out X.K XC z m' H (forCell body (Ev.T.store t) l n (n - i) env h') (FlP X.K z D) Ex,
    ⟨n, by simp, Nat.zero_le _, env, h1, m1, .refl _ _, rh1, rs, o⟩, ?_⟩
  rintro i k σ H ⟨rfl, hi, env, h', m', e, rh, rs, o'⟩
  have get : ∀ {r : List PV → R Fl}, Out X.K XC z m' H (match h'[l]? with | some (.lst xs) => r xs | _ => .stuck) (FlP X.K z D) Ex → ∃ xs us, h'[l]? = some (.lst xs) ∧ H a = some (.lst us) ∧ Reps X.K z m' H xs us ∧ Out X.K XC z m' H (r xs) (FlP X.K z D) Ex := fun {r} q => by
    cases hc : h'[l]? with
    | none => rw [hc] at q; exact (show False from q).elim
    | some c =>
      cases c with
      | lst xs =>
        rw [hc] at q
        obtain ⟨us, q1, _, q3⟩ := rh.cell l a xs (e.at ha) hc
        exact ⟨xs, us, rfl, q1, q3, q⟩
      | dic _ => rw [hc] at q; exact (show False from q).elim
  by_cases hlt : i < n
  · have hk : n - i = (n - (i + 1)) + 1 := by omega
    rw [hk] at o'
    obtain ⟨xs, us, hc, hu, ru, o2⟩ := get o'
    split at o2
    · rename_i hn
      have hix : n - (n - (i + 1) + 1) = i := by omega
      rw [hix] at o2
      have hlx : i < xs.length := by omega
      have hlu : i < us.length := by rw [← ru.length]; exact hlx
      have sq : SqL X.K H a us := .inl (.inl hu)
      refine .inr ⟨⟨us, us[i], sq, by simp [hlu]⟩, fun σ' H' => ∃ env h' m', Ext m1 H1 m' H' ∧ RelH X.K z m' H' h' ∧ RelS X.K z m' H' env σ' ∧ Out X.K XC z m' H' (forCell body (Ev.T.store t) l n (n - (i + 1)) env h') (FlP X.K z D) Ex, fun σ' H' hN => ⟨n - (i + 1), by omega, rfl, hlt, hN⟩, fun x H' y => ?_⟩
      obtain ⟨rfl, y⟩ := y
      obtain ⟨x', hx1, hx2⟩ := ru.get (i := i) (x := xs[i]) (by simp [hlx])
      rw [y us sq] at hx1
      cases hx1
      have hxi : xs[i]? = some xs[i] := by simp [hlx]
      rw [hxi] at o2
      simp only at o2
      cases est : Ev.T.store t xs[i] env with
      | none => rw [est] at o2; exact (show False from o2).elim
      | some env' =>
        rw [est] at o2
        refine ⟨env, env', xs[i], z, m', rs, hx2, est, fun σ' rs' _ => ⟨env', h', z, m', rs', rh, ?_⟩⟩
        refine Out.imp (Out.bnd o2) fun f h3 m3 H3 e3 rh3 o3 => ?_
        exact fl_loop rh3 o3 fun e4 σ4 rs4 o4 => ⟨e4, h3, m3, e.trans e3, rh3, rs4, o4⟩
    · exact (show False from o2).elim
  · have hi' : i = n := by omega
    subst hi'
    rw [Nat.sub_self] at o'
    obtain ⟨xs, us, hc, hu, ru, o2⟩ := get o'
    split at o2
    · rename_i hn
      exact .inl ⟨⟨us, .inl (.inl hu), by rw [← ru.length, hn]; exact Nat.le_refl _⟩, o2 m' H (Ext.refl _ _) rh σ rs⟩
    · exact (show False from o2).elim
theorem st_for {tg iter : Expr} {body : List Stmt} {t : Ev.T} {rit : Env → M Run} {rb : Env → M Fl} {pos : Pos} (hp : PassesOwn (model X.prog X.w) X.A X.env X.xe) (hc : X.calm = true) (hi : PI X tg iter (tI X.K XC (WU Ex) rit)) (hg : PG X tg (gT X.K t)) (hb : PSs X body (tS X.K XC Ex rb)) (hs : plainE iter = true) :
    PS X (.For tg iter body [] pos) (tS X.K XC Ex fun env => M.bnd (rit env) fun r => match r with
    | .its xs => forGo rb (Ev.T.store t) xs env
    | .cell l n => forCell rb (Ev.T.store t) l n n env) := by
  refine (ps_for hp hc hi hg hb (plainE_fold hs X.env)).to fun D σ H q => ?_
  obtain ⟨env, h, z, m, rs, rh, out⟩ := q
  refine ⟨env, h, z, m, rs, rh, out.bnd.imp fun run h1 m1 H1 e1 rh1 o1 J hJ => ?_⟩
  cases run with
  | its xs => exact for_its (rs.keep e1.keeps) rh1 hJ o1
  | cell l n =>
    obtain ⟨a, ha, rfl⟩ := hJ
    exact for_cell (rs.keep e1.keeps) rh1 ha o1
theorem st_while {c : Expr} {body : List Stmt} {rc : Env → M PV} {rb : Env → M Fl} {pos : Pos} (hp : PassesOwn (model X.prog X.w) X.A X.env X.xe) (hc : PT X c (tTt X.K XC (WU Ex) (tst rc))) (hb : PSs X body (tS X.K XC Ex rb)) :
    PS X (.While c body [] pos) (tS X.K XC Ex fun env => whileGo (tst rc) rb turnsMost env) := by
  refine (ps_while hp hc hb).to fun D σ H q => ?_
  obtain ⟨env, h, z, m, rs, rh, out⟩ := q
  refine ⟨fun n σ H => ∃ env h m, RelS X.K z m H env σ ∧ RelH X.K z m H h ∧ Out X.K XC z m H (whileGo (tst rc) rb n env h) (FlP X.K z D) Ex, ⟨_, env, h, m, rs, rh, out⟩, ?_⟩
  rintro n σ H ⟨env, h, m, rs, rh, out⟩
  cases n with
  | zero => exact (show False from out).elim
  | succ n =>
    rw [whileGo] at out
    refine ⟨env, h, z, m, rs, rh, out.bnd.imp fun b h1 m1 H1 e1 rh1 o1 => ?_⟩
    cases b with
    | false => exact o1.ret m1 H1 (Ext.refl _ _) rh1 σ (rs.keep e1.keeps)
    | true =>
      simp only [if_true] at o1 ⊢
      refine ⟨fun σ' H' => ∃ env h m, RelS X.K z m H' env σ' ∧ RelH X.K z m H' h ∧ Out X.K XC z m H' (whileGo (tst rc) rb n env h) (FlP X.K z D) Ex, fun σ' H' hN => ⟨n, Nat.lt_succ_self n, hN⟩, env, h1, z, m1, rs.keep e1.keeps, rh1, o1.bnd.imp fun f h3 m3 H3 e3 rh3 o3 => ?_⟩
      exact fl_loop rh3 o3 fun e4 σ4 rs4 o4 => ⟨e4, h3, m3, rs4, rh3, o4⟩
theorem st_raise {T : Nat → Option Fn} {C : Nat → Option PV} {sc : Scope} (G : Gd P T C XC kk N sc X) (tk : Takes X (WU Ex)) {x s : Str} {j : Nat} {p p2 pos pos' : Pos} (h2 : isGl sc x = true) (h3 : P.excs.contains x = true) (hdb : (x == ("__debug__" : Str)) = false) :
    PS X (.Raise (some (.Call (.Name x p) [.Constant (.str s) j p2] [] pos)) none pos') (tS X.K XC Ex fun _ => fun h => .exc (code x) (.d .none) h) := by
  obtain ⟨Cc, q0, q1, q2, q3, q4, q5⟩ := G.facts.excs x h3
  refine (ps_raise G.calm tk (pmk_own PySem.F.excBase_ValueError q2 q1 q3 (raises_own q4 q5) (gl_of G h2) hdb)).to fun D σ H q => ?_
  obtain ⟨env, h, z, m, rs, rh, out⟩ := q
  exact out m H _ _ (Ext.refl _ _) rh ⟨Cc, q0, rfl, rfl⟩
theorem reps3 {K : PySem.W.Frag} {z m : List Addr} {H : Hp} {x y w : PV} {us : List V} (r : Reps K z m H [x, y, w] us) : ∃ u v o, us = [u, v, o] ∧ Rep K z m H x u ∧ Rep K z m H y v ∧ Rep K z m H w o := by
  obtain ⟨u, t, rfl, h1, h2⟩ := r
  obtain ⟨v, o, rfl, h3, h4⟩ := reps2 h2
  exact ⟨u, v, o, rfl, h1, h3, h4⟩
theorem st_par2 {i j : Nat} {x y : Str} {a b : Expr} {px py pt pos : Pos} {kt k2 pt2} {rs : Env → M (List PV)} (hc : X.calm = true) (hN : X.N.Nodup) (hi : X.N[i]? = some x) (hj : X.N[j]? = some y) (hij : i ≠ j)
    (hx : X.env.scope.names.lookup x = some .local) (hy : X.env.scope.names.lookup y = some .local) (ha : PA X [a, b] (tEs X.K XC (WU Ex) rs))
    (hw : swappedStores [.Tuple [.Name x px, .Name y py] kt pt] (.Tuple [a, b] k2 pt2) X.env = pure (some [x, y])) :
    PS X (.Assign [.Tuple [.Name x px, .Name y py] kt pt] (.Tuple [a, b] k2 pt2) pos) (tS X.K XC Ex fun env => M.bnd (rs env) fun vs => M.lift fun _ => match vs with
    | [v, w] => some (.nxt ((env.set i (some v)).set j (some w)))
    | _ => .none) := by
  refine (ps_par hc hN hi hj hij hx hy ha hw).to fun D σ H q => ?_
  obtain ⟨env, h, z, m, rs', rh, out⟩ := q
  refine ⟨env, h, z, m, rs', rh, out.bnd.imp fun vs h1 m1 H1 e1 rh1 o1 us rus => ?_⟩
  obtain ⟨f, ef, p⟩ := o1.lift
  split at ef
  · cases ef
    obtain ⟨u, v, rfl, r1, r2⟩ := reps2 rus
    exact ⟨u, v, rfl, p m1 H1 (Ext.refl _ _) rh1 _ (((rs'.keep e1.keeps).set r1).set r2)⟩
  · cases ef
theorem st_par3 {i j l : Nat} {x y w : Str} {a b c : Expr} {px py pz pt pos : Pos} {kt k2 pt2} {rs : Env → M (List PV)} (hc : X.calm = true) (hN : X.N.Nodup) (hi : X.N[i]? = some x) (hj : X.N[j]? = some y) (hl : X.N[l]? = some w) (hij : i ≠ j) (hil : i ≠ l) (hjl : j ≠ l)
    (hx : X.env.scope.names.lookup x = some .local) (hy : X.env.scope.names.lookup y = some .local) (hz : X.env.scope.names.lookup w = some .local) (ha : PA X [a, b, c] (tEs X.K XC (WU Ex) rs))
    (hw : swappedStores [.Tuple [.Name x px, .Name y py, .Name w pz] kt pt] (.Tuple [a, b, c] k2 pt2) X.env = pure (some [x, y, w])) :
    PS X (.Assign [.Tuple [.Name x px, .Name y py, .Name w pz] kt pt] (.Tuple [a, b, c] k2 pt2) pos) (tS X.K XC Ex fun env => M.bnd (rs env) fun vs => M.lift fun _ => match vs with
    | [u, v, w] => some (.nxt (((env.set i (some u)).set j (some v)).set l (some w)))
    | _ => .none) := by
  refine (ps_par3 hc hN hi hj hl hij hil hjl hx hy hz ha hw).to fun D σ H q => ?_
  obtain ⟨env, h, z, m, rs', rh, out⟩ := q
  refine ⟨env, h, z, m, rs', rh, out.bnd.imp fun vs h1 m1 H1 e1 rh1 o1 us rus => ?_⟩
  obtain ⟨f, ef, p⟩ := o1.lift
  split at ef
  · cases ef
    obtain ⟨u, v, o, rfl, r1, r2, r3⟩ := reps3 rus
    exact ⟨u, v, o, rfl, p m1 H1 (Ext.refl _ _) rh1 _ ((((rs'.keep e1.keeps).set r1).set r2).set r3)⟩
  · cases ef
/-- a store of an item -/
theorem put_ix {XC : Nat → Option Addr} {z m : List Addr} {H : Hp} {h : Hh} {x k v : PV} {vx vk vv : V} {env : Env} {Pq : Fl → Hh → List Addr → Hp → Prop} {E : XK} {Q : Hp → Prop} (rx : Rep X.K z m H x vx) (rk : Rep X.K z m H k vk) (rv : Rep X.K z m H v vv) (rh : RelH X.K z m H h)
    (o : Out X.K XC z m H (putIx x k v env h) Pq E) (hQ : ∀ h' H', Ext m H m H' → RelH X.K z m H' h' → Pq (.nxt env) h' m H' → Q H') : rSetL vx vk vv H Q ∨ rSetD vx vk vv H Q := by
  unfold putIx at o
  split at o
  · rename_i l kd
    rw [Rep] at rx
    obtain ⟨ad, rfl, hm⟩ := rx
    cases hcl : h[l]? with
    | none => rw [hcl] at o; exact (show False from o).elim
    | some c =>
      cases c with
      | lst xs =>
        rw [hcl] at o
        dsimp only at o
        split at o
        · rename_i n
          cases hj : place xs.length n with
          | none => rw [hj] at o; exact (show False from o).elim
          | some j =>
            rw [hj] at o
            dsimp only at o
            obtain ⟨us, hu, hz, ru⟩ := rh.cell l ad xs hm hcl
            obtain ⟨e4, rh4⟩ := rh.put hm hu (ru.set j rv) (by rw [List.length_set]; exact hz)
            exact .inl ⟨ad, us, n, j, rfl, rk.int, hu, by rw [← place_ix, ← ru.length]; exact hj, hQ _ _ e4 rh4 (o m _ e4 rh4)⟩
        · exact (show False from o).elim
      | dic kvs =>
        rw [hcl] at o
        dsimp only at o
        split at o
        · rename_i hk
          rw [Bool.and_eq_true, decide_eq_true_eq] at hk
          obtain ⟨ks, hu, hz, ru⟩ := rh.dcell l ad kvs hm hcl
          obtain ⟨ky, rfl, rfl⟩ := key_of rk hk.1
          have hl : ks.length < sizeLine := by rw [← ru.length, ← lim_size]; exact hk.2
          obtain ⟨e4, rh4⟩ := rh.putD hm hu (ru.put ky rv) (by have := length_putK ks ky vv; omega)
          exact .inr ⟨ad, _, rfl, DPut.k hu hl, hQ _ _ e4 rh4 (o m _ e4 rh4)⟩
        · exact (show False from o).elim
  · exact (show False from o).elim
theorem soloIx_sub {i : Expr} (h : soloIx i = true) : plainIx i = true := by
  cases i <;> first | rfl | (simp [soloIx] at h)
/-- o1[i1], o2[i2] = a, b -/
theorem st_sixs {k : Nat} {o1 i1 o2 i2 a b : Expr} {r1 q1 r2 q2 : Env → M PV} {rs : Env → M (List PV)} {p1 p2 pt pt2 pos : Pos} {k1 k2} (hr : Room k X.A) (hc : X.calm = true) (hw : swappedStores [.Tuple [.Subscript o1 i1 p1, .Subscript o2 i2 p2] k1 pt] (.Tuple [a, b] k2 pt2) X.env = pure none)
    (hi1 : plainIx i1 = true) (hi2 : plainIx i2 = true) (h1 : PE X o1 (tE X.K XC (WU Ex) r1)) (h2 : PE X i1 (tE X.K XC (WU Ex) q1)) (h3 : PE X o2 (tE X.K XC (WU Ex) r2)) (h4 : PE X i2 (tE X.K XC (WU Ex) q2)) (ha : PA X [a, b] (tEs X.K XC (WU Ex) rs)) :
    PS X (.Assign [.Tuple [.Subscript o1 i1 p1, .Subscript o2 i2 p2] k1 pt] (.Tuple [a, b] k2 pt2) pos) (tS X.K XC Ex fun env => M.bnd (rs env) fun vs => match vs with
    | [v, w] => M.bnd (r1 env) fun x => M.bnd (q1 env) fun k => M.bnd (putIx x k v env) fun _ => M.bnd (r2 env) fun y => M.bnd (q2 env) fun j => putIx y j w env
    | _ => M.stuck) := by
  have g1 : PG X (.Subscript o1 i1 p1) (gSub (tE X.K XC (WU Ex) r1) (tE X.K XC (WU Ex) q1) _) := pg_sub h1 h2 (set_both hr) (fun v => by cases i1 <;> first | rfl | (simp [plainIx] at hi1))
  have g2 : PG X (.Subscript o2 i2 p2) (gSub (tE X.K XC (WU Ex) r2) (tE X.K XC (WU Ex) q2) _) := pg_sub h3 h4 (set_both hr) (fun v => by cases i2 <;> first | rfl | (simp [plainIx] at hi2))
  refine (ps_asg (pe_tup ha) (pg_tup hc (pgs_cons g1 (pgs_cons g2 pgs_nil))) (sole_tup0 _ _ _) hw rfl).to fun D σ H q => ?_
  obtain ⟨env, h, z, m, rs', rh, out⟩ := q
  refine ⟨env, h, z, m, rs', rh, out.bnd.imp fun vs hh1 m1 H1 e1 rh1 o1 us rus => ?_⟩
  split at o1
  rotate_left
  · exact (show False from o1).elim
  rename_i v w
  obtain ⟨u, x, rfl, rv, rw'⟩ := reps2 rus
  refine ⟨by show 2 ≤ sizeLine; decide, fun q hq => ?_⟩
  have eN := Ext.new (m := m1) (o := .tup [u, x]) hq
  have rhN := rh1.keepNew (o := .tup [u, x]) hq
  refine ⟨q, [u, x], rfl, .inl (.inl upd_same), rfl, ?_⟩
  refine ⟨u, [x], rfl, ?_⟩
  have o2 := o1.mono eN
  refine ⟨env, hh1, z, m1, (rs'.keep e1.keeps).keep eN.keeps, rhN, o2.bnd.imp fun x1 hh2 m2 H2 e2 rh2 o3 vx rx => ?_⟩
  refine ⟨env, hh2, z, m2, ((rs'.keep e1.keeps).keep eN.keeps).keep e2.keeps, rh2, o3.bnd.imp fun k1 hh3 m3 H3 e3 rh3 o4 vk rk => ?_⟩
  refine put_ix (rx.keep e3.keeps) rk (((rv.keep eN.keeps).keep e2.keeps).keep e3.keeps) rh3 o4.bnd fun hh4 H4 e4 rh4 o5 => ?_
  refine ⟨x, [], rfl, ?_⟩
  refine ⟨env, hh4, z, m3, ((((rs'.keep e1.keeps).keep eN.keeps).keep e2.keeps).keep e3.keeps).keep e4.keeps, rh4, o5.bnd.imp fun y1 hh5 m5 H5 e5 rh5 o6 vy ry => ?_⟩
  refine ⟨env, hh5, z, m5, (((((rs'.keep e1.keeps).keep eN.keeps).keep e2.keeps).keep e3.keeps).keep e4.keeps).keep e5.keeps, rh5, o6.bnd.imp fun k2 hh6 m6 H6 e6 rh6 o7 vk2 rk2 => ?_⟩
  refine put_ix (ry.keep e6.keeps) rk2 (((((rw'.keep eN.keeps).keep e2.keeps).keep e3.keeps).keep e4.keeps).keep e5.keeps |>.keep e6.keeps) rh6 o7 fun hh7 H7 e7 rh7 fin => ?_
  exact ⟨rfl, fin σ (((((((rs'.keep e1.keeps).keep eN.keeps).keep e2.keeps).keep e3.keeps).keep e4.keeps).keep e5.keeps).keep e6.keeps |>.keep e7.keeps)⟩
end
end Ev
end

section
/-! EvSnd12: statements, all of them. -/
set_option autoImplicit false
set_option linter.all false
set_option Elab.async false
set_option maxRecDepth 100000
set_option maxHeartbeats 4000000
namespace Ev
open PySem L2 PyProof.Rows

theorem ite_n {c : Prop} [Decidable c] {x y k : Nat} (h : (if c then y else x) = k) (hn : ¬ c) : x = k := by rwa [if_neg hn] at h
theorem ite_y {c : Prop} [Decidable c] {x y k : Nat} (h : (if c then y else x) = k) (hn : c) : y = k := by rwa [if_pos hn] at h
theorem swK_0 {sc : Scope} {ts vs : List Expr} {a b : Nat} {p p2 : Pos} {env : PySem.Env} (hs : env.scope = sc) (hk : sc.kind = .function) (h : swK sc ts vs = 0) : swappedStores [.Tuple ts a p] (.Tuple vs b p2) env = pure none := by
  have hb : env.blockKind = .function := by unfold Env.blockKind; rw [hs, hk]; rfl
  have hn : ∀ id, env.kindOf id = sc.names.lookup id := fun id => by unfold Env.kindOf; rw [hs]
  unfold swappedStores
  simp only [hb, hn]
  unfold swK parNames at h
  simp only [bne_self_eq_false, Bool.or_false]
  split
  · rfl
  · rename_i h1
    have h := ite_n h h1
    split
    · rfl
    · rename_i h2
      have h := ite_n h h2
      split
      · rfl
      · rename_i h3
        have h := ite_n h h3
        split
        · rfl
        · rename_i h4
          have h := ite_n h h4
          split at h <;> simp at h
theorem swK_1 {sc : Scope} {ts vs : List Expr} {a b : Nat} {p p2 : Pos} {env : PySem.Env} (hs : env.scope = sc) (hk : sc.kind = .function) (h : swK sc ts vs = 1) : swappedStores [.Tuple ts a p] (.Tuple vs b p2) env = pure (some (parNames sc ts)) ∧ (parNames sc ts).length = ts.length := by
  have hb : env.blockKind = .function := by unfold Env.blockKind; rw [hs, hk]; rfl
  have hn : ∀ id, env.kindOf id = sc.names.lookup id := fun id => by unfold Env.kindOf; rw [hs]
  unfold swappedStores
  simp only [hb, hn]
  unfold swK parNames at h
  simp only [bne_self_eq_false, Bool.or_false]
  split
  · rename_i h1
    have h := ite_y h h1
    simp at h
  · rename_i h1
    have h := ite_n h h1
    split
    · rename_i h2
      have h := ite_y h h2
      simp at h
    · rename_i h2
      have h := ite_n h h2
      split
      · rename_i h3
        have h := ite_y h h3
        simp at h
      · rename_i h3
        have h := ite_n h h3
        split
        · rename_i h4
          have h := ite_y h h4
          simp at h
        · rename_i h4
          have h := ite_n h h4
          split
          · rename_i h5
            have h := ite_y h h5
            simp at h
          · refine ⟨rfl, ?_⟩
            have h3' : ¬ ((parNames sc ts).length != ts.length || (parNames sc ts).eraseDups.length != (parNames sc ts).length) = true := h3
            simp only [Bool.or_eq_true, bne_iff_ne, ne_eq, not_or, Decidable.not_not] at h3'
            exact h3'.1
theorem sole_tup {ts : List Expr} {a : Nat} {p : Pos} (e : Expr) (line : Nat) (env : PySem.Env) : swapsWithSole [.Tuple ts a p] e line env = pure false := by
  show swapsWith e (some (.Tuple ts a p)) line env = pure false
  cases e <;> rfl
theorem sole_sub {o i : Expr} {p : Pos} (e : Expr) (line : Nat) (env : PySem.Env) : swapsWithSole [.Subscript o i p] e line env = pure false := by
  show swapsWith e (some (.Subscript o i p)) line env = pure false
  cases e <;> rfl
theorem sw_sub {o i : Expr} {p : Pos} (e : Expr) (env : PySem.Env) : swappedStores [.Subscript o i p] e env = pure none := by
  cases e <;> rfl
theorem sw_tupO {ts : List Expr} {a : Nat} {p : Pos} {e : Expr} (env : PySem.Env) (h : ∀ vs k p, e ≠ .Tuple vs k p) : swappedStores [.Tuple ts a p] e env = pure none := by
  cases e <;> first | rfl | exact (h _ _ _ rfl).elim
def notComp : Expr → Bool
  | .ListComp .. => false
  | .SetComp .. => false
  | .DictComp .. => false
  | _ => true
theorem sw_none {e : Expr} (h : notComp e = true) (t : Option Expr) (line : Nat) (env : PySem.Env) : swapsWith e t line env = pure false := by
  cases e <;> first | rfl | (simp [notComp] at h)
def swB (sc scope : Scope) (vp : Pos) (x : Str) (p : Pos) : Bool := sc.kind == .function && (sc.names.lookup x == some .local) && p.line == vp.line && !(scope.names.any fun (n, k) => n == x && (k == .local || k == .cell))
theorem sw_comp {sc scope : Scope} {elt : Expr} {gens : List Comprehension} {vp p : Pos} {x : Str} {line : Nat} {env : PySem.Env} (hs : env.scope = sc) (hk : sc.kind = .function) : swapsWith (.ListComp elt gens scope vp) (some (.Name x p)) line env = pure (swB sc scope vp x p) := by
  have hb : env.blockKind = sc.kind := by unfold Env.blockKind; rw [hs, hk]; rfl
  have hn : ∀ id, env.kindOf id = sc.names.lookup id := fun id => by unfold Env.kindOf; rw [hs]
  unfold swapsWith swB
  simp only [hb, hn]
  rfl

/-- what a def's body needs -/
structure Gs (P : TrP) (T : Nat → Option Fn) (C : Nat → Option PV) (XC : Nat → Option Addr) (kk : Nat) (N : List Str) (sc : Scope) (X : Cx) (Ex : XK) : Prop where
  g : Gd P T C XC kk N sc X
  tk : Takes X (WU Ex)
  hp : PassesOwn (model X.prog X.w) X.A X.env X.xe
  ok : TgOk X sc
  kind : sc.kind = .function
section
variable {P : TrP} {T : Nat → Option Fn} {C : Nat → Option PV} {XC : Nat → Option Addr} {kk : Nat} {N : List Str} {X : Cx} {Ex : XK} {sc : Scope}
theorem notCallT_of {o : Expr} (h : notCallT o = true) : notCall o = true := by
  cases o <;> first | rfl | (simp [notCallT] at h)
theorem trE_comp {k : Nat} {e : Expr} {e' : E} (h : trE P k N sc e = some e') (hl : ∀ a b c d, e ≠ .ListComp a b c d) : notComp e = true := by
  cases k with
  | zero => simp [trE] at h
  | succ k => cases e <;> first | rfl | (simp [trE] at h; done) | exact (hl _ _ _ _ rfl).elim
/-- name = e -/
theorem s_set (G : Gs P T C XC kk N sc X Ex) {k i : Nat} {x : Str} {e : Expr} {e' : E} {p pos : Pos} (hl : isLoc sc x = true) (hi : idx N x = some i) (h : trE P k N sc e = some e') :
    PS X (.Assign [.Name x p] e pos) (tS X.K XC Ex (evS (Fof T C kk) (.set i e'))) := by
  have hN : X.N[i]? = some x := by rw [G.g.hN]; exact idx_at hi
  have nd : X.N.Nodup := by rw [G.g.hN]; exact G.g.nd
  obtain ⟨q1, q2⟩ := G.ok x hl
  have gen : swapsWith e (some (.Name x p)) pos.line X.env = pure false → PS X (.Assign [.Name x p] e pos) (tS X.K XC Ex (evS (Fof T C kk) (.set i e'))) := fun hs =>
    (ps_set nd hN q1 (sE G.g G.tk h).v hs q2).to fun D σ H q => asg_name (fun σ H Q q => q) D σ H q
  by_cases hc : notComp e = true
  · exact gen (sw_none hc _ _ _)
  · have hlc : ∃ a b c d, e = .ListComp a b c d := Classical.byContradiction fun hn => hc (trE_comp h fun a b c d eq => hn ⟨a, b, c, d, eq⟩)
    obtain ⟨elt, gens, scope, vp, rfl⟩ := hlc
    have hsw := sw_comp (elt := elt) (gens := gens) (scope := scope) (vp := vp) (p := p) (x := x) (line := pos.line) G.g.sc G.kind
    cases hb : swB sc scope vp x p with
    | false => rw [hb] at hsw; exact gen hsw
    | true =>
      rw [hb] at hsw
      have hyl : X.env.scope.names.lookup x = some .local := by
        unfold swB at hb
        simp only [Bool.and_eq_true, beq_iff_eq] at hb
        rw [G.g.sc]
        exact hb.1.1.2
      cases k with
      | zero => simp [trE] at h
      | succ k =>
        rcases gens with _ | ⟨⟨tg, iter, ifs, ia⟩, _ | ⟨g2, gs⟩⟩
        · simp [trE] at h
        · by_cases hia : ia = 0
          rotate_left
          · simp [trE, hia] at h
          subst hia
          simp only [trE] at h
          split at h
          · rename_i hb2
            simp only [Bool.and_eq_true, decide_eq_true_eq] at hb2
            obtain ⟨it, hit, h⟩ := Option.bind_eq_some_iff.mp h
            obtain ⟨t, ht, h⟩ := Option.bind_eq_some_iff.mp h
            obtain ⟨ifs', hifs, h⟩ := Option.bind_eq_some_iff.mp h
            obtain ⟨elt', helt, rfl⟩ := Option.map_eq_some_iff.mp h
            obtain ⟨pi, pf⟩ := sIt G.g G.tk hit
            refine (ps_setLc (g := gT X.K t) (tt := tTt X.K XC WNo fun env => evTs (Fof T C kk) ifs' env) (te := tE X.K XC WNo (evE (Fof T C kk) elt')) G.g.calm nd hN hyl hsw pi (blkOk_by (by rw [G.g.hN, G.g.sc]; exact hb2.1)) (fun s H Cc cl fp => ?_) (fun s H Cc cl fp => ?_) (fun s H Cc cl fp => ?_) (plainE_fold pf X.env)).to fun D σ H q => ?_
            · exact snd_T (X := X.blk s H scope (compEnvC scope cl Cc X.env) fp) G.g.calm G.g.nd G.g.hN tgOk_blk ht
            · exact sTs (W := WNo) hb2.2 (G.g.blk s H scope Cc cl fp) L2.takes0 hifs
            · exact (sE (W := WNo) (G.g.blk s H scope Cc cl fp) L2.takes0 helt).v
            · exact asg_name (re := evE (Fof T C kk) (.lc elt' t ((ownOf N scope.names).map (·.2)) it ifs')) (fun σ H Q q => lc_all (slots_in ht) q) D σ H q
          · cases h
        · rcases gs with _ | ⟨g3, gs⟩
          rotate_left
          · simp [trE] at h
          obtain ⟨tg1, iter1, ifs1, ia1⟩ := g2
          by_cases hia : ia = 0
          rotate_left
          · simp [trE, hia] at h
          by_cases hia1 : ia1 = 0
          rotate_left
          · simp [trE, hia1] at h
          subst hia hia1
          simp only [trE] at h
          split at h
          · rename_i hb2
            simp only [Bool.and_eq_true, decide_eq_true_eq] at hb2
            obtain ⟨it, hit, h⟩ := Option.bind_eq_some_iff.mp h
            obtain ⟨t, ht, h⟩ := Option.bind_eq_some_iff.mp h
            obtain ⟨ifs', hifs, h⟩ := Option.bind_eq_some_iff.mp h
            obtain ⟨it1, hit1, h⟩ := Option.bind_eq_some_iff.mp h
            obtain ⟨t1, ht1, h⟩ := Option.bind_eq_some_iff.mp h
            obtain ⟨ifs1', hifs1, h⟩ := Option.bind_eq_some_iff.mp h
            obtain ⟨elt', helt, rfl⟩ := Option.map_eq_some_iff.mp h
            obtain ⟨pi, pf⟩ := sIt G.g G.tk hit
            have pi1 := fun (s : Shared) (H : Hp) (Cc : Addr) (cl : List (Str × Addr)) (fp : List Addr) => sIt (W := WNo) (G.g.blk s H scope Cc cl fp) L2.takes0 hit1
            refine (ps_setLc2 (vs1 := t1.slots) (g := gT X.K t) (tt := tTt X.K XC WNo fun env => evTs (Fof T C kk) ifs' env) (wi1 := tI X.K XC WNo fun env => evIt (Fof T C kk) it1 env) (g1 := gT X.K t1) (tt1 := tTt X.K XC WNo fun env => evTs (Fof T C kk) ifs1' env) (te := tE X.K XC WNo (evE (Fof T C kk) elt')) G.g.calm nd hN hyl hsw pi (blkOk_by (by rw [G.g.hN, G.g.sc]; exact hb2.1.1)) (slots_in ht1)
              (fun s H Cc cl fp => ?_) (fun s H Cc cl fp => ?_) (fun s H Cc cl fp => (pi1 s H Cc cl fp).1) (fun s H Cc cl fp => ?_) (fun s H Cc cl fp => ?_) (fun s H Cc cl fp => ?_) (plainE_fold pf X.env) (plainE_fold (pi1 ({} : Shared) (fun _ => none) 0 [] []).2)).to fun D σ H q => ?_
            · exact snd_T (X := X.blk s H scope (compEnvC scope cl Cc X.env) fp) G.g.calm G.g.nd G.g.hN tgOk_blk ht
            · exact sTs (W := WNo) hb2.1.2 (G.g.blk s H scope Cc cl fp) L2.takes0 hifs
            · exact snd_T (X := X.blk s H scope (compEnvC scope cl Cc X.env) fp) G.g.calm G.g.nd G.g.hN tgOk_blk ht1
            · exact sTs (W := WNo) hb2.2 (G.g.blk s H scope Cc cl fp) L2.takes0 hifs1
            · exact (sE (W := WNo) (G.g.blk s H scope Cc cl fp) L2.takes0 helt).v
            · exact asg_name (re := evE (Fof T C kk) (.lc2 elt' t ((ownOf N scope.names).map (·.2)) it ifs' t1 t1.slots it1 ifs1')) (fun σ H Q q => lc2_all (slots_in ht) q) D σ H q
          · cases h
theorem append_name {m : Str} (h : (m == ("append" : Str)) = true) : m = "append" := str_eq h
end
section
variable {P : TrP} {T : Nat → Option Fn} {C : Nat → Option PV} {XC : Nat → Option Addr} {kk : Nat} {N : List Str} {X : Cx} {Ex : XK} {sc : Scope}
mutual
theorem sS (G : Gs P T C XC kk N sc X Ex) : ∀ {k : Nat} {s : Stmt} {s' : S}, trS P k N sc s = some s' → PS X s (tS X.K XC Ex (evS (Fof T C kk) s'))
  | 0, _, _, h => by simp [trS] at h
  | k + 1, s, s', h => by
    have gE : ∀ {e : Expr} {e' : E}, trE P k N sc e = some e' → Both XC X (WU Ex) e (evE (Fof T C kk) e') := fun h => sE G.g G.tk h
    have nd : X.N.Nodup := by rw [G.g.hN]; exact G.g.nd
    have tgt : ∀ {ts : List Expr} {a : Nat} {p pos : Pos} {e : Expr}, swappedStores [.Tuple ts a p] e X.env = pure none → ((trT k N sc (.Tuple ts a p)).bind fun t => (trE P k N sc e).map fun e' => S.sett t e') = some s' → PS X (.Assign [.Tuple ts a p] e pos) (tS X.K XC Ex (evS (Fof T C kk) s')) := fun {ts a p pos e} hw h => by
      obtain ⟨t, ht, h⟩ := Option.bind_eq_some_iff.mp h
      obtain ⟨e', he, rfl⟩ := Option.map_eq_some_iff.mp h
      exact st_tgt (gE he).v (snd_T G.g.calm G.g.nd G.g.hN G.ok ht) (sole_tup _ _ _) hw rfl
    simp only [trS] at h
    split at h
    · rename_i e pos
      have ex : ∀ {e : Expr}, (∀ a b c d, e ≠ .ListComp a b c d) → (trE P k N sc e).map S.expr = some s' → PS X (.Expr e pos) (tS X.K XC Ex (evS (Fof T C kk) s')) := fun {e} hl h => by
        obtain ⟨e', he, rfl⟩ := Option.map_eq_some_iff.mp h
        exact st_expr (gE he).v (sw_none (trE_comp he hl) _ _ _)
      split at h
      · rename_i o m apos a cpos
        split at h
        · rename_i h1
          simp only [Bool.and_eq_true] at h1
          obtain rfl := append_name h1.1.1
          obtain ⟨o', ho, h⟩ := Option.bind_eq_some_iff.mp h
          obtain ⟨a', ha, rfl⟩ := Option.map_eq_some_iff.mp h
          exact st_app (notCallT_of h1.2) h1.1.2 (plainE_star (trE_plain ha)) (gE ho).v (gE ha).v
        · exact ex (fun _ _ _ _ q => by cases q) h
      · cases h
      · rename_i hnl
        exact ex (fun a b c d q => hnl _ _ _ _ q) h
    · rename_i x p e pos
      split at h
      · rename_i hl
        obtain ⟨i, hi, h⟩ := Option.bind_eq_some_iff.mp h
        obtain ⟨e', he, rfl⟩ := Option.map_eq_some_iff.mp h
        exact s_set G hl hi he
      · cases h
    · rename_i ts a p e pos
      split at h
      · rename_i vs b p2
        split at h
        · rename_i o1 i1 p1 o2 i2 p3 v w
          split at h
          rotate_left
          · cases h
          rename_i hso
          rw [Bool.and_eq_true] at hso
          obtain ⟨o1', ho1, h⟩ := Option.bind_eq_some_iff.mp h
          obtain ⟨i1', hi1, h⟩ := Option.bind_eq_some_iff.mp h
          obtain ⟨o2', ho2, h⟩ := Option.bind_eq_some_iff.mp h
          obtain ⟨i2', hi2, h⟩ := Option.bind_eq_some_iff.mp h
          obtain ⟨es, hes, rfl⟩ := Option.map_eq_some_iff.mp h
          exact st_sixs G.g.room G.g.calm (swK_0 G.g.sc G.kind (by simp [swK, parNames])) (soloIx_sub hso.1) (soloIx_sub hso.2) (gE ho1).v (gE hi1).v (gE ho2).v (gE hi2).v (sEs G.g G.tk hes).1
        split at h
        · rename_i hk
          exact tgt (swK_0 G.g.sc G.kind hk) h
        · rename_i hk
          obtain ⟨hw, hlen⟩ := swK_1 (a := a) (b := b) (p := p) (p2 := p2) G.g.sc G.kind hk
          split at h
          · rename_i x px y py v w _
            obtain ⟨i, hi, h⟩ := Option.bind_eq_some_iff.mp h
            obtain ⟨j, hj, h⟩ := Option.bind_eq_some_iff.mp h
            split at h
            · rename_i hc
              simp only [Bool.and_eq_true, bne_iff_ne, ne_eq, beq_iff_eq] at hc
              obtain ⟨es, hes, rfl⟩ := Option.map_eq_some_iff.mp h
              have hpn : parNames sc [.Name x px, .Name y py] = [x, y] := by
                unfold parNames at hlen ⊢
                simp only [List.filterMap_cons, List.filterMap_nil] at hlen ⊢
                split at hlen <;> split at hlen <;> simp_all
              rw [hpn] at hw
              exact st_par2 G.g.calm nd (by rw [G.g.hN]; exact idx_at hi) (by rw [G.g.hN]; exact idx_at hj) hc.1.1 (by rw [G.g.sc]; exact hc.1.2) (by rw [G.g.sc]; exact hc.2) (sEs G.g G.tk hes).1 hw
            · cases h
          · rename_i x px y py z pz u v w _
            obtain ⟨i, hi, h⟩ := Option.bind_eq_some_iff.mp h
            obtain ⟨j, hj, h⟩ := Option.bind_eq_some_iff.mp h
            obtain ⟨l, hl, h⟩ := Option.bind_eq_some_iff.mp h
            split at h
            · rename_i hc
              simp only [Bool.and_eq_true, bne_iff_ne, ne_eq, beq_iff_eq] at hc
              obtain ⟨⟨⟨⟨⟨c1, c2⟩, c3⟩, c4⟩, c5⟩, c6⟩ := hc
              obtain ⟨es, hes, rfl⟩ := Option.map_eq_some_iff.mp h
              have hpn : parNames sc [.Name x px, .Name y py, .Name z pz] = [x, y, z] := by
                unfold parNames at hlen ⊢
                simp only [List.filterMap_cons, List.filterMap_nil] at hlen ⊢
                split at hlen <;> split at hlen <;> split at hlen <;> simp_all
              rw [hpn] at hw
              exact st_par3 G.g.calm nd (by rw [G.g.hN]; exact idx_at hi) (by rw [G.g.hN]; exact idx_at hj) (by rw [G.g.hN]; exact idx_at hl) c1 c2 c3 (by rw [G.g.sc]; exact c4) (by rw [G.g.sc]; exact c5) (by rw [G.g.sc]; exact c6) (sEs G.g G.tk hes).1 hw
            · cases h
          · cases h
        · cases h
      · rename_i hnt
        exact tgt (sw_tupO _ fun vs k p q => hnt _ _ _ q) h
    · rename_i o i p e pos
      split at h
      · cases h
      · cases h
      · cases h
      · obtain ⟨o', ho, h⟩ := Option.bind_eq_some_iff.mp h
        obtain ⟨i', hi, h⟩ := Option.bind_eq_some_iff.mp h
        obtain ⟨e', he, rfl⟩ := Option.map_eq_some_iff.mp h
        exact st_setix G.g.room (sole_sub _ _ _) (sw_sub _ _) (plainE_ix (trE_plain hi)) (gE ho).v (gE hi).v (gE he).v
    · obtain ⟨e', he, rfl⟩ := Option.map_eq_some_iff.mp h
      exact st_ret (gE he).v
    · cases h
      exact st_retN
    · obtain ⟨c', hc, h⟩ := Option.bind_eq_some_iff.mp h
      obtain ⟨a', ha, h⟩ := Option.bind_eq_some_iff.mp h
      obtain ⟨b', hb, rfl⟩ := Option.map_eq_some_iff.mp h
      exact st_if (gE hc).t (sSs G ha) (sSs G hb)
    · obtain ⟨it, hit, h⟩ := Option.bind_eq_some_iff.mp h
      obtain ⟨t, ht, h⟩ := Option.bind_eq_some_iff.mp h
      obtain ⟨b', hb, rfl⟩ := Option.map_eq_some_iff.mp h
      obtain ⟨pi, pf⟩ := sIt G.g G.tk hit
      exact st_for G.hp G.g.calm pi (snd_T G.g.calm G.g.nd G.g.hN G.ok ht) (sSs G hb) pf
    · obtain ⟨c', hc, h⟩ := Option.bind_eq_some_iff.mp h
      obtain ⟨b', hb, rfl⟩ := Option.map_eq_some_iff.mp h
      exact st_while G.hp (gE hc).t (sSs G hb)
    · split at h
      · rename_i h1
        simp only [Bool.and_eq_true] at h1
        split at h
        · cases h
          exact st_raise G.g G.tk h1.1.2 h1.2 (okN_of h1.1.1).1
        · cases h
      · cases h
    · cases h
      exact st_break
    · cases h
      exact st_cont
    · cases h
      exact st_pass
    · cases h
theorem sSs (G : Gs P T C XC kk N sc X Ex) : ∀ {k : Nat} {ss : List Stmt} {ss' : Ss}, trSs P k N sc ss = some ss' → PSs X ss (tS X.K XC Ex (evSs (Fof T C kk) ss'))
  | 0, _, _, h => by simp [trSs] at h
  | k + 1, [], ss', h => by
    simp only [trSs, Option.some.injEq] at h
    subst h
    exact st_nil
  | k + 1, s :: r, ss', h => by
    simp only [trSs] at h
    obtain ⟨r', hr, rfl⟩ := Option.map_eq_some_iff.mp h
    have hs : PS X s (tS X.K XC Ex (evS (Fof T C kk) ((trS P k N sc s).getD .never))) := by
      cases e : trS P k N sc s with
      | none => exact st_never
      | some s' => exact sS G e
    exact st_cons hs (sSs G hr)
end
end
end Ev
end

section
/-! EvSnd13: all defs keep their promises. -/
set_option autoImplicit false
set_option linter.all false
set_option Elab.async false
set_option maxRecDepth 100000
set_option maxHeartbeats 4000000
namespace Ev
open PySem L2 PyProof.Rows

/-- what is known of the text's names, once for all depths -/
structure Stat (P : TrP) (T : Nat → Option Fn) (C : Nat → Option PV) (XC : Nat → Option Addr) (sts : Str → Option Stmt) (K : PySem.W.Frag) (mg : Str → Option Value) : Prop where
  fns : ∀ x, P.fns.contains x = true → ∃ f fd st, sts x = some st ∧ mg x = some (.ref f) ∧ PySem.W.keepIn K (.ref f) = true ∧ (∀ us : List Value, us.length = (paramsOf st).length → bindArgs fd ⟨us, []⟩ = pure ((paramsOf st).zip us)) ∧ L2.Fun K x x st f fd ∧ FnScope (namesOf st) (paramsOf st) (defScope st) ∧ (∀ d, T (code x) = some d → trFn P st = some d)
  csts : ∀ x, P.csts.contains x = true → ∀ v, C (code x) = some v → ∃ u y, mg x = some u ∧ RelV y u ∧ ∀ z m H, Rep K z m H v y
  blts : ∀ x, P.blts.contains x = true → mg x = none
  excs : ∀ x, P.excs.contains x = true → ∃ Cc, XC (code x) = some Cc ∧ mg x = some (.ref Cc) ∧ PySem.W.excIn K Cc [.type "ValueError", .type "Exception", .type "BaseException", .type "object"] "ValueError.__new__" = true ∧ PySem.W.keepIn K (.ref Cc) = true ∧ PySem.W.subIn K (.ref Cc) (.type "BaseException") = some true ∧ PySem.W.typeIn K (.ref Cc) = some (.type "type")
  exm : ∀ x y, P.excs.contains x = true → P.hds.contains y = true → ∃ Cx Cy, XC (code x) = some Cx ∧ mg y = some (.ref Cy) ∧ PySem.W.exmOne K (.ref Cx) (.ref Cy) = some (isSub P.sup 8 x y)
  hdm : ∀ y, P.hds.contains y = true → ∃ Cy, mg y = some (.ref Cy)

section
variable {P : TrP} {T : Nat → Option Fn} {C : Nat → Option PV} {XC : Nat → Option Addr} {prog : Program} {w : World} {K : PySem.W.Frag} {mg : Str → Option Value} {base : Heap}
theorem trTd_par {excs : List Str} {sup : List (Str × Str)} {hdn : List Str} {st : Stmt} {t : List Nat × List (Nat × List Nat)} (h : trTd excs sup hdn st = some t) : (paramsOf st).length = 1 := by
  unfold trTd at h
  split at h
  · split at h
    · rename_i hc
      simp only [Bool.and_eq_true] at hc
      rw [eq_of_beq hc.1.1]; rfl
    · cases h
  · cases h
theorem trFn_np {st : Stmt} {d : Fn} (h : trFn P st = some d) : d.np = (paramsOf st).length ∧ (d.body = .cons .never .nil ∨ d.ns = (namesOf st).length ∧ trSs P 60 (namesOf st) (defScope st) (defBody st) = some d.body) ∧ ∀ t, d.td = some t → trTd P.excs P.sup P.hds st = some t := by
  unfold trFn at h
  split at h
  · rename_i t e
    cases h
    exact ⟨(trTd_par e).symm, .inl rfl, fun t' ht => by cases ht; exact e⟩
  · obtain ⟨b, hb, rfl⟩ := Option.map_eq_some_iff.mp h
    exact ⟨rfl, .inr ⟨rfl, hb⟩, fun t ht => by cases ht⟩
theorem start_rel {z m : List Addr} {H : Hp} {args : List PV} {vs : List V} {N : List Str} {n : Nat} (r : Reps K z m H args vs) (hn : n = N.length) : RelS K z m H (Ev.start n args) (L2.start N vs) := by
  have hl := r.length
  refine ⟨?_, fun i v h => ?_⟩
  · unfold Ev.start L2.start
    simp only [List.length_append, List.length_map, List.length_replicate, hl, hn]
  · unfold Ev.start at h
    unfold L2.start
    by_cases hi : i < args.length
    · rw [List.getElem?_append_left (by simpa using hi), List.getElem?_map] at h
      obtain ⟨a, ha, e⟩ := Option.map_eq_some_iff.mp h
      cases e
      obtain ⟨u, h1, h2⟩ := r.get ha
      exact ⟨u, by rw [List.getElem?_append_left (by simpa [← hl] using hi), List.getElem?_map, h1]; rfl, h2⟩
    · rw [List.getElem?_append_right (by simpa using hi), List.getElem?_replicate] at h
      split at h
      · cases h
      · cases h
theorem fnOk_zero {f : Addr} {fd : FuncData} {ps : List Str} {c : Nat} : FnOk prog w K mg base (L2.CX prog w) 0 f fd ps (spEv K XC ps.length (call T C 0 c)) :=
  ⟨fun vs H Q E h => h.1, fun A outer s H args us vs Q E _ _ _ _ h => by
    obtain ⟨_, a, hh, z, m, _, _, o⟩ := h
    exact (show False from o).elim⟩
theorem fnOk_succ {k : Nat} (F0 : Facts P T C XC prog w K mg base k) {x : Str} {f : Addr} {fd : FuncData} {st : Stmt} (F : L2.Fun K x x st f fd) (S : FnScope (namesOf st) (paramsOf st) (defScope st)) (hT : ∀ d, T (code x) = some d → trFn P st = some d) :
    FnOk prog w K mg base (L2.CX prog w) (3 * (k + 1)) f fd (paramsOf st) (spEv K XC (paramsOf st).length (call T C (k + 1) (code x))) := by
  obtain ⟨oc, od, kV, doc, pm, an, cdv, ct, osl, rfl, lk, hcd⟩ := F.ex
  refine fn_of (k := 3 * k + 2) lk hcd S (fun vs H Q E h => h.1) fun A outer s H vs Q E hr h => ?_
  obtain ⟨hl, args, hh, z, m, ra, rh, out⟩ := h
  rw [call] at out
  cases e : T (code x) with
  | none => rw [e] at out; exact (show False from out).elim
  | some d =>
    obtain ⟨q1, q2, _⟩ := trFn_np (hT d e)
    rw [e] at out
    simp only at out
    split at out
    rotate_left
    · exact (show False from out).elim
    rcases q2 with q2 | ⟨q2, q3⟩
    · exact False.elim (by
        have o1 := out.bnd
        rw [q2] at o1
        exact o1)
    have G : Gs P T C XC k (namesOf st) (defScope st) (cxOf (L2.CX prog w) prog w K mg base (namesOf st) x (defScope st) f cdv A outer s H E) E :=
      ⟨⟨F0, rfl, rfl, rfl, hr.mono (by omega), S.nd, fun _ => by
        obtain ⟨c, hc⟩ := He.codeIn_ref hcd
        exact ⟨f, oc, od, _, osl, c, lk, hc, hc, rfl, hr⟩⟩, L2.takes_of rfl rfl rfl rfl, L2.passes_of rfl, fun y hy => ⟨loc_of hy, .inl rfl⟩, S.kind⟩
    refine ⟨_, sSs G q3, Ev.start d.ns args, hh, z, m, start_rel ra q2, rh, out.bnd.imp fun r h1 m1 H1 e1 rh1 o1 => ?_⟩
    cases r with
    | ret v => exact o1.ret m1 H1 (Ext.refl _ _) rh1
    | nxt env => exact fun σ _ => o1.ret m1 H1 (Ext.refl _ _) rh1 .non rfl
    | brk env => exact (show False from o1).elim
    | cont env => exact (show False from o1).elim
theorem facts_all {sts : Str → Option Stmt} (S : Stat P T C XC sts K mg) (tbs : ∀ f oc od fd osl c, K.lookup f = some ⟨oc, od, .func fd, osl⟩ → fd.code = .ref c → LamX.TabB base mg c (He.tabOf K c)) (tbu : ∀ p ∈ tabsK K, ∀ q ∈ tabsK K, p.1 = q.1 → p.2 = q.2) (dics : ∀ x, P.dics.contains x = true → DicC C K w mg x) : ∀ k, Facts P T C XC prog w K mg base k := by
  have raw : ∀ x, P.fns.contains x = true → ∃ g fd st, mg x = some (.ref g) ∧ PySem.W.keepIn K (.ref g) = true ∧ (∀ us : List Value, us.length = (paramsOf st).length → bindArgs fd ⟨us, []⟩ = pure ((paramsOf st).zip us)) ∧ L2.Fun K x x st g fd ∧ FnScope (namesOf st) (paramsOf st) (defScope st) ∧ ∀ d t, T (code x) = some d → d.td = some t → trTd P.excs P.sup P.hds st = some t := fun x hx => by
    obtain ⟨f, fd, st, _, h1, h2, h3, h4, h5, h6⟩ := S.fns x hx
    exact ⟨f, fd, st, h1, h2, h3, h4, h5, fun d t hd ht => (trFn_np (h6 d hd)).2.2 t ht⟩
  intro k
  induction k with
  | zero => exact ⟨fun x hx => by
      obtain ⟨f, fd, st, _, h1, h2, h3, h4, h5, h6⟩ := S.fns x hx
      exact ⟨f, fd, paramsOf st, h1, h2, .all h3, fun d hd => (trFn_np (h6 d hd)).1, fnOk_zero⟩, S.csts, S.blts, S.excs, raw, S.exm, S.hdm, tbs, tbu, dics⟩
  | succ k ih => exact ⟨fun x hx => by
      obtain ⟨f, fd, st, _, h1, h2, h3, h4, h5, h6⟩ := S.fns x hx
      exact ⟨f, fd, paramsOf st, h1, h2, .all h3, fun d hd => (trFn_np (h6 d hd)).1, fnOk_succ ih h4 h5 h6⟩, S.csts, S.blts, S.excs, raw, S.exm, S.hdm, tbs, tbu, dics⟩
end

/-- the law, from the evaluator's run of it -/
def spOk (K : PySem.W.Frag) (r : List PV → M PV) : Sp := fun vs H Q _ => vs.length = 1 ∧ ∃ args h z m v h', Reps K z m H args vs ∧ RelH K z m H h ∧ r args h = .ok v h' ∧ ∀ m' H', Ext m H m' H' → RelH K z m' H' h' → ∀ x, Rep K z m' H' v x → Q x H'
theorem ints_rep {K : PySem.W.Frag} {H : Hp} : ∀ ns : List Int, RepDs K [] [] H (ns.map D.int) (ns.map V.int)
  | [] => by rw [List.map_nil, List.map_nil, RepDs]
  | n :: ns => by
    rw [List.map_cons, List.map_cons, RepDs]
    exact ⟨_, _, rfl, by rw [RepD], ints_rep ns⟩
end Ev
end

section
/-! EvStat: the facts of a text, one by one. -/
set_option autoImplicit false
set_option linter.all false
set_option Elab.async false
set_option maxRecDepth 100000
set_option maxHeartbeats 4000000
namespace Ev
open PySem L2 PyProof.Rows

/-- a name's facts -/
def FnSt (T : Nat → Option Fn) (P : TrP) (sts : Str → Option Stmt) (K : PySem.W.Frag) (mg : Str → Option Value) (x : Str) : Prop :=
  ∃ f fd st, sts x = some st ∧ mg x = some (.ref f) ∧ PySem.W.keepIn K (.ref f) = true ∧ (∀ us : List Value, us.length = (paramsOf st).length → bindArgs fd ⟨us, []⟩ = pure ((paramsOf st).zip us)) ∧ L2.Fun K x x st f fd ∧ FnScope (namesOf st) (paramsOf st) (defScope st) ∧ (∀ d, T (code x) = some d → trFn P st = some d)
def CsSt (C : Nat → Option PV) (K : PySem.W.Frag) (mg : Str → Option Value) (x : Str) : Prop := ∀ v, C (code x) = some v → ∃ u y, mg x = some u ∧ RelV y u ∧ ∀ z m H, Rep K z m H v y
def ExSt (XC : Nat → Option Addr) (K : PySem.W.Frag) (mg : Str → Option Value) (x : Str) : Prop := ∃ Cc, XC (code x) = some Cc ∧ mg x = some (.ref Cc) ∧ PySem.W.excIn K Cc [.type "ValueError", .type "Exception", .type "BaseException", .type "object"] "ValueError.__new__" = true ∧ PySem.W.keepIn K (.ref Cc) = true ∧ PySem.W.subIn K (.ref Cc) (.type "BaseException") = some true ∧ PySem.W.typeIn K (.ref Cc) = some (.type "type")
theorem all_nil {Q : Str → Prop} : ∀ x ∈ ([] : List Str), Q x := fun _ h => by cases h
theorem all_cons {Q : Str → Prop} {a : Str} {r : List Str} (h1 : Q a) (h2 : ∀ x ∈ r, Q x) : ∀ x ∈ a :: r, Q x := fun x h => by
  rcases List.mem_cons.mp h with rfl | h
  · exact h1
  · exact h2 x h
theorem mem_of {xs : List Str} {x : Str} (h : xs.contains x = true) : x ∈ xs := by simpa using h
theorem stat_of {P : TrP} {T : Nat → Option Fn} {C : Nat → Option PV} {XC : Nat → Option Addr} {sts : Str → Option Stmt} {K : PySem.W.Frag} {mg : Str → Option Value} (h1 : ∀ x ∈ P.fns, FnSt T P sts K mg x) (h2 : ∀ x ∈ P.csts, CsSt C K mg x) (h3 : ∀ x ∈ P.blts, mg x = none) (h4 : ∀ x ∈ P.excs, ExSt XC K mg x)
    (h5 : ∀ x ∈ P.excs, ∀ y ∈ P.hds, ∃ Cx Cy, XC (code x) = some Cx ∧ mg y = some (.ref Cy) ∧ PySem.W.exmOne K (.ref Cx) (.ref Cy) = some (isSub P.sup 8 x y)) (h6 : ∀ y ∈ P.hds, ∃ Cy, mg y = some (.ref Cy)) :
    Stat P T C XC sts K mg := ⟨fun x h => h1 x (mem_of h), fun x h => h2 x (mem_of h), fun x h => h3 x (mem_of h), fun x h => h4 x (mem_of h), fun x y hx hy => h5 x (mem_of hx) y (mem_of hy), fun y hy => h6 y (mem_of hy)⟩
section
variable {P : TrP} {T : Nat → Option Fn} {C : Nat → Option PV} {XC : Nat → Option Addr} {sts : Str → Option Stmt} {K : PySem.W.Frag} {mg : Str → Option Value} {h : Heap}
theorem fn_st {st : Stmt} {x : Str} (S : FnScope (namesOf st) (paramsOf st) (defScope st)) (hs : sts x = some st) (hT : T (code x) = trFn P st)
    (hb : ∀ (kV doc pm : Value) (an : Option Addr) (cdv ct : Value) (us : List Value), us.length = (paramsOf st).length → bindArgs (PySem.W.fnOf x x (defArgs st) (defBody st) (defScope st) .none kV doc pm an cdv ct) ⟨us, []⟩ = pure ((paramsOf st).zip us))
    (X : K.In h) (G : h.Ns mainGlobals mg) {f : Addr} {oc : Value} {od an : Option Addr} {osl : Array (Option Value)} {kV doc pm cdv ct : Value}
    (a : PySem.W.nsIn K mainGlobals x = some (some (.ref f))) (l : K.lookup f = some ⟨oc, od, .func (PySem.W.fnOf x x (defArgs st) (defBody st) (defScope st) .none kV doc pm an cdv ct), osl⟩) (c : PySem.W.codeIn K cdv x = true) (k : PySem.W.keepIn K (.ref f) = true) : FnSt T P sts K mg x :=
  ⟨f, _, st, hs, PySem.W.mg_of X G a, k, fun us hl => hb _ _ _ _ _ _ us hl, fun_mk l c k, S, fun d hd => by rw [← hT]; exact hd⟩
theorem ex_st (X : K.In h) (G : h.Ns mainGlobals mg) {x : Str} {Cc : Addr} (a : PySem.W.nsIn K mainGlobals x = some (some (.ref Cc))) (hx : XC (code x) = some Cc) (e : PySem.W.excIn K Cc [.type "ValueError", .type "Exception", .type "BaseException", .type "object"] "ValueError.__new__" = true) (k : PySem.W.keepIn K (.ref Cc) = true) (s : PySem.W.subIn K (.ref Cc) (.type "BaseException") = some true) (t : PySem.W.typeIn K (.ref Cc) = some (.type "type")) :
    ExSt XC K mg x := ⟨Cc, hx, PySem.W.mg_of X G a, e, k, s, t⟩
/-- the exceptions' addresses, as the written part has them -/
def xcOf (K : PySem.W.Frag) (xs : List Str) (c : Nat) : Option Addr := (xs.find? fun x => code x == c).bind fun x => match PySem.W.nsIn K mainGlobals x with
  | some (some (.ref a)) => some a
  | _ => none

/-! ### constants: what the written part says of them -/
mutual
def readV (K : PySem.W.Frag) : Nat → Value → Option D
  | 0, _ => none
  | n + 1, v => match v with
    | .none => some .none
    | .bool b => some (.bool b)
    | .int i _ => some (.int i)
    | .str s _ => some (.str s.cps.toList)
    | .ref a => match K.lookup a with
      | some ⟨.type "tuple", none, .seq its _, _⟩ => if its.size ≤ 1000 then (readVs K n its.toList).map D.tup else none
      | _ => none
    | _ => none
def readVs (K : PySem.W.Frag) : Nat → List Value → Option (List D)
  | 0, _ => none
  | n + 1, vs => match vs with
    | [] => some []
    | v :: r => (readV K n v).bind fun d => (readVs K n r).map fun ds => d :: ds
end
mutual
theorem readV_ok : ∀ {n : Nat} {v : Value} {d : D}, readV K n v = some d → ∃ y, RelV y v ∧ ∀ z m H, RepD K z m H d y
  | 0, _, _, h => by simp [readV] at h
  | n + 1, v, d, h => by
    cases v with
    | none => simp only [readV, Option.some.injEq] at h; subst h; exact ⟨.non, rfl, fun _ _ _ => by rw [RepD]⟩
    | bool b => simp only [readV, Option.some.injEq] at h; subst h; exact ⟨.bl b, rfl, fun _ _ _ => by rw [RepD]⟩
    | int i t => simp only [readV, Option.some.injEq] at h; subst h; exact ⟨.int i, ⟨t, rfl⟩, fun _ _ _ => by rw [RepD]⟩
    | str s t => simp only [readV, Option.some.injEq] at h; subst h; exact ⟨.str s, ⟨t, rfl⟩, fun _ _ _ => by rw [RepD]⟩
    | ref a =>
      simp only [readV] at h
      split at h
      · rename_i its n1 sl hk
        split at h
        · rename_i hz
          obtain ⟨ds, hds, rfl⟩ := Option.map_eq_some_iff.mp h
          obtain ⟨ys, hv, hr⟩ := readVs_ok hds
          have hzl : its.size ≤ sizeLine := Nat.le_trans hz (by decide)
          refine ⟨.ref a, rfl, fun z m H => ?_⟩
          rw [RepD]
          exact ⟨a, ys, rfl, .inr ⟨_, its, n1, hk, rfl, rfl, rfl, hzl, hv⟩, by rw [hv.length]; simpa using hzl, hr z m H⟩
        · cases h
      · cases h
    | _ => simp [readV] at h
theorem readVs_ok : ∀ {n : Nat} {vs : List Value} {ds : List D}, readVs K n vs = some ds → ∃ ys, Vals ys vs ∧ ∀ z m H, RepDs K z m H ds ys
  | 0, _, _, h => by simp [readVs] at h
  | n + 1, [], ds, h => by
    simp only [readVs, Option.some.injEq] at h; subst h
    exact ⟨[], .nil, fun _ _ _ => by rw [RepDs]⟩
  | n + 1, v :: r, ds, h => by
    simp only [readVs] at h
    obtain ⟨d, hd, h⟩ := Option.bind_eq_some_iff.mp h
    obtain ⟨es, he, rfl⟩ := Option.map_eq_some_iff.mp h
    obtain ⟨y, q1, q2⟩ := readV_ok hd
    obtain ⟨ys, q3, q4⟩ := readVs_ok he
    refine ⟨y :: ys, .cons q1 q3, fun z m H => ?_⟩
    rw [RepDs]
    exact ⟨y, ys, rfl, q2 z m H, q4 z m H⟩
end
theorem cs_st (X : K.In h) (G : h.Ns mainGlobals mg) {x : Str} {u : Value} {d : D} (hc : C (code x) = some (.d d)) (a : PySem.W.nsIn K mainGlobals x = some (some u)) (r : readV K 40 u = some d) : CsSt C K mg x := fun v hv => by
  rw [hc] at hv
  cases hv
  obtain ⟨y, q1, q2⟩ := readV_ok r
  exact ⟨u, y, PySem.W.mg_of X G a, q1, q2⟩
theorem cs_no {x : Str} (hc : C (code x) = none) : CsSt C K mg x := fun v hv => by rw [hc] at hv; cases hv
end
end Ev
end

section
/-! EvHead: a law's end by one run of the top; all facts of its text by one look at what the top has left. -/
set_option autoImplicit false
set_option linter.all false
set_option Elab.async false
set_option maxRecDepth 100000
set_option maxHeartbeats 4000000
namespace Ev
open PySem L2 PyProof.Rows

mutual
def D.beq : D → D → Bool
  | .none, .none => true
  | .bool a, .bool b => a == b
  | .int i, .int j => i == j
  | .str s, .str t => s == t
  | .list xs, .list ys => D.beqs xs ys
  | .tup xs, .tup ys => D.beqs xs ys
  | _, _ => false
def D.beqs : List D → List D → Bool
  | [], [] => true
  | x :: xs, y :: ys => D.beq x y && D.beqs xs ys
  | _, _ => false
end
mutual
theorem D.beq_eq : ∀ {x y : D}, D.beq x y = true → x = y
  | .none, y, h => by cases y <;> simp_all [D.beq]
  | .bool _, y, h => by cases y <;> simp_all [D.beq]
  | .int _, y, h => by cases y <;> simp_all [D.beq]
  | .str _, y, h => by cases y <;> simp_all [D.beq]
  | .list xs, y, h => by
    cases y with
    | list ys => rw [D.beq] at h; rw [D.beqs_eq h]
    | _ => simp [D.beq] at h
  | .tup xs, y, h => by
    cases y with
    | tup ys => rw [D.beq] at h; rw [D.beqs_eq h]
    | _ => simp [D.beq] at h
theorem D.beqs_eq : ∀ {xs ys : List D}, D.beqs xs ys = true → xs = ys
  | [], ys, h => by cases ys <;> simp_all [D.beqs]
  | x :: xs, ys, h => by
    cases ys with
    | nil => simp [D.beqs] at h
    | cons y ys =>
      rw [D.beqs, Bool.and_eq_true] at h
      rw [D.beq_eq h.1, D.beqs_eq h.2]
end
def defD (st : Stmt) : He.DefD := match st with
  | .FunctionDef n a b _ _ _ sc _ _ _ => ⟨(n, none), n, n, a, b, sc, [], []⟩
  | _ => ⟨("", none), "", "", ⟨[], [], none, [], [], none, []⟩, [], ⟨.function, [], false, false, []⟩, [], []⟩
/-- the constants are read as told -/
def exB (cs : List (Str × D)) (K : PySem.W.Frag) : Bool := cs.all fun p => match PySem.W.nsIn K mainGlobals p.1 with
  | some (some u) => (match readV K 40 u with
    | some d => D.beq d p.2
    | none => false)
  | _ => false
/-- the functions of the written part are these, each table belongs to one name -/
def tbB (tf : List He.Defn) (K : PySem.W.Frag) : Bool :=
  (K.all fun p => match p.2.data with
    | .func fd => (match fd.code with
      | .ref c => tf.any fun x => decide (He.codeOf K x = c)
      | _ => true)
    | _ => true) && (tabsK K).all fun p => (tabsK K).all fun q => !decide (p.1 = q.1) || decide (p.2 = q.2)
def faOf (P : TrP) : List He.Fa := P.fns.map He.Fa.glo ++ (P.blts.map He.Fa.free ++ (P.excs.map He.Fa.glo ++ (P.excs.map He.Fa.exc ++ (P.hds.map He.Fa.glo ++ P.excs.flatMap fun x => P.hds.map fun y => He.Fa.exm x y (isSub P.sup 8 x y)))))
/-- a def's text, and what its binding gives -/
structure DefOk (P : TrP) (T : Nat → Option Fn) (x : Str) (st : Stmt) : Prop where
  sc : FnScope (namesOf st) (paramsOf st) (defScope st)
  nm : defD st = ⟨(x, none), x, x, defArgs st, defBody st, defScope st, [], []⟩
  tr : T (code x) = trFn P st
  bd : ∀ (kV doc pm : Value) (an : Option Addr) (cdv ct : Value) (us : List Value), us.length = (paramsOf st).length → bindArgs (PySem.W.fnOf x x (defArgs st) (defBody st) (defScope st) .none kV doc pm an cdv ct) ⟨us, []⟩ = pure ((paramsOf st).zip us)
/-- the defs that the table knows -/
def DefsOk (P : TrP) (T : Nat → Option Fn) (tb : List (Str × Stmt)) : Prop := ∀ p ∈ tb, DefOk P T p.1 p.2
theorem defsOk_nil {P : TrP} {T : Nat → Option Fn} : DefsOk P T [] := fun _ h => by cases h
theorem defsOk_cons {P : TrP} {T : Nat → Option Fn} {x : Str} {st : Stmt} {r : List (Str × Stmt)} (h : DefOk P T x st) (t : DefsOk P T r) : DefsOk P T ((x, st) :: r) := fun p hp => by
  rcases List.mem_cons.mp hp with rfl | hp
  · exact h
  · exact t p hp
theorem lookup_at {tb : List (Str × Stmt)} {x : Str} (h : x ∈ tb.map (·.1)) : ∃ st, tb.lookup x = some st ∧ (x, st) ∈ tb := by
  induction tb with
  | nil => simp at h
  | cons p r ih =>
    obtain ⟨y, st⟩ := p
    by_cases e : x = y
    · subst e
      exact ⟨st, by simp [List.lookup], by simp⟩
    · obtain ⟨st', h1, h2⟩ := ih (by simpa [e] using h)
      refine ⟨st', ?_, by simp [h2]⟩
      rw [List.lookup]
      have : (x == y) = false := by simpa using e
      rw [this]
      exact h1
theorem stat_head {P : TrP} {T : Nat → Option Fn} {C : Nat → Option PV} {tb : List (Str × Stmt)} {cs : List (Str × D)} {K : PySem.W.Frag} {mg : Str → Option Value} {h : Heap} (X : K.In h) (G : h.Ns mainGlobals mg)
    (S : He.SaysD (faOf P) (tb.map fun p => defD p.2) K) (E : exB cs K = true) (D0 : DefsOk P T tb) (hf : ∀ x ∈ P.fns, x ∈ tb.map (·.1)) (hc : ∀ x ∈ P.csts, C (code x) = none ∨ ∃ d, C (code x) = some (.d d) ∧ (x, d) ∈ cs)
    (hx : ∀ x ∈ P.excs, ∀ y ∈ P.excs, code x = code y → x = y) :
    Stat P T C (fun c => (P.excs.find? fun x => code x == c).map (He.ga K)) (fun x => tb.lookup x) K mg := by
  have xat : ∀ x ∈ P.excs, (P.excs.find? fun y => code y == code x).map (He.ga K) = some (He.ga K x) := fun x hxx => by
    cases e : P.excs.find? (fun y => code y == code x) with
    | none =>
      have := List.find?_eq_none.mp e x hxx
      simp at this
    | some y =>
      have h1 := List.find?_some e
      have h2 := List.mem_of_find?_eq_some e
      simp only [beq_iff_eq] at h1
      rw [hx y h2 x hxx h1]
      rfl
  refine stat_of (fun x hx => ?_) (fun x hx => ?_) (fun x hx => ?_) (fun x hxx => ?_) (fun x hxx y hy => ?_) fun y hy => ?_
  · obtain ⟨st, h1, h2⟩ := lookup_at (hf x hx)
    have O := D0 _ h2
    obtain ⟨fd, F⟩ := He.SaysD.defs S (d := defD st) (List.mem_map.mpr ⟨_, h2, rfl⟩)
    have O1 := O.nm
    dsimp only at O1
    rw [O1] at F
    obtain ⟨oc, od, dV, kV, doc, pm, an, cdv, ct, osl, e1, e2, e3, e4, e5⟩ := F.ex
    have e6 : dV = .none := by
      rcases e4 with ⟨_, e⟩ | ⟨e, _⟩
      · exact e
      · exact (e rfl).elim
    subst e6 e1
    have e2 : K.lookup (He.ga K x) = some ⟨oc, od, .func (PySem.W.fnOf x x (defArgs st) (defBody st) (defScope st) .none kV doc pm an cdv ct), osl⟩ := e2
    exact ⟨He.ga K x, _, st, h1, He.glo_ok X G (He.SaysD.facts S (by simp [faOf, hx])), F.kp, fun us hl => O.bd _ _ _ _ _ _ us hl, fun_mk e2 e3 F.kp, O.sc, fun d hd => by rw [← O.tr]; exact hd⟩
  · intro v hv
    rcases hc x hx with e | ⟨d, e, hm⟩
    · rw [e] at hv; cases hv
    · rw [e] at hv
      cases hv
      have q := List.all_eq_true.mp E _ hm
      dsimp only at q
      split at q
      · rename_i u hu
        split at q
        · rename_i d' hd
          rw [D.beq_eq q] at hd
          obtain ⟨y, q1, q2⟩ := readV_ok hd
          exact ⟨u, y, PySem.W.mg_of X G hu, q1, q2⟩
        · cases q
      · cases q
  · exact He.free_ok X G (He.SaysD.facts S (by simp [faOf, hx]))
  · have q := He.exc_ok (He.SaysD.facts S (f := .exc x) (by simp [faOf, hxx]))
    exact ⟨He.ga K x, xat x hxx, He.glo_ok X G (He.SaysD.facts S (by simp [faOf, hxx])), q.1, q.2.1, q.2.2.1, q.2.2.2⟩
  · exact ⟨He.ga K x, He.ga K y, xat x hxx, He.glo_ok X G (He.SaysD.facts S (by simp [faOf, hy])), He.exm_ok (He.SaysD.facts S (f := .exm x y (isSub P.sup 8 x y)) (by
      unfold faOf
      refine List.mem_append_right _ (List.mem_append_right _ (List.mem_append_right _ (List.mem_append_right _ (List.mem_append_right _ ?_))))
      exact List.mem_flatMap.mpr ⟨x, hxx, List.mem_map.mpr ⟨y, hy, rfl⟩⟩))⟩
  · exact ⟨He.ga K y, He.glo_ok X G (He.SaysD.facts S (by simp [faOf, hy]))⟩
theorem csts_of {C : Nat → Option PV} {xs : List Str} {cs : List (Str × D)} (h : (xs.all fun x => match C (code x) with
  | none => true
  | some (.d d) => cs.any fun p => p.1 == x && D.beq p.2 d
  | _ => false) = true) : ∀ x ∈ xs, C (code x) = none ∨ ∃ d, C (code x) = some (.d d) ∧ (x, d) ∈ cs := fun x hx => by
  have q := List.all_eq_true.mp h x hx
  split at q
  · rename_i e
    exact .inl e
  · rename_i d e
    obtain ⟨p, hp, z⟩ := List.any_eq_true.mp q
    rw [Bool.and_eq_true] at z
    obtain ⟨z1, z2⟩ := z
    have z1 := eq_of_beq z1
    have z2 := D.beq_eq z2
    obtain ⟨p1, p2⟩ := p
    subst z1 z2
    exact .inr ⟨_, e, hp⟩
  · cases q
theorem excs_of {xs : List Str} (h : (xs.all fun x => xs.all fun y => !(code x == code y) || x == y) = true) : ∀ x ∈ xs, ∀ y ∈ xs, code x = code y → x = y := fun x hx y hy e => by
  have q := List.all_eq_true.mp (List.all_eq_true.mp h x hx) y hy
  rw [e] at q
  simpa using q
/-! ### tables -/
def readEs (K : PySem.W.Frag) : List DictEntry → Option (List (D × D))
  | [] => some []
  | e :: r => match e.key with
    | .str x _ => (readV K 40 e.val).bind fun d => (readEs K r).map fun t => (.str (codes x), d) :: t
    | _ => none
def beqKV : List (D × D) → List (D × D) → Bool
  | [], [] => true
  | p :: r, q :: t => D.beq p.1 q.1 && D.beq p.2 q.2 && beqKV r t
  | _, _ => false
theorem beqKV_eq : ∀ {a b : List (D × D)}, beqKV a b = true → a = b
  | [], [], _ => rfl
  | [], _ :: _, h => by simp [beqKV] at h
  | _ :: _, [], h => by simp [beqKV] at h
  | p :: r, q :: t, h => by
    rw [beqKV, Bool.and_eq_true, Bool.and_eq_true] at h
    obtain ⟨p1, p2⟩ := p
    obtain ⟨q1, q2⟩ := q
    have a1 : p1 = q1 := D.beq_eq h.1.1
    have a2 : p2 = q2 := D.beq_eq h.1.2
    rw [beqKV_eq h.2, a1, a2]
/-- the tables are read as told -/
def dxB (ds : List (Str × List (D × D))) (K : PySem.W.Frag) : Bool := ds.all fun p => match PySem.W.nsIn K mainGlobals p.1 with
  | some (some (.ref a)) => (match K.lookup a with
    | some ⟨_, _, .dict es _, _⟩ => (match readEs K es.toList with
      | some l => beqKV l p.2
      | none => false)
    | _ => false)
  | _ => false
theorem codes_inj {x : Str} {s : List Nat} (h : codes x = s) : x = ⟨s.toArray⟩ := by
  subst h
  exact (codes_mk x).symm
theorem dicOk_es {K : PySem.W.Frag} (s : List Nat) : ∀ {es : List DictEntry} {kvs : List (D × D)}, readEs K es = some kvs → (∀ p, (kvs.find? fun p => D.eqv p.1 (.str s)) = some p → ∃ e u y, es.find? (·.key.isStr ⟨s.toArray⟩) = some e ∧ e.val = u ∧ RelV y u ∧ ∀ z m H, RepD K z m H p.2 y) ∧
    ((kvs.find? fun p => D.eqv p.1 (.str s)) = none → es.find? (·.key.isStr ⟨s.toArray⟩) = none ∧ es.any (·.refKey) = false)
  | [], kvs, h => by
    simp only [readEs, Option.some.injEq] at h
    subst h
    exact ⟨fun p e => by simp at e, fun _ => ⟨rfl, rfl⟩⟩
  | e :: r, kvs, h => by
    simp only [readEs] at h
    split at h
    · rename_i x tk hk
      obtain ⟨d, hd, h⟩ := Option.bind_eq_some_iff.mp h
      obtain ⟨t, ht, rfl⟩ := Option.map_eq_some_iff.mp h
      obtain ⟨i1, i2⟩ := dicOk_es s ht
      have hb : e.key.isStr ⟨s.toArray⟩ = (codes x == s) := by
        rw [hk]
        show (x == (⟨s.toArray⟩ : Str)) = _
        rw [Bool.eq_iff_iff, beq_iff_eq, beq_iff_eq]
        exact ⟨fun q => by rw [q]; rfl, codes_inj⟩
      have hq : D.eqv (.str (codes x)) (.str s) = (codes x == s) := rfl
      rw [List.find?_cons, List.find?_cons]
      dsimp only
      rw [hb, hq]
      cases hc : codes x == s with
      | true =>
        refine ⟨fun p hp => ?_, fun hp => by cases hp⟩
        cases hp
        obtain ⟨y, y1, y2⟩ := readV_ok hd
        exact ⟨e, _, y, rfl, rfl, y1, y2⟩
      | false =>
        refine ⟨i1, fun hp => ?_⟩
        obtain ⟨j1, j2⟩ := i2 hp
        refine ⟨j1, ?_⟩
        rw [List.any_cons, j2, Bool.or_false]
        unfold DictEntry.refKey
        rw [hk]
    · cases h
theorem dics_of {P : TrP} {C : Nat → Option PV} {ds : List (Str × List (D × D))} {K : PySem.W.Frag} {w : World} {mg : Str → Option Value} {h : Heap} {ts : List He.Tab} {fa : List He.Fa} {fn : List He.DefD} (X : K.In h) (G : h.Ns mainGlobals mg) (S : He.SaysT fa fn ts w K) (E : dxB ds K = true)
    (hd : ∀ x ∈ P.dics, ∃ kvs, C (code x) = some (.dict kvs) ∧ (x, kvs) ∈ ds ∧ ∃ (i : Nat) (ks : List Str), ts[i]? = some (fun K => He.ga K x, ks)) : ∀ x, P.dics.contains x = true → DicC C K w mg x := fun x hx => by
  obtain ⟨kvs, h1, h2, i, ks, h3⟩ := hd x (mem_of hx)
  obtain ⟨es, n, hk⟩ := S.tab i h3
  dsimp only at hk
  have q := List.all_eq_true.mp E _ h2
  dsimp only at q
  split at q
  · rename_i a ha
    have hga : He.ga K x = a := by unfold He.ga; rw [ha]
    rw [hga] at hk
    rw [hk.at_] at q
    dsimp only at q
    split at q
    · rename_i l hl
      have := beqKV_eq q
      subst this
      refine ⟨_, a, es, n, h1, PySem.W.mg_of X G ha, hk, fun s => ?_⟩
      obtain ⟨j1, j2⟩ := dicOk_es s hl
      refine ⟨fun p hp => ?_, fun hp => ?_⟩
      · obtain ⟨e, u, y, e1, e2, e3, e4⟩ := j1 p hp
        refine ⟨u, y, ?_, e3, e4⟩
        unfold PySem.W.nsIn
        rw [hk.at_]
        dsimp only
        rw [e1, ← e2]
      · obtain ⟨e1, e2⟩ := j2 hp
        unfold PySem.W.nsIn
        rw [hk.at_]
        dsimp only
        rw [e1, e2]
        rfl
    · cases q
  · cases q
def ksOf (ds : List (Str × List (D × D))) (x : Str) : List Str := ((ds.lookup x).getD []).map fun p => match p.1 with
    | .str s => (⟨s.toArray⟩ : Str)
    | _ => ""
theorem dicsIn_of {C : Nat → Option PV} {xs : List Str} {ds : List (Str × List (D × D))} {ts : List He.Tab} (h : (xs.all fun x => match C (code x) with
  | some (.dict kvs) => ds.any fun p => p.1 == x && beqKV p.2 kvs
  | _ => false) = true) (ht : ts = xs.map fun x => (fun K => He.ga K x, ksOf ds x)) : ∀ x ∈ xs, ∃ kvs, C (code x) = some (.dict kvs) ∧ (x, kvs) ∈ ds ∧ ∃ (i : Nat) (ks : List Str), ts[i]? = some (fun K => He.ga K x, ks) := fun x hx => by
  have q := List.all_eq_true.mp h x hx
  split at q
  · rename_i kvs e
    obtain ⟨p, hp, z⟩ := List.any_eq_true.mp q
    rw [Bool.and_eq_true] at z
    obtain ⟨p1, p2⟩ := p
    have z1 := eq_of_beq z.1
    have z2 := beqKV_eq z.2
    subst z1 z2
    obtain ⟨i, hi, e2⟩ := List.getElem_of_mem hx
    refine ⟨_, e, hp, i, ksOf ds p1, ?_⟩
    rw [ht, List.getElem?_map, List.getElem?_eq_getElem hi, e2]
    rfl
  · cases q
/-- the law, over what the top has left -/
theorem walk_head {l : PySem.W.OpenLaw} {q : Program} {loose : List Str} {XP : (Str → Option Value) → Heap → Prop} {d : DefRec} {P : TrP} {T : Nat → Option Fn} {C : Nat → Option PV} {tb : List (Str × Stmt)} {cs : List (Str × D)} {st : Stmt} {n : Nat} {tf : List He.Defn} {ds : List (Str × List (D × D))} {ts : List He.Tab} (k : Nat)
    (hn : l.most = some 63) (hdf : d.params.defaults = []) (hr : Room (3 * k) callerA) (hnm : d.name = ("law" : Str)) (hfn : P.fns.contains ("law" : Str) = true)
    (D0 : DefsOk P T tb) (hf : ∀ x ∈ P.fns, x ∈ tb.map (·.1)) (hc : ∀ x ∈ P.csts, C (code x) = none ∨ ∃ d, C (code x) = some (.d d) ∧ (x, d) ∈ cs) (hxx : ∀ x ∈ P.excs, ∀ y ∈ P.excs, code x = code y → x = y) (hdd : ∀ x ∈ P.dics, ∃ kvs, C (code x) = some (.dict kvs) ∧ (x, kvs) ∈ ds ∧ ∃ (i : Nat) (ks : List Str), ts[i]? = some (fun K => He.ga K x, ks))
    {x : Str} (hst : tb.lookup ("law" : Str) = some st) (hps : paramsOf st = [x])
    (hlaw : ∀ ns : List Int, ns.length ≤ 63 → ∃ h', call T C k (code "law") [.scr (ns.map D.int)] [] = .ok (.d (.bool true)) h') :
    PySem.W.WalkO q loose XP (He.hookX n (faOf P) (tb.map fun p => defD p.2) ts tf (fun K => (exB cs K && dxB ds K) && tbB tf K)).says l.row.toRowW d [] (fun f vs => PySem.call f vs) := by
  refine LamX.walk_ofTsE (n := 63) (k := 3 * k) (x := x) (CX := fun w => L2.CX l.prog w) hn (by decide) hdf hr (fun w mg fa h Y G hmg => ?_) fun w H s e s' z => ?_
  · obtain ⟨K, KX, SX⟩ := Y
    have SD : He.SaysD (faOf P) (tb.map fun p => defD p.2) K := SX.t.d
    obtain ⟨more1, more2⟩ := Bool.and_eq_true_iff.mp SX.more
    obtain ⟨more1, more3⟩ := Bool.and_eq_true_iff.mp more1
    obtain ⟨tb1, tb2⟩ := Bool.and_eq_true_iff.mp more2
    have S := stat_head KX G SD more1 D0 hf hc hxx
    have tin : ∀ p ∈ tabsK K, ∃ x ∈ tf, p.1 = (He.cT K x).2 := fun p hp => by
      obtain ⟨o, h1, h2⟩ := List.mem_filterMap.mp hp
      have q := List.all_eq_true.mp tb1 o h1
      split at h2
      · rename_i fd hfd
        rw [hfd] at q
        dsimp only at q
        split at h2
        · rename_i c hc'
          rw [hc'] at q
          dsimp only at q
          cases h2
          obtain ⟨x, hx, e⟩ := List.any_eq_true.mp q
          exact ⟨x, hx, by rw [He.cT, of_decide_eq_true e]⟩
        · cases h2
      · cases h2
    refine ⟨K, KX, ?_⟩
    rw [hnm] at hmg
    obtain ⟨f, fd, st', h0, h1, h2, h3, h4, h5, h6⟩ := S.fns ("law" : Str) hfn
    have e := hmg.symm.trans h1
    cases e
    rw [hst] at h0
    cases h0
    have hp := hps
    refine ⟨fd, tf.map (He.cT K), spOk K (call T C k (code "law")), (fun p hp => ?_), (fun p hp => ?_), (fun p hp => ?_), (fun s u => .of_eq ?_), fun H a ns hl _ hH hS => ?_, fun base hK hN hTB => ?_⟩
    · obtain ⟨x, hx, rfl⟩ := List.mem_map.mp hp
      exact SX.empty x hx
    · obtain ⟨x, hx, rfl⟩ := List.mem_map.mp hp
      exact SX.out x hx
    · obtain ⟨x, hx, rfl⟩ := List.mem_map.mp hp
      exact PySem.W.codeHd_of_K KX (SX.hd x hx)
    · have := h3 [u] (by rw [hp]; rfl)
      rw [hp] at this
      exact this
    · obtain ⟨h', hcall⟩ := hlaw ns hl
      refine ⟨rfl, [.scr (ns.map D.int)], [], [], [], .d (.bool true), h', ⟨.ref a, [], rfl, ⟨a, ns.map V.int, rfl, ?_, ?_, ints_rep ns⟩, rfl⟩, ⟨List.nodup_nil, rfl, fun l a xs h => by simp at h, fun l a xs h => by simp at h, fun a ha => by simp at ha, fun p hp => ?_⟩, hcall, fun m' H' _ _ x rx => rx⟩
      · rcases hS with hS | hS
        · exact .inl ⟨hS, by simp, by simp⟩
        · exact .inr hS
      · rw [List.length_map]
        exact Nat.le_trans hl (by decide)
      · obtain ⟨x, hx, ex⟩ := tin p hp
        refine LamX.TabS.nil ?_
        rw [ex]
        exact hH _ (List.mem_map.mpr ⟨x, hx, rfl⟩)
    · have F : FnOk l.prog w K mg base (L2.CX l.prog w) (3 * k) fa fd (paramsOf st) (spEv K (fun c => (P.excs.find? fun x => code x == c).map (He.ga K)) (paramsOf st).length (call T C k (code "law"))) := by
        cases k with
        | zero => exact fnOk_zero
        | succ k =>
          refine fnOk_succ (facts_all S (fun f oc od fd osl c e1 e2 => ?_) (fun p hp q hq e => ?_) (dics_of KX G SX.t more3 hdd) k) h4 h5 h6
          · have q := List.all_eq_true.mp tb1 _ (lookup_mem2 e1)
            dsimp only at q
            rw [e2] at q
            dsimp only at q
            obtain ⟨x, hx, ex⟩ := List.any_eq_true.mp q
            have ex := of_decide_eq_true ex
            have := hTB _ (List.mem_map.mpr ⟨x, hx, rfl⟩)
            unfold He.cT at this
            rw [ex] at this
            exact this
          · have z := List.all_eq_true.mp (List.all_eq_true.mp tb2 p hp) q hq
            rw [Bool.or_eq_true] at z
            rcases z with z | z
            · simp [e] at z
            · exact of_decide_eq_true z
      rw [hp] at F
      refine F.imp fun vs H Q E q => ?_
      obtain ⟨q1, args, hh, z, m, v, h', q2, q3, q4, q5⟩ := q
      refine ⟨q1, args, hh, z, m, q2, q3, ?_⟩
      rw [q4]
      exact q5
  · obtain ⟨_, _, _, _, _, _, _, _, _, _, _, _, z⟩ := z
    exact z.elim
end Ev
end

section
set_option Elab.async false
set_option linter.all false
set_option maxRecDepth 100000
set_option maxHeartbeats 2000000
/-! EvMask: the Hook by a list of addresses that is told apart by the bits of one number; the run of the head in parts -/
namespace Ev
open PySem PySem.W PyProof.Rows
/-- the addresses of l that m has no bit of, ahead of acc; m with their bits -/
def addM : List Addr → Nat → List Addr → List Addr × Nat
  | [], m, acc => (acc, m)
  | a :: r, m, acc => Nat.casesOn (motive := fun _ => List Addr × Nat) a (addM r m acc) fun n => match Nat.beq (Nat.land (Nat.shiftRight m (Nat.succ n)) 1) 0 with
    | true => addM r (Nat.lor m (Nat.shiftLeft 1 (Nat.succ n))) (Nat.succ n :: acc)
    | false => addM r m acc
def refsL (g : Addr → Option Obj) : List Addr → List Addr
  | [] => []
  | a :: r => match g a with
    | some o => He.refsD o ++ refsL g r
    | none => refsL g r
/-- the newest ones, all others, the bits -/
def asM3 (g : Addr → Option Obj) : Nat → List Addr × List Addr × Nat
  | 0 => ([mainGlobals], [], Nat.shiftLeft 1 mainGlobals)
  | n + 1 => match asM3 g n with
    | (fr, old, m) => match addM (refsL g fr) m [] with
      | (nw, m') => (nw, fr ++ old, m')
def asM (n : Nat) (g : Addr → Option Obj) : List Addr := match asM3 g n with
  | (fr, old, _) => fr ++ old
def obsM (as : (Addr → Option Obj) → List Addr) (fa : List He.Fa) (fn : List He.DefD) (ts : List He.Tab) (tf : List He.Defn) (ex : Frag → Bool) (g : Addr → Option Obj) : He.AlX :=
  (He.obsT fa fn ts (He.frT g (as g)), ex (He.frT g (as g)) && He.tabsB g tf (He.frT g (as g)))
theorem saysM_of {as : List Addr} {fa : List He.Fa} {fn : List He.DefD} {ts : List He.Tab} {tf : List He.Defn} {ex : Frag → Bool} {w : World} {h : Heap} (e : (He.obsT fa fn ts (He.frT h.get? as), ex (He.frT h.get? as) && He.tabsB h.get? tf (He.frT h.get? as)) = He.valX fn ts w) : He.SaysX fa fn ts tf ex w h (He.frT h.get? as) := by
  have e1 : He.obsT fa fn ts (He.frT h.get? as) = He.valT fn ts w := congrArg (fun z : He.AlX => z.1) e
  have e2 : (ex (He.frT h.get? as) && He.tabsB h.get? tf (He.frT h.get? as)) = true := congrArg (fun z : He.AlX => z.2) e
  obtain ⟨h1, h2⟩ := Bool.and_eq_true_iff.mp e2
  have key : ∀ p ∈ tf, PySem.W.codeHdIn (He.frT h.get? as) (He.cT (He.frT h.get? as) p).1 (He.cT (He.frT h.get? as) p).2 = true ∧ ∃ o, h.get? (He.cT (He.frT h.get? as) p).2 = some o ∧ He.emptyTab o = true := fun p hp => by
    obtain ⟨h3, h4⟩ := Bool.and_eq_true_iff.mp (List.all_eq_true.mp h2 p hp)
    refine ⟨h3, ?_⟩
    cases q : h.get? (He.cT (He.frT h.get? as) p).2 with
    | none =>
      rw [q] at h4
      cases h4
    | some o =>
      rw [q] at h4
      exact ⟨o, rfl, h4⟩
  exact ⟨e1, h1, fun p hp => (key p hp).1, fun p hp => by
    obtain ⟨_, o, q, z⟩ := key p hp
    exact He.frT_none q z, fun p hp => by
    obtain ⟨_, o, q, z⟩ := key p hp
    rw [q, He.emptyTab_eq z]⟩
def hookM (n : Nat) (fa : List He.Fa) (fn : List He.DefD) (ts : List He.Tab) (tf : List He.Defn) (ex : Frag → Bool) : Hook where
  α := He.AlX
  obs := fun s => obsM (asM n) fa fn ts tf ex s.heap.get?
  val := fun w => He.valX fn ts w
  says := (He.hookX n fa fn ts tf ex).says
  of := fun _ _ e => ⟨_, He.frT_in, saysM_of e⟩
  keeps := (He.hookX n fa fn ts tf ex).keeps
theorem hookM_says {n : Nat} {fa : List He.Fa} {fn : List He.DefD} {ts : List He.Tab} {tf : List He.Defn} {ex : Frag → Bool} : (hookM n fa fn ts tf ex).says = (He.hookX n fa fn ts tf ex).says := rfl
theorem obsM_eq {n : Nat} {fa : List He.Fa} {fn : List He.DefD} {ts : List He.Tab} {tf : List He.Defn} {ex : Frag → Bool} {g : Addr → Option Obj} {s : Shared} (h : ∀ a, g a = s.heap.get? a) : obsM (asM n) fa fn ts tf ex g = (hookM n fa fn ts tf ex).obs s := by
  have e : g = s.heap.get? := funext h
  rw [e]
  rfl
/-- what stands off the tree -/
abbrev frM (n : Nat) (s : SharedT) : Frag := He.frT (HandSHeadRun.getT s) (asM n (HandSHeadRun.getT s))
/-- the run in parts -/
theorem run_of {r : OpenRow} {q : Program} {M : Nat} {loose : List Str} {w : World} {n : Nat} {fa : List He.Fa} {fn : List He.DefD} {ts : List He.Tab} {tf : List He.Defn} {ex : Frag → Bool}
    (a : ∀ os, (HandSHeadRun.endF (HandSHeadRun.stepQ (HandSHeadRun.denQ HandSHeadRun.tabQ) r.prog w) M r.prog w os).map (fun s => (HandSHeadRun.looksF r.prog (boot_heap w.params) s.abs, HandSHeadRun.seenQ q loose (importedModules r.prog.main.body) (fun s => xlAt q [] s && recOk r.toRowW.records s) s.abs)) = some (true, openGood q loose))
    (b : ∀ os, (HandSHeadRun.endF (HandSHeadRun.stepQ (HandSHeadRun.denQ HandSHeadRun.tabQ) r.prog w) M r.prog w os).map (fun s => He.obsT fa fn ts (frM n s)) = some (He.valT fn ts w))
    (c : ∀ os, (HandSHeadRun.endF (HandSHeadRun.stepQ (HandSHeadRun.denQ HandSHeadRun.tabQ) r.prog w) M r.prog w os).map (fun s => ex (frM n s)) = some true)
    (d : ∀ os, (HandSHeadRun.endF (HandSHeadRun.stepQ (HandSHeadRun.denQ HandSHeadRun.tabQ) r.prog w) M r.prog w os).map (fun s => He.tabsB (HandSHeadRun.getT s) tf (frM n s)) = some true) :
    HandSHeadRun.RunEq r q (hookM n fa fn ts tf ex) (fun s => obsM (asM n) fa fn ts tf ex (HandSHeadRun.getT s)) M loose w := by
  intro os
  have a1 := a os
  have b1 := b os
  have c1 := c os
  have d1 := d os
  cases hx : HandSHeadRun.endF (HandSHeadRun.stepQ (HandSHeadRun.denQ HandSHeadRun.tabQ) r.prog w) M r.prog w os with
  | none =>
    rw [hx] at a1
    cases a1
  | some s =>
    rw [hx] at a1 b1 c1 d1
    injection a1 with a2
    injection a2 with a3 a4
    have b2 : He.obsT fa fn ts (frM n s) = He.valT fn ts w := Option.some.inj b1
    have c2 : ex (frM n s) = true := Option.some.inj c1
    have d2 : He.tabsB (HandSHeadRun.getT s) tf (frM n s) = true := Option.some.inj d1
    have e3 : obsM (asM n) fa fn ts tf ex (HandSHeadRun.getT s) = (hookM n fa fn ts tf ex).val w := by
      show (He.obsT fa fn ts (frM n s), ex (frM n s) && He.tabsB (HandSHeadRun.getT s) tf (frM n s)) = (He.valT fn ts w, true)
      rw [b2, c2, d2]
      rfl
    exact congrArg some (Prod.ext a3 (Prod.ext a4 e3))
end Ev
end

section
/-! EvRun: the evaluator's steps as equations for simp. Plain Lean. -/
set_option autoImplicit false
set_option linter.all false
namespace Ev
/-- what goes on behind a run -/
def R.bd {α β : Type} (r : R α) (f : α → Hh → R β) : R β := match r with
  | .ok a h => f a h
  | .exc c v h => .exc c v h
  | .stuck => .stuck
def opt {α : Type} (o : Option α) (h : Hh) : R α := match o with
  | some a => .ok a h
  | none => .stuck
section
variable {α β γ : Type}
@[simp] theorem rn_bd_ok (a : α) (h : Hh) (f : α → Hh → R β) : R.bd (.ok a h) f = f a h := rfl
@[simp] theorem rn_bd_exc (c : Nat) (v : PV) (h : Hh) (f : α → Hh → R β) : R.bd (.exc c v h) f = .exc c v h := rfl
@[simp] theorem rn_bd_stuck (f : α → Hh → R β) : R.bd .stuck f = .stuck := rfl
@[simp] theorem rn_opt_some (a : α) (h : Hh) : opt (some a) h = .ok a h := rfl
@[simp] theorem rn_opt_none (h : Hh) : opt (none : Option α) h = .stuck := rfl
@[simp] theorem rn_bnd_ap (x : M α) (f : α → M β) (h : Hh) : M.bnd x f h = R.bd (x h) f := rfl
@[simp] theorem rn_ret_ap (a : α) (h : Hh) : M.ret a h = .ok a h := rfl
@[simp] theorem rn_stuck_ap (h : Hh) : (M.stuck : M α) h = .stuck := rfl
@[simp] theorem rn_lift_ap (f : Hh → Option α) (h : Hh) : M.lift f h = opt (f h) h := rfl
@[simp] theorem rn_guardH_ap (f : Hh → Bool) (h : Hh) : guardH f h = opt (if f h then some () else none) h := rfl
@[simp] theorem rn_guard_ap (b : Bool) (h : Hh) : guardM b h = opt (if b then some () else none) h := rfl
@[simp] theorem rn_ite_ap (c : Prop) [Decidable c] (a b : M α) (h : Hh) : (if c then a else b) h = if c then a h else b h := by split <;> rfl
@[simp] theorem rn_calm_ok (a : α) (x : M α) (h : Hh) : M.calm x h = match x h with
  | .ok a h' => .ok a h'
  | _ => .stuck := rfl
end
variable (F : Fns) (env : Env) (h : Hh)
@[simp] theorem rn_e_var (i : Nat) : evE F (.var i) env h = opt ((env[i]?).bind id) h := rfl
@[simp] theorem rn_e_cst (i : Nat) : evE F (.cst i) env h = opt (F.cst i) h := rfl
@[simp] theorem rn_e_lit (d : D) : evE F (.lit d) env h = .ok (.d d) h := rfl
@[simp] theorem rn_e_bin (o : Op) (a b : E) : evE F (.bin o a b) env h = R.bd (evE F a env h) fun x h => R.bd (evE F b env h) fun y h => opt (binop h o x y) h := rfl
@[simp] theorem rn_e_not (a : E) : evE F (.not a) env h = R.bd (evE F a env h) fun x h => opt ((truthy h x).map fun b => .d (.bool (!b))) h := rfl
@[simp] theorem rn_e_cmp (o : Cm) (a b : E) : evE F (.cmp o a b) env h = R.bd (evE F a env h) fun x h => R.bd (evE F b env h) fun y h => opt ((cmpop h o x y).map fun b => .d (.bool b)) h := rfl
@[simp] theorem rn_e_cmp2 (o p : Cm) (a b c : E) : evE F (.cmp2 o p a b c) env h = R.bd (evE F a env h) fun x h => R.bd (evE F b env h) fun y h => R.bd (opt (cmpop h o x y) h) fun r h =>
  if r then R.bd (evE F c env h) fun z h => opt ((cmpop h p y z).map fun b => .d (.bool b)) h else .ok (.d (.bool false)) h := by
  show R.bd _ (fun x => M.bnd _ _) = _
  congr 1; funext x h; show R.bd _ _ = _; congr 1; funext y h; show R.bd _ _ = _; congr 1; funext r h
  cases r <;> rfl
@[simp] theorem rn_e_isc (n : Bool) (a : E) (c : D) : evE F (.isc n a c) env h = R.bd (evE F a env h) fun x h => opt ((isC x c).map fun b => .d (.bool (if n then !b else b))) h := rfl
@[simp] theorem rn_e_and (a b : E) : evE F (.and a b) env h = R.bd (evE F a env h) fun x h => R.bd (opt (truthy h x) h) fun r h => if r then evE F b env h else .ok x h := by
  show R.bd _ (fun x => M.bnd _ _) = _
  congr 1; funext x h; show R.bd _ _ = _; congr 1; funext r h
  cases r <;> rfl
@[simp] theorem rn_e_or (a b : E) : evE F (.or a b) env h = R.bd (evE F a env h) fun x h => R.bd (opt (truthy h x) h) fun r h => if r then .ok x h else evE F b env h := by
  show R.bd _ (fun x => M.bnd _ _) = _
  congr 1; funext x h; show R.bd _ _ = _; congr 1; funext r h
  cases r <;> rfl
@[simp] theorem rn_e_ite (c a b : E) : evE F (.ite c a b) env h = R.bd (evE F c env h) fun x h => R.bd (opt (truthy h x) h) fun r h => if r then evE F a env h else evE F b env h := by
  show R.bd _ (fun x => M.bnd _ _) = _
  congr 1; funext x h; show R.bd _ _ = _; congr 1; funext r h
  cases r <;> rfl
@[simp] theorem rn_e_call (f : Nat) (as : Es) : evE F (.call f as) env h = R.bd (evEs F as env h) fun xs h => F.call f xs h := rfl
@[simp] theorem rn_e_bl (b : Bl) (as : Es) : evE F (.bl b as) env h = R.bd (evEs F as env h) fun xs h => opt (blt h b xs) h := rfl
@[simp] theorem rn_e_isi (a : E) (t : Ty) : evE F (.isi a t) env h = R.bd (evE F a env h) fun x h => opt (isTy h x t) h := rfl
@[simp] theorem rn_e_mtc (m : Mt) (c : Nat) (as : Es) : evE F (.mtc m c as) env h = R.bd (opt ((F.cst c).bind tupOf) h) fun o h => R.bd (evEs F as env h) fun xs h => opt (methT h m o xs) h := rfl
@[simp] theorem rn_e_ix (a b : E) : evE F (.ix a b) env h = R.bd (evE F a env h) fun x h => R.bd (evE F b env h) fun y h => opt (indexOp h x y) h := rfl
@[simp] theorem rn_e_sl (a : E) (lo hi : Eo) : evE F (.sl a lo hi) env h = R.bd (evE F a env h) fun x h => R.bd (evEo F lo env h) fun i h => R.bd (evEo F hi env h) fun j h => opt (sliceOp h x i j) h := rfl
@[simp] theorem rn_e_tup (as : Es) : evE F (.tup as) env h = R.bd (evEs F as env h) fun xs h => opt (if xs.length ≤ LIM then some (mkTup xs) else .none) h := rfl
@[simp] theorem rn_e_lst (as : Es) : evE F (.lst as) env h = R.bd (evEs F as env h) fun xs h => opt (if xs.length ≤ LIM then (allD xs).map fun ds => .d (.list ds) else .none) h := rfl
@[simp] theorem rn_e_new (as : Es) : evE F (.new as) env h = R.bd (evEs F as env h) fun xs h => if xs.length ≤ LIM then .ok (.ref h.length) (h ++ [.lst xs]) else .stuck := rfl
@[simp] theorem rn_es_nil : evEs F .nil env h = .ok [] h := rfl
@[simp] theorem rn_es_cons (e : E) (r : Es) : evEs F (.cons e r) env h = R.bd (evE F e env h) fun x h => R.bd (evEs F r env h) fun xs h => .ok (x :: xs) h := rfl
@[simp] theorem rn_eo_no : evEo F .no env h = .ok none h := rfl
@[simp] theorem rn_eo_some (e : E) : evEo F (.some e) env h = R.bd (evE F e env h) fun x h => opt (match x with
    | .d (.int i) => some (some i)
    | _ => .none) h := rfl
@[simp] theorem rn_s_expr (e : E) : evS F (.expr e) env h = R.bd (evE F e env h) fun _ h => .ok (.nxt env) h := rfl
@[simp] theorem rn_s_set (i : Nat) (e : E) : evS F (.set i e) env h = R.bd (evE F e env h) fun v h => .ok (.nxt (env.set i (some v))) h := rfl
@[simp] theorem rn_s_sett (t : T) (e : E) : evS F (.sett t e) env h = R.bd (evE F e env h) fun v h => opt ((T.store t v env).map Fl.nxt) h := rfl
@[simp] theorem rn_s_ret (e : E) : evS F (.ret e) env h = R.bd (evE F e env h) fun v h => .ok (.ret v) h := rfl
@[simp] theorem rn_s_retN : evS F .retN env h = .ok (.ret (.d .none)) h := rfl
@[simp] theorem rn_s_ifs (c : E) (a b : Ss) : evS F (.ifs c a b) env h = R.bd (evE F c env h) fun x h => R.bd (opt (truthy h x) h) fun r h => if r then evSs F a env h else evSs F b env h := by
  show R.bd _ (fun x => M.bnd _ _) = _
  congr 1; funext x h; show R.bd _ _ = _; congr 1; funext r h
  cases r <;> rfl
@[simp] theorem rn_s_raise (c : Nat) : evS F (.raise c) env h = .exc c (.d .none) h := rfl
@[simp] theorem rn_s_brk : evS F .brk env h = .ok (.brk env) h := rfl
@[simp] theorem rn_s_cont : evS F .cont env h = .ok (.cont env) h := rfl
@[simp] theorem rn_s_pass : evS F .pass env h = .ok (.nxt env) h := rfl
def flK (F : Fns) (r : Ss) (f : Fl) (h : Hh) : R Fl := match f with
  | .nxt e => evSs F r e h
  | .ret v => .ok (.ret v) h
  | .brk e => .ok (.brk e) h
  | .cont e => .ok (.cont e) h
@[simp] theorem rn_ss_nil : evSs F .nil env h = .ok (.nxt env) h := rfl
@[simp] theorem rn_ss_cons (s : S) (r : Ss) : evSs F (.cons s r) env h = R.bd (evS F s env h) (flK F r) := by
  show R.bd _ (fun f => _) = _
  congr 1; funext f h
  cases f <;> rfl
@[simp] theorem rn_flK_nxt (r : Ss) (e : Env) : flK F r (.nxt e) h = evSs F r e h := rfl
@[simp] theorem rn_flK_ret (r : Ss) (v : PV) : flK F r (.ret v) h = .ok (.ret v) h := rfl
@[simp] theorem rn_flK_brk (r : Ss) (v : Env) : flK F r (.brk v) h = .ok (.brk v) h := rfl
@[simp] theorem rn_flK_cont (r : Ss) (v : Env) : flK F r (.cont v) h = .ok (.cont v) h := rfl
/-- a def's end -/
def defK (f : Fl) (h : Hh) : R PV := match f with
  | .ret v => .ok v h
  | .nxt _ => .ok (.d .none) h
  | _ => .stuck
@[simp] theorem rn_defK_ret (v : PV) : defK (.ret v) h = .ok v h := rfl
@[simp] theorem rn_defK_nxt (e : Env) : defK (.nxt e) h = .ok (.d .none) h := rfl
theorem rn_call {T : Nat → Option Fn} {C : Nat → Option PV} {k f : Nat} {d : Fn} {args : List PV} {h : Hh} (hT : T f = some d) (hl : args.length = d.np) :
    call T C (k + 1) f args h = R.bd (evSs ⟨call T C k, C, callT T⟩ d.body (start d.ns args) h) defK := by
  rw [call, hT]
  simp only [hl, if_true, rn_bnd_ap]
  congr 1
  funext f h
  cases f <;> rfl
@[simp] theorem rn_bd_ite {α β : Type} (c : Prop) [Decidable c] (a b : R α) (f : α → Hh → R β) : R.bd (if c then a else b) f = if c then R.bd a f else R.bd b f := by split <;> rfl
@[simp] theorem rn_tr_bool (b : Bool) : truthy h (.d (.bool b)) = some b := rfl
@[simp] theorem rn_tr_int (i : Int) : truthy h (.d (.int i)) = some (!(i == 0)) := rfl
@[simp] theorem rn_tr_tup (xs : List D) : truthy h (.d (.tup xs)) = some (!xs.isEmpty) := rfl
@[simp] theorem rn_tr_list (xs : List D) : truthy h (.d (.list xs)) = some (!xs.isEmpty) := rfl
@[simp] theorem rn_tr_none : truthy h (.d .none) = some false := rfl
@[simp] theorem rn_deref (d : D) : deref h (.d d) = some d := rfl
@[simp] theorem rn_lt_int (i j : Int) : cmpop h .lt (.d (.int i)) (.d (.int j)) = some (decide (i < j)) := rfl
@[simp] theorem rn_le_int (i j : Int) : cmpop h .le (.d (.int i)) (.d (.int j)) = some (decide (i ≤ j)) := rfl
@[simp] theorem rn_gt_int (i j : Int) : cmpop h .gt (.d (.int i)) (.d (.int j)) = some (decide (j < i)) := rfl
@[simp] theorem rn_ge_int (i j : Int) : cmpop h .ge (.d (.int i)) (.d (.int j)) = some (decide (j ≤ i)) := rfl
@[simp] theorem rn_add_int (i j : Int) : binop h .add (.d (.int i)) (.d (.int j)) = some (.d (.int (i + j))) := rfl
@[simp] theorem rn_sub_int (i j : Int) : binop h .sub (.d (.int i)) (.d (.int j)) = some (.d (.int (i - j))) := rfl
@[simp] theorem rn_add_tup (xs ys : List D) : binop h .add (.d (.tup xs)) (.d (.tup ys)) = if xs.length + ys.length ≤ LIM then some (.d (.tup (xs ++ ys))) else none := rfl
@[simp] theorem rn_add_list (xs ys : List D) : binop h .add (.d (.list xs)) (.d (.list ys)) = if xs.length + ys.length ≤ LIM then some (.d (.list (xs ++ ys))) else none := rfl
theorem rn_mod_int (i j : Int) (hj : 0 < j) : binop h .mod (.d (.int i)) (.d (.int j)) = some (.d (.int (i % j))) := by
  show (if decide (0 < j) = true then _ else _ : Option Int).map _ = _
  rw [if_pos (decide_eq_true hj)]; rfl
theorem rn_fdiv_int (i j : Int) (hj : 0 < j) (hj2 : j < 1073741824) : binop h .fdiv (.d (.int i)) (.d (.int j)) = some (.d (.int (i / j))) := by
  show (if (decide (0 < j) && decide (j < 1073741824)) = true then _ else _ : Option Int).map _ = _
  rw [if_pos (by simp [hj, hj2])]; rfl
@[simp] theorem rn_len_tup (xs : List D) : blt h .len [.d (.tup xs)] = some (.d (.int xs.length)) := rfl
@[simp] theorem rn_len_list (xs : List D) : blt h .len [.d (.list xs)] = some (.d (.int xs.length)) := rfl
@[simp] theorem rn_max_tup (xs : List D) : blt h .max [.d (.tup xs)] = (maxOf xs).map PV.d := rfl
@[simp] theorem rn_max_list (xs : List D) : blt h .max [.d (.list xs)] = (maxOf xs).map PV.d := rfl
@[simp] theorem rn_min_tup (xs : List D) : blt h .min [.d (.tup xs)] = (minOf xs).map PV.d := rfl
@[simp] theorem rn_min_list (xs : List D) : blt h .min [.d (.list xs)] = (minOf xs).map PV.d := rfl
@[simp] theorem rn_max2 (i j : Int) : blt h .max2 [.d (.int i), .d (.int j)] = some (.d (.int (if i < j then j else i))) := rfl
@[simp] theorem rn_min2 (i j : Int) : blt h .min2 [.d (.int i), .d (.int j)] = some (.d (.int (if j < i then j else i))) := rfl
@[simp] theorem rn_tuple_list (xs : List D) : blt h .tuple [.d (.list xs)] = some (.d (.tup xs)) := rfl
@[simp] theorem rn_tuple_tup (xs : List D) : blt h .tuple [.d (.tup xs)] = some (.d (.tup xs)) := rfl
@[simp] theorem rn_list_scr (xs : List D) : blt h .list [.scr xs] = some (.d (.list xs)) := rfl
@[simp] theorem rn_int_int (i : Int) : blt h .int [.d (.int i)] = some (.d (.int i)) := rfl
@[simp] theorem rn_abs_int (i : Int) : blt h .abs [.d (.int i)] = some (.d (.int (if i < 0 then -i else i))) := rfl
@[simp] theorem rn_sorted_tup (xs : List D) : blt h .sorted [.d (.tup xs)] = if sortable xs then some (.d (.list (sortD xs))) else none := rfl
@[simp] theorem rn_sorted_list (xs : List D) : blt h .sorted [.d (.list xs)] = if sortable xs then some (.d (.list (sortD xs))) else none := rfl
@[simp] theorem rn_all_list (xs : List D) : blt h .all [.d (.list xs)] = ((boolsOf xs).map fun bs => D.bool (bs.all id)).map PV.d := rfl
@[simp] theorem rn_isi (d : D) (t : Ty) : isTy h (.d d) t = some (.d (.bool (isTyD d t))) := rfl
@[simp] theorem rn_par2 (i j : Nat) (es : Es) : evS F (.par2 i j es) env h = R.bd (evEs F es env h) fun vs h => opt (match vs with
    | [v, w] => some (.nxt ((env.set i (some v)).set j (some w)))
    | _ => .none) h := rfl
@[simp] theorem rn_while (c : E) (b : Ss) : evS F (.while_ c b) env h = whileGo (fun env => M.bnd (evE F c env) fun x => M.lift fun h => truthy h x) (evSs F b) turnsMost env h := rfl
@[simp] theorem rn_ix_tup (xs : List D) (i : Int) : indexOp h (.d (.tup xs)) (.d (.int i)) = (place xs.length i).bind fun j => (xs[j]?).map PV.d := rfl
@[simp] theorem rn_ix_list (xs : List D) (i : Int) : indexOp h (.d (.list xs)) (.d (.int i)) = (place xs.length i).bind fun j => (xs[j]?).map PV.d := rfl
@[simp] theorem rn_eq (a b : D) : cmpop h .eq (.d a) (.d b) = if near a b then some (D.eqv a b) else none := rfl
@[simp] theorem rn_ne (a b : D) : cmpop h .ne (.d a) (.d b) = if near a b then some (!D.eqv a b) else none := rfl
@[simp] theorem rn_in_tup (a : D) (xs : List D) : cmpop h .isin (.d a) (.d (.tup xs)) = if near a (.tup xs) then some (xs.any fun y => D.eqv y a) else none := rfl
@[simp] theorem rn_notin_tup (a : D) (xs : List D) : cmpop h .notin (.d a) (.d (.tup xs)) = (if near a (.tup xs) then some (xs.any fun y => D.eqv y a) else none).map (!·) := rfl
@[simp] theorem rn_sl_tup (xs : List D) (lo hi : Option Int) : sliceOp h (.d (.tup xs)) lo hi = some (.d (.tup (cut xs lo hi))) := rfl
@[simp] theorem rn_near_int (i : Int) (b : D) : near (.int i) b = true := rfl
@[simp] theorem rn_near_str (i : List Nat) (b : D) : near (.str i) b = true := rfl
@[simp] theorem rn_eqv_int (i j : Int) : D.eqv (.int i) (.int j) = (i == j) := rfl
@[simp] theorem rn_eqv_str (i j : List Nat) : D.eqv (.str i) (.str j) = (i == j) := rfl
/-- a comprehension whose items leave the store alone -/
theorem rn_lcGo {elt : Env → M (Option PV)} {st : PV → Env → Option Env} {env : Env} {h : Hh} (f : D → Option D) : ∀ (xs acc : List D), (∀ x ∈ xs, ∃ env', st (.d x) env = some env' ∧ elt env' h = .ok ((f x).map PV.d) h) → acc.length + xs.length ≤ LIM →
    lcGo elt st env (xs.map PV.d) acc h = .ok (.d (.list (acc ++ xs.filterMap f))) h
  | [], acc, _, _ => by simp [lcGo]
  | x :: xs, acc, hx, hl => by
    obtain ⟨env', h1, h2⟩ := hx x (by simp)
    have ih := fun acc hl => rn_lcGo f xs acc (fun y hy => hx y (by simp [hy])) hl
    simp only [List.map_cons, lcGo, h1]
    rw [rn_bnd_ap]
    have hc : M.calm (elt env') h = .ok ((f x).map PV.d) h := by simp only [M.calm, h2]
    rw [hc]
    cases e : f x with
    | none =>
      simp only [Option.map_none, rn_bd_ok]
      rw [ih acc (by simp at hl; omega)]
      simp [e]
    | some y =>
      have hl2 : acc.length < LIM := by simp at hl; omega
      simp only [Option.map_some, rn_bd_ok, hl2, if_true]
      rw [ih (acc ++ [y]) (by simp at hl ⊢; omega)]
      simp [e]
@[simp] theorem rn_its_tup (e : E) : evIt F (.seq e) env h = R.bd (evE F e env h) fun x h => opt (match x with
    | .d (.list xs) => some (.its (xs.map PV.d))
    | .d (.tup xs) => some (.its (xs.map PV.d))
    | .d (.str s) => some (.its (s.map fun c => PV.d (.str [c])))
    | _ => .none) h := rfl
@[simp] theorem rn_rng1 (a : E) : evIt F (.rng1 a) env h = R.bd (evE F a env h) fun x h => opt (match x with
    | .d (.int j) => if small j then some (.its (rangeD 0 j.toNat 1)) else .none
    | _ => .none) h := rfl
@[simp] theorem rn_rng2 (a b : E) : evIt F (.rng2 a b) env h = R.bd (evE F a env h) fun x h => R.bd (evE F b env h) fun y h => opt (match x, y with
    | .d (.int i), .d (.int j) => if small i && small j then some (.its (rangeD i (j - i).toNat 1)) else .none
    | _, _ => .none) h := rfl
def lcE (F : Fns) (elt : E) (ifs : Es) : Env → M (Option PV) := fun env' => M.bnd (evTs F ifs env') fun b => if b then M.bnd (evE F elt env') fun v => M.ret (some v) else M.ret .none
@[simp] theorem rn_lc (elt : E) (t : T) (own : List Nat) (it : It) (ifs : Es) : evE F (.lc elt t own it ifs) env h = R.bd (evIt F it env h) fun r h => match r with
    | .its xs => lcGo (lcE F elt ifs) (T.store t) (wipe env own) xs [] h
    | .cell l n => lcCell (lcE F elt ifs) (T.store t) (wipe env own) l n n [] h := by
  show R.bd _ (fun r => _) = _
  congr 1; funext r h
  cases r <;> rfl
@[simp] theorem rn_ts_nil : evTs F .nil env h = .ok true h := rfl
@[simp] theorem rn_ts_cons (e : E) (r : Es) : evTs F (.cons e r) env h = R.bd (evE F e env h) fun x h => R.bd (opt (truthy h x) h) fun b h => if b then evTs F r env h else .ok false h := by
  show R.bd _ (fun x => M.bnd _ _) = _
  congr 1; funext x h; show R.bd _ _ = _; congr 1; funext r h
  cases r <;> rfl
/-- sorting ints -/
theorem sort_ints (xs : List Int) : sortD (xs.map D.int) = (xs.mergeSort fun a b => decide (a ≤ b)).map D.int := by
  unfold sortD
  rw [List.map_mergeSort]
  intro a _ b _
  simp [D.toks, ltToks, ltTok]
  rw [Bool.eq_iff_iff]
  simp
theorem sortable_ints (xs : List Int) : sortable (xs.map D.int) = true := by
  simp [sortable, D.shal, D.like]
@[simp] theorem rn_for (t : T) (it : It) (b : Ss) : evS F (.for_ t it b) env h = R.bd (evIt F it env h) fun r h => match r with
    | .its xs => forGo (evSs F b) (T.store t) xs env h
    | .cell l n => forCell (evSs F b) (T.store t) l n n env h := by
  show R.bd _ (fun r => _) = _
  congr 1; funext r h
  cases r <;> rfl
theorem rn_forGo_nil (body : Env → M Fl) (st : PV → Env → Option Env) : forGo body st [] env h = .ok (.nxt env) h := rfl
theorem rn_forGo_cons (body : Env → M Fl) (st : PV → Env → Option Env) (x : PV) (xs : List PV) {env' : Env} (he : st x env = some env') : forGo body st (x :: xs) env h = R.bd (body env' h) fun f h => match f with
      | .nxt e => forGo body st xs e h
      | .cont e => forGo body st xs e h
      | .brk e => .ok (.nxt e) h
      | .ret v => .ok (.ret v) h := by
  rw [forGo, he]
  show R.bd _ (fun f => _) = _
  congr 1; funext f h
  cases f <;> rfl
@[simp] theorem rn_setix (o i e : E) : evS F (.setix o i e) env h = R.bd (evE F e env h) fun v h => R.bd (evE F o env h) fun x h => R.bd (evE F i env h) fun k h => match x, k with
    | .ref l, .d k => match h[l]? with
      | some (.lst xs) => match k with
        | .int n => match place xs.length n with
          | some j => .ok (.nxt env) (setCell h l (xs.set j v))
          | .none => .stuck
        | _ => .stuck
      | some (.dic kvs) => if isKey k && decide (kvs.length < LIM) then .ok (.nxt env) (setDic h l (dPut kvs k v)) else .stuck
      | .none => .stuck
    | _, _ => .stuck := rfl
theorem rn_ix_ref {l : Nat} {xs : List PV} (i : Int) (hl : h[l]? = some (.lst xs)) : indexOp h (.ref l) (.d (.int i)) = (place xs.length i).bind fun j => xs[j]? := by
  show (match h[l]? with
    | some (.lst xs) => (place xs.length i).bind fun j => xs[j]?
    | some (.dic kvs) => if isKey (.int i) then dGet kvs (.int i) else .none
    | .none => .none) = _
  rw [hl]
theorem rn_ix_dic {l : Nat} {kvs : List (D × PV)} (k : D) (hk : isKey k = true) (hl : h[l]? = some (.dic kvs)) : indexOp h (.ref l) (.d k) = dGet kvs k := by
  show (match h[l]? with
    | some (.lst xs) => _
    | some (.dic kvs) => if isKey k then dGet kvs k else .none
    | .none => .none) = _
  rw [hl]
  show (if isKey k = true then _ else _) = _
  rw [if_pos hk]
@[simp] theorem rn_e_dnew : evE F .dnew env h = .ok (.ref h.length) (h ++ [.dic []]) := rfl
@[simp] theorem rn_e_demp (n : Bool) (a : E) : evE F (.demp n a) env h = R.bd (evE F a env h) fun x h => opt ((dicAt h x).map fun kvs => .d (.bool (if n then !kvs.isEmpty else kvs.isEmpty))) h := rfl
@[simp] theorem rn_e_ditems (a : E) : evE F (.ditems a) env h = R.bd (evE F a env h) fun x h => opt (((dicAt h x).bind itemsD).map fun ds => .d (.list ds)) h := rfl
@[simp] theorem rn_e_sset (a : E) : evE F (.sset a) env h = R.bd (evE F a env h) fun x h => opt (ssetOp h x) h := rfl
@[simp] theorem rn_e_lset (a : E) : evE F (.lset a) env h = R.bd (evE F a env h) fun x h => opt (lsetOp h x) h := rfl
@[simp] theorem rn_e_dcopy (a : E) : evE F (.dcopy a) env h = R.bd (evE F a env h) fun x h => dcopyM x h := rfl
@[simp] theorem rn_newDic (kvs : List (D × PV)) : newDic kvs h = .ok (.ref h.length) (h ++ [.dic kvs]) := rfl
@[simp] theorem rn_key_str (s : List Nat) : isKey (.str s) = true := rfl
@[simp] theorem rn_key_int (s : Int) : isKey (.int s) = true := rfl
@[simp] theorem rn_dicAt_d (d : D) : dicAt h (.d d) = none := rfl
@[simp] theorem rn_isRef (l : Nat) : isRef h (.ref l) = isLst h l := rfl
theorem rn_dicAt {l : Nat} {kvs : List (D × PV)} (hl : h[l]? = some (.dic kvs)) : dicAt h (.ref l) = some kvs := by
  show (match h[l]? with
    | some (.dic kvs) => some kvs
    | _ => .none) = _
  rw [hl]
theorem rn_isLst {l : Nat} {xs : List PV} (hl : h[l]? = some (.lst xs)) : isLst h l = true := by
  unfold isLst
  rw [hl]
theorem rn_sorted_dic {l : Nat} {kvs : List (D × PV)} (hl : h[l]? = some (.dic kvs)) (hs : sortable (kvs.map (·.1)) = true) : blt h .sorted [.ref l] = some (.d (.list (sortD (kvs.map (·.1))))) := by
  show sortedOp h (.ref l) = _
  unfold sortedOp
  rw [rn_dicAt h hl]
  dsimp only
  rw [if_pos hs]
theorem rn_list_dic {l : Nat} {kvs : List (D × PV)} (hl : h[l]? = some (.dic kvs)) : blt h .list [.ref l] = some (.d (.list (kvs.map (·.1)))) := by
  show listOp h (.ref l) = _
  unfold listOp
  dsimp only
  rw [rn_dicAt h hl]
theorem rn_len_dic {l : Nat} {kvs : List (D × PV)} (hl : h[l]? = some (.dic kvs)) : blt h .len [.ref l] = some (.d (.int kvs.length)) := by
  show lenOp h (.ref l) = _
  unfold lenOp
  dsimp only
  rw [hl]
theorem rn_mul_big (i j : Int) (hb : bigInt i = true ∨ bigInt j = true) : binop h .mul (.d (.int i)) (.d (.int j)) = some (.d (.int (i * j))) := by
  show (if (bigInt i || bigInt j) = true then _ else _) = _
  rw [if_pos (by simpa using hb)]
@[simp] theorem rn_e_mt (m : Mt) (o : E) (as : Es) : evE F (.mt m o as) env h = R.bd (evE F o env h) fun x h => R.bd (opt (if mtOk h m x then some () else none) h) fun _ h => R.bd (evEs F as env h) fun xs h => opt (meth h m x xs) h := rfl
@[simp] theorem rn_e_thk (f : Nat) (e : E) : evE F (.thk f e) env h = F.callT f (evE F e env) h := rfl
@[simp] theorem rn_e_badd (a b : E) : evE F (.badd a b) env h = R.bd (evE F a env h) fun x h => R.bd (evE F b env h) fun y h => newCat x y h := rfl
@[simp] theorem rn_e_neg (a : E) : evE F (.neg a) env h = R.bd (evE F a env h) fun x h => opt (match x with
    | .d (.int i) => some (.d (.int (-i)))
    | _ => .none) h := rfl
@[simp] theorem rn_zip (a b : E) : evIt F (.zip a b) env h = R.bd (evE F a env h) fun x h => R.bd (evE F b env h) fun y h => opt (match x, y with
    | .d (.list xs), .d (.list ys) => some (.its (zipD xs ys))
    | .d (.tup xs), .d (.tup ys) => some (.its (zipD xs ys))
    | _, _ => .none) h := rfl
@[simp] theorem rn_mt_split (s : List Nat) (v : PV) : meth h .split (.d (.str s)) [v] = splitOp s v := rfl
@[simp] theorem rn_mt_join (s : List Nat) (v : PV) : meth h .join (.d (.str s)) [v] = joinOp h s v := rfl
@[simp] theorem rn_mt_count (s : List Nat) (v : PV) : meth h .count (.d (.str s)) [v] = countS s v := rfl
@[simp] theorem rn_mtOk_s1 (s : List Nat) : mtOk h .split (.d (.str s)) = true := rfl
@[simp] theorem rn_mtOk_s2 (s : List Nat) : mtOk h .join (.d (.str s)) = true := rfl
@[simp] theorem rn_mtOk_s3 (s : List Nat) : mtOk h .count (.d (.str s)) = true := rfl
@[simp] theorem rn_sl_list (xs : List D) (lo hi : Option Int) : sliceOp h (.d (.list xs)) lo hi = some (.d (.list (cut xs lo hi))) := rfl
@[simp] theorem rn_near_str2 (i : List Nat) (b : D) : near b (.str i) = true := by unfold near; simp [D.shal]
@[simp] theorem rn_near_int2 (i : Int) (b : D) : near b (.int i) = true := by unfold near; simp [D.shal]
@[simp] theorem rn_near_bool (i : Bool) (b : D) : near (.bool i) b = true := rfl
@[simp] theorem rn_eqv_bool (i j : Bool) : D.eqv (.bool i) (.bool j) = (i == j) := rfl
theorem shals_strs (xs : List (List Nat)) (n : Nat) : D.shals (xs.map D.str) n = true := by
  induction xs with
  | nil => rfl
  | cons x xs ih => rw [List.map_cons, D.shals, ih]; rfl
theorem near_strs (d : D) (xs : List (List Nat)) : near d (.list (xs.map D.str)) = true := by
  unfold near
  rw [Bool.or_eq_true]
  right
  rw [D.shal]
  exact shals_strs xs 59
theorem near_strs1 (d : D) (xs : List (List Nat)) : near (.list (xs.map D.str)) d = true := by
  unfold near
  rw [Bool.or_eq_true]
  left
  rw [D.shal]
  exact shals_strs xs 59
theorem eqvs_strs : ∀ (xs ys : List (List Nat)), D.eqvs (xs.map D.str) (ys.map D.str) = decide (xs = ys)
  | [], [] => by simp [D.eqvs]
  | [], _ :: _ => by simp [D.eqvs]
  | _ :: _, [] => by simp [D.eqvs]
  | x :: xs, y :: ys => by
    rw [List.map_cons, List.map_cons, D.eqvs, rn_eqv_str, eqvs_strs xs ys]
    by_cases h1 : x = y <;> simp [h1]
theorem eqv_strs (xs ys : List (List Nat)) : D.eqv (.list (xs.map D.str)) (.list (ys.map D.str)) = decide (xs = ys) := by
  rw [D.eqv, eqvs_strs]
/-- texts cut at a sign -/
theorem splitC_free (c : Nat) : ∀ w : List Nat, c ∉ w → splitC c w = [w]
  | [], _ => rfl
  | x :: r, h => by
    have h1 : ¬ x = c := fun e => h (by simp [e])
    rw [splitC, if_neg h1, splitC_free c r (fun q => h (by simp [q]))]
theorem splitC_app (c : Nat) : ∀ (w s : List Nat), c ∉ w → splitC c (w ++ c :: s) = w :: splitC c s
  | [], s, _ => by simp [splitC]
  | x :: r, s, h => by
    have h1 : ¬ x = c := fun e => h (by simp [e])
    rw [List.cons_append, splitC, if_neg h1, splitC_app c r s (fun q => h (by simp [q]))]
theorem splitC_join (c : Nat) : ∀ ws : List (List Nat), ws ≠ [] → (∀ w ∈ ws, c ∉ w) → splitC c (joinL [c] ws) = ws
  | [], h, _ => absurd rfl h
  | [w], _, h => splitC_free c w (h w (by simp))
  | w :: v :: r, _, h => by
    have : joinL [c] (w :: v :: r) = w ++ c :: joinL [c] (v :: r) := by
      rw [joinL]
      · simp
      · intro q; cases q
    rw [this, splitC_app c w _ (h w (by simp)), splitC_join c (v :: r) (by simp) fun x hx => h x (by simp [hx])]
theorem strsOf_strs : ∀ xs : List (List Nat), strsOf (xs.map D.str) = some xs
  | [] => rfl
  | x :: xs => by rw [List.map_cons, strsOf, strsOf_strs xs]; rfl
theorem boolsOf_bools : ∀ xs : List Bool, boolsOf (xs.map D.bool) = some xs
  | [] => rfl
  | x :: xs => by rw [List.map_cons, boolsOf, boolsOf_bools xs]; rfl
/-- a comprehension over encoded items, each giving one -/
theorem rn_lcAll {α : Type} {elt : Env → M (Option PV)} {st : PV → Env → Option Env} {env : Env} {h : Hh} (enc f : α → D) : ∀ (xs : List α) (acc : List D), (∀ x ∈ xs, ∃ env', st (.d (enc x)) env = some env' ∧ elt env' h = .ok (some (.d (f x))) h) → acc.length + xs.length ≤ LIM →
    lcGo elt st env ((xs.map enc).map PV.d) acc h = .ok (.d (.list (acc ++ xs.map f))) h
  | [], acc, _, _ => by simp [lcGo]
  | x :: xs, acc, hx, hl => by
    obtain ⟨env', h1, h2⟩ := hx x (by simp)
    simp only [List.map_cons, lcGo, h1]
    rw [rn_bnd_ap]
    have hc : M.calm (elt env') h = .ok (some (.d (f x))) h := by simp only [M.calm, h2]
    have hl2 : acc.length < LIM := by simp at hl; omega
    rw [hc]
    simp only [rn_bd_ok, hl2, if_true]
    rw [rn_lcAll enc f xs (acc ++ [f x]) (fun y hy => hx y (by simp [hy])) (by simp at hl ⊢; omega)]
    simp
end Ev
end

section
/-! EvRun2: more steps as equations: double comprehensions, comprehensions with tests over encoded items. -/
set_option autoImplicit false
set_option linter.all false
namespace Ev
variable (F : Fns) (env : Env) (h : Hh)
@[simp] theorem rn_any_list (xs : List D) : blt h .any [.d (.list xs)] = ((boolsOf xs).map fun bs => D.bool (bs.any id)).map PV.d := rfl
@[simp] theorem rn_in_list (a : D) (xs : List D) : cmpop h .isin (.d a) (.d (.list xs)) = if near a (.list xs) then some (xs.any fun y => D.eqv y a) else none := rfl
@[simp] theorem rn_notin_list (a : D) (xs : List D) : cmpop h .notin (.d a) (.d (.list xs)) = (if near a (.list xs) then some (xs.any fun y => D.eqv y a) else none).map (!·) := rfl
@[simp] theorem rn_e_rev (a : E) : evE F (.rev a) env h = R.bd (evE F a env h) fun x h => opt (match x with
    | .d (.tup xs) => some (.d (.tup xs.reverse))
    | _ => .none) h := rfl
theorem rn_mul_tup (s : List D) (k : Int) (h0 : 0 ≤ k) (h1 : k ≤ 1000) (h2 : s.length ≤ 1000) : binop h .mul (.d (.tup s)) (.d (.int k)) = some (.d (.tup (List.replicate k.toNat s).flatten)) := by
  show (if (decide (-1000 ≤ k) && decide (k ≤ 1000) && decide (s.length ≤ 1000)) = true then _ else _) = _
  rw [if_pos (by simp; omega)]
@[simp] theorem rn_lc2 (elt : E) (t : T) (own : List Nat) (it : It) (ifs : Es) (t1 : T) (own1 : List Nat) (it1 : It) (ifs1 : Es) : evE F (.lc2 elt t own it ifs t1 own1 it1 ifs1) env h = R.bd (evIt F it env h) fun r h => match r with
    | .its xs => lc2Go (lc2In (fun env' => evTs F ifs env') (fun env' => evIt F it1 env') (lcE F elt ifs1) (T.store t1) own1) (T.store t) (wipe env own) xs [] h
    | _ => .stuck := by
  show R.bd _ (fun r => _) = _
  congr 1; funext r h
  cases r <;> rfl
/-- a comprehension over encoded items, some of them left out -/
theorem rn_lcOpt {α : Type} {elt : Env → M (Option PV)} {st : PV → Env → Option Env} {env : Env} {h : Hh} (enc : α → D) (f : α → Option D) : ∀ (xs : List α) (acc : List D), (∀ x ∈ xs, ∃ env', st (.d (enc x)) env = some env' ∧ elt env' h = .ok ((f x).map PV.d) h) → acc.length + xs.length ≤ LIM →
    lcGo elt st env ((xs.map enc).map PV.d) acc h = .ok (.d (.list (acc ++ xs.filterMap f))) h
  | [], acc, _, _ => by simp [lcGo]
  | x :: xs, acc, hx, hl => by
    obtain ⟨env', h1, h2⟩ := hx x (by simp)
    have ih := fun acc hl => rn_lcOpt enc f xs acc (fun y hy => hx y (by simp [hy])) hl
    simp only [List.map_cons, lcGo, h1]
    rw [rn_bnd_ap]
    have hc : M.calm (elt env') h = .ok ((f x).map PV.d) h := by simp only [M.calm, h2]
    rw [hc]
    cases e : f x with
    | none =>
      simp only [Option.map_none, rn_bd_ok]
      rw [ih acc (by simp at hl; omega)]
      simp [e]
    | some y =>
      have hl2 : acc.length < LIM := by simp at hl; omega
      simp only [Option.map_some, rn_bd_ok, hl2, if_true]
      rw [ih (acc ++ [y]) (by simp at hl ⊢; omega)]
      simp [e]
theorem rn_lc2In {rt : Env → M Bool} {rit : Env → M Run} {elt : Env → M (Option PV)} {st : PV → Env → Option Env} {own : List Nat} {env : Env} {h : Hh} {ys : List PV} {acc out : List D} (h1 : rt env h = .ok true h) (h2 : rit env h = .ok (.its ys) h)
    (h3 : lcGo elt st (wipe env own) ys acc h = .ok (.d (.list (acc ++ out))) h) : lc2In rt rit elt st own env acc h = .ok (.d (.list (acc ++ out))) h := by
  unfold lc2In
  rw [rn_bnd_ap]
  have c1 : M.calm (rt env) h = .ok true h := by simp only [M.calm, h1]
  have c2 : M.calm (rit env) h = .ok (.its ys) h := by simp only [M.calm, h2]
  rw [c1, rn_bd_ok, if_pos rfl, rn_bnd_ap, c2, rn_bd_ok]
  exact h3
theorem rn_lc2All {α : Type} {inner : Env → List D → M PV} {st : PV → Env → Option Env} {env : Env} {h : Hh} (enc : α → D) (out : α → List D) : ∀ (xs : List α) (acc : List D), (∀ x ∈ xs, ∃ env', st (.d (enc x)) env = some env' ∧ ∀ acc : List D, acc.length + (out x).length ≤ LIM → inner env' acc h = .ok (.d (.list (acc ++ out x))) h) → acc.length + (xs.flatMap out).length ≤ LIM →
    lc2Go inner st env ((xs.map enc).map PV.d) acc h = .ok (.d (.list (acc ++ xs.flatMap out))) h
  | [], acc, _, _ => by simp [lc2Go]
  | x :: xs, acc, hx, hl => by
    obtain ⟨env', h1, h2⟩ := hx x (by simp)
    have hl1 : acc.length + (out x).length + (xs.flatMap out).length ≤ LIM := by
      rw [List.flatMap_cons, List.length_append] at hl; omega
    simp only [List.map_cons, lc2Go, h1]
    rw [rn_bnd_ap, h2 acc (by omega)]
    simp only [rn_bd_ok]
    rw [rn_lc2All enc out xs (acc ++ out x) (fun y hy => hx y (by simp [hy])) (by rw [List.length_append]; omega)]
    simp
/-- range(j) for any j: the kernel must not look into a cast of a Nat here (2^62 would be counted down) -/
theorem rn_rng1_of {F : Fns} {env : Env} {h : Hh} {a : E} {j : Int} (e : evE F a env h = .ok (.d (.int j)) h) (hs : small j = true) : evIt F (.rng1 a) env h = .ok (.its (rangeD 0 j.toNat 1)) h := by
  rw [rn_rng1, e]
  simp only [rn_bd_ok, hs, if_true, rn_opt_some]
theorem rn_for_its {F : Fns} {env : Env} {h : Hh} {t : T} {it : It} {b : Ss} {xs : List PV} (e : evIt F it env h = .ok (.its xs) h) : evS F (.for_ t it b) env h = forGo (evSs F b) (T.store t) xs env h := by
  rw [rn_for, e]
  rfl
theorem small_nat {n : Nat} (hl : n ≤ 1000000) : small (n : Int) = true := by
  unfold small
  rw [Bool.and_eq_true]
  exact ⟨decide_eq_true (by omega), decide_eq_true (by omega)⟩
theorem rn_seq_nxt {F : Fns} {env env' : Env} {h h' : Hh} {s : S} {r : Ss} (e : evS F s env h = .ok (.nxt env') h') : evSs F (.cons s r) env h = evSs F r env' h' := by
  rw [rn_ss_cons, e]
  rfl
theorem rn_seq_ret {F : Fns} {env : Env} {h h' : Hh} {s : S} {r : Ss} {v : PV} (e : evS F s env h = .ok (.ret v) h') : evSs F (.cons s r) env h = .ok (.ret v) h' := by
  rw [rn_ss_cons, e]
  rfl
end Ev
end

section
/-! EvRun3: how a run comes out, step by step (what must hold behind it). -/
set_option autoImplicit false
set_option linter.all false
namespace Ev
theorem rn_bd_bd {α β γ : Type} (x : R α) (f : α → Hh → R β) (g : β → Hh → R γ) : R.bd (R.bd x f) g = R.bd x fun a h => R.bd (f a h) g := by
  cases x <;> rfl
/-- it comes through, and Q holds behind it -/
def Okk {α : Type} (r : R α) (Q : α → Hh → Prop) : Prop := ∃ a h, r = .ok a h ∧ Q a h
section
variable {α β : Type}
@[simp] theorem okk_ok (a : α) (h : Hh) (Q : α → Hh → Prop) : Okk (.ok a h) Q ↔ Q a h := by
  constructor
  · rintro ⟨a', h', e, q⟩
    cases e
    exact q
  · exact fun q => ⟨a, h, rfl, q⟩
theorem Okk.of {a : α} {h : Hh} {Q : α → Hh → Prop} {r : R α} (e : r = .ok a h) (q : Q a h) : Okk r Q := ⟨a, h, e, q⟩
theorem Okk.bd {x : R α} {K : α → Hh → R β} {Q : α → Hh → Prop} {Q' : β → Hh → Prop} (o : Okk x Q) (f : ∀ a h, Q a h → Okk (K a h) Q') : Okk (R.bd x K) Q' := by
  obtain ⟨a, h, e, q⟩ := o
  rw [e]
  exact f a h q
theorem Okk.imp {x : R α} {Q Q' : α → Hh → Prop} (o : Okk x Q) (f : ∀ a h, Q a h → Q' a h) : Okk x Q' := by
  obtain ⟨a, h, e, q⟩ := o
  exact ⟨a, h, e, f a h q⟩
end
/-- what holds behind one turn of a walk -/
def forQ {β : Type} (P : Env → Hh → Prop) (K : Fl → Hh → R β) (Q : β → Hh → Prop) (f : Fl) (h : Hh) : Prop := match f with
  | .nxt e => P e h
  | .cont e => P e h
  | .brk e => Okk (K (.nxt e) h) Q
  | .ret v => Okk (K (.ret v) h) Q
section
variable {β : Type} (P : Env → Hh → Prop) (K : Fl → Hh → R β) (Q : β → Hh → Prop) (e : Env) (v : PV) (h : Hh)
@[simp] theorem forQ_nxt : forQ P K Q (.nxt e) h ↔ P e h := Iff.rfl
@[simp] theorem forQ_cont : forQ P K Q (.cont e) h ↔ P e h := Iff.rfl
@[simp] theorem forQ_brk : forQ P K Q (.brk e) h ↔ Okk (K (.nxt e) h) Q := Iff.rfl
@[simp] theorem forQ_ret : forQ P K Q (.ret v) h ↔ Okk (K (.ret v) h) Q := Iff.rfl
end
theorem rn_for_ok {β : Type} {body : Env → M Fl} {st : PV → Env → Option Env} {K : Fl → Hh → R β} {Q : β → Hh → Prop} (P : List PV → Env → Hh → Prop)
    (step : ∀ x r env h, P (x :: r) env h → ∃ env1, st x env = some env1 ∧ Okk (body env1 h) (forQ (P r) K Q)) (fin : ∀ env h, P [] env h → Okk (K (.nxt env) h) Q) :
    ∀ (xs : List PV) (env : Env) (h : Hh), P xs env h → Okk (R.bd (forGo body st xs env h) K) Q
  | [], env, h, h0 => by
    rw [rn_forGo_nil]
    exact fin env h h0
  | x :: r, env, h, h0 => by
    obtain ⟨env1, h1, f, h2, e2, q⟩ := step x r env h h0
    rw [rn_forGo_cons _ _ _ _ _ _ h1, e2, rn_bd_ok]
    cases f with
    | nxt e => exact rn_for_ok P step fin r e h2 q
    | cont e => exact rn_for_ok P step fin r e h2 q
    | brk e => exact q
    | ret v => exact q
theorem rn_while_ok {β : Type} {test : Env → M Bool} {body : Env → M Fl} {K : Fl → Hh → R β} {Q : β → Hh → Prop} (P : Nat → Env → Hh → Prop)
    (step : ∀ n env h, P n env h → Okk (test env h) fun b h2 => if b = true then Okk (body env h2) (forQ (fun e h3 => ∃ m, m < n ∧ P m e h3) K Q) else Okk (K (.nxt env) h2) Q) :
    ∀ (fuel n : Nat) (env : Env) (h : Hh), n < fuel → P n env h → Okk (R.bd (whileGo test body fuel env h) K) Q
  | 0, n, _, _, hn, _ => absurd hn (Nat.not_lt_zero _)
  | k + 1, n, env, h, hn, p => by
    obtain ⟨b, h2, e, q⟩ := step n env h p
    rw [whileGo, rn_bnd_ap, e, rn_bd_ok]
    cases b with
    | false =>
      simp only [Bool.false_eq_true, if_false] at q ⊢
      exact q
    | true =>
      simp only [if_true] at q ⊢
      obtain ⟨f, h3, e3, q3⟩ := q
      rw [rn_bnd_ap, e3, rn_bd_ok]
      cases f with
      | nxt e =>
        obtain ⟨m, hm, q4⟩ := q3
        exact rn_while_ok P step k m e h3 (by omega) q4
      | cont e =>
        obtain ⟨m, hm, q4⟩ := q3
        exact rn_while_ok P step k m e h3 (by omega) q4
      | brk e => exact q3
      | ret v => exact q3
/-- one turn of a comprehension -/
def lcQ (P : List D → Hh → Prop) (acc : List D) (o : Option PV) (h : Hh) : Prop := match o with
  | none => P acc h
  | some (.d y) => P (acc ++ [y]) h
  | _ => False
@[simp] theorem lcQ_none (P : List D → Hh → Prop) (acc : List D) (h : Hh) : lcQ P acc none h ↔ P acc h := Iff.rfl
@[simp] theorem lcQ_some (P : List D → Hh → Prop) (acc : List D) (y : D) (h : Hh) : lcQ P acc (some (.d y)) h ↔ P (acc ++ [y]) h := Iff.rfl
theorem rn_lc_ok {β : Type} {elt : Env → M (Option PV)} {st : PV → Env → Option Env} {env : Env} {K : PV → Hh → R β} {Q : β → Hh → Prop} (P : List PV → List D → Hh → Prop)
    (step : ∀ x r acc h, P (x :: r) acc h → acc.length < LIM ∧ ∃ env1, st x env = some env1 ∧ Okk (elt env1 h) (lcQ (P r) acc)) (fin : ∀ acc h, P [] acc h → Okk (K (.d (.list acc)) h) Q) :
    ∀ (xs : List PV) (acc : List D) (h : Hh), P xs acc h → Okk (R.bd (lcGo elt st env xs acc h) K) Q
  | [], acc, h, h0 => fin acc h h0
  | x :: r, acc, h, h0 => by
    obtain ⟨hl, env1, h1, o, h2, e2, q⟩ := step x r acc h h0
    have hc : M.calm (elt env1) h = .ok o h2 := by simp only [M.calm, e2]
    simp only [lcGo, h1]
    rw [rn_bnd_ap, hc, rn_bd_ok]
    match o, q with
    | none, q => exact rn_lc_ok P step fin r acc h2 q
    | some (.d y), q =>
      simp only [hl, if_true]
      exact rn_lc_ok P step fin r (acc ++ [y]) h2 q
section
variable (F : Fns) (env : Env) (h : Hh)
@[simp] theorem rn_enum (a : E) : evIt F (.enum a) env h = R.bd (evE F a env h) fun x h => opt (match x with
    | .d (.list xs) => some (.its (enumD 0 xs))
    | .d (.tup xs) => some (.its (enumD 0 xs))
    | _ => .none) h := rfl
@[simp] theorem rn_it_cell (e : E) : evIt F (.cell e) env h = R.bd (evE F e env h) fun x h => opt (match x with
    | .ref l => (items h (.ref l)).map fun xs => .cell l xs.length
    | _ => .none) h := rfl
@[simp] theorem rn_par3 (i j l : Nat) (es : Es) : evS F (.par3 i j l es) env h = R.bd (evEs F es env h) fun vs h => opt (match vs with
    | [u, v, w] => some (.nxt (((env.set i (some u)).set j (some v)).set l (some w)))
    | _ => .none) h := rfl
@[simp] theorem rn_app (o e : E) : evS F (.app o e) env h = R.bd (evE F o env h) fun x h => R.bd (opt (if isRef h x then some () else none) h) fun _ h => R.bd (evE F e env h) fun v h => match x with
    | .ref l => match h[l]? with
      | some (.lst xs) => if xs.length < LIM then .ok (.nxt env) (setCell h l (xs ++ [v])) else .stuck
      | _ => .stuck
    | _ => .stuck := rfl
end
theorem rn_lc_nil (elt : Env → M (Option PV)) (st : PV → Env → Option Env) (env : Env) (acc : List D) (h : Hh) : lcGo elt st env [] acc h = .ok (.d (.list acc)) h := rfl
theorem rn_lc_cons (elt : Env → M (Option PV)) (st : PV → Env → Option Env) (env : Env) (x : PV) (xs : List PV) (acc : List D) (h : Hh) {env' : Env} (e : st x env = some env') : lcGo elt st env (x :: xs) acc h = R.bd (M.calm (elt env') h) fun r h => match r with
    | .none => lcGo elt st env xs acc h
    | some (.d y) => if acc.length < LIM then lcGo elt st env xs (acc ++ [y]) h else .stuck
    | _ => .stuck := by
  simp only [lcGo, e]
  rw [rn_bnd_ap]
  congr 1
  funext r h
  match r with
  | .none => rfl
  | some (.d y) => dsimp only; split <;> rfl
  | some (.ref _) => rfl
  | some (.dict _) => rfl
  | some (.scr _) => rfl
  | some (.tp _) => rfl
@[simp] theorem rn_list_tup (xs : List D) (h : Hh) : blt h .list [.d (.tup xs)] = some (.d (.list xs)) := rfl
@[simp] theorem rn_list_list (xs : List D) (h : Hh) : blt h .list [.d (.list xs)] = some (.d (.list xs)) := rfl
theorem near_nil (a : D) : near a (.list []) = true := by
  unfold near
  rw [Bool.or_eq_true]
  exact .inr rfl
theorem mem_cut {α : Type} {xs : List α} {lo hi : Option Int} {x : α} (h : x ∈ cut xs lo hi) : x ∈ xs := List.mem_of_mem_drop (List.mem_of_mem_take h)
theorem cut_len {α : Type} (xs : List α) (lo hi : Option Int) : (cut xs lo hi).length ≤ xs.length := by
  unfold cut
  dsimp only
  rw [List.length_take, List.length_drop]
  omega
theorem rn_lcAllD {elt : Env → M (Option PV)} {st : PV → Env → Option Env} {env : Env} {h : Hh} (f : D → D) (xs acc : List D) (H : ∀ x ∈ xs, ∃ env', st (.d x) env = some env' ∧ elt env' h = .ok (some (.d (f x))) h) (hl : acc.length + xs.length ≤ LIM) :
    lcGo elt st env (xs.map PV.d) acc h = .ok (.d (.list (acc ++ xs.map f))) h := by
  have := rn_lcAll (elt := elt) (st := st) (env := env) (h := h) id f xs acc H hl
  rwa [List.map_id] at this
theorem rn_lcOptD {elt : Env → M (Option PV)} {st : PV → Env → Option Env} {env : Env} {h : Hh} (f : D → Option D) (xs acc : List D) (H : ∀ x ∈ xs, ∃ env', st (.d x) env = some env' ∧ elt env' h = .ok ((f x).map PV.d) h) (hl : acc.length + xs.length ≤ LIM) :
    lcGo elt st env (xs.map PV.d) acc h = .ok (.d (.list (acc ++ xs.filterMap f))) h := by
  have := rn_lcOpt (elt := elt) (st := st) (env := env) (h := h) id f xs acc H hl
  rwa [List.map_id] at this
theorem filterMap_not {α β : Type} (p : α → Bool) (f : α → β) : ∀ xs : List α, (xs.filterMap fun x => if p x = true then none else some (f x)).isEmpty = xs.all p
  | [] => rfl
  | x :: xs => by
    have ih := filterMap_not p f xs
    rw [List.filterMap_cons, List.all_cons]
    cases p x
    · rfl
    · exact ih
theorem eq_nilD (h : Hh) (L : List D) : cmpop h .eq (.d (.list L)) (.d (.list [])) = some L.isEmpty := by
  rw [rn_eq, near_nil, if_pos rfl]
  cases L <;> rfl
theorem ne_nilD (h : Hh) (L : List D) : cmpop h .ne (.d (.list L)) (.d (.list [])) = some (!L.isEmpty) := by
  rw [rn_ne, near_nil, if_pos rfl]
  cases L <;> rfl
@[simp] theorem rn_ty_str (s : List Nat) (t : Ty) : isTyD (.str s) t = (match t with | .str => true | _ => false) := by cases t <;> rfl
@[simp] theorem rn_ty_int (s : Int) (t : Ty) : isTyD (.int s) t = (match t with | .int => true | _ => false) := by cases t <;> rfl
@[simp] theorem rn_ty_bool (s : Bool) (t : Ty) : isTyD (.bool s) t = (match t with | .int => true | .bool => true | _ => false) := by cases t <;> rfl
@[simp] theorem rn_ty_tup (s : List D) (t : Ty) : isTyD (.tup s) t = (match t with | .tuple => true | _ => false) := by cases t <;> rfl
@[simp] theorem rn_ty_list (s : List D) (t : Ty) : isTyD (.list s) t = (match t with | .list => true | _ => false) := by cases t <;> rfl
@[simp] theorem rn_ty_none (t : Ty) : isTyD .none t = false := by cases t <;> rfl
@[simp] theorem rn_tix0 (h : Hh) (x0 : D) (xs : List D) : indexOp h (.d (.tup (x0 :: xs))) (.d (.int 0)) = some (.d x0) := by
  have : place (x0 :: xs).length 0 = some 0 := by simp [place]
  rw [rn_ix_tup, this]; rfl
@[simp] theorem rn_tix1 (h : Hh) (x0 x1 : D) (xs : List D) : indexOp h (.d (.tup (x0 :: x1 :: xs))) (.d (.int 1)) = some (.d x1) := by
  have : place (x0 :: x1 :: xs).length 1 = some 1 := by simp [place]
  rw [rn_ix_tup, this]; rfl
@[simp] theorem rn_tix2 (h : Hh) (x0 x1 x2 : D) (xs : List D) : indexOp h (.d (.tup (x0 :: x1 :: x2 :: xs))) (.d (.int 2)) = some (.d x2) := by
  have : place (x0 :: x1 :: x2 :: xs).length 2 = some 2 := by simp [place]
  rw [rn_ix_tup, this]; rfl
@[simp] theorem rn_tix3 (h : Hh) (x0 x1 x2 x3 : D) (xs : List D) : indexOp h (.d (.tup (x0 :: x1 :: x2 :: x3 :: xs))) (.d (.int 3)) = some (.d x3) := by
  have : place (x0 :: x1 :: x2 :: x3 :: xs).length 3 = some 3 := by simp [place]
  rw [rn_ix_tup, this]; rfl
@[simp] theorem rn_tix4 (h : Hh) (x0 x1 x2 x3 x4 : D) (xs : List D) : indexOp h (.d (.tup (x0 :: x1 :: x2 :: x3 :: x4 :: xs))) (.d (.int 4)) = some (.d x4) := by
  have : place (x0 :: x1 :: x2 :: x3 :: x4 :: xs).length 4 = some 4 := by simp [place]
  rw [rn_ix_tup, this]; rfl
@[simp] theorem rn_tix5 (h : Hh) (x0 x1 x2 x3 x4 x5 : D) (xs : List D) : indexOp h (.d (.tup (x0 :: x1 :: x2 :: x3 :: x4 :: x5 :: xs))) (.d (.int 5)) = some (.d x5) := by
  have : place (x0 :: x1 :: x2 :: x3 :: x4 :: x5 :: xs).length 5 = some 5 := by simp [place]
  rw [rn_ix_tup, this]; rfl
@[simp] theorem rn_tix6 (h : Hh) (x0 x1 x2 x3 x4 x5 x6 : D) (xs : List D) : indexOp h (.d (.tup (x0 :: x1 :: x2 :: x3 :: x4 :: x5 :: x6 :: xs))) (.d (.int 6)) = some (.d x6) := by
  have : place (x0 :: x1 :: x2 :: x3 :: x4 :: x5 :: x6 :: xs).length 6 = some 6 := by simp [place]
  rw [rn_ix_tup, this]; rfl
@[simp] theorem rn_lix0 (h : Hh) (x0 : D) (xs : List D) : indexOp h (.d (.list (x0 :: xs))) (.d (.int 0)) = some (.d x0) := by
  have : place (x0 :: xs).length 0 = some 0 := by simp [place]
  rw [rn_ix_list, this]; rfl
@[simp] theorem rn_lix1 (h : Hh) (x0 x1 : D) (xs : List D) : indexOp h (.d (.list (x0 :: x1 :: xs))) (.d (.int 1)) = some (.d x1) := by
  have : place (x0 :: x1 :: xs).length 1 = some 1 := by simp [place]
  rw [rn_ix_list, this]; rfl
@[simp] theorem rn_lix2 (h : Hh) (x0 x1 x2 : D) (xs : List D) : indexOp h (.d (.list (x0 :: x1 :: x2 :: xs))) (.d (.int 2)) = some (.d x2) := by
  have : place (x0 :: x1 :: x2 :: xs).length 2 = some 2 := by simp [place]
  rw [rn_ix_list, this]; rfl
@[simp] theorem rn_lix3 (h : Hh) (x0 x1 x2 x3 : D) (xs : List D) : indexOp h (.d (.list (x0 :: x1 :: x2 :: x3 :: xs))) (.d (.int 3)) = some (.d x3) := by
  have : place (x0 :: x1 :: x2 :: x3 :: xs).length 3 = some 3 := by simp [place]
  rw [rn_ix_list, this]; rfl
@[simp] theorem rn_lix4 (h : Hh) (x0 x1 x2 x3 x4 : D) (xs : List D) : indexOp h (.d (.list (x0 :: x1 :: x2 :: x3 :: x4 :: xs))) (.d (.int 4)) = some (.d x4) := by
  have : place (x0 :: x1 :: x2 :: x3 :: x4 :: xs).length 4 = some 4 := by simp [place]
  rw [rn_ix_list, this]; rfl
@[simp] theorem rn_lix5 (h : Hh) (x0 x1 x2 x3 x4 x5 : D) (xs : List D) : indexOp h (.d (.list (x0 :: x1 :: x2 :: x3 :: x4 :: x5 :: xs))) (.d (.int 5)) = some (.d x5) := by
  have : place (x0 :: x1 :: x2 :: x3 :: x4 :: x5 :: xs).length 5 = some 5 := by simp [place]
  rw [rn_ix_list, this]; rfl
@[simp] theorem rn_lix6 (h : Hh) (x0 x1 x2 x3 x4 x5 x6 : D) (xs : List D) : indexOp h (.d (.list (x0 :: x1 :: x2 :: x3 :: x4 :: x5 :: x6 :: xs))) (.d (.int 6)) = some (.d x6) := by
  have : place (x0 :: x1 :: x2 :: x3 :: x4 :: x5 :: x6 :: xs).length 6 = some 6 := by simp [place]
  rw [rn_ix_list, this]; rfl
/-! a choice laid into the value -/
theorem ite_ok {α : Type} (c : Prop) [Decidable c] (a b : α) (h : Hh) : (if c then R.ok a h else R.ok b h) = R.ok (if c then a else b) h := by split <;> rfl
theorem ite_d (c : Prop) [Decidable c] (a b : D) : (if c then PV.d a else PV.d b) = PV.d (if c then a else b) := by split <;> rfl
theorem ite_str (c : Prop) [Decidable c] (a b : List Nat) : (if c then D.str a else D.str b) = D.str (if c then a else b) := by split <;> rfl
theorem ite_int (c : Prop) [Decidable c] (a b : Int) : (if c then D.int a else D.int b) = D.int (if c then a else b) := by split <;> rfl
theorem ite_bool (c : Prop) [Decidable c] (a b : Bool) : (if c then D.bool a else D.bool b) = D.bool (if c then a else b) := by split <;> rfl
theorem ite_tup (c : Prop) [Decidable c] (a b : List D) : (if c then D.tup a else D.tup b) = D.tup (if c then a else b) := by split <;> rfl
theorem ite_list (c : Prop) [Decidable c] (a b : List D) : (if c then D.list a else D.list b) = D.list (if c then a else b) := by split <;> rfl
end Ev
end

section
/-! EvOrd2: texts in order; sorted(set(..)) of texts. Plain Lean. -/
set_option autoImplicit false
set_option linter.all false
namespace Ev
theorem addD_strs (acc : List (List Nat)) (x : List Nat) : addD (acc.map D.str) (.str x) = (if x ∈ acc then acc else acc ++ [x]).map D.str := by
  have e : ((acc.map D.str).any fun y => D.eqv y (.str x)) = decide (x ∈ acc) := by
    rw [List.any_map, Bool.eq_iff_iff, List.any_eq_true, decide_eq_true_eq]
    constructor
    · rintro ⟨y, hy, h⟩
      have : y = x := by simpa [D.eqv] using h
      rw [← this]
      exact hy
    · intro h
      exact ⟨x, h, by simp [D.eqv]⟩
  unfold addD
  rw [e]
  by_cases h : x ∈ acc
  · simp [h]
  · simp [h]
theorem once_strs_go : ∀ (xs acc : List (List Nat)), acc.Nodup → ∃ ys : List (List Nat), (xs.map D.str).foldl addD (acc.map D.str) = ys.map D.str ∧ ys.Nodup ∧ (∀ y, y ∈ ys ↔ y ∈ acc ∨ y ∈ xs) ∧ ((acc ++ xs).Nodup → ys = acc ++ xs)
  | [], acc, h => ⟨acc, rfl, h, by simp, by simp⟩
  | x :: xs, acc, h => by
    rw [List.map_cons, List.foldl_cons, addD_strs]
    by_cases hx : x ∈ acc
    · rw [if_pos hx]
      obtain ⟨ys, a, b, c, d⟩ := once_strs_go xs acc h
      refine ⟨ys, a, b, fun y => ?_, fun hn => ?_⟩
      · rw [c]
        constructor
        · rintro (q | q)
          · exact .inl q
          · exact .inr (by simp [q])
        · rintro (q | q)
          · exact .inl q
          · rcases List.mem_cons.mp q with rfl | q
            · exact .inl hx
            · exact .inr q
      · exact (((List.nodup_append.mp hn).2.2 x hx x (by simp)) rfl).elim
    · rw [if_neg hx]
      have h2 : (acc ++ [x]).Nodup := by
        rw [List.nodup_append]
        refine ⟨h, by simp, fun y hy z hz e => ?_⟩
        rw [List.mem_singleton] at hz
        subst hz
        subst e
        exact hx hy
      obtain ⟨ys, a, b, c, d⟩ := once_strs_go xs (acc ++ [x]) h2
      refine ⟨ys, a, b, fun y => ?_, fun hn => ?_⟩
      · rw [c]
        simp [or_assoc]
      · rw [d (by simpa using hn)]
        simp
theorem once_strs (xs : List (List Nat)) : ∃ ys : List (List Nat), onceD (xs.map D.str) = ys.map D.str ∧ ys.Nodup ∧ (∀ y, y ∈ ys ↔ y ∈ xs) ∧ (xs.Nodup → ys = xs) := by
  obtain ⟨ys, a, b, c, d⟩ := once_strs_go xs [] List.nodup_nil
  exact ⟨ys, a, b, fun y => by rw [c]; simp, fun h => by rw [d (by simpa using h)]; rfl⟩
theorem leD_strs (a b : List Nat) : leD (.str a) (.str b) = !ltStr b a := by
  unfold leD
  simp [D.toks, ltToks, ltTok]
/-- in ascending order, each once -/
def Asc (xs : List (List Nat)) : Prop := xs.Pairwise fun a b => ltStr a b = true
theorem Asc.nodup {xs : List (List Nat)} (h : Asc xs) : xs.Nodup := h.imp fun {a b} q e => by rw [e, ltStr_irrefl] at q; cases q
theorem sset_asc (xs : List (List Nat)) : sortD (onceD (xs.map D.str)) = xs.map D.str ↔ Asc xs := by
  obtain ⟨ys, a, b, c, d⟩ := once_strs xs
  constructor
  · intro h
    have pw := sortD_sorted (onceD (xs.map D.str))
    have pm := sortD_perm_self (onceD (xs.map D.str))
    rw [h] at pw pm
    rw [a] at pm
    have nd : xs.Nodup := by
      have : (ys.map D.str).Nodup := List.pairwise_map.mpr (List.Pairwise.imp (fun {x y} q e => q (D.str.inj e)) b)
      have := pm.nodup_iff.mpr this
      exact List.Pairwise.imp (fun {x y} q e => q (by rw [e])) (List.pairwise_map.mp this)
    rw [List.pairwise_map] at pw
    refine (pw.and (List.nodup_iff_pairwise_ne.mp nd)).imp fun {x y} q => ?_
    have q1 := q.1
    rw [leD_strs, Bool.not_eq_true'] at q1
    cases e : ltStr x y with
    | true => rfl
    | false => exact (q.2 (ltStr_tri e q1)).elim
  · intro h
    rw [a, d h.nodup]
    refine sortD_of_sorted ?_
    rw [List.pairwise_map]
    exact h.imp fun {x y} q => by rw [leD_strs, ltStr_asymm q]; rfl
/-- each below the next -/
def ascB : List (List Nat) → Bool
  | a :: b :: r => ltStr a b && ascB (b :: r)
  | _ => true
theorem ascB_zip : ∀ xs : List (List Nat), ((xs.zip (xs.drop 1)).all fun p => ltStr p.1 p.2) = ascB xs
  | [] => rfl
  | [_] => rfl
  | a :: b :: r => by
    have := ascB_zip (b :: r)
    rw [ascB, ← this]
    rfl
theorem ascB_iff : ∀ xs : List (List Nat), ascB xs = true ↔ Asc xs
  | [] => by simp [ascB, Asc]
  | [a] => by simp [ascB, Asc]
  | a :: b :: r => by
    have ih := ascB_iff (b :: r)
    rw [ascB, Bool.and_eq_true, ih]
    unfold Asc
    constructor
    · rintro ⟨h1, h2⟩
      refine List.pairwise_cons.mpr ⟨fun x hx => ?_, h2⟩
      rcases List.mem_cons.mp hx with rfl | hx
      · exact h1
      · exact ltStr_trans h1 ((List.pairwise_cons.mp h2).1 x hx)
    · intro h
      obtain ⟨h1, h2⟩ := List.pairwise_cons.mp h
      exact ⟨h1 b (by simp), h2⟩
end Ev
end

section
set_option autoImplicit false
set_option linter.all false
set_option Elab.async false
set_option maxRecDepth 100000
set_option maxHeartbeats 4000000
namespace L47
open PySem L2 Ev PyProof.Rows
abbrev B : List Stmt := PySem.Challenge.pw_heardonce_k47_houses_and_steps_that_are.main.body
abbrev st (i : Nat) : Stmt := B.getD i (.Pass ⟨0, 0, 0, 0⟩)
def fnsL_0 : List PySem.Str := [("is_whole" : PySem.Str), ("fits_name" : PySem.Str), ("fits_way" : PySem.Str), ("fits_topic" : PySem.Str), ("fits_wish" : PySem.Str), ("is_met" : PySem.Str), ("lesser" : PySem.Str), ("need_way" : PySem.Str), ("kind_of" : PySem.Str), ("fits_item" : PySem.Str), ("fits_frame" : PySem.Str), ("is_row_of" : PySem.Str), ("is_rising" : PySem.Str), ("fits_word" : PySem.Str), ("fits_entry" : PySem.Str), ("fits_giving" : PySem.Str), ("fits_taking" : PySem.Str), ("fits_memory" : PySem.Str), ("fits_heard" : PySem.Str), ("fits_client" : PySem.Str), ("fits_wishes" : PySem.Str), ("fits_session" : PySem.Str), ("fits_moving" : PySem.Str), ("fits_line" : PySem.Str), ("fits_records" : PySem.Str), ("fits_manner" : PySem.Str), ("fits_world" : PySem.Str), ("need_world" : PySem.Str), ("due_way" : PySem.Str), ("fits_terms" : PySem.Str)]
def fnsL_1 : List PySem.Str := [("fits_waits" : PySem.Str), ("fits_sitting" : PySem.Str), ("fits_house" : PySem.Str), ("fits_step_part" : PySem.Str), ("fits_house_step" : PySem.Str), ("dropped_for" : PySem.Str), ("first_light" : PySem.Str), ("without" : PySem.Str), ("put_in" : PySem.Str), ("cut_to" : PySem.Str), ("ended" : PySem.Str), ("told_to_all" : PySem.Str), ("left_alone" : PySem.Str), ("opened" : PySem.Str), ("turned" : PySem.Str), ("rewished" : PySem.Str), ("handed_out" : PySem.Str), ("stepped_on" : PySem.Str), ("house_led" : PySem.Str), ("need_house" : PySem.Str), ("is_house" : PySem.Str), ("is_house_step" : PySem.Str), ("house_stepped" : PySem.Str), ("sessions_for" : PySem.Str), ("house_of_world" : PySem.Str), ("need_steps" : PySem.Str), ("need_session_name" : PySem.Str), ("led_through" : PySem.Str), ("tagged" : PySem.Str), ("comers" : PySem.Str)]
def fnsL_2 : List PySem.Str := [("fates_told" : PySem.Str), ("house_course" : PySem.Str), ("told_in" : PySem.Str), ("fates_of" : PySem.Str), ("fate_counts" : PySem.Str), ("retermed" : PySem.Str), ("sat_with" : PySem.Str), ("house_with" : PySem.Str), ("steps_with" : PySem.Str), ("told_leniently" : PySem.Str), ("states_of" : PySem.Str), ("is_short" : PySem.Str), ("is_ended" : PySem.Str), ("asked_end" : PySem.Str), ("least_room" : PySem.Str), ("least_keep" : PySem.Str), ("_law_cup" : PySem.Str), ("_law_roll" : PySem.Str), ("_law_some" : PySem.Str), ("_law_error" : PySem.Str), ("_law_odd_houses" : PySem.Str), ("_law_odd_steps" : PySem.Str), ("_law_house_refused" : PySem.Str), ("_law_step_refused" : PySem.Str), ("law" : PySem.Str)]
def fnsL : List PySem.Str := fnsL_0 ++ fnsL_1 ++ fnsL_2
def cstsL : List PySem.Str := [("LETTERS" : PySem.Str), ("WAYS" : PySem.Str), ("STEPS_names" : PySem.Str), ("LONGEST" : PySem.Str), ("BODY" : PySem.Str), ("RING" : PySem.Str), ("KINDS" : PySem.Str), ("CLIENTS" : PySem.Str), ("ROWS" : PySem.Str), ("RECORDS" : PySem.Str), ("WISHES" : PySem.Str), ("MOVING" : PySem.Str), ("TURNS" : PySem.Str), ("SESSIONS" : PySem.Str), ("KEEP" : PySem.Str), ("ROOM" : PySem.Str), ("RULES" : PySem.Str), ("STEPS_sessionruns" : PySem.Str), ("KEPT" : PySem.Str)]
def excsL : List PySem.Str := [("HeardError" : PySem.Str), ("InvalidTopic" : PySem.Str), ("InvalidWay" : PySem.Str), ("InvalidNames" : PySem.Str), ("InvalidWorld" : PySem.Str), ("InvalidHouse" : PySem.Str), ("InvalidStep" : PySem.Str), ("InvalidSteps" : PySem.Str), ("CannotStep" : PySem.Str)]
def dicsL : List PySem.Str := [("PARTS" : PySem.Str)]
def supL : List (PySem.Str × PySem.Str) := [(("HeardError" : PySem.Str), ("ValueError" : PySem.Str)), (("InvalidTopic" : PySem.Str), ("HeardError" : PySem.Str)), (("InvalidWay" : PySem.Str), ("HeardError" : PySem.Str)), (("InvalidNames" : PySem.Str), ("HeardError" : PySem.Str)), (("InvalidWorld" : PySem.Str), ("HeardError" : PySem.Str)), (("InvalidHouse" : PySem.Str), ("HeardError" : PySem.Str)), (("InvalidStep" : PySem.Str), ("HeardError" : PySem.Str)), (("InvalidSteps" : PySem.Str), ("HeardError" : PySem.Str)), (("CannotStep" : PySem.Str), ("HeardError" : PySem.Str))]
def P : TrP := ⟨fnsL, cstsL, [("len" : PySem.Str), ("all" : PySem.Str), ("any" : PySem.Str), ("tuple" : PySem.Str), ("list" : PySem.Str), ("sum" : PySem.Str), ("max" : PySem.Str), ("min" : PySem.Str), ("int" : PySem.Str), ("str" : PySem.Str), ("bool" : PySem.Str), ("ord" : PySem.Str), ("abs" : PySem.Str), ("sorted" : PySem.Str), ("set" : PySem.Str), ("dict" : PySem.Str), ("range" : PySem.Str), ("zip" : PySem.Str), ("enumerate" : PySem.Str), ("isinstance" : PySem.Str)], excsL, supL, [("InvalidHouse" : PySem.Str), ("InvalidStep" : PySem.Str), ("InvalidSteps" : PySem.Str), ("CannotStep" : PySem.Str), ("InvalidNames" : PySem.Str), ("InvalidWay" : PySem.Str), ("InvalidTopic" : PySem.Str), ("InvalidWorld" : PySem.Str), ("HeardError" : PySem.Str)], [(473, 11), (509, 21), (510, 21), (511, 21), (531, 17), (542, 17), (562, 21), (567, 17)], true, dicsL⟩
def fis_whole : Fn := ⟨3, 3, (.cons (.ret (.and (.isi (.var 0) .int) (.and (.not (.isi (.var 0) .bool)) (.cmp2 .le .le (.var 1) (.var 0) (.var 2))))) .nil), none⟩
def ffits_name : Fn := ⟨1, 2, (.cons (.ifs (.or (.not (.isi (.var 0) .str)) (.not (.cmp2 .le .le (.lit (.int (1))) (.bl .len (.cons (.var 0) .nil)) (.cst 336987042179540)))) (.cons (.ret (.lit (.bool false))) .nil) .nil) (.cons (.ret (.bl .all (.cons (.lc (.cmp .isin (.var 1) (.cst 336645082671443)) (.nm 1) [1] (.seq (.var 0)) .nil) .nil))) .nil)), none⟩
def ffits_way : Fn := ⟨1, 1, (.cons (.ret (.and (.isi (.var 0) .str) (.cmp .isin (.var 0) (.cst 183528659)))) .nil), none⟩
def ffits_topic : Fn := ⟨1, 3, (.cons (.ifs (.not (.isi (.var 0) .str)) (.cons (.ret (.lit (.bool false))) .nil) .nil) (.cons (.set 1 (.mt .split (.var 0) (.cons (.lit (.str [47])) .nil))) (.cons (.ret (.and (.cmp .le (.bl .len (.cons (.var 1) .nil)) (.cst 98768885148957598774003)) (.bl .all (.cons (.lc (.call 7409498487476745957 (.cons (.var 2) .nil)) (.nm 2) [2] (.seq (.var 1)) .nil) .nil)))) .nil))), none⟩
def ffits_wish : Fn := ⟨1, 3, (.cons (.ifs (.not (.isi (.var 0) .str)) (.cons (.ret (.lit (.bool false))) .nil) .nil) (.cons (.set 1 (.mt .split (.var 0) (.cons (.lit (.str [47])) .nil))) (.cons (.ifs (.or (.cmp .gt (.bl .len (.cons (.var 1) .nil)) (.cst 98768885148957598774003)) (.not (.bl .all (.cons (.lc (.or (.cmp .eq (.var 2) (.lit (.str [43]))) (.call 7409498487476745957 (.cons (.var 2) .nil))) (.nm 2) [2] (.seq (.sl (.var 1) .no (.some (.neg (.lit (.int (1))))))) .nil) .nil)))) (.cons (.ret (.lit (.bool false))) .nil) .nil) (.cons (.ret (.or (.cmp .isin (.ix (.var 1) (.neg (.lit (.int (1))))) (.tup (.cons (.lit (.str [43])) (.cons (.lit (.str [35])) .nil)))) (.call 7409498487476745957 (.cons (.ix (.var 1) (.neg (.lit (.int (1))))) .nil)))) .nil)))), none⟩
def fis_met : Fn := ⟨2, 6, (.cons (.par2 2 3 (.cons (.mt .split (.var 0) (.cons (.lit (.str [47])) .nil)) (.cons (.mt .split (.var 1) (.cons (.lit (.str [47])) .nil)) .nil))) (.cons (.ifs (.cmp .eq (.ix (.var 3) (.neg (.lit (.int (1))))) (.lit (.str [35]))) (.cons (.set 3 (.sl (.var 3) .no (.some (.neg (.lit (.int (1))))))) (.cons (.ifs (.cmp .lt (.bl .len (.cons (.var 2) .nil)) (.bl .len (.cons (.var 3) .nil))) (.cons (.ret (.lit (.bool false))) .nil) .nil) (.cons (.set 2 (.sl (.var 2) .no (.some (.bl .len (.cons (.var 3) .nil))))) .nil))) .nil) (.cons (.ret (.and (.cmp .eq (.bl .len (.cons (.var 2) .nil)) (.bl .len (.cons (.var 3) .nil))) (.bl .all (.cons (.lc (.cmp .isin (.var 5) (.tup (.cons (.lit (.str [43])) (.cons (.var 4) .nil)))) (.tp (.cons (.nm 4) (.cons (.nm 5) .nil))) [4, 5] (.zip (.var 2) (.var 3)) .nil) .nil)))) .nil))), none⟩
def flesser : Fn := ⟨2, 2, (.cons (.ret (.ix (.cst 183528659) (.bl .min2 (.cons (.mtc .index 183528659 (.cons (.var 0) .nil)) (.cons (.mtc .index 183528659 (.cons (.var 1) .nil)) .nil))))) .nil), none⟩
def fneed_way : Fn := ⟨1, 1, (.cons (.ifs (.not (.call 57886706933559545 (.cons (.var 0) .nil))) (.cons (.raise 681299352478834618617) .nil) .nil) .nil), none⟩
def fkind_of : Fn := ⟨1, 4, (.cons (.set 1 (.lc (.var 2) (.tp (.cons (.nm 2) (.cons (.nm 3) .nil))) [2, 3] (.enum (.cst 20287038035)) (.cons (.cmp .eq (.ix (.var 3) (.lit (.int (0)))) (.var 0)) .nil))) (.cons (.ret (.ite (.cmp .ne (.var 1) (.lst .nil)) (.ix (.var 1) (.lit (.int (0)))) (.lit .none))) .nil)), none⟩
def ffits_item : Fn := ⟨2, 2, (.cons (.ifs (.cmp .eq (.var 0) (.lit (.str [98, 111, 111, 108]))) (.cons (.ret (.isi (.var 1) .bool)) .nil) .nil) (.cons (.ifs (.cmp .isin (.var 0) (.tup (.cons (.lit (.str [110, 117, 109, 98, 101, 114])) (.cons (.lit (.str [98, 111, 100, 121])) .nil)))) (.cons (.ret (.call 59618816796915301 (.cons (.var 1) (.cons (.lit (.int (0))) (.cons (.ite (.cmp .eq (.var 0) (.lit (.str [110, 117, 109, 98, 101, 114]))) (.bin .sub (.cst 173172551) (.lit (.int (1)))) (.cst 139715161)) .nil))))) .nil) .nil) (.cons (.ifs (.cmp .eq (.var 0) (.lit (.str [112, 108, 97, 99, 101]))) (.cons (.ret (.or (.isc false (.var 1) .none) (.call 59618816796915301 (.cons (.var 1) (.cons (.lit (.int (0))) (.cons (.bin .sub (.cst 173172551) (.lit (.int (1)))) .nil)))))) .nil) .nil) (.cons (.ifs (.cmp .eq (.var 0) (.lit (.str [110, 97, 109, 101]))) (.cons (.ret (.call 7409498487476745957 (.cons (.var 1) .nil))) .nil) .nil) (.cons (.ifs (.cmp .eq (.var 0) (.lit (.str [119, 97, 121]))) (.cons (.ret (.call 57886706933559545 (.cons (.var 1) .nil))) .nil) .nil) (.cons (.ret (.ite (.cmp .eq (.var 0) (.lit (.str [116, 111, 112, 105, 99]))) (.call 948415806398663505123 (.cons (.var 1) .nil)) (.call 7409498487495752168 (.cons (.var 1) .nil)))) .nil)))))), none⟩
def ffits_frame : Fn := ⟨1, 4, (.cons (.ifs (.or (.not (.isi (.var 0) .tuple)) (.or (.cmp .eq (.var 0) (.tup .nil)) (.not (.isi (.ix (.var 0) (.lit (.int (0)))) .str)))) (.cons (.ret (.lit (.bool false))) .nil) .nil) (.cons (.set 1 (.call 474228488402918 (.cons (.ix (.var 0) (.lit (.int (0)))) .nil))) (.cons (.ifs (.or (.isc false (.var 1) .none) (.cmp .ne (.bl .len (.cons (.var 0) .nil)) (.bin .add (.bl .len (.cons (.ix (.ix (.cst 20287038035) (.var 1)) (.lit (.int (1)))) .nil)) (.lit (.int (1)))))) (.cons (.ret (.lit (.bool false))) .nil) .nil) (.cons (.ifs (.not (.bl .all (.cons (.lc (.call 7409498487466570477 (.cons (.var 2) (.cons (.var 3) .nil))) (.tp (.cons (.nm 2) (.cons (.nm 3) .nil))) [2, 3] (.zip (.ix (.ix (.cst 20287038035) (.var 1)) (.lit (.int (1)))) (.sl (.var 0) (.some (.lit (.int (1)))) .no)) .nil) .nil))) (.cons (.ret (.lit (.bool false))) .nil) .nil) (.cons (.ifs (.cmp .ne (.ix (.var 0) (.lit (.int (0)))) (.lit (.str [119, 111, 114, 100]))) (.cons (.ret (.lit (.bool true))) .nil) .nil) (.cons (.ret (.ite (.cmp .eq (.ix (.var 0) (.lit (.int (1)))) (.lit (.str [108, 105, 103, 104, 116]))) (.and (.isc false (.ix (.var 0) (.lit (.int (2)))) .none) (.not (.ix (.var 0) (.lit (.int (3)))))) (.isc true (.ix (.var 0) (.lit (.int (2)))) .none))) .nil)))))), none⟩
def fis_row_of : Fn := ⟨3, 3, (.cons (.ret (.and (.isi (.var 0) .tuple) (.cmp2 .le .le (.var 1) (.bl .len (.cons (.var 0) .nil)) (.var 2)))) .nil), none⟩
def fis_rising : Fn := ⟨1, 3, (.cons (.ret (.bl .all (.cons (.lc (.cmp .lt (.var 1) (.var 2)) (.tp (.cons (.nm 1) (.cons (.nm 2) .nil))) [1, 2] (.zip (.var 0) (.sl (.var 0) (.some (.lit (.int (1)))) .no)) .nil) .nil))) .nil), none⟩
def ffits_word : Fn := ⟨1, 1, (.cons (.ret (.and (.call 7631208380102080486 (.cons (.var 0) (.cons (.lit (.int (3))) (.cons (.lit (.int (3))) .nil)))) (.and (.call 57886706933559545 (.cons (.ix (.var 0) (.lit (.int (0)))) .nil)) (.and (.call 948415806398663505123 (.cons (.ix (.var 0) (.lit (.int (1)))) .nil)) (.call 7409498487466570477 (.cons (.lit (.str [98, 111, 100, 121])) (.cons (.ix (.var 0) (.lit (.int (2)))) .nil))))))) .nil), none⟩
def ffits_entry : Fn := ⟨2, 2, (.cons (.ifs (.or (.not (.call 7631208380102080486 (.cons (.var 1) (.cons (.lit (.int (5))) (.cons (.lit (.int (5))) .nil))))) (.or (.not (.call 59618816796915301 (.cons (.ix (.var 1) (.lit (.int (0)))) (.cons (.lit (.int (0))) (.cons (.bin .sub (.var 0) (.lit (.int (1)))) .nil))))) (.not (.call 7409498487495850340 (.cons (.bin .add (.tup (.cons (.ix (.var 1) (.lit (.int (1)))) .nil)) (.sl (.var 1) (.some (.lit (.int (3)))) .no)) .nil))))) (.cons (.ret (.lit (.bool false))) .nil) .nil) (.cons (.ifs (.or (.cmp .eq (.ix (.var 1) (.lit (.int (1)))) (.lit (.str [108, 105, 103, 104, 116]))) (.not (.isi (.ix (.var 1) (.lit (.int (2)))) .str))) (.cons (.ret (.lit (.bool false))) .nil) .nil) (.cons (.ret (.or (.cmp .eq (.ix (.var 1) (.lit (.int (2)))) (.lit (.str [115, 101, 110, 116]))) (.and (.cmp .eq (.ix (.var 1) (.lit (.int (2)))) (.lit (.str [108, 101, 116]))) (.cmp .eq (.ix (.var 1) (.lit (.int (1)))) (.lit (.str [112, 97, 105, 114, 101, 100])))))) .nil))), none⟩
def ffits_giving : Fn := ⟨2, 3, (.cons (.ifs (.or (.not (.call 7631208380102080486 (.cons (.var 1) (.cons (.lit (.int (0))) (.cons (.var 0) .nil))))) (.not (.bl .all (.cons (.lc (.call 948415806394634942841 (.cons (.var 0) (.cons (.var 2) .nil))) (.nm 2) [2] (.seq (.var 1)) .nil) .nil)))) (.cons (.ret (.lit (.bool false))) .nil) .nil) (.cons (.ret (.call 7631208378483242855 (.cons (.lc (.ix (.var 2) (.lit (.int (0)))) (.nm 2) [2] (.seq (.var 1)) .nil) .nil))) .nil)), none⟩
def ffits_taking : Fn := ⟨2, 3, (.cons (.ret (.and (.call 7631208380102080486 (.cons (.var 1) (.cons (.lit (.int (0))) (.cons (.var 0) .nil)))) (.and (.bl .all (.cons (.lc (.call 59618816796915301 (.cons (.var 2) (.cons (.lit (.int (0))) (.cons (.bin .sub (.var 0) (.lit (.int (1)))) .nil)))) (.nm 2) [2] (.seq (.var 1)) .nil) .nil)) (.call 7631208378483242855 (.cons (.var 1) .nil))))) .nil), none⟩
def ffits_memory : Fn := ⟨3, 4, (.cons (.ifs (.not (.call 7631208380102080486 (.cons (.var 1) (.cons (.ite (.var 2) (.lit (.int (3))) (.lit (.int (2)))) (.cons (.ite (.var 2) (.lit (.int (3))) (.lit (.int (2)))) .nil))))) (.cons (.ret (.lit (.bool false))) .nil) .nil) (.cons (.ifs (.or (.not (.call 121397223218580654028647 (.cons (.var 0) (.cons (.ix (.var 1) (.lit (.int (0)))) .nil)))) (.not (.call 121397223219025160075111 (.cons (.var 0) (.cons (.ix (.var 1) (.lit (.int (1)))) .nil))))) (.cons (.ret (.lit (.bool false))) .nil) .nil) (.cons (.ret (.or (.not (.var 2)) (.and (.call 7631208380102080486 (.cons (.ix (.var 1) (.lit (.int (2)))) (.cons (.lit (.int (0))) (.cons (.cst 173272019) .nil)))) (.bl .all (.cons (.lc (.call 7409498487495850340 (.cons (.var 3) .nil)) (.nm 3) [3] (.seq (.ix (.var 1) (.lit (.int (2))))) .nil) .nil))))) .nil))), none⟩
def ffits_heard : Fn := ⟨1, 4, (.cons (.ifs (.or (.not (.call 7631208380102080486 (.cons (.var 0) (.cons (.lit (.int (0))) (.cons (.cst 363028788060755) .nil))))) (.not (.bl .all (.cons (.lc (.call 7631208380102080486 (.cons (.var 1) (.cons (.lit (.int (2))) (.cons (.lit (.int (2))) .nil)))) (.nm 1) [1] (.seq (.var 0)) .nil) .nil)))) (.cons (.ret (.lit (.bool false))) .nil) .nil) (.cons (.ret (.bl .all (.cons (.lc (.and (.call 948415806398663505123 (.cons (.var 2) .nil)) (.call 7409498487466570477 (.cons (.lit (.str [98, 111, 100, 121])) (.cons (.var 3) .nil)))) (.tp (.cons (.nm 2) (.cons (.nm 3) .nil))) [2, 3] (.seq (.var 0)) .nil) .nil))) .nil)), none⟩
def ffits_client : Fn := ⟨2, 2, (.cons (.ifs (.or (.not (.call 7631208380102080486 (.cons (.var 1) (.cons (.lit (.int (4))) (.cons (.lit (.int (4))) .nil))))) (.or (.not (.call 7409498487476745957 (.cons (.ix (.var 1) (.lit (.int (0)))) .nil))) (.not (.call 948415806395421063524 (.cons (.ix (.var 1) (.lit (.int (3)))) .nil))))) (.cons (.ret (.lit (.bool false))) .nil) .nil) (.cons (.ret (.and (.call 121397223218785719941497 (.cons (.var 0) (.cons (.ix (.var 1) (.lit (.int (1)))) (.cons (.lit (.bool false)) .nil)))) (.call 121397223218785719941497 (.cons (.var 0) (.cons (.ix (.var 1) (.lit (.int (2)))) (.cons (.lit (.bool false)) .nil)))))) .nil)), none⟩
def ffits_wishes : Fn := ⟨1, 4, (.cons (.ifs (.or (.not (.call 7631208380102080486 (.cons (.var 0) (.cons (.lit (.int (0))) (.cons (.cst 3009068278483) .nil))))) (.not (.bl .all (.cons (.lc (.call 7631208380102080486 (.cons (.var 1) (.cons (.lit (.int (2))) (.cons (.lit (.int (2))) .nil)))) (.nm 1) [1] (.seq (.var 0)) .nil) .nil)))) (.cons (.ret (.lit (.bool false))) .nil) .nil) (.cons (.ifs (.not (.bl .all (.cons (.lc (.and (.call 7409498487495752168 (.cons (.var 2) .nil)) (.call 57886706933559545 (.cons (.var 3) .nil))) (.tp (.cons (.nm 2) (.cons (.nm 3) .nil))) [2, 3] (.seq (.var 0)) .nil) .nil))) (.cons (.ret (.lit (.bool false))) .nil) .nil) (.cons (.ret (.call 7631208378483242855 (.cons (.lc (.var 2) (.tp (.cons (.nm 2) (.cons (.nm 3) .nil))) [2, 3] (.seq (.var 0)) .nil) .nil))) .nil))), none⟩
def ffits_session : Fn := ⟨2, 2, (.cons (.ifs (.or (.not (.call 7631208380102080486 (.cons (.var 1) (.cons (.lit (.int (4))) (.cons (.lit (.int (4))) .nil))))) (.or (.not (.call 7409498487476745957 (.cons (.ix (.var 1) (.lit (.int (0)))) .nil))) (.not (.call 121397223219130403533555 (.cons (.ix (.var 1) (.lit (.int (1)))) .nil))))) (.cons (.ret (.lit (.bool false))) .nil) .nil) (.cons (.ret (.and (.call 121397223218785719941497 (.cons (.var 0) (.cons (.ix (.var 1) (.lit (.int (2)))) (.cons (.lit (.bool true)) .nil)))) (.call 121397223218785719941497 (.cons (.var 0) (.cons (.ix (.var 1) (.lit (.int (3)))) (.cons (.lit (.bool true)) .nil)))))) .nil)), none⟩
def ffits_moving : Fn := ⟨2, 3, (.cons (.ifs (.or (.not (.call 948415806394911454949 (.cons (.var 1) .nil))) (.cmp .notin (.ix (.var 1) (.lit (.int (0)))) (.cst 2667087816519))) (.cons (.ret (.lit (.bool false))) .nil) .nil) (.cons (.set 2 (.ite (.cmp .eq (.ix (.var 1) (.lit (.int (0)))) (.lit (.str [119, 111, 114, 100]))) (.ix (.var 1) (.lit (.int (2)))) (.ix (.var 1) (.lit (.int (1)))))) (.cons (.ret (.or (.isc false (.var 2) .none) (.cmp .lt (.var 2) (.var 0)))) .nil))), none⟩
def ffits_line : Fn := ⟨2, 4, (.cons (.ifs (.or (.not (.call 7631208380102080486 (.cons (.var 1) (.cons (.lit (.int (3))) (.cons (.lit (.int (3))) .nil))))) (.or (.not (.call 7409498487476745957 (.cons (.ix (.var 1) (.lit (.int (0)))) .nil))) (.not (.bl .all (.cons (.lc (.call 7631208380102080486 (.cons (.var 2) (.cons (.lit (.int (0))) (.cons (.cst 173272019) .nil)))) (.nm 2) [2] (.seq (.sl (.var 1) (.some (.lit (.int (1)))) .no)) .nil) .nil))))) (.cons (.ret (.lit (.bool false))) .nil) .nil) (.cons (.ret (.bl .all (.cons (.lc (.call 121397223218788423071591 (.cons (.var 0) (.cons (.var 3) .nil))) (.nm 3) [3] (.seq (.bin .add (.ix (.var 1) (.lit (.int (1)))) (.ix (.var 1) (.lit (.int (2)))))) .nil) .nil))) .nil)), none⟩
def ffits_records : Fn := ⟨2, 3, (.cons (.ifs (.or (.not (.call 7631208380102080486 (.cons (.var 1) (.cons (.lit (.int (0))) (.cons (.cst 363028788060755) .nil))))) (.not (.bl .all (.cons (.lc (.call 7631208380102080486 (.cons (.var 2) (.cons (.lit (.int (4))) (.cons (.lit (.int (4))) .nil)))) (.nm 2) [2] (.seq (.var 1)) .nil) .nil)))) (.cons (.ret (.lit (.bool false))) .nil) .nil) (.cons (.ret (.bl .all (.cons (.lc (.and (.isi (.ix (.var 2) (.lit (.int (0)))) .str) (.and (.cmp .isin (.ix (.var 2) (.lit (.int (0)))) (.var 0)) (.call 7409498487495850340 (.cons (.sl (.var 2) (.some (.lit (.int (1)))) .no) .nil)))) (.nm 2) [2] (.seq (.var 1)) .nil) .nil))) .nil)), none⟩
def ffits_manner : Fn := ⟨1, 2, (.cons (.ret (.and (.call 7631208380102080486 (.cons (.var 0) (.cons (.lit (.int (3))) (.cons (.lit (.int (3))) .nil)))) (.and (.call 59618816796915301 (.cons (.ix (.var 0) (.lit (.int (0)))) (.cons (.lit (.int (1))) (.cons (.cst 173172551) .nil)))) (.bl .all (.cons (.lc (.isi (.var 1) .bool) (.nm 1) [1] (.seq (.sl (.var 0) (.some (.lit (.int (1)))) .no)) .nil) .nil))))) .nil), none⟩
def ffits_world : Fn := ⟨1, 5, (.cons (.ifs (.or (.not (.call 7631208380102080486 (.cons (.var 0) (.cons (.lit (.int (7))) (.cons (.lit (.int (7))) .nil))))) (.not (.call 121397223218784648278770 (.cons (.ix (.var 0) (.lit (.int (0)))) .nil)))) (.cons (.ret (.lit (.bool false))) .nil) .nil) (.cons (.ifs (.not (.bl .all (.cons (.lc (.call 7631208380102080486 (.cons (.var 3) (.cons (.lit (.int (1))) (.cons (.cst 297300198140499) .nil)))) (.nm 3) [3] (.seq (.sl (.var 0) (.some (.lit (.int (1)))) (.some (.lit (.int (4)))))) .nil) .nil))) (.cons (.ret (.lit (.bool false))) .nil) .nil) (.cons (.set 1 (.ix (.ix (.var 0) (.lit (.int (0)))) (.lit (.int (0))))) (.cons (.ifs (.or (.not (.bl .all (.cons (.lc (.call 121397223218443993053044 (.cons (.var 1) (.cons (.var 3) .nil))) (.nm 3) [3] (.seq (.ix (.var 0) (.lit (.int (1))))) .nil) .nil))) (.not (.bl .all (.cons (.lc (.call 15538844572030962050430958 (.cons (.var 1) (.cons (.var 3) .nil))) (.nm 3) [3] (.seq (.ix (.var 0) (.lit (.int (2))))) .nil) .nil)))) (.cons (.ret (.lit (.bool false))) .nil) .nil) (.cons (.ifs (.not (.bl .all (.cons (.lc (.call 7409498487472682853 (.cons (.var 1) (.cons (.var 3) .nil))) (.nm 3) [3] (.seq (.ix (.var 0) (.lit (.int (3))))) .nil) .nil))) (.cons (.ret (.lit (.bool false))) .nil) .nil) (.cons (.set 2 (.bl .tuple (.cons (.lc (.ix (.var 3) (.lit (.int (0)))) (.nm 3) [3] (.seq (.ix (.var 0) (.lit (.int (1))))) .nil) .nil))) (.cons (.ifs (.or (.not (.call 7631208378483242855 (.cons (.var 2) .nil))) (.not (.bl .all (.cons (.lc (.cmp .eq (.bl .tuple (.cons (.lc (.ix (.var 3) (.lit (.int (0)))) (.nm 3) [3] (.seq (.var 4)) .nil) .nil)) (.var 2)) (.nm 4) [4] (.seq (.sl (.var 0) (.some (.lit (.int (2)))) (.some (.lit (.int (4)))))) .nil) .nil)))) (.cons (.ret (.lit (.bool false))) .nil) .nil) (.cons (.ret (.bl .all (.cons (.lc (.call 15538844572026559700710003 (.cons (.var 2) (.cons (.var 4) .nil))) (.nm 4) [4] (.seq (.sl (.var 0) (.some (.lit (.int (4)))) .no)) .nil) .nil))) .nil)))))))), none⟩
def fneed_world : Fn := ⟨1, 1, (.cons (.ifs (.not (.call 948415806399468844644 (.cons (.var 0) .nil))) (.cons (.raise 11162408591013226420680292) .nil) .nil) .nil), none⟩
def fdue_way : Fn := ⟨3, 7, (.cons (.set 3 (.lc (.var 4) (.nm 4) [4] (.seq (.tup (.cons (.lit (.str [108, 105, 103, 104, 116])) (.cons (.lit (.str [109, 97, 114, 107, 101, 100])) (.cons (.lit (.str [112, 97, 105, 114, 101, 100])) .nil))))) (.cons (.cmp .isin (.var 4) (.lc (.var 6) (.tp (.cons (.nm 5) (.cons (.nm 6) .nil))) [5, 6] (.seq (.var 0)) (.cons (.call 3638843634420 (.cons (.var 2) (.cons (.var 5) .nil))) .nil))) .nil))) (.cons (.ret (.ite (.cmp .ne (.var 3) (.lst .nil)) (.call 3738206794482 (.cons (.var 1) (.cons (.ix (.var 3) (.neg (.lit (.int (1))))) .nil))) (.lit .none))) .nil)), none⟩
def ffits_terms : Fn := ⟨1, 1, (.cons (.ifs (.or (.not (.call 7631208380102080486 (.cons (.var 0) (.cons (.lit (.int (4))) (.cons (.lit (.int (4))) .nil))))) (.or (.not (.call 59618816796915301 (.cons (.ix (.var 0) (.lit (.int (0)))) (.cons (.lit (.int (0))) (.cons (.cst 158425808) .nil))))) (.not (.call 59618816796915301 (.cons (.ix (.var 0) (.lit (.int (1)))) (.cons (.lit (.int (1))) (.cons (.cst 173270989) .nil))))))) (.cons (.ret (.lit (.bool false))) .nil) .nil) (.cons (.ifs (.or (.not (.isi (.ix (.var 0) (.lit (.int (2)))) .str)) (.cmp .notin (.ix (.var 0) (.lit (.int (2)))) (.cst 22191219411))) (.cons (.ret (.lit (.bool false))) .nil) .nil) (.cons (.ret (.or (.isc false (.ix (.var 0) (.lit (.int (3)))) .none) (.call 7409498487495850340 (.cons (.ix (.var 0) (.lit (.int (3)))) .nil)))) .nil))), none⟩
def ffits_waits : Fn := ⟨3, 5, (.cons (.ifs (.or (.not (.call 7631208380102080486 (.cons (.var 0) (.cons (.lit (.int (0))) (.cons (.var 2) .nil))))) (.not (.bl .all (.cons (.lc (.call 7631208380102080486 (.cons (.var 3) (.cons (.lit (.int (4))) (.cons (.lit (.int (4))) .nil)))) (.nm 3) [3] (.seq (.var 0)) .nil) .nil)))) (.cons (.ret (.lit (.bool false))) .nil) .nil) (.cons (.ifs (.not (.bl .all (.cons (.lc (.and (.call 59618816796915301 (.cons (.ix (.var 3) (.lit (.int (0)))) (.cons (.lit (.int (0))) (.cons (.var 1) .nil)))) (.call 7409498487495850340 (.cons (.sl (.var 3) (.some (.lit (.int (1)))) .no) .nil))) (.nm 3) [3] (.seq (.var 0)) .nil) .nil))) (.cons (.ret (.lit (.bool false))) .nil) .nil) (.cons (.ret (.bl .all (.cons (.lc (.cmp .le (.ix (.var 3) (.lit (.int (0)))) (.ix (.var 4) (.lit (.int (0))))) (.tp (.cons (.nm 3) (.cons (.nm 4) .nil))) [3, 4] (.zip (.var 0) (.sl (.var 0) (.some (.lit (.int (1)))) .no)) .nil) .nil))) .nil))), none⟩
def ffits_sitting : Fn := ⟨2, 2, (.cons (.ifs (.or (.not (.call 7631208380102080486 (.cons (.var 0) (.cons (.lit (.int (5))) (.cons (.lit (.int (5))) .nil))))) (.or (.not (.call 7409498487476745957 (.cons (.ix (.var 0) (.lit (.int (0)))) .nil))) (.or (.not (.call 948415806398642566899 (.cons (.ix (.var 0) (.lit (.int (2)))) .nil))) (.not (.call 121397223219130403533555 (.cons (.ix (.var 0) (.lit (.int (3)))) .nil)))))) (.cons (.ret (.lit (.bool false))) .nil) .nil) (.cons (.ifs (.not (.or (.and (.isi (.ix (.var 0) (.lit (.int (1)))) .str) (.cmp .eq (.ix (.var 0) (.lit (.int (1)))) (.lit (.str [111, 112, 101, 110])))) (.call 59618816796915301 (.cons (.ix (.var 0) (.lit (.int (1)))) (.cons (.lit (.int (1))) (.cons (.ix (.ix (.var 0) (.lit (.int (2)))) (.lit (.int (0)))) .nil)))))) (.cons (.ret (.lit (.bool false))) .nil) .nil) (.cons (.ret (.call 948415806399439338099 (.cons (.ix (.var 0) (.lit (.int (4)))) (.cons (.var 1) (.cons (.ix (.ix (.var 0) (.lit (.int (2)))) (.lit (.int (1)))) .nil))))) .nil))), none⟩
def ffits_house : Fn := ⟨1, 2, (.cons (.ifs (.or (.not (.call 7631208380102080486 (.cons (.var 0) (.cons (.lit (.int (2))) (.cons (.lit (.int (2))) .nil))))) (.or (.not (.call 59618816796915301 (.cons (.ix (.var 0) (.lit (.int (0)))) (.cons (.lit (.int (0))) (.cons (.cst 22728189779) .nil))))) (.not (.call 7631208380102080486 (.cons (.ix (.var 0) (.lit (.int (1)))) (.cons (.lit (.int (0))) (.cons (.cst 47031185636058963) .nil))))))) (.cons (.ret (.lit (.bool false))) .nil) .nil) (.cons (.ret (.and (.bl .all (.cons (.lc (.call 15538844572031099759916903 (.cons (.var 1) (.cons (.ix (.var 0) (.lit (.int (0)))) .nil))) (.nm 1) [1] (.seq (.ix (.var 0) (.lit (.int (1))))) .nil) .nil)) (.call 7631208378483242855 (.cons (.lc (.ix (.var 1) (.lit (.int (0)))) (.nm 1) [1] (.seq (.ix (.var 0) (.lit (.int (1))))) .nil) .nil)))) .nil)), none⟩
def ffits_step_part : Fn := ⟨2, 2, (.cons (.ifs (.cmp .eq (.var 0) (.lit (.str [110, 97, 109, 101]))) (.cons (.ret (.call 7409498487476745957 (.cons (.var 1) .nil))) .nil) .nil) (.cons (.ifs (.cmp .eq (.var 0) (.lit (.str [102, 114, 101, 115, 104]))) (.cons (.ret (.isi (.var 1) .bool)) .nil) .nil) (.cons (.ifs (.cmp .eq (.var 0) (.lit (.str [116, 101, 114, 109, 115]))) (.cons (.ret (.call 948415806398642566899 (.cons (.var 1) .nil))) .nil) .nil) (.cons (.ifs (.cmp .eq (.var 0) (.lit (.str [109, 97, 110, 121]))) (.cons (.ret (.call 59618816796915301 (.cons (.var 1) (.cons (.lit (.int (1))) (.cons (.cst 173270989) .nil))))) .nil) .nil) (.cons (.ifs (.cmp .eq (.var 0) (.lit (.str [119, 105, 115, 104]))) (.cons (.ret (.call 7409498487495752168 (.cons (.var 1) .nil))) .nil) .nil) (.cons (.ifs (.cmp .eq (.var 0) (.lit (.str [119, 97, 121]))) (.cons (.ret (.call 57886706933559545 (.cons (.var 1) .nil))) .nil) .nil) (.cons (.ret (.ite (.cmp .eq (.var 0) (.lit (.str [116, 111, 112, 105, 99]))) (.call 948415806398663505123 (.cons (.var 1) .nil)) (.call 7409498487466570477 (.cons (.lit (.str [98, 111, 100, 121])) (.cons (.var 1) .nil))))) .nil))))))), none⟩
def ffits_house_step : Fn := ⟨1, 4, (.cons (.ifs (.or (.not (.isi (.var 0) .tuple)) (.or (.cmp .eq (.var 0) (.tup .nil)) (.or (.not (.isi (.ix (.var 0) (.lit (.int (0)))) .str)) (.kin true (.ix (.var 0) (.lit (.int (0)))) 21612505683)))) (.cons (.ret (.lit (.bool false))) .nil) .nil) (.cons (.set 1 (.kix 21612505683 (.ix (.var 0) (.lit (.int (0)))))) (.cons (.ret (.and (.cmp .eq (.bl .len (.cons (.var 0) .nil)) (.bin .add (.bl .len (.cons (.var 1) .nil)) (.lit (.int (1))))) (.bl .all (.cons (.lc (.call 254588429468163664805149309300 (.cons (.var 2) (.cons (.var 3) .nil))) (.tp (.cons (.nm 2) (.cons (.nm 3) .nil))) [2, 3] (.zip (.var 1) (.sl (.var 0) (.some (.lit (.int (1)))) .no)) .nil) .nil)))) .nil))), none⟩
def fdropped_for : Fn := ⟨3, 4, (.cons (.ret (.bl .tuple (.cons (.lc (.bin .add (.tup (.cons (.lit (.str [100, 114, 111, 112, 112, 101, 100])) (.cons (.var 0) (.cons (.var 1) .nil)))) (.var 3)) (.nm 3) [3] (.seq (.var 2)) .nil) .nil))) .nil), none⟩
def ffirst_light : Fn := ⟨1, 4, (.cons (.set 1 (.lc (.var 2) (.tp (.cons (.nm 2) (.cons (.nm 3) .nil))) [2, 3] (.enum (.var 0)) (.cons (.cmp .eq (.ix (.var 3) (.lit (.int (1)))) (.lit (.str [108, 105, 103, 104, 116]))) .nil))) (.cons (.ret (.ite (.cmp .ne (.var 1) (.lst .nil)) (.ix (.var 1) (.lit (.int (0)))) (.lit .none))) .nil)), none⟩
def fwithout : Fn := ⟨2, 2, (.cons (.ret (.bin .add (.sl (.var 0) .no (.some (.var 1))) (.sl (.var 0) (.some (.bin .add (.var 1) (.lit (.int (1))))) .no))) .nil), none⟩
def fput_in : Fn := ⟨4, 5, (.cons (.ifs (.cmp .lt (.bl .len (.cons (.var 2) .nil)) (.var 0)) (.cons (.ret (.tup (.cons (.bin .add (.var 2) (.tup (.cons (.var 3) .nil))) (.cons (.tup .nil) .nil)))) .nil) .nil) (.cons (.ifs (.cmp .eq (.var 1) (.lit (.str [110, 101, 119, 101, 114]))) (.cons (.ret (.tup (.cons (.var 2) (.cons (.tup (.cons (.var 3) .nil)) .nil)))) .nil) .nil) (.cons (.set 4 (.ite (.cmp .eq (.var 1) (.lit (.str [108, 105, 103, 104, 116]))) (.call 121397079195477455008884 (.cons (.var 2) .nil)) (.lit (.int (0))))) (.cons (.ifs (.and (.isc false (.var 4) .none) (.cmp .eq (.ix (.var 3) (.lit (.int (1)))) (.lit (.str [108, 105, 103, 104, 116])))) (.cons (.ret (.tup (.cons (.var 2) (.cons (.tup (.cons (.var 3) .nil)) .nil)))) .nil) .nil) (.cons (.set 4 (.ite (.isc false (.var 4) .none) (.lit (.int (0))) (.var 4))) (.cons (.ret (.tup (.cons (.bin .add (.call 527006665800436 (.cons (.var 2) (.cons (.var 4) .nil))) (.tup (.cons (.var 3) .nil))) (.cons (.tup (.cons (.ix (.var 2) (.var 4)) .nil)) .nil)))) .nil)))))), none⟩
def fcut_to : Fn := ⟨3, 7, (.cons (.set 3 (.tup .nil)) (.cons (.for_ (.nm 4) (.rng1 (.bin .sub (.bl .len (.cons (.var 2) .nil)) (.var 0))) (.cons (.set 5 (.call 121397079195477455008884 (.cons (.var 2) .nil))) (.cons (.set 6 (.ite (.cmp .eq (.var 1) (.lit (.str [110, 101, 119, 101, 114]))) (.bin .sub (.bl .len (.cons (.var 2) .nil)) (.lit (.int (1)))) (.ite (.or (.cmp .eq (.var 1) (.lit (.str [101, 108, 100, 101, 114]))) (.isc false (.var 5) .none)) (.lit (.int (0))) (.var 5)))) (.cons (.par2 2 3 (.cons (.call 527006665800436 (.cons (.var 2) (.cons (.var 6) .nil))) (.cons (.bin .add (.var 3) (.tup (.cons (.ix (.var 2) (.var 6)) .nil))) .nil))) .nil)))) (.cons (.ret (.tup (.cons (.var 2) (.cons (.var 3) .nil)))) .nil))), none⟩
def fended : Fn := ⟨2, 5, (.cons (.set 2 (.ix (.ix (.var 0) (.var 1)) (.lit (.int (3))))) (.cons (.set 3 (.dcopy (.lc (.tup (.cons (.var 4) (.cons (.ix (.var 0) (.var 4)) .nil))) (.nm 4) [4] (.seq (.var 0)) (.cons (.cmp .ne (.var 4) (.var 1)) .nil)))) (.cons (.ret (.tup (.cons (.var 3) (.cons (.bin .add (.call 119118688423354155251698 (.cons (.var 1) (.cons (.lit (.str [101, 110, 100])) (.cons (.var 2) .nil)))) (.tup (.cons (.tup (.cons (.lit (.str [101, 110, 100, 101, 100])) (.cons (.var 1) .nil))) .nil))) .nil)))) .nil))), none⟩
def ftold_to_all : Fn := ⟨4, 15, (.cons (.sett (.tp (.cons (.nm 4) (.cons (.tp (.cons (.nm 5) (.cons (.nm 6) (.cons (.nm 7) .nil)))) .nil))) (.tup (.cons (.tup .nil) (.cons (.var 2) .nil)))) (.cons (.for_ (.nm 8) (.seq (.bl .sorted (.cons (.var 1) .nil))) (.cons (.sett (.tp (.cons (.nm 9) (.cons (.nm 10) (.cons (.nm 11) (.cons (.nm 12) .nil))))) (.ix (.var 1) (.var 8))) (.cons (.set 13 (.call 443852053672185 (.cons (.var 11) (.cons (.var 5) (.cons (.var 6) .nil))))) (.cons (.ifs (.isc true (.var 13) .none) (.cons (.sett (.tp (.cons (.nm 12) (.cons (.nm 14) .nil))) (.call 3879942485230 (.cons (.ix (.var 10) (.lit (.int (1)))) (.cons (.ix (.var 10) (.lit (.int (2)))) (.cons (.var 12) (.cons (.bin .add (.tup (.cons (.var 0) (.cons (.var 13) (.cons (.var 6) (.cons (.var 7) .nil))))) (.var 3)) .nil)))))) (.cons .never (.cons (.set 4 (.bin .add (.var 4) (.call 119118688423354155251698 (.cons (.var 8) (.cons (.lit (.str [114, 111, 111, 109])) (.cons (.var 14) .nil)))))) .nil))) .nil) .nil)))) (.cons (.ret (.tup (.cons (.var 1) (.cons (.var 4) .nil)))) .nil))), none⟩
def fleft_alone : Fn := ⟨5, 12, (.cons (.sett (.tp (.cons (.nm 5) (.cons (.nm 6) (.cons (.nm 7) (.cons (.nm 8) .nil))))) (.ix (.var 1) (.var 2))) (.cons (.set 9 (.ix (.var 6) (.lit (.int (3))))) (.cons .never (.cons (.set 10 (.tup .nil)) (.cons (.ifs (.cmp .eq (.ix (.var 6) (.lit (.int (0)))) (.lit (.int (0)))) (.cons (.sett (.tp (.cons (.nm 1) (.cons (.nm 10) .nil))) (.call 27344319204 (.cons (.var 1) (.cons (.var 2) .nil)))) .nil) .nil) (.cons (.ifs (.and (.var 3) (.isc true (.var 9) .none)) (.cons (.sett (.tp (.cons (.nm 1) (.cons (.nm 11) .nil))) (.call 137980261236292175033964 (.cons (.var 0) (.cons (.var 1) (.cons (.var 9) (.cons (.var 4) .nil)))))) (.cons (.set 10 (.bin .add (.var 10) (.var 11))) .nil)) .nil) (.cons (.ret (.tup (.cons (.var 1) (.cons (.var 10) .nil)))) .nil))))))), none⟩
def fopened : Fn := ⟨4, 13, (.cons (.sett (.tp (.cons (.nm 4) (.cons (.tp (.cons (.nm 5) (.cons (.nm 6) (.cons (.nm 7) .nil)))) .nil))) (.tup (.cons (.tup .nil) (.cons (.sl (.var 2) (.some (.lit (.int (1)))) .no) .nil)))) (.cons (.ifs (.and (.cmp .isin (.var 5) (.var 1)) (.cmp .eq (.ix (.ix (.var 1) (.var 5)) (.lit (.int (0)))) (.lit (.str [111, 112, 101, 110])))) (.cons (.sett (.tp (.cons (.nm 1) (.cons (.nm 4) .nil))) (.call 1003459931337232480101 (.cons (.var 0) (.cons (.var 1) (.cons (.var 5) (.cons (.lit (.bool true)) (.cons (.var 3) .nil))))))) .nil) .nil) (.cons (.ifs (.and (.cmp .isin (.var 5) (.var 1)) (.not (.var 6))) (.cons (.sett (.tp (.cons (.nm 8) (.cons (.nm 9) .nil))) (.sl (.ix (.var 1) (.var 5)) (.some (.lit (.int (2)))) .no)) (.cons (.sett (.tp (.cons (.nm 10) (.cons (.nm 11) .nil))) (.call 3433265887855 (.cons (.ix (.var 7) (.lit (.int (1)))) (.cons (.ix (.var 7) (.lit (.int (2)))) (.cons (.var 9) .nil))))) (.cons .never (.cons (.ret (.tup (.cons (.var 1) (.cons (.bin .add (.bin .add (.var 4) (.call 119118688423354155251698 (.cons (.var 5) (.cons (.lit (.str [114, 111, 111, 109])) (.cons (.var 11) .nil))))) (.tup (.cons (.tup (.cons (.lit (.str [111, 110])) (.cons (.var 5) (.cons (.bl .len (.cons (.var 10) .nil)) .nil)))) .nil))) .nil)))) .nil)))) .nil) (.cons (.ifs (.cmp .isin (.var 5) (.var 1)) (.cons (.sett (.tp (.cons (.nm 1) (.cons (.nm 12) .nil))) (.call 27344319204 (.cons (.var 1) (.cons (.var 5) .nil)))) (.cons (.set 4 (.bin .add (.var 4) (.var 12))) .nil)) .nil) (.cons (.ifs (.cmp .eq (.bl .len (.cons (.var 1) .nil)) (.cst 47031185636058963)) (.cons (.ret (.lit .none)) .nil) .nil) (.cons .never .nil)))))), none⟩
def fturned : Fn := ⟨1, 8, (.cons (.set 1 (.tup .nil)) (.cons (.for_ (.nm 2) (.seq (.bl .sorted (.cons (.var 0) .nil))) (.cons (.sett (.tp (.cons (.nm 3) (.cons (.nm 4) (.cons (.nm 5) (.cons (.nm 6) .nil))))) (.ix (.var 0) (.var 2))) (.cons (.ifs (.and (.cmp .ne (.var 3) (.lit (.str [111, 112, 101, 110]))) (.cmp .eq (.var 3) (.lit (.int (1))))) (.cons (.sett (.tp (.cons (.nm 0) (.cons (.nm 7) .nil))) (.call 27344319204 (.cons (.var 0) (.cons (.var 2) .nil)))) (.cons (.set 1 (.bin .add (.var 1) (.var 7))) .nil)) (.cons (.ifs (.cmp .ne (.var 3) (.lit (.str [111, 112, 101, 110]))) (.cons .never .nil) .nil) .nil)) .nil))) (.cons (.ret (.tup (.cons (.var 0) (.cons (.var 1) .nil)))) .nil))), none⟩
def frewished : Fn := ⟨2, 11, (.cons (.sett (.tp (.cons (.nm 2) (.cons (.nm 3) .nil))) (.tup (.cons (.ix (.var 1) (.lit (.int (1)))) (.cons (.ix (.var 1) (.lit (.int (2)))) .nil)))) (.cons (.sett (.tp (.cons (.nm 4) (.cons (.nm 5) (.cons (.nm 6) (.cons (.nm 7) .nil))))) (.ix (.var 0) (.var 2))) (.cons (.set 8 (.bl .tuple (.cons (.lc (.var 10) (.nm 10) [10] (.seq (.var 6)) (.cons (.cmp .ne (.ix (.var 10) (.lit (.int (0)))) (.var 3)) .nil)) .nil))) (.cons (.ifs (.and (.cmp .eq (.ix (.var 1) (.lit (.int (0)))) (.lit (.str [117, 110, 119, 105, 115, 104]))) (.cmp .eq (.bl .len (.cons (.var 8) .nil)) (.bl .len (.cons (.var 6) .nil)))) (.cons (.ret (.lit .none)) .nil) .nil) (.cons (.set 9 (.ite (.cmp .eq (.ix (.var 1) (.lit (.int (0)))) (.lit (.str [117, 110, 119, 105, 115, 104]))) (.var 8) (.bl .tuple (.cons (.bl .sorted (.cons (.bin .add (.var 8) (.tup (.cons (.tup (.cons (.var 3) (.cons (.ix (.var 1) (.lit (.int (3)))) .nil))) .nil))) .nil)) .nil)))) (.cons .never .nil)))))), none⟩
def fhanded_out : Fn := ⟨3, 9, (.cons (.sett (.tp (.cons (.nm 3) (.cons (.nm 4) (.cons (.nm 5) (.cons (.nm 6) .nil))))) (.ix (.var 0) (.var 1))) (.cons (.set 7 (.bl .tuple (.cons (.lc (.bin .add (.tup (.cons (.lit (.str [104, 97, 110, 100, 101, 100])) (.cons (.var 1) .nil))) (.var 8)) (.nm 8) [8] (.seq (.sl (.var 6) .no (.some (.var 2)))) .nil) .nil))) (.cons .never .nil))), none⟩
def fstepped_on : Fn := ⟨4, 5, (.cons (.set 4 (.ix (.var 2) (.lit (.int (0))))) (.cons (.ifs (.cmp .eq (.var 4) (.lit (.str [116, 101, 108, 108]))) (.cons (.ret (.call 137980261236292175033964 (.cons (.var 0) (.cons (.var 1) (.cons (.sl (.var 2) (.some (.lit (.int (1)))) .no) (.cons (.var 3) .nil)))))) .nil) .nil) (.cons (.ifs (.cmp .eq (.var 4) (.lit (.str [111, 112, 101, 110]))) (.cons (.ret (.call 3844209357540 (.cons (.var 0) (.cons (.var 1) (.cons (.var 2) (.cons (.var 3) .nil)))))) .nil) .nil) (.cons (.ifs (.or (.cmp .notin (.ix (.var 2) (.lit (.int (1)))) (.var 1)) (.cmp .ne (.ix (.ix (.var 1) (.ix (.var 2) (.lit (.int (1))))) (.lit (.int (0)))) (.lit (.str [111, 112, 101, 110])))) (.cons (.ret (.lit .none)) .nil) .nil) (.cons (.ifs (.cmp .isin (.var 4) (.tup (.cons (.lit (.str [115, 104, 117, 116])) (.cons (.lit (.str [98, 114, 101, 97, 107])) .nil)))) (.cons (.ret (.call 1003459931337232480101 (.cons (.var 0) (.cons (.var 1) (.cons (.ix (.var 2) (.lit (.int (1)))) (.cons (.cmp .eq (.var 4) (.lit (.str [98, 114, 101, 97, 107]))) (.cons (.var 3) .nil))))))) .nil) .nil) (.cons (.ret (.ite (.cmp .eq (.var 4) (.lit (.str [116, 97, 107, 101]))) (.call 966282646251481332468 (.cons (.var 1) (.cons (.ix (.var 2) (.lit (.int (1)))) (.cons (.ix (.var 2) (.lit (.int (2)))) .nil)))) (.call 64624614625129188 (.cons (.var 1) (.cons (.var 2) .nil))))) .nil)))))), none⟩
def fhouse_led : Fn := ⟨3, 8, (.cons (.par2 3 4 (.cons (.ix (.var 0) (.lit (.int (0)))) (.cons (.dcopy (.lc (.tup (.cons (.ix (.var 6) (.lit (.int (0)))) (.cons (.sl (.var 6) (.some (.lit (.int (1)))) .no) .nil))) (.nm 6) [6] (.seq (.ix (.var 0) (.lit (.int (1))))) .nil)) .nil))) (.cons (.set 5 (.ite (.cmp .eq (.ix (.var 1) (.lit (.int (0)))) (.lit (.str [116, 117, 114, 110]))) (.call 4017377489636 (.cons (.var 4) .nil)) (.call 1069103819548817618926 (.cons (.var 3) (.cons (.var 4) (.cons (.var 1) (.cons (.var 2) .nil))))))) (.cons (.set 3 (.ite (.cmp .eq (.ix (.var 1) (.lit (.int (0)))) (.lit (.str [116, 117, 114, 110]))) (.bin .add (.var 3) (.lit (.int (1)))) (.var 3))) (.cons (.ifs (.or (.isc false (.var 5) .none) (.cmp .gt (.var 3) (.cst 22728189779))) (.cons (.ret (.lit .none)) .nil) .nil) (.cons (.ret (.tup (.cons (.tup (.cons (.var 3) (.cons (.bl .tuple (.cons (.lc (.bin .add (.tup (.cons (.var 7) .nil)) (.ix (.ix (.var 5) (.lit (.int (0)))) (.var 7))) (.nm 7) [7] (.seq (.bl .sorted (.cons (.ix (.var 5) (.lit (.int (0)))) .nil))) .nil) .nil)) .nil))) (.cons (.ix (.var 5) (.lit (.int (1)))) .nil)))) .nil))))), none⟩
def fneed_house : Fn := ⟨1, 1, (.cons (.ifs (.not (.call 948415806395442362853 (.cons (.var 0) .nil))) (.cons (.raise 11162408591013222394198501) .nil) .nil) .nil), none⟩
def fis_house : Fn := ⟨1, 1, (.cons (.ret (.call 948415806395442362853 (.cons (.var 0) .nil))) .nil), none⟩
def fis_house_step : Fn := ⟨1, 1, (.cons (.ret (.call 32587318971823140735278546498288 (.cons (.var 0) .nil))) .nil), none⟩
def fhouse_stepped : Fn := ⟨2, 3, (.cons (.expr (.call 1021906042094129871333 (.cons (.var 0) .nil))) (.cons (.ifs (.not (.call 32587318971823140735278546498288 (.cons (.var 1) .nil))) (.cons (.raise 87206317117290823103216) .nil) .nil) (.cons (.set 2 (.call 7556995774898975460 (.cons (.var 0) (.cons (.var 1) (.cons (.tup .nil) .nil))))) (.cons (.ifs (.isc false (.var 2) .none) (.cons (.raise 625017925216187003632) .nil) .nil) (.cons (.ret (.var 2)) .nil))))), none⟩
def fsessions_for : Fn := ⟨3, 6, (.cons (.expr (.call 1021906042094129871333 (.cons (.var 0) .nil))) (.cons (.expr (.call 62372194952278265 (.cons (.var 1) .nil))) (.cons (.ifs (.not (.call 948415806398663505123 (.cons (.var 2) .nil))) (.cons (.raise 11162408591013225615340771) .nil) .nil) (.cons (.set 3 (.lc (.tup (.cons (.ix (.var 4) (.lit (.int (0)))) (.cons (.call 443852053672185 (.cons (.ix (.var 4) (.lit (.int (3)))) (.cons (.var 1) (.cons (.var 2) .nil)))) .nil))) (.nm 4) [4] (.seq (.ix (.var 0) (.lit (.int (1))))) .nil)) (.cons (.ret (.lc (.var 5) (.nm 5) [5] (.seq (.var 3)) (.cons (.isc true (.ix (.var 5) (.lit (.int (1)))) .none) .nil))) .nil))))), none⟩
def fhouse_of_world : Fn := ⟨1, 8, (.cons (.expr (.call 1021906042098156353124 (.cons (.var 0) .nil))) (.cons (.par2 1 2 (.cons (.tup (.cons (.cst 158425808) (.cons (.cst 173270989) (.cons (.lit (.str [110, 101, 119, 101, 114])) (.cons (.lit .none) .nil))))) (.cons (.tup .nil) .nil))) (.cons (.for_ (.tp (.cons (.nm 3) (.cons (.nm 4) (.cons (.nm 5) (.cons (.nm 6) .nil))))) (.seq (.ix (.var 0) (.lit (.int (2))))) (.cons (.set 2 (.bin .add (.var 2) (.tup (.cons (.tup (.cons (.var 3) (.cons (.lit (.str [111, 112, 101, 110])) (.cons (.var 1) (.cons (.var 4) (.cons (.bl .tuple (.cons (.lc (.bin .add (.tup (.cons (.lit (.int (0))) .nil)) (.var 7)) (.nm 7) [7] (.seq (.ix (.var 5) (.lit (.int (2))))) .nil) .nil)) .nil)))))) .nil)))) .nil)) (.cons (.ret (.tup (.cons (.lit (.int (0))) (.cons (.var 2) .nil)))) .nil)))), none⟩
def fneed_steps : Fn := ⟨1, 2, (.cons (.ifs (.or (.not (.call 7631208380102080486 (.cons (.var 0) (.cons (.lit (.int (0))) (.cons (.cst 434390150735010586922211823211870067) .nil))))) (.not (.bl .all (.cons (.lc (.call 32587318971823140735278546498288 (.cons (.var 1) .nil)) (.nm 1) [1] (.seq (.var 0)) .nil) .nil)))) (.cons (.raise 11162408591013225357211763) .nil) .nil) .nil), none⟩
def fneed_session_name : Fn := ⟨1, 1, (.cons (.ifs (.not (.call 7409498487476745957 (.cons (.var 0) .nil))) (.cons (.raise 11162408591013223975318259) .nil) .nil) .nil), none⟩
def fled_through : Fn := ⟨2, 5, (.cons (.set 2 (.lst (.cons (.tup (.cons (.var 0) (.cons (.tup .nil) .nil))) .nil))) (.cons (.for_ (.nm 3) (.seq (.var 1)) (.cons (.set 4 (.call 7556995774898975460 (.cons (.ix (.ix (.var 2) (.neg (.lit (.int (1))))) (.lit (.int (0)))) (.cons (.var 3) (.cons (.tup .nil) .nil))))) (.cons (.ifs (.isc false (.var 4) .none) (.cons (.raise 625017925216187003632) .nil) .nil) (.cons (.set 2 (.bin .add (.var 2) (.lst (.cons (.var 4) .nil)))) .nil)))) (.cons (.ret (.var 2)) .nil))), none⟩
def ftagged : Fn := ⟨1, 4, (.cons (.set 1 (.tup .nil)) (.cons (.for_ (.nm 2) (.seq (.ix (.var 0) (.lit (.int (1))))) (.cons (.set 1 (.bin .add (.var 1) (.tup (.cons (.bin .add (.sl (.var 2) .no (.some (.lit (.int (4))))) (.tup (.cons (.bl .tuple (.cons (.lc (.bin .add (.var 3) (.tup (.cons (.lit .none) .nil))) (.nm 3) [3] (.seq (.ix (.var 2) (.lit (.int (4))))) .nil) .nil)) .nil))) .nil)))) .nil)) (.cons (.ret (.tup (.cons (.ix (.var 0) (.lit (.int (0)))) (.cons (.var 1) .nil)))) .nil))), none⟩
def fcomers : Fn := ⟨3, 6, (.cons (.set 4 (.lc (.tup (.cons (.ix (.var 3) (.lit (.int (1)))) (.cons (.sl (.var 3) (.some (.lit (.int (3)))) .no) .nil))) (.nm 3) [3] (.seq (.var 2)) (.cons (.and (.cmp .eq (.ix (.var 3) (.lit (.int (0)))) (.lit (.str [100, 114, 111, 112, 112, 101, 100]))) (.cmp .eq (.ix (.var 3) (.neg (.lit (.int (1))))) (.var 0))) .nil))) (.cons (.for_ (.nm 3) (.seq (.ix (.var 1) (.lit (.int (1))))) (.cons (.set 4 (.bin .add (.var 4) (.lc (.tup (.cons (.ix (.var 3) (.lit (.int (0)))) (.cons (.var 5) .nil))) (.nm 5) [5] (.seq (.ix (.var 3) (.lit (.int (4))))) (.cons (.cmp .eq (.ix (.var 5) (.neg (.lit (.int (1))))) (.var 0)) .nil)))) .nil)) (.cons (.ret (.bl .sorted (.cons (.var 4) .nil))) .nil))), none⟩
def ffates_told : Fn := ⟨2, 12, (.cons (.sett (.tp (.cons (.nm 2) (.cons (.nm 3) (.cons (.nm 4) .nil)))) (.tup (.cons (.call 4011985597156 (.cons (.var 0) .nil)) (.cons (.lst .nil) (.cons .dnew .nil))))) (.cons (.for_ (.tp (.cons (.nm 5) (.cons (.nm 6) .nil))) (.enum (.var 1)) (.cons (.set 7 (.call 7556995774898975460 (.cons (.var 2) (.cons (.var 6) (.cons (.tup (.cons (.var 5) .nil)) .nil))))) (.cons (.ifs (.isc false (.var 7) .none) (.cons (.raise 625017925216187003632) .nil) .nil) (.cons (.sett (.tp (.cons (.nm 2) (.cons (.nm 8) .nil))) (.var 7)) (.cons (.set 3 (.bin .add (.var 3) (.lc (.bin .add (.tup (.cons (.var 5) (.cons (.var 10) .nil))) (.sl (.var 11) (.some (.lit (.int (1)))) (.some (.lit (.int (4)))))) (.tp (.cons (.nm 10) (.cons (.nm 11) .nil))) [10, 11] (.seq (.call 3431640693107 (.cons (.var 5) (.cons (.var 2) (.cons (.var 8) .nil))))) .nil))) (.cons (.for_ (.nm 9) (.seq (.var 8)) (.cons (.ifs (.cmp .eq (.ix (.var 9) (.lit (.int (0)))) (.lit (.str [104, 97, 110, 100, 101, 100]))) (.cons .never .nil) .nil) (.cons (.ifs (.cmp .eq (.ix (.var 9) (.lit (.int (0)))) (.lit (.str [100, 114, 111, 112, 112, 101, 100]))) (.cons .never .nil) .nil) .nil))) .nil)))))) (.cons (.ret (.lc (.bin .add (.var 9) (.mt .get2 (.var 4) (.cons (.sl (.var 9) .no (.some (.lit (.int (2))))) (.cons (.tup (.cons (.lit (.str [119, 97, 105, 116, 115])) (.cons (.bl .len (.cons (.var 1) .nil)) .nil))) .nil)))) (.nm 9) [9] (.seq (.var 3)) .nil)) .nil))), none⟩
def fhouse_course : Fn := ⟨2, 4, (.cons (.expr (.call 1021906042094129871333 (.cons (.var 0) .nil))) (.cons (.expr (.call 1021906042097092884595 (.cons (.var 1) .nil))) (.cons (.ret (.lc (.var 2) (.tp (.cons (.nm 2) (.cons (.nm 3) .nil))) [2, 3] (.seq (.call 128442715366629765379048 (.cons (.var 0) (.cons (.var 1) .nil)))) .nil)) .nil))), none⟩
def ftold_in : Fn := ⟨2, 4, (.cons (.expr (.call 1021906042094129871333 (.cons (.var 0) .nil))) (.cons (.expr (.call 1021906042097092884595 (.cons (.var 1) .nil))) (.cons (.ret (.lc (.var 3) (.tp (.cons (.nm 2) (.cons (.nm 3) .nil))) [2, 3] (.seq (.sl (.call 128442715366629765379048 (.cons (.var 0) (.cons (.var 1) .nil))) (.some (.lit (.int (1)))) .no)) .nil)) .nil))), none⟩
def ffates_of : Fn := ⟨2, 2, (.cons (.expr (.call 1021906042094129871333 (.cons (.var 0) .nil))) (.cons (.expr (.call 1021906042097092884595 (.cons (.var 1) .nil))) (.cons (.ret (.call 947839284755277018724 (.cons (.var 0) (.cons (.var 1) .nil)))) .nil))), none⟩
def ffate_counts : Fn := ⟨3, 6, (.cons (.expr (.call 1021906042094129871333 (.cons (.var 0) .nil))) (.cons (.expr (.call 1021906042097092884595 (.cons (.var 1) .nil))) (.cons (.expr (.call 575281958799498159691333097273980645 (.cons (.var 2) .nil))) (.cons (.set 3 (.lc (.ix (.var 4) (.lit (.int (5)))) (.nm 4) [4] (.seq (.call 947839284755277018724 (.cons (.var 0) (.cons (.var 1) .nil)))) (.cons (.cmp .eq (.ix (.var 4) (.lit (.int (1)))) (.var 2)) .nil))) (.cons (.ret (.bl .tuple (.cons (.lc (.mt .count (.var 3) (.cons (.var 5) .nil)) (.nm 5) [5] (.seq (.tup (.cons (.lit (.str [104, 97, 110, 100, 101, 100])) (.cons (.lit (.str [114, 111, 111, 109])) (.cons (.lit (.str [101, 110, 100])) (.cons (.lit (.str [119, 97, 105, 116, 115])) .nil)))))) .nil) .nil))) .nil))))), none⟩
def fretermed : Fn := ⟨3, 3, (.cons (.ret (.bin .add (.bin .add (.sl (.var 0) .no (.some (.var 1))) (.tup (.cons (.var 2) .nil))) (.sl (.var 0) (.some (.bin .add (.var 1) (.lit (.int (1))))) .no))) .nil), none⟩
def fsat_with : Fn := ⟨3, 4, (.cons (.set 3 (.ite (.or (.cmp .eq (.ix (.var 0) (.lit (.int (1)))) (.lit (.str [111, 112, 101, 110]))) (.cmp .eq (.var 1) (.lit (.int (1))))) (.ix (.var 0) (.lit (.int (1)))) (.bl .min2 (.cons (.ix (.var 0) (.lit (.int (1)))) (.cons (.var 2) .nil))))) (.cons (.ret (.bin .add (.tup (.cons (.ix (.var 0) (.lit (.int (0)))) (.cons (.var 3) (.cons (.call 64624510470157028 (.cons (.ix (.var 0) (.lit (.int (2)))) (.cons (.var 1) (.cons (.var 2) .nil)))) .nil)))) (.sl (.var 0) (.some (.lit (.int (3)))) .no))) .nil)), none⟩
def fhouse_with : Fn := ⟨4, 5, (.cons (.ret (.tup (.cons (.ix (.var 0) (.lit (.int (0)))) (.cons (.bl .tuple (.cons (.lc (.ite (.cmp .eq (.ix (.var 4) (.lit (.int (0)))) (.var 1)) (.call 65169866637343336 (.cons (.var 4) (.cons (.var 2) (.cons (.var 3) .nil)))) (.var 4)) (.nm 4) [4] (.seq (.ix (.var 0) (.lit (.int (1))))) .nil) .nil)) .nil)))) .nil), none⟩
def fsteps_with : Fn := ⟨4, 7, (.cons (.set 4 (.lst .nil)) (.cons (.for_ (.nm 5) (.seq (.var 0)) (.cons (.set 6 (.and (.cmp .eq (.ix (.var 5) (.lit (.int (0)))) (.lit (.str [111, 112, 101, 110]))) (.cmp .eq (.ix (.var 5) (.lit (.int (1)))) (.var 1)))) (.cons (.set 4 (.bin .add (.var 4) (.lst (.cons (.ite (.var 6) (.bin .add (.sl (.var 5) .no (.some (.lit (.int (3))))) (.tup (.cons (.call 64624510470157028 (.cons (.ix (.var 5) (.lit (.int (3)))) (.cons (.var 2) (.cons (.var 3) .nil)))) .nil))) (.var 5)) .nil)))) .nil))) (.cons (.ret (.var 4)) .nil))), none⟩
def ftold_leniently : Fn := ⟨2, 5, (.cons (.set 2 (.lst .nil)) (.cons (.for_ (.nm 3) (.seq (.var 1)) (.cons (.set 4 (.call 7556995774898975460 (.cons (.var 0) (.cons (.var 3) (.cons (.tup .nil) .nil))))) (.cons (.ifs (.isc true (.var 4) .none) (.cons (.par2 2 0 (.cons (.bin .add (.var 2) (.lst (.cons (.tup (.cons (.var 3) (.cons (.var 0) (.cons (.ix (.var 4) (.lit (.int (1)))) .nil)))) .nil))) (.cons (.ix (.var 4) (.lit (.int (0)))) .nil))) .nil) .nil) .nil))) (.cons (.ret (.var 2)) .nil))), none⟩
def fstates_of : Fn := ⟨2, 3, (.cons (.ret (.lc (.ix (.var 2) (.lit (.int (1)))) (.nm 2) [2] (.seq (.ix (.var 0) (.lit (.int (1))))) (.cons (.cmp .eq (.ix (.var 2) (.lit (.int (0)))) (.var 1)) .nil))) .nil), none⟩
def fis_short : Fn := ⟨2, 6, (.cons (.for_ (.tp (.cons (.nm 2) (.cons (.nm 3) (.cons (.nm 4) .nil)))) (.seq (.var 0)) (.cons (.ifs (.cmp .ne (.lc (.var 5) (.nm 5) [5] (.seq (.var 4)) (.cons (.cmp .eq (.sl (.var 5) .no (.some (.lit (.int (3))))) (.tup (.cons (.lit (.str [100, 114, 111, 112, 112, 101, 100])) (.cons (.var 1) (.cons (.lit (.str [114, 111, 111, 109])) .nil))))) .nil)) (.lst .nil)) (.cons (.ret (.lit (.bool true))) .nil) .nil) .nil)) (.cons (.ret (.lit (.bool false))) .nil)), none⟩
def fis_ended : Fn := ⟨2, 6, (.cons (.for_ (.tp (.cons (.nm 2) (.cons (.nm 3) (.cons (.nm 4) .nil)))) (.seq (.var 0)) (.cons (.ifs (.cmp .isin (.tup (.cons (.lit (.str [101, 110, 100, 101, 100])) (.cons (.var 1) .nil))) (.var 4)) (.cons (.set 5 (.and (.cmp .eq (.ix (.var 2) (.lit (.int (0)))) (.lit (.str [111, 112, 101, 110]))) (.and (.cmp .eq (.ix (.var 2) (.lit (.int (1)))) (.var 1)) (.ix (.var 2) (.lit (.int (2))))))) (.cons (.ifs (.or (.not (.var 5)) (.or (.cmp .gt (.mt .count (.var 4) (.cons (.tup (.cons (.lit (.str [101, 110, 100, 101, 100])) (.cons (.var 1) .nil))) .nil)) (.lit (.int (1)))) (.call 7054799954677167972 (.cons (.var 2) (.cons (.var 3) (.cons (.var 1) .nil)))))) (.cons (.ret (.lit (.bool true))) .nil) .nil) .nil)) .nil) .nil)) (.cons (.ret (.lit (.bool false))) .nil)), none⟩
def fasked_end : Fn := ⟨3, 5, (.cons (.set 3 (.lc (.var 4) (.nm 4) [4] (.seq (.ix (.var 1) (.lit (.int (1))))) (.cons (.and (.cmp .eq (.ix (.var 4) (.lit (.int (0)))) (.var 2)) (.cmp .eq (.ix (.var 4) (.lit (.int (1)))) (.lit (.str [111, 112, 101, 110])))) .nil))) (.cons (.ret (.and (.cmp .ne (.var 3) (.lst .nil)) (.cmp .eq (.ix (.ix (.ix (.var 3) (.lit (.int (0)))) (.lit (.int (2)))) (.lit (.int (0)))) (.lit (.int (0)))))) .nil)), none⟩
def fleast_room : Fn := ⟨3, 7, (.cons (.expr (.call 1021906042094129871333 (.cons (.var 0) .nil))) (.cons (.expr (.call 1021906042097092884595 (.cons (.var 1) .nil))) (.cons (.expr (.call 575281958799498159691333097273980645 (.cons (.var 2) .nil))) (.cons (.set 3 (.bl .max (.cons (.bin .add (.lc (.bl .len (.cons (.ix (.var 6) (.lit (.int (4)))) .nil)) (.nm 6) [6] (.seq (.ix (.var 0) (.lit (.int (1))))) (.cons (.cmp .eq (.ix (.var 6) (.lit (.int (0)))) (.var 2)) .nil)) (.lst (.cons (.lit (.int (1))) .nil))) .nil))) (.cons (.for_ (.nm 4) (.rng2 (.var 3) (.bin .add (.cst 173270989) (.lit (.int (1))))) (.cons (.set 5 (.call 289365580811630583448692668025 (.cons (.call 967295459187091995240 (.cons (.var 0) (.cons (.var 2) (.cons (.lit (.int (1))) (.cons (.var 4) .nil))))) (.cons (.call 1069103819650326231656 (.cons (.var 1) (.cons (.var 2) (.cons (.lit (.int (1))) (.cons (.var 4) .nil))))) .nil)))) (.cons (.ifs (.not (.call 59618815723174260 (.cons (.var 5) (.cons (.var 2) .nil)))) (.cons (.ret (.var 4)) .nil) .nil) .nil))) (.cons (.ret (.lit .none)) .nil)))))), none⟩
def fleast_keep : Fn := ⟨3, 6, (.cons (.expr (.call 1021906042094129871333 (.cons (.var 0) .nil))) (.cons (.expr (.call 1021906042097092884595 (.cons (.var 1) .nil))) (.cons (.expr (.call 575281958799498159691333097273980645 (.cons (.var 2) .nil))) (.cons (.set 3 (.ite (.cmp .isin (.call 8352356132554536934 (.cons (.var 0) (.cons (.var 2) .nil))) (.tup (.cons (.lst .nil) (.cons (.lst (.cons (.lit (.str [111, 112, 101, 110])) .nil)) .nil)))) (.lit (.int (0))) (.lit (.int (1))))) (.cons (.for_ (.nm 4) (.rng2 (.var 3) (.bin .add (.cst 158427220) (.lit (.int (1))))) (.cons (.set 5 (.call 289365580811630583448692668025 (.cons (.call 967295459187091995240 (.cons (.var 0) (.cons (.var 2) (.cons (.lit (.int (0))) (.cons (.var 4) .nil))))) (.cons (.call 1069103819650326231656 (.cons (.var 1) (.cons (.var 2) (.cons (.lit (.int (0))) (.cons (.var 4) .nil))))) .nil)))) (.cons (.ifs (.not (.call 59618811977478884 (.cons (.var 5) (.cons (.var 2) .nil)))) (.cons (.ret (.var 4)) .nil) .nil) .nil))) (.cons (.ret (.lit .none)) .nil)))))), none⟩
def f_law_cup : Fn := ⟨1, 3, (.cons (.set 1 (.bl .abs (.cons (.ix (.bin .add (.bl .list (.cons (.var 0) .nil)) (.lst (.cons (.lit (.int (0))) .nil))) (.lit (.int (0)))) .nil))) (.cons (.set 2 (.ite (.cmp .ge (.var 1) (.bin .pow (.lit (.int (10))) (.lit (.int (18))))) (.bin .fdiv (.var 1) (.lit (.int (11)))) (.lit (.int (0))))) (.cons (.ret (.new (.cons (.var 2) (.cons (.bin .add (.bin .mod (.bl .int (.cons (.bin .add (.bin .mul (.var 1) (.lit (.int (193)))) (.lit (.int (1201)))) .nil)) (.lit (.int (2077504273)))) (.lit (.int (89)))) .nil)))) .nil))), none⟩
def f_law_roll : Fn := ⟨2, 4, (.cons (.ifs (.cmp .gt (.ix (.var 0) (.lit (.int (0)))) (.lit (.int (0)))) (.cons (.set 2 (.bin .mod (.bl .int (.cons (.ix (.var 0) (.lit (.int (0)))) .nil)) (.var 1))) (.cons (.setix (.var 0) (.lit (.int (0))) (.bin .fdiv (.ix (.var 0) (.lit (.int (0)))) (.var 1))) (.cons (.ret (.var 2)) .nil))) .nil) (.cons (.setix (.var 0) (.lit (.int (1))) (.bin .mod (.bl .int (.cons (.bin .add (.bin .mul (.ix (.var 0) (.lit (.int (1)))) (.lit (.int (30671)))) (.lit (.int (7919)))) .nil)) (.lit (.int (2147483549))))) (.cons (.set 3 (.bin .mod (.bl .int (.cons (.bin .mul (.ix (.var 0) (.lit (.int (1)))) (.bin .add (.ix (.var 0) (.lit (.int (1)))) (.lit (.int (131))))) .nil)) (.lit (.int (2147483587))))) (.cons (.ret (.bin .mod (.bl .int (.cons (.bin .fdiv (.var 3) (.lit (.int (709)))) .nil)) (.var 1))) .nil)))), none⟩
def f_law_some : Fn := ⟨2, 2, (.cons (.ret (.ix (.var 1) (.call 6906700753635374700 (.cons (.var 0) (.cons (.bl .len (.cons (.var 1) .nil)) .nil))))) .nil), none⟩
def f_law_error : Fn := ⟨1, 1, (.cons .never .nil), (some ([], [(671415714628895553522, [111, 116, 104, 101, 114]), (11162408591013225615340771, [116, 111, 112, 105, 99]), (681299352478834618617, [119, 97, 121]), (11162408591013223975318259, [110, 97, 109, 101, 115]), (11162408591013226420680292, [119, 111, 114, 108, 100]), (11162408591013222394198501, [104, 111, 117, 115, 101]), (87206317117290823103216, [115, 116, 101, 112]), (11162408591013225357211763, [115, 116, 101, 112, 115]), (625017925216187003632, [99, 97, 110, 110, 111, 116])]))⟩
def f_law_odd_houses : Fn := ⟨0, 9, (.cons (.sett (.tp (.cons (.nm 0) (.cons (.nm 1) .nil))) (.tup (.cons (.tup (.cons (.lit (.int (2))) (.cons (.lit (.int (2))) (.cons (.lit (.str [101, 108, 100, 101, 114])) (.cons (.lit .none) .nil))))) (.cons (.tup (.cons (.lit (.int (0))) (.cons (.lit (.str [109, 97, 114, 107, 101, 100])) (.cons (.lit (.str [97])) (.cons (.lit (.int (7))) .nil))))) .nil)))) (.cons (.set 2 (.tup (.cons (.lit (.str [97, 110, 110])) (.cons (.lit (.str [111, 112, 101, 110])) (.cons (.var 0) (.cons (.tup (.cons (.tup (.cons (.lit (.str [97, 47, 35])) (.cons (.lit (.str [109, 97, 114, 107, 101, 100])) .nil))) .nil)) (.cons (.tup (.cons (.var 1) .nil)) .nil))))))) (.cons (.set 3 (.new (.cons (.lit .none) (.cons (.tup .nil) (.cons (.lst (.cons (.lit (.int (0))) (.cons (.tup .nil) .nil))) (.cons (.tup (.cons (.lit (.int (0))) .nil)) (.cons (.tup (.cons (.lit (.int (0))) (.cons (.tup .nil) (.cons (.tup .nil) .nil)))) (.cons (.tup (.cons (.neg (.lit (.int (1)))) (.cons (.tup .nil) .nil))) (.cons (.tup (.cons (.bin .add (.bin .pow (.lit (.int (10))) (.lit (.int (6)))) (.lit (.int (1)))) (.cons (.tup .nil) .nil))) (.cons (.tup (.cons (.lit (.bool true)) (.cons (.tup .nil) .nil))) (.cons (.tup (.cons (.lit (.int (0))) (.cons (.lst (.cons (.var 2) .nil)) .nil))) .nil))))))))))) (.cons (.set 3 (.badd (.var 3) (.lst (.cons (.tup (.cons (.lit (.int (0))) (.cons (.tup (.cons (.var 2) (.cons (.var 2) .nil))) .nil))) (.cons (.tup (.cons (.lit (.int (0))) (.cons (.tup (.cons (.bin .add (.tup (.cons (.lit (.str [98, 111, 98])) .nil)) (.sl (.var 2) (.some (.lit (.int (1)))) .no)) (.cons (.var 2) .nil))) .nil))) (.cons (.tup (.cons (.lit (.int (0))) (.cons (.tup (.cons (.sl (.var 2) .no (.some (.lit (.int (4))))) .nil)) .nil))) .nil)))))) (.cons (.set 3 (.badd (.var 3) (.lst (.cons (.tup (.cons (.lit (.int (0))) (.cons (.tup (.cons (.bin .add (.tup (.cons (.lit (.str [65, 110, 110])) .nil)) (.sl (.var 2) (.some (.lit (.int (1)))) .no)) .nil)) .nil))) (.cons (.tup (.cons (.lit (.int (0))) (.cons (.tup (.cons (.bin .add (.tup (.cons (.lit (.str [97, 110, 110])) (.cons (.lit (.str [115, 104, 117, 116])) .nil))) (.sl (.var 2) (.some (.lit (.int (2)))) .no)) .nil)) .nil))) .nil))))) (.cons (.for_ (.nm 4) (.seq (.tup (.cons (.lit (.int (0))) (.cons (.lit (.int (3))) (.cons (.lit .none) (.cons (.lit (.bool true)) (.cons (.neg (.lit (.int (1)))) .nil))))))) (.cons (.app (.var 3) (.tup (.cons (.lit (.int (0))) (.cons (.tup (.cons (.bin .add (.tup (.cons (.lit (.str [97, 110, 110])) (.cons (.var 4) .nil))) (.sl (.var 2) (.some (.lit (.int (2)))) .no)) .nil)) .nil)))) .nil)) (.cons (.for_ (.nm 5) (.seq (.tup (.cons (.sl (.var 0) .no (.some (.lit (.int (3))))) (.cons (.bin .add (.tup (.cons (.neg (.lit (.int (1)))) .nil)) (.sl (.var 0) (.some (.lit (.int (1)))) .no)) (.cons (.bin .add (.tup (.cons (.lit (.int (1001))) .nil)) (.sl (.var 0) (.some (.lit (.int (1)))) .no)) (.cons (.tup (.cons (.lit (.int (2))) (.cons (.lit (.int (0))) (.cons (.lit (.str [101, 108, 100, 101, 114])) (.cons (.lit .none) .nil))))) (.cons (.tup (.cons (.lit (.int (2))) (.cons (.lit (.int (13))) (.cons (.lit (.str [101, 108, 100, 101, 114])) (.cons (.lit .none) .nil))))) .nil))))))) (.cons (.app (.var 3) (.tup (.cons (.lit (.int (0))) (.cons (.tup (.cons (.bin .add (.bin .add (.sl (.var 2) .no (.some (.lit (.int (2))))) (.tup (.cons (.var 5) .nil))) (.sl (.var 2) (.some (.lit (.int (3)))) .no)) .nil)) .nil)))) .nil)) (.cons (.for_ (.nm 5) (.seq (.tup (.cons (.tup (.cons (.lit (.int (2))) (.cons (.lit (.int (2))) (.cons (.lit (.str [111, 108, 100])) (.cons (.lit .none) .nil))))) (.cons (.tup (.cons (.lit (.int (2))) (.cons (.lit (.int (2))) (.cons (.lit .none) (.cons (.lit .none) .nil))))) (.cons (.bin .add (.sl (.var 0) .no (.some (.lit (.int (3))))) (.tup (.cons (.tup (.cons (.lit (.str [108, 105, 103, 104, 116])) (.cons (.lit (.str [97])) .nil))) .nil))) (.cons (.bin .add (.sl (.var 0) .no (.some (.lit (.int (3))))) (.tup (.cons (.tup (.cons (.lit (.str [108, 111, 117, 100])) (.cons (.lit (.str [97])) (.cons (.lit (.int (1))) .nil)))) .nil))) (.cons (.bl .list (.cons (.var 0) .nil)) .nil))))))) (.cons (.app (.var 3) (.tup (.cons (.lit (.int (0))) (.cons (.tup (.cons (.bin .add (.bin .add (.sl (.var 2) .no (.some (.lit (.int (2))))) (.tup (.cons (.var 5) .nil))) (.sl (.var 2) (.some (.lit (.int (3)))) .no)) .nil)) .nil)))) .nil)) (.cons (.for_ (.nm 6) (.seq (.tup (.cons (.tup (.cons (.var 1) (.cons (.var 1) (.cons (.var 1) .nil)))) (.cons (.tup (.cons (.tup (.cons (.lit (.int (1))) (.cons (.lit (.str [109, 97, 114, 107, 101, 100])) (.cons (.lit (.str [97])) (.cons (.lit (.int (7))) .nil))))) .nil)) (.cons (.tup (.cons (.tup (.cons (.lit (.int (0))) (.cons (.lit (.str [109, 97, 114, 107, 101, 100])) (.cons (.lit (.str [97])) .nil)))) .nil)) (.cons (.tup (.cons (.tup (.cons (.lit (.int (0))) (.cons (.lit (.str [109, 97, 114, 107, 101, 100])) (.cons (.lit (.str [97, 47, 43])) (.cons (.lit (.int (7))) .nil))))) .nil)) (.cons (.lst (.cons (.var 1) .nil)) .nil))))))) (.cons (.app (.var 3) (.tup (.cons (.lit (.int (0))) (.cons (.tup (.cons (.bin .add (.sl (.var 2) .no (.some (.lit (.int (4))))) (.tup (.cons (.var 6) .nil))) .nil)) .nil)))) .nil)) (.cons (.app (.var 3) (.tup (.cons (.lit (.int (2))) (.cons (.tup (.cons (.bin .add (.sl (.var 2) .no (.some (.lit (.int (4))))) (.tup (.cons (.tup (.cons (.tup (.cons (.lit (.int (2))) (.cons (.lit (.str [108, 105, 103, 104, 116])) (.cons (.lit (.str [97])) (.cons (.lit (.int (1))) .nil))))) (.cons (.tup (.cons (.lit (.int (1))) (.cons (.lit (.str [108, 105, 103, 104, 116])) (.cons (.lit (.str [97])) (.cons (.lit (.int (1))) .nil))))) .nil))) .nil))) .nil)) .nil)))) (.cons (.set 7 (.bl .tuple (.cons (.lc (.bin .add (.tup (.cons (.var 8) .nil)) (.sl (.var 2) (.some (.lit (.int (1)))) .no)) (.nm 8) [8] (.seq (.tup (.cons (.lit (.str [97])) (.cons (.lit (.str [98])) (.cons (.lit (.str [99])) (.cons (.lit (.str [100])) (.cons (.lit (.str [101])) (.cons (.lit (.str [102])) (.cons (.lit (.str [103])) .nil))))))))) .nil) .nil))) (.cons (.ret (.bin .add (.var 3) (.lst (.cons (.tup (.cons (.lit (.int (0))) (.cons (.var 7) .nil))) (.cons (.tup (.cons (.lit (.int (0))) (.cons (.tup (.cons (.bin .add (.bin .add (.sl (.var 2) .no (.some (.lit (.int (3))))) (.tup (.cons (.tup (.cons (.tup (.cons (.lit (.str [97, 43])) (.cons (.lit (.str [108, 105, 103, 104, 116])) .nil))) .nil)) .nil))) (.sl (.var 2) (.some (.lit (.int (4)))) .no)) .nil)) .nil))) .nil))))) .nil)))))))))))), none⟩
def f_law_odd_steps : Fn := ⟨0, 2, (.cons (.set 0 (.tup (.cons (.lit (.int (2))) (.cons (.lit (.int (2))) (.cons (.lit (.str [101, 108, 100, 101, 114])) (.cons (.lit .none) .nil)))))) (.cons (.set 1 (.lst (.cons (.lit .none) (.cons (.tup .nil) (.cons (.tup (.cons (.lit (.str [116, 117, 114, 110])) (.cons (.lit (.int (1))) .nil))) (.cons (.lst (.cons (.lit (.str [116, 117, 114, 110])) .nil)) (.cons (.tup (.cons (.lit (.str [111, 112, 101, 110])) (.cons (.lit (.str [97, 110, 110])) (.cons (.lit (.bool false)) .nil)))) (.cons (.tup (.cons (.lit (.str [111, 112, 101, 110])) (.cons (.lit (.str [97, 110, 110])) (.cons (.lit (.int (0))) (.cons (.var 0) .nil))))) (.cons (.tup (.cons (.lit (.str [111, 112, 101, 110])) (.cons (.lit (.str [65, 110, 110])) (.cons (.lit (.bool true)) (.cons (.var 0) .nil))))) .nil))))))))) (.cons (.set 1 (.bin .add (.var 1) (.lst (.cons (.tup (.cons (.lit (.str [111, 112, 101, 110])) (.cons (.lit (.str [97, 110, 110])) (.cons (.lit (.bool true)) (.cons (.sl (.var 0) .no (.some (.lit (.int (3))))) .nil))))) (.cons (.tup (.cons (.lit (.str [115, 104, 117, 116])) .nil)) (.cons (.tup (.cons (.lit (.str [115, 104, 117, 116])) (.cons (.lit (.str [])) .nil))) (.cons (.tup (.cons (.lit (.str [98, 114, 101, 97, 107])) (.cons (.lit (.str [97, 110, 110])) (.cons (.lit (.int (1))) .nil)))) .nil))))))) (.cons (.set 1 (.bin .add (.var 1) (.lst (.cons (.tup (.cons (.lit (.str [119, 105, 115, 104])) (.cons (.lit (.str [97, 110, 110])) (.cons (.lit (.str [97, 43])) (.cons (.lit (.str [108, 105, 103, 104, 116])) .nil))))) (.cons (.tup (.cons (.lit (.str [119, 105, 115, 104])) (.cons (.lit (.str [97, 110, 110])) (.cons (.lit (.str [97])) (.cons (.lit (.str [108, 111, 117, 100])) .nil))))) (.cons (.tup (.cons (.lit (.str [117, 110, 119, 105, 115, 104])) (.cons (.lit (.str [97, 110, 110])) .nil))) .nil)))))) (.cons (.set 1 (.bin .add (.var 1) (.lst (.cons (.tup (.cons (.lit (.str [116, 101, 108, 108])) (.cons (.lit (.str [108, 105, 103, 104, 116])) (.cons (.lit (.str [97, 47, 43])) (.cons (.lit (.int (1))) .nil))))) (.cons (.tup (.cons (.lit (.str [116, 101, 108, 108])) (.cons (.lit (.str [108, 105, 103, 104, 116])) (.cons (.lit (.str [97])) (.cons (.lit (.int (1000))) .nil))))) .nil))))) (.cons (.ret (.bin .add (.var 1) (.lst (.cons (.tup (.cons (.lit (.str [116, 97, 107, 101])) (.cons (.lit (.str [97, 110, 110])) (.cons (.lit (.int (0))) .nil)))) (.cons (.tup (.cons (.lit (.str [116, 97, 107, 101])) (.cons (.lit (.str [97, 110, 110])) (.cons (.lit (.int (13))) .nil)))) (.cons (.tup (.cons (.lit (.str [116, 97, 107, 101])) (.cons (.lit (.str [97, 110, 110])) (.cons (.lit (.bool true)) .nil)))) (.cons (.tup (.cons (.lit (.str [84, 117, 114, 110])) .nil)) (.cons (.tup (.cons (.lit .none) .nil)) .nil)))))))) .nil)))))), none⟩
def f_law_house_refused : Fn := ⟨1, 2, (.cons (.set 1 (.new (.cons (.thk 884057696461844690930 (.call 2028565606825111133764727524 (.cons (.var 0) (.cons (.lit .none) .nil)))) .nil))) (.cons (.app (.var 1) (.thk 884057696461844690930 (.call 17498617444662044503160818 (.cons (.var 0) (.cons (.lit .none) (.cons (.lit .none) .nil)))))) (.cons (.app (.var 1) (.thk 884057696461844690930 (.call 15848168803320629668133349 (.cons (.var 0) (.cons (.lit .none) .nil))))) (.cons (.app (.var 1) (.thk 884057696461844690930 (.call 514016528561390 (.cons (.var 0) (.cons (.lit .none) .nil))))) (.cons (.app (.var 1) (.thk 884057696461844690930 (.call 57851518844925926 (.cons (.var 0) (.cons (.lit .none) .nil))))) (.cons (.app (.var 1) (.thk 884057696461844690930 (.call 121323428360850637568627 (.cons (.var 0) (.cons (.lit .none) (.cons (.lit .none) .nil)))))) (.cons (.app (.var 1) (.thk 884057696461844690930 (.call 1003457112910449080301 (.cons (.var 0) (.cons (.lit .none) (.cons (.lit .none) .nil)))))) (.cons (.app (.var 1) (.thk 884057696461844690930 (.call 1003457112910434235120 (.cons (.var 0) (.cons (.lit .none) (.cons (.lit .none) .nil)))))) (.cons (.ret (.and (.isc false (.call 59618812785162725 (.cons (.var 0) .nil)) (.bool false)) (.cmp .eq (.var 1) (.bin .mul (.lst (.cons (.lit (.str [104, 111, 117, 115, 101])) .nil)) (.lit (.int (8))))))) .nil))))))))), none⟩
def f_law_step_refused : Fn := ⟨1, 4, (.cons (.sett (.tp (.cons (.nm 2) (.cons (.nm 3) .nil))) (.tup (.cons (.tup (.cons (.lit (.int (0))) (.cons (.tup .nil) .nil))) (.cons (.tup (.cons (.tup (.cons (.lit (.str [116, 117, 114, 110])) .nil)) (.cons (.var 0) .nil))) .nil)))) (.cons (.set 1 (.new (.cons (.thk 884057696461844690930 (.call 15848168803320629668133349 (.cons (.var 2) (.cons (.var 3) .nil)))) .nil))) (.cons (.app (.var 1) (.thk 884057696461844690930 (.call 514016528561390 (.cons (.var 2) (.cons (.var 3) .nil))))) (.cons (.app (.var 1) (.thk 884057696461844690930 (.call 57851518844925926 (.cons (.var 2) (.cons (.var 3) .nil))))) (.cons (.app (.var 1) (.thk 884057696461844690930 (.call 121323428360850637568627 (.cons (.var 2) (.cons (.var 3) (.cons (.lit .none) .nil)))))) (.cons (.app (.var 1) (.thk 884057696461844690930 (.call 1003457112910449080301 (.cons (.var 2) (.cons (.var 3) (.cons (.lit .none) .nil)))))) (.cons (.app (.var 1) (.thk 884057696461844690930 (.call 1003457112910434235120 (.cons (.var 2) (.cons (.var 3) (.cons (.lit .none) .nil)))))) (.cons (.app (.var 1) (.thk 884057696461844690930 (.call 2028565606825111133764727524 (.cons (.var 2) (.cons (.var 0) .nil))))) (.cons (.ret (.and (.isc false (.call 2048486809108964649050387184 (.cons (.var 0) .nil)) (.bool false)) (.cmp .eq (.var 1) (.bin .add (.bin .mul (.lst (.cons (.lit (.str [115, 116, 101, 112, 115])) .nil)) (.lit (.int (6)))) (.lst (.cons (.lit (.str [115, 116, 101, 112])) .nil)))))) .nil))))))))), none⟩
def flaw : Fn := ⟨1, 8, (.cons (.sett (.tp (.cons (.nm 1) (.cons (.nm 4) .nil))) (.tup (.cons (.call 53958599637531376 (.cons (.var 0) .nil)) (.cons (.tup (.cons (.lit (.int (0))) (.cons (.tup .nil) .nil))) .nil)))) (.cons (.for_ (.nm 5) (.seq (.bin .add (.lc (.call 6906700753637471973 (.cons (.var 1) (.cons (.call 30375991152736959837074993509107 .nil) .nil))) (.nm 6) [6] (.rng1 (.lit (.int (3)))) .nil) (.lst (.cons (.lit .none) .nil)))) (.cons (.ifs (.not (.call 63703070597810903631746427711976698596 (.cons (.var 5) .nil))) (.cons (.ret (.lit (.bool false))) .nil) .nil) .nil)) (.cons (.for_ (.nm 5) (.seq (.bin .add (.lc (.call 6906700753637471973 (.cons (.var 1) (.cons (.call 237312430880757498730111400051 .nil) .nil))) (.nm 6) [6] (.rng1 (.lit (.int (3)))) .nil) (.lst (.cons (.tup (.cons (.lit (.str [116, 97, 107, 101])) (.cons (.lit (.str [97, 110, 110])) (.cons (.lit (.int (13))) .nil)))) .nil)))) (.cons (.ifs (.not (.call 497680239047065712789672713667801828 (.cons (.var 5) .nil))) (.cons (.ret (.lit (.bool false))) .nil) .nil) .nil)) (.cons (.set 2 (.lc (.var 7) (.nm 7) [7] (.seq (.call 30375991152736959837074993509107 .nil)) (.cons (.call 59618812785162725 (.cons (.var 7) .nil)) .nil))) (.cons (.ifs (.cmp .ne (.bin .add (.var 2) (.lc (.var 7) (.nm 7) [7] (.seq (.call 237312430880757498730111400051 .nil)) (.cons (.call 2048486809108964649050387184 (.cons (.var 7) .nil)) .nil))) (.lst .nil)) (.cons (.ret (.lit (.bool false))) .nil) .nil) (.cons (.for_ (.nm 5) (.seq (.tup (.cons (.lit .none) (.cons (.lit (.str [])) (.cons (.lit (.str [65, 110, 110])) (.cons (.lit (.str [97, 98, 99, 100, 101, 102, 103])) (.cons (.lit (.int (1))) .nil))))))) (.cons (.set 3 (.new (.cons (.thk 884057696461844690930 (.call 121323428360850637568627 (.cons (.var 4) (.cons (.tup .nil) (.cons (.var 5) .nil))))) .nil))) (.cons (.app (.var 3) (.thk 884057696461844690930 (.call 1003457112910449080301 (.cons (.var 4) (.cons (.tup .nil) (.cons (.var 5) .nil)))))) (.cons (.app (.var 3) (.thk 884057696461844690930 (.call 1003457112910434235120 (.cons (.var 4) (.cons (.tup .nil) (.cons (.var 5) .nil)))))) (.cons (.ifs (.cmp .ne (.var 3) (.bin .mul (.lst (.cons (.lit (.str [110, 97, 109, 101, 115])) .nil)) (.lit (.int (3))))) (.cons (.ret (.lit (.bool false))) .nil) .nil) .nil))))) (.cons (.set 3 (.new (.cons (.thk 884057696461844690930 (.call 17498617444662044503160818 (.cons (.var 4) (.cons (.lit (.str [108, 111, 117, 100])) (.cons (.lit .none) .nil))))) .nil))) (.cons (.app (.var 3) (.thk 884057696461844690930 (.call 17498617444662044503160818 (.cons (.var 4) (.cons (.lit (.str [108, 105, 103, 104, 116])) (.cons (.lit (.str [97, 47, 43])) .nil)))))) (.cons (.app (.var 3) (.thk 884057696461844690930 (.call 259656397673611911545139017316 (.cons (.lit .none) .nil)))) (.cons (.app (.var 3) (.thk 884057696461844690930 (.call 15848168803320629668133349 (.cons (.var 4) (.cons (.bin .mul (.tup (.cons (.tup (.cons (.lit (.str [116, 117, 114, 110])) .nil)) .nil)) (.lit (.int (61)))) .nil))))) (.cons (.app (.var 3) (.thk 884057696461844690930 (.call 15848168803320629668133349 (.cons (.var 4) (.cons (.lst (.cons (.tup (.cons (.lit (.str [116, 117, 114, 110])) .nil)) .nil)) .nil))))) (.cons (.app (.var 3) (.thk 884057696461844690930 (.call 15848168803320629668133349 (.cons (.var 4) (.cons (.tup (.cons (.tup (.cons (.lit (.str [115, 104, 117, 116])) (.cons (.lit (.str [97, 110, 110])) .nil))) .nil)) .nil))))) (.cons (.app (.var 3) (.thk 884057696461844690930 (.call 57851518844925926 (.cons (.var 4) (.cons (.tup (.cons (.tup (.cons (.lit (.str [116, 97, 107, 101])) (.cons (.lit (.str [97, 110, 110])) (.cons (.lit (.int (1))) .nil)))) .nil)) .nil))))) (.cons (.app (.var 3) (.thk 884057696461844690930 (.call 2028565606825111133764727524 (.cons (.tup (.cons (.bin .pow (.lit (.int (10))) (.lit (.int (6)))) (.cons (.tup .nil) .nil))) (.cons (.tup (.cons (.lit (.str [116, 117, 114, 110])) .nil)) .nil))))) (.cons (.ifs (.cmp .ne (.var 3) (.lst (.cons (.lit (.str [119, 97, 121])) (.cons (.lit (.str [116, 111, 112, 105, 99])) (.cons (.lit (.str [119, 111, 114, 108, 100])) (.cons (.lit (.str [115, 116, 101, 112, 115])) (.cons (.lit (.str [115, 116, 101, 112, 115])) (.cons (.lit (.str [99, 97, 110, 110, 111, 116])) (.cons (.lit (.str [99, 97, 110, 110, 111, 116])) (.cons (.lit (.str [99, 97, 110, 110, 111, 116])) .nil)))))))))) (.cons (.ret (.lit (.bool false))) .nil) .nil) (.cons (.ifs (.cmp .ne (.ix (.call 15848168803320629668133349 (.cons (.var 4) (.cons (.bin .mul (.tup (.cons (.tup (.cons (.lit (.str [116, 117, 114, 110])) .nil)) .nil)) (.lit (.int (60)))) .nil))) (.neg (.lit (.int (1))))) (.tup (.cons (.lit (.int (60))) (.cons (.tup .nil) .nil)))) (.cons (.ret (.lit (.bool false))) .nil) .nil) (.cons (.ret (.and (.cmp .eq (.call 514016528561390 (.cons (.var 4) (.cons (.tup .nil) .nil))) (.lst .nil)) (.cmp .eq (.call 57851518844925926 (.cons (.var 4) (.cons (.tup (.cons (.tup (.cons (.lit (.str [116, 117, 114, 110])) .nil)) .nil)) .nil))) (.lst .nil)))) .nil))))))))))))))))), none⟩
def tab_0 : List (Nat × Fn) := [(59618816796915301, fis_whole), (7409498487476745957, ffits_name), (57886706933559545, ffits_way), (948415806398663505123, ffits_topic), (7409498487495752168, ffits_wish), (3638843634420, fis_met), (3738206794482, flesser), (62372194952278265, fneed_way), (474228488402918, fkind_of), (7409498487466570477, ffits_item), (948415806394911454949, ffits_frame), (7631208380102080486, fis_row_of), (7631208378483242855, fis_rising), (7409498487495850340, ffits_word), (948415806394634942841, ffits_entry), (121397223218580654028647, ffits_giving), (121397223219025160075111, ffits_taking), (121397223218785719941497, ffits_memory), (948415806395421063524, ffits_heard), (121397223218443993053044, ffits_client), (121397223219130403533555, ffits_wishes), (15538844572030962050430958, ffits_session), (121397223218788423071591, ffits_moving), (7409498487472682853, ffits_line), (15538844572026559700710003, ffits_records), (121397223218784648278770, ffits_manner), (948415806399468844644, ffits_world), (1021906042098156353124, fneed_world), (443852053672185, fdue_way), (948415806398642566899, ffits_terms)]
def tab_1 : List (Nat × Fn) := [(948415806399439338099, ffits_waits), (15538844572031099759916903, ffits_sitting), (948415806395442362853, ffits_house), (254588429468163664805149309300, ffits_step_part), (32587318971823140735278546498288, ffits_house_step), (119118688423354155251698, fdropped_for), (121397079195477455008884, ffirst_light), (527006665800436, fwithout), (3879942485230, fput_in), (3433265887855, fcut_to), (27344319204, fended), (137980261236292175033964, ftold_to_all), (1003459931337232480101, fleft_alone), (3844209357540, fopened), (4017377489636, fturned), (64624614625129188, frewished), (966282646251481332468, fhanded_out), (1069103819548817618926, fstepped_on), (7556995774898975460, fhouse_led), (1021906042094129871333, fneed_house), (59618812785162725, fis_house), (2048486809108964649050387184, fis_house_step), (2028565606825111133764727524, fhouse_stepped), (17498617444662044503160818, fsessions_for), (259656397673611911545139017316, fhouse_of_world), (1021906042097092884595, fneed_steps), (575281958799498159691333097273980645, fneed_session_name), (128442715366629765379048, fled_through), (4011985597156, ftagged), (3431640693107, fcomers)]
def tab_2 : List (Nat × Fn) := [(947839284755277018724, ffates_told), (15848168803320629668133349, fhouse_course), (514016528561390, ftold_in), (57851518844925926, ffates_of), (121323428360850637568627, ffate_counts), (64624510470157028, fretermed), (65169866637343336, fsat_with), (967295459187091995240, fhouse_with), (1069103819650326231656, fsteps_with), (289365580811630583448692668025, ftold_leniently), (8352356132554536934, fstates_of), (59618815723174260, fis_short), (59618811977478884, fis_ended), (7054799954677167972, fasked_end), (1003457112910449080301, fleast_room), (1003457112910434235120, fleast_keep), (53958599637531376, f_law_cup), (6906700753635374700, f_law_roll), (6906700753637471973, f_law_some), (884057696461844690930, f_law_error), (30375991152736959837074993509107, f_law_odd_houses), (237312430880757498730111400051, f_law_odd_steps), (63703070597810903631746427711976698596, f_law_house_refused), (497680239047065712789672713667801828, f_law_step_refused), (1782007, flaw)]
def tab : List (Nat × Fn) := tab_0 ++ tab_1 ++ tab_2
def T (c : Nat) : Option Fn := tab.lookup c
def cLETTERS : D := (.str [97, 98, 99, 100, 101, 102, 103, 104, 105, 106, 107, 108, 109, 110, 111, 112, 113, 114, 115, 116, 117, 118, 119, 120, 121, 122])
def cWAYS : D := (.tup [(.str [108, 105, 103, 104, 116]), (.str [109, 97, 114, 107, 101, 100]), (.str [112, 97, 105, 114, 101, 100])])
def cSTEPS_names : D := (.int (5))
def cLONGEST : D := (.int (6))
def cBODY : D := (.int (999))
def cRING : D := (.int (8))
def cKINDS : D := (.tup [(.tup [(.str [104, 101, 108, 108, 111]), (.tup [(.str [110, 97, 109, 101]), (.str [98, 111, 111, 108])])]), (.tup [(.str [119, 101, 108, 99, 111, 109, 101]), (.tup [(.str [98, 111, 111, 108])])]), (.tup [(.str [119, 105, 115, 104]), (.tup [(.str [110, 117, 109, 98, 101, 114]), (.str [119, 105, 115, 104]), (.str [119, 97, 121])])]), (.tup [(.str [119, 105, 115, 104, 101, 100]), (.tup [(.str [110, 117, 109, 98, 101, 114])])]), (.tup [(.str [117, 110, 119, 105, 115, 104]), (.tup [(.str [110, 117, 109, 98, 101, 114]), (.str [119, 105, 115, 104])])]), (.tup [(.str [117, 110, 119, 105, 115, 104, 101, 100]), (.tup [(.str [110, 117, 109, 98, 101, 114])])]), (.tup [(.str [119, 111, 114, 100]), (.tup [(.str [119, 97, 121]), (.str [112, 108, 97, 99, 101]), (.str [98, 111, 111, 108]), (.str [116, 111, 112, 105, 99]), (.str [98, 111, 100, 121])])]), (.tup [(.str [104, 101, 97, 114, 100]), (.tup [(.str [110, 117, 109, 98, 101, 114])])]), (.tup [(.str [116, 97, 107, 101, 110]), (.tup [(.str [110, 117, 109, 98, 101, 114])])]), (.tup [(.str [108, 101, 116]), (.tup [(.str [110, 117, 109, 98, 101, 114])])]), (.tup [(.str [100, 111, 110, 101]), (.tup [(.str [110, 117, 109, 98, 101, 114])])]), (.tup [(.str [98, 121, 101]), (.tup [])])])
def cCLIENTS : D := (.int (4))
def cROWS : D := (.int (12))
def cRECORDS : D := (.int (100))
def cWISHES : D := (.int (4))
def cMOVING : D := (.tup [(.str [119, 111, 114, 100]), (.str [104, 101, 97, 114, 100]), (.str [116, 97, 107, 101, 110]), (.str [108, 101, 116]), (.str [100, 111, 110, 101])])
def cTURNS : D := (.int (1000000))
def cSESSIONS : D := (.int (6))
def cKEEP : D := (.int (1000))
def cROOM : D := (.int (12))
def cRULES : D := (.tup [(.str [101, 108, 100, 101, 114]), (.str [110, 101, 119, 101, 114]), (.str [108, 105, 103, 104, 116])])
def cSTEPS_sessionruns : D := (.int (60))
def cKEPT : D := (.int (60))
def dPARTS : List (D × D) := [((.str [111, 112, 101, 110]), (.tup [(.str [110, 97, 109, 101]), (.str [102, 114, 101, 115, 104]), (.str [116, 101, 114, 109, 115])])), ((.str [115, 104, 117, 116]), (.tup [(.str [110, 97, 109, 101])])), ((.str [98, 114, 101, 97, 107]), (.tup [(.str [110, 97, 109, 101])])), ((.str [119, 105, 115, 104]), (.tup [(.str [110, 97, 109, 101]), (.str [119, 105, 115, 104]), (.str [119, 97, 121])])), ((.str [117, 110, 119, 105, 115, 104]), (.tup [(.str [110, 97, 109, 101]), (.str [119, 105, 115, 104])])), ((.str [116, 101, 108, 108]), (.tup [(.str [119, 97, 121]), (.str [116, 111, 112, 105, 99]), (.str [98, 111, 100, 121])])), ((.str [116, 97, 107, 101]), (.tup [(.str [110, 97, 109, 101]), (.str [109, 97, 110, 121])])), ((.str [116, 117, 114, 110]), (.tup []))]
def ctab : List (Nat × PV) := [(336645082671443, .d cLETTERS), (183528659, .d cWAYS), (98768885148957598774003, .d cSTEPS_names), (336987042179540, .d cLONGEST), (139715161, .d cBODY), (173172551, .d cRING), (20287038035, .d cKINDS), (297300198140499, .d cCLIENTS), (173272019, .d cROWS), (363028788060755, .d cRECORDS), (3009068278483, .d cWISHES), (2667087816519, .d cMOVING), (22728189779, .d cTURNS), (47031185636058963, .d cSESSIONS), (158425808, .d cKEEP), (173270989, .d cROOM), (22191219411, .d cRULES), (434390150735010586922211823211870067, .d cSTEPS_sessionruns), (158427220, .d cKEPT), (21612505683, .dict dPARTS)]
def C (c : Nat) : Option PV := ctab.lookup c
def cs : List (PySem.Str × D) := [(("LETTERS" : PySem.Str), cLETTERS), (("WAYS" : PySem.Str), cWAYS), (("STEPS_names" : PySem.Str), cSTEPS_names), (("LONGEST" : PySem.Str), cLONGEST), (("BODY" : PySem.Str), cBODY), (("RING" : PySem.Str), cRING), (("KINDS" : PySem.Str), cKINDS), (("CLIENTS" : PySem.Str), cCLIENTS), (("ROWS" : PySem.Str), cROWS), (("RECORDS" : PySem.Str), cRECORDS), (("WISHES" : PySem.Str), cWISHES), (("MOVING" : PySem.Str), cMOVING), (("TURNS" : PySem.Str), cTURNS), (("SESSIONS" : PySem.Str), cSESSIONS), (("KEEP" : PySem.Str), cKEEP), (("ROOM" : PySem.Str), cROOM), (("RULES" : PySem.Str), cRULES), (("STEPS_sessionruns" : PySem.Str), cSTEPS_sessionruns), (("KEPT" : PySem.Str), cKEPT)]
def ds : List (PySem.Str × List (D × D)) := [(("PARTS" : PySem.Str), dPARTS)]
def stab_0 : List (PySem.Str × Stmt) := [(("is_whole" : PySem.Str), st 15), (("fits_name" : PySem.Str), st 16), (("fits_way" : PySem.Str), st 17), (("fits_topic" : PySem.Str), st 18), (("fits_wish" : PySem.Str), st 19), (("is_met" : PySem.Str), st 20), (("lesser" : PySem.Str), st 21), (("need_way" : PySem.Str), st 22), (("kind_of" : PySem.Str), st 27), (("fits_item" : PySem.Str), st 28), (("fits_frame" : PySem.Str), st 29), (("is_row_of" : PySem.Str), st 36), (("is_rising" : PySem.Str), st 37), (("fits_word" : PySem.Str), st 38), (("fits_entry" : PySem.Str), st 39), (("fits_giving" : PySem.Str), st 40), (("fits_taking" : PySem.Str), st 41), (("fits_memory" : PySem.Str), st 42), (("fits_heard" : PySem.Str), st 43), (("fits_client" : PySem.Str), st 44), (("fits_wishes" : PySem.Str), st 45), (("fits_session" : PySem.Str), st 46), (("fits_moving" : PySem.Str), st 47), (("fits_line" : PySem.Str), st 48), (("fits_records" : PySem.Str), st 49), (("fits_manner" : PySem.Str), st 50), (("fits_world" : PySem.Str), st 51), (("need_world" : PySem.Str), st 52), (("due_way" : PySem.Str), st 54), (("fits_terms" : PySem.Str), st 62)]
def stab_1 : List (PySem.Str × Stmt) := [(("fits_waits" : PySem.Str), st 63), (("fits_sitting" : PySem.Str), st 64), (("fits_house" : PySem.Str), st 65), (("fits_step_part" : PySem.Str), st 66), (("fits_house_step" : PySem.Str), st 67), (("dropped_for" : PySem.Str), st 68), (("first_light" : PySem.Str), st 69), (("without" : PySem.Str), st 70), (("put_in" : PySem.Str), st 71), (("cut_to" : PySem.Str), st 72), (("ended" : PySem.Str), st 73), (("told_to_all" : PySem.Str), st 74), (("left_alone" : PySem.Str), st 75), (("opened" : PySem.Str), st 76), (("turned" : PySem.Str), st 77), (("rewished" : PySem.Str), st 78), (("handed_out" : PySem.Str), st 79), (("stepped_on" : PySem.Str), st 80), (("house_led" : PySem.Str), st 81), (("need_house" : PySem.Str), st 82), (("is_house" : PySem.Str), st 83), (("is_house_step" : PySem.Str), st 84), (("house_stepped" : PySem.Str), st 85), (("sessions_for" : PySem.Str), st 86), (("house_of_world" : PySem.Str), st 87), (("need_steps" : PySem.Str), st 90), (("need_session_name" : PySem.Str), st 91), (("led_through" : PySem.Str), st 92), (("tagged" : PySem.Str), st 93), (("comers" : PySem.Str), st 94)]
def stab_2 : List (PySem.Str × Stmt) := [(("fates_told" : PySem.Str), st 95), (("house_course" : PySem.Str), st 96), (("told_in" : PySem.Str), st 97), (("fates_of" : PySem.Str), st 98), (("fate_counts" : PySem.Str), st 99), (("retermed" : PySem.Str), st 102), (("sat_with" : PySem.Str), st 103), (("house_with" : PySem.Str), st 104), (("steps_with" : PySem.Str), st 105), (("told_leniently" : PySem.Str), st 106), (("states_of" : PySem.Str), st 107), (("is_short" : PySem.Str), st 108), (("is_ended" : PySem.Str), st 109), (("asked_end" : PySem.Str), st 110), (("least_room" : PySem.Str), st 111), (("least_keep" : PySem.Str), st 112), (("_law_cup" : PySem.Str), st 114), (("_law_roll" : PySem.Str), st 115), (("_law_some" : PySem.Str), st 116), (("_law_error" : PySem.Str), st 117), (("_law_odd_houses" : PySem.Str), st 118), (("_law_odd_steps" : PySem.Str), st 119), (("_law_house_refused" : PySem.Str), st 120), (("_law_step_refused" : PySem.Str), st 121), (("law" : PySem.Str), st 122)]
def stab : List (PySem.Str × Stmt) := stab_0 ++ stab_1 ++ stab_2
theorem okis_whole : DefOk P T ("is_whole" : PySem.Str) (st 15) := ⟨⟨rfl, rfl, rfl, by decide +kernel, rfl, by decide +kernel, by decide +kernel⟩, by kernel_rfl, by kernel_rfl, fun _ _ _ _ _ _ us hl => match us, hl with | [_, _, _], _ => rfl⟩
theorem okfits_name : DefOk P T ("fits_name" : PySem.Str) (st 16) := ⟨⟨rfl, rfl, rfl, by decide +kernel, rfl, by decide +kernel, by decide +kernel⟩, by kernel_rfl, by kernel_rfl, fun _ _ _ _ _ _ us hl => match us, hl with | [_], _ => rfl⟩
theorem okfits_way : DefOk P T ("fits_way" : PySem.Str) (st 17) := ⟨⟨rfl, rfl, rfl, by decide +kernel, rfl, by decide +kernel, by decide +kernel⟩, by kernel_rfl, by kernel_rfl, fun _ _ _ _ _ _ us hl => match us, hl with | [_], _ => rfl⟩
theorem okfits_topic : DefOk P T ("fits_topic" : PySem.Str) (st 18) := ⟨⟨rfl, rfl, rfl, by decide +kernel, rfl, by decide +kernel, by decide +kernel⟩, by kernel_rfl, by kernel_rfl, fun _ _ _ _ _ _ us hl => match us, hl with | [_], _ => rfl⟩
theorem okfits_wish : DefOk P T ("fits_wish" : PySem.Str) (st 19) := ⟨⟨rfl, rfl, rfl, by decide +kernel, rfl, by decide +kernel, by decide +kernel⟩, by kernel_rfl, by kernel_rfl, fun _ _ _ _ _ _ us hl => match us, hl with | [_], _ => rfl⟩
theorem okis_met : DefOk P T ("is_met" : PySem.Str) (st 20) := ⟨⟨rfl, rfl, rfl, by decide +kernel, rfl, by decide +kernel, by decide +kernel⟩, by kernel_rfl, by kernel_rfl, fun _ _ _ _ _ _ us hl => match us, hl with | [_, _], _ => rfl⟩
theorem oklesser : DefOk P T ("lesser" : PySem.Str) (st 21) := ⟨⟨rfl, rfl, rfl, by decide +kernel, rfl, by decide +kernel, by decide +kernel⟩, by kernel_rfl, by kernel_rfl, fun _ _ _ _ _ _ us hl => match us, hl with | [_, _], _ => rfl⟩
theorem okneed_way : DefOk P T ("need_way" : PySem.Str) (st 22) := ⟨⟨rfl, rfl, rfl, by decide +kernel, rfl, by decide +kernel, by decide +kernel⟩, by kernel_rfl, by kernel_rfl, fun _ _ _ _ _ _ us hl => match us, hl with | [_], _ => rfl⟩
theorem okkind_of : DefOk P T ("kind_of" : PySem.Str) (st 27) := ⟨⟨rfl, rfl, rfl, by decide +kernel, rfl, by decide +kernel, by decide +kernel⟩, by kernel_rfl, by kernel_rfl, fun _ _ _ _ _ _ us hl => match us, hl with | [_], _ => rfl⟩
theorem okfits_item : DefOk P T ("fits_item" : PySem.Str) (st 28) := ⟨⟨rfl, rfl, rfl, by decide +kernel, rfl, by decide +kernel, by decide +kernel⟩, by kernel_rfl, by kernel_rfl, fun _ _ _ _ _ _ us hl => match us, hl with | [_, _], _ => rfl⟩
theorem okfits_frame : DefOk P T ("fits_frame" : PySem.Str) (st 29) := ⟨⟨rfl, rfl, rfl, by decide +kernel, rfl, by decide +kernel, by decide +kernel⟩, by kernel_rfl, by kernel_rfl, fun _ _ _ _ _ _ us hl => match us, hl with | [_], _ => rfl⟩
theorem okis_row_of : DefOk P T ("is_row_of" : PySem.Str) (st 36) := ⟨⟨rfl, rfl, rfl, by decide +kernel, rfl, by decide +kernel, by decide +kernel⟩, by kernel_rfl, by kernel_rfl, fun _ _ _ _ _ _ us hl => match us, hl with | [_, _, _], _ => rfl⟩
theorem okis_rising : DefOk P T ("is_rising" : PySem.Str) (st 37) := ⟨⟨rfl, rfl, rfl, by decide +kernel, rfl, by decide +kernel, by decide +kernel⟩, by kernel_rfl, by kernel_rfl, fun _ _ _ _ _ _ us hl => match us, hl with | [_], _ => rfl⟩
theorem okfits_word : DefOk P T ("fits_word" : PySem.Str) (st 38) := ⟨⟨rfl, rfl, rfl, by decide +kernel, rfl, by decide +kernel, by decide +kernel⟩, by kernel_rfl, by kernel_rfl, fun _ _ _ _ _ _ us hl => match us, hl with | [_], _ => rfl⟩
theorem okfits_entry : DefOk P T ("fits_entry" : PySem.Str) (st 39) := ⟨⟨rfl, rfl, rfl, by decide +kernel, rfl, by decide +kernel, by decide +kernel⟩, by kernel_rfl, by kernel_rfl, fun _ _ _ _ _ _ us hl => match us, hl with | [_, _], _ => rfl⟩
theorem okfits_giving : DefOk P T ("fits_giving" : PySem.Str) (st 40) := ⟨⟨rfl, rfl, rfl, by decide +kernel, rfl, by decide +kernel, by decide +kernel⟩, by kernel_rfl, by kernel_rfl, fun _ _ _ _ _ _ us hl => match us, hl with | [_, _], _ => rfl⟩
theorem okfits_taking : DefOk P T ("fits_taking" : PySem.Str) (st 41) := ⟨⟨rfl, rfl, rfl, by decide +kernel, rfl, by decide +kernel, by decide +kernel⟩, by kernel_rfl, by kernel_rfl, fun _ _ _ _ _ _ us hl => match us, hl with | [_, _], _ => rfl⟩
theorem okfits_memory : DefOk P T ("fits_memory" : PySem.Str) (st 42) := ⟨⟨rfl, rfl, rfl, by decide +kernel, rfl, by decide +kernel, by decide +kernel⟩, by kernel_rfl, by kernel_rfl, fun _ _ _ _ _ _ us hl => match us, hl with | [_, _, _], _ => rfl⟩
theorem okfits_heard : DefOk P T ("fits_heard" : PySem.Str) (st 43) := ⟨⟨rfl, rfl, rfl, by decide +kernel, rfl, by decide +kernel, by decide +kernel⟩, by kernel_rfl, by kernel_rfl, fun _ _ _ _ _ _ us hl => match us, hl with | [_], _ => rfl⟩
theorem okfits_client : DefOk P T ("fits_client" : PySem.Str) (st 44) := ⟨⟨rfl, rfl, rfl, by decide +kernel, rfl, by decide +kernel, by decide +kernel⟩, by kernel_rfl, by kernel_rfl, fun _ _ _ _ _ _ us hl => match us, hl with | [_, _], _ => rfl⟩
theorem okfits_wishes : DefOk P T ("fits_wishes" : PySem.Str) (st 45) := ⟨⟨rfl, rfl, rfl, by decide +kernel, rfl, by decide +kernel, by decide +kernel⟩, by kernel_rfl, by kernel_rfl, fun _ _ _ _ _ _ us hl => match us, hl with | [_], _ => rfl⟩
theorem okfits_session : DefOk P T ("fits_session" : PySem.Str) (st 46) := ⟨⟨rfl, rfl, rfl, by decide +kernel, rfl, by decide +kernel, by decide +kernel⟩, by kernel_rfl, by kernel_rfl, fun _ _ _ _ _ _ us hl => match us, hl with | [_, _], _ => rfl⟩
theorem okfits_moving : DefOk P T ("fits_moving" : PySem.Str) (st 47) := ⟨⟨rfl, rfl, rfl, by decide +kernel, rfl, by decide +kernel, by decide +kernel⟩, by kernel_rfl, by kernel_rfl, fun _ _ _ _ _ _ us hl => match us, hl with | [_, _], _ => rfl⟩
theorem okfits_line : DefOk P T ("fits_line" : PySem.Str) (st 48) := ⟨⟨rfl, rfl, rfl, by decide +kernel, rfl, by decide +kernel, by decide +kernel⟩, by kernel_rfl, by kernel_rfl, fun _ _ _ _ _ _ us hl => match us, hl with | [_, _], _ => rfl⟩
theorem okfits_records : DefOk P T ("fits_records" : PySem.Str) (st 49) := ⟨⟨rfl, rfl, rfl, by decide +kernel, rfl, by decide +kernel, by decide +kernel⟩, by kernel_rfl, by kernel_rfl, fun _ _ _ _ _ _ us hl => match us, hl with | [_, _], _ => rfl⟩
theorem okfits_manner : DefOk P T ("fits_manner" : PySem.Str) (st 50) := ⟨⟨rfl, rfl, rfl, by decide +kernel, rfl, by decide +kernel, by decide +kernel⟩, by kernel_rfl, by kernel_rfl, fun _ _ _ _ _ _ us hl => match us, hl with | [_], _ => rfl⟩
theorem okfits_world : DefOk P T ("fits_world" : PySem.Str) (st 51) := ⟨⟨rfl, rfl, rfl, by decide +kernel, rfl, by decide +kernel, by decide +kernel⟩, by kernel_rfl, by kernel_rfl, fun _ _ _ _ _ _ us hl => match us, hl with | [_], _ => rfl⟩
theorem okneed_world : DefOk P T ("need_world" : PySem.Str) (st 52) := ⟨⟨rfl, rfl, rfl, by decide +kernel, rfl, by decide +kernel, by decide +kernel⟩, by kernel_rfl, by kernel_rfl, fun _ _ _ _ _ _ us hl => match us, hl with | [_], _ => rfl⟩
theorem okdue_way : DefOk P T ("due_way" : PySem.Str) (st 54) := ⟨⟨rfl, rfl, rfl, by decide +kernel, rfl, by decide +kernel, by decide +kernel⟩, by kernel_rfl, by kernel_rfl, fun _ _ _ _ _ _ us hl => match us, hl with | [_, _, _], _ => rfl⟩
theorem okfits_terms : DefOk P T ("fits_terms" : PySem.Str) (st 62) := ⟨⟨rfl, rfl, rfl, by decide +kernel, rfl, by decide +kernel, by decide +kernel⟩, by kernel_rfl, by kernel_rfl, fun _ _ _ _ _ _ us hl => match us, hl with | [_], _ => rfl⟩
theorem okfits_waits : DefOk P T ("fits_waits" : PySem.Str) (st 63) := ⟨⟨rfl, rfl, rfl, by decide +kernel, rfl, by decide +kernel, by decide +kernel⟩, by kernel_rfl, by kernel_rfl, fun _ _ _ _ _ _ us hl => match us, hl with | [_, _, _], _ => rfl⟩
theorem okfits_sitting : DefOk P T ("fits_sitting" : PySem.Str) (st 64) := ⟨⟨rfl, rfl, rfl, by decide +kernel, rfl, by decide +kernel, by decide +kernel⟩, by kernel_rfl, by kernel_rfl, fun _ _ _ _ _ _ us hl => match us, hl with | [_, _], _ => rfl⟩
theorem okfits_house : DefOk P T ("fits_house" : PySem.Str) (st 65) := ⟨⟨rfl, rfl, rfl, by decide +kernel, rfl, by decide +kernel, by decide +kernel⟩, by kernel_rfl, by kernel_rfl, fun _ _ _ _ _ _ us hl => match us, hl with | [_], _ => rfl⟩
theorem okfits_step_part : DefOk P T ("fits_step_part" : PySem.Str) (st 66) := ⟨⟨rfl, rfl, rfl, by decide +kernel, rfl, by decide +kernel, by decide +kernel⟩, by kernel_rfl, by kernel_rfl, fun _ _ _ _ _ _ us hl => match us, hl with | [_, _], _ => rfl⟩
theorem okfits_house_step : DefOk P T ("fits_house_step" : PySem.Str) (st 67) := ⟨⟨rfl, rfl, rfl, by decide +kernel, rfl, by decide +kernel, by decide +kernel⟩, by kernel_rfl, by kernel_rfl, fun _ _ _ _ _ _ us hl => match us, hl with | [_], _ => rfl⟩
theorem okdropped_for : DefOk P T ("dropped_for" : PySem.Str) (st 68) := ⟨⟨rfl, rfl, rfl, by decide +kernel, rfl, by decide +kernel, by decide +kernel⟩, by kernel_rfl, by kernel_rfl, fun _ _ _ _ _ _ us hl => match us, hl with | [_, _, _], _ => rfl⟩
theorem okfirst_light : DefOk P T ("first_light" : PySem.Str) (st 69) := ⟨⟨rfl, rfl, rfl, by decide +kernel, rfl, by decide +kernel, by decide +kernel⟩, by kernel_rfl, by kernel_rfl, fun _ _ _ _ _ _ us hl => match us, hl with | [_], _ => rfl⟩
theorem okwithout : DefOk P T ("without" : PySem.Str) (st 70) := ⟨⟨rfl, rfl, rfl, by decide +kernel, rfl, by decide +kernel, by decide +kernel⟩, by kernel_rfl, by kernel_rfl, fun _ _ _ _ _ _ us hl => match us, hl with | [_, _], _ => rfl⟩
theorem okput_in : DefOk P T ("put_in" : PySem.Str) (st 71) := ⟨⟨rfl, rfl, rfl, by decide +kernel, rfl, by decide +kernel, by decide +kernel⟩, by kernel_rfl, by kernel_rfl, fun _ _ _ _ _ _ us hl => match us, hl with | [_, _, _, _], _ => rfl⟩
theorem okcut_to : DefOk P T ("cut_to" : PySem.Str) (st 72) := ⟨⟨rfl, rfl, rfl, by decide +kernel, rfl, by decide +kernel, by decide +kernel⟩, by kernel_rfl, by kernel_rfl, fun _ _ _ _ _ _ us hl => match us, hl with | [_, _, _], _ => rfl⟩
theorem okended : DefOk P T ("ended" : PySem.Str) (st 73) := ⟨⟨rfl, rfl, rfl, by decide +kernel, rfl, by decide +kernel, by decide +kernel⟩, by kernel_rfl, by kernel_rfl, fun _ _ _ _ _ _ us hl => match us, hl with | [_, _], _ => rfl⟩
theorem oktold_to_all : DefOk P T ("told_to_all" : PySem.Str) (st 74) := ⟨⟨rfl, rfl, rfl, by decide +kernel, rfl, by decide +kernel, by decide +kernel⟩, by kernel_rfl, by kernel_rfl, fun _ _ _ _ _ _ us hl => match us, hl with | [_, _, _, _], _ => rfl⟩
theorem okleft_alone : DefOk P T ("left_alone" : PySem.Str) (st 75) := ⟨⟨rfl, rfl, rfl, by decide +kernel, rfl, by decide +kernel, by decide +kernel⟩, by kernel_rfl, by kernel_rfl, fun _ _ _ _ _ _ us hl => match us, hl with | [_, _, _, _, _], _ => rfl⟩
theorem okopened : DefOk P T ("opened" : PySem.Str) (st 76) := ⟨⟨rfl, rfl, rfl, by decide +kernel, rfl, by decide +kernel, by decide +kernel⟩, by kernel_rfl, by kernel_rfl, fun _ _ _ _ _ _ us hl => match us, hl with | [_, _, _, _], _ => rfl⟩
theorem okturned : DefOk P T ("turned" : PySem.Str) (st 77) := ⟨⟨rfl, rfl, rfl, by decide +kernel, rfl, by decide +kernel, by decide +kernel⟩, by kernel_rfl, by kernel_rfl, fun _ _ _ _ _ _ us hl => match us, hl with | [_], _ => rfl⟩
theorem okrewished : DefOk P T ("rewished" : PySem.Str) (st 78) := ⟨⟨rfl, rfl, rfl, by decide +kernel, rfl, by decide +kernel, by decide +kernel⟩, by kernel_rfl, by kernel_rfl, fun _ _ _ _ _ _ us hl => match us, hl with | [_, _], _ => rfl⟩
theorem okhanded_out : DefOk P T ("handed_out" : PySem.Str) (st 79) := ⟨⟨rfl, rfl, rfl, by decide +kernel, rfl, by decide +kernel, by decide +kernel⟩, by kernel_rfl, by kernel_rfl, fun _ _ _ _ _ _ us hl => match us, hl with | [_, _, _], _ => rfl⟩
theorem okstepped_on : DefOk P T ("stepped_on" : PySem.Str) (st 80) := ⟨⟨rfl, rfl, rfl, by decide +kernel, rfl, by decide +kernel, by decide +kernel⟩, by kernel_rfl, by kernel_rfl, fun _ _ _ _ _ _ us hl => match us, hl with | [_, _, _, _], _ => rfl⟩
theorem okhouse_led : DefOk P T ("house_led" : PySem.Str) (st 81) := ⟨⟨rfl, rfl, rfl, by decide +kernel, rfl, by decide +kernel, by decide +kernel⟩, by kernel_rfl, by kernel_rfl, fun _ _ _ _ _ _ us hl => match us, hl with | [_, _, _], _ => rfl⟩
theorem okneed_house : DefOk P T ("need_house" : PySem.Str) (st 82) := ⟨⟨rfl, rfl, rfl, by decide +kernel, rfl, by decide +kernel, by decide +kernel⟩, by kernel_rfl, by kernel_rfl, fun _ _ _ _ _ _ us hl => match us, hl with | [_], _ => rfl⟩
theorem okis_house : DefOk P T ("is_house" : PySem.Str) (st 83) := ⟨⟨rfl, rfl, rfl, by decide +kernel, rfl, by decide +kernel, by decide +kernel⟩, by kernel_rfl, by kernel_rfl, fun _ _ _ _ _ _ us hl => match us, hl with | [_], _ => rfl⟩
theorem okis_house_step : DefOk P T ("is_house_step" : PySem.Str) (st 84) := ⟨⟨rfl, rfl, rfl, by decide +kernel, rfl, by decide +kernel, by decide +kernel⟩, by kernel_rfl, by kernel_rfl, fun _ _ _ _ _ _ us hl => match us, hl with | [_], _ => rfl⟩
theorem okhouse_stepped : DefOk P T ("house_stepped" : PySem.Str) (st 85) := ⟨⟨rfl, rfl, rfl, by decide +kernel, rfl, by decide +kernel, by decide +kernel⟩, by kernel_rfl, by kernel_rfl, fun _ _ _ _ _ _ us hl => match us, hl with | [_, _], _ => rfl⟩
theorem oksessions_for : DefOk P T ("sessions_for" : PySem.Str) (st 86) := ⟨⟨rfl, rfl, rfl, by decide +kernel, rfl, by decide +kernel, by decide +kernel⟩, by kernel_rfl, by kernel_rfl, fun _ _ _ _ _ _ us hl => match us, hl with | [_, _, _], _ => rfl⟩
theorem okhouse_of_world : DefOk P T ("house_of_world" : PySem.Str) (st 87) := ⟨⟨rfl, rfl, rfl, by decide +kernel, rfl, by decide +kernel, by decide +kernel⟩, by kernel_rfl, by kernel_rfl, fun _ _ _ _ _ _ us hl => match us, hl with | [_], _ => rfl⟩
theorem okneed_steps : DefOk P T ("need_steps" : PySem.Str) (st 90) := ⟨⟨rfl, rfl, rfl, by decide +kernel, rfl, by decide +kernel, by decide +kernel⟩, by kernel_rfl, by kernel_rfl, fun _ _ _ _ _ _ us hl => match us, hl with | [_], _ => rfl⟩
theorem okneed_session_name : DefOk P T ("need_session_name" : PySem.Str) (st 91) := ⟨⟨rfl, rfl, rfl, by decide +kernel, rfl, by decide +kernel, by decide +kernel⟩, by kernel_rfl, by kernel_rfl, fun _ _ _ _ _ _ us hl => match us, hl with | [_], _ => rfl⟩
theorem okled_through : DefOk P T ("led_through" : PySem.Str) (st 92) := ⟨⟨rfl, rfl, rfl, by decide +kernel, rfl, by decide +kernel, by decide +kernel⟩, by kernel_rfl, by kernel_rfl, fun _ _ _ _ _ _ us hl => match us, hl with | [_, _], _ => rfl⟩
theorem oktagged : DefOk P T ("tagged" : PySem.Str) (st 93) := ⟨⟨rfl, rfl, rfl, by decide +kernel, rfl, by decide +kernel, by decide +kernel⟩, by kernel_rfl, by kernel_rfl, fun _ _ _ _ _ _ us hl => match us, hl with | [_], _ => rfl⟩
theorem okcomers : DefOk P T ("comers" : PySem.Str) (st 94) := ⟨⟨rfl, rfl, rfl, by decide +kernel, rfl, by decide +kernel, by decide +kernel⟩, by kernel_rfl, by kernel_rfl, fun _ _ _ _ _ _ us hl => match us, hl with | [_, _, _], _ => rfl⟩
theorem okfates_told : DefOk P T ("fates_told" : PySem.Str) (st 95) := ⟨⟨rfl, rfl, rfl, by decide +kernel, rfl, by decide +kernel, by decide +kernel⟩, by kernel_rfl, by kernel_rfl, fun _ _ _ _ _ _ us hl => match us, hl with | [_, _], _ => rfl⟩
theorem okhouse_course : DefOk P T ("house_course" : PySem.Str) (st 96) := ⟨⟨rfl, rfl, rfl, by decide +kernel, rfl, by decide +kernel, by decide +kernel⟩, by kernel_rfl, by kernel_rfl, fun _ _ _ _ _ _ us hl => match us, hl with | [_, _], _ => rfl⟩
theorem oktold_in : DefOk P T ("told_in" : PySem.Str) (st 97) := ⟨⟨rfl, rfl, rfl, by decide +kernel, rfl, by decide +kernel, by decide +kernel⟩, by kernel_rfl, by kernel_rfl, fun _ _ _ _ _ _ us hl => match us, hl with | [_, _], _ => rfl⟩
theorem okfates_of : DefOk P T ("fates_of" : PySem.Str) (st 98) := ⟨⟨rfl, rfl, rfl, by decide +kernel, rfl, by decide +kernel, by decide +kernel⟩, by kernel_rfl, by kernel_rfl, fun _ _ _ _ _ _ us hl => match us, hl with | [_, _], _ => rfl⟩
theorem okfate_counts : DefOk P T ("fate_counts" : PySem.Str) (st 99) := ⟨⟨rfl, rfl, rfl, by decide +kernel, rfl, by decide +kernel, by decide +kernel⟩, by kernel_rfl, by kernel_rfl, fun _ _ _ _ _ _ us hl => match us, hl with | [_, _, _], _ => rfl⟩
theorem okretermed : DefOk P T ("retermed" : PySem.Str) (st 102) := ⟨⟨rfl, rfl, rfl, by decide +kernel, rfl, by decide +kernel, by decide +kernel⟩, by kernel_rfl, by kernel_rfl, fun _ _ _ _ _ _ us hl => match us, hl with | [_, _, _], _ => rfl⟩
theorem oksat_with : DefOk P T ("sat_with" : PySem.Str) (st 103) := ⟨⟨rfl, rfl, rfl, by decide +kernel, rfl, by decide +kernel, by decide +kernel⟩, by kernel_rfl, by kernel_rfl, fun _ _ _ _ _ _ us hl => match us, hl with | [_, _, _], _ => rfl⟩
theorem okhouse_with : DefOk P T ("house_with" : PySem.Str) (st 104) := ⟨⟨rfl, rfl, rfl, by decide +kernel, rfl, by decide +kernel, by decide +kernel⟩, by kernel_rfl, by kernel_rfl, fun _ _ _ _ _ _ us hl => match us, hl with | [_, _, _, _], _ => rfl⟩
theorem oksteps_with : DefOk P T ("steps_with" : PySem.Str) (st 105) := ⟨⟨rfl, rfl, rfl, by decide +kernel, rfl, by decide +kernel, by decide +kernel⟩, by kernel_rfl, by kernel_rfl, fun _ _ _ _ _ _ us hl => match us, hl with | [_, _, _, _], _ => rfl⟩
theorem oktold_leniently : DefOk P T ("told_leniently" : PySem.Str) (st 106) := ⟨⟨rfl, rfl, rfl, by decide +kernel, rfl, by decide +kernel, by decide +kernel⟩, by kernel_rfl, by kernel_rfl, fun _ _ _ _ _ _ us hl => match us, hl with | [_, _], _ => rfl⟩
theorem okstates_of : DefOk P T ("states_of" : PySem.Str) (st 107) := ⟨⟨rfl, rfl, rfl, by decide +kernel, rfl, by decide +kernel, by decide +kernel⟩, by kernel_rfl, by kernel_rfl, fun _ _ _ _ _ _ us hl => match us, hl with | [_, _], _ => rfl⟩
theorem okis_short : DefOk P T ("is_short" : PySem.Str) (st 108) := ⟨⟨rfl, rfl, rfl, by decide +kernel, rfl, by decide +kernel, by decide +kernel⟩, by kernel_rfl, by kernel_rfl, fun _ _ _ _ _ _ us hl => match us, hl with | [_, _], _ => rfl⟩
theorem okis_ended : DefOk P T ("is_ended" : PySem.Str) (st 109) := ⟨⟨rfl, rfl, rfl, by decide +kernel, rfl, by decide +kernel, by decide +kernel⟩, by kernel_rfl, by kernel_rfl, fun _ _ _ _ _ _ us hl => match us, hl with | [_, _], _ => rfl⟩
theorem okasked_end : DefOk P T ("asked_end" : PySem.Str) (st 110) := ⟨⟨rfl, rfl, rfl, by decide +kernel, rfl, by decide +kernel, by decide +kernel⟩, by kernel_rfl, by kernel_rfl, fun _ _ _ _ _ _ us hl => match us, hl with | [_, _, _], _ => rfl⟩
theorem okleast_room : DefOk P T ("least_room" : PySem.Str) (st 111) := ⟨⟨rfl, rfl, rfl, by decide +kernel, rfl, by decide +kernel, by decide +kernel⟩, by kernel_rfl, by kernel_rfl, fun _ _ _ _ _ _ us hl => match us, hl with | [_, _, _], _ => rfl⟩
theorem okleast_keep : DefOk P T ("least_keep" : PySem.Str) (st 112) := ⟨⟨rfl, rfl, rfl, by decide +kernel, rfl, by decide +kernel, by decide +kernel⟩, by kernel_rfl, by kernel_rfl, fun _ _ _ _ _ _ us hl => match us, hl with | [_, _, _], _ => rfl⟩
theorem ok_law_cup : DefOk P T ("_law_cup" : PySem.Str) (st 114) := ⟨⟨rfl, rfl, rfl, by decide +kernel, rfl, by decide +kernel, by decide +kernel⟩, by kernel_rfl, by kernel_rfl, fun _ _ _ _ _ _ us hl => match us, hl with | [_], _ => rfl⟩
theorem ok_law_roll : DefOk P T ("_law_roll" : PySem.Str) (st 115) := ⟨⟨rfl, rfl, rfl, by decide +kernel, rfl, by decide +kernel, by decide +kernel⟩, by kernel_rfl, by kernel_rfl, fun _ _ _ _ _ _ us hl => match us, hl with | [_, _], _ => rfl⟩
theorem ok_law_some : DefOk P T ("_law_some" : PySem.Str) (st 116) := ⟨⟨rfl, rfl, rfl, by decide +kernel, rfl, by decide +kernel, by decide +kernel⟩, by kernel_rfl, by kernel_rfl, fun _ _ _ _ _ _ us hl => match us, hl with | [_, _], _ => rfl⟩
theorem ok_law_error : DefOk P T ("_law_error" : PySem.Str) (st 117) := ⟨⟨rfl, rfl, rfl, by decide +kernel, rfl, by decide +kernel, by decide +kernel⟩, by kernel_rfl, by kernel_rfl, fun _ _ _ _ _ _ us hl => match us, hl with | [_], _ => rfl⟩
theorem ok_law_odd_houses : DefOk P T ("_law_odd_houses" : PySem.Str) (st 118) := ⟨⟨rfl, rfl, rfl, by decide +kernel, rfl, by decide +kernel, by decide +kernel⟩, by kernel_rfl, by kernel_rfl, fun _ _ _ _ _ _ us hl => match us, hl with | [], _ => rfl⟩
theorem ok_law_odd_steps : DefOk P T ("_law_odd_steps" : PySem.Str) (st 119) := ⟨⟨rfl, rfl, rfl, by decide +kernel, rfl, by decide +kernel, by decide +kernel⟩, by kernel_rfl, by kernel_rfl, fun _ _ _ _ _ _ us hl => match us, hl with | [], _ => rfl⟩
theorem ok_law_house_refused : DefOk P T ("_law_house_refused" : PySem.Str) (st 120) := ⟨⟨rfl, rfl, rfl, by decide +kernel, rfl, by decide +kernel, by decide +kernel⟩, by kernel_rfl, by kernel_rfl, fun _ _ _ _ _ _ us hl => match us, hl with | [_], _ => rfl⟩
theorem ok_law_step_refused : DefOk P T ("_law_step_refused" : PySem.Str) (st 121) := ⟨⟨rfl, rfl, rfl, by decide +kernel, rfl, by decide +kernel, by decide +kernel⟩, by kernel_rfl, by kernel_rfl, fun _ _ _ _ _ _ us hl => match us, hl with | [_], _ => rfl⟩
theorem oklaw : DefOk P T ("law" : PySem.Str) (st 122) := ⟨⟨rfl, rfl, rfl, by decide +kernel, rfl, by decide +kernel, by decide +kernel⟩, by kernel_rfl, by kernel_rfl, fun _ _ _ _ _ _ us hl => match us, hl with | [_], _ => rfl⟩
theorem defs_ok : DefsOk P T stab := defsOk_cons okis_whole (defsOk_cons okfits_name (defsOk_cons okfits_way (defsOk_cons okfits_topic (defsOk_cons okfits_wish (defsOk_cons okis_met (defsOk_cons oklesser (defsOk_cons okneed_way (defsOk_cons okkind_of (defsOk_cons okfits_item (defsOk_cons okfits_frame (defsOk_cons okis_row_of (defsOk_cons okis_rising (defsOk_cons okfits_word (defsOk_cons okfits_entry (defsOk_cons okfits_giving (defsOk_cons okfits_taking (defsOk_cons okfits_memory (defsOk_cons okfits_heard (defsOk_cons okfits_client (defsOk_cons okfits_wishes (defsOk_cons okfits_session (defsOk_cons okfits_moving (defsOk_cons okfits_line (defsOk_cons okfits_records (defsOk_cons okfits_manner (defsOk_cons okfits_world (defsOk_cons okneed_world (defsOk_cons okdue_way (defsOk_cons okfits_terms (defsOk_cons okfits_waits (defsOk_cons okfits_sitting (defsOk_cons okfits_house (defsOk_cons okfits_step_part (defsOk_cons okfits_house_step (defsOk_cons okdropped_for (defsOk_cons okfirst_light (defsOk_cons okwithout (defsOk_cons okput_in (defsOk_cons okcut_to (defsOk_cons okended (defsOk_cons oktold_to_all (defsOk_cons okleft_alone (defsOk_cons okopened (defsOk_cons okturned (defsOk_cons okrewished (defsOk_cons okhanded_out (defsOk_cons okstepped_on (defsOk_cons okhouse_led (defsOk_cons okneed_house (defsOk_cons okis_house (defsOk_cons okis_house_step (defsOk_cons okhouse_stepped (defsOk_cons oksessions_for (defsOk_cons okhouse_of_world (defsOk_cons okneed_steps (defsOk_cons okneed_session_name (defsOk_cons okled_through (defsOk_cons oktagged (defsOk_cons okcomers (defsOk_cons okfates_told (defsOk_cons okhouse_course (defsOk_cons oktold_in (defsOk_cons okfates_of (defsOk_cons okfate_counts (defsOk_cons okretermed (defsOk_cons oksat_with (defsOk_cons okhouse_with (defsOk_cons oksteps_with (defsOk_cons oktold_leniently (defsOk_cons okstates_of (defsOk_cons okis_short (defsOk_cons okis_ended (defsOk_cons okasked_end (defsOk_cons okleast_room (defsOk_cons okleast_keep (defsOk_cons ok_law_cup (defsOk_cons ok_law_roll (defsOk_cons ok_law_some (defsOk_cons ok_law_error (defsOk_cons ok_law_odd_houses (defsOk_cons ok_law_odd_steps (defsOk_cons ok_law_house_refused (defsOk_cons ok_law_step_refused (defsOk_cons oklaw (defsOk_nil)))))))))))))))))))))))))))))))))))))))))))))))))))))))))))))))))))))))))))))))))))))
theorem fns_in : ∀ x ∈ P.fns, x ∈ stab.map (·.1) := by
  have h : P.fns = stab.map (·.1) := by kernel_rfl
  intro x hx
  rw [← h]; exact hx
def csB : Bool := cstsL.all fun x => match C (code x) with
  | none => true
  | some (.d d) => cs.any fun p => p.1 == x && D.beq p.2 d
  | _ => false
theorem csts_in : ∀ x ∈ P.csts, C (code x) = none ∨ ∃ d, C (code x) = some (.d d) ∧ (x, d) ∈ cs := csts_of (by decide +kernel : csB = true)
def dsB : Bool := dicsL.all fun x => match C (code x) with
  | some (.dict kvs) => ds.any fun p => p.1 == x && beqKV p.2 kvs
  | _ => false
abbrev ts : List He.Tab := [(fun K => He.ga K ("PARTS" : PySem.Str), ksOf ds ("PARTS" : PySem.Str))]
theorem dics_in : ∀ x ∈ P.dics, ∃ kvs, C (code x) = some (.dict kvs) ∧ (x, kvs) ∈ ds ∧ ∃ (i : Nat) (ks : List PySem.Str), ts[i]? = some (fun K => He.ga K x, ks) := dicsIn_of (xs := dicsL) (by decide +kernel : dsB = true) rfl
theorem excs_in : ∀ x ∈ P.excs, ∀ y ∈ P.excs, code x = code y → x = y := excs_of (by decide +kernel)
end L47
end

section
set_option autoImplicit false
set_option linter.all false
set_option maxRecDepth 100000
set_option maxHeartbeats 1000000
namespace L47
open Ev
theorem T_cup : T 53958599637531376 = some f_law_cup := rfl
theorem T_roll : T 6906700753635374700 = some f_law_roll := rfl
theorem T_some : T 6906700753637471973 = some f_law_some := rfl
/-- the store: the cup alone -/
def cup (R : Hh) (a b : Int) : Hh := .lst [.d (.int a), .d (.int b)] :: R
theorem big_const (j : Int) (h1 : -(2 ^ 64) < j) (h2 : j < 2 ^ 64) : bigInt j = true := by
  unfold bigInt
  rw [Bool.and_eq_true]
  exact ⟨decide_eq_true h1, decide_eq_true h2⟩
theorem roll_eq (R : Hh) (k : Nat) (a b n : Int) (hn : 0 < n) (hn2 : n < 1073741824) (ha : 0 ≤ a) : ∃ v a' b', Ev.call T C (k + 1) 6906700753635374700 [.ref 0, .d (.int n)] (cup R a b) = .ok (.d (.int v)) (cup R a' b') ∧ 0 ≤ v ∧ v < n ∧ 0 ≤ a' := by
  rw [rn_call T_roll rfl]
  have ix : ∀ (a b : Int) (i : Int), indexOp (Cell.lst [PV.d (.int a), PV.d (.int b)] :: R) (.ref 0) (.d (.int i)) = (place 2 i).bind fun j => [PV.d (.int a), PV.d (.int b)][j]? := fun a b i => rn_ix_ref (xs := [PV.d (.int a), PV.d (.int b)]) _ i rfl
  by_cases h0 : 0 < a
  · refine ⟨a % n, a / n, b, ?_, Int.emod_nonneg _ (by omega), Int.emod_lt_of_pos _ hn, Int.ediv_nonneg ha (by omega)⟩
    simp [f_law_roll, cup, Ev.start, ix, place, h0, rn_mod_int _ _ _ hn, rn_fdiv_int _ _ _ hn hn2, setCell]
  · have e0 : a = 0 := by omega
    subst e0
    refine ⟨(((b * 30671 + 7919) % 2147483549 * ((b * 30671 + 7919) % 2147483549 + 131)) % 2147483587 / 709) % n, 0, (b * 30671 + 7919) % 2147483549, ?_, Int.emod_nonneg _ (by omega), Int.emod_lt_of_pos _ hn, Int.le_refl _⟩
    have hb1 : 0 ≤ (b * 30671 + 7919) % 2147483549 := Int.emod_nonneg _ (by omega)
    have hb2 : (b * 30671 + 7919) % 2147483549 < 2147483549 := Int.emod_lt_of_pos _ (by omega)
    have m1 : ∀ h, binop h .mul (.d (.int b)) (.d (.int 30671)) = some (.d (.int (b * 30671))) := fun h => rn_mul_big h _ _ (.inr (by decide))
    have m2 : ∀ h, binop h .mul (.d (.int ((b * 30671 + 7919) % 2147483549))) (.d (.int ((b * 30671 + 7919) % 2147483549 + 131))) = some (.d (.int ((b * 30671 + 7919) % 2147483549 * ((b * 30671 + 7919) % 2147483549 + 131)))) := fun h => rn_mul_big h _ _ (.inl (big_const _ (by omega) (by omega)))
    have d1 : ∀ h i, binop h .mod (.d (.int i)) (.d (.int 2147483549)) = some (.d (.int (i % 2147483549))) := fun h i => rn_mod_int h _ _ (by decide)
    have d2 : ∀ h i, binop h .mod (.d (.int i)) (.d (.int 2147483587)) = some (.d (.int (i % 2147483587))) := fun h i => rn_mod_int h _ _ (by decide)
    have d3 : ∀ h i, binop h .fdiv (.d (.int i)) (.d (.int 709)) = some (.d (.int (i / 709))) := fun h i => rn_fdiv_int h _ _ (by decide) (by decide)
    have d4 : ∀ h i, binop h .mod (.d (.int i)) (.d (.int n)) = some (.d (.int (i % n))) := fun h i => rn_mod_int h _ _ hn
    simp [f_law_roll, cup, Ev.start, ix, place, m1, m2, d1, d2, d3, d4, setCell]
theorem cup_eq (k : Nat) (ns : List Int) (hns : ns.length ≤ 63) : ∃ a b, Ev.call T C (k + 1) 53958599637531376 [.scr (ns.map D.int)] [] = .ok (.ref 0) (cup [] a b) ∧ 0 ≤ a := by
  rw [rn_call T_cup rfl]
  have m1 : ∀ h (i : Int), binop h .mul (.d (.int i)) (.d (.int 193)) = some (.d (.int (i * 193))) := fun h i => rn_mul_big h _ _ (.inr (by decide))
  have d1 : ∀ h i, binop h .mod (.d (.int i)) (.d (.int 2077504273)) = some (.d (.int (i % 2077504273))) := fun h i => rn_mod_int h _ _ (by decide)
  have d2 : ∀ h i, binop h .fdiv (.d (.int i)) (.d (.int 11)) = some (.d (.int (i / 11))) := fun h i => rn_fdiv_int h _ _ (by decide) (by decide)
  have pw : ∀ h, binop h .pow (.d (.int 10)) (.d (.int 18)) = some (.d (.int (10 ^ 18))) := fun h => by rfl
  have fin : ∀ (x : Int), (∃ ix : Hh → Option PV, (∀ h, indexOp h (.d (.list (ns.map D.int ++ [D.int 0]))) (.d (.int 0)) = some (.d (.int x)))) → ∃ a b, R.bd (evSs ⟨Ev.call T C k, C, callT T⟩ f_law_cup.body (Ev.start f_law_cup.ns [.scr (ns.map D.int)]) []) defK = .ok (.ref 0) (cup [] a b) ∧ 0 ≤ a := by
    rintro x ⟨_, hx⟩
    have hl : ns.length ≤ 16777215 := by omega
    have y0 : 0 ≤ (if x < 0 then -x else x) := by split <;> omega
    generalize hy : (if x < 0 then -x else x) = y at y0
    by_cases h1 : (10 : Int) ^ 18 ≤ y
    · refine ⟨y / 11, (y * 193 + 1201) % 2077504273 + 89, ?_, Int.ediv_nonneg y0 (by decide)⟩
      have h1' : (1000000000000000000 : Int) ≤ y := h1
      have hx2 : ∀ h, indexOp h (.d (.list (ns.map D.int ++ [D.int 0]))) (.d (.int 0)) = some (.d (.int x)) := hx
      simp [f_law_cup, Ev.start, allD, mkTup, LIM, m1, d1, d2, pw, hl, hy, h1', cup, -rn_ix_list, hx2]
    · refine ⟨0, (y * 193 + 1201) % 2077504273 + 89, ?_, Int.le_refl _⟩
      have h1' : ¬ (1000000000000000000 : Int) ≤ y := h1
      simp [f_law_cup, Ev.start, allD, mkTup, LIM, m1, d1, d2, pw, hl, hy, h1', cup, -rn_ix_list, hx]
  cases ns with
  | nil => exact fin 0 ⟨fun _ => none, fun h => by simp [place]⟩
  | cons n ns => exact fin n ⟨fun _ => none, fun h => by simp [place]⟩
theorem some_eq (R : Hh) (k : Nat) (a b : Int) (L : List D) (ha : 0 ≤ a) (h0 : 0 < L.length) (hl : L.length ≤ 10000) : ∃ d a' b', Ev.call T C (k + 2) 6906700753637471973 [.ref 0, .d (.list L)] (cup R a b) = .ok (.d d) (cup R a' b') ∧ d ∈ L ∧ 0 ≤ a' := by
  obtain ⟨v, a', b', e, v0, v1, h1⟩ := roll_eq R k a b (L.length : Int) (by omega) (by omega) ha
  have hv : v.toNat < L.length := by omega
  refine ⟨L[v.toNat], a', b', ?_, List.getElem_mem hv, h1⟩
  rw [rn_call T_some rfl]
  have hp : place L.length v = some v.toNat := by unfold place; rw [if_pos v0, if_pos hv]
  simp [f_law_some, Ev.start, e, hp, hv]
/-- a comprehension that draws -/
theorem lc_draw (R : Hh) {elt : Env → M (Option PV)} {st : PV → Env → Option Env} {env : Env} (Pr : PV → D → Prop) : ∀ (xs : List PV) (acc : List D) (a b : Int), 0 ≤ a → acc.length + xs.length ≤ 1000 →
    (∀ x ∈ xs, ∃ env', st x env = some env' ∧ ∀ a b, 0 ≤ a → ∃ d a' b', elt env' (cup R a b) = .ok (some (.d d)) (cup R a' b') ∧ Pr x d ∧ 0 ≤ a') →
    ∃ ds a' b', lcGo elt st env xs acc (cup R a b) = .ok (.d (.list (acc ++ ds))) (cup R a' b') ∧ 0 ≤ a' ∧ ds.length = xs.length ∧ ∀ (i : Nat) (x : PV), xs[i]? = some x → ∃ d, ds[i]? = some d ∧ Pr x d
  | [], acc, a, b, ha, _, _ => ⟨[], a, b, by simp [lcGo], ha, rfl, fun i x h => by simp at h⟩
  | x :: xs, acc, a, b, ha, hl, hx => by
    obtain ⟨env', h1, h2⟩ := hx x (by simp)
    obtain ⟨d, a1, b1, h3, h4, h5⟩ := h2 a b ha
    obtain ⟨ds, a2, b2, q1, q2, q3, q4⟩ := lc_draw R Pr xs (acc ++ [d]) a1 b1 h5 (by simp at hl ⊢; omega) fun y hy => hx y (by simp [hy])
    refine ⟨d :: ds, a2, b2, ?_, q2, by simp [q3], fun i y hy => ?_⟩
    · simp only [lcGo, h1]
      rw [rn_bnd_ap]
      have hc : M.calm (elt env') (cup R a b) = .ok (some (.d d)) (cup R a1 b1) := by simp only [M.calm, h3]
      have hl2 : acc.length < LIM := by simp at hl; unfold LIM; omega
      rw [hc]
      simp only [rn_bd_ok, hl2, if_true]
      rw [q1]
      simp
    · cases i with
      | zero => simp at hy; subst hy; exact ⟨d, rfl, h4⟩
      | succ i => exact q4 i y (by simpa using hy)
end L47
end

section
set_option autoImplicit false
set_option linter.all false
set_option maxRecDepth 100000
set_option maxHeartbeats 2000000
namespace L47
open Ev
theorem app_step {F : Fns} {e : E} {r : Ss} {e0 : Option PV} {es : Env} {h : Hh} {xs : List PV} {v : PV} (hl : xs.length ≤ 100) (he : ∀ h, evE F e (e0 :: some (.ref h.length) :: es) (h ++ [.lst xs]) = .ok v (h ++ [.lst xs])) :
    evSs F (.cons (.app (.var 1) e) r) (e0 :: some (.ref h.length) :: es) (h ++ [.lst xs]) = evSs F r (e0 :: some (.ref h.length) :: es) (h ++ [.lst (xs ++ [v])]) := by
  refine rn_seq_nxt ?_
  have g : (h ++ [Cell.lst xs])[h.length]? = some (.lst xs) := by rw [List.getElem?_append_right (Nat.le_refl _), Nat.sub_self]; rfl
  have g2 : isLst (h ++ [Cell.lst xs]) h.length = true := rn_isLst _ g
  have st : setCell (h ++ [Cell.lst xs]) h.length (xs ++ [v]) = h ++ [Cell.lst (xs ++ [v])] := by
    unfold setCell
    rw [List.set_append_right _ _ (Nat.le_refl _), Nat.sub_self]; rfl
  have hl2 : xs.length < 16777216 := by omega
  have he := he h
  simp only [rn_bd_ok, rn_bd_exc, rn_bd_stuck, rn_opt_some, rn_opt_none, rn_bnd_ap, rn_ret_ap, rn_stuck_ap, rn_lift_ap, rn_guardH_ap, rn_guard_ap, rn_ite_ap, rn_e_var, rn_e_cst, rn_e_lit, rn_e_bin, rn_e_not, rn_e_cmp, rn_e_cmp2, rn_e_isc, rn_e_and, rn_e_or, rn_e_ite, rn_e_call, rn_e_bl, rn_e_isi, rn_e_mtc, rn_e_ix, rn_e_sl, rn_e_tup, rn_e_lst, rn_e_new, rn_es_nil, rn_es_cons, rn_eo_no, rn_eo_some, rn_s_expr, rn_s_set, rn_s_sett, rn_s_ret, rn_s_retN, rn_s_ifs, rn_s_raise, rn_s_brk, rn_s_cont, rn_s_pass, rn_ss_nil, rn_ss_cons, rn_flK_nxt, rn_flK_ret, rn_flK_brk, rn_flK_cont, rn_defK_ret, rn_defK_nxt, rn_bd_ite, rn_tr_bool, rn_tr_int, rn_tr_tup, rn_tr_list, rn_tr_none, rn_deref, rn_lt_int, rn_le_int, rn_gt_int, rn_ge_int, rn_add_int, rn_sub_int, rn_add_tup, rn_add_list, rn_len_tup, rn_len_list, rn_max_tup, rn_max_list, rn_min_tup, rn_min_list, rn_max2, rn_min2, rn_tuple_list, rn_tuple_tup, rn_list_scr, rn_int_int, rn_abs_int, rn_sorted_tup, rn_sorted_list, rn_all_list, rn_isi, rn_par2, rn_while, rn_eq, rn_ne, rn_in_tup, rn_notin_tup, rn_sl_tup, rn_near_int, rn_near_str, rn_eqv_int, rn_eqv_str, rn_its_tup, rn_rng1, rn_rng2, rn_lc, rn_ts_nil, rn_ts_cons, rn_for, rn_setix, rn_e_dnew, rn_e_demp, rn_e_ditems, rn_e_sset, rn_e_lset, rn_e_dcopy, rn_newDic, rn_key_str, rn_key_int, rn_dicAt_d, rn_isRef, rn_e_mt, rn_e_thk, rn_e_badd, rn_e_neg, rn_zip, rn_mt_split, rn_mt_join, rn_mt_count, rn_mtOk_s1, rn_mtOk_s2, rn_mtOk_s3, rn_sl_list, rn_near_str2, rn_near_int2, rn_near_bool, rn_eqv_bool, rn_any_list, rn_in_list, rn_notin_list, rn_e_rev, rn_lc2, rn_enum, rn_it_cell, rn_par3, rn_app, rn_list_tup, rn_list_list, rn_ty_str, rn_ty_int, rn_ty_bool, rn_ty_tup, rn_ty_list, rn_ty_none, rn_tix0, rn_tix1, rn_tix2, rn_tix3, rn_tix4, rn_tix5, rn_tix6, rn_lix0, rn_lix1, rn_lix2, rn_lix3, rn_lix4, rn_lix5, rn_lix6, Ev.start, wipe, List.getElem?_cons_zero, List.getElem?_cons_succ, List.getElem?_nil, Option.bind_some, Option.bind_none, Option.map_some, Option.map_none, id, List.set_cons_succ, List.set_cons_zero, if_true, if_false, Bool.not_true, Bool.not_false, Bool.false_eq_true, List.map_cons, List.map_nil, List.length_cons, List.length_nil, List.replicate, List.cons_append, List.nil_append, Nat.reduceSub, Nat.reduceAdd, decide_true, decide_false, Option.getD_some, beq_self_eq_true, Ev.T.store, Ev.Ts.stores, lcE, allD, mkTup, reduceIte, Bool.true_eq_false, Bool.and_true, Bool.true_and, Bool.and_false, Bool.false_and, Bool.or_true, Bool.true_or, Bool.or_false, Bool.false_or, LIM, Nat.reduceLeDiff, Nat.zero_le, List.any_cons, List.any_nil, List.all_cons, List.all_nil, rn_bd_bd, okk_ok, forQ_nxt, forQ_cont, forQ_brk, forQ_ret, lcQ_none, lcQ_some, he, g, g2, hl2, st]
theorem T_err : T 884057696461844690930 = some f_law_error := rfl
theorem thk_exc {F : Fns} {e : E} {env : Env} {h : Hh} {c : Nat} {v : PV} {s : List Nat} (hF : F.callT = callT T) (he : evE F e env h = .exc c v h) (hc : (match f_law_error.td with
    | some (_, hs) => hs.lookup c
    | none => none) = some s) : evE F (.thk 884057696461844690930 e) env h = .ok (.d (.str s)) h := by
  rw [rn_e_thk, hF]
  unfold callT
  rw [T_err]
  simp only [f_law_error] at hc ⊢
  rw [he]
  dsimp only
  rw [hc]
def cellH : Cell := .lst (List.replicate 8 (.d (.str [104, 111, 117, 115, 101])))
def cellS : Cell := .lst (List.replicate 6 (.d (.str [115, 116, 101, 112, 115])) ++ [.d (.str [115, 116, 101, 112])])
/-- what is no house is refused by all -/
def HO : Nat := 11162408591013222394198501
theorem T_need : T 1021906042094129871333 = some fneed_house := rfl
theorem need_no (k : Nat) {d : D} (H : ∀ h, Ev.call T C k 948415806395442362853 [.d d] h = .ok (.d (.bool false)) h) (h : Hh) : Ev.call T C (k + 1) 1021906042094129871333 [.d d] h = .exc HO (.d .none) h := by
  rw [rn_call T_need rfl]
  simp only [rn_bd_ok, rn_bd_exc, rn_bd_stuck, rn_opt_some, rn_opt_none, rn_bnd_ap, rn_ret_ap, rn_stuck_ap, rn_lift_ap, rn_guardH_ap, rn_guard_ap, rn_ite_ap, rn_e_var, rn_e_cst, rn_e_lit, rn_e_bin, rn_e_not, rn_e_cmp, rn_e_cmp2, rn_e_isc, rn_e_and, rn_e_or, rn_e_ite, rn_e_call, rn_e_bl, rn_e_isi, rn_e_mtc, rn_e_ix, rn_e_sl, rn_e_tup, rn_e_lst, rn_e_new, rn_es_nil, rn_es_cons, rn_eo_no, rn_eo_some, rn_s_expr, rn_s_set, rn_s_sett, rn_s_ret, rn_s_retN, rn_s_ifs, rn_s_raise, rn_s_brk, rn_s_cont, rn_s_pass, rn_ss_nil, rn_ss_cons, rn_flK_nxt, rn_flK_ret, rn_flK_brk, rn_flK_cont, rn_defK_ret, rn_defK_nxt, rn_bd_ite, rn_tr_bool, rn_tr_int, rn_tr_tup, rn_tr_list, rn_tr_none, rn_deref, rn_lt_int, rn_le_int, rn_gt_int, rn_ge_int, rn_add_int, rn_sub_int, rn_add_tup, rn_add_list, rn_len_tup, rn_len_list, rn_max_tup, rn_max_list, rn_min_tup, rn_min_list, rn_max2, rn_min2, rn_tuple_list, rn_tuple_tup, rn_list_scr, rn_int_int, rn_abs_int, rn_sorted_tup, rn_sorted_list, rn_all_list, rn_isi, rn_par2, rn_while, rn_eq, rn_ne, rn_in_tup, rn_notin_tup, rn_sl_tup, rn_near_int, rn_near_str, rn_eqv_int, rn_eqv_str, rn_its_tup, rn_rng1, rn_rng2, rn_lc, rn_ts_nil, rn_ts_cons, rn_for, rn_setix, rn_e_dnew, rn_e_demp, rn_e_ditems, rn_e_sset, rn_e_lset, rn_e_dcopy, rn_newDic, rn_key_str, rn_key_int, rn_dicAt_d, rn_isRef, rn_e_mt, rn_e_thk, rn_e_badd, rn_e_neg, rn_zip, rn_mt_split, rn_mt_join, rn_mt_count, rn_mtOk_s1, rn_mtOk_s2, rn_mtOk_s3, rn_sl_list, rn_near_str2, rn_near_int2, rn_near_bool, rn_eqv_bool, rn_any_list, rn_in_list, rn_notin_list, rn_e_rev, rn_lc2, rn_enum, rn_it_cell, rn_par3, rn_app, rn_list_tup, rn_list_list, rn_ty_str, rn_ty_int, rn_ty_bool, rn_ty_tup, rn_ty_list, rn_ty_none, rn_tix0, rn_tix1, rn_tix2, rn_tix3, rn_tix4, rn_tix5, rn_tix6, rn_lix0, rn_lix1, rn_lix2, rn_lix3, rn_lix4, rn_lix5, rn_lix6, Ev.start, wipe, List.getElem?_cons_zero, List.getElem?_cons_succ, List.getElem?_nil, Option.bind_some, Option.bind_none, Option.map_some, Option.map_none, id, List.set_cons_succ, List.set_cons_zero, if_true, if_false, Bool.not_true, Bool.not_false, Bool.false_eq_true, List.map_cons, List.map_nil, List.length_cons, List.length_nil, List.replicate, List.cons_append, List.nil_append, Nat.reduceSub, Nat.reduceAdd, decide_true, decide_false, Option.getD_some, beq_self_eq_true, Ev.T.store, Ev.Ts.stores, lcE, allD, mkTup, reduceIte, Bool.true_eq_false, Bool.and_true, Bool.true_and, Bool.and_false, Bool.false_and, Bool.or_true, Bool.true_or, Bool.or_false, Bool.false_or, LIM, Nat.reduceLeDiff, Nat.zero_le, List.any_cons, List.any_nil, List.all_cons, List.all_nil, rn_bd_bd, okk_ok, forQ_nxt, forQ_cont, forQ_brk, forQ_ret, lcQ_none, lcQ_some, fneed_house, H]
  rfl
theorem house_ref (k : Nat) {d : D} (H : ∀ h, Ev.call T C k 948415806395442362853 [.d d] h = .ok (.d (.bool false)) h) (H2 : ∀ h, Ev.call T C (k + 1) 948415806395442362853 [.d d] h = .ok (.d (.bool false)) h) (h : Hh) :
    Ev.call T C (k + 3) 63703070597810903631746427711976698596 [.d d] h = .ok (.d (.bool true)) (h ++ [cellH]) := by
  have n := fun h => need_no k H h
  have a1 : ∀ h, Ev.call T C (k + 2) 2028565606825111133764727524 [.d d, .d .none] h = .exc HO (.d .none) h := fun h => by rw [rn_call (show T 2028565606825111133764727524 = some fhouse_stepped from rfl) rfl]; simp only [rn_bd_ok, rn_bd_exc, rn_bd_stuck, rn_opt_some, rn_opt_none, rn_bnd_ap, rn_ret_ap, rn_stuck_ap, rn_lift_ap, rn_guardH_ap, rn_guard_ap, rn_ite_ap, rn_e_var, rn_e_cst, rn_e_lit, rn_e_bin, rn_e_not, rn_e_cmp, rn_e_cmp2, rn_e_isc, rn_e_and, rn_e_or, rn_e_ite, rn_e_call, rn_e_bl, rn_e_isi, rn_e_mtc, rn_e_ix, rn_e_sl, rn_e_tup, rn_e_lst, rn_e_new, rn_es_nil, rn_es_cons, rn_eo_no, rn_eo_some, rn_s_expr, rn_s_set, rn_s_sett, rn_s_ret, rn_s_retN, rn_s_ifs, rn_s_raise, rn_s_brk, rn_s_cont, rn_s_pass, rn_ss_nil, rn_ss_cons, rn_flK_nxt, rn_flK_ret, rn_flK_brk, rn_flK_cont, rn_defK_ret, rn_defK_nxt, rn_bd_ite, rn_tr_bool, rn_tr_int, rn_tr_tup, rn_tr_list, rn_tr_none, rn_deref, rn_lt_int, rn_le_int, rn_gt_int, rn_ge_int, rn_add_int, rn_sub_int, rn_add_tup, rn_add_list, rn_len_tup, rn_len_list, rn_max_tup, rn_max_list, rn_min_tup, rn_min_list, rn_max2, rn_min2, rn_tuple_list, rn_tuple_tup, rn_list_scr, rn_int_int, rn_abs_int, rn_sorted_tup, rn_sorted_list, rn_all_list, rn_isi, rn_par2, rn_while, rn_eq, rn_ne, rn_in_tup, rn_notin_tup, rn_sl_tup, rn_near_int, rn_near_str, rn_eqv_int, rn_eqv_str, rn_its_tup, rn_rng1, rn_rng2, rn_lc, rn_ts_nil, rn_ts_cons, rn_for, rn_setix, rn_e_dnew, rn_e_demp, rn_e_ditems, rn_e_sset, rn_e_lset, rn_e_dcopy, rn_newDic, rn_key_str, rn_key_int, rn_dicAt_d, rn_isRef, rn_e_mt, rn_e_thk, rn_e_badd, rn_e_neg, rn_zip, rn_mt_split, rn_mt_join, rn_mt_count, rn_mtOk_s1, rn_mtOk_s2, rn_mtOk_s3, rn_sl_list, rn_near_str2, rn_near_int2, rn_near_bool, rn_eqv_bool, rn_any_list, rn_in_list, rn_notin_list, rn_e_rev, rn_lc2, rn_enum, rn_it_cell, rn_par3, rn_app, rn_list_tup, rn_list_list, rn_ty_str, rn_ty_int, rn_ty_bool, rn_ty_tup, rn_ty_list, rn_ty_none, rn_tix0, rn_tix1, rn_tix2, rn_tix3, rn_tix4, rn_tix5, rn_tix6, rn_lix0, rn_lix1, rn_lix2, rn_lix3, rn_lix4, rn_lix5, rn_lix6, Ev.start, wipe, List.getElem?_cons_zero, List.getElem?_cons_succ, List.getElem?_nil, Option.bind_some, Option.bind_none, Option.map_some, Option.map_none, id, List.set_cons_succ, List.set_cons_zero, if_true, if_false, Bool.not_true, Bool.not_false, Bool.false_eq_true, List.map_cons, List.map_nil, List.length_cons, List.length_nil, List.replicate, List.cons_append, List.nil_append, Nat.reduceSub, Nat.reduceAdd, decide_true, decide_false, Option.getD_some, beq_self_eq_true, Ev.T.store, Ev.Ts.stores, lcE, allD, mkTup, reduceIte, Bool.true_eq_false, Bool.and_true, Bool.true_and, Bool.and_false, Bool.false_and, Bool.or_true, Bool.true_or, Bool.or_false, Bool.false_or, LIM, Nat.reduceLeDiff, Nat.zero_le, List.any_cons, List.any_nil, List.all_cons, List.all_nil, rn_bd_bd, okk_ok, forQ_nxt, forQ_cont, forQ_brk, forQ_ret, lcQ_none, lcQ_some, fhouse_stepped, n]
  have a2 : ∀ h, Ev.call T C (k + 2) 17498617444662044503160818 [.d d, .d .none, .d .none] h = .exc HO (.d .none) h := fun h => by rw [rn_call (show T 17498617444662044503160818 = some fsessions_for from rfl) rfl]; simp only [rn_bd_ok, rn_bd_exc, rn_bd_stuck, rn_opt_some, rn_opt_none, rn_bnd_ap, rn_ret_ap, rn_stuck_ap, rn_lift_ap, rn_guardH_ap, rn_guard_ap, rn_ite_ap, rn_e_var, rn_e_cst, rn_e_lit, rn_e_bin, rn_e_not, rn_e_cmp, rn_e_cmp2, rn_e_isc, rn_e_and, rn_e_or, rn_e_ite, rn_e_call, rn_e_bl, rn_e_isi, rn_e_mtc, rn_e_ix, rn_e_sl, rn_e_tup, rn_e_lst, rn_e_new, rn_es_nil, rn_es_cons, rn_eo_no, rn_eo_some, rn_s_expr, rn_s_set, rn_s_sett, rn_s_ret, rn_s_retN, rn_s_ifs, rn_s_raise, rn_s_brk, rn_s_cont, rn_s_pass, rn_ss_nil, rn_ss_cons, rn_flK_nxt, rn_flK_ret, rn_flK_brk, rn_flK_cont, rn_defK_ret, rn_defK_nxt, rn_bd_ite, rn_tr_bool, rn_tr_int, rn_tr_tup, rn_tr_list, rn_tr_none, rn_deref, rn_lt_int, rn_le_int, rn_gt_int, rn_ge_int, rn_add_int, rn_sub_int, rn_add_tup, rn_add_list, rn_len_tup, rn_len_list, rn_max_tup, rn_max_list, rn_min_tup, rn_min_list, rn_max2, rn_min2, rn_tuple_list, rn_tuple_tup, rn_list_scr, rn_int_int, rn_abs_int, rn_sorted_tup, rn_sorted_list, rn_all_list, rn_isi, rn_par2, rn_while, rn_eq, rn_ne, rn_in_tup, rn_notin_tup, rn_sl_tup, rn_near_int, rn_near_str, rn_eqv_int, rn_eqv_str, rn_its_tup, rn_rng1, rn_rng2, rn_lc, rn_ts_nil, rn_ts_cons, rn_for, rn_setix, rn_e_dnew, rn_e_demp, rn_e_ditems, rn_e_sset, rn_e_lset, rn_e_dcopy, rn_newDic, rn_key_str, rn_key_int, rn_dicAt_d, rn_isRef, rn_e_mt, rn_e_thk, rn_e_badd, rn_e_neg, rn_zip, rn_mt_split, rn_mt_join, rn_mt_count, rn_mtOk_s1, rn_mtOk_s2, rn_mtOk_s3, rn_sl_list, rn_near_str2, rn_near_int2, rn_near_bool, rn_eqv_bool, rn_any_list, rn_in_list, rn_notin_list, rn_e_rev, rn_lc2, rn_enum, rn_it_cell, rn_par3, rn_app, rn_list_tup, rn_list_list, rn_ty_str, rn_ty_int, rn_ty_bool, rn_ty_tup, rn_ty_list, rn_ty_none, rn_tix0, rn_tix1, rn_tix2, rn_tix3, rn_tix4, rn_tix5, rn_tix6, rn_lix0, rn_lix1, rn_lix2, rn_lix3, rn_lix4, rn_lix5, rn_lix6, Ev.start, wipe, List.getElem?_cons_zero, List.getElem?_cons_succ, List.getElem?_nil, Option.bind_some, Option.bind_none, Option.map_some, Option.map_none, id, List.set_cons_succ, List.set_cons_zero, if_true, if_false, Bool.not_true, Bool.not_false, Bool.false_eq_true, List.map_cons, List.map_nil, List.length_cons, List.length_nil, List.replicate, List.cons_append, List.nil_append, Nat.reduceSub, Nat.reduceAdd, decide_true, decide_false, Option.getD_some, beq_self_eq_true, Ev.T.store, Ev.Ts.stores, lcE, allD, mkTup, reduceIte, Bool.true_eq_false, Bool.and_true, Bool.true_and, Bool.and_false, Bool.false_and, Bool.or_true, Bool.true_or, Bool.or_false, Bool.false_or, LIM, Nat.reduceLeDiff, Nat.zero_le, List.any_cons, List.any_nil, List.all_cons, List.all_nil, rn_bd_bd, okk_ok, forQ_nxt, forQ_cont, forQ_brk, forQ_ret, lcQ_none, lcQ_some, fsessions_for, n]
  have a3 : ∀ h, Ev.call T C (k + 2) 15848168803320629668133349 [.d d, .d .none] h = .exc HO (.d .none) h := fun h => by rw [rn_call (show T 15848168803320629668133349 = some fhouse_course from rfl) rfl]; simp only [rn_bd_ok, rn_bd_exc, rn_bd_stuck, rn_opt_some, rn_opt_none, rn_bnd_ap, rn_ret_ap, rn_stuck_ap, rn_lift_ap, rn_guardH_ap, rn_guard_ap, rn_ite_ap, rn_e_var, rn_e_cst, rn_e_lit, rn_e_bin, rn_e_not, rn_e_cmp, rn_e_cmp2, rn_e_isc, rn_e_and, rn_e_or, rn_e_ite, rn_e_call, rn_e_bl, rn_e_isi, rn_e_mtc, rn_e_ix, rn_e_sl, rn_e_tup, rn_e_lst, rn_e_new, rn_es_nil, rn_es_cons, rn_eo_no, rn_eo_some, rn_s_expr, rn_s_set, rn_s_sett, rn_s_ret, rn_s_retN, rn_s_ifs, rn_s_raise, rn_s_brk, rn_s_cont, rn_s_pass, rn_ss_nil, rn_ss_cons, rn_flK_nxt, rn_flK_ret, rn_flK_brk, rn_flK_cont, rn_defK_ret, rn_defK_nxt, rn_bd_ite, rn_tr_bool, rn_tr_int, rn_tr_tup, rn_tr_list, rn_tr_none, rn_deref, rn_lt_int, rn_le_int, rn_gt_int, rn_ge_int, rn_add_int, rn_sub_int, rn_add_tup, rn_add_list, rn_len_tup, rn_len_list, rn_max_tup, rn_max_list, rn_min_tup, rn_min_list, rn_max2, rn_min2, rn_tuple_list, rn_tuple_tup, rn_list_scr, rn_int_int, rn_abs_int, rn_sorted_tup, rn_sorted_list, rn_all_list, rn_isi, rn_par2, rn_while, rn_eq, rn_ne, rn_in_tup, rn_notin_tup, rn_sl_tup, rn_near_int, rn_near_str, rn_eqv_int, rn_eqv_str, rn_its_tup, rn_rng1, rn_rng2, rn_lc, rn_ts_nil, rn_ts_cons, rn_for, rn_setix, rn_e_dnew, rn_e_demp, rn_e_ditems, rn_e_sset, rn_e_lset, rn_e_dcopy, rn_newDic, rn_key_str, rn_key_int, rn_dicAt_d, rn_isRef, rn_e_mt, rn_e_thk, rn_e_badd, rn_e_neg, rn_zip, rn_mt_split, rn_mt_join, rn_mt_count, rn_mtOk_s1, rn_mtOk_s2, rn_mtOk_s3, rn_sl_list, rn_near_str2, rn_near_int2, rn_near_bool, rn_eqv_bool, rn_any_list, rn_in_list, rn_notin_list, rn_e_rev, rn_lc2, rn_enum, rn_it_cell, rn_par3, rn_app, rn_list_tup, rn_list_list, rn_ty_str, rn_ty_int, rn_ty_bool, rn_ty_tup, rn_ty_list, rn_ty_none, rn_tix0, rn_tix1, rn_tix2, rn_tix3, rn_tix4, rn_tix5, rn_tix6, rn_lix0, rn_lix1, rn_lix2, rn_lix3, rn_lix4, rn_lix5, rn_lix6, Ev.start, wipe, List.getElem?_cons_zero, List.getElem?_cons_succ, List.getElem?_nil, Option.bind_some, Option.bind_none, Option.map_some, Option.map_none, id, List.set_cons_succ, List.set_cons_zero, if_true, if_false, Bool.not_true, Bool.not_false, Bool.false_eq_true, List.map_cons, List.map_nil, List.length_cons, List.length_nil, List.replicate, List.cons_append, List.nil_append, Nat.reduceSub, Nat.reduceAdd, decide_true, decide_false, Option.getD_some, beq_self_eq_true, Ev.T.store, Ev.Ts.stores, lcE, allD, mkTup, reduceIte, Bool.true_eq_false, Bool.and_true, Bool.true_and, Bool.and_false, Bool.false_and, Bool.or_true, Bool.true_or, Bool.or_false, Bool.false_or, LIM, Nat.reduceLeDiff, Nat.zero_le, List.any_cons, List.any_nil, List.all_cons, List.all_nil, rn_bd_bd, okk_ok, forQ_nxt, forQ_cont, forQ_brk, forQ_ret, lcQ_none, lcQ_some, fhouse_course, n]
  have a4 : ∀ h, Ev.call T C (k + 2) 514016528561390 [.d d, .d .none] h = .exc HO (.d .none) h := fun h => by rw [rn_call (show T 514016528561390 = some ftold_in from rfl) rfl]; simp only [rn_bd_ok, rn_bd_exc, rn_bd_stuck, rn_opt_some, rn_opt_none, rn_bnd_ap, rn_ret_ap, rn_stuck_ap, rn_lift_ap, rn_guardH_ap, rn_guard_ap, rn_ite_ap, rn_e_var, rn_e_cst, rn_e_lit, rn_e_bin, rn_e_not, rn_e_cmp, rn_e_cmp2, rn_e_isc, rn_e_and, rn_e_or, rn_e_ite, rn_e_call, rn_e_bl, rn_e_isi, rn_e_mtc, rn_e_ix, rn_e_sl, rn_e_tup, rn_e_lst, rn_e_new, rn_es_nil, rn_es_cons, rn_eo_no, rn_eo_some, rn_s_expr, rn_s_set, rn_s_sett, rn_s_ret, rn_s_retN, rn_s_ifs, rn_s_raise, rn_s_brk, rn_s_cont, rn_s_pass, rn_ss_nil, rn_ss_cons, rn_flK_nxt, rn_flK_ret, rn_flK_brk, rn_flK_cont, rn_defK_ret, rn_defK_nxt, rn_bd_ite, rn_tr_bool, rn_tr_int, rn_tr_tup, rn_tr_list, rn_tr_none, rn_deref, rn_lt_int, rn_le_int, rn_gt_int, rn_ge_int, rn_add_int, rn_sub_int, rn_add_tup, rn_add_list, rn_len_tup, rn_len_list, rn_max_tup, rn_max_list, rn_min_tup, rn_min_list, rn_max2, rn_min2, rn_tuple_list, rn_tuple_tup, rn_list_scr, rn_int_int, rn_abs_int, rn_sorted_tup, rn_sorted_list, rn_all_list, rn_isi, rn_par2, rn_while, rn_eq, rn_ne, rn_in_tup, rn_notin_tup, rn_sl_tup, rn_near_int, rn_near_str, rn_eqv_int, rn_eqv_str, rn_its_tup, rn_rng1, rn_rng2, rn_lc, rn_ts_nil, rn_ts_cons, rn_for, rn_setix, rn_e_dnew, rn_e_demp, rn_e_ditems, rn_e_sset, rn_e_lset, rn_e_dcopy, rn_newDic, rn_key_str, rn_key_int, rn_dicAt_d, rn_isRef, rn_e_mt, rn_e_thk, rn_e_badd, rn_e_neg, rn_zip, rn_mt_split, rn_mt_join, rn_mt_count, rn_mtOk_s1, rn_mtOk_s2, rn_mtOk_s3, rn_sl_list, rn_near_str2, rn_near_int2, rn_near_bool, rn_eqv_bool, rn_any_list, rn_in_list, rn_notin_list, rn_e_rev, rn_lc2, rn_enum, rn_it_cell, rn_par3, rn_app, rn_list_tup, rn_list_list, rn_ty_str, rn_ty_int, rn_ty_bool, rn_ty_tup, rn_ty_list, rn_ty_none, rn_tix0, rn_tix1, rn_tix2, rn_tix3, rn_tix4, rn_tix5, rn_tix6, rn_lix0, rn_lix1, rn_lix2, rn_lix3, rn_lix4, rn_lix5, rn_lix6, Ev.start, wipe, List.getElem?_cons_zero, List.getElem?_cons_succ, List.getElem?_nil, Option.bind_some, Option.bind_none, Option.map_some, Option.map_none, id, List.set_cons_succ, List.set_cons_zero, if_true, if_false, Bool.not_true, Bool.not_false, Bool.false_eq_true, List.map_cons, List.map_nil, List.length_cons, List.length_nil, List.replicate, List.cons_append, List.nil_append, Nat.reduceSub, Nat.reduceAdd, decide_true, decide_false, Option.getD_some, beq_self_eq_true, Ev.T.store, Ev.Ts.stores, lcE, allD, mkTup, reduceIte, Bool.true_eq_false, Bool.and_true, Bool.true_and, Bool.and_false, Bool.false_and, Bool.or_true, Bool.true_or, Bool.or_false, Bool.false_or, LIM, Nat.reduceLeDiff, Nat.zero_le, List.any_cons, List.any_nil, List.all_cons, List.all_nil, rn_bd_bd, okk_ok, forQ_nxt, forQ_cont, forQ_brk, forQ_ret, lcQ_none, lcQ_some, ftold_in, n]
  have a5 : ∀ h, Ev.call T C (k + 2) 57851518844925926 [.d d, .d .none] h = .exc HO (.d .none) h := fun h => by rw [rn_call (show T 57851518844925926 = some ffates_of from rfl) rfl]; simp only [rn_bd_ok, rn_bd_exc, rn_bd_stuck, rn_opt_some, rn_opt_none, rn_bnd_ap, rn_ret_ap, rn_stuck_ap, rn_lift_ap, rn_guardH_ap, rn_guard_ap, rn_ite_ap, rn_e_var, rn_e_cst, rn_e_lit, rn_e_bin, rn_e_not, rn_e_cmp, rn_e_cmp2, rn_e_isc, rn_e_and, rn_e_or, rn_e_ite, rn_e_call, rn_e_bl, rn_e_isi, rn_e_mtc, rn_e_ix, rn_e_sl, rn_e_tup, rn_e_lst, rn_e_new, rn_es_nil, rn_es_cons, rn_eo_no, rn_eo_some, rn_s_expr, rn_s_set, rn_s_sett, rn_s_ret, rn_s_retN, rn_s_ifs, rn_s_raise, rn_s_brk, rn_s_cont, rn_s_pass, rn_ss_nil, rn_ss_cons, rn_flK_nxt, rn_flK_ret, rn_flK_brk, rn_flK_cont, rn_defK_ret, rn_defK_nxt, rn_bd_ite, rn_tr_bool, rn_tr_int, rn_tr_tup, rn_tr_list, rn_tr_none, rn_deref, rn_lt_int, rn_le_int, rn_gt_int, rn_ge_int, rn_add_int, rn_sub_int, rn_add_tup, rn_add_list, rn_len_tup, rn_len_list, rn_max_tup, rn_max_list, rn_min_tup, rn_min_list, rn_max2, rn_min2, rn_tuple_list, rn_tuple_tup, rn_list_scr, rn_int_int, rn_abs_int, rn_sorted_tup, rn_sorted_list, rn_all_list, rn_isi, rn_par2, rn_while, rn_eq, rn_ne, rn_in_tup, rn_notin_tup, rn_sl_tup, rn_near_int, rn_near_str, rn_eqv_int, rn_eqv_str, rn_its_tup, rn_rng1, rn_rng2, rn_lc, rn_ts_nil, rn_ts_cons, rn_for, rn_setix, rn_e_dnew, rn_e_demp, rn_e_ditems, rn_e_sset, rn_e_lset, rn_e_dcopy, rn_newDic, rn_key_str, rn_key_int, rn_dicAt_d, rn_isRef, rn_e_mt, rn_e_thk, rn_e_badd, rn_e_neg, rn_zip, rn_mt_split, rn_mt_join, rn_mt_count, rn_mtOk_s1, rn_mtOk_s2, rn_mtOk_s3, rn_sl_list, rn_near_str2, rn_near_int2, rn_near_bool, rn_eqv_bool, rn_any_list, rn_in_list, rn_notin_list, rn_e_rev, rn_lc2, rn_enum, rn_it_cell, rn_par3, rn_app, rn_list_tup, rn_list_list, rn_ty_str, rn_ty_int, rn_ty_bool, rn_ty_tup, rn_ty_list, rn_ty_none, rn_tix0, rn_tix1, rn_tix2, rn_tix3, rn_tix4, rn_tix5, rn_tix6, rn_lix0, rn_lix1, rn_lix2, rn_lix3, rn_lix4, rn_lix5, rn_lix6, Ev.start, wipe, List.getElem?_cons_zero, List.getElem?_cons_succ, List.getElem?_nil, Option.bind_some, Option.bind_none, Option.map_some, Option.map_none, id, List.set_cons_succ, List.set_cons_zero, if_true, if_false, Bool.not_true, Bool.not_false, Bool.false_eq_true, List.map_cons, List.map_nil, List.length_cons, List.length_nil, List.replicate, List.cons_append, List.nil_append, Nat.reduceSub, Nat.reduceAdd, decide_true, decide_false, Option.getD_some, beq_self_eq_true, Ev.T.store, Ev.Ts.stores, lcE, allD, mkTup, reduceIte, Bool.true_eq_false, Bool.and_true, Bool.true_and, Bool.and_false, Bool.false_and, Bool.or_true, Bool.true_or, Bool.or_false, Bool.false_or, LIM, Nat.reduceLeDiff, Nat.zero_le, List.any_cons, List.any_nil, List.all_cons, List.all_nil, rn_bd_bd, okk_ok, forQ_nxt, forQ_cont, forQ_brk, forQ_ret, lcQ_none, lcQ_some, ffates_of, n]
  have a6 : ∀ h, Ev.call T C (k + 2) 121323428360850637568627 [.d d, .d .none, .d .none] h = .exc HO (.d .none) h := fun h => by rw [rn_call (show T 121323428360850637568627 = some ffate_counts from rfl) rfl]; simp only [rn_bd_ok, rn_bd_exc, rn_bd_stuck, rn_opt_some, rn_opt_none, rn_bnd_ap, rn_ret_ap, rn_stuck_ap, rn_lift_ap, rn_guardH_ap, rn_guard_ap, rn_ite_ap, rn_e_var, rn_e_cst, rn_e_lit, rn_e_bin, rn_e_not, rn_e_cmp, rn_e_cmp2, rn_e_isc, rn_e_and, rn_e_or, rn_e_ite, rn_e_call, rn_e_bl, rn_e_isi, rn_e_mtc, rn_e_ix, rn_e_sl, rn_e_tup, rn_e_lst, rn_e_new, rn_es_nil, rn_es_cons, rn_eo_no, rn_eo_some, rn_s_expr, rn_s_set, rn_s_sett, rn_s_ret, rn_s_retN, rn_s_ifs, rn_s_raise, rn_s_brk, rn_s_cont, rn_s_pass, rn_ss_nil, rn_ss_cons, rn_flK_nxt, rn_flK_ret, rn_flK_brk, rn_flK_cont, rn_defK_ret, rn_defK_nxt, rn_bd_ite, rn_tr_bool, rn_tr_int, rn_tr_tup, rn_tr_list, rn_tr_none, rn_deref, rn_lt_int, rn_le_int, rn_gt_int, rn_ge_int, rn_add_int, rn_sub_int, rn_add_tup, rn_add_list, rn_len_tup, rn_len_list, rn_max_tup, rn_max_list, rn_min_tup, rn_min_list, rn_max2, rn_min2, rn_tuple_list, rn_tuple_tup, rn_list_scr, rn_int_int, rn_abs_int, rn_sorted_tup, rn_sorted_list, rn_all_list, rn_isi, rn_par2, rn_while, rn_eq, rn_ne, rn_in_tup, rn_notin_tup, rn_sl_tup, rn_near_int, rn_near_str, rn_eqv_int, rn_eqv_str, rn_its_tup, rn_rng1, rn_rng2, rn_lc, rn_ts_nil, rn_ts_cons, rn_for, rn_setix, rn_e_dnew, rn_e_demp, rn_e_ditems, rn_e_sset, rn_e_lset, rn_e_dcopy, rn_newDic, rn_key_str, rn_key_int, rn_dicAt_d, rn_isRef, rn_e_mt, rn_e_thk, rn_e_badd, rn_e_neg, rn_zip, rn_mt_split, rn_mt_join, rn_mt_count, rn_mtOk_s1, rn_mtOk_s2, rn_mtOk_s3, rn_sl_list, rn_near_str2, rn_near_int2, rn_near_bool, rn_eqv_bool, rn_any_list, rn_in_list, rn_notin_list, rn_e_rev, rn_lc2, rn_enum, rn_it_cell, rn_par3, rn_app, rn_list_tup, rn_list_list, rn_ty_str, rn_ty_int, rn_ty_bool, rn_ty_tup, rn_ty_list, rn_ty_none, rn_tix0, rn_tix1, rn_tix2, rn_tix3, rn_tix4, rn_tix5, rn_tix6, rn_lix0, rn_lix1, rn_lix2, rn_lix3, rn_lix4, rn_lix5, rn_lix6, Ev.start, wipe, List.getElem?_cons_zero, List.getElem?_cons_succ, List.getElem?_nil, Option.bind_some, Option.bind_none, Option.map_some, Option.map_none, id, List.set_cons_succ, List.set_cons_zero, if_true, if_false, Bool.not_true, Bool.not_false, Bool.false_eq_true, List.map_cons, List.map_nil, List.length_cons, List.length_nil, List.replicate, List.cons_append, List.nil_append, Nat.reduceSub, Nat.reduceAdd, decide_true, decide_false, Option.getD_some, beq_self_eq_true, Ev.T.store, Ev.Ts.stores, lcE, allD, mkTup, reduceIte, Bool.true_eq_false, Bool.and_true, Bool.true_and, Bool.and_false, Bool.false_and, Bool.or_true, Bool.true_or, Bool.or_false, Bool.false_or, LIM, Nat.reduceLeDiff, Nat.zero_le, List.any_cons, List.any_nil, List.all_cons, List.all_nil, rn_bd_bd, okk_ok, forQ_nxt, forQ_cont, forQ_brk, forQ_ret, lcQ_none, lcQ_some, ffate_counts, n]
  have a7 : ∀ h, Ev.call T C (k + 2) 1003457112910449080301 [.d d, .d .none, .d .none] h = .exc HO (.d .none) h := fun h => by rw [rn_call (show T 1003457112910449080301 = some fleast_room from rfl) rfl]; simp only [rn_bd_ok, rn_bd_exc, rn_bd_stuck, rn_opt_some, rn_opt_none, rn_bnd_ap, rn_ret_ap, rn_stuck_ap, rn_lift_ap, rn_guardH_ap, rn_guard_ap, rn_ite_ap, rn_e_var, rn_e_cst, rn_e_lit, rn_e_bin, rn_e_not, rn_e_cmp, rn_e_cmp2, rn_e_isc, rn_e_and, rn_e_or, rn_e_ite, rn_e_call, rn_e_bl, rn_e_isi, rn_e_mtc, rn_e_ix, rn_e_sl, rn_e_tup, rn_e_lst, rn_e_new, rn_es_nil, rn_es_cons, rn_eo_no, rn_eo_some, rn_s_expr, rn_s_set, rn_s_sett, rn_s_ret, rn_s_retN, rn_s_ifs, rn_s_raise, rn_s_brk, rn_s_cont, rn_s_pass, rn_ss_nil, rn_ss_cons, rn_flK_nxt, rn_flK_ret, rn_flK_brk, rn_flK_cont, rn_defK_ret, rn_defK_nxt, rn_bd_ite, rn_tr_bool, rn_tr_int, rn_tr_tup, rn_tr_list, rn_tr_none, rn_deref, rn_lt_int, rn_le_int, rn_gt_int, rn_ge_int, rn_add_int, rn_sub_int, rn_add_tup, rn_add_list, rn_len_tup, rn_len_list, rn_max_tup, rn_max_list, rn_min_tup, rn_min_list, rn_max2, rn_min2, rn_tuple_list, rn_tuple_tup, rn_list_scr, rn_int_int, rn_abs_int, rn_sorted_tup, rn_sorted_list, rn_all_list, rn_isi, rn_par2, rn_while, rn_eq, rn_ne, rn_in_tup, rn_notin_tup, rn_sl_tup, rn_near_int, rn_near_str, rn_eqv_int, rn_eqv_str, rn_its_tup, rn_rng1, rn_rng2, rn_lc, rn_ts_nil, rn_ts_cons, rn_for, rn_setix, rn_e_dnew, rn_e_demp, rn_e_ditems, rn_e_sset, rn_e_lset, rn_e_dcopy, rn_newDic, rn_key_str, rn_key_int, rn_dicAt_d, rn_isRef, rn_e_mt, rn_e_thk, rn_e_badd, rn_e_neg, rn_zip, rn_mt_split, rn_mt_join, rn_mt_count, rn_mtOk_s1, rn_mtOk_s2, rn_mtOk_s3, rn_sl_list, rn_near_str2, rn_near_int2, rn_near_bool, rn_eqv_bool, rn_any_list, rn_in_list, rn_notin_list, rn_e_rev, rn_lc2, rn_enum, rn_it_cell, rn_par3, rn_app, rn_list_tup, rn_list_list, rn_ty_str, rn_ty_int, rn_ty_bool, rn_ty_tup, rn_ty_list, rn_ty_none, rn_tix0, rn_tix1, rn_tix2, rn_tix3, rn_tix4, rn_tix5, rn_tix6, rn_lix0, rn_lix1, rn_lix2, rn_lix3, rn_lix4, rn_lix5, rn_lix6, Ev.start, wipe, List.getElem?_cons_zero, List.getElem?_cons_succ, List.getElem?_nil, Option.bind_some, Option.bind_none, Option.map_some, Option.map_none, id, List.set_cons_succ, List.set_cons_zero, if_true, if_false, Bool.not_true, Bool.not_false, Bool.false_eq_true, List.map_cons, List.map_nil, List.length_cons, List.length_nil, List.replicate, List.cons_append, List.nil_append, Nat.reduceSub, Nat.reduceAdd, decide_true, decide_false, Option.getD_some, beq_self_eq_true, Ev.T.store, Ev.Ts.stores, lcE, allD, mkTup, reduceIte, Bool.true_eq_false, Bool.and_true, Bool.true_and, Bool.and_false, Bool.false_and, Bool.or_true, Bool.true_or, Bool.or_false, Bool.false_or, LIM, Nat.reduceLeDiff, Nat.zero_le, List.any_cons, List.any_nil, List.all_cons, List.all_nil, rn_bd_bd, okk_ok, forQ_nxt, forQ_cont, forQ_brk, forQ_ret, lcQ_none, lcQ_some, fleast_room, n]
  have a8 : ∀ h, Ev.call T C (k + 2) 1003457112910434235120 [.d d, .d .none, .d .none] h = .exc HO (.d .none) h := fun h => by rw [rn_call (show T 1003457112910434235120 = some fleast_keep from rfl) rfl]; simp only [rn_bd_ok, rn_bd_exc, rn_bd_stuck, rn_opt_some, rn_opt_none, rn_bnd_ap, rn_ret_ap, rn_stuck_ap, rn_lift_ap, rn_guardH_ap, rn_guard_ap, rn_ite_ap, rn_e_var, rn_e_cst, rn_e_lit, rn_e_bin, rn_e_not, rn_e_cmp, rn_e_cmp2, rn_e_isc, rn_e_and, rn_e_or, rn_e_ite, rn_e_call, rn_e_bl, rn_e_isi, rn_e_mtc, rn_e_ix, rn_e_sl, rn_e_tup, rn_e_lst, rn_e_new, rn_es_nil, rn_es_cons, rn_eo_no, rn_eo_some, rn_s_expr, rn_s_set, rn_s_sett, rn_s_ret, rn_s_retN, rn_s_ifs, rn_s_raise, rn_s_brk, rn_s_cont, rn_s_pass, rn_ss_nil, rn_ss_cons, rn_flK_nxt, rn_flK_ret, rn_flK_brk, rn_flK_cont, rn_defK_ret, rn_defK_nxt, rn_bd_ite, rn_tr_bool, rn_tr_int, rn_tr_tup, rn_tr_list, rn_tr_none, rn_deref, rn_lt_int, rn_le_int, rn_gt_int, rn_ge_int, rn_add_int, rn_sub_int, rn_add_tup, rn_add_list, rn_len_tup, rn_len_list, rn_max_tup, rn_max_list, rn_min_tup, rn_min_list, rn_max2, rn_min2, rn_tuple_list, rn_tuple_tup, rn_list_scr, rn_int_int, rn_abs_int, rn_sorted_tup, rn_sorted_list, rn_all_list, rn_isi, rn_par2, rn_while, rn_eq, rn_ne, rn_in_tup, rn_notin_tup, rn_sl_tup, rn_near_int, rn_near_str, rn_eqv_int, rn_eqv_str, rn_its_tup, rn_rng1, rn_rng2, rn_lc, rn_ts_nil, rn_ts_cons, rn_for, rn_setix, rn_e_dnew, rn_e_demp, rn_e_ditems, rn_e_sset, rn_e_lset, rn_e_dcopy, rn_newDic, rn_key_str, rn_key_int, rn_dicAt_d, rn_isRef, rn_e_mt, rn_e_thk, rn_e_badd, rn_e_neg, rn_zip, rn_mt_split, rn_mt_join, rn_mt_count, rn_mtOk_s1, rn_mtOk_s2, rn_mtOk_s3, rn_sl_list, rn_near_str2, rn_near_int2, rn_near_bool, rn_eqv_bool, rn_any_list, rn_in_list, rn_notin_list, rn_e_rev, rn_lc2, rn_enum, rn_it_cell, rn_par3, rn_app, rn_list_tup, rn_list_list, rn_ty_str, rn_ty_int, rn_ty_bool, rn_ty_tup, rn_ty_list, rn_ty_none, rn_tix0, rn_tix1, rn_tix2, rn_tix3, rn_tix4, rn_tix5, rn_tix6, rn_lix0, rn_lix1, rn_lix2, rn_lix3, rn_lix4, rn_lix5, rn_lix6, Ev.start, wipe, List.getElem?_cons_zero, List.getElem?_cons_succ, List.getElem?_nil, Option.bind_some, Option.bind_none, Option.map_some, Option.map_none, id, List.set_cons_succ, List.set_cons_zero, if_true, if_false, Bool.not_true, Bool.not_false, Bool.false_eq_true, List.map_cons, List.map_nil, List.length_cons, List.length_nil, List.replicate, List.cons_append, List.nil_append, Nat.reduceSub, Nat.reduceAdd, decide_true, decide_false, Option.getD_some, beq_self_eq_true, Ev.T.store, Ev.Ts.stores, lcE, allD, mkTup, reduceIte, Bool.true_eq_false, Bool.and_true, Bool.true_and, Bool.and_false, Bool.false_and, Bool.or_true, Bool.true_or, Bool.or_false, Bool.false_or, LIM, Nat.reduceLeDiff, Nat.zero_le, List.any_cons, List.any_nil, List.all_cons, List.all_nil, rn_bd_bd, okk_ok, forQ_nxt, forQ_cont, forQ_brk, forQ_ret, lcQ_none, lcQ_some, fleast_keep, n]
  have a9 : ∀ h, Ev.call T C (k + 2) 59618812785162725 [.d d] h = .ok (.d (.bool false)) h := fun h => by rw [rn_call (show T 59618812785162725 = some fis_house from rfl) rfl]; simp only [rn_bd_ok, rn_bd_exc, rn_bd_stuck, rn_opt_some, rn_opt_none, rn_bnd_ap, rn_ret_ap, rn_stuck_ap, rn_lift_ap, rn_guardH_ap, rn_guard_ap, rn_ite_ap, rn_e_var, rn_e_cst, rn_e_lit, rn_e_bin, rn_e_not, rn_e_cmp, rn_e_cmp2, rn_e_isc, rn_e_and, rn_e_or, rn_e_ite, rn_e_call, rn_e_bl, rn_e_isi, rn_e_mtc, rn_e_ix, rn_e_sl, rn_e_tup, rn_e_lst, rn_e_new, rn_es_nil, rn_es_cons, rn_eo_no, rn_eo_some, rn_s_expr, rn_s_set, rn_s_sett, rn_s_ret, rn_s_retN, rn_s_ifs, rn_s_raise, rn_s_brk, rn_s_cont, rn_s_pass, rn_ss_nil, rn_ss_cons, rn_flK_nxt, rn_flK_ret, rn_flK_brk, rn_flK_cont, rn_defK_ret, rn_defK_nxt, rn_bd_ite, rn_tr_bool, rn_tr_int, rn_tr_tup, rn_tr_list, rn_tr_none, rn_deref, rn_lt_int, rn_le_int, rn_gt_int, rn_ge_int, rn_add_int, rn_sub_int, rn_add_tup, rn_add_list, rn_len_tup, rn_len_list, rn_max_tup, rn_max_list, rn_min_tup, rn_min_list, rn_max2, rn_min2, rn_tuple_list, rn_tuple_tup, rn_list_scr, rn_int_int, rn_abs_int, rn_sorted_tup, rn_sorted_list, rn_all_list, rn_isi, rn_par2, rn_while, rn_eq, rn_ne, rn_in_tup, rn_notin_tup, rn_sl_tup, rn_near_int, rn_near_str, rn_eqv_int, rn_eqv_str, rn_its_tup, rn_rng1, rn_rng2, rn_lc, rn_ts_nil, rn_ts_cons, rn_for, rn_setix, rn_e_dnew, rn_e_demp, rn_e_ditems, rn_e_sset, rn_e_lset, rn_e_dcopy, rn_newDic, rn_key_str, rn_key_int, rn_dicAt_d, rn_isRef, rn_e_mt, rn_e_thk, rn_e_badd, rn_e_neg, rn_zip, rn_mt_split, rn_mt_join, rn_mt_count, rn_mtOk_s1, rn_mtOk_s2, rn_mtOk_s3, rn_sl_list, rn_near_str2, rn_near_int2, rn_near_bool, rn_eqv_bool, rn_any_list, rn_in_list, rn_notin_list, rn_e_rev, rn_lc2, rn_enum, rn_it_cell, rn_par3, rn_app, rn_list_tup, rn_list_list, rn_ty_str, rn_ty_int, rn_ty_bool, rn_ty_tup, rn_ty_list, rn_ty_none, rn_tix0, rn_tix1, rn_tix2, rn_tix3, rn_tix4, rn_tix5, rn_tix6, rn_lix0, rn_lix1, rn_lix2, rn_lix3, rn_lix4, rn_lix5, rn_lix6, Ev.start, wipe, List.getElem?_cons_zero, List.getElem?_cons_succ, List.getElem?_nil, Option.bind_some, Option.bind_none, Option.map_some, Option.map_none, id, List.set_cons_succ, List.set_cons_zero, if_true, if_false, Bool.not_true, Bool.not_false, Bool.false_eq_true, List.map_cons, List.map_nil, List.length_cons, List.length_nil, List.replicate, List.cons_append, List.nil_append, Nat.reduceSub, Nat.reduceAdd, decide_true, decide_false, Option.getD_some, beq_self_eq_true, Ev.T.store, Ev.Ts.stores, lcE, allD, mkTup, reduceIte, Bool.true_eq_false, Bool.and_true, Bool.true_and, Bool.and_false, Bool.false_and, Bool.or_true, Bool.true_or, Bool.or_false, Bool.false_or, LIM, Nat.reduceLeDiff, Nat.zero_le, List.any_cons, List.any_nil, List.all_cons, List.all_nil, rn_bd_bd, okk_ok, forQ_nxt, forQ_cont, forQ_brk, forQ_ret, lcQ_none, lcQ_some, fis_house, H2]
  rw [rn_call (show T 63703070597810903631746427711976698596 = some f_law_house_refused from rfl) rfl]
  have s1 : ∀ e, evE ⟨Ev.call T C (k + 2), C, callT T⟩ e [some (.d d), none] h = .ok (.d (.str [104, 111, 117, 115, 101])) h → evS ⟨Ev.call T C (k + 2), C, callT T⟩ (.set 1 (.new (.cons e .nil))) [some (.d d), none] h = .ok (.nxt [some (.d d), some (.ref h.length)]) (h ++ [.lst [.d (.str [104, 111, 117, 115, 101])]]) := fun e he => by simp only [rn_bd_ok, rn_bd_exc, rn_bd_stuck, rn_opt_some, rn_opt_none, rn_bnd_ap, rn_ret_ap, rn_stuck_ap, rn_lift_ap, rn_guardH_ap, rn_guard_ap, rn_ite_ap, rn_e_var, rn_e_cst, rn_e_lit, rn_e_bin, rn_e_not, rn_e_cmp, rn_e_cmp2, rn_e_isc, rn_e_and, rn_e_or, rn_e_ite, rn_e_call, rn_e_bl, rn_e_isi, rn_e_mtc, rn_e_ix, rn_e_sl, rn_e_tup, rn_e_lst, rn_e_new, rn_es_nil, rn_es_cons, rn_eo_no, rn_eo_some, rn_s_expr, rn_s_set, rn_s_sett, rn_s_ret, rn_s_retN, rn_s_ifs, rn_s_raise, rn_s_brk, rn_s_cont, rn_s_pass, rn_ss_nil, rn_ss_cons, rn_flK_nxt, rn_flK_ret, rn_flK_brk, rn_flK_cont, rn_defK_ret, rn_defK_nxt, rn_bd_ite, rn_tr_bool, rn_tr_int, rn_tr_tup, rn_tr_list, rn_tr_none, rn_deref, rn_lt_int, rn_le_int, rn_gt_int, rn_ge_int, rn_add_int, rn_sub_int, rn_add_tup, rn_add_list, rn_len_tup, rn_len_list, rn_max_tup, rn_max_list, rn_min_tup, rn_min_list, rn_max2, rn_min2, rn_tuple_list, rn_tuple_tup, rn_list_scr, rn_int_int, rn_abs_int, rn_sorted_tup, rn_sorted_list, rn_all_list, rn_isi, rn_par2, rn_while, rn_eq, rn_ne, rn_in_tup, rn_notin_tup, rn_sl_tup, rn_near_int, rn_near_str, rn_eqv_int, rn_eqv_str, rn_its_tup, rn_rng1, rn_rng2, rn_lc, rn_ts_nil, rn_ts_cons, rn_for, rn_setix, rn_e_dnew, rn_e_demp, rn_e_ditems, rn_e_sset, rn_e_lset, rn_e_dcopy, rn_newDic, rn_key_str, rn_key_int, rn_dicAt_d, rn_isRef, rn_e_mt, rn_e_thk, rn_e_badd, rn_e_neg, rn_zip, rn_mt_split, rn_mt_join, rn_mt_count, rn_mtOk_s1, rn_mtOk_s2, rn_mtOk_s3, rn_sl_list, rn_near_str2, rn_near_int2, rn_near_bool, rn_eqv_bool, rn_any_list, rn_in_list, rn_notin_list, rn_e_rev, rn_lc2, rn_enum, rn_it_cell, rn_par3, rn_app, rn_list_tup, rn_list_list, rn_ty_str, rn_ty_int, rn_ty_bool, rn_ty_tup, rn_ty_list, rn_ty_none, rn_tix0, rn_tix1, rn_tix2, rn_tix3, rn_tix4, rn_tix5, rn_tix6, rn_lix0, rn_lix1, rn_lix2, rn_lix3, rn_lix4, rn_lix5, rn_lix6, Ev.start, wipe, List.getElem?_cons_zero, List.getElem?_cons_succ, List.getElem?_nil, Option.bind_some, Option.bind_none, Option.map_some, Option.map_none, id, List.set_cons_succ, List.set_cons_zero, if_true, if_false, Bool.not_true, Bool.not_false, Bool.false_eq_true, List.map_cons, List.map_nil, List.length_cons, List.length_nil, List.replicate, List.cons_append, List.nil_append, Nat.reduceSub, Nat.reduceAdd, decide_true, decide_false, Option.getD_some, beq_self_eq_true, Ev.T.store, Ev.Ts.stores, lcE, allD, mkTup, reduceIte, Bool.true_eq_false, Bool.and_true, Bool.true_and, Bool.and_false, Bool.false_and, Bool.or_true, Bool.true_or, Bool.or_false, Bool.false_or, LIM, Nat.reduceLeDiff, Nat.zero_le, List.any_cons, List.any_nil, List.all_cons, List.all_nil, rn_bd_bd, okk_ok, forQ_nxt, forQ_cont, forQ_brk, forQ_ret, lcQ_none, lcQ_some, he]
  have e0 : Ev.start f_law_house_refused.ns [PV.d d] = [some (.d d), none] := rfl
  rw [e0]
  unfold f_law_house_refused
  dsimp only
  rw [rn_seq_nxt (s1 _ (thk_exc (c := HO) (v := .d .none) rfl (by simp only [rn_bd_ok, rn_bd_exc, rn_bd_stuck, rn_opt_some, rn_opt_none, rn_bnd_ap, rn_ret_ap, rn_stuck_ap, rn_lift_ap, rn_guardH_ap, rn_guard_ap, rn_ite_ap, rn_e_var, rn_e_cst, rn_e_lit, rn_e_bin, rn_e_not, rn_e_cmp, rn_e_cmp2, rn_e_isc, rn_e_and, rn_e_or, rn_e_ite, rn_e_call, rn_e_bl, rn_e_isi, rn_e_mtc, rn_e_ix, rn_e_sl, rn_e_tup, rn_e_lst, rn_e_new, rn_es_nil, rn_es_cons, rn_eo_no, rn_eo_some, rn_s_expr, rn_s_set, rn_s_sett, rn_s_ret, rn_s_retN, rn_s_ifs, rn_s_raise, rn_s_brk, rn_s_cont, rn_s_pass, rn_ss_nil, rn_ss_cons, rn_flK_nxt, rn_flK_ret, rn_flK_brk, rn_flK_cont, rn_defK_ret, rn_defK_nxt, rn_bd_ite, rn_tr_bool, rn_tr_int, rn_tr_tup, rn_tr_list, rn_tr_none, rn_deref, rn_lt_int, rn_le_int, rn_gt_int, rn_ge_int, rn_add_int, rn_sub_int, rn_add_tup, rn_add_list, rn_len_tup, rn_len_list, rn_max_tup, rn_max_list, rn_min_tup, rn_min_list, rn_max2, rn_min2, rn_tuple_list, rn_tuple_tup, rn_list_scr, rn_int_int, rn_abs_int, rn_sorted_tup, rn_sorted_list, rn_all_list, rn_isi, rn_par2, rn_while, rn_eq, rn_ne, rn_in_tup, rn_notin_tup, rn_sl_tup, rn_near_int, rn_near_str, rn_eqv_int, rn_eqv_str, rn_its_tup, rn_rng1, rn_rng2, rn_lc, rn_ts_nil, rn_ts_cons, rn_for, rn_setix, rn_e_dnew, rn_e_demp, rn_e_ditems, rn_e_sset, rn_e_lset, rn_e_dcopy, rn_newDic, rn_key_str, rn_key_int, rn_dicAt_d, rn_isRef, rn_e_mt, rn_e_thk, rn_e_badd, rn_e_neg, rn_zip, rn_mt_split, rn_mt_join, rn_mt_count, rn_mtOk_s1, rn_mtOk_s2, rn_mtOk_s3, rn_sl_list, rn_near_str2, rn_near_int2, rn_near_bool, rn_eqv_bool, rn_any_list, rn_in_list, rn_notin_list, rn_e_rev, rn_lc2, rn_enum, rn_it_cell, rn_par3, rn_app, rn_list_tup, rn_list_list, rn_ty_str, rn_ty_int, rn_ty_bool, rn_ty_tup, rn_ty_list, rn_ty_none, rn_tix0, rn_tix1, rn_tix2, rn_tix3, rn_tix4, rn_tix5, rn_tix6, rn_lix0, rn_lix1, rn_lix2, rn_lix3, rn_lix4, rn_lix5, rn_lix6, Ev.start, wipe, List.getElem?_cons_zero, List.getElem?_cons_succ, List.getElem?_nil, Option.bind_some, Option.bind_none, Option.map_some, Option.map_none, id, List.set_cons_succ, List.set_cons_zero, if_true, if_false, Bool.not_true, Bool.not_false, Bool.false_eq_true, List.map_cons, List.map_nil, List.length_cons, List.length_nil, List.replicate, List.cons_append, List.nil_append, Nat.reduceSub, Nat.reduceAdd, decide_true, decide_false, Option.getD_some, beq_self_eq_true, Ev.T.store, Ev.Ts.stores, lcE, allD, mkTup, reduceIte, Bool.true_eq_false, Bool.and_true, Bool.true_and, Bool.and_false, Bool.false_and, Bool.or_true, Bool.true_or, Bool.or_false, Bool.false_or, LIM, Nat.reduceLeDiff, Nat.zero_le, List.any_cons, List.any_nil, List.all_cons, List.all_nil, rn_bd_bd, okk_ok, forQ_nxt, forQ_cont, forQ_brk, forQ_ret, lcQ_none, lcQ_some, a1]) rfl))]
  rw [app_step (by simp) fun h => thk_exc (c := HO) (v := .d .none) rfl (by simp only [rn_bd_ok, rn_bd_exc, rn_bd_stuck, rn_opt_some, rn_opt_none, rn_bnd_ap, rn_ret_ap, rn_stuck_ap, rn_lift_ap, rn_guardH_ap, rn_guard_ap, rn_ite_ap, rn_e_var, rn_e_cst, rn_e_lit, rn_e_bin, rn_e_not, rn_e_cmp, rn_e_cmp2, rn_e_isc, rn_e_and, rn_e_or, rn_e_ite, rn_e_call, rn_e_bl, rn_e_isi, rn_e_mtc, rn_e_ix, rn_e_sl, rn_e_tup, rn_e_lst, rn_e_new, rn_es_nil, rn_es_cons, rn_eo_no, rn_eo_some, rn_s_expr, rn_s_set, rn_s_sett, rn_s_ret, rn_s_retN, rn_s_ifs, rn_s_raise, rn_s_brk, rn_s_cont, rn_s_pass, rn_ss_nil, rn_ss_cons, rn_flK_nxt, rn_flK_ret, rn_flK_brk, rn_flK_cont, rn_defK_ret, rn_defK_nxt, rn_bd_ite, rn_tr_bool, rn_tr_int, rn_tr_tup, rn_tr_list, rn_tr_none, rn_deref, rn_lt_int, rn_le_int, rn_gt_int, rn_ge_int, rn_add_int, rn_sub_int, rn_add_tup, rn_add_list, rn_len_tup, rn_len_list, rn_max_tup, rn_max_list, rn_min_tup, rn_min_list, rn_max2, rn_min2, rn_tuple_list, rn_tuple_tup, rn_list_scr, rn_int_int, rn_abs_int, rn_sorted_tup, rn_sorted_list, rn_all_list, rn_isi, rn_par2, rn_while, rn_eq, rn_ne, rn_in_tup, rn_notin_tup, rn_sl_tup, rn_near_int, rn_near_str, rn_eqv_int, rn_eqv_str, rn_its_tup, rn_rng1, rn_rng2, rn_lc, rn_ts_nil, rn_ts_cons, rn_for, rn_setix, rn_e_dnew, rn_e_demp, rn_e_ditems, rn_e_sset, rn_e_lset, rn_e_dcopy, rn_newDic, rn_key_str, rn_key_int, rn_dicAt_d, rn_isRef, rn_e_mt, rn_e_thk, rn_e_badd, rn_e_neg, rn_zip, rn_mt_split, rn_mt_join, rn_mt_count, rn_mtOk_s1, rn_mtOk_s2, rn_mtOk_s3, rn_sl_list, rn_near_str2, rn_near_int2, rn_near_bool, rn_eqv_bool, rn_any_list, rn_in_list, rn_notin_list, rn_e_rev, rn_lc2, rn_enum, rn_it_cell, rn_par3, rn_app, rn_list_tup, rn_list_list, rn_ty_str, rn_ty_int, rn_ty_bool, rn_ty_tup, rn_ty_list, rn_ty_none, rn_tix0, rn_tix1, rn_tix2, rn_tix3, rn_tix4, rn_tix5, rn_tix6, rn_lix0, rn_lix1, rn_lix2, rn_lix3, rn_lix4, rn_lix5, rn_lix6, Ev.start, wipe, List.getElem?_cons_zero, List.getElem?_cons_succ, List.getElem?_nil, Option.bind_some, Option.bind_none, Option.map_some, Option.map_none, id, List.set_cons_succ, List.set_cons_zero, if_true, if_false, Bool.not_true, Bool.not_false, Bool.false_eq_true, List.map_cons, List.map_nil, List.length_cons, List.length_nil, List.replicate, List.cons_append, List.nil_append, Nat.reduceSub, Nat.reduceAdd, decide_true, decide_false, Option.getD_some, beq_self_eq_true, Ev.T.store, Ev.Ts.stores, lcE, allD, mkTup, reduceIte, Bool.true_eq_false, Bool.and_true, Bool.true_and, Bool.and_false, Bool.false_and, Bool.or_true, Bool.true_or, Bool.or_false, Bool.false_or, LIM, Nat.reduceLeDiff, Nat.zero_le, List.any_cons, List.any_nil, List.all_cons, List.all_nil, rn_bd_bd, okk_ok, forQ_nxt, forQ_cont, forQ_brk, forQ_ret, lcQ_none, lcQ_some, a2]) rfl]
  rw [app_step (by simp) fun h => thk_exc (c := HO) (v := .d .none) rfl (by simp only [rn_bd_ok, rn_bd_exc, rn_bd_stuck, rn_opt_some, rn_opt_none, rn_bnd_ap, rn_ret_ap, rn_stuck_ap, rn_lift_ap, rn_guardH_ap, rn_guard_ap, rn_ite_ap, rn_e_var, rn_e_cst, rn_e_lit, rn_e_bin, rn_e_not, rn_e_cmp, rn_e_cmp2, rn_e_isc, rn_e_and, rn_e_or, rn_e_ite, rn_e_call, rn_e_bl, rn_e_isi, rn_e_mtc, rn_e_ix, rn_e_sl, rn_e_tup, rn_e_lst, rn_e_new, rn_es_nil, rn_es_cons, rn_eo_no, rn_eo_some, rn_s_expr, rn_s_set, rn_s_sett, rn_s_ret, rn_s_retN, rn_s_ifs, rn_s_raise, rn_s_brk, rn_s_cont, rn_s_pass, rn_ss_nil, rn_ss_cons, rn_flK_nxt, rn_flK_ret, rn_flK_brk, rn_flK_cont, rn_defK_ret, rn_defK_nxt, rn_bd_ite, rn_tr_bool, rn_tr_int, rn_tr_tup, rn_tr_list, rn_tr_none, rn_deref, rn_lt_int, rn_le_int, rn_gt_int, rn_ge_int, rn_add_int, rn_sub_int, rn_add_tup, rn_add_list, rn_len_tup, rn_len_list, rn_max_tup, rn_max_list, rn_min_tup, rn_min_list, rn_max2, rn_min2, rn_tuple_list, rn_tuple_tup, rn_list_scr, rn_int_int, rn_abs_int, rn_sorted_tup, rn_sorted_list, rn_all_list, rn_isi, rn_par2, rn_while, rn_eq, rn_ne, rn_in_tup, rn_notin_tup, rn_sl_tup, rn_near_int, rn_near_str, rn_eqv_int, rn_eqv_str, rn_its_tup, rn_rng1, rn_rng2, rn_lc, rn_ts_nil, rn_ts_cons, rn_for, rn_setix, rn_e_dnew, rn_e_demp, rn_e_ditems, rn_e_sset, rn_e_lset, rn_e_dcopy, rn_newDic, rn_key_str, rn_key_int, rn_dicAt_d, rn_isRef, rn_e_mt, rn_e_thk, rn_e_badd, rn_e_neg, rn_zip, rn_mt_split, rn_mt_join, rn_mt_count, rn_mtOk_s1, rn_mtOk_s2, rn_mtOk_s3, rn_sl_list, rn_near_str2, rn_near_int2, rn_near_bool, rn_eqv_bool, rn_any_list, rn_in_list, rn_notin_list, rn_e_rev, rn_lc2, rn_enum, rn_it_cell, rn_par3, rn_app, rn_list_tup, rn_list_list, rn_ty_str, rn_ty_int, rn_ty_bool, rn_ty_tup, rn_ty_list, rn_ty_none, rn_tix0, rn_tix1, rn_tix2, rn_tix3, rn_tix4, rn_tix5, rn_tix6, rn_lix0, rn_lix1, rn_lix2, rn_lix3, rn_lix4, rn_lix5, rn_lix6, Ev.start, wipe, List.getElem?_cons_zero, List.getElem?_cons_succ, List.getElem?_nil, Option.bind_some, Option.bind_none, Option.map_some, Option.map_none, id, List.set_cons_succ, List.set_cons_zero, if_true, if_false, Bool.not_true, Bool.not_false, Bool.false_eq_true, List.map_cons, List.map_nil, List.length_cons, List.length_nil, List.replicate, List.cons_append, List.nil_append, Nat.reduceSub, Nat.reduceAdd, decide_true, decide_false, Option.getD_some, beq_self_eq_true, Ev.T.store, Ev.Ts.stores, lcE, allD, mkTup, reduceIte, Bool.true_eq_false, Bool.and_true, Bool.true_and, Bool.and_false, Bool.false_and, Bool.or_true, Bool.true_or, Bool.or_false, Bool.false_or, LIM, Nat.reduceLeDiff, Nat.zero_le, List.any_cons, List.any_nil, List.all_cons, List.all_nil, rn_bd_bd, okk_ok, forQ_nxt, forQ_cont, forQ_brk, forQ_ret, lcQ_none, lcQ_some, a3]) rfl]
  rw [app_step (by simp) fun h => thk_exc (c := HO) (v := .d .none) rfl (by simp only [rn_bd_ok, rn_bd_exc, rn_bd_stuck, rn_opt_some, rn_opt_none, rn_bnd_ap, rn_ret_ap, rn_stuck_ap, rn_lift_ap, rn_guardH_ap, rn_guard_ap, rn_ite_ap, rn_e_var, rn_e_cst, rn_e_lit, rn_e_bin, rn_e_not, rn_e_cmp, rn_e_cmp2, rn_e_isc, rn_e_and, rn_e_or, rn_e_ite, rn_e_call, rn_e_bl, rn_e_isi, rn_e_mtc, rn_e_ix, rn_e_sl, rn_e_tup, rn_e_lst, rn_e_new, rn_es_nil, rn_es_cons, rn_eo_no, rn_eo_some, rn_s_expr, rn_s_set, rn_s_sett, rn_s_ret, rn_s_retN, rn_s_ifs, rn_s_raise, rn_s_brk, rn_s_cont, rn_s_pass, rn_ss_nil, rn_ss_cons, rn_flK_nxt, rn_flK_ret, rn_flK_brk, rn_flK_cont, rn_defK_ret, rn_defK_nxt, rn_bd_ite, rn_tr_bool, rn_tr_int, rn_tr_tup, rn_tr_list, rn_tr_none, rn_deref, rn_lt_int, rn_le_int, rn_gt_int, rn_ge_int, rn_add_int, rn_sub_int, rn_add_tup, rn_add_list, rn_len_tup, rn_len_list, rn_max_tup, rn_max_list, rn_min_tup, rn_min_list, rn_max2, rn_min2, rn_tuple_list, rn_tuple_tup, rn_list_scr, rn_int_int, rn_abs_int, rn_sorted_tup, rn_sorted_list, rn_all_list, rn_isi, rn_par2, rn_while, rn_eq, rn_ne, rn_in_tup, rn_notin_tup, rn_sl_tup, rn_near_int, rn_near_str, rn_eqv_int, rn_eqv_str, rn_its_tup, rn_rng1, rn_rng2, rn_lc, rn_ts_nil, rn_ts_cons, rn_for, rn_setix, rn_e_dnew, rn_e_demp, rn_e_ditems, rn_e_sset, rn_e_lset, rn_e_dcopy, rn_newDic, rn_key_str, rn_key_int, rn_dicAt_d, rn_isRef, rn_e_mt, rn_e_thk, rn_e_badd, rn_e_neg, rn_zip, rn_mt_split, rn_mt_join, rn_mt_count, rn_mtOk_s1, rn_mtOk_s2, rn_mtOk_s3, rn_sl_list, rn_near_str2, rn_near_int2, rn_near_bool, rn_eqv_bool, rn_any_list, rn_in_list, rn_notin_list, rn_e_rev, rn_lc2, rn_enum, rn_it_cell, rn_par3, rn_app, rn_list_tup, rn_list_list, rn_ty_str, rn_ty_int, rn_ty_bool, rn_ty_tup, rn_ty_list, rn_ty_none, rn_tix0, rn_tix1, rn_tix2, rn_tix3, rn_tix4, rn_tix5, rn_tix6, rn_lix0, rn_lix1, rn_lix2, rn_lix3, rn_lix4, rn_lix5, rn_lix6, Ev.start, wipe, List.getElem?_cons_zero, List.getElem?_cons_succ, List.getElem?_nil, Option.bind_some, Option.bind_none, Option.map_some, Option.map_none, id, List.set_cons_succ, List.set_cons_zero, if_true, if_false, Bool.not_true, Bool.not_false, Bool.false_eq_true, List.map_cons, List.map_nil, List.length_cons, List.length_nil, List.replicate, List.cons_append, List.nil_append, Nat.reduceSub, Nat.reduceAdd, decide_true, decide_false, Option.getD_some, beq_self_eq_true, Ev.T.store, Ev.Ts.stores, lcE, allD, mkTup, reduceIte, Bool.true_eq_false, Bool.and_true, Bool.true_and, Bool.and_false, Bool.false_and, Bool.or_true, Bool.true_or, Bool.or_false, Bool.false_or, LIM, Nat.reduceLeDiff, Nat.zero_le, List.any_cons, List.any_nil, List.all_cons, List.all_nil, rn_bd_bd, okk_ok, forQ_nxt, forQ_cont, forQ_brk, forQ_ret, lcQ_none, lcQ_some, a4]) rfl]
  rw [app_step (by simp) fun h => thk_exc (c := HO) (v := .d .none) rfl (by simp only [rn_bd_ok, rn_bd_exc, rn_bd_stuck, rn_opt_some, rn_opt_none, rn_bnd_ap, rn_ret_ap, rn_stuck_ap, rn_lift_ap, rn_guardH_ap, rn_guard_ap, rn_ite_ap, rn_e_var, rn_e_cst, rn_e_lit, rn_e_bin, rn_e_not, rn_e_cmp, rn_e_cmp2, rn_e_isc, rn_e_and, rn_e_or, rn_e_ite, rn_e_call, rn_e_bl, rn_e_isi, rn_e_mtc, rn_e_ix, rn_e_sl, rn_e_tup, rn_e_lst, rn_e_new, rn_es_nil, rn_es_cons, rn_eo_no, rn_eo_some, rn_s_expr, rn_s_set, rn_s_sett, rn_s_ret, rn_s_retN, rn_s_ifs, rn_s_raise, rn_s_brk, rn_s_cont, rn_s_pass, rn_ss_nil, rn_ss_cons, rn_flK_nxt, rn_flK_ret, rn_flK_brk, rn_flK_cont, rn_defK_ret, rn_defK_nxt, rn_bd_ite, rn_tr_bool, rn_tr_int, rn_tr_tup, rn_tr_list, rn_tr_none, rn_deref, rn_lt_int, rn_le_int, rn_gt_int, rn_ge_int, rn_add_int, rn_sub_int, rn_add_tup, rn_add_list, rn_len_tup, rn_len_list, rn_max_tup, rn_max_list, rn_min_tup, rn_min_list, rn_max2, rn_min2, rn_tuple_list, rn_tuple_tup, rn_list_scr, rn_int_int, rn_abs_int, rn_sorted_tup, rn_sorted_list, rn_all_list, rn_isi, rn_par2, rn_while, rn_eq, rn_ne, rn_in_tup, rn_notin_tup, rn_sl_tup, rn_near_int, rn_near_str, rn_eqv_int, rn_eqv_str, rn_its_tup, rn_rng1, rn_rng2, rn_lc, rn_ts_nil, rn_ts_cons, rn_for, rn_setix, rn_e_dnew, rn_e_demp, rn_e_ditems, rn_e_sset, rn_e_lset, rn_e_dcopy, rn_newDic, rn_key_str, rn_key_int, rn_dicAt_d, rn_isRef, rn_e_mt, rn_e_thk, rn_e_badd, rn_e_neg, rn_zip, rn_mt_split, rn_mt_join, rn_mt_count, rn_mtOk_s1, rn_mtOk_s2, rn_mtOk_s3, rn_sl_list, rn_near_str2, rn_near_int2, rn_near_bool, rn_eqv_bool, rn_any_list, rn_in_list, rn_notin_list, rn_e_rev, rn_lc2, rn_enum, rn_it_cell, rn_par3, rn_app, rn_list_tup, rn_list_list, rn_ty_str, rn_ty_int, rn_ty_bool, rn_ty_tup, rn_ty_list, rn_ty_none, rn_tix0, rn_tix1, rn_tix2, rn_tix3, rn_tix4, rn_tix5, rn_tix6, rn_lix0, rn_lix1, rn_lix2, rn_lix3, rn_lix4, rn_lix5, rn_lix6, Ev.start, wipe, List.getElem?_cons_zero, List.getElem?_cons_succ, List.getElem?_nil, Option.bind_some, Option.bind_none, Option.map_some, Option.map_none, id, List.set_cons_succ, List.set_cons_zero, if_true, if_false, Bool.not_true, Bool.not_false, Bool.false_eq_true, List.map_cons, List.map_nil, List.length_cons, List.length_nil, List.replicate, List.cons_append, List.nil_append, Nat.reduceSub, Nat.reduceAdd, decide_true, decide_false, Option.getD_some, beq_self_eq_true, Ev.T.store, Ev.Ts.stores, lcE, allD, mkTup, reduceIte, Bool.true_eq_false, Bool.and_true, Bool.true_and, Bool.and_false, Bool.false_and, Bool.or_true, Bool.true_or, Bool.or_false, Bool.false_or, LIM, Nat.reduceLeDiff, Nat.zero_le, List.any_cons, List.any_nil, List.all_cons, List.all_nil, rn_bd_bd, okk_ok, forQ_nxt, forQ_cont, forQ_brk, forQ_ret, lcQ_none, lcQ_some, a5]) rfl]
  rw [app_step (by simp) fun h => thk_exc (c := HO) (v := .d .none) rfl (by simp only [rn_bd_ok, rn_bd_exc, rn_bd_stuck, rn_opt_some, rn_opt_none, rn_bnd_ap, rn_ret_ap, rn_stuck_ap, rn_lift_ap, rn_guardH_ap, rn_guard_ap, rn_ite_ap, rn_e_var, rn_e_cst, rn_e_lit, rn_e_bin, rn_e_not, rn_e_cmp, rn_e_cmp2, rn_e_isc, rn_e_and, rn_e_or, rn_e_ite, rn_e_call, rn_e_bl, rn_e_isi, rn_e_mtc, rn_e_ix, rn_e_sl, rn_e_tup, rn_e_lst, rn_e_new, rn_es_nil, rn_es_cons, rn_eo_no, rn_eo_some, rn_s_expr, rn_s_set, rn_s_sett, rn_s_ret, rn_s_retN, rn_s_ifs, rn_s_raise, rn_s_brk, rn_s_cont, rn_s_pass, rn_ss_nil, rn_ss_cons, rn_flK_nxt, rn_flK_ret, rn_flK_brk, rn_flK_cont, rn_defK_ret, rn_defK_nxt, rn_bd_ite, rn_tr_bool, rn_tr_int, rn_tr_tup, rn_tr_list, rn_tr_none, rn_deref, rn_lt_int, rn_le_int, rn_gt_int, rn_ge_int, rn_add_int, rn_sub_int, rn_add_tup, rn_add_list, rn_len_tup, rn_len_list, rn_max_tup, rn_max_list, rn_min_tup, rn_min_list, rn_max2, rn_min2, rn_tuple_list, rn_tuple_tup, rn_list_scr, rn_int_int, rn_abs_int, rn_sorted_tup, rn_sorted_list, rn_all_list, rn_isi, rn_par2, rn_while, rn_eq, rn_ne, rn_in_tup, rn_notin_tup, rn_sl_tup, rn_near_int, rn_near_str, rn_eqv_int, rn_eqv_str, rn_its_tup, rn_rng1, rn_rng2, rn_lc, rn_ts_nil, rn_ts_cons, rn_for, rn_setix, rn_e_dnew, rn_e_demp, rn_e_ditems, rn_e_sset, rn_e_lset, rn_e_dcopy, rn_newDic, rn_key_str, rn_key_int, rn_dicAt_d, rn_isRef, rn_e_mt, rn_e_thk, rn_e_badd, rn_e_neg, rn_zip, rn_mt_split, rn_mt_join, rn_mt_count, rn_mtOk_s1, rn_mtOk_s2, rn_mtOk_s3, rn_sl_list, rn_near_str2, rn_near_int2, rn_near_bool, rn_eqv_bool, rn_any_list, rn_in_list, rn_notin_list, rn_e_rev, rn_lc2, rn_enum, rn_it_cell, rn_par3, rn_app, rn_list_tup, rn_list_list, rn_ty_str, rn_ty_int, rn_ty_bool, rn_ty_tup, rn_ty_list, rn_ty_none, rn_tix0, rn_tix1, rn_tix2, rn_tix3, rn_tix4, rn_tix5, rn_tix6, rn_lix0, rn_lix1, rn_lix2, rn_lix3, rn_lix4, rn_lix5, rn_lix6, Ev.start, wipe, List.getElem?_cons_zero, List.getElem?_cons_succ, List.getElem?_nil, Option.bind_some, Option.bind_none, Option.map_some, Option.map_none, id, List.set_cons_succ, List.set_cons_zero, if_true, if_false, Bool.not_true, Bool.not_false, Bool.false_eq_true, List.map_cons, List.map_nil, List.length_cons, List.length_nil, List.replicate, List.cons_append, List.nil_append, Nat.reduceSub, Nat.reduceAdd, decide_true, decide_false, Option.getD_some, beq_self_eq_true, Ev.T.store, Ev.Ts.stores, lcE, allD, mkTup, reduceIte, Bool.true_eq_false, Bool.and_true, Bool.true_and, Bool.and_false, Bool.false_and, Bool.or_true, Bool.true_or, Bool.or_false, Bool.false_or, LIM, Nat.reduceLeDiff, Nat.zero_le, List.any_cons, List.any_nil, List.all_cons, List.all_nil, rn_bd_bd, okk_ok, forQ_nxt, forQ_cont, forQ_brk, forQ_ret, lcQ_none, lcQ_some, a6]) rfl]
  rw [app_step (by simp) fun h => thk_exc (c := HO) (v := .d .none) rfl (by simp only [rn_bd_ok, rn_bd_exc, rn_bd_stuck, rn_opt_some, rn_opt_none, rn_bnd_ap, rn_ret_ap, rn_stuck_ap, rn_lift_ap, rn_guardH_ap, rn_guard_ap, rn_ite_ap, rn_e_var, rn_e_cst, rn_e_lit, rn_e_bin, rn_e_not, rn_e_cmp, rn_e_cmp2, rn_e_isc, rn_e_and, rn_e_or, rn_e_ite, rn_e_call, rn_e_bl, rn_e_isi, rn_e_mtc, rn_e_ix, rn_e_sl, rn_e_tup, rn_e_lst, rn_e_new, rn_es_nil, rn_es_cons, rn_eo_no, rn_eo_some, rn_s_expr, rn_s_set, rn_s_sett, rn_s_ret, rn_s_retN, rn_s_ifs, rn_s_raise, rn_s_brk, rn_s_cont, rn_s_pass, rn_ss_nil, rn_ss_cons, rn_flK_nxt, rn_flK_ret, rn_flK_brk, rn_flK_cont, rn_defK_ret, rn_defK_nxt, rn_bd_ite, rn_tr_bool, rn_tr_int, rn_tr_tup, rn_tr_list, rn_tr_none, rn_deref, rn_lt_int, rn_le_int, rn_gt_int, rn_ge_int, rn_add_int, rn_sub_int, rn_add_tup, rn_add_list, rn_len_tup, rn_len_list, rn_max_tup, rn_max_list, rn_min_tup, rn_min_list, rn_max2, rn_min2, rn_tuple_list, rn_tuple_tup, rn_list_scr, rn_int_int, rn_abs_int, rn_sorted_tup, rn_sorted_list, rn_all_list, rn_isi, rn_par2, rn_while, rn_eq, rn_ne, rn_in_tup, rn_notin_tup, rn_sl_tup, rn_near_int, rn_near_str, rn_eqv_int, rn_eqv_str, rn_its_tup, rn_rng1, rn_rng2, rn_lc, rn_ts_nil, rn_ts_cons, rn_for, rn_setix, rn_e_dnew, rn_e_demp, rn_e_ditems, rn_e_sset, rn_e_lset, rn_e_dcopy, rn_newDic, rn_key_str, rn_key_int, rn_dicAt_d, rn_isRef, rn_e_mt, rn_e_thk, rn_e_badd, rn_e_neg, rn_zip, rn_mt_split, rn_mt_join, rn_mt_count, rn_mtOk_s1, rn_mtOk_s2, rn_mtOk_s3, rn_sl_list, rn_near_str2, rn_near_int2, rn_near_bool, rn_eqv_bool, rn_any_list, rn_in_list, rn_notin_list, rn_e_rev, rn_lc2, rn_enum, rn_it_cell, rn_par3, rn_app, rn_list_tup, rn_list_list, rn_ty_str, rn_ty_int, rn_ty_bool, rn_ty_tup, rn_ty_list, rn_ty_none, rn_tix0, rn_tix1, rn_tix2, rn_tix3, rn_tix4, rn_tix5, rn_tix6, rn_lix0, rn_lix1, rn_lix2, rn_lix3, rn_lix4, rn_lix5, rn_lix6, Ev.start, wipe, List.getElem?_cons_zero, List.getElem?_cons_succ, List.getElem?_nil, Option.bind_some, Option.bind_none, Option.map_some, Option.map_none, id, List.set_cons_succ, List.set_cons_zero, if_true, if_false, Bool.not_true, Bool.not_false, Bool.false_eq_true, List.map_cons, List.map_nil, List.length_cons, List.length_nil, List.replicate, List.cons_append, List.nil_append, Nat.reduceSub, Nat.reduceAdd, decide_true, decide_false, Option.getD_some, beq_self_eq_true, Ev.T.store, Ev.Ts.stores, lcE, allD, mkTup, reduceIte, Bool.true_eq_false, Bool.and_true, Bool.true_and, Bool.and_false, Bool.false_and, Bool.or_true, Bool.true_or, Bool.or_false, Bool.false_or, LIM, Nat.reduceLeDiff, Nat.zero_le, List.any_cons, List.any_nil, List.all_cons, List.all_nil, rn_bd_bd, okk_ok, forQ_nxt, forQ_cont, forQ_brk, forQ_ret, lcQ_none, lcQ_some, a7]) rfl]
  rw [app_step (by simp) fun h => thk_exc (c := HO) (v := .d .none) rfl (by simp only [rn_bd_ok, rn_bd_exc, rn_bd_stuck, rn_opt_some, rn_opt_none, rn_bnd_ap, rn_ret_ap, rn_stuck_ap, rn_lift_ap, rn_guardH_ap, rn_guard_ap, rn_ite_ap, rn_e_var, rn_e_cst, rn_e_lit, rn_e_bin, rn_e_not, rn_e_cmp, rn_e_cmp2, rn_e_isc, rn_e_and, rn_e_or, rn_e_ite, rn_e_call, rn_e_bl, rn_e_isi, rn_e_mtc, rn_e_ix, rn_e_sl, rn_e_tup, rn_e_lst, rn_e_new, rn_es_nil, rn_es_cons, rn_eo_no, rn_eo_some, rn_s_expr, rn_s_set, rn_s_sett, rn_s_ret, rn_s_retN, rn_s_ifs, rn_s_raise, rn_s_brk, rn_s_cont, rn_s_pass, rn_ss_nil, rn_ss_cons, rn_flK_nxt, rn_flK_ret, rn_flK_brk, rn_flK_cont, rn_defK_ret, rn_defK_nxt, rn_bd_ite, rn_tr_bool, rn_tr_int, rn_tr_tup, rn_tr_list, rn_tr_none, rn_deref, rn_lt_int, rn_le_int, rn_gt_int, rn_ge_int, rn_add_int, rn_sub_int, rn_add_tup, rn_add_list, rn_len_tup, rn_len_list, rn_max_tup, rn_max_list, rn_min_tup, rn_min_list, rn_max2, rn_min2, rn_tuple_list, rn_tuple_tup, rn_list_scr, rn_int_int, rn_abs_int, rn_sorted_tup, rn_sorted_list, rn_all_list, rn_isi, rn_par2, rn_while, rn_eq, rn_ne, rn_in_tup, rn_notin_tup, rn_sl_tup, rn_near_int, rn_near_str, rn_eqv_int, rn_eqv_str, rn_its_tup, rn_rng1, rn_rng2, rn_lc, rn_ts_nil, rn_ts_cons, rn_for, rn_setix, rn_e_dnew, rn_e_demp, rn_e_ditems, rn_e_sset, rn_e_lset, rn_e_dcopy, rn_newDic, rn_key_str, rn_key_int, rn_dicAt_d, rn_isRef, rn_e_mt, rn_e_thk, rn_e_badd, rn_e_neg, rn_zip, rn_mt_split, rn_mt_join, rn_mt_count, rn_mtOk_s1, rn_mtOk_s2, rn_mtOk_s3, rn_sl_list, rn_near_str2, rn_near_int2, rn_near_bool, rn_eqv_bool, rn_any_list, rn_in_list, rn_notin_list, rn_e_rev, rn_lc2, rn_enum, rn_it_cell, rn_par3, rn_app, rn_list_tup, rn_list_list, rn_ty_str, rn_ty_int, rn_ty_bool, rn_ty_tup, rn_ty_list, rn_ty_none, rn_tix0, rn_tix1, rn_tix2, rn_tix3, rn_tix4, rn_tix5, rn_tix6, rn_lix0, rn_lix1, rn_lix2, rn_lix3, rn_lix4, rn_lix5, rn_lix6, Ev.start, wipe, List.getElem?_cons_zero, List.getElem?_cons_succ, List.getElem?_nil, Option.bind_some, Option.bind_none, Option.map_some, Option.map_none, id, List.set_cons_succ, List.set_cons_zero, if_true, if_false, Bool.not_true, Bool.not_false, Bool.false_eq_true, List.map_cons, List.map_nil, List.length_cons, List.length_nil, List.replicate, List.cons_append, List.nil_append, Nat.reduceSub, Nat.reduceAdd, decide_true, decide_false, Option.getD_some, beq_self_eq_true, Ev.T.store, Ev.Ts.stores, lcE, allD, mkTup, reduceIte, Bool.true_eq_false, Bool.and_true, Bool.true_and, Bool.and_false, Bool.false_and, Bool.or_true, Bool.true_or, Bool.or_false, Bool.false_or, LIM, Nat.reduceLeDiff, Nat.zero_le, List.any_cons, List.any_nil, List.all_cons, List.all_nil, rn_bd_bd, okk_ok, forQ_nxt, forQ_cont, forQ_brk, forQ_ret, lcQ_none, lcQ_some, a8]) rfl]
  have df : ∀ xs, deref (h ++ [.lst xs]) (.ref h.length) = (allD xs).map D.list := fun xs => by
    show (match (h ++ [Cell.lst xs])[h.length]? with
      | some (.lst xs) => (allD xs).map D.list
      | _ => .none) = _
    rw [List.getElem?_append_right (Nat.le_refl _), Nat.sub_self]; rfl
  simp only [rn_bd_ok, rn_bd_exc, rn_bd_stuck, rn_opt_some, rn_opt_none, rn_bnd_ap, rn_ret_ap, rn_stuck_ap, rn_lift_ap, rn_guardH_ap, rn_guard_ap, rn_ite_ap, rn_e_var, rn_e_cst, rn_e_lit, rn_e_bin, rn_e_not, rn_e_cmp, rn_e_cmp2, rn_e_isc, rn_e_and, rn_e_or, rn_e_ite, rn_e_call, rn_e_bl, rn_e_isi, rn_e_mtc, rn_e_ix, rn_e_sl, rn_e_tup, rn_e_lst, rn_e_new, rn_es_nil, rn_es_cons, rn_eo_no, rn_eo_some, rn_s_expr, rn_s_set, rn_s_sett, rn_s_ret, rn_s_retN, rn_s_ifs, rn_s_raise, rn_s_brk, rn_s_cont, rn_s_pass, rn_ss_nil, rn_ss_cons, rn_flK_nxt, rn_flK_ret, rn_flK_brk, rn_flK_cont, rn_defK_ret, rn_defK_nxt, rn_bd_ite, rn_tr_bool, rn_tr_int, rn_tr_tup, rn_tr_list, rn_tr_none, rn_deref, rn_lt_int, rn_le_int, rn_gt_int, rn_ge_int, rn_add_int, rn_sub_int, rn_add_tup, rn_add_list, rn_len_tup, rn_len_list, rn_max_tup, rn_max_list, rn_min_tup, rn_min_list, rn_max2, rn_min2, rn_tuple_list, rn_tuple_tup, rn_list_scr, rn_int_int, rn_abs_int, rn_sorted_tup, rn_sorted_list, rn_all_list, rn_isi, rn_par2, rn_while, rn_eq, rn_ne, rn_in_tup, rn_notin_tup, rn_sl_tup, rn_near_int, rn_near_str, rn_eqv_int, rn_eqv_str, rn_its_tup, rn_rng1, rn_rng2, rn_lc, rn_ts_nil, rn_ts_cons, rn_for, rn_setix, rn_e_dnew, rn_e_demp, rn_e_ditems, rn_e_sset, rn_e_lset, rn_e_dcopy, rn_newDic, rn_key_str, rn_key_int, rn_dicAt_d, rn_isRef, rn_e_mt, rn_e_thk, rn_e_badd, rn_e_neg, rn_zip, rn_mt_split, rn_mt_join, rn_mt_count, rn_mtOk_s1, rn_mtOk_s2, rn_mtOk_s3, rn_sl_list, rn_near_str2, rn_near_int2, rn_near_bool, rn_eqv_bool, rn_any_list, rn_in_list, rn_notin_list, rn_e_rev, rn_lc2, rn_enum, rn_it_cell, rn_par3, rn_app, rn_list_tup, rn_list_list, rn_ty_str, rn_ty_int, rn_ty_bool, rn_ty_tup, rn_ty_list, rn_ty_none, rn_tix0, rn_tix1, rn_tix2, rn_tix3, rn_tix4, rn_tix5, rn_tix6, rn_lix0, rn_lix1, rn_lix2, rn_lix3, rn_lix4, rn_lix5, rn_lix6, Ev.start, wipe, List.getElem?_cons_zero, List.getElem?_cons_succ, List.getElem?_nil, Option.bind_some, Option.bind_none, Option.map_some, Option.map_none, id, List.set_cons_succ, List.set_cons_zero, if_true, if_false, Bool.not_true, Bool.not_false, Bool.false_eq_true, List.map_cons, List.map_nil, List.length_cons, List.length_nil, List.replicate, List.cons_append, List.nil_append, Nat.reduceSub, Nat.reduceAdd, decide_true, decide_false, Option.getD_some, beq_self_eq_true, Ev.T.store, Ev.Ts.stores, lcE, allD, mkTup, reduceIte, Bool.true_eq_false, Bool.and_true, Bool.true_and, Bool.and_false, Bool.false_and, Bool.or_true, Bool.true_or, Bool.or_false, Bool.false_or, LIM, Nat.reduceLeDiff, Nat.zero_le, List.any_cons, List.any_nil, List.all_cons, List.all_nil, rn_bd_bd, okk_ok, forQ_nxt, forQ_cont, forQ_brk, forQ_ret, lcQ_none, lcQ_some, a9, isC]
  have m8 : ∀ h, binop h .mul (.d (.list [.str [104, 111, 117, 115, 101]])) (.d (.int 8)) = some (.d (.list (List.replicate 8 (.str [104, 111, 117, 115, 101])))) := fun h => rfl
  rw [m8, rn_opt_some, rn_bd_ok]
  unfold cmpop
  dsimp only
  rw [df]
  rfl

/-- what is no step is refused by all -/
def SX : Nat := 11162408591013225357211763
def SO : Nat := 87206317117290823103216
theorem step_ref (k : Nat) {d : D} (G : ∀ h, Ev.call T C (k + 1) 1021906042094129871333 [.d (.tup [.int 0, .tup []])] h = .ok (.d .none) h) (N : ∀ h, Ev.call T C (k + 1) 1021906042097092884595 [.d (.tup [.tup [.str [116, 117, 114, 110]], d])] h = .exc SX (.d .none) h)
    (H : ∀ h, Ev.call T C (k + 1) 32587318971823140735278546498288 [.d d] h = .ok (.d (.bool false)) h) (h : Hh) :
    Ev.call T C (k + 3) 497680239047065712789672713667801828 [.d d] h = .ok (.d (.bool true)) (h ++ [cellS]) := by
  generalize hg : D.tup [.int 0, .tup []] = g at G
  generalize hs : D.tup [.tup [.str [116, 117, 114, 110]], d] = s at N
  have a1 : ∀ h, Ev.call T C (k + 2) 2028565606825111133764727524 [.d g, .d d] h = .exc SO (.d .none) h := fun h => by rw [rn_call (show T 2028565606825111133764727524 = some fhouse_stepped from rfl) rfl]; simp only [rn_bd_ok, rn_bd_exc, rn_bd_stuck, rn_opt_some, rn_opt_none, rn_bnd_ap, rn_ret_ap, rn_stuck_ap, rn_lift_ap, rn_guardH_ap, rn_guard_ap, rn_ite_ap, rn_e_var, rn_e_cst, rn_e_lit, rn_e_bin, rn_e_not, rn_e_cmp, rn_e_cmp2, rn_e_isc, rn_e_and, rn_e_or, rn_e_ite, rn_e_call, rn_e_bl, rn_e_isi, rn_e_mtc, rn_e_ix, rn_e_sl, rn_e_tup, rn_e_lst, rn_e_new, rn_es_nil, rn_es_cons, rn_eo_no, rn_eo_some, rn_s_expr, rn_s_set, rn_s_sett, rn_s_ret, rn_s_retN, rn_s_ifs, rn_s_raise, rn_s_brk, rn_s_cont, rn_s_pass, rn_ss_nil, rn_ss_cons, rn_flK_nxt, rn_flK_ret, rn_flK_brk, rn_flK_cont, rn_defK_ret, rn_defK_nxt, rn_bd_ite, rn_tr_bool, rn_tr_int, rn_tr_tup, rn_tr_list, rn_tr_none, rn_deref, rn_lt_int, rn_le_int, rn_gt_int, rn_ge_int, rn_add_int, rn_sub_int, rn_add_tup, rn_add_list, rn_len_tup, rn_len_list, rn_max_tup, rn_max_list, rn_min_tup, rn_min_list, rn_max2, rn_min2, rn_tuple_list, rn_tuple_tup, rn_list_scr, rn_int_int, rn_abs_int, rn_sorted_tup, rn_sorted_list, rn_all_list, rn_isi, rn_par2, rn_while, rn_eq, rn_ne, rn_in_tup, rn_notin_tup, rn_sl_tup, rn_near_int, rn_near_str, rn_eqv_int, rn_eqv_str, rn_its_tup, rn_rng1, rn_rng2, rn_lc, rn_ts_nil, rn_ts_cons, rn_for, rn_setix, rn_e_dnew, rn_e_demp, rn_e_ditems, rn_e_sset, rn_e_lset, rn_e_dcopy, rn_newDic, rn_key_str, rn_key_int, rn_dicAt_d, rn_isRef, rn_e_mt, rn_e_thk, rn_e_badd, rn_e_neg, rn_zip, rn_mt_split, rn_mt_join, rn_mt_count, rn_mtOk_s1, rn_mtOk_s2, rn_mtOk_s3, rn_sl_list, rn_near_str2, rn_near_int2, rn_near_bool, rn_eqv_bool, rn_any_list, rn_in_list, rn_notin_list, rn_e_rev, rn_lc2, rn_enum, rn_it_cell, rn_par3, rn_app, rn_list_tup, rn_list_list, rn_ty_str, rn_ty_int, rn_ty_bool, rn_ty_tup, rn_ty_list, rn_ty_none, rn_tix0, rn_tix1, rn_tix2, rn_tix3, rn_tix4, rn_tix5, rn_tix6, rn_lix0, rn_lix1, rn_lix2, rn_lix3, rn_lix4, rn_lix5, rn_lix6, Ev.start, wipe, List.getElem?_cons_zero, List.getElem?_cons_succ, List.getElem?_nil, Option.bind_some, Option.bind_none, Option.map_some, Option.map_none, id, List.set_cons_succ, List.set_cons_zero, if_true, if_false, Bool.not_true, Bool.not_false, Bool.false_eq_true, List.map_cons, List.map_nil, List.length_cons, List.length_nil, List.replicate, List.cons_append, List.nil_append, Nat.reduceSub, Nat.reduceAdd, decide_true, decide_false, Option.getD_some, beq_self_eq_true, Ev.T.store, Ev.Ts.stores, lcE, allD, mkTup, reduceIte, Bool.true_eq_false, Bool.and_true, Bool.true_and, Bool.and_false, Bool.false_and, Bool.or_true, Bool.true_or, Bool.or_false, Bool.false_or, LIM, Nat.reduceLeDiff, Nat.zero_le, List.any_cons, List.any_nil, List.all_cons, List.all_nil, rn_bd_bd, okk_ok, forQ_nxt, forQ_cont, forQ_brk, forQ_ret, lcQ_none, lcQ_some, fhouse_stepped, G, H]; rfl
  have a3 : ∀ h, Ev.call T C (k + 2) 15848168803320629668133349 [.d g, .d s] h = .exc SX (.d .none) h := fun h => by rw [rn_call (show T 15848168803320629668133349 = some fhouse_course from rfl) rfl]; simp only [rn_bd_ok, rn_bd_exc, rn_bd_stuck, rn_opt_some, rn_opt_none, rn_bnd_ap, rn_ret_ap, rn_stuck_ap, rn_lift_ap, rn_guardH_ap, rn_guard_ap, rn_ite_ap, rn_e_var, rn_e_cst, rn_e_lit, rn_e_bin, rn_e_not, rn_e_cmp, rn_e_cmp2, rn_e_isc, rn_e_and, rn_e_or, rn_e_ite, rn_e_call, rn_e_bl, rn_e_isi, rn_e_mtc, rn_e_ix, rn_e_sl, rn_e_tup, rn_e_lst, rn_e_new, rn_es_nil, rn_es_cons, rn_eo_no, rn_eo_some, rn_s_expr, rn_s_set, rn_s_sett, rn_s_ret, rn_s_retN, rn_s_ifs, rn_s_raise, rn_s_brk, rn_s_cont, rn_s_pass, rn_ss_nil, rn_ss_cons, rn_flK_nxt, rn_flK_ret, rn_flK_brk, rn_flK_cont, rn_defK_ret, rn_defK_nxt, rn_bd_ite, rn_tr_bool, rn_tr_int, rn_tr_tup, rn_tr_list, rn_tr_none, rn_deref, rn_lt_int, rn_le_int, rn_gt_int, rn_ge_int, rn_add_int, rn_sub_int, rn_add_tup, rn_add_list, rn_len_tup, rn_len_list, rn_max_tup, rn_max_list, rn_min_tup, rn_min_list, rn_max2, rn_min2, rn_tuple_list, rn_tuple_tup, rn_list_scr, rn_int_int, rn_abs_int, rn_sorted_tup, rn_sorted_list, rn_all_list, rn_isi, rn_par2, rn_while, rn_eq, rn_ne, rn_in_tup, rn_notin_tup, rn_sl_tup, rn_near_int, rn_near_str, rn_eqv_int, rn_eqv_str, rn_its_tup, rn_rng1, rn_rng2, rn_lc, rn_ts_nil, rn_ts_cons, rn_for, rn_setix, rn_e_dnew, rn_e_demp, rn_e_ditems, rn_e_sset, rn_e_lset, rn_e_dcopy, rn_newDic, rn_key_str, rn_key_int, rn_dicAt_d, rn_isRef, rn_e_mt, rn_e_thk, rn_e_badd, rn_e_neg, rn_zip, rn_mt_split, rn_mt_join, rn_mt_count, rn_mtOk_s1, rn_mtOk_s2, rn_mtOk_s3, rn_sl_list, rn_near_str2, rn_near_int2, rn_near_bool, rn_eqv_bool, rn_any_list, rn_in_list, rn_notin_list, rn_e_rev, rn_lc2, rn_enum, rn_it_cell, rn_par3, rn_app, rn_list_tup, rn_list_list, rn_ty_str, rn_ty_int, rn_ty_bool, rn_ty_tup, rn_ty_list, rn_ty_none, rn_tix0, rn_tix1, rn_tix2, rn_tix3, rn_tix4, rn_tix5, rn_tix6, rn_lix0, rn_lix1, rn_lix2, rn_lix3, rn_lix4, rn_lix5, rn_lix6, Ev.start, wipe, List.getElem?_cons_zero, List.getElem?_cons_succ, List.getElem?_nil, Option.bind_some, Option.bind_none, Option.map_some, Option.map_none, id, List.set_cons_succ, List.set_cons_zero, if_true, if_false, Bool.not_true, Bool.not_false, Bool.false_eq_true, List.map_cons, List.map_nil, List.length_cons, List.length_nil, List.replicate, List.cons_append, List.nil_append, Nat.reduceSub, Nat.reduceAdd, decide_true, decide_false, Option.getD_some, beq_self_eq_true, Ev.T.store, Ev.Ts.stores, lcE, allD, mkTup, reduceIte, Bool.true_eq_false, Bool.and_true, Bool.true_and, Bool.and_false, Bool.false_and, Bool.or_true, Bool.true_or, Bool.or_false, Bool.false_or, LIM, Nat.reduceLeDiff, Nat.zero_le, List.any_cons, List.any_nil, List.all_cons, List.all_nil, rn_bd_bd, okk_ok, forQ_nxt, forQ_cont, forQ_brk, forQ_ret, lcQ_none, lcQ_some, fhouse_course, G, N]
  have a4 : ∀ h, Ev.call T C (k + 2) 514016528561390 [.d g, .d s] h = .exc SX (.d .none) h := fun h => by rw [rn_call (show T 514016528561390 = some ftold_in from rfl) rfl]; simp only [rn_bd_ok, rn_bd_exc, rn_bd_stuck, rn_opt_some, rn_opt_none, rn_bnd_ap, rn_ret_ap, rn_stuck_ap, rn_lift_ap, rn_guardH_ap, rn_guard_ap, rn_ite_ap, rn_e_var, rn_e_cst, rn_e_lit, rn_e_bin, rn_e_not, rn_e_cmp, rn_e_cmp2, rn_e_isc, rn_e_and, rn_e_or, rn_e_ite, rn_e_call, rn_e_bl, rn_e_isi, rn_e_mtc, rn_e_ix, rn_e_sl, rn_e_tup, rn_e_lst, rn_e_new, rn_es_nil, rn_es_cons, rn_eo_no, rn_eo_some, rn_s_expr, rn_s_set, rn_s_sett, rn_s_ret, rn_s_retN, rn_s_ifs, rn_s_raise, rn_s_brk, rn_s_cont, rn_s_pass, rn_ss_nil, rn_ss_cons, rn_flK_nxt, rn_flK_ret, rn_flK_brk, rn_flK_cont, rn_defK_ret, rn_defK_nxt, rn_bd_ite, rn_tr_bool, rn_tr_int, rn_tr_tup, rn_tr_list, rn_tr_none, rn_deref, rn_lt_int, rn_le_int, rn_gt_int, rn_ge_int, rn_add_int, rn_sub_int, rn_add_tup, rn_add_list, rn_len_tup, rn_len_list, rn_max_tup, rn_max_list, rn_min_tup, rn_min_list, rn_max2, rn_min2, rn_tuple_list, rn_tuple_tup, rn_list_scr, rn_int_int, rn_abs_int, rn_sorted_tup, rn_sorted_list, rn_all_list, rn_isi, rn_par2, rn_while, rn_eq, rn_ne, rn_in_tup, rn_notin_tup, rn_sl_tup, rn_near_int, rn_near_str, rn_eqv_int, rn_eqv_str, rn_its_tup, rn_rng1, rn_rng2, rn_lc, rn_ts_nil, rn_ts_cons, rn_for, rn_setix, rn_e_dnew, rn_e_demp, rn_e_ditems, rn_e_sset, rn_e_lset, rn_e_dcopy, rn_newDic, rn_key_str, rn_key_int, rn_dicAt_d, rn_isRef, rn_e_mt, rn_e_thk, rn_e_badd, rn_e_neg, rn_zip, rn_mt_split, rn_mt_join, rn_mt_count, rn_mtOk_s1, rn_mtOk_s2, rn_mtOk_s3, rn_sl_list, rn_near_str2, rn_near_int2, rn_near_bool, rn_eqv_bool, rn_any_list, rn_in_list, rn_notin_list, rn_e_rev, rn_lc2, rn_enum, rn_it_cell, rn_par3, rn_app, rn_list_tup, rn_list_list, rn_ty_str, rn_ty_int, rn_ty_bool, rn_ty_tup, rn_ty_list, rn_ty_none, rn_tix0, rn_tix1, rn_tix2, rn_tix3, rn_tix4, rn_tix5, rn_tix6, rn_lix0, rn_lix1, rn_lix2, rn_lix3, rn_lix4, rn_lix5, rn_lix6, Ev.start, wipe, List.getElem?_cons_zero, List.getElem?_cons_succ, List.getElem?_nil, Option.bind_some, Option.bind_none, Option.map_some, Option.map_none, id, List.set_cons_succ, List.set_cons_zero, if_true, if_false, Bool.not_true, Bool.not_false, Bool.false_eq_true, List.map_cons, List.map_nil, List.length_cons, List.length_nil, List.replicate, List.cons_append, List.nil_append, Nat.reduceSub, Nat.reduceAdd, decide_true, decide_false, Option.getD_some, beq_self_eq_true, Ev.T.store, Ev.Ts.stores, lcE, allD, mkTup, reduceIte, Bool.true_eq_false, Bool.and_true, Bool.true_and, Bool.and_false, Bool.false_and, Bool.or_true, Bool.true_or, Bool.or_false, Bool.false_or, LIM, Nat.reduceLeDiff, Nat.zero_le, List.any_cons, List.any_nil, List.all_cons, List.all_nil, rn_bd_bd, okk_ok, forQ_nxt, forQ_cont, forQ_brk, forQ_ret, lcQ_none, lcQ_some, ftold_in, G, N]
  have a5 : ∀ h, Ev.call T C (k + 2) 57851518844925926 [.d g, .d s] h = .exc SX (.d .none) h := fun h => by rw [rn_call (show T 57851518844925926 = some ffates_of from rfl) rfl]; simp only [rn_bd_ok, rn_bd_exc, rn_bd_stuck, rn_opt_some, rn_opt_none, rn_bnd_ap, rn_ret_ap, rn_stuck_ap, rn_lift_ap, rn_guardH_ap, rn_guard_ap, rn_ite_ap, rn_e_var, rn_e_cst, rn_e_lit, rn_e_bin, rn_e_not, rn_e_cmp, rn_e_cmp2, rn_e_isc, rn_e_and, rn_e_or, rn_e_ite, rn_e_call, rn_e_bl, rn_e_isi, rn_e_mtc, rn_e_ix, rn_e_sl, rn_e_tup, rn_e_lst, rn_e_new, rn_es_nil, rn_es_cons, rn_eo_no, rn_eo_some, rn_s_expr, rn_s_set, rn_s_sett, rn_s_ret, rn_s_retN, rn_s_ifs, rn_s_raise, rn_s_brk, rn_s_cont, rn_s_pass, rn_ss_nil, rn_ss_cons, rn_flK_nxt, rn_flK_ret, rn_flK_brk, rn_flK_cont, rn_defK_ret, rn_defK_nxt, rn_bd_ite, rn_tr_bool, rn_tr_int, rn_tr_tup, rn_tr_list, rn_tr_none, rn_deref, rn_lt_int, rn_le_int, rn_gt_int, rn_ge_int, rn_add_int, rn_sub_int, rn_add_tup, rn_add_list, rn_len_tup, rn_len_list, rn_max_tup, rn_max_list, rn_min_tup, rn_min_list, rn_max2, rn_min2, rn_tuple_list, rn_tuple_tup, rn_list_scr, rn_int_int, rn_abs_int, rn_sorted_tup, rn_sorted_list, rn_all_list, rn_isi, rn_par2, rn_while, rn_eq, rn_ne, rn_in_tup, rn_notin_tup, rn_sl_tup, rn_near_int, rn_near_str, rn_eqv_int, rn_eqv_str, rn_its_tup, rn_rng1, rn_rng2, rn_lc, rn_ts_nil, rn_ts_cons, rn_for, rn_setix, rn_e_dnew, rn_e_demp, rn_e_ditems, rn_e_sset, rn_e_lset, rn_e_dcopy, rn_newDic, rn_key_str, rn_key_int, rn_dicAt_d, rn_isRef, rn_e_mt, rn_e_thk, rn_e_badd, rn_e_neg, rn_zip, rn_mt_split, rn_mt_join, rn_mt_count, rn_mtOk_s1, rn_mtOk_s2, rn_mtOk_s3, rn_sl_list, rn_near_str2, rn_near_int2, rn_near_bool, rn_eqv_bool, rn_any_list, rn_in_list, rn_notin_list, rn_e_rev, rn_lc2, rn_enum, rn_it_cell, rn_par3, rn_app, rn_list_tup, rn_list_list, rn_ty_str, rn_ty_int, rn_ty_bool, rn_ty_tup, rn_ty_list, rn_ty_none, rn_tix0, rn_tix1, rn_tix2, rn_tix3, rn_tix4, rn_tix5, rn_tix6, rn_lix0, rn_lix1, rn_lix2, rn_lix3, rn_lix4, rn_lix5, rn_lix6, Ev.start, wipe, List.getElem?_cons_zero, List.getElem?_cons_succ, List.getElem?_nil, Option.bind_some, Option.bind_none, Option.map_some, Option.map_none, id, List.set_cons_succ, List.set_cons_zero, if_true, if_false, Bool.not_true, Bool.not_false, Bool.false_eq_true, List.map_cons, List.map_nil, List.length_cons, List.length_nil, List.replicate, List.cons_append, List.nil_append, Nat.reduceSub, Nat.reduceAdd, decide_true, decide_false, Option.getD_some, beq_self_eq_true, Ev.T.store, Ev.Ts.stores, lcE, allD, mkTup, reduceIte, Bool.true_eq_false, Bool.and_true, Bool.true_and, Bool.and_false, Bool.false_and, Bool.or_true, Bool.true_or, Bool.or_false, Bool.false_or, LIM, Nat.reduceLeDiff, Nat.zero_le, List.any_cons, List.any_nil, List.all_cons, List.all_nil, rn_bd_bd, okk_ok, forQ_nxt, forQ_cont, forQ_brk, forQ_ret, lcQ_none, lcQ_some, ffates_of, G, N]
  have a6 : ∀ h, Ev.call T C (k + 2) 121323428360850637568627 [.d g, .d s, .d .none] h = .exc SX (.d .none) h := fun h => by rw [rn_call (show T 121323428360850637568627 = some ffate_counts from rfl) rfl]; simp only [rn_bd_ok, rn_bd_exc, rn_bd_stuck, rn_opt_some, rn_opt_none, rn_bnd_ap, rn_ret_ap, rn_stuck_ap, rn_lift_ap, rn_guardH_ap, rn_guard_ap, rn_ite_ap, rn_e_var, rn_e_cst, rn_e_lit, rn_e_bin, rn_e_not, rn_e_cmp, rn_e_cmp2, rn_e_isc, rn_e_and, rn_e_or, rn_e_ite, rn_e_call, rn_e_bl, rn_e_isi, rn_e_mtc, rn_e_ix, rn_e_sl, rn_e_tup, rn_e_lst, rn_e_new, rn_es_nil, rn_es_cons, rn_eo_no, rn_eo_some, rn_s_expr, rn_s_set, rn_s_sett, rn_s_ret, rn_s_retN, rn_s_ifs, rn_s_raise, rn_s_brk, rn_s_cont, rn_s_pass, rn_ss_nil, rn_ss_cons, rn_flK_nxt, rn_flK_ret, rn_flK_brk, rn_flK_cont, rn_defK_ret, rn_defK_nxt, rn_bd_ite, rn_tr_bool, rn_tr_int, rn_tr_tup, rn_tr_list, rn_tr_none, rn_deref, rn_lt_int, rn_le_int, rn_gt_int, rn_ge_int, rn_add_int, rn_sub_int, rn_add_tup, rn_add_list, rn_len_tup, rn_len_list, rn_max_tup, rn_max_list, rn_min_tup, rn_min_list, rn_max2, rn_min2, rn_tuple_list, rn_tuple_tup, rn_list_scr, rn_int_int, rn_abs_int, rn_sorted_tup, rn_sorted_list, rn_all_list, rn_isi, rn_par2, rn_while, rn_eq, rn_ne, rn_in_tup, rn_notin_tup, rn_sl_tup, rn_near_int, rn_near_str, rn_eqv_int, rn_eqv_str, rn_its_tup, rn_rng1, rn_rng2, rn_lc, rn_ts_nil, rn_ts_cons, rn_for, rn_setix, rn_e_dnew, rn_e_demp, rn_e_ditems, rn_e_sset, rn_e_lset, rn_e_dcopy, rn_newDic, rn_key_str, rn_key_int, rn_dicAt_d, rn_isRef, rn_e_mt, rn_e_thk, rn_e_badd, rn_e_neg, rn_zip, rn_mt_split, rn_mt_join, rn_mt_count, rn_mtOk_s1, rn_mtOk_s2, rn_mtOk_s3, rn_sl_list, rn_near_str2, rn_near_int2, rn_near_bool, rn_eqv_bool, rn_any_list, rn_in_list, rn_notin_list, rn_e_rev, rn_lc2, rn_enum, rn_it_cell, rn_par3, rn_app, rn_list_tup, rn_list_list, rn_ty_str, rn_ty_int, rn_ty_bool, rn_ty_tup, rn_ty_list, rn_ty_none, rn_tix0, rn_tix1, rn_tix2, rn_tix3, rn_tix4, rn_tix5, rn_tix6, rn_lix0, rn_lix1, rn_lix2, rn_lix3, rn_lix4, rn_lix5, rn_lix6, Ev.start, wipe, List.getElem?_cons_zero, List.getElem?_cons_succ, List.getElem?_nil, Option.bind_some, Option.bind_none, Option.map_some, Option.map_none, id, List.set_cons_succ, List.set_cons_zero, if_true, if_false, Bool.not_true, Bool.not_false, Bool.false_eq_true, List.map_cons, List.map_nil, List.length_cons, List.length_nil, List.replicate, List.cons_append, List.nil_append, Nat.reduceSub, Nat.reduceAdd, decide_true, decide_false, Option.getD_some, beq_self_eq_true, Ev.T.store, Ev.Ts.stores, lcE, allD, mkTup, reduceIte, Bool.true_eq_false, Bool.and_true, Bool.true_and, Bool.and_false, Bool.false_and, Bool.or_true, Bool.true_or, Bool.or_false, Bool.false_or, LIM, Nat.reduceLeDiff, Nat.zero_le, List.any_cons, List.any_nil, List.all_cons, List.all_nil, rn_bd_bd, okk_ok, forQ_nxt, forQ_cont, forQ_brk, forQ_ret, lcQ_none, lcQ_some, ffate_counts, G, N]
  have a7 : ∀ h, Ev.call T C (k + 2) 1003457112910449080301 [.d g, .d s, .d .none] h = .exc SX (.d .none) h := fun h => by rw [rn_call (show T 1003457112910449080301 = some fleast_room from rfl) rfl]; simp only [rn_bd_ok, rn_bd_exc, rn_bd_stuck, rn_opt_some, rn_opt_none, rn_bnd_ap, rn_ret_ap, rn_stuck_ap, rn_lift_ap, rn_guardH_ap, rn_guard_ap, rn_ite_ap, rn_e_var, rn_e_cst, rn_e_lit, rn_e_bin, rn_e_not, rn_e_cmp, rn_e_cmp2, rn_e_isc, rn_e_and, rn_e_or, rn_e_ite, rn_e_call, rn_e_bl, rn_e_isi, rn_e_mtc, rn_e_ix, rn_e_sl, rn_e_tup, rn_e_lst, rn_e_new, rn_es_nil, rn_es_cons, rn_eo_no, rn_eo_some, rn_s_expr, rn_s_set, rn_s_sett, rn_s_ret, rn_s_retN, rn_s_ifs, rn_s_raise, rn_s_brk, rn_s_cont, rn_s_pass, rn_ss_nil, rn_ss_cons, rn_flK_nxt, rn_flK_ret, rn_flK_brk, rn_flK_cont, rn_defK_ret, rn_defK_nxt, rn_bd_ite, rn_tr_bool, rn_tr_int, rn_tr_tup, rn_tr_list, rn_tr_none, rn_deref, rn_lt_int, rn_le_int, rn_gt_int, rn_ge_int, rn_add_int, rn_sub_int, rn_add_tup, rn_add_list, rn_len_tup, rn_len_list, rn_max_tup, rn_max_list, rn_min_tup, rn_min_list, rn_max2, rn_min2, rn_tuple_list, rn_tuple_tup, rn_list_scr, rn_int_int, rn_abs_int, rn_sorted_tup, rn_sorted_list, rn_all_list, rn_isi, rn_par2, rn_while, rn_eq, rn_ne, rn_in_tup, rn_notin_tup, rn_sl_tup, rn_near_int, rn_near_str, rn_eqv_int, rn_eqv_str, rn_its_tup, rn_rng1, rn_rng2, rn_lc, rn_ts_nil, rn_ts_cons, rn_for, rn_setix, rn_e_dnew, rn_e_demp, rn_e_ditems, rn_e_sset, rn_e_lset, rn_e_dcopy, rn_newDic, rn_key_str, rn_key_int, rn_dicAt_d, rn_isRef, rn_e_mt, rn_e_thk, rn_e_badd, rn_e_neg, rn_zip, rn_mt_split, rn_mt_join, rn_mt_count, rn_mtOk_s1, rn_mtOk_s2, rn_mtOk_s3, rn_sl_list, rn_near_str2, rn_near_int2, rn_near_bool, rn_eqv_bool, rn_any_list, rn_in_list, rn_notin_list, rn_e_rev, rn_lc2, rn_enum, rn_it_cell, rn_par3, rn_app, rn_list_tup, rn_list_list, rn_ty_str, rn_ty_int, rn_ty_bool, rn_ty_tup, rn_ty_list, rn_ty_none, rn_tix0, rn_tix1, rn_tix2, rn_tix3, rn_tix4, rn_tix5, rn_tix6, rn_lix0, rn_lix1, rn_lix2, rn_lix3, rn_lix4, rn_lix5, rn_lix6, Ev.start, wipe, List.getElem?_cons_zero, List.getElem?_cons_succ, List.getElem?_nil, Option.bind_some, Option.bind_none, Option.map_some, Option.map_none, id, List.set_cons_succ, List.set_cons_zero, if_true, if_false, Bool.not_true, Bool.not_false, Bool.false_eq_true, List.map_cons, List.map_nil, List.length_cons, List.length_nil, List.replicate, List.cons_append, List.nil_append, Nat.reduceSub, Nat.reduceAdd, decide_true, decide_false, Option.getD_some, beq_self_eq_true, Ev.T.store, Ev.Ts.stores, lcE, allD, mkTup, reduceIte, Bool.true_eq_false, Bool.and_true, Bool.true_and, Bool.and_false, Bool.false_and, Bool.or_true, Bool.true_or, Bool.or_false, Bool.false_or, LIM, Nat.reduceLeDiff, Nat.zero_le, List.any_cons, List.any_nil, List.all_cons, List.all_nil, rn_bd_bd, okk_ok, forQ_nxt, forQ_cont, forQ_brk, forQ_ret, lcQ_none, lcQ_some, fleast_room, G, N]
  have a8 : ∀ h, Ev.call T C (k + 2) 1003457112910434235120 [.d g, .d s, .d .none] h = .exc SX (.d .none) h := fun h => by rw [rn_call (show T 1003457112910434235120 = some fleast_keep from rfl) rfl]; simp only [rn_bd_ok, rn_bd_exc, rn_bd_stuck, rn_opt_some, rn_opt_none, rn_bnd_ap, rn_ret_ap, rn_stuck_ap, rn_lift_ap, rn_guardH_ap, rn_guard_ap, rn_ite_ap, rn_e_var, rn_e_cst, rn_e_lit, rn_e_bin, rn_e_not, rn_e_cmp, rn_e_cmp2, rn_e_isc, rn_e_and, rn_e_or, rn_e_ite, rn_e_call, rn_e_bl, rn_e_isi, rn_e_mtc, rn_e_ix, rn_e_sl, rn_e_tup, rn_e_lst, rn_e_new, rn_es_nil, rn_es_cons, rn_eo_no, rn_eo_some, rn_s_expr, rn_s_set, rn_s_sett, rn_s_ret, rn_s_retN, rn_s_ifs, rn_s_raise, rn_s_brk, rn_s_cont, rn_s_pass, rn_ss_nil, rn_ss_cons, rn_flK_nxt, rn_flK_ret, rn_flK_brk, rn_flK_cont, rn_defK_ret, rn_defK_nxt, rn_bd_ite, rn_tr_bool, rn_tr_int, rn_tr_tup, rn_tr_list, rn_tr_none, rn_deref, rn_lt_int, rn_le_int, rn_gt_int, rn_ge_int, rn_add_int, rn_sub_int, rn_add_tup, rn_add_list, rn_len_tup, rn_len_list, rn_max_tup, rn_max_list, rn_min_tup, rn_min_list, rn_max2, rn_min2, rn_tuple_list, rn_tuple_tup, rn_list_scr, rn_int_int, rn_abs_int, rn_sorted_tup, rn_sorted_list, rn_all_list, rn_isi, rn_par2, rn_while, rn_eq, rn_ne, rn_in_tup, rn_notin_tup, rn_sl_tup, rn_near_int, rn_near_str, rn_eqv_int, rn_eqv_str, rn_its_tup, rn_rng1, rn_rng2, rn_lc, rn_ts_nil, rn_ts_cons, rn_for, rn_setix, rn_e_dnew, rn_e_demp, rn_e_ditems, rn_e_sset, rn_e_lset, rn_e_dcopy, rn_newDic, rn_key_str, rn_key_int, rn_dicAt_d, rn_isRef, rn_e_mt, rn_e_thk, rn_e_badd, rn_e_neg, rn_zip, rn_mt_split, rn_mt_join, rn_mt_count, rn_mtOk_s1, rn_mtOk_s2, rn_mtOk_s3, rn_sl_list, rn_near_str2, rn_near_int2, rn_near_bool, rn_eqv_bool, rn_any_list, rn_in_list, rn_notin_list, rn_e_rev, rn_lc2, rn_enum, rn_it_cell, rn_par3, rn_app, rn_list_tup, rn_list_list, rn_ty_str, rn_ty_int, rn_ty_bool, rn_ty_tup, rn_ty_list, rn_ty_none, rn_tix0, rn_tix1, rn_tix2, rn_tix3, rn_tix4, rn_tix5, rn_tix6, rn_lix0, rn_lix1, rn_lix2, rn_lix3, rn_lix4, rn_lix5, rn_lix6, Ev.start, wipe, List.getElem?_cons_zero, List.getElem?_cons_succ, List.getElem?_nil, Option.bind_some, Option.bind_none, Option.map_some, Option.map_none, id, List.set_cons_succ, List.set_cons_zero, if_true, if_false, Bool.not_true, Bool.not_false, Bool.false_eq_true, List.map_cons, List.map_nil, List.length_cons, List.length_nil, List.replicate, List.cons_append, List.nil_append, Nat.reduceSub, Nat.reduceAdd, decide_true, decide_false, Option.getD_some, beq_self_eq_true, Ev.T.store, Ev.Ts.stores, lcE, allD, mkTup, reduceIte, Bool.true_eq_false, Bool.and_true, Bool.true_and, Bool.and_false, Bool.false_and, Bool.or_true, Bool.true_or, Bool.or_false, Bool.false_or, LIM, Nat.reduceLeDiff, Nat.zero_le, List.any_cons, List.any_nil, List.all_cons, List.all_nil, rn_bd_bd, okk_ok, forQ_nxt, forQ_cont, forQ_brk, forQ_ret, lcQ_none, lcQ_some, fleast_keep, G, N]
  have a9 : ∀ h, Ev.call T C (k + 2) 2048486809108964649050387184 [.d d] h = .ok (.d (.bool false)) h := fun h => by rw [rn_call (show T 2048486809108964649050387184 = some fis_house_step from rfl) rfl]; simp only [rn_bd_ok, rn_bd_exc, rn_bd_stuck, rn_opt_some, rn_opt_none, rn_bnd_ap, rn_ret_ap, rn_stuck_ap, rn_lift_ap, rn_guardH_ap, rn_guard_ap, rn_ite_ap, rn_e_var, rn_e_cst, rn_e_lit, rn_e_bin, rn_e_not, rn_e_cmp, rn_e_cmp2, rn_e_isc, rn_e_and, rn_e_or, rn_e_ite, rn_e_call, rn_e_bl, rn_e_isi, rn_e_mtc, rn_e_ix, rn_e_sl, rn_e_tup, rn_e_lst, rn_e_new, rn_es_nil, rn_es_cons, rn_eo_no, rn_eo_some, rn_s_expr, rn_s_set, rn_s_sett, rn_s_ret, rn_s_retN, rn_s_ifs, rn_s_raise, rn_s_brk, rn_s_cont, rn_s_pass, rn_ss_nil, rn_ss_cons, rn_flK_nxt, rn_flK_ret, rn_flK_brk, rn_flK_cont, rn_defK_ret, rn_defK_nxt, rn_bd_ite, rn_tr_bool, rn_tr_int, rn_tr_tup, rn_tr_list, rn_tr_none, rn_deref, rn_lt_int, rn_le_int, rn_gt_int, rn_ge_int, rn_add_int, rn_sub_int, rn_add_tup, rn_add_list, rn_len_tup, rn_len_list, rn_max_tup, rn_max_list, rn_min_tup, rn_min_list, rn_max2, rn_min2, rn_tuple_list, rn_tuple_tup, rn_list_scr, rn_int_int, rn_abs_int, rn_sorted_tup, rn_sorted_list, rn_all_list, rn_isi, rn_par2, rn_while, rn_eq, rn_ne, rn_in_tup, rn_notin_tup, rn_sl_tup, rn_near_int, rn_near_str, rn_eqv_int, rn_eqv_str, rn_its_tup, rn_rng1, rn_rng2, rn_lc, rn_ts_nil, rn_ts_cons, rn_for, rn_setix, rn_e_dnew, rn_e_demp, rn_e_ditems, rn_e_sset, rn_e_lset, rn_e_dcopy, rn_newDic, rn_key_str, rn_key_int, rn_dicAt_d, rn_isRef, rn_e_mt, rn_e_thk, rn_e_badd, rn_e_neg, rn_zip, rn_mt_split, rn_mt_join, rn_mt_count, rn_mtOk_s1, rn_mtOk_s2, rn_mtOk_s3, rn_sl_list, rn_near_str2, rn_near_int2, rn_near_bool, rn_eqv_bool, rn_any_list, rn_in_list, rn_notin_list, rn_e_rev, rn_lc2, rn_enum, rn_it_cell, rn_par3, rn_app, rn_list_tup, rn_list_list, rn_ty_str, rn_ty_int, rn_ty_bool, rn_ty_tup, rn_ty_list, rn_ty_none, rn_tix0, rn_tix1, rn_tix2, rn_tix3, rn_tix4, rn_tix5, rn_tix6, rn_lix0, rn_lix1, rn_lix2, rn_lix3, rn_lix4, rn_lix5, rn_lix6, Ev.start, wipe, List.getElem?_cons_zero, List.getElem?_cons_succ, List.getElem?_nil, Option.bind_some, Option.bind_none, Option.map_some, Option.map_none, id, List.set_cons_succ, List.set_cons_zero, if_true, if_false, Bool.not_true, Bool.not_false, Bool.false_eq_true, List.map_cons, List.map_nil, List.length_cons, List.length_nil, List.replicate, List.cons_append, List.nil_append, Nat.reduceSub, Nat.reduceAdd, decide_true, decide_false, Option.getD_some, beq_self_eq_true, Ev.T.store, Ev.Ts.stores, lcE, allD, mkTup, reduceIte, Bool.true_eq_false, Bool.and_true, Bool.true_and, Bool.and_false, Bool.false_and, Bool.or_true, Bool.true_or, Bool.or_false, Bool.false_or, LIM, Nat.reduceLeDiff, Nat.zero_le, List.any_cons, List.any_nil, List.all_cons, List.all_nil, rn_bd_bd, okk_ok, forQ_nxt, forQ_cont, forQ_brk, forQ_ret, lcQ_none, lcQ_some, fis_house_step, H]
  rw [rn_call (show T 497680239047065712789672713667801828 = some f_law_step_refused from rfl) rfl]
  have e0 : Ev.start f_law_step_refused.ns [PV.d d] = [some (.d d), none, none, none] := rfl
  have s0 : evS ⟨Ev.call T C (k + 2), C, callT T⟩ (.sett (.tp (.cons (.nm 2) (.cons (.nm 3) .nil))) (.tup (.cons (.tup (.cons (.lit (.int (0))) (.cons (.tup .nil) .nil))) (.cons (.tup (.cons (.tup (.cons (.lit (.str [116, 117, 114, 110])) .nil)) (.cons (.var 0) .nil))) .nil)))) [some (.d d), none, none, none] h = .ok (.nxt [some (.d d), none, some (.d g), some (.d s)]) h := by
    subst hg hs
    simp only [rn_bd_ok, rn_bd_exc, rn_bd_stuck, rn_opt_some, rn_opt_none, rn_bnd_ap, rn_ret_ap, rn_stuck_ap, rn_lift_ap, rn_guardH_ap, rn_guard_ap, rn_ite_ap, rn_e_var, rn_e_cst, rn_e_lit, rn_e_bin, rn_e_not, rn_e_cmp, rn_e_cmp2, rn_e_isc, rn_e_and, rn_e_or, rn_e_ite, rn_e_call, rn_e_bl, rn_e_isi, rn_e_mtc, rn_e_ix, rn_e_sl, rn_e_tup, rn_e_lst, rn_e_new, rn_es_nil, rn_es_cons, rn_eo_no, rn_eo_some, rn_s_expr, rn_s_set, rn_s_sett, rn_s_ret, rn_s_retN, rn_s_ifs, rn_s_raise, rn_s_brk, rn_s_cont, rn_s_pass, rn_ss_nil, rn_ss_cons, rn_flK_nxt, rn_flK_ret, rn_flK_brk, rn_flK_cont, rn_defK_ret, rn_defK_nxt, rn_bd_ite, rn_tr_bool, rn_tr_int, rn_tr_tup, rn_tr_list, rn_tr_none, rn_deref, rn_lt_int, rn_le_int, rn_gt_int, rn_ge_int, rn_add_int, rn_sub_int, rn_add_tup, rn_add_list, rn_len_tup, rn_len_list, rn_max_tup, rn_max_list, rn_min_tup, rn_min_list, rn_max2, rn_min2, rn_tuple_list, rn_tuple_tup, rn_list_scr, rn_int_int, rn_abs_int, rn_sorted_tup, rn_sorted_list, rn_all_list, rn_isi, rn_par2, rn_while, rn_eq, rn_ne, rn_in_tup, rn_notin_tup, rn_sl_tup, rn_near_int, rn_near_str, rn_eqv_int, rn_eqv_str, rn_its_tup, rn_rng1, rn_rng2, rn_lc, rn_ts_nil, rn_ts_cons, rn_for, rn_setix, rn_e_dnew, rn_e_demp, rn_e_ditems, rn_e_sset, rn_e_lset, rn_e_dcopy, rn_newDic, rn_key_str, rn_key_int, rn_dicAt_d, rn_isRef, rn_e_mt, rn_e_thk, rn_e_badd, rn_e_neg, rn_zip, rn_mt_split, rn_mt_join, rn_mt_count, rn_mtOk_s1, rn_mtOk_s2, rn_mtOk_s3, rn_sl_list, rn_near_str2, rn_near_int2, rn_near_bool, rn_eqv_bool, rn_any_list, rn_in_list, rn_notin_list, rn_e_rev, rn_lc2, rn_enum, rn_it_cell, rn_par3, rn_app, rn_list_tup, rn_list_list, rn_ty_str, rn_ty_int, rn_ty_bool, rn_ty_tup, rn_ty_list, rn_ty_none, rn_tix0, rn_tix1, rn_tix2, rn_tix3, rn_tix4, rn_tix5, rn_tix6, rn_lix0, rn_lix1, rn_lix2, rn_lix3, rn_lix4, rn_lix5, rn_lix6, Ev.start, wipe, List.getElem?_cons_zero, List.getElem?_cons_succ, List.getElem?_nil, Option.bind_some, Option.bind_none, Option.map_some, Option.map_none, id, List.set_cons_succ, List.set_cons_zero, if_true, if_false, Bool.not_true, Bool.not_false, Bool.false_eq_true, List.map_cons, List.map_nil, List.length_cons, List.length_nil, List.replicate, List.cons_append, List.nil_append, Nat.reduceSub, Nat.reduceAdd, decide_true, decide_false, Option.getD_some, beq_self_eq_true, Ev.T.store, Ev.Ts.stores, lcE, allD, mkTup, reduceIte, Bool.true_eq_false, Bool.and_true, Bool.true_and, Bool.and_false, Bool.false_and, Bool.or_true, Bool.true_or, Bool.or_false, Bool.false_or, LIM, Nat.reduceLeDiff, Nat.zero_le, List.any_cons, List.any_nil, List.all_cons, List.all_nil, rn_bd_bd, okk_ok, forQ_nxt, forQ_cont, forQ_brk, forQ_ret, lcQ_none, lcQ_some, ]
  have s1 : ∀ e, evE ⟨Ev.call T C (k + 2), C, callT T⟩ e [some (.d d), none, some (.d g), some (.d s)] h = .ok (.d (.str [115, 116, 101, 112, 115])) h → evS ⟨Ev.call T C (k + 2), C, callT T⟩ (.set 1 (.new (.cons e .nil))) [some (.d d), none, some (.d g), some (.d s)] h = .ok (.nxt [some (.d d), some (.ref h.length), some (.d g), some (.d s)]) (h ++ [.lst [.d (.str [115, 116, 101, 112, 115])]]) := fun e he => by simp only [rn_bd_ok, rn_bd_exc, rn_bd_stuck, rn_opt_some, rn_opt_none, rn_bnd_ap, rn_ret_ap, rn_stuck_ap, rn_lift_ap, rn_guardH_ap, rn_guard_ap, rn_ite_ap, rn_e_var, rn_e_cst, rn_e_lit, rn_e_bin, rn_e_not, rn_e_cmp, rn_e_cmp2, rn_e_isc, rn_e_and, rn_e_or, rn_e_ite, rn_e_call, rn_e_bl, rn_e_isi, rn_e_mtc, rn_e_ix, rn_e_sl, rn_e_tup, rn_e_lst, rn_e_new, rn_es_nil, rn_es_cons, rn_eo_no, rn_eo_some, rn_s_expr, rn_s_set, rn_s_sett, rn_s_ret, rn_s_retN, rn_s_ifs, rn_s_raise, rn_s_brk, rn_s_cont, rn_s_pass, rn_ss_nil, rn_ss_cons, rn_flK_nxt, rn_flK_ret, rn_flK_brk, rn_flK_cont, rn_defK_ret, rn_defK_nxt, rn_bd_ite, rn_tr_bool, rn_tr_int, rn_tr_tup, rn_tr_list, rn_tr_none, rn_deref, rn_lt_int, rn_le_int, rn_gt_int, rn_ge_int, rn_add_int, rn_sub_int, rn_add_tup, rn_add_list, rn_len_tup, rn_len_list, rn_max_tup, rn_max_list, rn_min_tup, rn_min_list, rn_max2, rn_min2, rn_tuple_list, rn_tuple_tup, rn_list_scr, rn_int_int, rn_abs_int, rn_sorted_tup, rn_sorted_list, rn_all_list, rn_isi, rn_par2, rn_while, rn_eq, rn_ne, rn_in_tup, rn_notin_tup, rn_sl_tup, rn_near_int, rn_near_str, rn_eqv_int, rn_eqv_str, rn_its_tup, rn_rng1, rn_rng2, rn_lc, rn_ts_nil, rn_ts_cons, rn_for, rn_setix, rn_e_dnew, rn_e_demp, rn_e_ditems, rn_e_sset, rn_e_lset, rn_e_dcopy, rn_newDic, rn_key_str, rn_key_int, rn_dicAt_d, rn_isRef, rn_e_mt, rn_e_thk, rn_e_badd, rn_e_neg, rn_zip, rn_mt_split, rn_mt_join, rn_mt_count, rn_mtOk_s1, rn_mtOk_s2, rn_mtOk_s3, rn_sl_list, rn_near_str2, rn_near_int2, rn_near_bool, rn_eqv_bool, rn_any_list, rn_in_list, rn_notin_list, rn_e_rev, rn_lc2, rn_enum, rn_it_cell, rn_par3, rn_app, rn_list_tup, rn_list_list, rn_ty_str, rn_ty_int, rn_ty_bool, rn_ty_tup, rn_ty_list, rn_ty_none, rn_tix0, rn_tix1, rn_tix2, rn_tix3, rn_tix4, rn_tix5, rn_tix6, rn_lix0, rn_lix1, rn_lix2, rn_lix3, rn_lix4, rn_lix5, rn_lix6, Ev.start, wipe, List.getElem?_cons_zero, List.getElem?_cons_succ, List.getElem?_nil, Option.bind_some, Option.bind_none, Option.map_some, Option.map_none, id, List.set_cons_succ, List.set_cons_zero, if_true, if_false, Bool.not_true, Bool.not_false, Bool.false_eq_true, List.map_cons, List.map_nil, List.length_cons, List.length_nil, List.replicate, List.cons_append, List.nil_append, Nat.reduceSub, Nat.reduceAdd, decide_true, decide_false, Option.getD_some, beq_self_eq_true, Ev.T.store, Ev.Ts.stores, lcE, allD, mkTup, reduceIte, Bool.true_eq_false, Bool.and_true, Bool.true_and, Bool.and_false, Bool.false_and, Bool.or_true, Bool.true_or, Bool.or_false, Bool.false_or, LIM, Nat.reduceLeDiff, Nat.zero_le, List.any_cons, List.any_nil, List.all_cons, List.all_nil, rn_bd_bd, okk_ok, forQ_nxt, forQ_cont, forQ_brk, forQ_ret, lcQ_none, lcQ_some, he]
  rw [e0]
  unfold f_law_step_refused
  dsimp only
  rw [rn_seq_nxt s0, rn_seq_nxt (s1 _ (thk_exc (c := SX) (v := .d .none) rfl (by simp only [rn_bd_ok, rn_bd_exc, rn_bd_stuck, rn_opt_some, rn_opt_none, rn_bnd_ap, rn_ret_ap, rn_stuck_ap, rn_lift_ap, rn_guardH_ap, rn_guard_ap, rn_ite_ap, rn_e_var, rn_e_cst, rn_e_lit, rn_e_bin, rn_e_not, rn_e_cmp, rn_e_cmp2, rn_e_isc, rn_e_and, rn_e_or, rn_e_ite, rn_e_call, rn_e_bl, rn_e_isi, rn_e_mtc, rn_e_ix, rn_e_sl, rn_e_tup, rn_e_lst, rn_e_new, rn_es_nil, rn_es_cons, rn_eo_no, rn_eo_some, rn_s_expr, rn_s_set, rn_s_sett, rn_s_ret, rn_s_retN, rn_s_ifs, rn_s_raise, rn_s_brk, rn_s_cont, rn_s_pass, rn_ss_nil, rn_ss_cons, rn_flK_nxt, rn_flK_ret, rn_flK_brk, rn_flK_cont, rn_defK_ret, rn_defK_nxt, rn_bd_ite, rn_tr_bool, rn_tr_int, rn_tr_tup, rn_tr_list, rn_tr_none, rn_deref, rn_lt_int, rn_le_int, rn_gt_int, rn_ge_int, rn_add_int, rn_sub_int, rn_add_tup, rn_add_list, rn_len_tup, rn_len_list, rn_max_tup, rn_max_list, rn_min_tup, rn_min_list, rn_max2, rn_min2, rn_tuple_list, rn_tuple_tup, rn_list_scr, rn_int_int, rn_abs_int, rn_sorted_tup, rn_sorted_list, rn_all_list, rn_isi, rn_par2, rn_while, rn_eq, rn_ne, rn_in_tup, rn_notin_tup, rn_sl_tup, rn_near_int, rn_near_str, rn_eqv_int, rn_eqv_str, rn_its_tup, rn_rng1, rn_rng2, rn_lc, rn_ts_nil, rn_ts_cons, rn_for, rn_setix, rn_e_dnew, rn_e_demp, rn_e_ditems, rn_e_sset, rn_e_lset, rn_e_dcopy, rn_newDic, rn_key_str, rn_key_int, rn_dicAt_d, rn_isRef, rn_e_mt, rn_e_thk, rn_e_badd, rn_e_neg, rn_zip, rn_mt_split, rn_mt_join, rn_mt_count, rn_mtOk_s1, rn_mtOk_s2, rn_mtOk_s3, rn_sl_list, rn_near_str2, rn_near_int2, rn_near_bool, rn_eqv_bool, rn_any_list, rn_in_list, rn_notin_list, rn_e_rev, rn_lc2, rn_enum, rn_it_cell, rn_par3, rn_app, rn_list_tup, rn_list_list, rn_ty_str, rn_ty_int, rn_ty_bool, rn_ty_tup, rn_ty_list, rn_ty_none, rn_tix0, rn_tix1, rn_tix2, rn_tix3, rn_tix4, rn_tix5, rn_tix6, rn_lix0, rn_lix1, rn_lix2, rn_lix3, rn_lix4, rn_lix5, rn_lix6, Ev.start, wipe, List.getElem?_cons_zero, List.getElem?_cons_succ, List.getElem?_nil, Option.bind_some, Option.bind_none, Option.map_some, Option.map_none, id, List.set_cons_succ, List.set_cons_zero, if_true, if_false, Bool.not_true, Bool.not_false, Bool.false_eq_true, List.map_cons, List.map_nil, List.length_cons, List.length_nil, List.replicate, List.cons_append, List.nil_append, Nat.reduceSub, Nat.reduceAdd, decide_true, decide_false, Option.getD_some, beq_self_eq_true, Ev.T.store, Ev.Ts.stores, lcE, allD, mkTup, reduceIte, Bool.true_eq_false, Bool.and_true, Bool.true_and, Bool.and_false, Bool.false_and, Bool.or_true, Bool.true_or, Bool.or_false, Bool.false_or, LIM, Nat.reduceLeDiff, Nat.zero_le, List.any_cons, List.any_nil, List.all_cons, List.all_nil, rn_bd_bd, okk_ok, forQ_nxt, forQ_cont, forQ_brk, forQ_ret, lcQ_none, lcQ_some, a3]) rfl))]
  rw [app_step (by simp) fun h => thk_exc (c := SX) (v := .d .none) rfl (by simp only [rn_bd_ok, rn_bd_exc, rn_bd_stuck, rn_opt_some, rn_opt_none, rn_bnd_ap, rn_ret_ap, rn_stuck_ap, rn_lift_ap, rn_guardH_ap, rn_guard_ap, rn_ite_ap, rn_e_var, rn_e_cst, rn_e_lit, rn_e_bin, rn_e_not, rn_e_cmp, rn_e_cmp2, rn_e_isc, rn_e_and, rn_e_or, rn_e_ite, rn_e_call, rn_e_bl, rn_e_isi, rn_e_mtc, rn_e_ix, rn_e_sl, rn_e_tup, rn_e_lst, rn_e_new, rn_es_nil, rn_es_cons, rn_eo_no, rn_eo_some, rn_s_expr, rn_s_set, rn_s_sett, rn_s_ret, rn_s_retN, rn_s_ifs, rn_s_raise, rn_s_brk, rn_s_cont, rn_s_pass, rn_ss_nil, rn_ss_cons, rn_flK_nxt, rn_flK_ret, rn_flK_brk, rn_flK_cont, rn_defK_ret, rn_defK_nxt, rn_bd_ite, rn_tr_bool, rn_tr_int, rn_tr_tup, rn_tr_list, rn_tr_none, rn_deref, rn_lt_int, rn_le_int, rn_gt_int, rn_ge_int, rn_add_int, rn_sub_int, rn_add_tup, rn_add_list, rn_len_tup, rn_len_list, rn_max_tup, rn_max_list, rn_min_tup, rn_min_list, rn_max2, rn_min2, rn_tuple_list, rn_tuple_tup, rn_list_scr, rn_int_int, rn_abs_int, rn_sorted_tup, rn_sorted_list, rn_all_list, rn_isi, rn_par2, rn_while, rn_eq, rn_ne, rn_in_tup, rn_notin_tup, rn_sl_tup, rn_near_int, rn_near_str, rn_eqv_int, rn_eqv_str, rn_its_tup, rn_rng1, rn_rng2, rn_lc, rn_ts_nil, rn_ts_cons, rn_for, rn_setix, rn_e_dnew, rn_e_demp, rn_e_ditems, rn_e_sset, rn_e_lset, rn_e_dcopy, rn_newDic, rn_key_str, rn_key_int, rn_dicAt_d, rn_isRef, rn_e_mt, rn_e_thk, rn_e_badd, rn_e_neg, rn_zip, rn_mt_split, rn_mt_join, rn_mt_count, rn_mtOk_s1, rn_mtOk_s2, rn_mtOk_s3, rn_sl_list, rn_near_str2, rn_near_int2, rn_near_bool, rn_eqv_bool, rn_any_list, rn_in_list, rn_notin_list, rn_e_rev, rn_lc2, rn_enum, rn_it_cell, rn_par3, rn_app, rn_list_tup, rn_list_list, rn_ty_str, rn_ty_int, rn_ty_bool, rn_ty_tup, rn_ty_list, rn_ty_none, rn_tix0, rn_tix1, rn_tix2, rn_tix3, rn_tix4, rn_tix5, rn_tix6, rn_lix0, rn_lix1, rn_lix2, rn_lix3, rn_lix4, rn_lix5, rn_lix6, Ev.start, wipe, List.getElem?_cons_zero, List.getElem?_cons_succ, List.getElem?_nil, Option.bind_some, Option.bind_none, Option.map_some, Option.map_none, id, List.set_cons_succ, List.set_cons_zero, if_true, if_false, Bool.not_true, Bool.not_false, Bool.false_eq_true, List.map_cons, List.map_nil, List.length_cons, List.length_nil, List.replicate, List.cons_append, List.nil_append, Nat.reduceSub, Nat.reduceAdd, decide_true, decide_false, Option.getD_some, beq_self_eq_true, Ev.T.store, Ev.Ts.stores, lcE, allD, mkTup, reduceIte, Bool.true_eq_false, Bool.and_true, Bool.true_and, Bool.and_false, Bool.false_and, Bool.or_true, Bool.true_or, Bool.or_false, Bool.false_or, LIM, Nat.reduceLeDiff, Nat.zero_le, List.any_cons, List.any_nil, List.all_cons, List.all_nil, rn_bd_bd, okk_ok, forQ_nxt, forQ_cont, forQ_brk, forQ_ret, lcQ_none, lcQ_some, a4]) rfl]
  rw [app_step (by simp) fun h => thk_exc (c := SX) (v := .d .none) rfl (by simp only [rn_bd_ok, rn_bd_exc, rn_bd_stuck, rn_opt_some, rn_opt_none, rn_bnd_ap, rn_ret_ap, rn_stuck_ap, rn_lift_ap, rn_guardH_ap, rn_guard_ap, rn_ite_ap, rn_e_var, rn_e_cst, rn_e_lit, rn_e_bin, rn_e_not, rn_e_cmp, rn_e_cmp2, rn_e_isc, rn_e_and, rn_e_or, rn_e_ite, rn_e_call, rn_e_bl, rn_e_isi, rn_e_mtc, rn_e_ix, rn_e_sl, rn_e_tup, rn_e_lst, rn_e_new, rn_es_nil, rn_es_cons, rn_eo_no, rn_eo_some, rn_s_expr, rn_s_set, rn_s_sett, rn_s_ret, rn_s_retN, rn_s_ifs, rn_s_raise, rn_s_brk, rn_s_cont, rn_s_pass, rn_ss_nil, rn_ss_cons, rn_flK_nxt, rn_flK_ret, rn_flK_brk, rn_flK_cont, rn_defK_ret, rn_defK_nxt, rn_bd_ite, rn_tr_bool, rn_tr_int, rn_tr_tup, rn_tr_list, rn_tr_none, rn_deref, rn_lt_int, rn_le_int, rn_gt_int, rn_ge_int, rn_add_int, rn_sub_int, rn_add_tup, rn_add_list, rn_len_tup, rn_len_list, rn_max_tup, rn_max_list, rn_min_tup, rn_min_list, rn_max2, rn_min2, rn_tuple_list, rn_tuple_tup, rn_list_scr, rn_int_int, rn_abs_int, rn_sorted_tup, rn_sorted_list, rn_all_list, rn_isi, rn_par2, rn_while, rn_eq, rn_ne, rn_in_tup, rn_notin_tup, rn_sl_tup, rn_near_int, rn_near_str, rn_eqv_int, rn_eqv_str, rn_its_tup, rn_rng1, rn_rng2, rn_lc, rn_ts_nil, rn_ts_cons, rn_for, rn_setix, rn_e_dnew, rn_e_demp, rn_e_ditems, rn_e_sset, rn_e_lset, rn_e_dcopy, rn_newDic, rn_key_str, rn_key_int, rn_dicAt_d, rn_isRef, rn_e_mt, rn_e_thk, rn_e_badd, rn_e_neg, rn_zip, rn_mt_split, rn_mt_join, rn_mt_count, rn_mtOk_s1, rn_mtOk_s2, rn_mtOk_s3, rn_sl_list, rn_near_str2, rn_near_int2, rn_near_bool, rn_eqv_bool, rn_any_list, rn_in_list, rn_notin_list, rn_e_rev, rn_lc2, rn_enum, rn_it_cell, rn_par3, rn_app, rn_list_tup, rn_list_list, rn_ty_str, rn_ty_int, rn_ty_bool, rn_ty_tup, rn_ty_list, rn_ty_none, rn_tix0, rn_tix1, rn_tix2, rn_tix3, rn_tix4, rn_tix5, rn_tix6, rn_lix0, rn_lix1, rn_lix2, rn_lix3, rn_lix4, rn_lix5, rn_lix6, Ev.start, wipe, List.getElem?_cons_zero, List.getElem?_cons_succ, List.getElem?_nil, Option.bind_some, Option.bind_none, Option.map_some, Option.map_none, id, List.set_cons_succ, List.set_cons_zero, if_true, if_false, Bool.not_true, Bool.not_false, Bool.false_eq_true, List.map_cons, List.map_nil, List.length_cons, List.length_nil, List.replicate, List.cons_append, List.nil_append, Nat.reduceSub, Nat.reduceAdd, decide_true, decide_false, Option.getD_some, beq_self_eq_true, Ev.T.store, Ev.Ts.stores, lcE, allD, mkTup, reduceIte, Bool.true_eq_false, Bool.and_true, Bool.true_and, Bool.and_false, Bool.false_and, Bool.or_true, Bool.true_or, Bool.or_false, Bool.false_or, LIM, Nat.reduceLeDiff, Nat.zero_le, List.any_cons, List.any_nil, List.all_cons, List.all_nil, rn_bd_bd, okk_ok, forQ_nxt, forQ_cont, forQ_brk, forQ_ret, lcQ_none, lcQ_some, a5]) rfl]
  rw [app_step (by simp) fun h => thk_exc (c := SX) (v := .d .none) rfl (by simp only [rn_bd_ok, rn_bd_exc, rn_bd_stuck, rn_opt_some, rn_opt_none, rn_bnd_ap, rn_ret_ap, rn_stuck_ap, rn_lift_ap, rn_guardH_ap, rn_guard_ap, rn_ite_ap, rn_e_var, rn_e_cst, rn_e_lit, rn_e_bin, rn_e_not, rn_e_cmp, rn_e_cmp2, rn_e_isc, rn_e_and, rn_e_or, rn_e_ite, rn_e_call, rn_e_bl, rn_e_isi, rn_e_mtc, rn_e_ix, rn_e_sl, rn_e_tup, rn_e_lst, rn_e_new, rn_es_nil, rn_es_cons, rn_eo_no, rn_eo_some, rn_s_expr, rn_s_set, rn_s_sett, rn_s_ret, rn_s_retN, rn_s_ifs, rn_s_raise, rn_s_brk, rn_s_cont, rn_s_pass, rn_ss_nil, rn_ss_cons, rn_flK_nxt, rn_flK_ret, rn_flK_brk, rn_flK_cont, rn_defK_ret, rn_defK_nxt, rn_bd_ite, rn_tr_bool, rn_tr_int, rn_tr_tup, rn_tr_list, rn_tr_none, rn_deref, rn_lt_int, rn_le_int, rn_gt_int, rn_ge_int, rn_add_int, rn_sub_int, rn_add_tup, rn_add_list, rn_len_tup, rn_len_list, rn_max_tup, rn_max_list, rn_min_tup, rn_min_list, rn_max2, rn_min2, rn_tuple_list, rn_tuple_tup, rn_list_scr, rn_int_int, rn_abs_int, rn_sorted_tup, rn_sorted_list, rn_all_list, rn_isi, rn_par2, rn_while, rn_eq, rn_ne, rn_in_tup, rn_notin_tup, rn_sl_tup, rn_near_int, rn_near_str, rn_eqv_int, rn_eqv_str, rn_its_tup, rn_rng1, rn_rng2, rn_lc, rn_ts_nil, rn_ts_cons, rn_for, rn_setix, rn_e_dnew, rn_e_demp, rn_e_ditems, rn_e_sset, rn_e_lset, rn_e_dcopy, rn_newDic, rn_key_str, rn_key_int, rn_dicAt_d, rn_isRef, rn_e_mt, rn_e_thk, rn_e_badd, rn_e_neg, rn_zip, rn_mt_split, rn_mt_join, rn_mt_count, rn_mtOk_s1, rn_mtOk_s2, rn_mtOk_s3, rn_sl_list, rn_near_str2, rn_near_int2, rn_near_bool, rn_eqv_bool, rn_any_list, rn_in_list, rn_notin_list, rn_e_rev, rn_lc2, rn_enum, rn_it_cell, rn_par3, rn_app, rn_list_tup, rn_list_list, rn_ty_str, rn_ty_int, rn_ty_bool, rn_ty_tup, rn_ty_list, rn_ty_none, rn_tix0, rn_tix1, rn_tix2, rn_tix3, rn_tix4, rn_tix5, rn_tix6, rn_lix0, rn_lix1, rn_lix2, rn_lix3, rn_lix4, rn_lix5, rn_lix6, Ev.start, wipe, List.getElem?_cons_zero, List.getElem?_cons_succ, List.getElem?_nil, Option.bind_some, Option.bind_none, Option.map_some, Option.map_none, id, List.set_cons_succ, List.set_cons_zero, if_true, if_false, Bool.not_true, Bool.not_false, Bool.false_eq_true, List.map_cons, List.map_nil, List.length_cons, List.length_nil, List.replicate, List.cons_append, List.nil_append, Nat.reduceSub, Nat.reduceAdd, decide_true, decide_false, Option.getD_some, beq_self_eq_true, Ev.T.store, Ev.Ts.stores, lcE, allD, mkTup, reduceIte, Bool.true_eq_false, Bool.and_true, Bool.true_and, Bool.and_false, Bool.false_and, Bool.or_true, Bool.true_or, Bool.or_false, Bool.false_or, LIM, Nat.reduceLeDiff, Nat.zero_le, List.any_cons, List.any_nil, List.all_cons, List.all_nil, rn_bd_bd, okk_ok, forQ_nxt, forQ_cont, forQ_brk, forQ_ret, lcQ_none, lcQ_some, a6]) rfl]
  rw [app_step (by simp) fun h => thk_exc (c := SX) (v := .d .none) rfl (by simp only [rn_bd_ok, rn_bd_exc, rn_bd_stuck, rn_opt_some, rn_opt_none, rn_bnd_ap, rn_ret_ap, rn_stuck_ap, rn_lift_ap, rn_guardH_ap, rn_guard_ap, rn_ite_ap, rn_e_var, rn_e_cst, rn_e_lit, rn_e_bin, rn_e_not, rn_e_cmp, rn_e_cmp2, rn_e_isc, rn_e_and, rn_e_or, rn_e_ite, rn_e_call, rn_e_bl, rn_e_isi, rn_e_mtc, rn_e_ix, rn_e_sl, rn_e_tup, rn_e_lst, rn_e_new, rn_es_nil, rn_es_cons, rn_eo_no, rn_eo_some, rn_s_expr, rn_s_set, rn_s_sett, rn_s_ret, rn_s_retN, rn_s_ifs, rn_s_raise, rn_s_brk, rn_s_cont, rn_s_pass, rn_ss_nil, rn_ss_cons, rn_flK_nxt, rn_flK_ret, rn_flK_brk, rn_flK_cont, rn_defK_ret, rn_defK_nxt, rn_bd_ite, rn_tr_bool, rn_tr_int, rn_tr_tup, rn_tr_list, rn_tr_none, rn_deref, rn_lt_int, rn_le_int, rn_gt_int, rn_ge_int, rn_add_int, rn_sub_int, rn_add_tup, rn_add_list, rn_len_tup, rn_len_list, rn_max_tup, rn_max_list, rn_min_tup, rn_min_list, rn_max2, rn_min2, rn_tuple_list, rn_tuple_tup, rn_list_scr, rn_int_int, rn_abs_int, rn_sorted_tup, rn_sorted_list, rn_all_list, rn_isi, rn_par2, rn_while, rn_eq, rn_ne, rn_in_tup, rn_notin_tup, rn_sl_tup, rn_near_int, rn_near_str, rn_eqv_int, rn_eqv_str, rn_its_tup, rn_rng1, rn_rng2, rn_lc, rn_ts_nil, rn_ts_cons, rn_for, rn_setix, rn_e_dnew, rn_e_demp, rn_e_ditems, rn_e_sset, rn_e_lset, rn_e_dcopy, rn_newDic, rn_key_str, rn_key_int, rn_dicAt_d, rn_isRef, rn_e_mt, rn_e_thk, rn_e_badd, rn_e_neg, rn_zip, rn_mt_split, rn_mt_join, rn_mt_count, rn_mtOk_s1, rn_mtOk_s2, rn_mtOk_s3, rn_sl_list, rn_near_str2, rn_near_int2, rn_near_bool, rn_eqv_bool, rn_any_list, rn_in_list, rn_notin_list, rn_e_rev, rn_lc2, rn_enum, rn_it_cell, rn_par3, rn_app, rn_list_tup, rn_list_list, rn_ty_str, rn_ty_int, rn_ty_bool, rn_ty_tup, rn_ty_list, rn_ty_none, rn_tix0, rn_tix1, rn_tix2, rn_tix3, rn_tix4, rn_tix5, rn_tix6, rn_lix0, rn_lix1, rn_lix2, rn_lix3, rn_lix4, rn_lix5, rn_lix6, Ev.start, wipe, List.getElem?_cons_zero, List.getElem?_cons_succ, List.getElem?_nil, Option.bind_some, Option.bind_none, Option.map_some, Option.map_none, id, List.set_cons_succ, List.set_cons_zero, if_true, if_false, Bool.not_true, Bool.not_false, Bool.false_eq_true, List.map_cons, List.map_nil, List.length_cons, List.length_nil, List.replicate, List.cons_append, List.nil_append, Nat.reduceSub, Nat.reduceAdd, decide_true, decide_false, Option.getD_some, beq_self_eq_true, Ev.T.store, Ev.Ts.stores, lcE, allD, mkTup, reduceIte, Bool.true_eq_false, Bool.and_true, Bool.true_and, Bool.and_false, Bool.false_and, Bool.or_true, Bool.true_or, Bool.or_false, Bool.false_or, LIM, Nat.reduceLeDiff, Nat.zero_le, List.any_cons, List.any_nil, List.all_cons, List.all_nil, rn_bd_bd, okk_ok, forQ_nxt, forQ_cont, forQ_brk, forQ_ret, lcQ_none, lcQ_some, a7]) rfl]
  rw [app_step (by simp) fun h => thk_exc (c := SX) (v := .d .none) rfl (by simp only [rn_bd_ok, rn_bd_exc, rn_bd_stuck, rn_opt_some, rn_opt_none, rn_bnd_ap, rn_ret_ap, rn_stuck_ap, rn_lift_ap, rn_guardH_ap, rn_guard_ap, rn_ite_ap, rn_e_var, rn_e_cst, rn_e_lit, rn_e_bin, rn_e_not, rn_e_cmp, rn_e_cmp2, rn_e_isc, rn_e_and, rn_e_or, rn_e_ite, rn_e_call, rn_e_bl, rn_e_isi, rn_e_mtc, rn_e_ix, rn_e_sl, rn_e_tup, rn_e_lst, rn_e_new, rn_es_nil, rn_es_cons, rn_eo_no, rn_eo_some, rn_s_expr, rn_s_set, rn_s_sett, rn_s_ret, rn_s_retN, rn_s_ifs, rn_s_raise, rn_s_brk, rn_s_cont, rn_s_pass, rn_ss_nil, rn_ss_cons, rn_flK_nxt, rn_flK_ret, rn_flK_brk, rn_flK_cont, rn_defK_ret, rn_defK_nxt, rn_bd_ite, rn_tr_bool, rn_tr_int, rn_tr_tup, rn_tr_list, rn_tr_none, rn_deref, rn_lt_int, rn_le_int, rn_gt_int, rn_ge_int, rn_add_int, rn_sub_int, rn_add_tup, rn_add_list, rn_len_tup, rn_len_list, rn_max_tup, rn_max_list, rn_min_tup, rn_min_list, rn_max2, rn_min2, rn_tuple_list, rn_tuple_tup, rn_list_scr, rn_int_int, rn_abs_int, rn_sorted_tup, rn_sorted_list, rn_all_list, rn_isi, rn_par2, rn_while, rn_eq, rn_ne, rn_in_tup, rn_notin_tup, rn_sl_tup, rn_near_int, rn_near_str, rn_eqv_int, rn_eqv_str, rn_its_tup, rn_rng1, rn_rng2, rn_lc, rn_ts_nil, rn_ts_cons, rn_for, rn_setix, rn_e_dnew, rn_e_demp, rn_e_ditems, rn_e_sset, rn_e_lset, rn_e_dcopy, rn_newDic, rn_key_str, rn_key_int, rn_dicAt_d, rn_isRef, rn_e_mt, rn_e_thk, rn_e_badd, rn_e_neg, rn_zip, rn_mt_split, rn_mt_join, rn_mt_count, rn_mtOk_s1, rn_mtOk_s2, rn_mtOk_s3, rn_sl_list, rn_near_str2, rn_near_int2, rn_near_bool, rn_eqv_bool, rn_any_list, rn_in_list, rn_notin_list, rn_e_rev, rn_lc2, rn_enum, rn_it_cell, rn_par3, rn_app, rn_list_tup, rn_list_list, rn_ty_str, rn_ty_int, rn_ty_bool, rn_ty_tup, rn_ty_list, rn_ty_none, rn_tix0, rn_tix1, rn_tix2, rn_tix3, rn_tix4, rn_tix5, rn_tix6, rn_lix0, rn_lix1, rn_lix2, rn_lix3, rn_lix4, rn_lix5, rn_lix6, Ev.start, wipe, List.getElem?_cons_zero, List.getElem?_cons_succ, List.getElem?_nil, Option.bind_some, Option.bind_none, Option.map_some, Option.map_none, id, List.set_cons_succ, List.set_cons_zero, if_true, if_false, Bool.not_true, Bool.not_false, Bool.false_eq_true, List.map_cons, List.map_nil, List.length_cons, List.length_nil, List.replicate, List.cons_append, List.nil_append, Nat.reduceSub, Nat.reduceAdd, decide_true, decide_false, Option.getD_some, beq_self_eq_true, Ev.T.store, Ev.Ts.stores, lcE, allD, mkTup, reduceIte, Bool.true_eq_false, Bool.and_true, Bool.true_and, Bool.and_false, Bool.false_and, Bool.or_true, Bool.true_or, Bool.or_false, Bool.false_or, LIM, Nat.reduceLeDiff, Nat.zero_le, List.any_cons, List.any_nil, List.all_cons, List.all_nil, rn_bd_bd, okk_ok, forQ_nxt, forQ_cont, forQ_brk, forQ_ret, lcQ_none, lcQ_some, a8]) rfl]
  rw [app_step (by simp) fun h => thk_exc (c := SO) (v := .d .none) rfl (by simp only [rn_bd_ok, rn_bd_exc, rn_bd_stuck, rn_opt_some, rn_opt_none, rn_bnd_ap, rn_ret_ap, rn_stuck_ap, rn_lift_ap, rn_guardH_ap, rn_guard_ap, rn_ite_ap, rn_e_var, rn_e_cst, rn_e_lit, rn_e_bin, rn_e_not, rn_e_cmp, rn_e_cmp2, rn_e_isc, rn_e_and, rn_e_or, rn_e_ite, rn_e_call, rn_e_bl, rn_e_isi, rn_e_mtc, rn_e_ix, rn_e_sl, rn_e_tup, rn_e_lst, rn_e_new, rn_es_nil, rn_es_cons, rn_eo_no, rn_eo_some, rn_s_expr, rn_s_set, rn_s_sett, rn_s_ret, rn_s_retN, rn_s_ifs, rn_s_raise, rn_s_brk, rn_s_cont, rn_s_pass, rn_ss_nil, rn_ss_cons, rn_flK_nxt, rn_flK_ret, rn_flK_brk, rn_flK_cont, rn_defK_ret, rn_defK_nxt, rn_bd_ite, rn_tr_bool, rn_tr_int, rn_tr_tup, rn_tr_list, rn_tr_none, rn_deref, rn_lt_int, rn_le_int, rn_gt_int, rn_ge_int, rn_add_int, rn_sub_int, rn_add_tup, rn_add_list, rn_len_tup, rn_len_list, rn_max_tup, rn_max_list, rn_min_tup, rn_min_list, rn_max2, rn_min2, rn_tuple_list, rn_tuple_tup, rn_list_scr, rn_int_int, rn_abs_int, rn_sorted_tup, rn_sorted_list, rn_all_list, rn_isi, rn_par2, rn_while, rn_eq, rn_ne, rn_in_tup, rn_notin_tup, rn_sl_tup, rn_near_int, rn_near_str, rn_eqv_int, rn_eqv_str, rn_its_tup, rn_rng1, rn_rng2, rn_lc, rn_ts_nil, rn_ts_cons, rn_for, rn_setix, rn_e_dnew, rn_e_demp, rn_e_ditems, rn_e_sset, rn_e_lset, rn_e_dcopy, rn_newDic, rn_key_str, rn_key_int, rn_dicAt_d, rn_isRef, rn_e_mt, rn_e_thk, rn_e_badd, rn_e_neg, rn_zip, rn_mt_split, rn_mt_join, rn_mt_count, rn_mtOk_s1, rn_mtOk_s2, rn_mtOk_s3, rn_sl_list, rn_near_str2, rn_near_int2, rn_near_bool, rn_eqv_bool, rn_any_list, rn_in_list, rn_notin_list, rn_e_rev, rn_lc2, rn_enum, rn_it_cell, rn_par3, rn_app, rn_list_tup, rn_list_list, rn_ty_str, rn_ty_int, rn_ty_bool, rn_ty_tup, rn_ty_list, rn_ty_none, rn_tix0, rn_tix1, rn_tix2, rn_tix3, rn_tix4, rn_tix5, rn_tix6, rn_lix0, rn_lix1, rn_lix2, rn_lix3, rn_lix4, rn_lix5, rn_lix6, Ev.start, wipe, List.getElem?_cons_zero, List.getElem?_cons_succ, List.getElem?_nil, Option.bind_some, Option.bind_none, Option.map_some, Option.map_none, id, List.set_cons_succ, List.set_cons_zero, if_true, if_false, Bool.not_true, Bool.not_false, Bool.false_eq_true, List.map_cons, List.map_nil, List.length_cons, List.length_nil, List.replicate, List.cons_append, List.nil_append, Nat.reduceSub, Nat.reduceAdd, decide_true, decide_false, Option.getD_some, beq_self_eq_true, Ev.T.store, Ev.Ts.stores, lcE, allD, mkTup, reduceIte, Bool.true_eq_false, Bool.and_true, Bool.true_and, Bool.and_false, Bool.false_and, Bool.or_true, Bool.true_or, Bool.or_false, Bool.false_or, LIM, Nat.reduceLeDiff, Nat.zero_le, List.any_cons, List.any_nil, List.all_cons, List.all_nil, rn_bd_bd, okk_ok, forQ_nxt, forQ_cont, forQ_brk, forQ_ret, lcQ_none, lcQ_some, a1]) rfl]
  have df : ∀ xs, deref (h ++ [.lst xs]) (.ref h.length) = (allD xs).map D.list := fun xs => by
    show (match (h ++ [Cell.lst xs])[h.length]? with
      | some (.lst xs) => (allD xs).map D.list
      | _ => .none) = _
    rw [List.getElem?_append_right (Nat.le_refl _), Nat.sub_self]; rfl
  simp only [rn_bd_ok, rn_bd_exc, rn_bd_stuck, rn_opt_some, rn_opt_none, rn_bnd_ap, rn_ret_ap, rn_stuck_ap, rn_lift_ap, rn_guardH_ap, rn_guard_ap, rn_ite_ap, rn_e_var, rn_e_cst, rn_e_lit, rn_e_bin, rn_e_not, rn_e_cmp, rn_e_cmp2, rn_e_isc, rn_e_and, rn_e_or, rn_e_ite, rn_e_call, rn_e_bl, rn_e_isi, rn_e_mtc, rn_e_ix, rn_e_sl, rn_e_tup, rn_e_lst, rn_e_new, rn_es_nil, rn_es_cons, rn_eo_no, rn_eo_some, rn_s_expr, rn_s_set, rn_s_sett, rn_s_ret, rn_s_retN, rn_s_ifs, rn_s_raise, rn_s_brk, rn_s_cont, rn_s_pass, rn_ss_nil, rn_ss_cons, rn_flK_nxt, rn_flK_ret, rn_flK_brk, rn_flK_cont, rn_defK_ret, rn_defK_nxt, rn_bd_ite, rn_tr_bool, rn_tr_int, rn_tr_tup, rn_tr_list, rn_tr_none, rn_deref, rn_lt_int, rn_le_int, rn_gt_int, rn_ge_int, rn_add_int, rn_sub_int, rn_add_tup, rn_add_list, rn_len_tup, rn_len_list, rn_max_tup, rn_max_list, rn_min_tup, rn_min_list, rn_max2, rn_min2, rn_tuple_list, rn_tuple_tup, rn_list_scr, rn_int_int, rn_abs_int, rn_sorted_tup, rn_sorted_list, rn_all_list, rn_isi, rn_par2, rn_while, rn_eq, rn_ne, rn_in_tup, rn_notin_tup, rn_sl_tup, rn_near_int, rn_near_str, rn_eqv_int, rn_eqv_str, rn_its_tup, rn_rng1, rn_rng2, rn_lc, rn_ts_nil, rn_ts_cons, rn_for, rn_setix, rn_e_dnew, rn_e_demp, rn_e_ditems, rn_e_sset, rn_e_lset, rn_e_dcopy, rn_newDic, rn_key_str, rn_key_int, rn_dicAt_d, rn_isRef, rn_e_mt, rn_e_thk, rn_e_badd, rn_e_neg, rn_zip, rn_mt_split, rn_mt_join, rn_mt_count, rn_mtOk_s1, rn_mtOk_s2, rn_mtOk_s3, rn_sl_list, rn_near_str2, rn_near_int2, rn_near_bool, rn_eqv_bool, rn_any_list, rn_in_list, rn_notin_list, rn_e_rev, rn_lc2, rn_enum, rn_it_cell, rn_par3, rn_app, rn_list_tup, rn_list_list, rn_ty_str, rn_ty_int, rn_ty_bool, rn_ty_tup, rn_ty_list, rn_ty_none, rn_tix0, rn_tix1, rn_tix2, rn_tix3, rn_tix4, rn_tix5, rn_tix6, rn_lix0, rn_lix1, rn_lix2, rn_lix3, rn_lix4, rn_lix5, rn_lix6, Ev.start, wipe, List.getElem?_cons_zero, List.getElem?_cons_succ, List.getElem?_nil, Option.bind_some, Option.bind_none, Option.map_some, Option.map_none, id, List.set_cons_succ, List.set_cons_zero, if_true, if_false, Bool.not_true, Bool.not_false, Bool.false_eq_true, List.map_cons, List.map_nil, List.length_cons, List.length_nil, List.replicate, List.cons_append, List.nil_append, Nat.reduceSub, Nat.reduceAdd, decide_true, decide_false, Option.getD_some, beq_self_eq_true, Ev.T.store, Ev.Ts.stores, lcE, allD, mkTup, reduceIte, Bool.true_eq_false, Bool.and_true, Bool.true_and, Bool.and_false, Bool.false_and, Bool.or_true, Bool.true_or, Bool.or_false, Bool.false_or, LIM, Nat.reduceLeDiff, Nat.zero_le, List.any_cons, List.any_nil, List.all_cons, List.all_nil, rn_bd_bd, okk_ok, forQ_nxt, forQ_cont, forQ_brk, forQ_ret, lcQ_none, lcQ_some, a9, isC]
  have m8 : ∀ h, binop h .mul (.d (.list [.str [115, 116, 101, 112, 115]])) (.d (.int 6)) = some (.d (.list (List.replicate 6 (.str [115, 116, 101, 112, 115])))) := fun h => rfl
  rw [m8, rn_opt_some, rn_bd_ok, rn_add_list, if_pos (by decide), rn_opt_some, rn_bd_ok]
  unfold cmpop
  dsimp only
  rw [df]
  rfl
end L47
end

section
set_option autoImplicit false
set_option linter.all false
set_option maxRecDepth 100000
set_option maxHeartbeats 2000000
namespace L47
open Ev
theorem noH0 (h : Hh) : Ev.call T C 16 948415806395442362853 [.d .none] h = .ok (.d (.bool false)) h ∧ Ev.call T C 17 948415806395442362853 [.d .none] h = .ok (.d (.bool false)) h := ⟨by kernel_rfl, by kernel_rfl⟩
theorem noH1 (h : Hh) : Ev.call T C 16 948415806395442362853 [.d (.tup [])] h = .ok (.d (.bool false)) h ∧ Ev.call T C 17 948415806395442362853 [.d (.tup [])] h = .ok (.d (.bool false)) h := ⟨by kernel_rfl, by kernel_rfl⟩
theorem noH2 (h : Hh) : Ev.call T C 16 948415806395442362853 [.d (.list [(.int (0)), (.tup [])])] h = .ok (.d (.bool false)) h ∧ Ev.call T C 17 948415806395442362853 [.d (.list [(.int (0)), (.tup [])])] h = .ok (.d (.bool false)) h := ⟨by kernel_rfl, by kernel_rfl⟩
theorem noH3 (h : Hh) : Ev.call T C 16 948415806395442362853 [.d (.tup [(.int (0))])] h = .ok (.d (.bool false)) h ∧ Ev.call T C 17 948415806395442362853 [.d (.tup [(.int (0))])] h = .ok (.d (.bool false)) h := ⟨by kernel_rfl, by kernel_rfl⟩
theorem noH4 (h : Hh) : Ev.call T C 16 948415806395442362853 [.d (.tup [(.int (0)), (.tup []), (.tup [])])] h = .ok (.d (.bool false)) h ∧ Ev.call T C 17 948415806395442362853 [.d (.tup [(.int (0)), (.tup []), (.tup [])])] h = .ok (.d (.bool false)) h := ⟨by kernel_rfl, by kernel_rfl⟩
theorem noH5 (h : Hh) : Ev.call T C 16 948415806395442362853 [.d (.tup [(.int (-1)), (.tup [])])] h = .ok (.d (.bool false)) h ∧ Ev.call T C 17 948415806395442362853 [.d (.tup [(.int (-1)), (.tup [])])] h = .ok (.d (.bool false)) h := ⟨by kernel_rfl, by kernel_rfl⟩
theorem noH6 (h : Hh) : Ev.call T C 16 948415806395442362853 [.d (.tup [(.int (1000001)), (.tup [])])] h = .ok (.d (.bool false)) h ∧ Ev.call T C 17 948415806395442362853 [.d (.tup [(.int (1000001)), (.tup [])])] h = .ok (.d (.bool false)) h := ⟨by kernel_rfl, by kernel_rfl⟩
theorem noH7 (h : Hh) : Ev.call T C 16 948415806395442362853 [.d (.tup [(.bool true), (.tup [])])] h = .ok (.d (.bool false)) h ∧ Ev.call T C 17 948415806395442362853 [.d (.tup [(.bool true), (.tup [])])] h = .ok (.d (.bool false)) h := ⟨by kernel_rfl, by kernel_rfl⟩
theorem noH8 (h : Hh) : Ev.call T C 16 948415806395442362853 [.d (.tup [(.int (0)), (.list [(.tup [(.str [97, 110, 110]), (.str [111, 112, 101, 110]), (.tup [(.int (2)), (.int (2)), (.str [101, 108, 100, 101, 114]), .none]), (.tup [(.tup [(.str [97, 47, 35]), (.str [109, 97, 114, 107, 101, 100])])]), (.tup [(.tup [(.int (0)), (.str [109, 97, 114, 107, 101, 100]), (.str [97]), (.int (7))])])])])])] h = .ok (.d (.bool false)) h ∧ Ev.call T C 17 948415806395442362853 [.d (.tup [(.int (0)), (.list [(.tup [(.str [97, 110, 110]), (.str [111, 112, 101, 110]), (.tup [(.int (2)), (.int (2)), (.str [101, 108, 100, 101, 114]), .none]), (.tup [(.tup [(.str [97, 47, 35]), (.str [109, 97, 114, 107, 101, 100])])]), (.tup [(.tup [(.int (0)), (.str [109, 97, 114, 107, 101, 100]), (.str [97]), (.int (7))])])])])])] h = .ok (.d (.bool false)) h := ⟨by kernel_rfl, by kernel_rfl⟩
theorem noH9 (h : Hh) : Ev.call T C 16 948415806395442362853 [.d (.tup [(.int (0)), (.tup [(.tup [(.str [97, 110, 110]), (.str [111, 112, 101, 110]), (.tup [(.int (2)), (.int (2)), (.str [101, 108, 100, 101, 114]), .none]), (.tup [(.tup [(.str [97, 47, 35]), (.str [109, 97, 114, 107, 101, 100])])]), (.tup [(.tup [(.int (0)), (.str [109, 97, 114, 107, 101, 100]), (.str [97]), (.int (7))])])]), (.tup [(.str [97, 110, 110]), (.str [111, 112, 101, 110]), (.tup [(.int (2)), (.int (2)), (.str [101, 108, 100, 101, 114]), .none]), (.tup [(.tup [(.str [97, 47, 35]), (.str [109, 97, 114, 107, 101, 100])])]), (.tup [(.tup [(.int (0)), (.str [109, 97, 114, 107, 101, 100]), (.str [97]), (.int (7))])])])])])] h = .ok (.d (.bool false)) h ∧ Ev.call T C 17 948415806395442362853 [.d (.tup [(.int (0)), (.tup [(.tup [(.str [97, 110, 110]), (.str [111, 112, 101, 110]), (.tup [(.int (2)), (.int (2)), (.str [101, 108, 100, 101, 114]), .none]), (.tup [(.tup [(.str [97, 47, 35]), (.str [109, 97, 114, 107, 101, 100])])]), (.tup [(.tup [(.int (0)), (.str [109, 97, 114, 107, 101, 100]), (.str [97]), (.int (7))])])]), (.tup [(.str [97, 110, 110]), (.str [111, 112, 101, 110]), (.tup [(.int (2)), (.int (2)), (.str [101, 108, 100, 101, 114]), .none]), (.tup [(.tup [(.str [97, 47, 35]), (.str [109, 97, 114, 107, 101, 100])])]), (.tup [(.tup [(.int (0)), (.str [109, 97, 114, 107, 101, 100]), (.str [97]), (.int (7))])])])])])] h = .ok (.d (.bool false)) h := ⟨by kernel_rfl, by kernel_rfl⟩
theorem noH10 (h : Hh) : Ev.call T C 16 948415806395442362853 [.d (.tup [(.int (0)), (.tup [(.tup [(.str [98, 111, 98]), (.str [111, 112, 101, 110]), (.tup [(.int (2)), (.int (2)), (.str [101, 108, 100, 101, 114]), .none]), (.tup [(.tup [(.str [97, 47, 35]), (.str [109, 97, 114, 107, 101, 100])])]), (.tup [(.tup [(.int (0)), (.str [109, 97, 114, 107, 101, 100]), (.str [97]), (.int (7))])])]), (.tup [(.str [97, 110, 110]), (.str [111, 112, 101, 110]), (.tup [(.int (2)), (.int (2)), (.str [101, 108, 100, 101, 114]), .none]), (.tup [(.tup [(.str [97, 47, 35]), (.str [109, 97, 114, 107, 101, 100])])]), (.tup [(.tup [(.int (0)), (.str [109, 97, 114, 107, 101, 100]), (.str [97]), (.int (7))])])])])])] h = .ok (.d (.bool false)) h ∧ Ev.call T C 17 948415806395442362853 [.d (.tup [(.int (0)), (.tup [(.tup [(.str [98, 111, 98]), (.str [111, 112, 101, 110]), (.tup [(.int (2)), (.int (2)), (.str [101, 108, 100, 101, 114]), .none]), (.tup [(.tup [(.str [97, 47, 35]), (.str [109, 97, 114, 107, 101, 100])])]), (.tup [(.tup [(.int (0)), (.str [109, 97, 114, 107, 101, 100]), (.str [97]), (.int (7))])])]), (.tup [(.str [97, 110, 110]), (.str [111, 112, 101, 110]), (.tup [(.int (2)), (.int (2)), (.str [101, 108, 100, 101, 114]), .none]), (.tup [(.tup [(.str [97, 47, 35]), (.str [109, 97, 114, 107, 101, 100])])]), (.tup [(.tup [(.int (0)), (.str [109, 97, 114, 107, 101, 100]), (.str [97]), (.int (7))])])])])])] h = .ok (.d (.bool false)) h := ⟨by kernel_rfl, by kernel_rfl⟩
theorem noH11 (h : Hh) : Ev.call T C 16 948415806395442362853 [.d (.tup [(.int (0)), (.tup [(.tup [(.str [97, 110, 110]), (.str [111, 112, 101, 110]), (.tup [(.int (2)), (.int (2)), (.str [101, 108, 100, 101, 114]), .none]), (.tup [(.tup [(.str [97, 47, 35]), (.str [109, 97, 114, 107, 101, 100])])])])])])] h = .ok (.d (.bool false)) h ∧ Ev.call T C 17 948415806395442362853 [.d (.tup [(.int (0)), (.tup [(.tup [(.str [97, 110, 110]), (.str [111, 112, 101, 110]), (.tup [(.int (2)), (.int (2)), (.str [101, 108, 100, 101, 114]), .none]), (.tup [(.tup [(.str [97, 47, 35]), (.str [109, 97, 114, 107, 101, 100])])])])])])] h = .ok (.d (.bool false)) h := ⟨by kernel_rfl, by kernel_rfl⟩
theorem noH12 (h : Hh) : Ev.call T C 16 948415806395442362853 [.d (.tup [(.int (0)), (.tup [(.tup [(.str [65, 110, 110]), (.str [111, 112, 101, 110]), (.tup [(.int (2)), (.int (2)), (.str [101, 108, 100, 101, 114]), .none]), (.tup [(.tup [(.str [97, 47, 35]), (.str [109, 97, 114, 107, 101, 100])])]), (.tup [(.tup [(.int (0)), (.str [109, 97, 114, 107, 101, 100]), (.str [97]), (.int (7))])])])])])] h = .ok (.d (.bool false)) h ∧ Ev.call T C 17 948415806395442362853 [.d (.tup [(.int (0)), (.tup [(.tup [(.str [65, 110, 110]), (.str [111, 112, 101, 110]), (.tup [(.int (2)), (.int (2)), (.str [101, 108, 100, 101, 114]), .none]), (.tup [(.tup [(.str [97, 47, 35]), (.str [109, 97, 114, 107, 101, 100])])]), (.tup [(.tup [(.int (0)), (.str [109, 97, 114, 107, 101, 100]), (.str [97]), (.int (7))])])])])])] h = .ok (.d (.bool false)) h := ⟨by kernel_rfl, by kernel_rfl⟩
theorem noH13 (h : Hh) : Ev.call T C 16 948415806395442362853 [.d (.tup [(.int (0)), (.tup [(.tup [(.str [97, 110, 110]), (.str [115, 104, 117, 116]), (.tup [(.int (2)), (.int (2)), (.str [101, 108, 100, 101, 114]), .none]), (.tup [(.tup [(.str [97, 47, 35]), (.str [109, 97, 114, 107, 101, 100])])]), (.tup [(.tup [(.int (0)), (.str [109, 97, 114, 107, 101, 100]), (.str [97]), (.int (7))])])])])])] h = .ok (.d (.bool false)) h ∧ Ev.call T C 17 948415806395442362853 [.d (.tup [(.int (0)), (.tup [(.tup [(.str [97, 110, 110]), (.str [115, 104, 117, 116]), (.tup [(.int (2)), (.int (2)), (.str [101, 108, 100, 101, 114]), .none]), (.tup [(.tup [(.str [97, 47, 35]), (.str [109, 97, 114, 107, 101, 100])])]), (.tup [(.tup [(.int (0)), (.str [109, 97, 114, 107, 101, 100]), (.str [97]), (.int (7))])])])])])] h = .ok (.d (.bool false)) h := ⟨by kernel_rfl, by kernel_rfl⟩
theorem noH14 (h : Hh) : Ev.call T C 16 948415806395442362853 [.d (.tup [(.int (0)), (.tup [(.tup [(.str [97, 110, 110]), (.int (0)), (.tup [(.int (2)), (.int (2)), (.str [101, 108, 100, 101, 114]), .none]), (.tup [(.tup [(.str [97, 47, 35]), (.str [109, 97, 114, 107, 101, 100])])]), (.tup [(.tup [(.int (0)), (.str [109, 97, 114, 107, 101, 100]), (.str [97]), (.int (7))])])])])])] h = .ok (.d (.bool false)) h ∧ Ev.call T C 17 948415806395442362853 [.d (.tup [(.int (0)), (.tup [(.tup [(.str [97, 110, 110]), (.int (0)), (.tup [(.int (2)), (.int (2)), (.str [101, 108, 100, 101, 114]), .none]), (.tup [(.tup [(.str [97, 47, 35]), (.str [109, 97, 114, 107, 101, 100])])]), (.tup [(.tup [(.int (0)), (.str [109, 97, 114, 107, 101, 100]), (.str [97]), (.int (7))])])])])])] h = .ok (.d (.bool false)) h := ⟨by kernel_rfl, by kernel_rfl⟩
theorem noH15 (h : Hh) : Ev.call T C 16 948415806395442362853 [.d (.tup [(.int (0)), (.tup [(.tup [(.str [97, 110, 110]), (.int (3)), (.tup [(.int (2)), (.int (2)), (.str [101, 108, 100, 101, 114]), .none]), (.tup [(.tup [(.str [97, 47, 35]), (.str [109, 97, 114, 107, 101, 100])])]), (.tup [(.tup [(.int (0)), (.str [109, 97, 114, 107, 101, 100]), (.str [97]), (.int (7))])])])])])] h = .ok (.d (.bool false)) h ∧ Ev.call T C 17 948415806395442362853 [.d (.tup [(.int (0)), (.tup [(.tup [(.str [97, 110, 110]), (.int (3)), (.tup [(.int (2)), (.int (2)), (.str [101, 108, 100, 101, 114]), .none]), (.tup [(.tup [(.str [97, 47, 35]), (.str [109, 97, 114, 107, 101, 100])])]), (.tup [(.tup [(.int (0)), (.str [109, 97, 114, 107, 101, 100]), (.str [97]), (.int (7))])])])])])] h = .ok (.d (.bool false)) h := ⟨by kernel_rfl, by kernel_rfl⟩
theorem noH16 (h : Hh) : Ev.call T C 16 948415806395442362853 [.d (.tup [(.int (0)), (.tup [(.tup [(.str [97, 110, 110]), .none, (.tup [(.int (2)), (.int (2)), (.str [101, 108, 100, 101, 114]), .none]), (.tup [(.tup [(.str [97, 47, 35]), (.str [109, 97, 114, 107, 101, 100])])]), (.tup [(.tup [(.int (0)), (.str [109, 97, 114, 107, 101, 100]), (.str [97]), (.int (7))])])])])])] h = .ok (.d (.bool false)) h ∧ Ev.call T C 17 948415806395442362853 [.d (.tup [(.int (0)), (.tup [(.tup [(.str [97, 110, 110]), .none, (.tup [(.int (2)), (.int (2)), (.str [101, 108, 100, 101, 114]), .none]), (.tup [(.tup [(.str [97, 47, 35]), (.str [109, 97, 114, 107, 101, 100])])]), (.tup [(.tup [(.int (0)), (.str [109, 97, 114, 107, 101, 100]), (.str [97]), (.int (7))])])])])])] h = .ok (.d (.bool false)) h := ⟨by kernel_rfl, by kernel_rfl⟩
theorem noH17 (h : Hh) : Ev.call T C 16 948415806395442362853 [.d (.tup [(.int (0)), (.tup [(.tup [(.str [97, 110, 110]), (.bool true), (.tup [(.int (2)), (.int (2)), (.str [101, 108, 100, 101, 114]), .none]), (.tup [(.tup [(.str [97, 47, 35]), (.str [109, 97, 114, 107, 101, 100])])]), (.tup [(.tup [(.int (0)), (.str [109, 97, 114, 107, 101, 100]), (.str [97]), (.int (7))])])])])])] h = .ok (.d (.bool false)) h ∧ Ev.call T C 17 948415806395442362853 [.d (.tup [(.int (0)), (.tup [(.tup [(.str [97, 110, 110]), (.bool true), (.tup [(.int (2)), (.int (2)), (.str [101, 108, 100, 101, 114]), .none]), (.tup [(.tup [(.str [97, 47, 35]), (.str [109, 97, 114, 107, 101, 100])])]), (.tup [(.tup [(.int (0)), (.str [109, 97, 114, 107, 101, 100]), (.str [97]), (.int (7))])])])])])] h = .ok (.d (.bool false)) h := ⟨by kernel_rfl, by kernel_rfl⟩
theorem noH18 (h : Hh) : Ev.call T C 16 948415806395442362853 [.d (.tup [(.int (0)), (.tup [(.tup [(.str [97, 110, 110]), (.int (-1)), (.tup [(.int (2)), (.int (2)), (.str [101, 108, 100, 101, 114]), .none]), (.tup [(.tup [(.str [97, 47, 35]), (.str [109, 97, 114, 107, 101, 100])])]), (.tup [(.tup [(.int (0)), (.str [109, 97, 114, 107, 101, 100]), (.str [97]), (.int (7))])])])])])] h = .ok (.d (.bool false)) h ∧ Ev.call T C 17 948415806395442362853 [.d (.tup [(.int (0)), (.tup [(.tup [(.str [97, 110, 110]), (.int (-1)), (.tup [(.int (2)), (.int (2)), (.str [101, 108, 100, 101, 114]), .none]), (.tup [(.tup [(.str [97, 47, 35]), (.str [109, 97, 114, 107, 101, 100])])]), (.tup [(.tup [(.int (0)), (.str [109, 97, 114, 107, 101, 100]), (.str [97]), (.int (7))])])])])])] h = .ok (.d (.bool false)) h := ⟨by kernel_rfl, by kernel_rfl⟩
theorem noH19 (h : Hh) : Ev.call T C 16 948415806395442362853 [.d (.tup [(.int (0)), (.tup [(.tup [(.str [97, 110, 110]), (.str [111, 112, 101, 110]), (.tup [(.int (2)), (.int (2)), (.str [101, 108, 100, 101, 114])]), (.tup [(.tup [(.str [97, 47, 35]), (.str [109, 97, 114, 107, 101, 100])])]), (.tup [(.tup [(.int (0)), (.str [109, 97, 114, 107, 101, 100]), (.str [97]), (.int (7))])])])])])] h = .ok (.d (.bool false)) h ∧ Ev.call T C 17 948415806395442362853 [.d (.tup [(.int (0)), (.tup [(.tup [(.str [97, 110, 110]), (.str [111, 112, 101, 110]), (.tup [(.int (2)), (.int (2)), (.str [101, 108, 100, 101, 114])]), (.tup [(.tup [(.str [97, 47, 35]), (.str [109, 97, 114, 107, 101, 100])])]), (.tup [(.tup [(.int (0)), (.str [109, 97, 114, 107, 101, 100]), (.str [97]), (.int (7))])])])])])] h = .ok (.d (.bool false)) h := ⟨by kernel_rfl, by kernel_rfl⟩
theorem noH20 (h : Hh) : Ev.call T C 16 948415806395442362853 [.d (.tup [(.int (0)), (.tup [(.tup [(.str [97, 110, 110]), (.str [111, 112, 101, 110]), (.tup [(.int (-1)), (.int (2)), (.str [101, 108, 100, 101, 114]), .none]), (.tup [(.tup [(.str [97, 47, 35]), (.str [109, 97, 114, 107, 101, 100])])]), (.tup [(.tup [(.int (0)), (.str [109, 97, 114, 107, 101, 100]), (.str [97]), (.int (7))])])])])])] h = .ok (.d (.bool false)) h ∧ Ev.call T C 17 948415806395442362853 [.d (.tup [(.int (0)), (.tup [(.tup [(.str [97, 110, 110]), (.str [111, 112, 101, 110]), (.tup [(.int (-1)), (.int (2)), (.str [101, 108, 100, 101, 114]), .none]), (.tup [(.tup [(.str [97, 47, 35]), (.str [109, 97, 114, 107, 101, 100])])]), (.tup [(.tup [(.int (0)), (.str [109, 97, 114, 107, 101, 100]), (.str [97]), (.int (7))])])])])])] h = .ok (.d (.bool false)) h := ⟨by kernel_rfl, by kernel_rfl⟩
theorem noH21 (h : Hh) : Ev.call T C 16 948415806395442362853 [.d (.tup [(.int (0)), (.tup [(.tup [(.str [97, 110, 110]), (.str [111, 112, 101, 110]), (.tup [(.int (1001)), (.int (2)), (.str [101, 108, 100, 101, 114]), .none]), (.tup [(.tup [(.str [97, 47, 35]), (.str [109, 97, 114, 107, 101, 100])])]), (.tup [(.tup [(.int (0)), (.str [109, 97, 114, 107, 101, 100]), (.str [97]), (.int (7))])])])])])] h = .ok (.d (.bool false)) h ∧ Ev.call T C 17 948415806395442362853 [.d (.tup [(.int (0)), (.tup [(.tup [(.str [97, 110, 110]), (.str [111, 112, 101, 110]), (.tup [(.int (1001)), (.int (2)), (.str [101, 108, 100, 101, 114]), .none]), (.tup [(.tup [(.str [97, 47, 35]), (.str [109, 97, 114, 107, 101, 100])])]), (.tup [(.tup [(.int (0)), (.str [109, 97, 114, 107, 101, 100]), (.str [97]), (.int (7))])])])])])] h = .ok (.d (.bool false)) h := ⟨by kernel_rfl, by kernel_rfl⟩
theorem noH22 (h : Hh) : Ev.call T C 16 948415806395442362853 [.d (.tup [(.int (0)), (.tup [(.tup [(.str [97, 110, 110]), (.str [111, 112, 101, 110]), (.tup [(.int (2)), (.int (0)), (.str [101, 108, 100, 101, 114]), .none]), (.tup [(.tup [(.str [97, 47, 35]), (.str [109, 97, 114, 107, 101, 100])])]), (.tup [(.tup [(.int (0)), (.str [109, 97, 114, 107, 101, 100]), (.str [97]), (.int (7))])])])])])] h = .ok (.d (.bool false)) h ∧ Ev.call T C 17 948415806395442362853 [.d (.tup [(.int (0)), (.tup [(.tup [(.str [97, 110, 110]), (.str [111, 112, 101, 110]), (.tup [(.int (2)), (.int (0)), (.str [101, 108, 100, 101, 114]), .none]), (.tup [(.tup [(.str [97, 47, 35]), (.str [109, 97, 114, 107, 101, 100])])]), (.tup [(.tup [(.int (0)), (.str [109, 97, 114, 107, 101, 100]), (.str [97]), (.int (7))])])])])])] h = .ok (.d (.bool false)) h := ⟨by kernel_rfl, by kernel_rfl⟩
theorem noH23 (h : Hh) : Ev.call T C 16 948415806395442362853 [.d (.tup [(.int (0)), (.tup [(.tup [(.str [97, 110, 110]), (.str [111, 112, 101, 110]), (.tup [(.int (2)), (.int (13)), (.str [101, 108, 100, 101, 114]), .none]), (.tup [(.tup [(.str [97, 47, 35]), (.str [109, 97, 114, 107, 101, 100])])]), (.tup [(.tup [(.int (0)), (.str [109, 97, 114, 107, 101, 100]), (.str [97]), (.int (7))])])])])])] h = .ok (.d (.bool false)) h ∧ Ev.call T C 17 948415806395442362853 [.d (.tup [(.int (0)), (.tup [(.tup [(.str [97, 110, 110]), (.str [111, 112, 101, 110]), (.tup [(.int (2)), (.int (13)), (.str [101, 108, 100, 101, 114]), .none]), (.tup [(.tup [(.str [97, 47, 35]), (.str [109, 97, 114, 107, 101, 100])])]), (.tup [(.tup [(.int (0)), (.str [109, 97, 114, 107, 101, 100]), (.str [97]), (.int (7))])])])])])] h = .ok (.d (.bool false)) h := ⟨by kernel_rfl, by kernel_rfl⟩
theorem noH24 (h : Hh) : Ev.call T C 16 948415806395442362853 [.d (.tup [(.int (0)), (.tup [(.tup [(.str [97, 110, 110]), (.str [111, 112, 101, 110]), (.tup [(.int (2)), (.int (2)), (.str [111, 108, 100]), .none]), (.tup [(.tup [(.str [97, 47, 35]), (.str [109, 97, 114, 107, 101, 100])])]), (.tup [(.tup [(.int (0)), (.str [109, 97, 114, 107, 101, 100]), (.str [97]), (.int (7))])])])])])] h = .ok (.d (.bool false)) h ∧ Ev.call T C 17 948415806395442362853 [.d (.tup [(.int (0)), (.tup [(.tup [(.str [97, 110, 110]), (.str [111, 112, 101, 110]), (.tup [(.int (2)), (.int (2)), (.str [111, 108, 100]), .none]), (.tup [(.tup [(.str [97, 47, 35]), (.str [109, 97, 114, 107, 101, 100])])]), (.tup [(.tup [(.int (0)), (.str [109, 97, 114, 107, 101, 100]), (.str [97]), (.int (7))])])])])])] h = .ok (.d (.bool false)) h := ⟨by kernel_rfl, by kernel_rfl⟩
theorem noH25 (h : Hh) : Ev.call T C 16 948415806395442362853 [.d (.tup [(.int (0)), (.tup [(.tup [(.str [97, 110, 110]), (.str [111, 112, 101, 110]), (.tup [(.int (2)), (.int (2)), .none, .none]), (.tup [(.tup [(.str [97, 47, 35]), (.str [109, 97, 114, 107, 101, 100])])]), (.tup [(.tup [(.int (0)), (.str [109, 97, 114, 107, 101, 100]), (.str [97]), (.int (7))])])])])])] h = .ok (.d (.bool false)) h ∧ Ev.call T C 17 948415806395442362853 [.d (.tup [(.int (0)), (.tup [(.tup [(.str [97, 110, 110]), (.str [111, 112, 101, 110]), (.tup [(.int (2)), (.int (2)), .none, .none]), (.tup [(.tup [(.str [97, 47, 35]), (.str [109, 97, 114, 107, 101, 100])])]), (.tup [(.tup [(.int (0)), (.str [109, 97, 114, 107, 101, 100]), (.str [97]), (.int (7))])])])])])] h = .ok (.d (.bool false)) h := ⟨by kernel_rfl, by kernel_rfl⟩
theorem noH26 (h : Hh) : Ev.call T C 16 948415806395442362853 [.d (.tup [(.int (0)), (.tup [(.tup [(.str [97, 110, 110]), (.str [111, 112, 101, 110]), (.tup [(.int (2)), (.int (2)), (.str [101, 108, 100, 101, 114]), (.tup [(.str [108, 105, 103, 104, 116]), (.str [97])])]), (.tup [(.tup [(.str [97, 47, 35]), (.str [109, 97, 114, 107, 101, 100])])]), (.tup [(.tup [(.int (0)), (.str [109, 97, 114, 107, 101, 100]), (.str [97]), (.int (7))])])])])])] h = .ok (.d (.bool false)) h ∧ Ev.call T C 17 948415806395442362853 [.d (.tup [(.int (0)), (.tup [(.tup [(.str [97, 110, 110]), (.str [111, 112, 101, 110]), (.tup [(.int (2)), (.int (2)), (.str [101, 108, 100, 101, 114]), (.tup [(.str [108, 105, 103, 104, 116]), (.str [97])])]), (.tup [(.tup [(.str [97, 47, 35]), (.str [109, 97, 114, 107, 101, 100])])]), (.tup [(.tup [(.int (0)), (.str [109, 97, 114, 107, 101, 100]), (.str [97]), (.int (7))])])])])])] h = .ok (.d (.bool false)) h := ⟨by kernel_rfl, by kernel_rfl⟩
theorem noH27 (h : Hh) : Ev.call T C 16 948415806395442362853 [.d (.tup [(.int (0)), (.tup [(.tup [(.str [97, 110, 110]), (.str [111, 112, 101, 110]), (.tup [(.int (2)), (.int (2)), (.str [101, 108, 100, 101, 114]), (.tup [(.str [108, 111, 117, 100]), (.str [97]), (.int (1))])]), (.tup [(.tup [(.str [97, 47, 35]), (.str [109, 97, 114, 107, 101, 100])])]), (.tup [(.tup [(.int (0)), (.str [109, 97, 114, 107, 101, 100]), (.str [97]), (.int (7))])])])])])] h = .ok (.d (.bool false)) h ∧ Ev.call T C 17 948415806395442362853 [.d (.tup [(.int (0)), (.tup [(.tup [(.str [97, 110, 110]), (.str [111, 112, 101, 110]), (.tup [(.int (2)), (.int (2)), (.str [101, 108, 100, 101, 114]), (.tup [(.str [108, 111, 117, 100]), (.str [97]), (.int (1))])]), (.tup [(.tup [(.str [97, 47, 35]), (.str [109, 97, 114, 107, 101, 100])])]), (.tup [(.tup [(.int (0)), (.str [109, 97, 114, 107, 101, 100]), (.str [97]), (.int (7))])])])])])] h = .ok (.d (.bool false)) h := ⟨by kernel_rfl, by kernel_rfl⟩
theorem noH28 (h : Hh) : Ev.call T C 16 948415806395442362853 [.d (.tup [(.int (0)), (.tup [(.tup [(.str [97, 110, 110]), (.str [111, 112, 101, 110]), (.list [(.int (2)), (.int (2)), (.str [101, 108, 100, 101, 114]), .none]), (.tup [(.tup [(.str [97, 47, 35]), (.str [109, 97, 114, 107, 101, 100])])]), (.tup [(.tup [(.int (0)), (.str [109, 97, 114, 107, 101, 100]), (.str [97]), (.int (7))])])])])])] h = .ok (.d (.bool false)) h ∧ Ev.call T C 17 948415806395442362853 [.d (.tup [(.int (0)), (.tup [(.tup [(.str [97, 110, 110]), (.str [111, 112, 101, 110]), (.list [(.int (2)), (.int (2)), (.str [101, 108, 100, 101, 114]), .none]), (.tup [(.tup [(.str [97, 47, 35]), (.str [109, 97, 114, 107, 101, 100])])]), (.tup [(.tup [(.int (0)), (.str [109, 97, 114, 107, 101, 100]), (.str [97]), (.int (7))])])])])])] h = .ok (.d (.bool false)) h := ⟨by kernel_rfl, by kernel_rfl⟩
theorem noH29 (h : Hh) : Ev.call T C 16 948415806395442362853 [.d (.tup [(.int (0)), (.tup [(.tup [(.str [97, 110, 110]), (.str [111, 112, 101, 110]), (.tup [(.int (2)), (.int (2)), (.str [101, 108, 100, 101, 114]), .none]), (.tup [(.tup [(.str [97, 47, 35]), (.str [109, 97, 114, 107, 101, 100])])]), (.tup [(.tup [(.int (0)), (.str [109, 97, 114, 107, 101, 100]), (.str [97]), (.int (7))]), (.tup [(.int (0)), (.str [109, 97, 114, 107, 101, 100]), (.str [97]), (.int (7))]), (.tup [(.int (0)), (.str [109, 97, 114, 107, 101, 100]), (.str [97]), (.int (7))])])])])])] h = .ok (.d (.bool false)) h ∧ Ev.call T C 17 948415806395442362853 [.d (.tup [(.int (0)), (.tup [(.tup [(.str [97, 110, 110]), (.str [111, 112, 101, 110]), (.tup [(.int (2)), (.int (2)), (.str [101, 108, 100, 101, 114]), .none]), (.tup [(.tup [(.str [97, 47, 35]), (.str [109, 97, 114, 107, 101, 100])])]), (.tup [(.tup [(.int (0)), (.str [109, 97, 114, 107, 101, 100]), (.str [97]), (.int (7))]), (.tup [(.int (0)), (.str [109, 97, 114, 107, 101, 100]), (.str [97]), (.int (7))]), (.tup [(.int (0)), (.str [109, 97, 114, 107, 101, 100]), (.str [97]), (.int (7))])])])])])] h = .ok (.d (.bool false)) h := ⟨by kernel_rfl, by kernel_rfl⟩
theorem noH30 (h : Hh) : Ev.call T C 16 948415806395442362853 [.d (.tup [(.int (0)), (.tup [(.tup [(.str [97, 110, 110]), (.str [111, 112, 101, 110]), (.tup [(.int (2)), (.int (2)), (.str [101, 108, 100, 101, 114]), .none]), (.tup [(.tup [(.str [97, 47, 35]), (.str [109, 97, 114, 107, 101, 100])])]), (.tup [(.tup [(.int (1)), (.str [109, 97, 114, 107, 101, 100]), (.str [97]), (.int (7))])])])])])] h = .ok (.d (.bool false)) h ∧ Ev.call T C 17 948415806395442362853 [.d (.tup [(.int (0)), (.tup [(.tup [(.str [97, 110, 110]), (.str [111, 112, 101, 110]), (.tup [(.int (2)), (.int (2)), (.str [101, 108, 100, 101, 114]), .none]), (.tup [(.tup [(.str [97, 47, 35]), (.str [109, 97, 114, 107, 101, 100])])]), (.tup [(.tup [(.int (1)), (.str [109, 97, 114, 107, 101, 100]), (.str [97]), (.int (7))])])])])])] h = .ok (.d (.bool false)) h := ⟨by kernel_rfl, by kernel_rfl⟩
theorem noH31 (h : Hh) : Ev.call T C 16 948415806395442362853 [.d (.tup [(.int (0)), (.tup [(.tup [(.str [97, 110, 110]), (.str [111, 112, 101, 110]), (.tup [(.int (2)), (.int (2)), (.str [101, 108, 100, 101, 114]), .none]), (.tup [(.tup [(.str [97, 47, 35]), (.str [109, 97, 114, 107, 101, 100])])]), (.tup [(.tup [(.int (0)), (.str [109, 97, 114, 107, 101, 100]), (.str [97])])])])])])] h = .ok (.d (.bool false)) h ∧ Ev.call T C 17 948415806395442362853 [.d (.tup [(.int (0)), (.tup [(.tup [(.str [97, 110, 110]), (.str [111, 112, 101, 110]), (.tup [(.int (2)), (.int (2)), (.str [101, 108, 100, 101, 114]), .none]), (.tup [(.tup [(.str [97, 47, 35]), (.str [109, 97, 114, 107, 101, 100])])]), (.tup [(.tup [(.int (0)), (.str [109, 97, 114, 107, 101, 100]), (.str [97])])])])])])] h = .ok (.d (.bool false)) h := ⟨by kernel_rfl, by kernel_rfl⟩
theorem noH32 (h : Hh) : Ev.call T C 16 948415806395442362853 [.d (.tup [(.int (0)), (.tup [(.tup [(.str [97, 110, 110]), (.str [111, 112, 101, 110]), (.tup [(.int (2)), (.int (2)), (.str [101, 108, 100, 101, 114]), .none]), (.tup [(.tup [(.str [97, 47, 35]), (.str [109, 97, 114, 107, 101, 100])])]), (.tup [(.tup [(.int (0)), (.str [109, 97, 114, 107, 101, 100]), (.str [97, 47, 43]), (.int (7))])])])])])] h = .ok (.d (.bool false)) h ∧ Ev.call T C 17 948415806395442362853 [.d (.tup [(.int (0)), (.tup [(.tup [(.str [97, 110, 110]), (.str [111, 112, 101, 110]), (.tup [(.int (2)), (.int (2)), (.str [101, 108, 100, 101, 114]), .none]), (.tup [(.tup [(.str [97, 47, 35]), (.str [109, 97, 114, 107, 101, 100])])]), (.tup [(.tup [(.int (0)), (.str [109, 97, 114, 107, 101, 100]), (.str [97, 47, 43]), (.int (7))])])])])])] h = .ok (.d (.bool false)) h := ⟨by kernel_rfl, by kernel_rfl⟩
theorem noH33 (h : Hh) : Ev.call T C 16 948415806395442362853 [.d (.tup [(.int (0)), (.tup [(.tup [(.str [97, 110, 110]), (.str [111, 112, 101, 110]), (.tup [(.int (2)), (.int (2)), (.str [101, 108, 100, 101, 114]), .none]), (.tup [(.tup [(.str [97, 47, 35]), (.str [109, 97, 114, 107, 101, 100])])]), (.list [(.tup [(.int (0)), (.str [109, 97, 114, 107, 101, 100]), (.str [97]), (.int (7))])])])])])] h = .ok (.d (.bool false)) h ∧ Ev.call T C 17 948415806395442362853 [.d (.tup [(.int (0)), (.tup [(.tup [(.str [97, 110, 110]), (.str [111, 112, 101, 110]), (.tup [(.int (2)), (.int (2)), (.str [101, 108, 100, 101, 114]), .none]), (.tup [(.tup [(.str [97, 47, 35]), (.str [109, 97, 114, 107, 101, 100])])]), (.list [(.tup [(.int (0)), (.str [109, 97, 114, 107, 101, 100]), (.str [97]), (.int (7))])])])])])] h = .ok (.d (.bool false)) h := ⟨by kernel_rfl, by kernel_rfl⟩
theorem noH34 (h : Hh) : Ev.call T C 16 948415806395442362853 [.d (.tup [(.int (2)), (.tup [(.tup [(.str [97, 110, 110]), (.str [111, 112, 101, 110]), (.tup [(.int (2)), (.int (2)), (.str [101, 108, 100, 101, 114]), .none]), (.tup [(.tup [(.str [97, 47, 35]), (.str [109, 97, 114, 107, 101, 100])])]), (.tup [(.tup [(.int (2)), (.str [108, 105, 103, 104, 116]), (.str [97]), (.int (1))]), (.tup [(.int (1)), (.str [108, 105, 103, 104, 116]), (.str [97]), (.int (1))])])])])])] h = .ok (.d (.bool false)) h ∧ Ev.call T C 17 948415806395442362853 [.d (.tup [(.int (2)), (.tup [(.tup [(.str [97, 110, 110]), (.str [111, 112, 101, 110]), (.tup [(.int (2)), (.int (2)), (.str [101, 108, 100, 101, 114]), .none]), (.tup [(.tup [(.str [97, 47, 35]), (.str [109, 97, 114, 107, 101, 100])])]), (.tup [(.tup [(.int (2)), (.str [108, 105, 103, 104, 116]), (.str [97]), (.int (1))]), (.tup [(.int (1)), (.str [108, 105, 103, 104, 116]), (.str [97]), (.int (1))])])])])])] h = .ok (.d (.bool false)) h := ⟨by kernel_rfl, by kernel_rfl⟩
theorem noH35 (h : Hh) : Ev.call T C 16 948415806395442362853 [.d (.tup [(.int (0)), (.tup [(.tup [(.str [97]), (.str [111, 112, 101, 110]), (.tup [(.int (2)), (.int (2)), (.str [101, 108, 100, 101, 114]), .none]), (.tup [(.tup [(.str [97, 47, 35]), (.str [109, 97, 114, 107, 101, 100])])]), (.tup [(.tup [(.int (0)), (.str [109, 97, 114, 107, 101, 100]), (.str [97]), (.int (7))])])]), (.tup [(.str [98]), (.str [111, 112, 101, 110]), (.tup [(.int (2)), (.int (2)), (.str [101, 108, 100, 101, 114]), .none]), (.tup [(.tup [(.str [97, 47, 35]), (.str [109, 97, 114, 107, 101, 100])])]), (.tup [(.tup [(.int (0)), (.str [109, 97, 114, 107, 101, 100]), (.str [97]), (.int (7))])])]), (.tup [(.str [99]), (.str [111, 112, 101, 110]), (.tup [(.int (2)), (.int (2)), (.str [101, 108, 100, 101, 114]), .none]), (.tup [(.tup [(.str [97, 47, 35]), (.str [109, 97, 114, 107, 101, 100])])]), (.tup [(.tup [(.int (0)), (.str [109, 97, 114, 107, 101, 100]), (.str [97]), (.int (7))])])]), (.tup [(.str [100]), (.str [111, 112, 101, 110]), (.tup [(.int (2)), (.int (2)), (.str [101, 108, 100, 101, 114]), .none]), (.tup [(.tup [(.str [97, 47, 35]), (.str [109, 97, 114, 107, 101, 100])])]), (.tup [(.tup [(.int (0)), (.str [109, 97, 114, 107, 101, 100]), (.str [97]), (.int (7))])])]), (.tup [(.str [101]), (.str [111, 112, 101, 110]), (.tup [(.int (2)), (.int (2)), (.str [101, 108, 100, 101, 114]), .none]), (.tup [(.tup [(.str [97, 47, 35]), (.str [109, 97, 114, 107, 101, 100])])]), (.tup [(.tup [(.int (0)), (.str [109, 97, 114, 107, 101, 100]), (.str [97]), (.int (7))])])]), (.tup [(.str [102]), (.str [111, 112, 101, 110]), (.tup [(.int (2)), (.int (2)), (.str [101, 108, 100, 101, 114]), .none]), (.tup [(.tup [(.str [97, 47, 35]), (.str [109, 97, 114, 107, 101, 100])])]), (.tup [(.tup [(.int (0)), (.str [109, 97, 114, 107, 101, 100]), (.str [97]), (.int (7))])])]), (.tup [(.str [103]), (.str [111, 112, 101, 110]), (.tup [(.int (2)), (.int (2)), (.str [101, 108, 100, 101, 114]), .none]), (.tup [(.tup [(.str [97, 47, 35]), (.str [109, 97, 114, 107, 101, 100])])]), (.tup [(.tup [(.int (0)), (.str [109, 97, 114, 107, 101, 100]), (.str [97]), (.int (7))])])])])])] h = .ok (.d (.bool false)) h ∧ Ev.call T C 17 948415806395442362853 [.d (.tup [(.int (0)), (.tup [(.tup [(.str [97]), (.str [111, 112, 101, 110]), (.tup [(.int (2)), (.int (2)), (.str [101, 108, 100, 101, 114]), .none]), (.tup [(.tup [(.str [97, 47, 35]), (.str [109, 97, 114, 107, 101, 100])])]), (.tup [(.tup [(.int (0)), (.str [109, 97, 114, 107, 101, 100]), (.str [97]), (.int (7))])])]), (.tup [(.str [98]), (.str [111, 112, 101, 110]), (.tup [(.int (2)), (.int (2)), (.str [101, 108, 100, 101, 114]), .none]), (.tup [(.tup [(.str [97, 47, 35]), (.str [109, 97, 114, 107, 101, 100])])]), (.tup [(.tup [(.int (0)), (.str [109, 97, 114, 107, 101, 100]), (.str [97]), (.int (7))])])]), (.tup [(.str [99]), (.str [111, 112, 101, 110]), (.tup [(.int (2)), (.int (2)), (.str [101, 108, 100, 101, 114]), .none]), (.tup [(.tup [(.str [97, 47, 35]), (.str [109, 97, 114, 107, 101, 100])])]), (.tup [(.tup [(.int (0)), (.str [109, 97, 114, 107, 101, 100]), (.str [97]), (.int (7))])])]), (.tup [(.str [100]), (.str [111, 112, 101, 110]), (.tup [(.int (2)), (.int (2)), (.str [101, 108, 100, 101, 114]), .none]), (.tup [(.tup [(.str [97, 47, 35]), (.str [109, 97, 114, 107, 101, 100])])]), (.tup [(.tup [(.int (0)), (.str [109, 97, 114, 107, 101, 100]), (.str [97]), (.int (7))])])]), (.tup [(.str [101]), (.str [111, 112, 101, 110]), (.tup [(.int (2)), (.int (2)), (.str [101, 108, 100, 101, 114]), .none]), (.tup [(.tup [(.str [97, 47, 35]), (.str [109, 97, 114, 107, 101, 100])])]), (.tup [(.tup [(.int (0)), (.str [109, 97, 114, 107, 101, 100]), (.str [97]), (.int (7))])])]), (.tup [(.str [102]), (.str [111, 112, 101, 110]), (.tup [(.int (2)), (.int (2)), (.str [101, 108, 100, 101, 114]), .none]), (.tup [(.tup [(.str [97, 47, 35]), (.str [109, 97, 114, 107, 101, 100])])]), (.tup [(.tup [(.int (0)), (.str [109, 97, 114, 107, 101, 100]), (.str [97]), (.int (7))])])]), (.tup [(.str [103]), (.str [111, 112, 101, 110]), (.tup [(.int (2)), (.int (2)), (.str [101, 108, 100, 101, 114]), .none]), (.tup [(.tup [(.str [97, 47, 35]), (.str [109, 97, 114, 107, 101, 100])])]), (.tup [(.tup [(.int (0)), (.str [109, 97, 114, 107, 101, 100]), (.str [97]), (.int (7))])])])])])] h = .ok (.d (.bool false)) h := ⟨by kernel_rfl, by kernel_rfl⟩
theorem noH36 (h : Hh) : Ev.call T C 16 948415806395442362853 [.d (.tup [(.int (0)), (.tup [(.tup [(.str [97, 110, 110]), (.str [111, 112, 101, 110]), (.tup [(.int (2)), (.int (2)), (.str [101, 108, 100, 101, 114]), .none]), (.tup [(.tup [(.str [97, 43]), (.str [108, 105, 103, 104, 116])])]), (.tup [(.tup [(.int (0)), (.str [109, 97, 114, 107, 101, 100]), (.str [97]), (.int (7))])])])])])] h = .ok (.d (.bool false)) h ∧ Ev.call T C 17 948415806395442362853 [.d (.tup [(.int (0)), (.tup [(.tup [(.str [97, 110, 110]), (.str [111, 112, 101, 110]), (.tup [(.int (2)), (.int (2)), (.str [101, 108, 100, 101, 114]), .none]), (.tup [(.tup [(.str [97, 43]), (.str [108, 105, 103, 104, 116])])]), (.tup [(.tup [(.int (0)), (.str [109, 97, 114, 107, 101, 100]), (.str [97]), (.int (7))])])])])])] h = .ok (.d (.bool false)) h := ⟨by kernel_rfl, by kernel_rfl⟩
theorem noS0 (h : Hh) : Ev.call T C 17 1021906042097092884595 [.d (.tup [.tup [.str [116, 117, 114, 110]], .none])] h = .exc SX (.d .none) h ∧ Ev.call T C 17 32587318971823140735278546498288 [.d .none] h = .ok (.d (.bool false)) h := ⟨by kernel_rfl, by kernel_rfl⟩
theorem noS1 (h : Hh) : Ev.call T C 17 1021906042097092884595 [.d (.tup [.tup [.str [116, 117, 114, 110]], (.tup [])])] h = .exc SX (.d .none) h ∧ Ev.call T C 17 32587318971823140735278546498288 [.d (.tup [])] h = .ok (.d (.bool false)) h := ⟨by kernel_rfl, by kernel_rfl⟩
theorem noS2 (h : Hh) : Ev.call T C 17 1021906042097092884595 [.d (.tup [.tup [.str [116, 117, 114, 110]], (.tup [(.str [116, 117, 114, 110]), (.int (1))])])] h = .exc SX (.d .none) h ∧ Ev.call T C 17 32587318971823140735278546498288 [.d (.tup [(.str [116, 117, 114, 110]), (.int (1))])] h = .ok (.d (.bool false)) h := ⟨by kernel_rfl, by kernel_rfl⟩
theorem noS3 (h : Hh) : Ev.call T C 17 1021906042097092884595 [.d (.tup [.tup [.str [116, 117, 114, 110]], (.list [(.str [116, 117, 114, 110])])])] h = .exc SX (.d .none) h ∧ Ev.call T C 17 32587318971823140735278546498288 [.d (.list [(.str [116, 117, 114, 110])])] h = .ok (.d (.bool false)) h := ⟨by kernel_rfl, by kernel_rfl⟩
theorem noS4 (h : Hh) : Ev.call T C 17 1021906042097092884595 [.d (.tup [.tup [.str [116, 117, 114, 110]], (.tup [(.str [111, 112, 101, 110]), (.str [97, 110, 110]), (.bool false)])])] h = .exc SX (.d .none) h ∧ Ev.call T C 17 32587318971823140735278546498288 [.d (.tup [(.str [111, 112, 101, 110]), (.str [97, 110, 110]), (.bool false)])] h = .ok (.d (.bool false)) h := ⟨by kernel_rfl, by kernel_rfl⟩
theorem noS5 (h : Hh) : Ev.call T C 17 1021906042097092884595 [.d (.tup [.tup [.str [116, 117, 114, 110]], (.tup [(.str [111, 112, 101, 110]), (.str [97, 110, 110]), (.int (0)), (.tup [(.int (2)), (.int (2)), (.str [101, 108, 100, 101, 114]), .none])])])] h = .exc SX (.d .none) h ∧ Ev.call T C 17 32587318971823140735278546498288 [.d (.tup [(.str [111, 112, 101, 110]), (.str [97, 110, 110]), (.int (0)), (.tup [(.int (2)), (.int (2)), (.str [101, 108, 100, 101, 114]), .none])])] h = .ok (.d (.bool false)) h := ⟨by kernel_rfl, by kernel_rfl⟩
theorem noS6 (h : Hh) : Ev.call T C 17 1021906042097092884595 [.d (.tup [.tup [.str [116, 117, 114, 110]], (.tup [(.str [111, 112, 101, 110]), (.str [65, 110, 110]), (.bool true), (.tup [(.int (2)), (.int (2)), (.str [101, 108, 100, 101, 114]), .none])])])] h = .exc SX (.d .none) h ∧ Ev.call T C 17 32587318971823140735278546498288 [.d (.tup [(.str [111, 112, 101, 110]), (.str [65, 110, 110]), (.bool true), (.tup [(.int (2)), (.int (2)), (.str [101, 108, 100, 101, 114]), .none])])] h = .ok (.d (.bool false)) h := ⟨by kernel_rfl, by kernel_rfl⟩
theorem noS7 (h : Hh) : Ev.call T C 17 1021906042097092884595 [.d (.tup [.tup [.str [116, 117, 114, 110]], (.tup [(.str [111, 112, 101, 110]), (.str [97, 110, 110]), (.bool true), (.tup [(.int (2)), (.int (2)), (.str [101, 108, 100, 101, 114])])])])] h = .exc SX (.d .none) h ∧ Ev.call T C 17 32587318971823140735278546498288 [.d (.tup [(.str [111, 112, 101, 110]), (.str [97, 110, 110]), (.bool true), (.tup [(.int (2)), (.int (2)), (.str [101, 108, 100, 101, 114])])])] h = .ok (.d (.bool false)) h := ⟨by kernel_rfl, by kernel_rfl⟩
theorem noS8 (h : Hh) : Ev.call T C 17 1021906042097092884595 [.d (.tup [.tup [.str [116, 117, 114, 110]], (.tup [(.str [115, 104, 117, 116])])])] h = .exc SX (.d .none) h ∧ Ev.call T C 17 32587318971823140735278546498288 [.d (.tup [(.str [115, 104, 117, 116])])] h = .ok (.d (.bool false)) h := ⟨by kernel_rfl, by kernel_rfl⟩
theorem noS9 (h : Hh) : Ev.call T C 17 1021906042097092884595 [.d (.tup [.tup [.str [116, 117, 114, 110]], (.tup [(.str [115, 104, 117, 116]), (.str [])])])] h = .exc SX (.d .none) h ∧ Ev.call T C 17 32587318971823140735278546498288 [.d (.tup [(.str [115, 104, 117, 116]), (.str [])])] h = .ok (.d (.bool false)) h := ⟨by kernel_rfl, by kernel_rfl⟩
theorem noS10 (h : Hh) : Ev.call T C 17 1021906042097092884595 [.d (.tup [.tup [.str [116, 117, 114, 110]], (.tup [(.str [98, 114, 101, 97, 107]), (.str [97, 110, 110]), (.int (1))])])] h = .exc SX (.d .none) h ∧ Ev.call T C 17 32587318971823140735278546498288 [.d (.tup [(.str [98, 114, 101, 97, 107]), (.str [97, 110, 110]), (.int (1))])] h = .ok (.d (.bool false)) h := ⟨by kernel_rfl, by kernel_rfl⟩
theorem noS11 (h : Hh) : Ev.call T C 17 1021906042097092884595 [.d (.tup [.tup [.str [116, 117, 114, 110]], (.tup [(.str [119, 105, 115, 104]), (.str [97, 110, 110]), (.str [97, 43]), (.str [108, 105, 103, 104, 116])])])] h = .exc SX (.d .none) h ∧ Ev.call T C 17 32587318971823140735278546498288 [.d (.tup [(.str [119, 105, 115, 104]), (.str [97, 110, 110]), (.str [97, 43]), (.str [108, 105, 103, 104, 116])])] h = .ok (.d (.bool false)) h := ⟨by kernel_rfl, by kernel_rfl⟩
theorem noS12 (h : Hh) : Ev.call T C 17 1021906042097092884595 [.d (.tup [.tup [.str [116, 117, 114, 110]], (.tup [(.str [119, 105, 115, 104]), (.str [97, 110, 110]), (.str [97]), (.str [108, 111, 117, 100])])])] h = .exc SX (.d .none) h ∧ Ev.call T C 17 32587318971823140735278546498288 [.d (.tup [(.str [119, 105, 115, 104]), (.str [97, 110, 110]), (.str [97]), (.str [108, 111, 117, 100])])] h = .ok (.d (.bool false)) h := ⟨by kernel_rfl, by kernel_rfl⟩
theorem noS13 (h : Hh) : Ev.call T C 17 1021906042097092884595 [.d (.tup [.tup [.str [116, 117, 114, 110]], (.tup [(.str [117, 110, 119, 105, 115, 104]), (.str [97, 110, 110])])])] h = .exc SX (.d .none) h ∧ Ev.call T C 17 32587318971823140735278546498288 [.d (.tup [(.str [117, 110, 119, 105, 115, 104]), (.str [97, 110, 110])])] h = .ok (.d (.bool false)) h := ⟨by kernel_rfl, by kernel_rfl⟩
theorem noS14 (h : Hh) : Ev.call T C 17 1021906042097092884595 [.d (.tup [.tup [.str [116, 117, 114, 110]], (.tup [(.str [116, 101, 108, 108]), (.str [108, 105, 103, 104, 116]), (.str [97, 47, 43]), (.int (1))])])] h = .exc SX (.d .none) h ∧ Ev.call T C 17 32587318971823140735278546498288 [.d (.tup [(.str [116, 101, 108, 108]), (.str [108, 105, 103, 104, 116]), (.str [97, 47, 43]), (.int (1))])] h = .ok (.d (.bool false)) h := ⟨by kernel_rfl, by kernel_rfl⟩
theorem noS15 (h : Hh) : Ev.call T C 17 1021906042097092884595 [.d (.tup [.tup [.str [116, 117, 114, 110]], (.tup [(.str [116, 101, 108, 108]), (.str [108, 105, 103, 104, 116]), (.str [97]), (.int (1000))])])] h = .exc SX (.d .none) h ∧ Ev.call T C 17 32587318971823140735278546498288 [.d (.tup [(.str [116, 101, 108, 108]), (.str [108, 105, 103, 104, 116]), (.str [97]), (.int (1000))])] h = .ok (.d (.bool false)) h := ⟨by kernel_rfl, by kernel_rfl⟩
theorem noS16 (h : Hh) : Ev.call T C 17 1021906042097092884595 [.d (.tup [.tup [.str [116, 117, 114, 110]], (.tup [(.str [116, 97, 107, 101]), (.str [97, 110, 110]), (.int (0))])])] h = .exc SX (.d .none) h ∧ Ev.call T C 17 32587318971823140735278546498288 [.d (.tup [(.str [116, 97, 107, 101]), (.str [97, 110, 110]), (.int (0))])] h = .ok (.d (.bool false)) h := ⟨by kernel_rfl, by kernel_rfl⟩
theorem noS17 (h : Hh) : Ev.call T C 17 1021906042097092884595 [.d (.tup [.tup [.str [116, 117, 114, 110]], (.tup [(.str [116, 97, 107, 101]), (.str [97, 110, 110]), (.int (13))])])] h = .exc SX (.d .none) h ∧ Ev.call T C 17 32587318971823140735278546498288 [.d (.tup [(.str [116, 97, 107, 101]), (.str [97, 110, 110]), (.int (13))])] h = .ok (.d (.bool false)) h := ⟨by kernel_rfl, by kernel_rfl⟩
theorem noS18 (h : Hh) : Ev.call T C 17 1021906042097092884595 [.d (.tup [.tup [.str [116, 117, 114, 110]], (.tup [(.str [116, 97, 107, 101]), (.str [97, 110, 110]), (.bool true)])])] h = .exc SX (.d .none) h ∧ Ev.call T C 17 32587318971823140735278546498288 [.d (.tup [(.str [116, 97, 107, 101]), (.str [97, 110, 110]), (.bool true)])] h = .ok (.d (.bool false)) h := ⟨by kernel_rfl, by kernel_rfl⟩
theorem noS19 (h : Hh) : Ev.call T C 17 1021906042097092884595 [.d (.tup [.tup [.str [116, 117, 114, 110]], (.tup [(.str [84, 117, 114, 110])])])] h = .exc SX (.d .none) h ∧ Ev.call T C 17 32587318971823140735278546498288 [.d (.tup [(.str [84, 117, 114, 110])])] h = .ok (.d (.bool false)) h := ⟨by kernel_rfl, by kernel_rfl⟩
theorem noS20 (h : Hh) : Ev.call T C 17 1021906042097092884595 [.d (.tup [.tup [.str [116, 117, 114, 110]], (.tup [.none])])] h = .exc SX (.d .none) h ∧ Ev.call T C 17 32587318971823140735278546498288 [.d (.tup [.none])] h = .ok (.d (.bool false)) h := ⟨by kernel_rfl, by kernel_rfl⟩
def housesD : List D := [.none, (.tup []), (.list [(.int (0)), (.tup [])]), (.tup [(.int (0))]), (.tup [(.int (0)), (.tup []), (.tup [])]), (.tup [(.int (-1)), (.tup [])]), (.tup [(.int (1000001)), (.tup [])]), (.tup [(.bool true), (.tup [])]), (.tup [(.int (0)), (.list [(.tup [(.str [97, 110, 110]), (.str [111, 112, 101, 110]), (.tup [(.int (2)), (.int (2)), (.str [101, 108, 100, 101, 114]), .none]), (.tup [(.tup [(.str [97, 47, 35]), (.str [109, 97, 114, 107, 101, 100])])]), (.tup [(.tup [(.int (0)), (.str [109, 97, 114, 107, 101, 100]), (.str [97]), (.int (7))])])])])]), (.tup [(.int (0)), (.tup [(.tup [(.str [97, 110, 110]), (.str [111, 112, 101, 110]), (.tup [(.int (2)), (.int (2)), (.str [101, 108, 100, 101, 114]), .none]), (.tup [(.tup [(.str [97, 47, 35]), (.str [109, 97, 114, 107, 101, 100])])]), (.tup [(.tup [(.int (0)), (.str [109, 97, 114, 107, 101, 100]), (.str [97]), (.int (7))])])]), (.tup [(.str [97, 110, 110]), (.str [111, 112, 101, 110]), (.tup [(.int (2)), (.int (2)), (.str [101, 108, 100, 101, 114]), .none]), (.tup [(.tup [(.str [97, 47, 35]), (.str [109, 97, 114, 107, 101, 100])])]), (.tup [(.tup [(.int (0)), (.str [109, 97, 114, 107, 101, 100]), (.str [97]), (.int (7))])])])])]), (.tup [(.int (0)), (.tup [(.tup [(.str [98, 111, 98]), (.str [111, 112, 101, 110]), (.tup [(.int (2)), (.int (2)), (.str [101, 108, 100, 101, 114]), .none]), (.tup [(.tup [(.str [97, 47, 35]), (.str [109, 97, 114, 107, 101, 100])])]), (.tup [(.tup [(.int (0)), (.str [109, 97, 114, 107, 101, 100]), (.str [97]), (.int (7))])])]), (.tup [(.str [97, 110, 110]), (.str [111, 112, 101, 110]), (.tup [(.int (2)), (.int (2)), (.str [101, 108, 100, 101, 114]), .none]), (.tup [(.tup [(.str [97, 47, 35]), (.str [109, 97, 114, 107, 101, 100])])]), (.tup [(.tup [(.int (0)), (.str [109, 97, 114, 107, 101, 100]), (.str [97]), (.int (7))])])])])]), (.tup [(.int (0)), (.tup [(.tup [(.str [97, 110, 110]), (.str [111, 112, 101, 110]), (.tup [(.int (2)), (.int (2)), (.str [101, 108, 100, 101, 114]), .none]), (.tup [(.tup [(.str [97, 47, 35]), (.str [109, 97, 114, 107, 101, 100])])])])])]), (.tup [(.int (0)), (.tup [(.tup [(.str [65, 110, 110]), (.str [111, 112, 101, 110]), (.tup [(.int (2)), (.int (2)), (.str [101, 108, 100, 101, 114]), .none]), (.tup [(.tup [(.str [97, 47, 35]), (.str [109, 97, 114, 107, 101, 100])])]), (.tup [(.tup [(.int (0)), (.str [109, 97, 114, 107, 101, 100]), (.str [97]), (.int (7))])])])])]), (.tup [(.int (0)), (.tup [(.tup [(.str [97, 110, 110]), (.str [115, 104, 117, 116]), (.tup [(.int (2)), (.int (2)), (.str [101, 108, 100, 101, 114]), .none]), (.tup [(.tup [(.str [97, 47, 35]), (.str [109, 97, 114, 107, 101, 100])])]), (.tup [(.tup [(.int (0)), (.str [109, 97, 114, 107, 101, 100]), (.str [97]), (.int (7))])])])])]), (.tup [(.int (0)), (.tup [(.tup [(.str [97, 110, 110]), (.int (0)), (.tup [(.int (2)), (.int (2)), (.str [101, 108, 100, 101, 114]), .none]), (.tup [(.tup [(.str [97, 47, 35]), (.str [109, 97, 114, 107, 101, 100])])]), (.tup [(.tup [(.int (0)), (.str [109, 97, 114, 107, 101, 100]), (.str [97]), (.int (7))])])])])]), (.tup [(.int (0)), (.tup [(.tup [(.str [97, 110, 110]), (.int (3)), (.tup [(.int (2)), (.int (2)), (.str [101, 108, 100, 101, 114]), .none]), (.tup [(.tup [(.str [97, 47, 35]), (.str [109, 97, 114, 107, 101, 100])])]), (.tup [(.tup [(.int (0)), (.str [109, 97, 114, 107, 101, 100]), (.str [97]), (.int (7))])])])])]), (.tup [(.int (0)), (.tup [(.tup [(.str [97, 110, 110]), .none, (.tup [(.int (2)), (.int (2)), (.str [101, 108, 100, 101, 114]), .none]), (.tup [(.tup [(.str [97, 47, 35]), (.str [109, 97, 114, 107, 101, 100])])]), (.tup [(.tup [(.int (0)), (.str [109, 97, 114, 107, 101, 100]), (.str [97]), (.int (7))])])])])]), (.tup [(.int (0)), (.tup [(.tup [(.str [97, 110, 110]), (.bool true), (.tup [(.int (2)), (.int (2)), (.str [101, 108, 100, 101, 114]), .none]), (.tup [(.tup [(.str [97, 47, 35]), (.str [109, 97, 114, 107, 101, 100])])]), (.tup [(.tup [(.int (0)), (.str [109, 97, 114, 107, 101, 100]), (.str [97]), (.int (7))])])])])]), (.tup [(.int (0)), (.tup [(.tup [(.str [97, 110, 110]), (.int (-1)), (.tup [(.int (2)), (.int (2)), (.str [101, 108, 100, 101, 114]), .none]), (.tup [(.tup [(.str [97, 47, 35]), (.str [109, 97, 114, 107, 101, 100])])]), (.tup [(.tup [(.int (0)), (.str [109, 97, 114, 107, 101, 100]), (.str [97]), (.int (7))])])])])]), (.tup [(.int (0)), (.tup [(.tup [(.str [97, 110, 110]), (.str [111, 112, 101, 110]), (.tup [(.int (2)), (.int (2)), (.str [101, 108, 100, 101, 114])]), (.tup [(.tup [(.str [97, 47, 35]), (.str [109, 97, 114, 107, 101, 100])])]), (.tup [(.tup [(.int (0)), (.str [109, 97, 114, 107, 101, 100]), (.str [97]), (.int (7))])])])])]), (.tup [(.int (0)), (.tup [(.tup [(.str [97, 110, 110]), (.str [111, 112, 101, 110]), (.tup [(.int (-1)), (.int (2)), (.str [101, 108, 100, 101, 114]), .none]), (.tup [(.tup [(.str [97, 47, 35]), (.str [109, 97, 114, 107, 101, 100])])]), (.tup [(.tup [(.int (0)), (.str [109, 97, 114, 107, 101, 100]), (.str [97]), (.int (7))])])])])]), (.tup [(.int (0)), (.tup [(.tup [(.str [97, 110, 110]), (.str [111, 112, 101, 110]), (.tup [(.int (1001)), (.int (2)), (.str [101, 108, 100, 101, 114]), .none]), (.tup [(.tup [(.str [97, 47, 35]), (.str [109, 97, 114, 107, 101, 100])])]), (.tup [(.tup [(.int (0)), (.str [109, 97, 114, 107, 101, 100]), (.str [97]), (.int (7))])])])])]), (.tup [(.int (0)), (.tup [(.tup [(.str [97, 110, 110]), (.str [111, 112, 101, 110]), (.tup [(.int (2)), (.int (0)), (.str [101, 108, 100, 101, 114]), .none]), (.tup [(.tup [(.str [97, 47, 35]), (.str [109, 97, 114, 107, 101, 100])])]), (.tup [(.tup [(.int (0)), (.str [109, 97, 114, 107, 101, 100]), (.str [97]), (.int (7))])])])])]), (.tup [(.int (0)), (.tup [(.tup [(.str [97, 110, 110]), (.str [111, 112, 101, 110]), (.tup [(.int (2)), (.int (13)), (.str [101, 108, 100, 101, 114]), .none]), (.tup [(.tup [(.str [97, 47, 35]), (.str [109, 97, 114, 107, 101, 100])])]), (.tup [(.tup [(.int (0)), (.str [109, 97, 114, 107, 101, 100]), (.str [97]), (.int (7))])])])])]), (.tup [(.int (0)), (.tup [(.tup [(.str [97, 110, 110]), (.str [111, 112, 101, 110]), (.tup [(.int (2)), (.int (2)), (.str [111, 108, 100]), .none]), (.tup [(.tup [(.str [97, 47, 35]), (.str [109, 97, 114, 107, 101, 100])])]), (.tup [(.tup [(.int (0)), (.str [109, 97, 114, 107, 101, 100]), (.str [97]), (.int (7))])])])])]), (.tup [(.int (0)), (.tup [(.tup [(.str [97, 110, 110]), (.str [111, 112, 101, 110]), (.tup [(.int (2)), (.int (2)), .none, .none]), (.tup [(.tup [(.str [97, 47, 35]), (.str [109, 97, 114, 107, 101, 100])])]), (.tup [(.tup [(.int (0)), (.str [109, 97, 114, 107, 101, 100]), (.str [97]), (.int (7))])])])])]), (.tup [(.int (0)), (.tup [(.tup [(.str [97, 110, 110]), (.str [111, 112, 101, 110]), (.tup [(.int (2)), (.int (2)), (.str [101, 108, 100, 101, 114]), (.tup [(.str [108, 105, 103, 104, 116]), (.str [97])])]), (.tup [(.tup [(.str [97, 47, 35]), (.str [109, 97, 114, 107, 101, 100])])]), (.tup [(.tup [(.int (0)), (.str [109, 97, 114, 107, 101, 100]), (.str [97]), (.int (7))])])])])]), (.tup [(.int (0)), (.tup [(.tup [(.str [97, 110, 110]), (.str [111, 112, 101, 110]), (.tup [(.int (2)), (.int (2)), (.str [101, 108, 100, 101, 114]), (.tup [(.str [108, 111, 117, 100]), (.str [97]), (.int (1))])]), (.tup [(.tup [(.str [97, 47, 35]), (.str [109, 97, 114, 107, 101, 100])])]), (.tup [(.tup [(.int (0)), (.str [109, 97, 114, 107, 101, 100]), (.str [97]), (.int (7))])])])])]), (.tup [(.int (0)), (.tup [(.tup [(.str [97, 110, 110]), (.str [111, 112, 101, 110]), (.list [(.int (2)), (.int (2)), (.str [101, 108, 100, 101, 114]), .none]), (.tup [(.tup [(.str [97, 47, 35]), (.str [109, 97, 114, 107, 101, 100])])]), (.tup [(.tup [(.int (0)), (.str [109, 97, 114, 107, 101, 100]), (.str [97]), (.int (7))])])])])]), (.tup [(.int (0)), (.tup [(.tup [(.str [97, 110, 110]), (.str [111, 112, 101, 110]), (.tup [(.int (2)), (.int (2)), (.str [101, 108, 100, 101, 114]), .none]), (.tup [(.tup [(.str [97, 47, 35]), (.str [109, 97, 114, 107, 101, 100])])]), (.tup [(.tup [(.int (0)), (.str [109, 97, 114, 107, 101, 100]), (.str [97]), (.int (7))]), (.tup [(.int (0)), (.str [109, 97, 114, 107, 101, 100]), (.str [97]), (.int (7))]), (.tup [(.int (0)), (.str [109, 97, 114, 107, 101, 100]), (.str [97]), (.int (7))])])])])]), (.tup [(.int (0)), (.tup [(.tup [(.str [97, 110, 110]), (.str [111, 112, 101, 110]), (.tup [(.int (2)), (.int (2)), (.str [101, 108, 100, 101, 114]), .none]), (.tup [(.tup [(.str [97, 47, 35]), (.str [109, 97, 114, 107, 101, 100])])]), (.tup [(.tup [(.int (1)), (.str [109, 97, 114, 107, 101, 100]), (.str [97]), (.int (7))])])])])]), (.tup [(.int (0)), (.tup [(.tup [(.str [97, 110, 110]), (.str [111, 112, 101, 110]), (.tup [(.int (2)), (.int (2)), (.str [101, 108, 100, 101, 114]), .none]), (.tup [(.tup [(.str [97, 47, 35]), (.str [109, 97, 114, 107, 101, 100])])]), (.tup [(.tup [(.int (0)), (.str [109, 97, 114, 107, 101, 100]), (.str [97])])])])])]), (.tup [(.int (0)), (.tup [(.tup [(.str [97, 110, 110]), (.str [111, 112, 101, 110]), (.tup [(.int (2)), (.int (2)), (.str [101, 108, 100, 101, 114]), .none]), (.tup [(.tup [(.str [97, 47, 35]), (.str [109, 97, 114, 107, 101, 100])])]), (.tup [(.tup [(.int (0)), (.str [109, 97, 114, 107, 101, 100]), (.str [97, 47, 43]), (.int (7))])])])])]), (.tup [(.int (0)), (.tup [(.tup [(.str [97, 110, 110]), (.str [111, 112, 101, 110]), (.tup [(.int (2)), (.int (2)), (.str [101, 108, 100, 101, 114]), .none]), (.tup [(.tup [(.str [97, 47, 35]), (.str [109, 97, 114, 107, 101, 100])])]), (.list [(.tup [(.int (0)), (.str [109, 97, 114, 107, 101, 100]), (.str [97]), (.int (7))])])])])]), (.tup [(.int (2)), (.tup [(.tup [(.str [97, 110, 110]), (.str [111, 112, 101, 110]), (.tup [(.int (2)), (.int (2)), (.str [101, 108, 100, 101, 114]), .none]), (.tup [(.tup [(.str [97, 47, 35]), (.str [109, 97, 114, 107, 101, 100])])]), (.tup [(.tup [(.int (2)), (.str [108, 105, 103, 104, 116]), (.str [97]), (.int (1))]), (.tup [(.int (1)), (.str [108, 105, 103, 104, 116]), (.str [97]), (.int (1))])])])])]), (.tup [(.int (0)), (.tup [(.tup [(.str [97]), (.str [111, 112, 101, 110]), (.tup [(.int (2)), (.int (2)), (.str [101, 108, 100, 101, 114]), .none]), (.tup [(.tup [(.str [97, 47, 35]), (.str [109, 97, 114, 107, 101, 100])])]), (.tup [(.tup [(.int (0)), (.str [109, 97, 114, 107, 101, 100]), (.str [97]), (.int (7))])])]), (.tup [(.str [98]), (.str [111, 112, 101, 110]), (.tup [(.int (2)), (.int (2)), (.str [101, 108, 100, 101, 114]), .none]), (.tup [(.tup [(.str [97, 47, 35]), (.str [109, 97, 114, 107, 101, 100])])]), (.tup [(.tup [(.int (0)), (.str [109, 97, 114, 107, 101, 100]), (.str [97]), (.int (7))])])]), (.tup [(.str [99]), (.str [111, 112, 101, 110]), (.tup [(.int (2)), (.int (2)), (.str [101, 108, 100, 101, 114]), .none]), (.tup [(.tup [(.str [97, 47, 35]), (.str [109, 97, 114, 107, 101, 100])])]), (.tup [(.tup [(.int (0)), (.str [109, 97, 114, 107, 101, 100]), (.str [97]), (.int (7))])])]), (.tup [(.str [100]), (.str [111, 112, 101, 110]), (.tup [(.int (2)), (.int (2)), (.str [101, 108, 100, 101, 114]), .none]), (.tup [(.tup [(.str [97, 47, 35]), (.str [109, 97, 114, 107, 101, 100])])]), (.tup [(.tup [(.int (0)), (.str [109, 97, 114, 107, 101, 100]), (.str [97]), (.int (7))])])]), (.tup [(.str [101]), (.str [111, 112, 101, 110]), (.tup [(.int (2)), (.int (2)), (.str [101, 108, 100, 101, 114]), .none]), (.tup [(.tup [(.str [97, 47, 35]), (.str [109, 97, 114, 107, 101, 100])])]), (.tup [(.tup [(.int (0)), (.str [109, 97, 114, 107, 101, 100]), (.str [97]), (.int (7))])])]), (.tup [(.str [102]), (.str [111, 112, 101, 110]), (.tup [(.int (2)), (.int (2)), (.str [101, 108, 100, 101, 114]), .none]), (.tup [(.tup [(.str [97, 47, 35]), (.str [109, 97, 114, 107, 101, 100])])]), (.tup [(.tup [(.int (0)), (.str [109, 97, 114, 107, 101, 100]), (.str [97]), (.int (7))])])]), (.tup [(.str [103]), (.str [111, 112, 101, 110]), (.tup [(.int (2)), (.int (2)), (.str [101, 108, 100, 101, 114]), .none]), (.tup [(.tup [(.str [97, 47, 35]), (.str [109, 97, 114, 107, 101, 100])])]), (.tup [(.tup [(.int (0)), (.str [109, 97, 114, 107, 101, 100]), (.str [97]), (.int (7))])])])])]), (.tup [(.int (0)), (.tup [(.tup [(.str [97, 110, 110]), (.str [111, 112, 101, 110]), (.tup [(.int (2)), (.int (2)), (.str [101, 108, 100, 101, 114]), .none]), (.tup [(.tup [(.str [97, 43]), (.str [108, 105, 103, 104, 116])])]), (.tup [(.tup [(.int (0)), (.str [109, 97, 114, 107, 101, 100]), (.str [97]), (.int (7))])])])])])]
def stepsD : List D := [.none, (.tup []), (.tup [(.str [116, 117, 114, 110]), (.int (1))]), (.list [(.str [116, 117, 114, 110])]), (.tup [(.str [111, 112, 101, 110]), (.str [97, 110, 110]), (.bool false)]), (.tup [(.str [111, 112, 101, 110]), (.str [97, 110, 110]), (.int (0)), (.tup [(.int (2)), (.int (2)), (.str [101, 108, 100, 101, 114]), .none])]), (.tup [(.str [111, 112, 101, 110]), (.str [65, 110, 110]), (.bool true), (.tup [(.int (2)), (.int (2)), (.str [101, 108, 100, 101, 114]), .none])]), (.tup [(.str [111, 112, 101, 110]), (.str [97, 110, 110]), (.bool true), (.tup [(.int (2)), (.int (2)), (.str [101, 108, 100, 101, 114])])]), (.tup [(.str [115, 104, 117, 116])]), (.tup [(.str [115, 104, 117, 116]), (.str [])]), (.tup [(.str [98, 114, 101, 97, 107]), (.str [97, 110, 110]), (.int (1))]), (.tup [(.str [119, 105, 115, 104]), (.str [97, 110, 110]), (.str [97, 43]), (.str [108, 105, 103, 104, 116])]), (.tup [(.str [119, 105, 115, 104]), (.str [97, 110, 110]), (.str [97]), (.str [108, 111, 117, 100])]), (.tup [(.str [117, 110, 119, 105, 115, 104]), (.str [97, 110, 110])]), (.tup [(.str [116, 101, 108, 108]), (.str [108, 105, 103, 104, 116]), (.str [97, 47, 43]), (.int (1))]), (.tup [(.str [116, 101, 108, 108]), (.str [108, 105, 103, 104, 116]), (.str [97]), (.int (1000))]), (.tup [(.str [116, 97, 107, 101]), (.str [97, 110, 110]), (.int (0))]), (.tup [(.str [116, 97, 107, 101]), (.str [97, 110, 110]), (.int (13))]), (.tup [(.str [116, 97, 107, 101]), (.str [97, 110, 110]), (.bool true)]), (.tup [(.str [84, 117, 114, 110])]), (.tup [.none])]
theorem noH : ∀ d ∈ housesD, ∀ h, Ev.call T C 16 948415806395442362853 [.d d] h = .ok (.d (.bool false)) h ∧ Ev.call T C 17 948415806395442362853 [.d d] h = .ok (.d (.bool false)) h := by
  unfold housesD
  simp only [List.forall_mem_cons]
  exact ⟨noH0, noH1, noH2, noH3, noH4, noH5, noH6, noH7, noH8, noH9, noH10, noH11, noH12, noH13, noH14, noH15, noH16, noH17, noH18, noH19, noH20, noH21, noH22, noH23, noH24, noH25, noH26, noH27, noH28, noH29, noH30, noH31, noH32, noH33, noH34, noH35, noH36, fun _ hq => by cases hq⟩
theorem noS : ∀ d ∈ stepsD, ∀ h, Ev.call T C 17 1021906042097092884595 [.d (.tup [.tup [.str [116, 117, 114, 110]], d])] h = .exc SX (.d .none) h ∧ Ev.call T C 17 32587318971823140735278546498288 [.d d] h = .ok (.d (.bool false)) h := by
  unfold stepsD
  simp only [List.forall_mem_cons]
  exact ⟨noS0, noS1, noS2, noS3, noS4, noS5, noS6, noS7, noS8, noS9, noS10, noS11, noS12, noS13, noS14, noS15, noS16, noS17, noS18, noS19, noS20, fun _ hq => by cases hq⟩
end L47
end

section
set_option autoImplicit false
set_option linter.all false
set_option maxRecDepth 100000
set_option maxHeartbeats 2000000
namespace L47
open Ev
theorem T_law : T 1782007 = some flaw := rfl
theorem houseR {d : D} (hd : d ∈ housesD) (h : Hh) : Ev.call T C 19 63703070597810903631746427711976698596 [.d d] h = .ok (.d (.bool true)) (h ++ [cellH]) := house_ref 16 (fun h => (noH d hd h).1) (fun h => (noH d hd h).2) h
theorem needG (h : Hh) : Ev.call T C 17 1021906042094129871333 [.d (.tup [.int 0, .tup []])] h = .ok (.d .none) h := by kernel_rfl
theorem stepR {d : D} (hd : d ∈ stepsD) (h : Hh) : Ev.call T C 19 497680239047065712789672713667801828 [.d d] h = .ok (.d (.bool true)) (h ++ [cellS]) := step_ref 16 needG (fun h => (noS d hd h).1) (fun h => (noS d hd h).2) h
def G1 : Hh := match Ev.call T C 19 30375991152736959837074993509107 [] (cup [] 0 0) with
  | .ok _ (_ :: c) => c
  | _ => []
def G2 : Hh := match Ev.call T C 19 30375991152736959837074993509107 [] (cup G1 0 0) with
  | .ok _ (_ :: c) => c
  | _ => []
def G3 : Hh := match Ev.call T C 19 30375991152736959837074993509107 [] (cup G2 0 0) with
  | .ok _ (_ :: c) => c
  | _ => []
theorem oh0 (a b : Int) : Ev.call T C 19 30375991152736959837074993509107 [] (cup [] a b) = .ok (.d (.list housesD)) (cup G1 a b) := by kernel_rfl
theorem oh1 (a b : Int) : Ev.call T C 19 30375991152736959837074993509107 [] (cup G1 a b) = .ok (.d (.list housesD)) (cup G2 a b) := by kernel_rfl
theorem oh2 (a b : Int) : Ev.call T C 19 30375991152736959837074993509107 [] (cup G2 a b) = .ok (.d (.list housesD)) (cup G3 a b) := by kernel_rfl
theorem os0 (h : Hh) : Ev.call T C 19 237312430880757498730111400051 [] h = .ok (.d (.list stepsD)) h := by kernel_rfl
def dropS : Nat → Ss → Ss
  | 0, s => s
  | n + 1, .cons _ r => dropS n r
  | _, .nil => .nil
def lawRest : Ss := dropS 3 flaw.body
def bodyAt (n : Nat) : Ss := match dropS n flaw.body with
  | .cons (.for_ _ _ b) _ => b
  | _ => .nil
def itAt (n : Nat) : It := match dropS n flaw.body with
  | .cons (.for_ _ i _) _ => i
  | _ => .seq (.lit .none)
theorem law_body : flaw.body = (.cons (.sett (.tp (.cons (.nm 1) (.cons (.nm 4) .nil))) (.tup (.cons (.call 53958599637531376 (.cons (.var 0) .nil)) (.cons (.tup (.cons (.lit (.int (0))) (.cons (.tup .nil) .nil))) .nil)))) (.cons (.for_ (.nm 5) (itAt 1) (bodyAt 1)) (.cons (.for_ (.nm 5) (itAt 2) (bodyAt 2)) lawRest))) := rfl
theorem loopH (e0 e1 e2 e3 e4 e6 e7 : Option PV) : ∀ (ds : List D) (e5 : Option PV) (h : Hh), (∀ d ∈ ds, d ∈ housesD) → ∃ e5', forGo (evSs ⟨Ev.call T C 19, C, callT T⟩ (bodyAt 1)) (Ev.T.store (.nm 5)) (ds.map PV.d) [e0, e1, e2, e3, e4, e5, e6, e7] h = .ok (.nxt [e0, e1, e2, e3, e4, e5', e6, e7]) (h ++ List.replicate ds.length cellH)
  | [], e5, h, _ => ⟨e5, by simp [forGo]⟩
  | d :: ds, e5, h, hd => by
    obtain ⟨e5', ih⟩ := loopH e0 e1 e2 e3 e4 e6 e7 ds (some (.d d)) (h ++ [cellH]) fun x hx => hd x (by simp [hx])
    refine ⟨e5', ?_⟩
    have r := fun h => houseR (hd d (by simp)) h
    rw [List.map_cons, rn_forGo_cons _ _ _ _ _ _ rfl]
    have b : evSs ⟨Ev.call T C 19, C, callT T⟩ (bodyAt 1) [e0, e1, e2, e3, e4, some (.d d), e6, e7] h = .ok (.nxt [e0, e1, e2, e3, e4, some (.d d), e6, e7]) (h ++ [cellH]) := by
      simp only [rn_bd_ok, rn_bd_exc, rn_bd_stuck, rn_opt_some, rn_opt_none, rn_bnd_ap, rn_ret_ap, rn_stuck_ap, rn_lift_ap, rn_guardH_ap, rn_guard_ap, rn_ite_ap, rn_e_var, rn_e_cst, rn_e_lit, rn_e_bin, rn_e_not, rn_e_cmp, rn_e_cmp2, rn_e_isc, rn_e_and, rn_e_or, rn_e_ite, rn_e_call, rn_e_bl, rn_e_isi, rn_e_mtc, rn_e_ix, rn_e_sl, rn_e_tup, rn_e_lst, rn_e_new, rn_es_nil, rn_es_cons, rn_eo_no, rn_eo_some, rn_s_expr, rn_s_set, rn_s_sett, rn_s_ret, rn_s_retN, rn_s_ifs, rn_s_raise, rn_s_brk, rn_s_cont, rn_s_pass, rn_ss_nil, rn_ss_cons, rn_flK_nxt, rn_flK_ret, rn_flK_brk, rn_flK_cont, rn_defK_ret, rn_defK_nxt, rn_bd_ite, rn_tr_bool, rn_tr_int, rn_tr_tup, rn_tr_list, rn_tr_none, rn_deref, rn_lt_int, rn_le_int, rn_gt_int, rn_ge_int, rn_add_int, rn_sub_int, rn_add_tup, rn_add_list, rn_len_tup, rn_len_list, rn_max_tup, rn_max_list, rn_min_tup, rn_min_list, rn_max2, rn_min2, rn_tuple_list, rn_tuple_tup, rn_list_scr, rn_int_int, rn_abs_int, rn_sorted_tup, rn_sorted_list, rn_all_list, rn_isi, rn_par2, rn_while, rn_eq, rn_ne, rn_in_tup, rn_notin_tup, rn_sl_tup, rn_near_int, rn_near_str, rn_eqv_int, rn_eqv_str, rn_its_tup, rn_rng1, rn_rng2, rn_lc, rn_ts_nil, rn_ts_cons, rn_for, rn_setix, rn_e_dnew, rn_e_demp, rn_e_ditems, rn_e_sset, rn_e_lset, rn_e_dcopy, rn_newDic, rn_key_str, rn_key_int, rn_dicAt_d, rn_isRef, rn_e_mt, rn_e_thk, rn_e_badd, rn_e_neg, rn_zip, rn_mt_split, rn_mt_join, rn_mt_count, rn_mtOk_s1, rn_mtOk_s2, rn_mtOk_s3, rn_sl_list, rn_near_str2, rn_near_int2, rn_near_bool, rn_eqv_bool, rn_any_list, rn_in_list, rn_notin_list, rn_e_rev, rn_lc2, rn_enum, rn_it_cell, rn_par3, rn_app, rn_list_tup, rn_list_list, rn_ty_str, rn_ty_int, rn_ty_bool, rn_ty_tup, rn_ty_list, rn_ty_none, rn_tix0, rn_tix1, rn_tix2, rn_tix3, rn_tix4, rn_tix5, rn_tix6, rn_lix0, rn_lix1, rn_lix2, rn_lix3, rn_lix4, rn_lix5, rn_lix6, Ev.start, wipe, List.getElem?_cons_zero, List.getElem?_cons_succ, List.getElem?_nil, Option.bind_some, Option.bind_none, Option.map_some, Option.map_none, id, List.set_cons_succ, List.set_cons_zero, if_true, if_false, Bool.not_true, Bool.not_false, Bool.false_eq_true, List.map_cons, List.map_nil, List.length_cons, List.length_nil, List.replicate, List.cons_append, List.nil_append, Nat.reduceSub, Nat.reduceAdd, decide_true, decide_false, Option.getD_some, beq_self_eq_true, Ev.T.store, Ev.Ts.stores, lcE, allD, mkTup, reduceIte, Bool.true_eq_false, Bool.and_true, Bool.true_and, Bool.and_false, Bool.false_and, Bool.or_true, Bool.true_or, Bool.or_false, Bool.false_or, LIM, Nat.reduceLeDiff, Nat.zero_le, List.any_cons, List.any_nil, List.all_cons, List.all_nil, rn_bd_bd, okk_ok, forQ_nxt, forQ_cont, forQ_brk, forQ_ret, lcQ_none, lcQ_some, bodyAt, dropS, flaw, r]
    rw [show List.set [e0, e1, e2, e3, e4, e5, e6, e7] 5 (some (PV.d d)) = [e0, e1, e2, e3, e4, some (.d d), e6, e7] from rfl, b, rn_bd_ok]
    dsimp only
    rw [ih, List.length_cons, List.replicate_succ, List.append_assoc]
    rfl
theorem loopS (e0 e1 e2 e3 e4 e6 e7 : Option PV) : ∀ (ds : List D) (e5 : Option PV) (h : Hh), (∀ d ∈ ds, d ∈ stepsD) → ∃ e5', forGo (evSs ⟨Ev.call T C 19, C, callT T⟩ (bodyAt 2)) (Ev.T.store (.nm 5)) (ds.map PV.d) [e0, e1, e2, e3, e4, e5, e6, e7] h = .ok (.nxt [e0, e1, e2, e3, e4, e5', e6, e7]) (h ++ List.replicate ds.length cellS)
  | [], e5, h, _ => ⟨e5, by simp [forGo]⟩
  | d :: ds, e5, h, hd => by
    obtain ⟨e5', ih⟩ := loopS e0 e1 e2 e3 e4 e6 e7 ds (some (.d d)) (h ++ [cellS]) fun x hx => hd x (by simp [hx])
    refine ⟨e5', ?_⟩
    have r := fun h => stepR (hd d (by simp)) h
    rw [List.map_cons, rn_forGo_cons _ _ _ _ _ _ rfl]
    have b : evSs ⟨Ev.call T C 19, C, callT T⟩ (bodyAt 2) [e0, e1, e2, e3, e4, some (.d d), e6, e7] h = .ok (.nxt [e0, e1, e2, e3, e4, some (.d d), e6, e7]) (h ++ [cellS]) := by
      simp only [rn_bd_ok, rn_bd_exc, rn_bd_stuck, rn_opt_some, rn_opt_none, rn_bnd_ap, rn_ret_ap, rn_stuck_ap, rn_lift_ap, rn_guardH_ap, rn_guard_ap, rn_ite_ap, rn_e_var, rn_e_cst, rn_e_lit, rn_e_bin, rn_e_not, rn_e_cmp, rn_e_cmp2, rn_e_isc, rn_e_and, rn_e_or, rn_e_ite, rn_e_call, rn_e_bl, rn_e_isi, rn_e_mtc, rn_e_ix, rn_e_sl, rn_e_tup, rn_e_lst, rn_e_new, rn_es_nil, rn_es_cons, rn_eo_no, rn_eo_some, rn_s_expr, rn_s_set, rn_s_sett, rn_s_ret, rn_s_retN, rn_s_ifs, rn_s_raise, rn_s_brk, rn_s_cont, rn_s_pass, rn_ss_nil, rn_ss_cons, rn_flK_nxt, rn_flK_ret, rn_flK_brk, rn_flK_cont, rn_defK_ret, rn_defK_nxt, rn_bd_ite, rn_tr_bool, rn_tr_int, rn_tr_tup, rn_tr_list, rn_tr_none, rn_deref, rn_lt_int, rn_le_int, rn_gt_int, rn_ge_int, rn_add_int, rn_sub_int, rn_add_tup, rn_add_list, rn_len_tup, rn_len_list, rn_max_tup, rn_max_list, rn_min_tup, rn_min_list, rn_max2, rn_min2, rn_tuple_list, rn_tuple_tup, rn_list_scr, rn_int_int, rn_abs_int, rn_sorted_tup, rn_sorted_list, rn_all_list, rn_isi, rn_par2, rn_while, rn_eq, rn_ne, rn_in_tup, rn_notin_tup, rn_sl_tup, rn_near_int, rn_near_str, rn_eqv_int, rn_eqv_str, rn_its_tup, rn_rng1, rn_rng2, rn_lc, rn_ts_nil, rn_ts_cons, rn_for, rn_setix, rn_e_dnew, rn_e_demp, rn_e_ditems, rn_e_sset, rn_e_lset, rn_e_dcopy, rn_newDic, rn_key_str, rn_key_int, rn_dicAt_d, rn_isRef, rn_e_mt, rn_e_thk, rn_e_badd, rn_e_neg, rn_zip, rn_mt_split, rn_mt_join, rn_mt_count, rn_mtOk_s1, rn_mtOk_s2, rn_mtOk_s3, rn_sl_list, rn_near_str2, rn_near_int2, rn_near_bool, rn_eqv_bool, rn_any_list, rn_in_list, rn_notin_list, rn_e_rev, rn_lc2, rn_enum, rn_it_cell, rn_par3, rn_app, rn_list_tup, rn_list_list, rn_ty_str, rn_ty_int, rn_ty_bool, rn_ty_tup, rn_ty_list, rn_ty_none, rn_tix0, rn_tix1, rn_tix2, rn_tix3, rn_tix4, rn_tix5, rn_tix6, rn_lix0, rn_lix1, rn_lix2, rn_lix3, rn_lix4, rn_lix5, rn_lix6, Ev.start, wipe, List.getElem?_cons_zero, List.getElem?_cons_succ, List.getElem?_nil, Option.bind_some, Option.bind_none, Option.map_some, Option.map_none, id, List.set_cons_succ, List.set_cons_zero, if_true, if_false, Bool.not_true, Bool.not_false, Bool.false_eq_true, List.map_cons, List.map_nil, List.length_cons, List.length_nil, List.replicate, List.cons_append, List.nil_append, Nat.reduceSub, Nat.reduceAdd, decide_true, decide_false, Option.getD_some, beq_self_eq_true, Ev.T.store, Ev.Ts.stores, lcE, allD, mkTup, reduceIte, Bool.true_eq_false, Bool.and_true, Bool.true_and, Bool.and_false, Bool.false_and, Bool.or_true, Bool.true_or, Bool.or_false, Bool.false_or, LIM, Nat.reduceLeDiff, Nat.zero_le, List.any_cons, List.any_nil, List.all_cons, List.all_nil, rn_bd_bd, okk_ok, forQ_nxt, forQ_cont, forQ_brk, forQ_ret, lcQ_none, lcQ_some, bodyAt, dropS, flaw, r]
    rw [show List.set [e0, e1, e2, e3, e4, e5, e6, e7] 5 (some (PV.d d)) = [e0, e1, e2, e3, e4, some (.d d), e6, e7] from rfl, b, rn_bd_ok]
    dsimp only
    rw [ih, List.length_cons, List.replicate_succ, List.append_assoc]
    rfl
theorem lc_step {elt : Env → M (Option PV)} {st : PV → Env → Option Env} {env env1 : Env} {x : PV} {xs : List PV} {acc : List D} {y : D} {h h' : Hh} (h1 : st x env = some env1) (h2 : elt env1 h = .ok (some (.d y)) h') (hl : acc.length < LIM) : lcGo elt st env (x :: xs) acc h = lcGo elt st env xs (acc ++ [y]) h' := by
  rw [rn_lc_cons _ _ _ _ _ _ _ h1]
  have : M.calm (elt env1) h = .ok (some (.d y)) h' := by simp only [M.calm, h2]
  rw [this, rn_bd_ok]
  dsimp only
  rw [if_pos hl]
theorem drawsH (a b : Int) (ha : 0 ≤ a) (e0 e4 : Option PV) : ∃ d1 d2 d3 a' b', evIt ⟨Ev.call T C 19, C, callT T⟩ (itAt 1) [e0, some (.ref 0), none, none, e4, none, none, none] (cup [] a b) = .ok (.its ([d1, d2, d3, D.none].map PV.d)) (cup G3 a' b') ∧ 0 ≤ a' ∧ (∀ d ∈ [d1, d2, d3, D.none], d ∈ housesD) := by
  have l0 : 0 < housesD.length := by decide
  have l1 : housesD.length ≤ 10000 := by decide
  obtain ⟨d1, a1, b1, q1, m1, p1⟩ := some_eq G1 17 a b housesD ha l0 l1
  obtain ⟨d2, a2, b2, q2, m2, p2⟩ := some_eq G2 17 a1 b1 housesD p1 l0 l1
  obtain ⟨d3, a3, b3, q3, m3, p3⟩ := some_eq G3 17 a2 b2 housesD p2 l0 l1
  refine ⟨d1, d2, d3, a3, b3, ?_, p3, ?_⟩
  · have o0 := oh0 a b
    have o1 := oh1 a1 b1
    have o2 := oh2 a2 b2
    generalize housesD = hs at *
    generalize G1 = g1 at *
    generalize G2 = g2 at *
    generalize G3 = g3 at *
    have sm : small 3 = true := rfl
    have rg : rangeD 0 (Int.toNat 3) 1 = [.d (.int 0), .d (.int 1), .d (.int 2)] := rfl
    simp only [rn_bd_ok, rn_bd_exc, rn_bd_stuck, rn_opt_some, rn_opt_none, rn_bnd_ap, rn_ret_ap, rn_stuck_ap, rn_lift_ap, rn_guardH_ap, rn_guard_ap, rn_ite_ap, rn_e_var, rn_e_cst, rn_e_lit, rn_e_bin, rn_e_not, rn_e_cmp, rn_e_cmp2, rn_e_isc, rn_e_and, rn_e_or, rn_e_ite, rn_e_call, rn_e_bl, rn_e_isi, rn_e_mtc, rn_e_ix, rn_e_sl, rn_e_tup, rn_e_lst, rn_e_new, rn_es_nil, rn_es_cons, rn_eo_no, rn_eo_some, rn_s_expr, rn_s_set, rn_s_sett, rn_s_ret, rn_s_retN, rn_s_ifs, rn_s_raise, rn_s_brk, rn_s_cont, rn_s_pass, rn_ss_nil, rn_ss_cons, rn_flK_nxt, rn_flK_ret, rn_flK_brk, rn_flK_cont, rn_defK_ret, rn_defK_nxt, rn_bd_ite, rn_tr_bool, rn_tr_int, rn_tr_tup, rn_tr_list, rn_tr_none, rn_deref, rn_lt_int, rn_le_int, rn_gt_int, rn_ge_int, rn_add_int, rn_sub_int, rn_add_tup, rn_add_list, rn_len_tup, rn_len_list, rn_max_tup, rn_max_list, rn_min_tup, rn_min_list, rn_max2, rn_min2, rn_tuple_list, rn_tuple_tup, rn_list_scr, rn_int_int, rn_abs_int, rn_sorted_tup, rn_sorted_list, rn_all_list, rn_isi, rn_par2, rn_while, rn_eq, rn_ne, rn_in_tup, rn_notin_tup, rn_sl_tup, rn_near_int, rn_near_str, rn_eqv_int, rn_eqv_str, rn_its_tup, rn_rng1, rn_rng2, rn_lc, rn_ts_nil, rn_ts_cons, rn_for, rn_setix, rn_e_dnew, rn_e_demp, rn_e_ditems, rn_e_sset, rn_e_lset, rn_e_dcopy, rn_newDic, rn_key_str, rn_key_int, rn_dicAt_d, rn_isRef, rn_e_mt, rn_e_thk, rn_e_badd, rn_e_neg, rn_zip, rn_mt_split, rn_mt_join, rn_mt_count, rn_mtOk_s1, rn_mtOk_s2, rn_mtOk_s3, rn_sl_list, rn_near_str2, rn_near_int2, rn_near_bool, rn_eqv_bool, rn_any_list, rn_in_list, rn_notin_list, rn_e_rev, rn_lc2, rn_enum, rn_it_cell, rn_par3, rn_app, rn_list_tup, rn_list_list, rn_ty_str, rn_ty_int, rn_ty_bool, rn_ty_tup, rn_ty_list, rn_ty_none, rn_tix0, rn_tix1, rn_tix2, rn_tix3, rn_tix4, rn_tix5, rn_tix6, rn_lix0, rn_lix1, rn_lix2, rn_lix3, rn_lix4, rn_lix5, rn_lix6, Ev.start, wipe, List.getElem?_cons_zero, List.getElem?_cons_succ, List.getElem?_nil, Option.bind_some, Option.bind_none, Option.map_some, Option.map_none, id, List.set_cons_succ, List.set_cons_zero, if_true, if_false, Bool.not_true, Bool.not_false, Bool.false_eq_true, List.map_cons, List.map_nil, List.length_cons, List.length_nil, List.replicate, List.cons_append, List.nil_append, Nat.reduceSub, Nat.reduceAdd, decide_true, decide_false, Option.getD_some, beq_self_eq_true, Ev.T.store, Ev.Ts.stores, lcE, allD, mkTup, reduceIte, Bool.true_eq_false, Bool.and_true, Bool.true_and, Bool.and_false, Bool.false_and, Bool.or_true, Bool.true_or, Bool.or_false, Bool.false_or, LIM, Nat.reduceLeDiff, Nat.zero_le, List.any_cons, List.any_nil, List.all_cons, List.all_nil, rn_bd_bd, okk_ok, forQ_nxt, forQ_cont, forQ_brk, forQ_ret, lcQ_none, lcQ_some, itAt, dropS, flaw, sm, rg]
    rw [lc_step (y := d1) (h' := cup g1 a1 b1) rfl (by simp only [rn_bd_ok, rn_bd_exc, rn_bd_stuck, rn_opt_some, rn_opt_none, rn_bnd_ap, rn_ret_ap, rn_stuck_ap, rn_lift_ap, rn_guardH_ap, rn_guard_ap, rn_ite_ap, rn_e_var, rn_e_cst, rn_e_lit, rn_e_bin, rn_e_not, rn_e_cmp, rn_e_cmp2, rn_e_isc, rn_e_and, rn_e_or, rn_e_ite, rn_e_call, rn_e_bl, rn_e_isi, rn_e_mtc, rn_e_ix, rn_e_sl, rn_e_tup, rn_e_lst, rn_e_new, rn_es_nil, rn_es_cons, rn_eo_no, rn_eo_some, rn_s_expr, rn_s_set, rn_s_sett, rn_s_ret, rn_s_retN, rn_s_ifs, rn_s_raise, rn_s_brk, rn_s_cont, rn_s_pass, rn_ss_nil, rn_ss_cons, rn_flK_nxt, rn_flK_ret, rn_flK_brk, rn_flK_cont, rn_defK_ret, rn_defK_nxt, rn_bd_ite, rn_tr_bool, rn_tr_int, rn_tr_tup, rn_tr_list, rn_tr_none, rn_deref, rn_lt_int, rn_le_int, rn_gt_int, rn_ge_int, rn_add_int, rn_sub_int, rn_add_tup, rn_add_list, rn_len_tup, rn_len_list, rn_max_tup, rn_max_list, rn_min_tup, rn_min_list, rn_max2, rn_min2, rn_tuple_list, rn_tuple_tup, rn_list_scr, rn_int_int, rn_abs_int, rn_sorted_tup, rn_sorted_list, rn_all_list, rn_isi, rn_par2, rn_while, rn_eq, rn_ne, rn_in_tup, rn_notin_tup, rn_sl_tup, rn_near_int, rn_near_str, rn_eqv_int, rn_eqv_str, rn_its_tup, rn_rng1, rn_rng2, rn_lc, rn_ts_nil, rn_ts_cons, rn_for, rn_setix, rn_e_dnew, rn_e_demp, rn_e_ditems, rn_e_sset, rn_e_lset, rn_e_dcopy, rn_newDic, rn_key_str, rn_key_int, rn_dicAt_d, rn_isRef, rn_e_mt, rn_e_thk, rn_e_badd, rn_e_neg, rn_zip, rn_mt_split, rn_mt_join, rn_mt_count, rn_mtOk_s1, rn_mtOk_s2, rn_mtOk_s3, rn_sl_list, rn_near_str2, rn_near_int2, rn_near_bool, rn_eqv_bool, rn_any_list, rn_in_list, rn_notin_list, rn_e_rev, rn_lc2, rn_enum, rn_it_cell, rn_par3, rn_app, rn_list_tup, rn_list_list, rn_ty_str, rn_ty_int, rn_ty_bool, rn_ty_tup, rn_ty_list, rn_ty_none, rn_tix0, rn_tix1, rn_tix2, rn_tix3, rn_tix4, rn_tix5, rn_tix6, rn_lix0, rn_lix1, rn_lix2, rn_lix3, rn_lix4, rn_lix5, rn_lix6, Ev.start, wipe, List.getElem?_cons_zero, List.getElem?_cons_succ, List.getElem?_nil, Option.bind_some, Option.bind_none, Option.map_some, Option.map_none, id, List.set_cons_succ, List.set_cons_zero, if_true, if_false, Bool.not_true, Bool.not_false, Bool.false_eq_true, List.map_cons, List.map_nil, List.length_cons, List.length_nil, List.replicate, List.cons_append, List.nil_append, Nat.reduceSub, Nat.reduceAdd, decide_true, decide_false, Option.getD_some, beq_self_eq_true, Ev.T.store, Ev.Ts.stores, lcE, allD, mkTup, reduceIte, Bool.true_eq_false, Bool.and_true, Bool.true_and, Bool.and_false, Bool.false_and, Bool.or_true, Bool.true_or, Bool.or_false, Bool.false_or, LIM, Nat.reduceLeDiff, Nat.zero_le, List.any_cons, List.any_nil, List.all_cons, List.all_nil, rn_bd_bd, okk_ok, forQ_nxt, forQ_cont, forQ_brk, forQ_ret, lcQ_none, lcQ_some, o0, q1]) (by decide), lc_step (y := d2) (h' := cup g2 a2 b2) rfl (by simp only [rn_bd_ok, rn_bd_exc, rn_bd_stuck, rn_opt_some, rn_opt_none, rn_bnd_ap, rn_ret_ap, rn_stuck_ap, rn_lift_ap, rn_guardH_ap, rn_guard_ap, rn_ite_ap, rn_e_var, rn_e_cst, rn_e_lit, rn_e_bin, rn_e_not, rn_e_cmp, rn_e_cmp2, rn_e_isc, rn_e_and, rn_e_or, rn_e_ite, rn_e_call, rn_e_bl, rn_e_isi, rn_e_mtc, rn_e_ix, rn_e_sl, rn_e_tup, rn_e_lst, rn_e_new, rn_es_nil, rn_es_cons, rn_eo_no, rn_eo_some, rn_s_expr, rn_s_set, rn_s_sett, rn_s_ret, rn_s_retN, rn_s_ifs, rn_s_raise, rn_s_brk, rn_s_cont, rn_s_pass, rn_ss_nil, rn_ss_cons, rn_flK_nxt, rn_flK_ret, rn_flK_brk, rn_flK_cont, rn_defK_ret, rn_defK_nxt, rn_bd_ite, rn_tr_bool, rn_tr_int, rn_tr_tup, rn_tr_list, rn_tr_none, rn_deref, rn_lt_int, rn_le_int, rn_gt_int, rn_ge_int, rn_add_int, rn_sub_int, rn_add_tup, rn_add_list, rn_len_tup, rn_len_list, rn_max_tup, rn_max_list, rn_min_tup, rn_min_list, rn_max2, rn_min2, rn_tuple_list, rn_tuple_tup, rn_list_scr, rn_int_int, rn_abs_int, rn_sorted_tup, rn_sorted_list, rn_all_list, rn_isi, rn_par2, rn_while, rn_eq, rn_ne, rn_in_tup, rn_notin_tup, rn_sl_tup, rn_near_int, rn_near_str, rn_eqv_int, rn_eqv_str, rn_its_tup, rn_rng1, rn_rng2, rn_lc, rn_ts_nil, rn_ts_cons, rn_for, rn_setix, rn_e_dnew, rn_e_demp, rn_e_ditems, rn_e_sset, rn_e_lset, rn_e_dcopy, rn_newDic, rn_key_str, rn_key_int, rn_dicAt_d, rn_isRef, rn_e_mt, rn_e_thk, rn_e_badd, rn_e_neg, rn_zip, rn_mt_split, rn_mt_join, rn_mt_count, rn_mtOk_s1, rn_mtOk_s2, rn_mtOk_s3, rn_sl_list, rn_near_str2, rn_near_int2, rn_near_bool, rn_eqv_bool, rn_any_list, rn_in_list, rn_notin_list, rn_e_rev, rn_lc2, rn_enum, rn_it_cell, rn_par3, rn_app, rn_list_tup, rn_list_list, rn_ty_str, rn_ty_int, rn_ty_bool, rn_ty_tup, rn_ty_list, rn_ty_none, rn_tix0, rn_tix1, rn_tix2, rn_tix3, rn_tix4, rn_tix5, rn_tix6, rn_lix0, rn_lix1, rn_lix2, rn_lix3, rn_lix4, rn_lix5, rn_lix6, Ev.start, wipe, List.getElem?_cons_zero, List.getElem?_cons_succ, List.getElem?_nil, Option.bind_some, Option.bind_none, Option.map_some, Option.map_none, id, List.set_cons_succ, List.set_cons_zero, if_true, if_false, Bool.not_true, Bool.not_false, Bool.false_eq_true, List.map_cons, List.map_nil, List.length_cons, List.length_nil, List.replicate, List.cons_append, List.nil_append, Nat.reduceSub, Nat.reduceAdd, decide_true, decide_false, Option.getD_some, beq_self_eq_true, Ev.T.store, Ev.Ts.stores, lcE, allD, mkTup, reduceIte, Bool.true_eq_false, Bool.and_true, Bool.true_and, Bool.and_false, Bool.false_and, Bool.or_true, Bool.true_or, Bool.or_false, Bool.false_or, LIM, Nat.reduceLeDiff, Nat.zero_le, List.any_cons, List.any_nil, List.all_cons, List.all_nil, rn_bd_bd, okk_ok, forQ_nxt, forQ_cont, forQ_brk, forQ_ret, lcQ_none, lcQ_some, o1, q2]) (by simp [LIM]), lc_step (y := d3) (h' := cup g3 a3 b3) rfl (by simp only [rn_bd_ok, rn_bd_exc, rn_bd_stuck, rn_opt_some, rn_opt_none, rn_bnd_ap, rn_ret_ap, rn_stuck_ap, rn_lift_ap, rn_guardH_ap, rn_guard_ap, rn_ite_ap, rn_e_var, rn_e_cst, rn_e_lit, rn_e_bin, rn_e_not, rn_e_cmp, rn_e_cmp2, rn_e_isc, rn_e_and, rn_e_or, rn_e_ite, rn_e_call, rn_e_bl, rn_e_isi, rn_e_mtc, rn_e_ix, rn_e_sl, rn_e_tup, rn_e_lst, rn_e_new, rn_es_nil, rn_es_cons, rn_eo_no, rn_eo_some, rn_s_expr, rn_s_set, rn_s_sett, rn_s_ret, rn_s_retN, rn_s_ifs, rn_s_raise, rn_s_brk, rn_s_cont, rn_s_pass, rn_ss_nil, rn_ss_cons, rn_flK_nxt, rn_flK_ret, rn_flK_brk, rn_flK_cont, rn_defK_ret, rn_defK_nxt, rn_bd_ite, rn_tr_bool, rn_tr_int, rn_tr_tup, rn_tr_list, rn_tr_none, rn_deref, rn_lt_int, rn_le_int, rn_gt_int, rn_ge_int, rn_add_int, rn_sub_int, rn_add_tup, rn_add_list, rn_len_tup, rn_len_list, rn_max_tup, rn_max_list, rn_min_tup, rn_min_list, rn_max2, rn_min2, rn_tuple_list, rn_tuple_tup, rn_list_scr, rn_int_int, rn_abs_int, rn_sorted_tup, rn_sorted_list, rn_all_list, rn_isi, rn_par2, rn_while, rn_eq, rn_ne, rn_in_tup, rn_notin_tup, rn_sl_tup, rn_near_int, rn_near_str, rn_eqv_int, rn_eqv_str, rn_its_tup, rn_rng1, rn_rng2, rn_lc, rn_ts_nil, rn_ts_cons, rn_for, rn_setix, rn_e_dnew, rn_e_demp, rn_e_ditems, rn_e_sset, rn_e_lset, rn_e_dcopy, rn_newDic, rn_key_str, rn_key_int, rn_dicAt_d, rn_isRef, rn_e_mt, rn_e_thk, rn_e_badd, rn_e_neg, rn_zip, rn_mt_split, rn_mt_join, rn_mt_count, rn_mtOk_s1, rn_mtOk_s2, rn_mtOk_s3, rn_sl_list, rn_near_str2, rn_near_int2, rn_near_bool, rn_eqv_bool, rn_any_list, rn_in_list, rn_notin_list, rn_e_rev, rn_lc2, rn_enum, rn_it_cell, rn_par3, rn_app, rn_list_tup, rn_list_list, rn_ty_str, rn_ty_int, rn_ty_bool, rn_ty_tup, rn_ty_list, rn_ty_none, rn_tix0, rn_tix1, rn_tix2, rn_tix3, rn_tix4, rn_tix5, rn_tix6, rn_lix0, rn_lix1, rn_lix2, rn_lix3, rn_lix4, rn_lix5, rn_lix6, Ev.start, wipe, List.getElem?_cons_zero, List.getElem?_cons_succ, List.getElem?_nil, Option.bind_some, Option.bind_none, Option.map_some, Option.map_none, id, List.set_cons_succ, List.set_cons_zero, if_true, if_false, Bool.not_true, Bool.not_false, Bool.false_eq_true, List.map_cons, List.map_nil, List.length_cons, List.length_nil, List.replicate, List.cons_append, List.nil_append, Nat.reduceSub, Nat.reduceAdd, decide_true, decide_false, Option.getD_some, beq_self_eq_true, Ev.T.store, Ev.Ts.stores, lcE, allD, mkTup, reduceIte, Bool.true_eq_false, Bool.and_true, Bool.true_and, Bool.and_false, Bool.false_and, Bool.or_true, Bool.true_or, Bool.or_false, Bool.false_or, LIM, Nat.reduceLeDiff, Nat.zero_le, List.any_cons, List.any_nil, List.all_cons, List.all_nil, rn_bd_bd, okk_ok, forQ_nxt, forQ_cont, forQ_brk, forQ_ret, lcQ_none, lcQ_some, o2, q3]) (by simp [LIM]), rn_lc_nil]
    simp only [rn_bd_ok, rn_bd_exc, rn_bd_stuck, rn_opt_some, rn_opt_none, rn_bnd_ap, rn_ret_ap, rn_stuck_ap, rn_lift_ap, rn_guardH_ap, rn_guard_ap, rn_ite_ap, rn_e_var, rn_e_cst, rn_e_lit, rn_e_bin, rn_e_not, rn_e_cmp, rn_e_cmp2, rn_e_isc, rn_e_and, rn_e_or, rn_e_ite, rn_e_call, rn_e_bl, rn_e_isi, rn_e_mtc, rn_e_ix, rn_e_sl, rn_e_tup, rn_e_lst, rn_e_new, rn_es_nil, rn_es_cons, rn_eo_no, rn_eo_some, rn_s_expr, rn_s_set, rn_s_sett, rn_s_ret, rn_s_retN, rn_s_ifs, rn_s_raise, rn_s_brk, rn_s_cont, rn_s_pass, rn_ss_nil, rn_ss_cons, rn_flK_nxt, rn_flK_ret, rn_flK_brk, rn_flK_cont, rn_defK_ret, rn_defK_nxt, rn_bd_ite, rn_tr_bool, rn_tr_int, rn_tr_tup, rn_tr_list, rn_tr_none, rn_deref, rn_lt_int, rn_le_int, rn_gt_int, rn_ge_int, rn_add_int, rn_sub_int, rn_add_tup, rn_add_list, rn_len_tup, rn_len_list, rn_max_tup, rn_max_list, rn_min_tup, rn_min_list, rn_max2, rn_min2, rn_tuple_list, rn_tuple_tup, rn_list_scr, rn_int_int, rn_abs_int, rn_sorted_tup, rn_sorted_list, rn_all_list, rn_isi, rn_par2, rn_while, rn_eq, rn_ne, rn_in_tup, rn_notin_tup, rn_sl_tup, rn_near_int, rn_near_str, rn_eqv_int, rn_eqv_str, rn_its_tup, rn_rng1, rn_rng2, rn_lc, rn_ts_nil, rn_ts_cons, rn_for, rn_setix, rn_e_dnew, rn_e_demp, rn_e_ditems, rn_e_sset, rn_e_lset, rn_e_dcopy, rn_newDic, rn_key_str, rn_key_int, rn_dicAt_d, rn_isRef, rn_e_mt, rn_e_thk, rn_e_badd, rn_e_neg, rn_zip, rn_mt_split, rn_mt_join, rn_mt_count, rn_mtOk_s1, rn_mtOk_s2, rn_mtOk_s3, rn_sl_list, rn_near_str2, rn_near_int2, rn_near_bool, rn_eqv_bool, rn_any_list, rn_in_list, rn_notin_list, rn_e_rev, rn_lc2, rn_enum, rn_it_cell, rn_par3, rn_app, rn_list_tup, rn_list_list, rn_ty_str, rn_ty_int, rn_ty_bool, rn_ty_tup, rn_ty_list, rn_ty_none, rn_tix0, rn_tix1, rn_tix2, rn_tix3, rn_tix4, rn_tix5, rn_tix6, rn_lix0, rn_lix1, rn_lix2, rn_lix3, rn_lix4, rn_lix5, rn_lix6, Ev.start, wipe, List.getElem?_cons_zero, List.getElem?_cons_succ, List.getElem?_nil, Option.bind_some, Option.bind_none, Option.map_some, Option.map_none, id, List.set_cons_succ, List.set_cons_zero, if_true, if_false, Bool.not_true, Bool.not_false, Bool.false_eq_true, List.map_cons, List.map_nil, List.length_cons, List.length_nil, List.replicate, List.cons_append, List.nil_append, Nat.reduceSub, Nat.reduceAdd, decide_true, decide_false, Option.getD_some, beq_self_eq_true, Ev.T.store, Ev.Ts.stores, lcE, allD, mkTup, reduceIte, Bool.true_eq_false, Bool.and_true, Bool.true_and, Bool.and_false, Bool.false_and, Bool.or_true, Bool.true_or, Bool.or_false, Bool.false_or, LIM, Nat.reduceLeDiff, Nat.zero_le, List.any_cons, List.any_nil, List.all_cons, List.all_nil, rn_bd_bd, okk_ok, forQ_nxt, forQ_cont, forQ_brk, forQ_ret, lcQ_none, lcQ_some, ]
  · simp only [List.forall_mem_cons]
    exact ⟨m1, m2, m3, List.mem_cons_self, fun _ h => by cases h⟩
theorem drawsS (Z : Hh) (a b : Int) (ha : 0 ≤ a) (e0 e4 e5 : Option PV) : ∃ d1 d2 d3 a' b', evIt ⟨Ev.call T C 19, C, callT T⟩ (itAt 2) [e0, some (.ref 0), none, none, e4, e5, none, none] (cup Z a b) = .ok (.its ([d1, d2, d3, D.tup [.str [116, 97, 107, 101], .str [97, 110, 110], .int 13]].map PV.d)) (cup Z a' b') ∧ 0 ≤ a' ∧ (∀ d ∈ [d1, d2, d3, D.tup [.str [116, 97, 107, 101], .str [97, 110, 110], .int 13]], d ∈ stepsD) := by
  have l0 : 0 < stepsD.length := by decide
  have l1 : stepsD.length ≤ 10000 := by decide
  have hin : D.tup [.str [116, 97, 107, 101], .str [97, 110, 110], .int 13] ∈ stepsD := by unfold stepsD; simp
  obtain ⟨d1, a1, b1, q1, m1, p1⟩ := some_eq Z 17 a b stepsD ha l0 l1
  obtain ⟨d2, a2, b2, q2, m2, p2⟩ := some_eq Z 17 a1 b1 stepsD p1 l0 l1
  obtain ⟨d3, a3, b3, q3, m3, p3⟩ := some_eq Z 17 a2 b2 stepsD p2 l0 l1
  refine ⟨d1, d2, d3, a3, b3, ?_, p3, ?_⟩
  · have o0 := fun h => os0 h
    clear hin
    generalize stepsD = hs at *
    have sm : small 3 = true := rfl
    have rg : rangeD 0 (Int.toNat 3) 1 = [.d (.int 0), .d (.int 1), .d (.int 2)] := rfl
    simp only [rn_bd_ok, rn_bd_exc, rn_bd_stuck, rn_opt_some, rn_opt_none, rn_bnd_ap, rn_ret_ap, rn_stuck_ap, rn_lift_ap, rn_guardH_ap, rn_guard_ap, rn_ite_ap, rn_e_var, rn_e_cst, rn_e_lit, rn_e_bin, rn_e_not, rn_e_cmp, rn_e_cmp2, rn_e_isc, rn_e_and, rn_e_or, rn_e_ite, rn_e_call, rn_e_bl, rn_e_isi, rn_e_mtc, rn_e_ix, rn_e_sl, rn_e_tup, rn_e_lst, rn_e_new, rn_es_nil, rn_es_cons, rn_eo_no, rn_eo_some, rn_s_expr, rn_s_set, rn_s_sett, rn_s_ret, rn_s_retN, rn_s_ifs, rn_s_raise, rn_s_brk, rn_s_cont, rn_s_pass, rn_ss_nil, rn_ss_cons, rn_flK_nxt, rn_flK_ret, rn_flK_brk, rn_flK_cont, rn_defK_ret, rn_defK_nxt, rn_bd_ite, rn_tr_bool, rn_tr_int, rn_tr_tup, rn_tr_list, rn_tr_none, rn_deref, rn_lt_int, rn_le_int, rn_gt_int, rn_ge_int, rn_add_int, rn_sub_int, rn_add_tup, rn_add_list, rn_len_tup, rn_len_list, rn_max_tup, rn_max_list, rn_min_tup, rn_min_list, rn_max2, rn_min2, rn_tuple_list, rn_tuple_tup, rn_list_scr, rn_int_int, rn_abs_int, rn_sorted_tup, rn_sorted_list, rn_all_list, rn_isi, rn_par2, rn_while, rn_eq, rn_ne, rn_in_tup, rn_notin_tup, rn_sl_tup, rn_near_int, rn_near_str, rn_eqv_int, rn_eqv_str, rn_its_tup, rn_rng1, rn_rng2, rn_lc, rn_ts_nil, rn_ts_cons, rn_for, rn_setix, rn_e_dnew, rn_e_demp, rn_e_ditems, rn_e_sset, rn_e_lset, rn_e_dcopy, rn_newDic, rn_key_str, rn_key_int, rn_dicAt_d, rn_isRef, rn_e_mt, rn_e_thk, rn_e_badd, rn_e_neg, rn_zip, rn_mt_split, rn_mt_join, rn_mt_count, rn_mtOk_s1, rn_mtOk_s2, rn_mtOk_s3, rn_sl_list, rn_near_str2, rn_near_int2, rn_near_bool, rn_eqv_bool, rn_any_list, rn_in_list, rn_notin_list, rn_e_rev, rn_lc2, rn_enum, rn_it_cell, rn_par3, rn_app, rn_list_tup, rn_list_list, rn_ty_str, rn_ty_int, rn_ty_bool, rn_ty_tup, rn_ty_list, rn_ty_none, rn_tix0, rn_tix1, rn_tix2, rn_tix3, rn_tix4, rn_tix5, rn_tix6, rn_lix0, rn_lix1, rn_lix2, rn_lix3, rn_lix4, rn_lix5, rn_lix6, Ev.start, wipe, List.getElem?_cons_zero, List.getElem?_cons_succ, List.getElem?_nil, Option.bind_some, Option.bind_none, Option.map_some, Option.map_none, id, List.set_cons_succ, List.set_cons_zero, if_true, if_false, Bool.not_true, Bool.not_false, Bool.false_eq_true, List.map_cons, List.map_nil, List.length_cons, List.length_nil, List.replicate, List.cons_append, List.nil_append, Nat.reduceSub, Nat.reduceAdd, decide_true, decide_false, Option.getD_some, beq_self_eq_true, Ev.T.store, Ev.Ts.stores, lcE, allD, mkTup, reduceIte, Bool.true_eq_false, Bool.and_true, Bool.true_and, Bool.and_false, Bool.false_and, Bool.or_true, Bool.true_or, Bool.or_false, Bool.false_or, LIM, Nat.reduceLeDiff, Nat.zero_le, List.any_cons, List.any_nil, List.all_cons, List.all_nil, rn_bd_bd, okk_ok, forQ_nxt, forQ_cont, forQ_brk, forQ_ret, lcQ_none, lcQ_some, itAt, dropS, flaw, sm, rg]
    rw [lc_step (y := d1) (h' := cup Z a1 b1) rfl (by simp only [rn_bd_ok, rn_bd_exc, rn_bd_stuck, rn_opt_some, rn_opt_none, rn_bnd_ap, rn_ret_ap, rn_stuck_ap, rn_lift_ap, rn_guardH_ap, rn_guard_ap, rn_ite_ap, rn_e_var, rn_e_cst, rn_e_lit, rn_e_bin, rn_e_not, rn_e_cmp, rn_e_cmp2, rn_e_isc, rn_e_and, rn_e_or, rn_e_ite, rn_e_call, rn_e_bl, rn_e_isi, rn_e_mtc, rn_e_ix, rn_e_sl, rn_e_tup, rn_e_lst, rn_e_new, rn_es_nil, rn_es_cons, rn_eo_no, rn_eo_some, rn_s_expr, rn_s_set, rn_s_sett, rn_s_ret, rn_s_retN, rn_s_ifs, rn_s_raise, rn_s_brk, rn_s_cont, rn_s_pass, rn_ss_nil, rn_ss_cons, rn_flK_nxt, rn_flK_ret, rn_flK_brk, rn_flK_cont, rn_defK_ret, rn_defK_nxt, rn_bd_ite, rn_tr_bool, rn_tr_int, rn_tr_tup, rn_tr_list, rn_tr_none, rn_deref, rn_lt_int, rn_le_int, rn_gt_int, rn_ge_int, rn_add_int, rn_sub_int, rn_add_tup, rn_add_list, rn_len_tup, rn_len_list, rn_max_tup, rn_max_list, rn_min_tup, rn_min_list, rn_max2, rn_min2, rn_tuple_list, rn_tuple_tup, rn_list_scr, rn_int_int, rn_abs_int, rn_sorted_tup, rn_sorted_list, rn_all_list, rn_isi, rn_par2, rn_while, rn_eq, rn_ne, rn_in_tup, rn_notin_tup, rn_sl_tup, rn_near_int, rn_near_str, rn_eqv_int, rn_eqv_str, rn_its_tup, rn_rng1, rn_rng2, rn_lc, rn_ts_nil, rn_ts_cons, rn_for, rn_setix, rn_e_dnew, rn_e_demp, rn_e_ditems, rn_e_sset, rn_e_lset, rn_e_dcopy, rn_newDic, rn_key_str, rn_key_int, rn_dicAt_d, rn_isRef, rn_e_mt, rn_e_thk, rn_e_badd, rn_e_neg, rn_zip, rn_mt_split, rn_mt_join, rn_mt_count, rn_mtOk_s1, rn_mtOk_s2, rn_mtOk_s3, rn_sl_list, rn_near_str2, rn_near_int2, rn_near_bool, rn_eqv_bool, rn_any_list, rn_in_list, rn_notin_list, rn_e_rev, rn_lc2, rn_enum, rn_it_cell, rn_par3, rn_app, rn_list_tup, rn_list_list, rn_ty_str, rn_ty_int, rn_ty_bool, rn_ty_tup, rn_ty_list, rn_ty_none, rn_tix0, rn_tix1, rn_tix2, rn_tix3, rn_tix4, rn_tix5, rn_tix6, rn_lix0, rn_lix1, rn_lix2, rn_lix3, rn_lix4, rn_lix5, rn_lix6, Ev.start, wipe, List.getElem?_cons_zero, List.getElem?_cons_succ, List.getElem?_nil, Option.bind_some, Option.bind_none, Option.map_some, Option.map_none, id, List.set_cons_succ, List.set_cons_zero, if_true, if_false, Bool.not_true, Bool.not_false, Bool.false_eq_true, List.map_cons, List.map_nil, List.length_cons, List.length_nil, List.replicate, List.cons_append, List.nil_append, Nat.reduceSub, Nat.reduceAdd, decide_true, decide_false, Option.getD_some, beq_self_eq_true, Ev.T.store, Ev.Ts.stores, lcE, allD, mkTup, reduceIte, Bool.true_eq_false, Bool.and_true, Bool.true_and, Bool.and_false, Bool.false_and, Bool.or_true, Bool.true_or, Bool.or_false, Bool.false_or, LIM, Nat.reduceLeDiff, Nat.zero_le, List.any_cons, List.any_nil, List.all_cons, List.all_nil, rn_bd_bd, okk_ok, forQ_nxt, forQ_cont, forQ_brk, forQ_ret, lcQ_none, lcQ_some, o0, q1]) (by decide), lc_step (y := d2) (h' := cup Z a2 b2) rfl (by simp only [rn_bd_ok, rn_bd_exc, rn_bd_stuck, rn_opt_some, rn_opt_none, rn_bnd_ap, rn_ret_ap, rn_stuck_ap, rn_lift_ap, rn_guardH_ap, rn_guard_ap, rn_ite_ap, rn_e_var, rn_e_cst, rn_e_lit, rn_e_bin, rn_e_not, rn_e_cmp, rn_e_cmp2, rn_e_isc, rn_e_and, rn_e_or, rn_e_ite, rn_e_call, rn_e_bl, rn_e_isi, rn_e_mtc, rn_e_ix, rn_e_sl, rn_e_tup, rn_e_lst, rn_e_new, rn_es_nil, rn_es_cons, rn_eo_no, rn_eo_some, rn_s_expr, rn_s_set, rn_s_sett, rn_s_ret, rn_s_retN, rn_s_ifs, rn_s_raise, rn_s_brk, rn_s_cont, rn_s_pass, rn_ss_nil, rn_ss_cons, rn_flK_nxt, rn_flK_ret, rn_flK_brk, rn_flK_cont, rn_defK_ret, rn_defK_nxt, rn_bd_ite, rn_tr_bool, rn_tr_int, rn_tr_tup, rn_tr_list, rn_tr_none, rn_deref, rn_lt_int, rn_le_int, rn_gt_int, rn_ge_int, rn_add_int, rn_sub_int, rn_add_tup, rn_add_list, rn_len_tup, rn_len_list, rn_max_tup, rn_max_list, rn_min_tup, rn_min_list, rn_max2, rn_min2, rn_tuple_list, rn_tuple_tup, rn_list_scr, rn_int_int, rn_abs_int, rn_sorted_tup, rn_sorted_list, rn_all_list, rn_isi, rn_par2, rn_while, rn_eq, rn_ne, rn_in_tup, rn_notin_tup, rn_sl_tup, rn_near_int, rn_near_str, rn_eqv_int, rn_eqv_str, rn_its_tup, rn_rng1, rn_rng2, rn_lc, rn_ts_nil, rn_ts_cons, rn_for, rn_setix, rn_e_dnew, rn_e_demp, rn_e_ditems, rn_e_sset, rn_e_lset, rn_e_dcopy, rn_newDic, rn_key_str, rn_key_int, rn_dicAt_d, rn_isRef, rn_e_mt, rn_e_thk, rn_e_badd, rn_e_neg, rn_zip, rn_mt_split, rn_mt_join, rn_mt_count, rn_mtOk_s1, rn_mtOk_s2, rn_mtOk_s3, rn_sl_list, rn_near_str2, rn_near_int2, rn_near_bool, rn_eqv_bool, rn_any_list, rn_in_list, rn_notin_list, rn_e_rev, rn_lc2, rn_enum, rn_it_cell, rn_par3, rn_app, rn_list_tup, rn_list_list, rn_ty_str, rn_ty_int, rn_ty_bool, rn_ty_tup, rn_ty_list, rn_ty_none, rn_tix0, rn_tix1, rn_tix2, rn_tix3, rn_tix4, rn_tix5, rn_tix6, rn_lix0, rn_lix1, rn_lix2, rn_lix3, rn_lix4, rn_lix5, rn_lix6, Ev.start, wipe, List.getElem?_cons_zero, List.getElem?_cons_succ, List.getElem?_nil, Option.bind_some, Option.bind_none, Option.map_some, Option.map_none, id, List.set_cons_succ, List.set_cons_zero, if_true, if_false, Bool.not_true, Bool.not_false, Bool.false_eq_true, List.map_cons, List.map_nil, List.length_cons, List.length_nil, List.replicate, List.cons_append, List.nil_append, Nat.reduceSub, Nat.reduceAdd, decide_true, decide_false, Option.getD_some, beq_self_eq_true, Ev.T.store, Ev.Ts.stores, lcE, allD, mkTup, reduceIte, Bool.true_eq_false, Bool.and_true, Bool.true_and, Bool.and_false, Bool.false_and, Bool.or_true, Bool.true_or, Bool.or_false, Bool.false_or, LIM, Nat.reduceLeDiff, Nat.zero_le, List.any_cons, List.any_nil, List.all_cons, List.all_nil, rn_bd_bd, okk_ok, forQ_nxt, forQ_cont, forQ_brk, forQ_ret, lcQ_none, lcQ_some, o0, q2]) (by simp [LIM]), lc_step (y := d3) (h' := cup Z a3 b3) rfl (by simp only [rn_bd_ok, rn_bd_exc, rn_bd_stuck, rn_opt_some, rn_opt_none, rn_bnd_ap, rn_ret_ap, rn_stuck_ap, rn_lift_ap, rn_guardH_ap, rn_guard_ap, rn_ite_ap, rn_e_var, rn_e_cst, rn_e_lit, rn_e_bin, rn_e_not, rn_e_cmp, rn_e_cmp2, rn_e_isc, rn_e_and, rn_e_or, rn_e_ite, rn_e_call, rn_e_bl, rn_e_isi, rn_e_mtc, rn_e_ix, rn_e_sl, rn_e_tup, rn_e_lst, rn_e_new, rn_es_nil, rn_es_cons, rn_eo_no, rn_eo_some, rn_s_expr, rn_s_set, rn_s_sett, rn_s_ret, rn_s_retN, rn_s_ifs, rn_s_raise, rn_s_brk, rn_s_cont, rn_s_pass, rn_ss_nil, rn_ss_cons, rn_flK_nxt, rn_flK_ret, rn_flK_brk, rn_flK_cont, rn_defK_ret, rn_defK_nxt, rn_bd_ite, rn_tr_bool, rn_tr_int, rn_tr_tup, rn_tr_list, rn_tr_none, rn_deref, rn_lt_int, rn_le_int, rn_gt_int, rn_ge_int, rn_add_int, rn_sub_int, rn_add_tup, rn_add_list, rn_len_tup, rn_len_list, rn_max_tup, rn_max_list, rn_min_tup, rn_min_list, rn_max2, rn_min2, rn_tuple_list, rn_tuple_tup, rn_list_scr, rn_int_int, rn_abs_int, rn_sorted_tup, rn_sorted_list, rn_all_list, rn_isi, rn_par2, rn_while, rn_eq, rn_ne, rn_in_tup, rn_notin_tup, rn_sl_tup, rn_near_int, rn_near_str, rn_eqv_int, rn_eqv_str, rn_its_tup, rn_rng1, rn_rng2, rn_lc, rn_ts_nil, rn_ts_cons, rn_for, rn_setix, rn_e_dnew, rn_e_demp, rn_e_ditems, rn_e_sset, rn_e_lset, rn_e_dcopy, rn_newDic, rn_key_str, rn_key_int, rn_dicAt_d, rn_isRef, rn_e_mt, rn_e_thk, rn_e_badd, rn_e_neg, rn_zip, rn_mt_split, rn_mt_join, rn_mt_count, rn_mtOk_s1, rn_mtOk_s2, rn_mtOk_s3, rn_sl_list, rn_near_str2, rn_near_int2, rn_near_bool, rn_eqv_bool, rn_any_list, rn_in_list, rn_notin_list, rn_e_rev, rn_lc2, rn_enum, rn_it_cell, rn_par3, rn_app, rn_list_tup, rn_list_list, rn_ty_str, rn_ty_int, rn_ty_bool, rn_ty_tup, rn_ty_list, rn_ty_none, rn_tix0, rn_tix1, rn_tix2, rn_tix3, rn_tix4, rn_tix5, rn_tix6, rn_lix0, rn_lix1, rn_lix2, rn_lix3, rn_lix4, rn_lix5, rn_lix6, Ev.start, wipe, List.getElem?_cons_zero, List.getElem?_cons_succ, List.getElem?_nil, Option.bind_some, Option.bind_none, Option.map_some, Option.map_none, id, List.set_cons_succ, List.set_cons_zero, if_true, if_false, Bool.not_true, Bool.not_false, Bool.false_eq_true, List.map_cons, List.map_nil, List.length_cons, List.length_nil, List.replicate, List.cons_append, List.nil_append, Nat.reduceSub, Nat.reduceAdd, decide_true, decide_false, Option.getD_some, beq_self_eq_true, Ev.T.store, Ev.Ts.stores, lcE, allD, mkTup, reduceIte, Bool.true_eq_false, Bool.and_true, Bool.true_and, Bool.and_false, Bool.false_and, Bool.or_true, Bool.true_or, Bool.or_false, Bool.false_or, LIM, Nat.reduceLeDiff, Nat.zero_le, List.any_cons, List.any_nil, List.all_cons, List.all_nil, rn_bd_bd, okk_ok, forQ_nxt, forQ_cont, forQ_brk, forQ_ret, lcQ_none, lcQ_some, o0, q3]) (by simp [LIM]), rn_lc_nil]
    simp only [rn_bd_ok, rn_bd_exc, rn_bd_stuck, rn_opt_some, rn_opt_none, rn_bnd_ap, rn_ret_ap, rn_stuck_ap, rn_lift_ap, rn_guardH_ap, rn_guard_ap, rn_ite_ap, rn_e_var, rn_e_cst, rn_e_lit, rn_e_bin, rn_e_not, rn_e_cmp, rn_e_cmp2, rn_e_isc, rn_e_and, rn_e_or, rn_e_ite, rn_e_call, rn_e_bl, rn_e_isi, rn_e_mtc, rn_e_ix, rn_e_sl, rn_e_tup, rn_e_lst, rn_e_new, rn_es_nil, rn_es_cons, rn_eo_no, rn_eo_some, rn_s_expr, rn_s_set, rn_s_sett, rn_s_ret, rn_s_retN, rn_s_ifs, rn_s_raise, rn_s_brk, rn_s_cont, rn_s_pass, rn_ss_nil, rn_ss_cons, rn_flK_nxt, rn_flK_ret, rn_flK_brk, rn_flK_cont, rn_defK_ret, rn_defK_nxt, rn_bd_ite, rn_tr_bool, rn_tr_int, rn_tr_tup, rn_tr_list, rn_tr_none, rn_deref, rn_lt_int, rn_le_int, rn_gt_int, rn_ge_int, rn_add_int, rn_sub_int, rn_add_tup, rn_add_list, rn_len_tup, rn_len_list, rn_max_tup, rn_max_list, rn_min_tup, rn_min_list, rn_max2, rn_min2, rn_tuple_list, rn_tuple_tup, rn_list_scr, rn_int_int, rn_abs_int, rn_sorted_tup, rn_sorted_list, rn_all_list, rn_isi, rn_par2, rn_while, rn_eq, rn_ne, rn_in_tup, rn_notin_tup, rn_sl_tup, rn_near_int, rn_near_str, rn_eqv_int, rn_eqv_str, rn_its_tup, rn_rng1, rn_rng2, rn_lc, rn_ts_nil, rn_ts_cons, rn_for, rn_setix, rn_e_dnew, rn_e_demp, rn_e_ditems, rn_e_sset, rn_e_lset, rn_e_dcopy, rn_newDic, rn_key_str, rn_key_int, rn_dicAt_d, rn_isRef, rn_e_mt, rn_e_thk, rn_e_badd, rn_e_neg, rn_zip, rn_mt_split, rn_mt_join, rn_mt_count, rn_mtOk_s1, rn_mtOk_s2, rn_mtOk_s3, rn_sl_list, rn_near_str2, rn_near_int2, rn_near_bool, rn_eqv_bool, rn_any_list, rn_in_list, rn_notin_list, rn_e_rev, rn_lc2, rn_enum, rn_it_cell, rn_par3, rn_app, rn_list_tup, rn_list_list, rn_ty_str, rn_ty_int, rn_ty_bool, rn_ty_tup, rn_ty_list, rn_ty_none, rn_tix0, rn_tix1, rn_tix2, rn_tix3, rn_tix4, rn_tix5, rn_tix6, rn_lix0, rn_lix1, rn_lix2, rn_lix3, rn_lix4, rn_lix5, rn_lix6, Ev.start, wipe, List.getElem?_cons_zero, List.getElem?_cons_succ, List.getElem?_nil, Option.bind_some, Option.bind_none, Option.map_some, Option.map_none, id, List.set_cons_succ, List.set_cons_zero, if_true, if_false, Bool.not_true, Bool.not_false, Bool.false_eq_true, List.map_cons, List.map_nil, List.length_cons, List.length_nil, List.replicate, List.cons_append, List.nil_append, Nat.reduceSub, Nat.reduceAdd, decide_true, decide_false, Option.getD_some, beq_self_eq_true, Ev.T.store, Ev.Ts.stores, lcE, allD, mkTup, reduceIte, Bool.true_eq_false, Bool.and_true, Bool.true_and, Bool.and_false, Bool.false_and, Bool.or_true, Bool.true_or, Bool.or_false, Bool.false_or, LIM, Nat.reduceLeDiff, Nat.zero_le, List.any_cons, List.any_nil, List.all_cons, List.all_nil, rn_bd_bd, okk_ok, forQ_nxt, forQ_cont, forQ_brk, forQ_ret, lcQ_none, lcQ_some, ]
  · simp only [List.forall_mem_cons]
    exact ⟨m1, m2, m3, hin, fun _ h => by cases h⟩
def isT (r : R Fl) : Bool := match r with
  | .ok (.ret (.d (.bool true))) _ => true
  | _ => false
theorem isT_ok {r : R Fl} (h : isT r = true) : ∃ h', r = .ok (.ret (.d (.bool true))) h' := by
  match r, h with
  | .ok (.ret (.d (.bool true))) h', _ => exact ⟨h', rfl⟩
def GZ : Hh := G3 ++ List.replicate 4 cellH ++ List.replicate 4 cellS
theorem tail_ok (a b : Int) (e0 e1 e5 : Option PV) : isT (evSs ⟨Ev.call T C 19, C, callT T⟩ lawRest [e0, e1, none, none, some (.d (.tup [.int 0, .tup []])), e5, none, none] (cup GZ a b)) = true := by
  kernel_rfl
end L47
end

section
set_option autoImplicit false
set_option linter.all false
set_option maxRecDepth 100000
set_option maxHeartbeats 2000000
namespace L47
open Ev
theorem law_true (ns : List Int) (hns : ns.length ≤ 63) : ∃ h', Ev.call T C 20 1782007 [.scr (ns.map D.int)] [] = .ok (.d (.bool true)) h' := by
  obtain ⟨a, b, ec, ha⟩ := cup_eq 18 ns hns
  obtain ⟨d1, d2, d3, a1, b1, q1, p1, m1⟩ := drawsH a b ha (some (.scr (ns.map D.int))) (some (.d (.tup [.int 0, .tup []])))
  obtain ⟨s5, l1⟩ := loopH (some (.scr (ns.map D.int))) (some (.ref 0)) none none (some (.d (.tup [.int 0, .tup []]))) none none [d1, d2, d3, D.none] none (cup G3 a1 b1) m1
  obtain ⟨t1, t2, t3, a2, b2, q2, p2, m2⟩ := drawsS (G3 ++ List.replicate 4 cellH) a1 b1 p1 (some (.scr (ns.map D.int))) (some (.d (.tup [.int 0, .tup []]))) s5
  obtain ⟨s6, l2⟩ := loopS (some (.scr (ns.map D.int))) (some (.ref 0)) none none (some (.d (.tup [.int 0, .tup []]))) none none _ s5 (cup (G3 ++ List.replicate 4 cellH) a2 b2) m2
  obtain ⟨h', e⟩ := isT_ok (tail_ok a2 b2 (some (.scr (ns.map D.int))) (some (.ref 0)) s6)
  refine ⟨h', ?_⟩
  rw [rn_call T_law rfl, law_body]
  have e0 : Ev.start flaw.ns [.scr (ns.map D.int)] = [some (.scr (ns.map D.int)), none, none, none, none, none, none, none] := rfl
  have s0 : evS ⟨Ev.call T C 19, C, callT T⟩ (.sett (.tp (.cons (.nm 1) (.cons (.nm 4) .nil))) (.tup (.cons (.call 53958599637531376 (.cons (.var 0) .nil)) (.cons (.tup (.cons (.lit (.int (0))) (.cons (.tup .nil) .nil))) .nil)))) [some (.scr (ns.map D.int)), none, none, none, none, none, none, none] [] = .ok (.nxt [some (.scr (ns.map D.int)), some (.ref 0), none, none, some (.d (.tup [.int 0, .tup []])), none, none, none]) (cup [] a b) := by
    simp only [rn_bd_ok, rn_bd_exc, rn_bd_stuck, rn_opt_some, rn_opt_none, rn_bnd_ap, rn_ret_ap, rn_stuck_ap, rn_lift_ap, rn_guardH_ap, rn_guard_ap, rn_ite_ap, rn_e_var, rn_e_cst, rn_e_lit, rn_e_bin, rn_e_not, rn_e_cmp, rn_e_cmp2, rn_e_isc, rn_e_and, rn_e_or, rn_e_ite, rn_e_call, rn_e_bl, rn_e_isi, rn_e_mtc, rn_e_ix, rn_e_sl, rn_e_tup, rn_e_lst, rn_e_new, rn_es_nil, rn_es_cons, rn_eo_no, rn_eo_some, rn_s_expr, rn_s_set, rn_s_sett, rn_s_ret, rn_s_retN, rn_s_ifs, rn_s_raise, rn_s_brk, rn_s_cont, rn_s_pass, rn_ss_nil, rn_ss_cons, rn_flK_nxt, rn_flK_ret, rn_flK_brk, rn_flK_cont, rn_defK_ret, rn_defK_nxt, rn_bd_ite, rn_tr_bool, rn_tr_int, rn_tr_tup, rn_tr_list, rn_tr_none, rn_deref, rn_lt_int, rn_le_int, rn_gt_int, rn_ge_int, rn_add_int, rn_sub_int, rn_add_tup, rn_add_list, rn_len_tup, rn_len_list, rn_max_tup, rn_max_list, rn_min_tup, rn_min_list, rn_max2, rn_min2, rn_tuple_list, rn_tuple_tup, rn_list_scr, rn_int_int, rn_abs_int, rn_sorted_tup, rn_sorted_list, rn_all_list, rn_isi, rn_par2, rn_while, rn_eq, rn_ne, rn_in_tup, rn_notin_tup, rn_sl_tup, rn_near_int, rn_near_str, rn_eqv_int, rn_eqv_str, rn_its_tup, rn_rng1, rn_rng2, rn_lc, rn_ts_nil, rn_ts_cons, rn_for, rn_setix, rn_e_dnew, rn_e_demp, rn_e_ditems, rn_e_sset, rn_e_lset, rn_e_dcopy, rn_newDic, rn_key_str, rn_key_int, rn_dicAt_d, rn_isRef, rn_e_mt, rn_e_thk, rn_e_badd, rn_e_neg, rn_zip, rn_mt_split, rn_mt_join, rn_mt_count, rn_mtOk_s1, rn_mtOk_s2, rn_mtOk_s3, rn_sl_list, rn_near_str2, rn_near_int2, rn_near_bool, rn_eqv_bool, rn_any_list, rn_in_list, rn_notin_list, rn_e_rev, rn_lc2, rn_enum, rn_it_cell, rn_par3, rn_app, rn_list_tup, rn_list_list, rn_ty_str, rn_ty_int, rn_ty_bool, rn_ty_tup, rn_ty_list, rn_ty_none, rn_tix0, rn_tix1, rn_tix2, rn_tix3, rn_tix4, rn_tix5, rn_tix6, rn_lix0, rn_lix1, rn_lix2, rn_lix3, rn_lix4, rn_lix5, rn_lix6, Ev.start, wipe, List.getElem?_cons_zero, List.getElem?_cons_succ, List.getElem?_nil, Option.bind_some, Option.bind_none, Option.map_some, Option.map_none, id, List.set_cons_succ, List.set_cons_zero, if_true, if_false, Bool.not_true, Bool.not_false, Bool.false_eq_true, List.map_cons, List.map_nil, List.length_cons, List.length_nil, List.replicate, List.cons_append, List.nil_append, Nat.reduceSub, Nat.reduceAdd, decide_true, decide_false, Option.getD_some, beq_self_eq_true, Ev.T.store, Ev.Ts.stores, lcE, allD, mkTup, reduceIte, Bool.true_eq_false, Bool.and_true, Bool.true_and, Bool.and_false, Bool.false_and, Bool.or_true, Bool.true_or, Bool.or_false, Bool.false_or, LIM, Nat.reduceLeDiff, Nat.zero_le, List.any_cons, List.any_nil, List.all_cons, List.all_nil, rn_bd_bd, okk_ok, forQ_nxt, forQ_cont, forQ_brk, forQ_ret, lcQ_none, lcQ_some, ec]
  have g1 : evS ⟨Ev.call T C 19, C, callT T⟩ (.for_ (.nm 5) (itAt 1) (bodyAt 1)) [some (.scr (ns.map D.int)), some (.ref 0), none, none, some (.d (.tup [.int 0, .tup []])), none, none, none] (cup [] a b) = .ok (.nxt [some (.scr (ns.map D.int)), some (.ref 0), none, none, some (.d (.tup [.int 0, .tup []])), s5, none, none]) (cup (G3 ++ List.replicate 4 cellH) a1 b1) := by
    rw [rn_for, q1, rn_bd_ok]
    exact l1
  have g2 : evS ⟨Ev.call T C 19, C, callT T⟩ (.for_ (.nm 5) (itAt 2) (bodyAt 2)) [some (.scr (ns.map D.int)), some (.ref 0), none, none, some (.d (.tup [.int 0, .tup []])), s5, none, none] (cup (G3 ++ List.replicate 4 cellH) a1 b1) = .ok (.nxt [some (.scr (ns.map D.int)), some (.ref 0), none, none, some (.d (.tup [.int 0, .tup []])), s6, none, none]) (cup GZ a2 b2) := by
    rw [rn_for, q2, rn_bd_ok]
    exact l2
  rw [e0, rn_seq_nxt s0, rn_seq_nxt g1, rn_seq_nxt g2, e]
  rfl
end L47
end

set_option maxRecDepth 100000
set_option maxHeartbeats 0
namespace L47
open PySem PySem.W PyProof.Rows
def loose_0 : List PySem.Str := [("HeardError" : PySem.Str), ("InvalidTopic" : PySem.Str), ("InvalidWay" : PySem.Str), ("InvalidNames" : PySem.Str), ("InvalidWorld" : PySem.Str), ("InvalidHouse" : PySem.Str), ("InvalidStep" : PySem.Str), ("InvalidSteps" : PySem.Str), ("CannotStep" : PySem.Str), ("LETTERS" : PySem.Str), ("WAYS" : PySem.Str), ("STEPS_names" : PySem.Str), ("LONGEST" : PySem.Str), ("is_whole" : PySem.Str), ("fits_name" : PySem.Str), ("fits_way" : PySem.Str), ("fits_topic" : PySem.Str), ("fits_wish" : PySem.Str), ("is_met" : PySem.Str), ("lesser" : PySem.Str), ("need_way" : PySem.Str), ("BODY" : PySem.Str), ("RING" : PySem.Str), ("KINDS" : PySem.Str), ("kind_of" : PySem.Str), ("fits_item" : PySem.Str), ("fits_frame" : PySem.Str), ("CLIENTS" : PySem.Str), ("ROWS" : PySem.Str), ("RECORDS" : PySem.Str)]
def loose_1 : List PySem.Str := [("WISHES" : PySem.Str), ("MOVING" : PySem.Str), ("is_row_of" : PySem.Str), ("is_rising" : PySem.Str), ("fits_word" : PySem.Str), ("fits_entry" : PySem.Str), ("fits_giving" : PySem.Str), ("fits_taking" : PySem.Str), ("fits_memory" : PySem.Str), ("fits_heard" : PySem.Str), ("fits_client" : PySem.Str), ("fits_wishes" : PySem.Str), ("fits_session" : PySem.Str), ("fits_moving" : PySem.Str), ("fits_line" : PySem.Str), ("fits_records" : PySem.Str), ("fits_manner" : PySem.Str), ("fits_world" : PySem.Str), ("need_world" : PySem.Str), ("due_way" : PySem.Str), ("TURNS" : PySem.Str), ("SESSIONS" : PySem.Str), ("KEEP" : PySem.Str), ("ROOM" : PySem.Str), ("RULES" : PySem.Str), ("PARTS" : PySem.Str), ("fits_terms" : PySem.Str), ("fits_waits" : PySem.Str), ("fits_sitting" : PySem.Str), ("fits_house" : PySem.Str)]
def loose_2 : List PySem.Str := [("fits_step_part" : PySem.Str), ("fits_house_step" : PySem.Str), ("dropped_for" : PySem.Str), ("first_light" : PySem.Str), ("without" : PySem.Str), ("put_in" : PySem.Str), ("cut_to" : PySem.Str), ("ended" : PySem.Str), ("told_to_all" : PySem.Str), ("left_alone" : PySem.Str), ("opened" : PySem.Str), ("turned" : PySem.Str), ("rewished" : PySem.Str), ("handed_out" : PySem.Str), ("stepped_on" : PySem.Str), ("house_led" : PySem.Str), ("need_house" : PySem.Str), ("is_house" : PySem.Str), ("is_house_step" : PySem.Str), ("house_stepped" : PySem.Str), ("sessions_for" : PySem.Str), ("house_of_world" : PySem.Str), ("STEPS_sessionruns" : PySem.Str), ("need_steps" : PySem.Str), ("need_session_name" : PySem.Str), ("led_through" : PySem.Str), ("tagged" : PySem.Str), ("comers" : PySem.Str), ("fates_told" : PySem.Str), ("house_course" : PySem.Str)]
def loose_3 : List PySem.Str := [("told_in" : PySem.Str), ("fates_of" : PySem.Str), ("fate_counts" : PySem.Str), ("KEPT" : PySem.Str), ("retermed" : PySem.Str), ("sat_with" : PySem.Str), ("house_with" : PySem.Str), ("steps_with" : PySem.Str), ("told_leniently" : PySem.Str), ("states_of" : PySem.Str), ("is_short" : PySem.Str), ("is_ended" : PySem.Str), ("asked_end" : PySem.Str), ("least_room" : PySem.Str), ("least_keep" : PySem.Str), ("_law_cup" : PySem.Str), ("_law_roll" : PySem.Str), ("_law_some" : PySem.Str), ("_law_error" : PySem.Str), ("_law_odd_houses" : PySem.Str), ("_law_odd_steps" : PySem.Str), ("_law_house_refused" : PySem.Str), ("_law_step_refused" : PySem.Str)]
def loose : List PySem.Str := loose_0 ++ loose_1 ++ loose_2 ++ loose_3
abbrev R : PySem.W.OpenRow := PySem.W.OpenLaw.row PySem.Challenge.rw_heardonce_k47_houses_and_steps_that_are
abbrev fa : List He.Fa := Ev.faOf P
abbrev fn : List He.DefD := stab.map fun p => Ev.defD p.2
def tf : List He.Defn := stab.map (fun p => (p.1, none)) ++ []
abbrev exq (K : PySem.W.Frag) : Bool := (Ev.exB cs K && Ev.dxB ds K) && Ev.tbB tf K
abbrev hk : PySem.W.Hook := Ev.hookM 4 fa fn ts tf exq
def ob (s : PySem.W.SharedT) : He.AlX := Ev.obsM (Ev.asM 4) fa fn ts tf exq (HandSHeadRun.getT s)
theorem ob_eq (s : PySem.W.SharedT) : ob s = hk.obs s.abs := Ev.obsM_eq (HandSHeadRun.getT_eq s)
theorem runFa (w : World) (os : PySem.OsState) : (HandSHeadRun.endF (HandSHeadRun.stepQ (HandSHeadRun.denQ HandSHeadRun.tabQ) R.prog (w.withFollow "special-get-raises" false)) 45600 R.prog (w.withFollow "special-get-raises" false) os).map (fun s => (HandSHeadRun.looksF R.prog (boot_heap (w.withFollow "special-get-raises" false).params) s.abs, HandSHeadRun.seenQ (PySem.W.view R.prog [122]) loose (importedModules R.prog.main.body) (fun s => xlAt (PySem.W.view R.prog [122]) [] s && recOk R.toRowW.records s) s.abs)) = some (true, openGood (PySem.W.view R.prog [122]) loose) := by
  kernel_rfl
theorem runFb (w : World) (os : PySem.OsState) : (HandSHeadRun.endF (HandSHeadRun.stepQ (HandSHeadRun.denQ HandSHeadRun.tabQ) R.prog (w.withFollow "special-get-raises" false)) 45600 R.prog (w.withFollow "special-get-raises" false) os).map (fun s => He.obsT fa fn ts (Ev.frM 4 s)) = some (He.valT fn ts (w.withFollow "special-get-raises" false)) := by
  kernel_rfl
theorem runFc (w : World) (os : PySem.OsState) : (HandSHeadRun.endF (HandSHeadRun.stepQ (HandSHeadRun.denQ HandSHeadRun.tabQ) R.prog (w.withFollow "special-get-raises" false)) 45600 R.prog (w.withFollow "special-get-raises" false) os).map (fun s => exq (Ev.frM 4 s)) = some true := by
  kernel_rfl
theorem runFd (w : World) (os : PySem.OsState) : (HandSHeadRun.endF (HandSHeadRun.stepQ (HandSHeadRun.denQ HandSHeadRun.tabQ) R.prog (w.withFollow "special-get-raises" false)) 45600 R.prog (w.withFollow "special-get-raises" false) os).map (fun s => He.tabsB (HandSHeadRun.getT s) tf (Ev.frM 4 s)) = some true := by
  kernel_rfl
theorem runF (w : World) : HandSHeadRun.RunEq R (PySem.W.view R.prog [122]) hk ob 45600 loose (w.withFollow "special-get-raises" false) := Ev.run_of (runFa w) (runFb w) (runFc w) (runFd w)
theorem runTa (w : World) (os : PySem.OsState) : (HandSHeadRun.endF (HandSHeadRun.stepQ (HandSHeadRun.denQ HandSHeadRun.tabQ) R.prog (w.withFollow "special-get-raises" true)) 45600 R.prog (w.withFollow "special-get-raises" true) os).map (fun s => (HandSHeadRun.looksF R.prog (boot_heap (w.withFollow "special-get-raises" true).params) s.abs, HandSHeadRun.seenQ (PySem.W.view R.prog [122]) loose (importedModules R.prog.main.body) (fun s => xlAt (PySem.W.view R.prog [122]) [] s && recOk R.toRowW.records s) s.abs)) = some (true, openGood (PySem.W.view R.prog [122]) loose) := by
  kernel_rfl
theorem runTb (w : World) (os : PySem.OsState) : (HandSHeadRun.endF (HandSHeadRun.stepQ (HandSHeadRun.denQ HandSHeadRun.tabQ) R.prog (w.withFollow "special-get-raises" true)) 45600 R.prog (w.withFollow "special-get-raises" true) os).map (fun s => He.obsT fa fn ts (Ev.frM 4 s)) = some (He.valT fn ts (w.withFollow "special-get-raises" true)) := by
  kernel_rfl
theorem runTc (w : World) (os : PySem.OsState) : (HandSHeadRun.endF (HandSHeadRun.stepQ (HandSHeadRun.denQ HandSHeadRun.tabQ) R.prog (w.withFollow "special-get-raises" true)) 45600 R.prog (w.withFollow "special-get-raises" true) os).map (fun s => exq (Ev.frM 4 s)) = some true := by
  kernel_rfl
theorem runTd (w : World) (os : PySem.OsState) : (HandSHeadRun.endF (HandSHeadRun.stepQ (HandSHeadRun.denQ HandSHeadRun.tabQ) R.prog (w.withFollow "special-get-raises" true)) 45600 R.prog (w.withFollow "special-get-raises" true) os).map (fun s => He.tabsB (HandSHeadRun.getT s) tf (Ev.frM 4 s)) = some true := by
  kernel_rfl
theorem runT (w : World) : HandSHeadRun.RunEq R (PySem.W.view R.prog [122]) hk ob 45600 loose (w.withFollow "special-get-raises" true) := Ev.run_of (runTa w) (runTb w) (runTc w) (runTd w)
theorem run (w : World) : HandSHeadRun.RunEq R (PySem.W.view R.prog [122]) hk ob 45600 loose w := byRow2 "special-get-raises" (P := fun w => HandSHeadRun.RunEq R (PySem.W.view R.prog [122]) hk ob 45600 loose w) runF runT w
end L47
open PySem PySem.W PySem.Calls PyProof.Rows in
set_option maxRecDepth 100000 in
set_option maxHeartbeats 0 in
theorem PySem.Challenge.cw_heardonce_k47_houses_and_steps_that_are_holds : PySem.Challenge.rw_heardonce_k47_houses_and_steps_that_are.Holds := by
  w_on; o_law
  refine HandSHeadRun.head_any (r := OpenLaw.row PySem.Challenge.rw_heardonce_k47_houses_and_steps_that_are) (q := view (OpenLaw.row PySem.Challenge.rw_heardonce_k47_houses_and_steps_that_are).prog [122]) (H := L47.hk) (ob := L47.ob) (M := 45600) (loose := L47.loose) (d := HandSHeadRun.topDef (OpenLaw.row PySem.Challenge.rw_heardonce_k47_houses_and_steps_that_are).prog 122) (kwd := []) L47.ob_eq (by kernel_rfl) (fun s => by kernel_rfl) L47.run (by kernel_rfl) (by kernel_rfl) (by kernel_rfl) (by rfl) (by first | assumption | decide +kernel) (by decide +kernel) ⟨rfl, rfl, rfl, rfl, rfl, by decide +kernel⟩ ?hw ?hc
  case hw => w_witness2
  case hc =>
    have hs : L47.hk.says = (He.hookX 4 L47.fa L47.fn L47.ts L47.tf L47.exq).says := Ev.hookM_says
    rw [hs]
    exact Ev.walk_head (x := "_law_script") (st := L47.st 122) 20 rfl (by kernel_rfl) ⟨rfl, by decide, by decide⟩ (by kernel_rfl) (by kernel_rfl) L47.defs_ok L47.fns_in L47.csts_in L47.excs_in L47.dics_in (by kernel_rfl) (by kernel_rfl) L47.law_true
