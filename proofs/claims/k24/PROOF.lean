import PyProof.Rows.All
import Wide.All
import OpenK.AllK
import Wide.FinOn
import HandS.ForMost
import HandS.Exc
import HandS.TryMany
import HandS.Flow
import HandS.Style
import HandS.Deep
import HandS.TupAny
import HandS.TupMul
import HandS.CallSlots
import HandS.Zip
import HandS.WordsExc
import HandS.ExcOwn
import HandS.IsInst
import KE.DataEq
import KE.DataFind
import KE.DataIsa
import HandS.ReCall
import HandS.Strs
import HandS.Rev
import KE.DataMinMax
import KE.SortData
import KE.LtData
import PySem.Challenge.RW_heardonce_k24_whole_windows_led_to_rest
set_option linter.all false
set_option Elab.async false
section
/-! EvCore: plain data, a small language of expressions and statements, and what they come to. No program in sight. -/
set_option autoImplicit false
namespace Ev

/-- plain data: what is never changed in place -/
inductive D where
  | none | bool (b : Bool) | int (i : Int) | str (s : List Nat) | list (xs : List D) | tup (xs : List D)

/-- a value: plain data, a cell of the store, a table that is only read -/
inductive PV where
  | d (x : D) | ref (l : Nat) | dict (kvs : List (D × D)) | scr (xs : List D)

inductive Cell where
  | lst (xs : List PV)

abbrev Hh := List Cell
abbrev Env := List (Option PV)

inductive R (α : Type) where
  | ok (a : α) (h : Hh) | exc (c : Nat) (v : PV) (h : Hh) | stuck
abbrev M (α : Type) := Hh → R α
def M.ret {α : Type} (a : α) : M α := fun h => .ok a h
def M.bnd {α β : Type} (x : M α) (f : α → M β) : M β := fun h => match x h with
  | .ok a h' => f a h'
  | .exc c v h' => .exc c v h'
  | .stuck => .stuck
def M.lift {α : Type} (f : Hh → Option α) : M α := fun h => match f h with
  | some a => .ok a h
  | .none => .stuck
def M.stuck {α : Type} : M α := fun _ => .stuck
/-- an exception within is out of reach -/
def M.calm {α : Type} (x : M α) : M α := fun h => match x h with
  | .ok a h' => .ok a h'
  | _ => .stuck

theorem M.ret_ap {α : Type} (a : α) (h : Hh) : M.ret a h = .ok a h := rfl
theorem M.bnd_ok {α β : Type} {x : M α} {f : α → M β} {h h' : Hh} {a : α} (e : x h = .ok a h') : M.bnd x f h = f a h' := by
  simp only [M.bnd, e]
theorem M.bnd_exc {α β : Type} {x : M α} {f : α → M β} {h h' : Hh} {c : Nat} {v : PV} (e : x h = .exc c v h') : M.bnd x f h = .exc c v h' := by
  simp only [M.bnd, e]
theorem M.bnd_stuck {α β : Type} {x : M α} {f : α → M β} {h : Hh} (e : x h = .stuck) : M.bnd x f h = .stuck := by
  simp only [M.bnd, e]
theorem M.lift_some {α : Type} {f : Hh → Option α} {h : Hh} {a : α} (e : f h = some a) : M.lift f h = .ok a h := by
  simp only [M.lift, e]
theorem M.calm_ok {α : Type} {x : M α} {h h' : Hh} {a : α} (e : x h = .ok a h') : M.calm x h = .ok a h' := by
  simp only [M.calm, e]

theorem M.bnd_assoc {α β γ : Type} (x : M α) (f : α → M β) (g : β → M γ) : M.bnd (M.bnd x f) g = M.bnd x fun a => M.bnd (f a) g := by
  funext h
  simp only [M.bnd]
  cases x h <;> rfl
theorem M.ret_bnd {α β : Type} (a : α) (f : α → M β) : M.bnd (M.ret a) f = f a := rfl
theorem M.stuck_bnd {α β : Type} (f : α → M β) : M.bnd M.stuck f = M.stuck := rfl

abbrev LIM : Nat := 16777216

/-! ### equality, order, truth -/
mutual
def D.eqv : D → D → Bool
  | .none, .none => true
  | .bool a, .bool b => a == b
  | .bool a, .int j => (if a then 1 else 0) == j
  | .int i, .bool b => i == (if b then 1 else 0)
  | .int i, .int j => i == j
  | .str s, .str t => s == t
  | .list xs, .list ys => D.eqvs xs ys
  | .tup xs, .tup ys => D.eqvs xs ys
  | _, _ => false
def D.eqvs : List D → List D → Bool
  | [], [] => true
  | x :: xs, y :: ys => D.eqv x y && D.eqvs xs ys
  | _, _ => false
end

mutual
def D.shal : D → Nat → Bool
  | .list _, 0 => false
  | .list xs, n + 1 => D.shals xs n
  | .tup _, 0 => false
  | .tup xs, n + 1 => D.shals xs n
  | _, _ => true
def D.shals : List D → Nat → Bool
  | [], _ => true
  | x :: xs, n => D.shal x n && D.shals xs n
end
/-- one of two is not too deep -/
def near (a b : D) : Bool := a.shal 60 || b.shal 60

def ltStr : List Nat → List Nat → Bool
  | [], [] => false
  | [], _ :: _ => true
  | _ :: _, [] => false
  | a :: as, b :: bs => if a = b then ltStr as bs else decide (a < b)

def D.truthy : D → Bool
  | .none => false
  | .bool b => b
  | .int i => !(i == 0)
  | .str s => !s.isEmpty
  | .list xs => !xs.isEmpty
  | .tup xs => !xs.isEmpty

def allD : List PV → Option (List D)
  | [] => some []
  | .d x :: r => (allD r).map (x :: ·)
  | _ :: _ => .none

/-- a list of the store as data -/
def deref (h : Hh) : PV → Option D
  | .d x => some x
  | .ref l => match h[l]? with
    | some (.lst xs) => (allD xs).map D.list
    | .none => .none
  | _ => .none

def truthy (h : Hh) : PV → Option Bool
  | .d (.str s) => if s.length ≤ LIM then some (!s.isEmpty) else .none
  | .d x => some x.truthy
  | .ref l => match h[l]? with
    | some (.lst xs) => some (!xs.isEmpty)
    | .none => .none
  | .dict kvs => some (!kvs.isEmpty)
  | .scr xs => some (!xs.isEmpty)

/-- the items of a list or a tuple -/
def items (h : Hh) : PV → Option (List PV)
  | .d (.list xs) => some (xs.map PV.d)
  | .d (.tup xs) => some (xs.map PV.d)
  | .ref l => match h[l]? with
    | some (.lst xs) => some xs
    | .none => .none
  | _ => .none

/-! ### operators -/
inductive Op where
  | add | sub | mul | fdiv | mod | pow | shl | shr
inductive Cm where
  | eq | ne | lt | le | gt | ge | isin | notin
inductive Ty where
  | int | str | bool | tuple | list | dict
inductive Bl where
  | len | all | any | tuple | list | sum | max | min | max2 | min2 | int | str | bool | ord | abs | sorted | sortedSet | lenSet | dict
inductive Mt where
  | index | count | split | join | get1 | get2 | upper

def bigInt (i : Int) : Bool := decide (-(2 ^ 64) < i) && decide (i < 2 ^ 64)

def addOp (h : Hh) : PV → PV → Option PV
  | .d (.int i), .d (.int j) => some (.d (.int (i + j)))
  | .d (.str s), .d (.str t) => if s.length + t.length ≤ LIM then some (.d (.str (s ++ t))) else .none
  | .d (.tup s), .d (.tup t) => if s.length + t.length ≤ LIM then some (.d (.tup (s ++ t))) else .none
  | .d (.list s), .d (.list t) => if s.length + t.length ≤ LIM then some (.d (.list (s ++ t))) else .none
  | .ref l, y => match deref h (.ref l), deref h y with
    | some (.list s), some (.list t) => if s.length + t.length ≤ LIM then some (.d (.list (s ++ t))) else .none
    | _, _ => .none
  | x, .ref l => match deref h x, deref h (.ref l) with
    | some (.list s), some (.list t) => if s.length + t.length ≤ LIM then some (.d (.list (s ++ t))) else .none
    | _, _ => .none
  | _, _ => .none
def mulOp : PV → PV → Option PV
  | .d (.int i), .d (.int j) => if bigInt i || bigInt j then some (.d (.int (i * j))) else .none
  | .d (.tup s), .d (.int k) => if decide (-1000 ≤ k) && decide (k ≤ 1000) && decide (s.length ≤ 1000) then some (.d (.tup (List.replicate k.toNat s).flatten)) else .none
  | .d (.list s), .d (.int k) => if decide (-1000 ≤ k) && decide (k ≤ 1000) && decide (s.length ≤ 1000) then some (.d (.list (List.replicate k.toNat s).flatten)) else .none
  | _, _ => .none
/-- two intsOf, the way of an operator on them -/
def intOp (f : Int → Int → Option Int) : PV → PV → Option PV
  | .d (.int i), .d (.int j) => (f i j).map fun r => .d (.int r)
  | _, _ => .none
def binop (h : Hh) : Op → PV → PV → Option PV
  | .add => addOp h
  | .mul => mulOp
  | .sub => intOp fun i j => some (i - j)
  | .fdiv => intOp fun i j => if decide (0 < j) && decide (j < 1073741824) then some (i / j) else .none
  | .mod => intOp fun i j => if decide (0 < j) then some (i % j) else .none
  | .pow => intOp fun i j => if decide (0 ≤ j) && decide (j ≤ 1000000) && decide (i.natAbs < 2 ^ 64) then some (i ^ j.toNat) else .none
  | .shl => intOp fun i j => if decide (0 ≤ j) && decide (j ≤ 1000000) && decide (i.natAbs < 2 ^ 64) then some (i * 2 ^ j.toNat) else .none
  | .shr => intOp fun i j => if decide (0 ≤ j) then some (i / 2 ^ j.toNat) else .none

def isinD (x : D) : D → Option Bool
  | .list ys => if near x (.list ys) then some (ys.any fun y => D.eqv y x) else .none
  | .tup ys => if near x (.tup ys) then some (ys.any fun y => D.eqv y x) else .none
  | .str t => match x with
    | .str [c] => some (t.contains c)
    | _ => .none
  | _ => .none
def isin (h : Hh) (x y : PV) : Option Bool := match y with
  | .dict kvs => match deref h x with
    | some k => some (kvs.any fun p => D.eqv p.1 k)
    | .none => .none
  | y => match deref h x, deref h y with
    | some a, some b => isinD a b
    | _, _ => .none

def ltD : D → D → Option Bool
  | .int i, .int j => some (decide (i < j))
  | .str s, .str t => some (ltStr s t)
  | _, _ => .none

def cmpop (h : Hh) (o : Cm) (x y : PV) : Option Bool := match o with
  | .eq => match deref h x, deref h y with
    | some a, some b => if near a b then some (D.eqv a b) else .none
    | _, _ => .none
  | .ne => match deref h x, deref h y with
    | some a, some b => if near a b then some (!D.eqv a b) else .none
    | _, _ => .none
  | .lt => match x, y with
    | .d a, .d b => ltD a b
    | _, _ => .none
  | .le => match x, y with
    | .d (.int i), .d (.int j) => some (decide (i ≤ j))
    | _, _ => .none
  | .gt => match x, y with
    | .d (.int i), .d (.int j) => some (decide (j < i))
    | _, _ => .none
  | .ge => match x, y with
    | .d (.int i), .d (.int j) => some (decide (j ≤ i))
    | _, _ => .none
  | .isin => isin h x y
  | .notin => (isin h x y).map (!·)

def isTyD : D → Ty → Bool
  | .int _, .int => true
  | .bool _, .int => true
  | .bool _, .bool => true
  | .str _, .str => true
  | .tup _, .tuple => true
  | .list _, .list => true
  | _, _ => false
/-- isinstance -/
def isTy (h : Hh) (x : PV) (t : Ty) : Option PV := (deref h x).map fun d => .d (.bool (isTyD d t))

def isNone : PV → Bool
  | .d .none => true
  | _ => false
/-- x is None, x is True: the latter where x is a bool -/
def isC (x : PV) : D → Option Bool
  | .none => some (isNone x)
  | .bool b => match x with
    | .d (.bool a) => some (a == b)
    | _ => .none
  | _ => .none

/-- the place of an index, as Python counts -/
def place (n : Nat) (i : Int) : Option Nat :=
  if 0 ≤ i then (if i.toNat < n then some i.toNat else .none) else (if (-i).toNat ≤ n then some (n - (-i).toNat) else .none)
/-- an end of a slice -/
def bound (n : Nat) (i : Int) : Nat := if 0 ≤ i then min i.toNat n else n - (-i).toNat
def cut {α : Type} (xs : List α) (lo hi : Option Int) : List α :=
  let a := match lo with | some i => bound xs.length i | .none => 0
  let b := match hi with | some i => bound xs.length i | .none => xs.length
  (xs.drop a).take (b - a)

def indexOp (h : Hh) : PV → PV → Option PV
  | .d (.list xs), .d (.int i) => (place xs.length i).bind fun j => (xs[j]?).map PV.d
  | .d (.tup xs), .d (.int i) => (place xs.length i).bind fun j => (xs[j]?).map PV.d
  | .d (.str s), .d (.int i) => if s.length ≤ LIM then (place s.length i).bind fun j => (s[j]?).map fun c => PV.d (.str [c]) else .none
  | .ref l, .d (.int i) => match h[l]? with
    | some (.lst xs) => (place xs.length i).bind fun j => xs[j]?
    | .none => .none
  | .dict kvs, .d k => (kvs.find? fun p => D.eqv p.1 k).map fun p => .d p.2
  | _, _ => .none

def optInt : Option PV → Option (Option Int)
  | .none => some .none
  | some (.d (.int i)) => some (some i)
  | some (.d .none) => some .none
  | _ => .none
def sliceOp (h : Hh) (x : PV) (lo hi : Option Int) : Option PV := match x with
  | .d (.list xs) => some (.d (.list (cut xs lo hi)))
  | .d (.tup xs) => some (.d (.tup (cut xs lo hi)))
  | .d (.str s) => if s.length ≤ LIM then some (.d (.str (cut s lo hi))) else .none
  | .ref l => match deref h (.ref l) with
    | some (.list xs) => some (.d (.list (cut xs lo hi)))
    | _ => .none
  | _ => .none

/-! ### built-ins -/
def intsOf : List D → Option (List Int)
  | [] => some []
  | .int i :: r => (intsOf r).map (i :: ·)
  | _ :: _ => .none
def boolsOf : List D → Option (List Bool)
  | [] => some []
  | .bool b :: r => (boolsOf r).map (b :: ·)
  | _ :: _ => .none
def strsOf : List D → Option (List (List Nat))
  | [] => some []
  | .str b :: r => (strsOf r).map (b :: ·)
  | _ :: _ => .none

def maxL : Int → List Int → Int
  | m, [] => m
  | m, x :: r => maxL (if m < x then x else m) r
def minL : Int → List Int → Int
  | m, [] => m
  | m, x :: r => minL (if x < m then x else m) r

def digits (n : Nat) : List Nat := (Nat.toDigits 10 n).map Char.toNat
def intStr (i : Int) : List Nat := if i < 0 then 45 :: digits i.natAbs else digits i.natAbs

/-- split at each c -/
def splitC (c : Nat) : List Nat → List (List Nat)
  | [] => [[]]
  | x :: r => if x = c then [] :: splitC c r else match splitC c r with
    | w :: ws => (x :: w) :: ws
    | [] => [[x]]
def joinL (sep : List Nat) : List (List Nat) → List Nat
  | [] => []
  | [w] => w
  | w :: ws => w ++ sep ++ joinL sep ws

/-! ### the order, where sorting is served: keys of data, place by place -/
mutual
def D.toks : D → List (Int ⊕ List Nat)
  | .none => []
  | .bool b => [.inl (if b = true then 1 else 0)]
  | .int n => [.inl n]
  | .str x => [.inr x]
  | .list xs => D.toksAll xs
  | .tup xs => D.toksAll xs
def D.toksAll : List D → List (Int ⊕ List Nat)
  | [] => [.inl 0]
  | x :: xs => .inl 1 :: (D.toks x ++ D.toksAll xs)
end
def ltTok : Int ⊕ List Nat → Int ⊕ List Nat → Bool
  | .inl a, .inl b => decide (a < b)
  | .inl _, .inr _ => true
  | .inr _, .inl _ => false
  | .inr a, .inr b => ltStr a b
def ltToks : List (Int ⊕ List Nat) → List (Int ⊕ List Nat) → Bool
  | [], [] => false
  | [], _ :: _ => true
  | _ :: _, [] => false
  | x :: r, y :: t => ltTok x y || (!ltTok y x && ltToks r t)
mutual
/-- the two can be compared, place by place -/
def D.like : D → D → Bool
  | .none, .none => true
  | .bool _, .bool _ => true
  | .int _, .int _ => true
  | .str _, .str _ => true
  | .list xs, .list ys => D.likes xs ys
  | .tup xs, .tup ys => D.likes xs ys
  | _, _ => false
def D.likes : List D → List D → Bool
  | x :: xs, y :: ys => D.like x y && D.likes xs ys
  | [], _ => true
  | _ :: _, [] => true
end
/-- .. as far as they are equal -/
def D.wlikes : List D → List D → Bool
  | x :: xs, y :: ys => D.like x y && (!D.eqv x y || D.wlikes xs ys)
  | [], _ => true
  | _ :: _, [] => true
/-- all of a sort that can be sorted: texts, ints, .. or tuples whose first items are alike -/
def sortable (xs : List D) : Bool :=
  (xs.all fun x => x.shal 50) && ((xs.all fun x => match x with
    | .tup (a :: r) => xs.all fun y => match y with
      | .tup (b :: t) => D.wlikes (a :: r) (b :: t)
      | _ => false
    | _ => false) || (xs.all fun x => (match x with
      | .tup _ => false
      | .none => false
      | _ => true) && xs.all fun y => D.like x y))
def sortD (xs : List D) : List D := xs.mergeSort fun a b => !ltToks b.toks a.toks
def sortedOp (h : Hh) (v : PV) : Option PV := match deref h v with
  | some (.list xs) => if sortable xs then some (.d (.list (sortD xs))) else .none
  | some (.tup xs) => if sortable xs then some (.d (.list (sortD xs))) else .none
  | _ => .none

def lenOp (h : Hh) : PV → Option PV
  | .scr xs => some (.d (.int xs.length))
  | .d (.str s) => if s.length ≤ LIM then some (.d (.int s.length)) else .none
  | .d (.list xs) => some (.d (.int xs.length))
  | .d (.tup xs) => some (.d (.int xs.length))
  | .ref l => (items h (.ref l)).map fun xs => .d (.int xs.length)
  | _ => .none
/-- what is made of a list of data -/
def onList (f : List D → Option D) (h : Hh) (v : PV) : Option PV := match deref h v with
  | some (.list xs) => (f xs).map PV.d
  | _ => .none
/-- of a list or a tuple -/
def onSeq (f : List D → Option D) (h : Hh) (v : PV) : Option PV := match deref h v with
  | some (.list xs) => (f xs).map PV.d
  | some (.tup xs) => (f xs).map PV.d
  | _ => .none
def tupleOp (h : Hh) (v : PV) : Option PV := match deref h v with
  | some (.list xs) => some (.d (.tup xs))
  | some (.tup xs) => some (.d (.tup xs))
  | _ => .none
def listOp (h : Hh) : PV → Option PV
  | .scr xs => some (.d (.list xs))
  | v => match deref h v with
    | some (.list xs) => some (.d (.list xs))
    | some (.tup xs) => some (.d (.list xs))
    | _ => .none
def maxOf (xs : List D) : Option D := match intsOf xs with
  | some (i :: is) => some (.int (maxL i is))
  | _ => .none
def minOf (xs : List D) : Option D := match intsOf xs with
  | some (i :: is) => some (.int (minL i is))
  | _ => .none
def intOf : PV → Option PV
  | .d (.int i) => some (.d (.int i))
  | .d (.bool b) => some (.d (.int (if b then 1 else 0)))
  | _ => .none
def ordOf : PV → Option PV
  | .d (.str [c]) => some (.d (.int c))
  | _ => .none
def absOf : PV → Option PV
  | .d (.int i) => some (.d (.int (if i < 0 then -i else i)))
  | _ => .none
def one (f : PV → Option PV) : List PV → Option PV
  | [v] => f v
  | _ => .none
def two (f : PV → PV → Option PV) : List PV → Option PV
  | [v, w] => f v w
  | _ => .none
def blt (h : Hh) : Bl → List PV → Option PV
  | .len => one (lenOp h)
  | .all => one (onList (fun xs => (boolsOf xs).map fun bs => .bool (bs.all id)) h)
  | .any => one (onList (fun xs => (boolsOf xs).map fun bs => .bool (bs.any id)) h)
  | .sum => one (onList (fun xs => (intsOf xs).map fun bs => .int bs.sum) h)
  | .max => one (onSeq maxOf h)
  | .min => one (onSeq minOf h)
  | .max2 => two (intOp fun i j => some (if i < j then j else i))
  | .min2 => two (intOp fun i j => some (if j < i then j else i))
  | .tuple => one (tupleOp h)
  | .list => one (listOp h)
  | .int => one intOf
  | .ord => one ordOf
  | .abs => one absOf
  | .sorted => one (sortedOp h)
  | _ => fun _ => .none

/-- where k stands -/
def indexL (h : Hh) (xs : List D) (k : PV) : Option PV := match deref h k with
  | some d => if near d (.list xs) then (xs.findIdx? fun x => D.eqv x d).map fun (n : Nat) => .d (.int (n : Int)) else .none
  | _ => .none
def countL (h : Hh) (xs : List D) (k : PV) : Option PV := match deref h k with
  | some d => if near d (.list xs) then some (.d (.int (xs.countP fun x => D.eqv x d))) else .none
  | _ => .none
/-- the method is served for such a value -/
def mtOk : Mt → PV → Bool
  | .index, .d (.list _) => true
  | .index, .ref _ => true
  | .count, .d (.list _) => true
  | .count, .ref _ => true
  | _, _ => false
def meth (h : Hh) (m : Mt) (o : PV) (as : List PV) : Option PV := match m with
  | .index => match deref h o with
    | some (.list xs) => one (indexL h xs) as
    | _ => .none
  | .count => match deref h o with
    | some (.list xs) => one (countL h xs) as
    | _ => .none
  | _ => .none
/-- of a written tuple -/
def methT (h : Hh) (m : Mt) (xs : List D) (as : List PV) : Option PV := match m with
  | .index => one (indexL h xs) as
  | .count => one (countL h xs) as
  | _ => .none
def tupOf : PV → Option (List D)
  | .d (.tup xs) => some xs
  | _ => .none
def isRef : PV → Bool
  | .ref _ => true
  | _ => false
def guardM (b : Bool) : M Unit := M.lift fun _ => if b then some () else .none

/-! ### the language -/
mutual
inductive T where
  | nm (i : Nat) | tp (ts : Ts)
inductive Ts where
  | nil | cons (t : T) (r : Ts)
end
mutual
inductive E where
  | var (i : Nat) | cst (c : Nat) | lit (d : D)
  | bin (o : Op) (a b : E) | neg (a : E) | not (a : E)
  | cmp (o : Cm) (a b : E) | cmp2 (o p : Cm) (a b c : E) | isc (neg : Bool) (a : E) (c : D)
  | and (a b : E) | or (a b : E) | ite (c a b : E)
  | call (f : Nat) (as : Es) | bl (b : Bl) (as : Es) | isi (a : E) (t : Ty) | mt (m : Mt) (o : E) (as : Es) | mtc (m : Mt) (c : Nat) (as : Es)
  | ix (a b : E) | sl (a : E) (lo hi : Eo)
  | tup (as : Es) | lst (as : Es) | new (as : Es) | dsp (ks vs : Es)
  | lc (elt : E) (t : T) (own : List Nat) (it : It) (ifs : Es)
  | lc2 (elt : E) (t : T) (own : List Nat) (it : It) (ifs : Es) (t1 : T) (own1 : List Nat) (it1 : It) (ifs1 : Es)
inductive Es where
  | nil | cons (e : E) (r : Es)
inductive Eo where
  | no | some (e : E)
inductive It where
  | seq (e : E) | cell (e : E) | rng1 (a : E) | rng2 (a b : E) | rng3 (a b : E) (c : Int) | zip (a b : E) | enum (a : E)
end
mutual
inductive S where
  | expr (e : E) | set (i : Nat) (e : E) | sett (t : T) (e : E) | setix (o i e : E) | app (o e : E) | par2 (i j : Nat) (es : Es) | par3 (i j l : Nat) (es : Es)
  | ret (e : E) | retN | ifs (c : E) (a b : Ss) | for_ (t : T) (it : It) (b : Ss) | while_ (c : E) (b : Ss)
  | raise (c : Nat) | brk | cont | pass | never
inductive Ss where
  | nil | cons (s : S) (r : Ss)
end

def wipe (env : Env) : List Nat → Env
  | [] => env
  | v :: vs => (wipe env vs).set v .none

mutual
def T.store : T → PV → Env → Option Env
  | .nm i, v, env => some (env.set i (some v))
  | .tp ts, v, env => match v with
    | .d (.tup xs) => Ts.stores ts xs env
    | _ => .none
def Ts.stores : Ts → List D → Env → Option Env
  | .nil, [], env => some env
  | .cons t r, x :: xs, env => (T.store t (.d x) env).bind fun env' => Ts.stores r xs env'
  | _, _, _ => .none
end

structure Fns where
  call : Nat → List PV → M PV
  cst : Nat → Option PV

/-- what is walked: its items, or a cell of the store with so many -/
inductive Run where
  | its (xs : List PV) | cell (l n : Nat)

def rangeD (lo : Int) (n : Nat) (c : Int) : List PV := (List.range n).map fun k => .d (.int (lo + (k : Nat) * c))
def zipD : List D → List D → List PV
  | x :: xs, y :: ys => .d (.tup [x, y]) :: zipD xs ys
  | _, _ => []
def enumD : Nat → List D → List PV
  | _, [] => []
  | n, x :: xs => .d (.tup [.int n, x]) :: enumD (n + 1) xs
/-- how many turns range(a, b, c) has -/
def turns (a b c : Int) : Nat := if 0 < c then ((b - a + c - 1) / c).toNat else ((a - b + -c - 1) / -c).toNat
def small (i : Int) : Bool := decide (-(2 ^ 62) ≤ i) && decide (i < 2 ^ 62)

/-- a comprehension over items -/
def lcGo (elt : Env → M (Option PV)) (st : PV → Env → Option Env) (env : Env) : List PV → List D → M PV
  | [], acc => M.ret (.d (.list acc))
  | x :: xs, acc => match st x env with
    | .none => M.stuck
    | some env' => M.bnd (M.calm (elt env')) fun r => match r with
      | .none => lcGo elt st env xs acc
      | some (.d y) => if acc.length < LIM then lcGo elt st env xs (acc ++ [y]) else M.stuck
      | _ => M.stuck
/-- over a cell -/
def lcCell (elt : Env → M (Option PV)) (st : PV → Env → Option Env) (env : Env) (l n : Nat) : Nat → List D → M PV
  | 0, acc => fun h => match h[l]? with
    | some (.lst xs) => if xs.length = n then .ok (.d (.list acc)) h else .stuck
    | .none => .stuck
  | k + 1, acc => fun h => match h[l]? with
    | some (.lst xs) => if xs.length = n then match xs[n - (k + 1)]? with
        | some x => match st x env with
          | .none => .stuck
          | some env' => M.bnd (M.calm (elt env')) (fun r => match r with
            | .none => lcCell elt st env l n k acc
            | some (.d y) => if acc.length < LIM then lcCell elt st env l n k (acc ++ [y]) else M.stuck
            | _ => M.stuck) h
        | .none => .stuck
      else .stuck
    | .none => .stuck
/-- two walks, one within the other: what the inner one makes is laid on -/
def lc2Go (inner : Env → M PV) (st : PV → Env → Option Env) (env : Env) : List PV → List D → M PV
  | [], acc => M.ret (.d (.list acc))
  | x :: xs, acc => match st x env with
    | .none => M.stuck
    | some env' => M.bnd (inner env') fun r => match r with
      | .d (.list ys) => if acc.length + ys.length ≤ LIM then lc2Go inner st env xs (acc ++ ys) else M.stuck
      | _ => M.stuck

mutual
def evE (F : Fns) : E → Env → M PV
  | .var i, env => M.lift fun _ => (env[i]?).bind id
  | .cst c, _ => M.lift fun _ => F.cst c
  | .lit d, _ => M.ret (.d d)
  | .bin o a b, env => M.bnd (evE F a env) fun x => M.bnd (evE F b env) fun y => M.lift fun h => binop h o x y
  | .neg a, env => M.bnd (evE F a env) fun x => M.lift fun _ => match x with
    | .d (.int i) => some (.d (.int (-i)))
    | _ => .none
  | .not a, env => M.bnd (evE F a env) fun x => M.lift fun h => (truthy h x).map fun b => .d (.bool (!b))
  | .cmp o a b, env => M.bnd (evE F a env) fun x => M.bnd (evE F b env) fun y => M.lift fun h => (cmpop h o x y).map fun b => .d (.bool b)
  | .cmp2 o p a b c, env => M.bnd (evE F a env) fun x => M.bnd (evE F b env) fun y => M.bnd (M.lift fun h => cmpop h o x y) fun r =>
    if r then M.bnd (evE F c env) fun z => M.lift fun h => (cmpop h p y z).map fun b => .d (.bool b) else M.ret (.d (.bool false))
  | .isc n a c, env => M.bnd (evE F a env) fun x => M.lift fun _ => (isC x c).map fun b => .d (.bool (if n then !b else b))
  | .and a b, env => M.bnd (evE F a env) fun x => M.bnd (M.lift fun h => truthy h x) fun r => if r then evE F b env else M.ret x
  | .or a b, env => M.bnd (evE F a env) fun x => M.bnd (M.lift fun h => truthy h x) fun r => if r then M.ret x else evE F b env
  | .ite c a b, env => M.bnd (evE F c env) fun x => M.bnd (M.lift fun h => truthy h x) fun r => if r then evE F a env else evE F b env
  | .call f as, env => M.bnd (evEs F as env) fun xs => F.call f xs
  | .bl b as, env => M.bnd (evEs F as env) fun xs => M.lift fun h => blt h b xs
  | .isi a t, env => M.bnd (evE F a env) fun x => M.lift fun h => isTy h x t
  | .mt m o as, env => M.bnd (evE F o env) fun x => M.bnd (guardM (mtOk m x)) fun _ => M.bnd (evEs F as env) fun xs => M.lift fun h => meth h m x xs
  | .mtc m c as, env => M.bnd (M.lift fun _ => (F.cst c).bind tupOf) fun o => M.bnd (evEs F as env) fun xs => M.lift fun h => methT h m o xs
  | .ix a b, env => M.bnd (evE F a env) fun x => M.bnd (evE F b env) fun y => M.lift fun h => indexOp h x y
  | .sl a lo hi, env => M.bnd (evE F a env) fun x => M.bnd (evEo F lo env) fun i => M.bnd (evEo F hi env) fun j => M.lift fun h => sliceOp h x i j
  | .tup as, env => M.bnd (evEs F as env) fun xs => M.lift fun _ => if xs.length ≤ LIM then (allD xs).map fun ds => .d (.tup ds) else .none
  | .lst as, env => M.bnd (evEs F as env) fun xs => M.lift fun _ => if xs.length ≤ LIM then (allD xs).map fun ds => .d (.list ds) else .none
  | .new as, env => M.bnd (evEs F as env) fun xs => fun h => if xs.length ≤ LIM then .ok (.ref h.length) (h ++ [.lst xs]) else .stuck
  | .dsp ks vs, env => M.bnd (evEs F ks env) fun xs => M.bnd (evEs F vs env) fun ys => M.lift fun _ =>
    (allD xs).bind fun a => (allD ys).bind fun b => some (.dict (a.zip b))
  | .lc elt t own it ifs, env => M.bnd (evIt F it env) fun r => match r with
    | .its xs => lcGo (fun env' => M.bnd (evTs F ifs env') fun b => if b then M.bnd (evE F elt env') fun v => M.ret (some v) else M.ret .none) (T.store t) (wipe env own) xs []
    | .cell l n => lcCell (fun env' => M.bnd (evTs F ifs env') fun b => if b then M.bnd (evE F elt env') fun v => M.ret (some v) else M.ret .none) (T.store t) (wipe env own) l n n []
  | .lc2 elt t own it ifs t1 own1 it1 ifs1, env => M.bnd (evIt F it env) fun r => match r with
    | .its xs => lc2Go (fun env' => M.bnd (M.calm (evTs F ifs env')) fun b => if b then M.bnd (M.calm (evIt F it1 env')) fun r1 => match r1 with
        | .its ys => lcGo (fun env2 => M.bnd (evTs F ifs1 env2) fun b => if b then M.bnd (evE F elt env2) fun v => M.ret (some v) else M.ret .none) (T.store t1) (wipe env' own1) ys []
        | _ => M.stuck
      else M.ret (.d (.list []))) (T.store t) (wipe env own) xs []
    | _ => M.stuck
def evEs (F : Fns) : Es → Env → M (List PV)
  | .nil, _ => M.ret []
  | .cons e r, env => M.bnd (evE F e env) fun x => M.bnd (evEs F r env) fun xs => M.ret (x :: xs)
/-- all tests, from the left -/
def evTs (F : Fns) : Es → Env → M Bool
  | .nil, _ => M.ret true
  | .cons e r, env => M.bnd (evE F e env) fun x => M.bnd (M.lift fun h => truthy h x) fun b => if b then evTs F r env else M.ret false
def evEo (F : Fns) : Eo → Env → M (Option Int)
  | .no, _ => M.ret .none
  | .some e, env => M.bnd (evE F e env) fun x => M.lift fun _ => match x with
    | .d (.int i) => some (some i)
    | _ => .none
def evIt (F : Fns) : It → Env → M Run
  | .seq e, env => M.bnd (evE F e env) fun x => M.lift fun _ => match x with
    | .d (.list xs) => some (.its (xs.map PV.d))
    | .d (.tup xs) => some (.its (xs.map PV.d))
    | .d (.str s) => some (.its (s.map fun c => PV.d (.str [c])))
    | _ => .none
  | .cell e, env => M.bnd (evE F e env) fun x => M.lift fun h => match x with
    | .ref l => (items h (.ref l)).map fun xs => .cell l xs.length
    | _ => .none
  | .rng1 a, env => M.bnd (evE F a env) fun x => M.lift fun _ => match x with
    | .d (.int j) => if small j then some (.its (rangeD 0 j.toNat 1)) else .none
    | _ => .none
  | .rng2 a b, env => M.bnd (evE F a env) fun x => M.bnd (evE F b env) fun y => M.lift fun _ => match x, y with
    | .d (.int i), .d (.int j) => if small i && small j then some (.its (rangeD i (j - i).toNat 1)) else .none
    | _, _ => .none
  | .rng3 a b c, env => M.bnd (evE F a env) fun x => M.bnd (evE F b env) fun y => M.lift fun _ => match x, y with
    | .d (.int i), .d (.int j) => if decide (-1000000 ≤ i) && decide (i ≤ 1000000) && decide (-1000000 ≤ j) && decide (j ≤ 1000000) && decide (c = -1) then some (.its (rangeD i (turns i j c) c)) else .none
    | _, _ => .none
  | .zip a b, env => M.bnd (evE F a env) fun x => M.bnd (evE F b env) fun y => M.lift fun _ => match x, y with
    | .d (.list xs), .d (.list ys) => some (.its (zipD xs ys))
    | .d (.tup xs), .d (.tup ys) => some (.its (zipD xs ys))
    | _, _ => .none
  | .enum a, env => M.bnd (evE F a env) fun x => M.lift fun _ => match x with
    | .d (.list xs) => some (.its (enumD 0 xs))
    | _ => .none
end

/-- how a statement ends -/
inductive Fl where
  | nxt (env : Env) | ret (v : PV) | brk (env : Env) | cont (env : Env)

def forGo (body : Env → M Fl) (st : PV → Env → Option Env) : List PV → Env → M Fl
  | [], env => M.ret (.nxt env)
  | x :: xs, env => match st x env with
    | .none => M.stuck
    | some env' => M.bnd (body env') fun f => match f with
      | .nxt e => forGo body st xs e
      | .cont e => forGo body st xs e
      | .brk e => M.ret (.nxt e)
      | .ret v => M.ret (.ret v)
def forCell (body : Env → M Fl) (st : PV → Env → Option Env) (l n : Nat) : Nat → Env → M Fl
  | 0, env => fun h => match h[l]? with
    | some (.lst xs) => if xs.length = n then .ok (.nxt env) h else .stuck
    | .none => .stuck
  | k + 1, env => fun h => match h[l]? with
    | some (.lst xs) => if xs.length = n then match xs[n - (k + 1)]? with
        | some x => match st x env with
          | .none => .stuck
          | some env' => M.bnd (body env') (fun f => match f with
            | .nxt e => forCell body st l n k e
            | .cont e => forCell body st l n k e
            | .brk e => M.ret (.nxt e)
            | .ret v => M.ret (.ret v)) h
        | .none => .stuck
      else .stuck
    | .none => .stuck
def whileGo (test : Env → M Bool) (body : Env → M Fl) : Nat → Env → M Fl
  | 0, _ => M.stuck
  | k + 1, env => M.bnd (test env) fun b => if b then M.bnd (body env) fun f => match f with
      | .nxt e => whileGo test body k e
      | .cont e => whileGo test body k e
      | .brk e => M.ret (.nxt e)
      | .ret v => M.ret (.ret v)
    else M.ret (.nxt env)
def turnsMost : Nat := 1000000

def setCell (h : Hh) (l : Nat) (xs : List PV) : Hh := h.set l (.lst xs)

mutual
def evS (F : Fns) : S → Env → M Fl
  | .expr e, env => M.bnd (evE F e env) fun _ => M.ret (.nxt env)
  | .set i e, env => M.bnd (evE F e env) fun v => M.ret (.nxt (env.set i (some v)))
  | .sett t e, env => M.bnd (evE F e env) fun v => M.lift fun _ => (T.store t v env).map Fl.nxt
  | .par2 i j es, env => M.bnd (evEs F es env) fun vs => M.lift fun _ => match vs with
    | [v, w] => some (.nxt ((env.set i (some v)).set j (some w)))
    | _ => .none
  | .par3 i j l es, env => M.bnd (evEs F es env) fun vs => M.lift fun _ => match vs with
    | [u, v, w] => some (.nxt (((env.set i (some u)).set j (some v)).set l (some w)))
    | _ => .none
  | .setix o i e, env => M.bnd (evE F e env) fun v => M.bnd (evE F o env) fun x => M.bnd (evE F i env) fun k => fun h => match x, k with
    | .ref l, .d (.int n) => match h[l]? with
      | some (.lst xs) => match place xs.length n with
        | some j => .ok (.nxt env) (setCell h l (xs.set j v))
        | .none => .stuck
      | .none => .stuck
    | _, _ => .stuck
  | .app o e, env => M.bnd (evE F o env) fun x => M.bnd (guardM (isRef x)) fun _ => M.bnd (evE F e env) fun v => fun h => match x with
    | .ref l => match h[l]? with
      | some (.lst xs) => if xs.length < LIM then .ok (.nxt env) (setCell h l (xs ++ [v])) else .stuck
      | .none => .stuck
    | _ => .stuck
  | .ret e, env => M.bnd (evE F e env) fun v => M.ret (.ret v)
  | .retN, _ => M.ret (.ret (.d .none))
  | .ifs c a b, env => M.bnd (evE F c env) fun x => M.bnd (M.lift fun h => truthy h x) fun r => if r then evSs F a env else evSs F b env
  | .for_ t it b, env => M.bnd (evIt F it env) fun r => match r with
    | .its xs => forGo (evSs F b) (T.store t) xs env
    | .cell l n => forCell (evSs F b) (T.store t) l n n env
  | .while_ c b, env => whileGo (fun env => M.bnd (evE F c env) fun x => M.lift fun h => truthy h x) (evSs F b) turnsMost env
  | .raise c, _ => fun h => .exc c (.d .none) h
  | .never, _ => M.stuck
  | .brk, env => M.ret (.brk env)
  | .cont, env => M.ret (.cont env)
  | .pass, env => M.ret (.nxt env)
def evSs (F : Fns) : Ss → Env → M Fl
  | .nil, env => M.ret (.nxt env)
  | .cons s r, env => M.bnd (evS F s env) fun f => match f with
    | .nxt e => evSs F r e
    | f => M.ret f
end

structure Fn where
  np : Nat
  ns : Nat
  body : Ss

def start (ns : Nat) (args : List PV) : Env := args.map some ++ List.replicate (ns - args.length) .none

/-- a def's run; k: how deep calls may still go -/
def call (T : Nat → Option Fn) (C : Nat → Option PV) : Nat → Nat → List PV → M PV
  | 0, _, _ => M.stuck
  | k + 1, f, args => match T f with
    | .none => M.stuck
    | some d => if args.length = d.np then M.bnd (evSs ⟨call T C k, C⟩ d.body (start d.ns args)) fun r => match r with
        | .ret v => M.ret v
        | .nxt _ => M.ret (.d .none)
        | _ => M.stuck
      else M.stuck

end Ev
end

section
/-! EvTr: a def's text as a text of EvCore. -/
set_option autoImplicit false
set_option linter.all false
namespace Ev
open PySem L2

def code (s : Str) : Nat := s.cps.toList.foldl (fun a c => a * 128 + c) 0

/-- what is known of the text's own names -/
structure TrP where
  fns : List Str
  csts : List Str
  blts : List Str
  excs : List Str
  excs1 : List Str
  boxes : List (Nat × Nat)

def idx (N : List Str) (x : Str) : Option Nat := (N.findIdx? (· == x))
def isVis (sc : Scope) (x : Str) : Bool := match sc.names.lookup x with
  | some .local => true
  | some .cell => true
  | some .free => true
  | _ => false
def isLoc (sc : Scope) (x : Str) : Bool := match sc.names.lookup x with
  | some .local => true
  | some .cell => true
  | _ => false
def isGl (sc : Scope) (x : Str) : Bool := sc.names.lookup x == some .globalImplicit
def okN (x : Str) : Bool := !(x == ("__debug__" : Str)) && !(x == ("__classdict__" : Str)) && !(x == ("__name__" : Str))

def trOp : Operator → Option Op
  | .Add => some .add | .Sub => some .sub | .Mult => some .mul | .FloorDiv => some .fdiv | .Mod => some .mod | .Pow => some .pow
  | .LShift => some .shl | .RShift => some .shr | _ => none
def trCm : CmpOp → Option Cm
  | .Eq => some .eq | .NotEq => some .ne | .Lt => some .lt | .LtE => some .le | .Gt => some .gt | .GtE => some .ge | .In => some .isin | .NotIn => some .notin | _ => none
def trTy (x : Str) : Option Ty :=
  if x == ("int" : Str) then some .int else if x == ("str" : Str) then some .str else if x == ("bool" : Str) then some .bool
  else if x == ("tuple" : Str) then some .tuple else if x == ("list" : Str) then some .list else if x == ("dict" : Str) then some .dict else none
def trBl (x : Str) (n : Nat) : Option Bl :=
  if x == ("len" : Str) then some .len else if x == ("all" : Str) then some .all else if x == ("any" : Str) then some .any
  else if x == ("tuple" : Str) then some .tuple else if x == ("list" : Str) then some .list else if x == ("sum" : Str) then some .sum
  else if x == ("max" : Str) then some (if n = 2 then .max2 else .max) else if x == ("min" : Str) then some (if n = 2 then .min2 else .min)
  else if x == ("int" : Str) then some .int else if x == ("str" : Str) then some .str else if x == ("bool" : Str) then some .bool
  else if x == ("ord" : Str) then some .ord else if x == ("abs" : Str) then some .abs else if x == ("sorted" : Str) then some .sorted else none
def trMt (x : Str) (n : Nat) : Option Mt :=
  if x == ("index" : Str) then some .index else if x == ("count" : Str) then some .count else if x == ("split" : Str) then some .split
  else if x == ("join" : Str) then some .join else if x == ("get" : Str) then some (if n = 2 then .get2 else .get1) else none

def isIC : Mt → Bool
  | .index => true
  | .count => true
  | _ => false
def codes (s : Str) : List Nat := s.cps.toList

def trConst : Const → Option D
  | .none => some .none
  | .bool b => some (.bool b)
  | .int i => some (.int i)
  | .str s => if (codes s).all (fun c => c < 1114112) then some (.str (codes s)) else none
  | _ => none

def ownOf (N : List Str) : List (Str × NameKind) → List (Str × Nat)
  | [] => []
  | (n, k) :: r => if k == .local || k == .cell then (match idx N n with
    | some i => (n, i) :: ownOf N r
    | none => ownOf N r) else ownOf N r

mutual
def trT : Nat → List Str → Scope → Expr → Option T
  | 0, _, _, _ => none
  | k + 1, N, sc, e => match e with
    | .Name x _ => if isLoc sc x then (idx N x).map T.nm else none
    | .Tuple es _ _ => (trTs k N sc es).map T.tp
    | _ => none
def trTs : Nat → List Str → Scope → List Expr → Option Ts
  | 0, _, _, _ => none
  | k + 1, N, sc, es => match es with
    | [] => some .nil
    | e :: r => (trT k N sc e).bind fun t => (trTs k N sc r).map fun ts => .cons t ts
end

def namesOfT : Nat → Expr → List Str
  | 0, _ => []
  | k + 1, e => match e with
    | .Name x _ => [x]
    | .Tuple es _ _ => es.flatMap (namesOfT k)
    | _ => []
def slots (N : List Str) (xs : List Str) : List Nat := xs.filterMap (idx N)

mutual
def trE (P : TrP) : Nat → List Str → Scope → Expr → Option E
  | 0, _, _, _ => none
  | k + 1, N, sc, e => match e with
    | .Name x _ => if okN x then (if isVis sc x then (idx N x).map E.var else if isGl sc x && P.csts.contains x then some (.cst (code x)) else none) else none
    | .Constant c _ _ => (trConst c).map E.lit
    | .BinOp a o b _ => (trOp o).bind fun o' => (trE P k N sc a).bind fun a' => (trE P k N sc b).map fun b' => .bin o' a' b'
    | .UnaryOp .USub a _ => (trE P k N sc a).map E.neg
    | .UnaryOp .Not a _ => (trE P k N sc a).map E.not
    | .BoolOp o es p => trBool P k N sc o es
    | .IfExp c a b _ => (trE P k N sc c).bind fun c' => (trE P k N sc a).bind fun a' => (trE P k N sc b).map fun b' => .ite c' a' b'
    | .Compare a ops bs _ => match ops, bs with
      | [.Is], [.Constant c _ _] => match c with
        | .none => (trE P k N sc a).map fun a' => .isc false a' .none
        | .bool b => (trE P k N sc a).map fun a' => .isc false a' (.bool b)
        | _ => none
      | [.IsNot], [.Constant c _ _] => match c with
        | .none => (trE P k N sc a).map fun a' => .isc true a' .none
        | .bool b => (trE P k N sc a).map fun a' => .isc true a' (.bool b)
        | _ => none
      | [o], [b] => (trCm o).bind fun o' => (trE P k N sc a).bind fun a' => (trE P k N sc b).map fun b' => .cmp o' a' b'
      | [o, o2], [b, c] => (trCm o).bind fun o' => (trCm o2).bind fun o2' => (trE P k N sc a).bind fun a' => (trE P k N sc b).bind fun b' => (trE P k N sc c).map fun c' => .cmp2 o' o2' a' b' c'
      | _, _ => none
    | .Call f as ks pos => match f, ks with
      | .Name x _, [] => if okN x && isGl sc x then
          (if P.fns.contains x then (trEs P k N sc as).map fun as' => .call (code x) as'
          else if P.blts.contains x then (if x == ("isinstance" : Str) then (match as with
            | [a, .Name t _] => if okN t && isGl sc t && P.blts.contains t then (trTy t).bind fun t' => (trE P k N sc a).map fun a' => .isi a' t' else none
            | _ => none)
            else (trBl x as.length).bind fun b => (trEs P k N sc as).map fun as' => .bl b as')
          else none) else none
      | .Attribute o m apos, [] => if apos.endLine != pos.line || as.length > 20 || as.length == 0 then none else (trMt m as.length).bind fun m' => match o with
          | .Name x p => if okN x && isGl sc x && P.csts.contains x && isIC m' then (trEs P k N sc as).map fun as' => .mtc m' (code x) as' else (trE P k N sc (.Name x p)).bind fun o' => (trEs P k N sc as).map fun as' => .mt m' o' as'
          | .Call .. => none
          | o => (trE P k N sc o).bind fun o' => (trEs P k N sc as).map fun as' => .mt m' o' as'
      | _, _ => none
    | .Subscript a i _ => match i with
      | .Slice lo hi none _ => (trE P k N sc a).bind fun a' => (trEo P k N sc lo).bind fun lo' => (trEo P k N sc hi).map fun hi' => .sl a' lo' hi'
      | .Tuple .. => none
      | .Starred .. => none
      | i => (trE P k N sc a).bind fun a' => (trE P k N sc i).map fun i' => .ix a' i'
    | .Tuple es _ _ => (trEs P k N sc es).map E.tup
    | .List es pos => if P.boxes.contains (pos.line, pos.col) then (trEs P k N sc es).map E.new else (trEs P k N sc es).map E.lst
    | .ListComp elt [⟨tg, iter, ifs, 0⟩] scope _ =>
      let sc' := relS scope sc
      if blkC N sc scope (ownOf N scope.names) && decide (ifs.length ≤ 1) then
        (trIt P k N sc tg iter).bind fun it => (trT k N scope tg).bind fun t => (trEs P k N sc' ifs).bind fun ifs' => (trE P k N sc' elt).map fun elt' => .lc elt' t ((ownOf N scope.names).map (·.2)) it ifs'
      else none
    | _ => none
def trBool (P : TrP) : Nat → List Str → Scope → BoolOp → List Expr → Option E
  | 0, _, _, _, _ => none
  | k + 1, N, sc, o, es => match es with
    | [] => none
    | [a] => trE P k N sc a
    | a :: r => (trE P k N sc a).bind fun a' => (trBool P k N sc o r).map fun r' => match o with
      | .And => .and a' r'
      | .Or => .or a' r'
def trEs (P : TrP) : Nat → List Str → Scope → List Expr → Option Es
  | 0, _, _, _ => none
  | k + 1, N, sc, es => match es with
    | [] => some .nil
    | .Starred .. :: _ => none
    | e :: r => (trE P k N sc e).bind fun e' => (trEs P k N sc r).map fun r' => .cons e' r'
def trEo (P : TrP) : Nat → List Str → Scope → Option Expr → Option Eo
  | 0, _, _, _ => none
  | k + 1, N, sc, e => match e with
    | none => some .no
    | some e => (trE P k N sc e).map Eo.some
def trIt (P : TrP) : Nat → List Str → Scope → Expr → Expr → Option It
  | 0, _, _, _, _ => none
  | k + 1, N, sc, tg, e => match e with
    | .Call (.Name x _) [a] [] _ =>
      if x == ("range" : Str) && isGl sc x && P.blts.contains x then (trE P k N sc a).map It.rng1
      else if x == ("enumerate" : Str) && isGl sc x && P.blts.contains x then (match tg with
        | .Tuple _ _ _ => (trE P k N sc a).map It.enum
        | _ => none)
      else (trE P k N sc e).map It.seq
    | .Call (.Name x _) [a, b] [] _ =>
      if x == ("range" : Str) && isGl sc x && P.blts.contains x then (trE P k N sc a).bind fun a' => (trE P k N sc b).map fun b' => .rng2 a' b'
      else if x == ("zip" : Str) && isGl sc x && P.blts.contains x then (match tg with
        | .Tuple _ _ _ => (trE P k N sc a).bind fun a' => (trE P k N sc b).map fun b' => .zip a' b'
        | _ => none)
      else (trE P k N sc e).map It.seq
    | .Call (.Name x _) [a, b, .UnaryOp .USub (.Constant (.int 1) _ _) _] [] _ =>
      if x == ("range" : Str) && isGl sc x && P.blts.contains x then (trE P k N sc a).bind fun a' => (trE P k N sc b).map fun b' => .rng3 a' b' (-1)
      else (trE P k N sc e).map It.seq
    | .Name x pos => if P.boxes.contains (pos.line, pos.col) then (trE P k N sc e).map It.cell else (trE P k N sc e).map It.seq
    | e => (trE P k N sc e).map It.seq
end

def parNames (sc : Scope) (ts : List Expr) : List Str := ts.filterMap fun
    | .Name id pos => if sc.names.lookup id == some .local && pos.line == (ts.head?.map (·.pos.line)).getD 0 then some id else none
    | _ => none
def swK (sc : Scope) (ts vs : List Expr) : Nat :=
  if !(ts.length == 2 || ts.length == 3) || vs.length != ts.length then 0
  else if vs.any (fun | .Starred .. => true | _ => false) then 0
  else if (parNames sc ts).length != ts.length || (parNames sc ts).eraseDups.length != (parNames sc ts).length then 0
  else if vs.all (foldedForSure 8) then 0
  else if vs.all (constantsAlone 8) then 2 else 1
def notCallT : Expr → Bool
  | .Call .. => false
  | _ => true
mutual
def trS (P : TrP) : Nat → List Str → Scope → Stmt → Option S
  | 0, _, _, _ => none
  | k + 1, N, sc, s => match s with
    | .Expr e pos => match e with
      | .Call (.Attribute o m apos) [a] [] cpos => if m == ("append" : Str) && (apos.endLine == cpos.line) && notCallT o then (trE P k N sc o).bind fun o' => (trE P k N sc a).map fun a' => .app o' a' else (trE P k N sc e).map S.expr
      | .ListComp .. => none
      | e => (trE P k N sc e).map S.expr
    | .Assign [.Name x _] e _ => if isLoc sc x then (idx N x).bind fun i => (trE P k N sc e).map fun e' => .set i e' else none
    | .Assign [.Tuple ts a p] e _ => match e with
      | .Tuple vs _ _ => (match swK sc ts vs with
        | 0 => (trT k N sc (.Tuple ts a p)).bind fun t => (trE P k N sc e).map fun e' => .sett t e'
        | 1 => (match ts, vs with
          | [.Name x _, .Name y _], [v, w] => (idx N x).bind fun i => (idx N y).bind fun j => if i != j && sc.names.lookup x == some .local && sc.names.lookup y == some .local then (trEs P k N sc [v, w]).map fun es => .par2 i j es else none
          | [.Name x _, .Name y _, .Name z _], [u, v, w] => (idx N x).bind fun i => (idx N y).bind fun j => (idx N z).bind fun l => if i != j && i != l && j != l && sc.names.lookup x == some .local && sc.names.lookup y == some .local && sc.names.lookup z == some .local then (trEs P k N sc [u, v, w]).map fun es => .par3 i j l es else none
          | _, _ => none)
        | _ => none)
      | e => (trT k N sc (.Tuple ts a p)).bind fun t => (trE P k N sc e).map fun e' => .sett t e'
    | .Assign [.Subscript o i _] e _ => match i with
      | .Slice .. => none
      | .Tuple .. => none
      | .Starred .. => none
      | i => (trE P k N sc o).bind fun o' => (trE P k N sc i).bind fun i' => (trE P k N sc e).map fun e' => .setix o' i' e'
    | .Return (some e) _ => (trE P k N sc e).map S.ret
    | .Return none _ => some .retN
    | .If c a b _ => (trE P k N sc c).bind fun c' => (trSs P k N sc a).bind fun a' => (trSs P k N sc b).map fun b' => .ifs c' a' b'
    | .For tg iter b [] _ => (trIt P k N sc tg iter).bind fun it => (trT k N sc tg).bind fun t => (trSs P k N sc b).map fun b' => .for_ t it b'
    | .While c b [] _ => (trE P k N sc c).bind fun c' => (trSs P k N sc b).map fun b' => .while_ c' b'
    | .Raise (some (.Call (.Name x _) [a] [] _)) none _ => if okN x && isGl sc x && P.excs.contains x then (match a with
        | .Constant (.str _) _ _ => some (.raise (code x))
        | _ => none)
      else none
    | .Break _ => some .brk
    | .Continue _ => some .cont
    | .Pass _ => some .pass
    | _ => none
def trSs (P : TrP) : Nat → List Str → Scope → List Stmt → Option Ss
  | 0, _, _, _ => none
  | k + 1, N, sc, ss => match ss with
    | [] => some .nil
    | s :: r => (trSs P k N sc r).map fun r' => .cons ((trS P k N sc s).getD .never) r'
end

end Ev
namespace Ev
open PySem L2
def paramsOf (st : Stmt) : List Str := (defArgs st).args.map (·.arg)
def fastOf (st : Stmt) : List Str := (defScope st).more.filterMap fun p => if p.1 == ("fast" : Str) then (match p.2 with
  | .str s => some s
  | _ => none) else none
/-- a def's own names, the parameters first -/
def localsOf (st : Stmt) : List Str := (defScope st).names.filterMap fun p => if p.2 == .local || p.2 == .cell then some p.1 else none
def namesOf (st : Stmt) : List Str := (paramsOf st ++ (localsOf st ++ fastOf st)).foldl (fun a x => if a.contains x then a else a ++ [x]) []
def trFn (P : TrP) (st : Stmt) : Option Fn := (trSs P 60 (namesOf st) (defScope st) (defBody st)).map fun b => ⟨(paramsOf st).length, (namesOf st).length, b⟩
def defNames : List Stmt → List Str
  | [] => []
  | .FunctionDef n _ _ _ _ _ _ _ _ _ :: r => n :: defNames r
  | _ :: r => defNames r
def cstNames : List Stmt → List Str
  | [] => []
  | .Assign [.Name n _] _ _ :: r => if n == ("__name__" : Str) then cstNames r else n :: cstNames r
  | _ :: r => cstNames r
def excNames (ini : Bool) : List Stmt → List Str
  | [] => []
  | .ClassDef n _ _ b _ _ _ _ _ _ _ :: r => if (match b with
      | [.Pass _] => false
      | _ => true) == ini then n :: excNames ini r else excNames ini r
  | _ :: r => excNames ini r
def bltNames : List Str := ["len", "all", "any", "tuple", "list", "sum", "max", "min", "int", "str", "bool", "ord", "abs", "sorted", "set", "dict", "range", "zip", "enumerate", "isinstance"]
def trPOf (b : List Stmt) (boxes : List (Nat × Nat)) : TrP := ⟨defNames b, cstNames b, bltNames, excNames false b, excNames true b, boxes⟩
end Ev
end

section
/-! EvRep: how plain data lies in the machine's store. -/
set_option autoImplicit false
set_option linter.all false
set_option Elab.async false
set_option maxRecDepth 100000
namespace Ev
open PySem L2 PyProof.Rows

def KLst (K : PySem.W.Frag) (a : Addr) (xs : List V) : Prop := ∃ (o : Obj) (its : Array Value) (n : Nat), K.lookup a = some o ∧ o.cls = .type "list" ∧ o.dict = none ∧ o.data = .seq its n ∧ its.size ≤ sizeLine ∧ Vals xs its.toList
def KTup (K : PySem.W.Frag) (a : Addr) (xs : List V) : Prop := ∃ (o : Obj) (its : Array Value) (n : Nat), K.lookup a = some o ∧ o.cls = .type "tuple" ∧ o.dict = none ∧ o.data = .seq its n ∧ its.size ≤ sizeLine ∧ Vals xs its.toList
theorem KTup.sq {K : PySem.W.Frag} {a : Addr} {xs : List V} (h : KTup K a xs) : ∃ (o : Obj) (its : Array Value) (n : Nat), K.lookup a = some o ∧ o.cls = .type "tuple" ∧ o.data = .seq its n ∧ its.size ≤ sizeLine ∧ Vals xs its.toList := by
  obtain ⟨o, its, n, h1, h2, _, h3⟩ := h
  exact ⟨o, its, n, h1, h2, h3⟩
def LstAt (K : PySem.W.Frag) (z m : List Addr) (H : Hp) (a : Addr) (us : List V) : Prop := H a = some (.lst us) ∧ a ∉ m ∧ a ∉ z
def TupAt (K : PySem.W.Frag) (z m : List Addr) (H : Hp) (a : Addr) (us : List V) : Prop := (Rd H a (.tup us) ∧ a ∉ m ∧ a ∉ z) ∨ KTup K a us
theorem LstAt.sq {K : PySem.W.Frag} {z m : List Addr} {H : Hp} {a : Addr} {us : List V} (h : LstAt K z m H a us) : SqL K H a us := .inl (.inl h.1)
theorem TupAt.sq {K : PySem.W.Frag} {z m : List Addr} {H : Hp} {a : Addr} {us : List V} (h : TupAt K z m H a us) : SqT K H a us := h.elim (fun x => .inl x.1) fun q => .inr q.sq

mutual
def RepD (K : PySem.W.Frag) (z m : List Addr) (H : Hp) : D → V → Prop
  | .none, v => v = .non
  | .bool b, v => v = .bl b
  | .int i, v => v = .int i
  | .str s, v => v = .str ⟨s.toArray⟩
  | .list xs, v => ∃ a us, v = .ref a ∧ LstAt K z m H a us ∧ us.length ≤ sizeLine ∧ RepDs K z m H xs us
  | .tup xs, v => ∃ a us, v = .ref a ∧ TupAt K z m H a us ∧ us.length ≤ sizeLine ∧ RepDs K z m H xs us
def RepDs (K : PySem.W.Frag) (z m : List Addr) (H : Hp) : List D → List V → Prop
  | [], us => us = []
  | x :: xs, us => ∃ u r, us = u :: r ∧ RepD K z m H x u ∧ RepDs K z m H xs r
end

/-- a table of the written part or of the store that is only read: what look-ups and walks of it give -/
def DicAt (K : PySem.W.Frag) (z m : List Addr) (H : Hp) (a : Addr) (kvs : List (D × D)) : Prop := False

def Rep (K : PySem.W.Frag) (z m : List Addr) (H : Hp) : PV → V → Prop
  | .d x, v => RepD K z m H x v
  | .ref l, v => ∃ a, v = .ref a ∧ m[l]? = some a
  | .dict kvs, v => ∃ a, v = .ref a ∧ DicAt K z m H a kvs
  | .scr xs, v => ∃ a us, v = .ref a ∧ ((Rd H a (.lst us) ∧ a ∉ m ∧ a ∉ z) ∨ KLst K a us) ∧ us.length ≤ sizeLine ∧ RepDs K z m H xs us
def Reps (K : PySem.W.Frag) (z m : List Addr) (H : Hp) : List PV → List V → Prop
  | [], us => us = []
  | x :: xs, us => ∃ u r, us = u :: r ∧ Rep K z m H x u ∧ Reps K z m H xs r

/-- what stood stands, but for the cells -/
structure Ext (m : List Addr) (H : Hp) (m' : List Addr) (H' : Hp) : Prop where
  pre : ∃ w, m' = m ++ w
  imm : ∀ a o, H a = some o → a ∉ m → H' a = some o ∧ a ∉ m'
theorem Ext.refl (m : List Addr) (H : Hp) : Ext m H m H := ⟨⟨[], by simp⟩, fun _ _ h n => ⟨h, n⟩⟩
theorem Ext.trans {m m1 m2 : List Addr} {H H1 H2 : Hp} (a : Ext m H m1 H1) (b : Ext m1 H1 m2 H2) : Ext m H m2 H2 := by
  refine ⟨?_, fun x o h n => ?_⟩
  · obtain ⟨u, e⟩ := a.pre
    obtain ⟨v, e'⟩ := b.pre
    exact ⟨u ++ v, by rw [e', e, List.append_assoc]⟩
  · obtain ⟨h1, n1⟩ := a.imm x o h n
    exact b.imm x o h1 n1
theorem Ext.at {m m1 : List Addr} {H H1 : Hp} (a : Ext m H m1 H1) {l : Nat} {p : Addr} (h : m[l]? = some p) : m1[l]? = some p := by
  obtain ⟨u, e⟩ := a.pre
  rw [e, List.getElem?_append_left]
  · exact h
  · exact (List.getElem?_eq_some_iff.mp h).1
theorem Ext.rd {m m1 : List Addr} {H H1 : Hp} (e : Ext m H m1 H1) {a : Addr} {u : HO} (h : Rd H a u) (n : a ∉ m) : Rd H1 a u ∧ a ∉ m1 := by
  rcases h with h | ⟨o, h⟩
  · exact ⟨.inl (e.imm _ _ h n).1, (e.imm _ _ h n).2⟩
  · exact ⟨.inr ⟨o, (e.imm _ _ h n).1⟩, (e.imm _ _ h n).2⟩
/-- a new object -/
theorem Ext.new {m : List Addr} {H : Hp} {p : Addr} {o : HO} (h : H p = none) : Ext m H m (upd H p o) :=
  ⟨⟨[], by simp⟩, fun a u e n => ⟨by rw [upd_ne (ne_of_none e h)]; exact e, n⟩⟩
/-- a cell is changed -/
theorem Ext.cell {m : List Addr} {H : Hp} {p : Addr} {o : HO} (h : p ∈ m) : Ext m H m (upd H p o) :=
  ⟨⟨[], by simp⟩, fun a u e n => ⟨by rw [upd_ne (fun q => n (by rw [q]; exact h))]; exact e, n⟩⟩

section
variable {K : PySem.W.Frag} {z m m1 : List Addr} {H H1 : Hp}
theorem LstAt.mono (e : Ext m H m1 H1) {a : Addr} {us : List V} (h : LstAt K z m H a us) : LstAt K z m1 H1 a us := by
  obtain ⟨r, n, y⟩ := h
  exact ⟨(e.imm _ _ r n).1, (e.imm _ _ r n).2, y⟩
theorem TupAt.mono (e : Ext m H m1 H1) {a : Addr} {us : List V} (h : TupAt K z m H a us) : TupAt K z m1 H1 a us := by
  rcases h with ⟨r, n, y⟩ | h
  · exact .inl ⟨(e.rd r n).1, (e.rd r n).2, y⟩
  · exact .inr h
/-- anything that keeps what lies at an address -/
structure Kept (K : PySem.W.Frag) (z m : List Addr) (H : Hp) (z1 m1 : List Addr) (H1 : Hp) : Prop where
  l : ∀ a us, LstAt K z m H a us → LstAt K z1 m1 H1 a us
  t : ∀ a us, TupAt K z m H a us → TupAt K z1 m1 H1 a us
  c : ∀ (l : Nat) (a : Addr), m[l]? = some a → m1[l]? = some a
  r : ∀ a us, Rd H a (.lst us) ∧ a ∉ m ∧ a ∉ z → Rd H1 a (.lst us) ∧ a ∉ m1 ∧ a ∉ z1
theorem Ext.keeps (e : Ext m H m1 H1) : Kept K z m H z m1 H1 := ⟨fun _ _ h => h.mono e, fun _ _ h => h.mono e, fun _ _ h => e.at h, fun _ _ ⟨h, n, y⟩ => ⟨(e.rd h n).1, (e.rd h n).2, y⟩⟩
mutual
theorem RepD.keep {z1 : List Addr} (e : Kept K z m H z1 m1 H1) : ∀ {x : D} {v : V}, RepD K z m H x v → RepD K z1 m1 H1 x v
  | .none, _, h => by simpa [RepD] using h
  | .bool _, _, h => by simpa [RepD] using h
  | .int _, _, h => by simpa [RepD] using h
  | .str _, _, h => by simpa [RepD] using h
  | .list xs, _, h => by
    rw [RepD] at h ⊢
    obtain ⟨a, us, h1, h2, h3, h4⟩ := h
    exact ⟨a, us, h1, e.l _ _ h2, h3, RepDs.keep e h4⟩
  | .tup xs, _, h => by
    rw [RepD] at h ⊢
    obtain ⟨a, us, h1, h2, h3, h4⟩ := h
    exact ⟨a, us, h1, e.t _ _ h2, h3, RepDs.keep e h4⟩
theorem RepDs.keep {z1 : List Addr} (e : Kept K z m H z1 m1 H1) : ∀ {xs : List D} {us : List V}, RepDs K z m H xs us → RepDs K z1 m1 H1 xs us
  | [], _, h => by simpa [RepDs] using h
  | x :: xs, _, h => by
    rw [RepDs] at h ⊢
    obtain ⟨u, r, h1, h2, h3⟩ := h
    exact ⟨u, r, h1, RepD.keep e h2, RepDs.keep e h3⟩
end
theorem Rep.keep {z1 : List Addr} (e : Kept K z m H z1 m1 H1) : ∀ {x : PV} {v : V}, Rep K z m H x v → Rep K z1 m1 H1 x v
  | .d x, _, h => RepD.keep e (x := x) h
  | .ref l, _, h => by
    obtain ⟨a, h1, h2⟩ := h
    exact ⟨a, h1, e.c _ _ h2⟩
  | .dict kvs, _, h => by
    obtain ⟨a, h1, h2⟩ := h
    exact h2.elim
  | .scr xs, _, h => by
    obtain ⟨a, us, h1, h2, h3, h4⟩ := h
    exact ⟨a, us, h1, h2.imp (e.r _ _) id, h3, h4.keep e⟩
theorem Reps.keep {z1 : List Addr} (e : Kept K z m H z1 m1 H1) : ∀ {xs : List PV} {us : List V}, Reps K z m H xs us → Reps K z1 m1 H1 xs us
  | [], _, h => h
  | x :: xs, _, h => by
    obtain ⟨u, r, h1, h2, h3⟩ := h
    exact ⟨u, r, h1, h2.keep e, h3.keep e⟩
theorem Reps.length : ∀ {xs : List PV} {us : List V}, Reps K z m H xs us → xs.length = us.length
  | [], us, h => by rw [show us = [] from h]; rfl
  | x :: xs, _, h => by
    obtain ⟨u, r, rfl, h2, h3⟩ := h
    simp [Reps.length h3]
theorem RepDs.length : ∀ {xs : List D} {us : List V}, RepDs K z m H xs us → xs.length = us.length
  | [], _, h => by rw [RepDs] at h; rw [h]; rfl
  | x :: xs, _, h => by
    rw [RepDs] at h
    obtain ⟨u, r, rfl, h2, h3⟩ := h
    simp [RepDs.length h3]
theorem Reps.get : ∀ {xs : List PV} {us : List V} {i : Nat} {x : PV}, Reps K z m H xs us → xs[i]? = some x → ∃ u, us[i]? = some u ∧ Rep K z m H x u
  | [], _, _, _, _, e => by simp at e
  | y :: xs, _, 0, x, h, e => by
    obtain ⟨u, r, rfl, h2, h3⟩ := h
    simp at e; subst e
    exact ⟨u, rfl, h2⟩
  | y :: xs, _, i + 1, x, h, e => by
    obtain ⟨u, r, rfl, h2, h3⟩ := h
    simpa using Reps.get h3 (i := i) (by simpa using e)
theorem RepDs.get : ∀ {xs : List D} {us : List V} {i : Nat} {x : D}, RepDs K z m H xs us → xs[i]? = some x → ∃ u, us[i]? = some u ∧ RepD K z m H x u
  | [], _, _, _, _, e => by simp at e
  | y :: xs, _, 0, x, h, e => by
    rw [RepDs] at h
    obtain ⟨u, r, rfl, h2, h3⟩ := h
    simp at e; subst e
    exact ⟨u, rfl, h2⟩
  | y :: xs, _, i + 1, x, h, e => by
    rw [RepDs] at h
    obtain ⟨u, r, rfl, h2, h3⟩ := h
    simpa using RepDs.get h3 (i := i) (by simpa using e)
theorem RepDs.reps : ∀ {xs : List D} {us : List V}, RepDs K z m H xs us → Reps K z m H (xs.map PV.d) us
  | [], _, h => by rw [RepDs] at h; exact h
  | x :: xs, _, h => by
    rw [RepDs] at h
    obtain ⟨u, r, h1, h2, h3⟩ := h
    exact ⟨u, r, h1, h2, RepDs.reps h3⟩
theorem Reps.ds : ∀ {xs : List PV} {us : List V} {ds : List D}, Reps K z m H xs us → allD xs = some ds → RepDs K z m H ds us
  | [], _, _, h, e => by
    simp [allD] at e; subst e
    rw [RepDs]; exact h
  | .d x :: xs, _, ds, h, e => by
    obtain ⟨u, r, h1, h2, h3⟩ := h
    simp only [allD, Option.map_eq_some_iff] at e
    obtain ⟨ds', e1, rfl⟩ := e
    rw [RepDs]
    exact ⟨u, r, h1, h2, Reps.ds h3 e1⟩
  | .ref _ :: _, _, _, _, e => by simp [allD] at e
  | .dict _ :: _, _, _, _, e => by simp [allD] at e
  | .scr _ :: _, _, _, _, e => by simp [allD] at e
theorem RepDs.append : ∀ {xs ys : List D} {us vs : List V}, RepDs K z m H xs us → RepDs K z m H ys vs → RepDs K z m H (xs ++ ys) (us ++ vs)
  | [], _, _, _, h, k => by rw [RepDs] at h; subst h; exact k
  | x :: xs, _, _, _, h, k => by
    rw [RepDs] at h
    obtain ⟨u, r, rfl, h2, h3⟩ := h
    rw [List.cons_append, RepDs]
    exact ⟨u, _, rfl, h2, RepDs.append h3 k⟩
theorem RepDs.take : ∀ {xs : List D} {us : List V} (n : Nat), RepDs K z m H xs us → RepDs K z m H (xs.take n) (us.take n)
  | _, _, 0, _ => by simp [RepDs]
  | [], _, n + 1, h => by rw [RepDs] at h; subst h; simp [RepDs]
  | x :: xs, _, n + 1, h => by
    rw [RepDs] at h
    obtain ⟨u, r, rfl, h2, h3⟩ := h
    rw [List.take_succ_cons, RepDs]
    exact ⟨u, _, by simp, h2, RepDs.take n h3⟩
theorem RepDs.drop : ∀ {xs : List D} {us : List V} (n : Nat), RepDs K z m H xs us → RepDs K z m H (xs.drop n) (us.drop n)
  | _, _, 0, h => by simpa using h
  | [], _, n + 1, h => by rw [RepDs] at h; subst h; simp [RepDs]
  | x :: xs, _, n + 1, h => by
    rw [RepDs] at h
    obtain ⟨u, r, rfl, h2, h3⟩ := h
    simpa using RepDs.drop n h3
theorem Reps.append : ∀ {xs ys : List PV} {us vs : List V}, Reps K z m H xs us → Reps K z m H ys vs → Reps K z m H (xs ++ ys) (us ++ vs)
  | [], _, _, _, h, k => by rw [show _ = [] from h]; exact k
  | x :: xs, _, _, _, h, k => by
    obtain ⟨u, r, rfl, h2, h3⟩ := h
    exact ⟨u, _, rfl, h2, Reps.append h3 k⟩
theorem Reps.set : ∀ {xs : List PV} {us : List V} (i : Nat) {x : PV} {v : V}, Reps K z m H xs us → Rep K z m H x v → Reps K z m H (xs.set i x) (us.set i v)
  | [], _, _, _, _, h, _ => by rw [show _ = [] from h]; rfl
  | y :: xs, _, 0, _, _, h, k => by
    obtain ⟨u, r, rfl, h2, h3⟩ := h
    exact ⟨_, r, rfl, k, h3⟩
  | y :: xs, _, i + 1, _, _, h, k => by
    obtain ⟨u, r, rfl, h2, h3⟩ := h
    exact ⟨u, _, rfl, h2, Reps.set i h3 k⟩
end

/-- the store's cells -/
structure RelH (K : PySem.W.Frag) (z m : List Addr) (H : Hp) (h : Hh) : Prop where
  nd : m.Nodup
  len : m.length = h.length
  cell : ∀ (l : Nat) (a : Addr) (xs : List PV), m[l]? = some a → h[l]? = some (.lst xs) → ∃ us, H a = some (.lst us) ∧ us.length ≤ sizeLine ∧ Reps K z m H xs us
  zt : ∀ a ∈ z, (∃ o, H a = some o) ∧ a ∉ m
theorem RelH.there {K : PySem.W.Frag} {z m : List Addr} {H : Hp} {h : Hh} (r : RelH K z m H h) {a : Addr} (ha : a ∈ m) : ∃ us, H a = some (.lst us) := by
  obtain ⟨l, hl, e⟩ := List.getElem_of_mem ha
  have e1 : m[l]? = some a := by rw [List.getElem?_eq_getElem hl, e]
  have hl2 : l < h.length := by rw [← r.len]; exact hl
  cases hc : h[l] with
  | lst xs =>
    obtain ⟨us, h1, _⟩ := r.cell l a xs e1 (by rw [List.getElem?_eq_getElem hl2, hc])
    exact ⟨us, h1⟩
theorem RelH.fresh {K : PySem.W.Frag} {z m : List Addr} {H : Hp} {h : Hh} (r : RelH K z m H h) {p : Addr} (hp : H p = none) : p ∉ m ∧ p ∉ z := by
  constructor
  · intro hm
    obtain ⟨us, e⟩ := r.there hm
    rw [hp] at e; cases e
  · intro hz
    obtain ⟨⟨o, e⟩, _⟩ := r.zt p hz
    rw [hp] at e; cases e

/-- the slots -/
def RelS (K : PySem.W.Frag) (z m : List Addr) (H : Hp) (env : Env) (σ : L2.St) : Prop :=
  env.length = σ.length ∧ ∀ (i : Nat) (v : PV), env[i]? = some (some v) → ∃ x, σ[i]? = some (some x) ∧ Rep K z m H v x
section
variable {K : PySem.W.Frag} {z m m1 : List Addr} {H H1 : Hp} {env : Env} {σ : L2.St}
theorem RelS.keep {z1 : List Addr} (e : Kept K z m H z1 m1 H1) (r : RelS K z m H env σ) : RelS K z1 m1 H1 env σ :=
  ⟨r.1, fun i v h => let ⟨x, h1, h2⟩ := r.2 i v h; ⟨x, h1, h2.keep e⟩⟩
theorem RelS.set (r : RelS K z m H env σ) {i : Nat} {v : PV} {x : V} (h : Rep K z m H v x) : RelS K z m H (env.set i (some v)) (σ.set i (some x)) := by
  refine ⟨by simpa using r.1, fun j w e => ?_⟩
  by_cases hj : i = j
  · subst hj
    rw [List.getElem?_set] at e
    simp only [if_true] at e
    split at e
    · rename_i hl
      cases e
      exact ⟨x, by rw [List.getElem?_set_self (by rw [← r.1]; exact hl)], h⟩
    · cases e
  · rw [List.getElem?_set_ne hj] at e
    obtain ⟨y, h1, h2⟩ := r.2 j w e
    exact ⟨y, by rw [List.getElem?_set_ne hj]; exact h1, h2⟩
theorem wipe_len (env : Env) : ∀ vs : List Nat, (Ev.wipe env vs).length = env.length
  | [] => rfl
  | v :: vs => by simp [Ev.wipe, wipe_len env vs]
theorem RelS.wipe (r : RelS K z m H env σ) : ∀ (vs : List Nat), RelS K z m H (Ev.wipe env vs) (L2.wipe σ vs)
  | [] => r
  | v :: vs => by
    have q := RelS.wipe r vs
    refine ⟨by simpa [Ev.wipe, L2.wipe] using q.1, fun j w e => ?_⟩
    simp only [Ev.wipe, L2.wipe] at e ⊢
    by_cases hj : v = j
    · subst hj
      rw [List.getElem?_set] at e
      simp only [if_true] at e
      split at e
      · cases e
      · cases e
    · rw [List.getElem?_set_ne hj] at e ⊢
      exact q.2 j w e
end
theorem RelH.keepNew {K : PySem.W.Frag} {z m : List Addr} {H : Hp} {h : Hh} (r : RelH K z m H h) {p : Addr} {o : HO} (hp : H p = none) : RelH K z m (upd H p o) h := by
  have k : Kept K z m H z m (upd H p o) := (Ext.new hp).keeps
  refine ⟨r.nd, r.len, fun l a xs h1 h2 => ?_, fun a ha => ?_⟩
  · obtain ⟨us, e1, e2, e3⟩ := r.cell l a xs h1 h2
    exact ⟨us, by rw [upd_ne (ne_of_none e1 hp)]; exact e1, e2, e3.keep k⟩
  · obtain ⟨⟨o', e⟩, n⟩ := r.zt a ha
    exact ⟨⟨o', by rw [upd_ne (ne_of_none e hp)]; exact e⟩, n⟩
end Ev
end

section
/-! EvOps: what the machine's operators, built-ins and methods do with plain data. -/
set_option autoImplicit false
set_option linter.all false
set_option Elab.async false
set_option maxRecDepth 100000
namespace Ev
open PySem L2 PyProof.Rows

mutual
def D.py : D → PyData
  | .none => .none
  | .bool b => .bool b
  | .int i => .int i
  | .str s => .str ⟨s.toArray⟩
  | .list xs => .list (D.pys xs)
  | .tup xs => .tuple (D.pys xs)
def D.pys : List D → List PyData
  | [] => []
  | x :: xs => D.py x :: D.pys xs
end
theorem D.pys_map : ∀ xs : List D, D.pys xs = xs.map D.py
  | [] => rfl
  | x :: xs => by rw [D.pys, D.pys_map xs]; rfl
mutual
theorem D.plain : ∀ x : D, x.py.plain = true
  | .none => rfl
  | .bool _ => rfl
  | .int _ => rfl
  | .str _ => rfl
  | .list xs => by rw [D.py, PyData.plain]; exact D.plains xs
  | .tup xs => by rw [D.py, PyData.plain]; exact D.plains xs
theorem D.plains : ∀ xs : List D, PyData.plainAll (D.pys xs) = true
  | [] => rfl
  | x :: xs => by rw [D.pys, PyData.plainAll, D.plain x, D.plains xs]; rfl
end
mutual
theorem D.py_eqv : ∀ x y : D, PyData.eqv x.py y.py = D.eqv x y
  | .none, y => by cases y <;> simp [D.py, PyData.eqv, D.eqv]
  | .bool _, y => by cases y <;> simp [D.py, PyData.eqv, D.eqv]
  | .int _, y => by cases y <;> simp [D.py, PyData.eqv, D.eqv]
  | .str s, y => by
    cases y with
    | str t => simp only [D.py, PyData.eqv, D.eqv]; rw [Bool.eq_iff_iff]; simp
    | _ => simp [D.py, PyData.eqv, D.eqv]
  | .list xs, y => by
    cases y with
    | list ys => simp only [D.py, PyData.eqv, D.eqv]; exact D.pys_eqv xs ys
    | _ => simp [D.py, PyData.eqv, D.eqv]
  | .tup xs, y => by
    cases y with
    | tup ys => simp only [D.py, PyData.eqv, D.eqv]; exact D.pys_eqv xs ys
    | _ => simp [D.py, PyData.eqv, D.eqv]
theorem D.pys_eqv : ∀ xs ys : List D, PyData.eqvAll (D.pys xs) (D.pys ys) = D.eqvs xs ys
  | [], [] => rfl
  | [], _ :: _ => rfl
  | _ :: _, [] => rfl
  | x :: xs, y :: ys => by simp only [D.pys, PyData.eqvAll, D.eqvs, D.py_eqv x y, D.pys_eqv xs ys]
end
mutual
theorem D.shal_depth : ∀ (x : D) (n : Nat), x.shal n = true → x.py.depth ≤ n
  | .none, _, _ => Nat.zero_le _
  | .bool _, _, _ => Nat.zero_le _
  | .int _, _, _ => Nat.zero_le _
  | .str _, _, _ => Nat.zero_le _
  | .list xs, 0, h => by simp [D.shal] at h
  | .list xs, n + 1, h => by
    rw [D.shal] at h
    rw [D.py, PyData.depth]
    exact Nat.succ_le_succ (D.shals_depth xs n h)
  | .tup xs, 0, h => by simp [D.shal] at h
  | .tup xs, n + 1, h => by
    rw [D.shal] at h
    rw [D.py, PyData.depth]
    exact Nat.succ_le_succ (D.shals_depth xs n h)
theorem D.shals_depth : ∀ (xs : List D) (n : Nat), D.shals xs n = true → PyData.depthAll (D.pys xs) ≤ n
  | [], _, _ => Nat.zero_le _
  | x :: xs, n, h => by
    rw [D.shals, Bool.and_eq_true] at h
    rw [D.pys, PyData.depthAll]
    exact Nat.max_le.mpr ⟨D.shal_depth x n h.1, D.shals_depth xs n h.2⟩
end
theorem near_depth {a b : D} (h : near a b = true) : min a.py.depth b.py.depth ≤ 60 := by
  rw [near, Bool.or_eq_true] at h
  rcases h with h | h
  · exact Nat.le_trans (Nat.min_le_left _ _) (D.shal_depth a 60 h)
  · exact Nat.le_trans (Nat.min_le_right _ _) (D.shal_depth b 60 h)
theorem near_in {a : D} {ys : List D} (h : near a (.list ys) = true ∨ near a (.tup ys) = true) : min (PyData.depthAll (D.pys ys)) a.py.depth ≤ 60 := by
  have k : a.py.depth ≤ 60 ∨ PyData.depthAll (D.pys ys) + 1 ≤ 60 := by
    rcases h with h | h
    · rw [near, Bool.or_eq_true] at h
      rcases h with h | h
      · exact .inl (D.shal_depth a 60 h)
      · have q := D.shal_depth _ 60 h
        rw [D.py, PyData.depth] at q
        exact .inr q
    · rw [near, Bool.or_eq_true] at h
      rcases h with h | h
      · exact .inl (D.shal_depth a 60 h)
      · have q := D.shal_depth _ 60 h
        rw [D.py, PyData.depth] at q
        exact .inr q
  omega

section
variable {K : PySem.W.Frag} {z m : List Addr} {H : Hp}
mutual
theorem RepD.dp : ∀ {x : D} {v : V}, RepD K z m H x v → Dp K H v x.py
  | .none, _, h => by rw [RepD] at h; subst h; rw [D.py]; exact .non
  | .bool _, _, h => by rw [RepD] at h; subst h; rw [D.py]; exact .bl _
  | .int _, _, h => by rw [RepD] at h; subst h; rw [D.py]; exact .int _
  | .str _, _, h => by rw [RepD] at h; subst h; rw [D.py]; exact .str _
  | .list xs, _, h => by
    rw [RepD] at h
    obtain ⟨a, us, rfl, h2, h3, h4⟩ := h
    rw [D.py]
    exact .lst h2.sq (RepDs.dp h4)
  | .tup xs, _, h => by
    rw [RepD] at h
    obtain ⟨a, us, rfl, h2, h3, h4⟩ := h
    rw [D.py]
    exact .tup h2.sq (RepDs.dp h4)
theorem RepDs.dp : ∀ {xs : List D} {us : List V}, RepDs K z m H xs us → DpAll K H us (D.pys xs)
  | [], _, h => by rw [RepDs] at h; subst h; rw [D.pys]; exact .nil
  | x :: xs, _, h => by
    rw [RepDs] at h
    obtain ⟨u, r, rfl, h2, h3⟩ := h
    rw [D.pys]
    exact .cons (RepD.dp h2) (RepDs.dp h3)
end
/-- a value as a list or a tuple of data -/
theorem deref_seq {h : Hh} {v : PV} {x : V} {d : D} (rh : RelH K z m H h) (r : Rep K z m H v x) (e : deref h v = some d) : Dp K H x d.py := by
  cases v with
  | d y => simp only [deref, Option.some.injEq] at e; subst e; exact RepD.dp r
  | ref l =>
    obtain ⟨a, rfl, ha⟩ := r
    simp only [deref] at e
    cases hc : h[l]? with
    | none => rw [hc] at e; simp at e
    | some c =>
      cases c with
      | lst xs =>
        rw [hc] at e
        simp only [Option.map_eq_some_iff] at e
        obtain ⟨ds, e1, rfl⟩ := e
        obtain ⟨us, h1, h2, h3⟩ := rh.cell l a xs ha hc
        rw [D.py]
        exact .lst (.inl (.inl h1)) (RepDs.dp (h3.ds e1))
  | dict kvs => simp [deref] at e
  | scr _ => simp [deref] at e
/-- .. as a list -/
theorem deref_list {h : Hh} {v : PV} {x : V} {xs : List D} (rh : RelH K z m H h) (r : Rep K z m H v x) (e : deref h v = some (.list xs)) : ∃ a us, x = .ref a ∧ SqL K H a us ∧ us.length ≤ sizeLine ∧ RepDs K z m H xs us := by
  cases v with
  | d y =>
    simp only [deref, Option.some.injEq] at e; subst e
    rw [Rep, RepD] at r
    obtain ⟨a, us, h1, h2, h3, h4⟩ := r
    exact ⟨a, us, h1, h2.sq, h3, h4⟩
  | ref l =>
    obtain ⟨a, rfl, ha⟩ := r
    simp only [deref] at e
    cases hc : h[l]? with
    | none => rw [hc] at e; simp at e
    | some c =>
      cases c with
      | lst ys =>
        rw [hc] at e
        simp only [Option.map_eq_some_iff] at e
        obtain ⟨ds, e1, e2⟩ := e
        cases e2
        obtain ⟨us, h1, h2, h3⟩ := rh.cell l a ys ha hc
        exact ⟨a, us, rfl, .inl (.inl h1), h2, h3.ds e1⟩
  | dict kvs => simp [deref] at e
  | scr _ => simp [deref] at e
theorem deref_tup {h : Hh} {v : PV} {x : V} {xs : List D} (rh : RelH K z m H h) (r : Rep K z m H v x) (e : deref h v = some (.tup xs)) : ∃ a us, x = .ref a ∧ TupAt K z m H a us ∧ us.length ≤ sizeLine ∧ RepDs K z m H xs us := by
  cases v with
  | d y =>
    simp only [deref, Option.some.injEq] at e; subst e
    rw [Rep, RepD] at r
    exact r
  | ref l =>
    simp only [deref] at e
    cases hc : h[l]? with
    | none => rw [hc] at e; simp at e
    | some c =>
      cases c with
      | lst ys =>
        rw [hc] at e
        simp only [Option.map_eq_some_iff] at e
        obtain ⟨ds, e1, e2⟩ := e
        cases e2
  | dict kvs => simp [deref] at e
  | scr _ => simp [deref] at e
end

/-- the end of a value's way -/
def Post (K : PySem.W.Frag) (z m : List Addr) (H : Hp) (Q : VK) (v : PV) (h : Hh) : Prop :=
  ∀ m' H' x, Ext m H m' H' → RelH K z m' H' h → Rep K z m' H' v x → Q x H'
theorem Post.here {K : PySem.W.Frag} {z m : List Addr} {H : Hp} {Q : VK} {v : PV} {h : Hh} {x : V} (p : Post K z m H Q v h) (rh : RelH K z m H h) (r : Rep K z m H v x) : Q x H := p m H x (Ext.refl _ _) rh r
/-- a new tuple, a new list -/
theorem Post.tup {K : PySem.W.Frag} {z m : List Addr} {H : Hp} {Q : VK} {xs : List D} {h : Hh} {us : List V} (p : Post K z m H Q (.d (.tup xs)) h) (rh : RelH K z m H h) (r : RepDs K z m H xs us) (hl : us.length ≤ sizeLine) {q : Addr} (hq : H q = none) : Q (.ref q) (upd H q (.tup us)) := by
  refine p m _ _ (Ext.new hq) (rh.keepNew hq) ?_
  rw [Rep, RepD]
  exact ⟨q, us, rfl, .inl ⟨.inl upd_same, rh.fresh hq⟩, hl, RepDs.keep (Ext.new hq).keeps r⟩
theorem Post.lst {K : PySem.W.Frag} {z m : List Addr} {H : Hp} {Q : VK} {xs : List D} {h : Hh} {us : List V} (p : Post K z m H Q (.d (.list xs)) h) (rh : RelH K z m H h) (r : RepDs K z m H xs us) (hl : us.length ≤ sizeLine) {q : Addr} (hq : H q = none) : Q (.ref q) (upd H q (.lst us)) := by
  refine p m _ _ (Ext.new hq) (rh.keepNew hq) ?_
  rw [Rep, RepD]
  exact ⟨q, us, rfl, ⟨upd_same, rh.fresh hq⟩, hl, RepDs.keep (Ext.new hq).keeps r⟩

/-- an operator on values -/
def R2of (K : PySem.W.Frag) (f : Hh → PV → PV → Option PV) : R2 := fun x y H Q => ∃ a b h z m v, Rep K z m H a x ∧ Rep K z m H b y ∧ RelH K z m H h ∧ f h a b = some v ∧ Post K z m H Q v h

section
variable {X : Cx}
theorem units_of {k : Nat} (hr : Room k X.A) : X.A.units + 200 < cLine := by have := hr.un; omega

theorem opr_eq {k : Nat} (hr : Room k X.A) : OpR X (compareOp .Eq) (R2of X.K fun h a b => (cmpop h .eq a b).map fun r => .d (.bool r)) := by
  intro pins s σ H x y v u Q I rx ry q
  obtain ⟨a, b, h, z, m, w, ha, hb, rh, e, p⟩ := q
  simp only [cmpop] at e
  cases e1 : deref h a with
  | none => simp [e1] at e
  | some d1 =>
    cases e2 : deref h b with
    | none => simp [e1, e2] at e
    | some d2 =>
      simp only [e1, e2] at e
      by_cases hn : near d1 d2 = true
      · simp only [hn, if_true, Option.map_some, Option.some.injEq] at e
        subst e
        obtain ⟨as, r1⟩ := Dp.reads I _ _ _ (deref_seq rh ha e1) rx
        obtain ⟨bs, r2⟩ := Dp.reads I _ _ _ (deref_seq rh hb e2) ry
        refine SeqAt.eq_plain r1 r2 (D.plain _) (D.plain _) (by have := near_depth hn; have := units_of hr; omega) ?_
        exact ⟨.bl _, H, I, rfl, p.here rh (by rw [D.py_eqv]; rfl)⟩
      · simp [hn] at e
theorem opr_ne {k : Nat} (hr : Room k X.A) : OpR X (compareOp .NotEq) (R2of X.K fun h a b => (cmpop h .ne a b).map fun r => .d (.bool r)) := by
  intro pins s σ H x y v u Q I rx ry q
  obtain ⟨a, b, h, z, m, w, ha, hb, rh, e, p⟩ := q
  simp only [cmpop] at e
  cases e1 : deref h a with
  | none => simp [e1] at e
  | some d1 =>
    cases e2 : deref h b with
    | none => simp [e1, e2] at e
    | some d2 =>
      simp only [e1, e2] at e
      by_cases hn : near d1 d2 = true
      · simp only [hn, if_true, Option.map_some, Option.some.injEq] at e
        subst e
        obtain ⟨as, r1⟩ := Dp.reads I _ _ _ (deref_seq rh ha e1) rx
        obtain ⟨bs, r2⟩ := Dp.reads I _ _ _ (deref_seq rh hb e2) ry
        refine SeqAt.ne_plain r1 r2 (D.plain _) (D.plain _) (by have := near_depth hn; have := units_of hr; omega) ?_
        exact ⟨.bl _, H, I, rfl, p.here rh (by rw [D.py_eqv]; rfl)⟩
      · simp [hn] at e

theorem dp_list {K : PySem.W.Frag} {H : Hp} {v : V} {ds : List PyData} (h : Dp K H v (.list ds)) : True := trivial
theorem opr_in {k : Nat} (hr : Room k X.A) (neg : Bool) : OpR X (compareOp (if neg then .NotIn else .In)) (R2of X.K fun h a b => (cmpop h (if neg then .notin else .isin) a b).map fun r => .d (.bool r)) := by
  intro pins s σ H x y v u Q I rx ry q
  obtain ⟨a, b, h, z, m, w, ha, hb, rh, e, p⟩ := q
  have e' : (isin h a b).map (fun r => PV.d (.bool (if neg then !r else r))) = some w := by
    cases neg
    · simpa [cmpop] using e
    · simp only [cmpop, if_true, Option.map_map] at e
      exact e
  clear e
  have hu := units_of hr
  have key : ∀ (d1 d2 : D) (r : Bool), deref h a = some d1 → deref h b = some d2 → isinD d1 d2 = some r → PV.d (.bool (if neg then !r else r)) = w →
      wpAny (model X.prog X.w) X.A (compareOp (if neg then .NotIn else .In) v u) (EP X pins σ Q) X.xe s := by
    intro d1 d2 r e1 e2 e3 e4
    subst e4
    obtain ⟨as, r1⟩ := Dp.reads I _ _ _ (deref_seq rh ha e1) rx
    obtain ⟨bs, r2⟩ := Dp.reads I _ _ _ (deref_seq rh hb e2) ry
    have fin : EP X pins σ Q (.bool (if neg then !r else r)) s := ⟨.bl _, H, I, rfl, p.here rh rfl⟩
    cases d2 with
    | list ys =>
      simp only [isinD] at e3
      by_cases hn : near d1 (.list ys) = true
      · simp only [hn, if_true, Option.some.injEq] at e3
        have hd := near_in (.inl hn)
        rw [D.py] at r2
        have eq : ((D.pys ys).any fun y => PyData.eqv y d1.py) = r := by
          rw [← e3, D.pys_map, List.any_map]
          congr 1
          funext y
          exact D.py_eqv y d1
        cases neg
        · exact SeqAt.in_list_data r2 r1 (D.plains _) (D.plain _) (by omega) (by rw [eq]; exact fin)
        · exact SeqAt.notIn_list_data r2 r1 (D.plains _) (D.plain _) (by omega) (by rw [eq]; exact fin)
      · simp [hn] at e3
    | tup ys =>
      simp only [isinD] at e3
      by_cases hn : near d1 (.tup ys) = true
      · simp only [hn, if_true, Option.some.injEq] at e3
        have hd := near_in (.inr hn)
        rw [D.py] at r2
        have eq : ((D.pys ys).any fun y => PyData.eqv y d1.py) = r := by
          rw [← e3, D.pys_map, List.any_map]
          congr 1
          funext y
          exact D.py_eqv y d1
        cases neg
        · exact SeqAt.in_tuple_data r2 r1 (D.plains _) (D.plain _) (by omega) (by rw [eq]; exact fin)
        · exact SeqAt.notIn_tuple_data r2 r1 (D.plains _) (D.plain _) (by omega) (by rw [eq]; exact fin)
      · simp [hn] at e3
    | str t =>
      cases d1 with
      | str l =>
        match l, e3 with
        | [c], e3 =>
          simp only [isinD, Option.some.injEq] at e3
          have hx : x = .str ⟨#[c]⟩ := by
            cases a with
            | d y => simp only [deref, Option.some.injEq] at e1; subst e1; simpa [Rep, RepD] using ha
            | ref l => simp only [deref] at e1; split at e1 <;> simp at e1
            | dict _ => simp [deref] at e1
            | scr _ => simp [deref] at e1
          have hy : y = .str ⟨t.toArray⟩ := by
            cases b with
            | d y => simp only [deref, Option.some.injEq] at e2; subst e2; simpa [Rep, RepD] using hb
            | ref l => simp only [deref] at e2; split at e2 <;> simp at e2
            | dict _ => simp [deref] at e2
            | scr _ => simp [deref] at e2
          have ec : decide (c ∈ (⟨t.toArray⟩ : Str).cps.toList) = r := by
            rw [← e3, Bool.eq_iff_iff]
            simp
          cases neg
          · exact op_in_sign pins s σ H x y v u Q I rx ry ⟨c, _, hx, hy, by rw [ec]; exact p.here rh rfl⟩
          · exact op_notIn_sign pins s σ H x y v u Q I rx ry ⟨c, _, hx, hy, by rw [ec]; exact p.here rh rfl⟩
      | _ => simp [isinD] at e3
    | _ => simp [isinD] at e3
  cases b with
  | dict kvs =>
    obtain ⟨_, _, f⟩ := hb
    exact f.elim
  | scr _ =>
    simp only [isin, deref] at e'
    split at e' <;> simp at e'
  | d y =>
    simp only [isin] at e'
    cases e1 : deref h a with
    | none => simp [e1] at e'
    | some d1 =>
      have e2 : deref h (.d y) = some y := rfl
      rw [e1, e2] at e'
      simp only [Option.map_eq_some_iff] at e'
      obtain ⟨r, e3, e4⟩ := e'
      exact key d1 y r e1 rfl e3 e4
  | ref l =>
    simp only [isin] at e'
    cases e1 : deref h a with
    | none => simp [e1] at e'
    | some d1 =>
      cases e2 : deref h (.ref l) with
      | none => simp [e1, e2] at e'
      | some d2 =>
        simp only [e1, e2, Option.map_eq_some_iff] at e'
        obtain ⟨r, e3, e4⟩ := e'
        exact key d1 d2 r e1 e2 e3 e4

theorem ltStr_iff : ∀ s t : List Nat, ltStr s t = decide (s < t)
  | [], [] => by simp [ltStr]
  | [], _ :: _ => by simp [ltStr]
  | _ :: _, [] => by simp [ltStr]
  | a :: as, b :: bs => by
    simp only [ltStr]
    by_cases e : a = b
    · subst e
      simp [ltStr_iff as bs, List.cons_lt_cons_iff]
    · simp [e, List.cons_lt_cons_iff]
/-- int comparisons and < of texts -/
def cmOp : Cm → CmpOp
  | .eq => .Eq | .ne => .NotEq | .lt => .Lt | .le => .LtE | .gt => .Gt | .ge => .GtE | .isin => .In | .notin => .NotIn
theorem opr_cmp {k : Nat} (hr : Room k X.A) (o : Cm) : OpR X (compareOp (cmOp o)) (R2of X.K fun h a b => (cmpop h o a b).map fun r => .d (.bool r)) := by
  cases o with
  | eq => exact opr_eq hr
  | ne => exact opr_ne hr
  | isin => exact opr_in hr false
  | notin => exact opr_in hr true
  | lt =>
    intro pins s σ H x y v u Q I rx ry q
    obtain ⟨a, b, h, z, m, w, ha, hb, rh, e, p⟩ := q
    match a, b, ha, hb, e with
    | .d (.int i), .d (.int j), ha, hb, e =>
      simp only [cmpop, ltD, Option.map_some, Option.some.injEq] at e
      subst e
      exact op_lt pins s σ H x y v u Q I rx ry ⟨i, j, by simpa [Rep, RepD] using ha, by simpa [Rep, RepD] using hb, p.here rh rfl⟩
    | .d (.str i), .d (.str j), ha, hb, e =>
      simp only [cmpop, ltD, Option.map_some, Option.some.injEq] at e
      subst e
      exact op_lt_str pins s σ H x y v u Q I rx ry ⟨_, _, by simpa [Rep, RepD] using ha, by simpa [Rep, RepD] using hb, p.here rh (by rw [ltStr_iff]; rfl)⟩
    | .d (.none), .d _, _, _, e => simp [cmpop, ltD] at e
    | .d (.bool _), .d _, _, _, e => simp [cmpop, ltD] at e
    | .d (.list _), .d _, _, _, e => simp [cmpop, ltD] at e
    | .d (.tup _), .d _, _, _, e => simp [cmpop, ltD] at e
    | .d (.int _), .d (.none), _, _, e => simp [cmpop, ltD] at e
    | .d (.int _), .d (.bool _), _, _, e => simp [cmpop, ltD] at e
    | .d (.int _), .d (.str _), _, _, e => simp [cmpop, ltD] at e
    | .d (.int _), .d (.list _), _, _, e => simp [cmpop, ltD] at e
    | .d (.int _), .d (.tup _), _, _, e => simp [cmpop, ltD] at e
    | .d (.str _), .d (.none), _, _, e => simp [cmpop, ltD] at e
    | .d (.str _), .d (.bool _), _, _, e => simp [cmpop, ltD] at e
    | .d (.str _), .d (.int _), _, _, e => simp [cmpop, ltD] at e
    | .d (.str _), .d (.list _), _, _, e => simp [cmpop, ltD] at e
    | .d (.str _), .d (.tup _), _, _, e => simp [cmpop, ltD] at e
    | .d _, .ref _, _, _, e => simp [cmpop] at e
    | .d _, .dict _, _, _, e => simp [cmpop] at e
    | .d _, .scr _, _, _, e => simp [cmpop] at e
    | .scr _, _, _, _, e => simp [cmpop] at e
    | .ref _, _, _, _, e => simp [cmpop] at e
    | .dict _, _, _, _, e => simp [cmpop] at e
  | le =>
    intro pins s σ H x y v u Q I rx ry q
    obtain ⟨a, b, h, z, m, w, ha, hb, rh, e, p⟩ := q
    simp only [cmpop] at e
    split at e
    · simp only [Option.map_some, Option.some.injEq] at e
      subst e
      exact op_le pins s σ H x y v u Q I rx ry ⟨_, _, by simpa [Rep, RepD] using ha, by simpa [Rep, RepD] using hb, p.here rh rfl⟩
    · simp at e
  | gt =>
    intro pins s σ H x y v u Q I rx ry q
    obtain ⟨a, b, h, z, m, w, ha, hb, rh, e, p⟩ := q
    simp only [cmpop] at e
    split at e
    · simp only [Option.map_some, Option.some.injEq] at e
      subst e
      exact op_gt pins s σ H x y v u Q I rx ry ⟨_, _, by simpa [Rep, RepD] using ha, by simpa [Rep, RepD] using hb, p.here rh rfl⟩
    · simp at e
  | ge =>
    intro pins s σ H x y v u Q I rx ry q
    obtain ⟨a, b, h, z, m, w, ha, hb, rh, e, p⟩ := q
    simp only [cmpop] at e
    split at e
    · simp only [Option.map_some, Option.some.injEq] at e
      subst e
      exact op_ge pins s σ H x y v u Q I rx ry ⟨_, _, by simpa [Rep, RepD] using ha, by simpa [Rep, RepD] using hb, p.here rh rfl⟩
    · simp at e

theorem Rep.str {K : PySem.W.Frag} {z m : List Addr} {H : Hp} {t : List Nat} {x : V} (h : Rep K z m H (.d (.str t)) x) : x = .str ⟨t.toArray⟩ := by simpa [Rep, RepD] using h
theorem Rep.int {K : PySem.W.Frag} {z m : List Addr} {H : Hp} {i : Int} {x : V} (h : Rep K z m H (.d (.int i)) x) : x = .int i := by simpa [Rep, RepD] using h
theorem Rep.tup {K : PySem.W.Frag} {z m : List Addr} {H : Hp} {xs : List D} {x : V} (h : Rep K z m H (.d (.tup xs)) x) : ∃ a us, x = .ref a ∧ TupAt K z m H a us ∧ us.length ≤ sizeLine ∧ RepDs K z m H xs us := by rwa [Rep, RepD] at h
theorem Rep.list {K : PySem.W.Frag} {z m : List Addr} {H : Hp} {xs : List D} {x : V} (h : Rep K z m H (.d (.list xs)) x) : ∃ a us, x = .ref a ∧ LstAt K z m H a us ∧ us.length ≤ sizeLine ∧ RepDs K z m H xs us := by rwa [Rep, RepD] at h
theorem lim_size : LIM = sizeLine := by rw [sizeLine_eq]
theorem CMul.of {i j : Int} (h : (bigInt i || bigInt j) = true) : CMul i j := by
  rw [Bool.or_eq_true] at h
  rcases h with h | h
  · simp only [bigInt, Bool.and_eq_true, decide_eq_true_eq] at h
    exact .inl h
  · simp only [bigInt, Bool.and_eq_true, decide_eq_true_eq] at h
    exact .inr h



/-- a list of data, whatever it is -/
theorem deref_mut {K : PySem.W.Frag} {z m : List Addr} {H : Hp} {h : Hh} {v : PV} {x : V} {xs : List D} (rh : RelH K z m H h) (r : Rep K z m H v x) (e : deref h v = some (.list xs)) : ∃ a us, x = .ref a ∧ H a = some (.lst us) ∧ us.length ≤ sizeLine ∧ RepDs K z m H xs us := by
  cases v with
  | d y =>
    simp only [deref, Option.some.injEq] at e; subst e
    obtain ⟨a, us, h1, h2, h3, h4⟩ := Rep.list r
    exact ⟨a, us, h1, h2.1, h3, h4⟩
  | ref l =>
    obtain ⟨a, rfl, ha⟩ := r
    simp only [deref] at e
    cases hc : h[l]? with
    | none => rw [hc] at e; simp at e
    | some c =>
      cases c with
      | lst ys =>
        rw [hc] at e
        simp only [Option.map_eq_some_iff] at e
        obtain ⟨ds, e1, e2⟩ := e
        cases e2
        obtain ⟨us, h1, h2, h3⟩ := rh.cell l a ys ha hc
        exact ⟨a, us, rfl, h1, h2, h3.ds e1⟩
  | dict kvs => simp [deref] at e
  | scr _ => simp [deref] at e
theorem addL (h : Hh) (a b : PV) {v : PV} {xs ys : List D} (e1 : deref h a = some (.list xs)) (e2 : deref h b = some (.list ys)) : True := trivial
theorem opr_cat {h : Hh} {z m : List Addr} {H : Hp} {s : Shared} {pins : List (Addr × Obj)} {σ : L2.St} {x y : V} {v u : Value} {Q : VK} {a b : PV} {xs ys : List D} (I : Inv X pins σ H s) (rx : RelV x v) (ry : RelV y u) (rh : RelH X.K z m H h)
    (ha : Rep X.K z m H a x) (hb : Rep X.K z m H b y) (e1 : deref h a = some (.list xs)) (e2 : deref h b = some (.list ys)) (hl : xs.length + ys.length ≤ LIM) (p : Post X.K z m H Q (.d (.list (xs ++ ys))) h) :
    wpAny (model X.prog X.w) X.A (binaryOp .Add v u) (EP X pins σ Q) X.xe s := by
  obtain ⟨l, us, ex, hl1, _, r1⟩ := deref_mut rh ha e1
  obtain ⟨l2, vs, ey, hl2, _, r2⟩ := deref_mut rh hb e2
  have n1 := r1.length
  have n2 := r2.length
  have hz : us.length + vs.length ≤ sizeLine := by rw [← n1, ← n2, ← lim_size]; exact hl
  exact op_cat pins s σ H x y v u Q I rx ry ⟨l, l2, us, vs, ex, ey, hl1, hl2, hz, fun q hq => p.lst rh (r1.append r2) (by rw [List.length_append]; exact hz) hq⟩

theorem mulSame (l : Addr) (ws : Array Value) (n : Nat) (dd : Option Addr) (sl : Array (Option Value)) (k : Int) (u : Tok)
    (c0 : (decide (k < -(2 ^ 63)) || decide (k ≥ 2 ^ 63)) = false) (c1 : (ws.isEmpty || k == 1) = true) :
    Meets (Builtin.«tuple.__mul__» ⟨[.ref l, .int k u], []⟩) (fun _ R s =>
      s.heap.get? l = some { cls := .type "tuple", dict := dd, data := .seq ws n, slots := sl } ∧ R (.ok (.ret (.ref l))) s) :=
  .of_wp fun prog w A R s h => by
    obtain ⟨hp, g, d, tk, os⟩ := s
    obtain ⟨there, h⟩ := h
    have f1 := AutoSeq1.idx_int
    wp_walk using wpAny_loadPart' there
    repeat (first
      | (refine wpAny_ite_false (decide_eq_false (by rw [c0]; exact Bool.false_ne_true)) ?_; wp_walk using wpAny_loadPart' there)
      | (refine wpAny_ite_true (decide_eq_true c1) ?_; wp_walk using wpAny_loadPart' there))
    exact ⟨_, rfl, h⟩
theorem mulNone (l : Addr) (ws : Array Value) (n : Nat) (dd : Option Addr) (sl : Array (Option Value)) (k : Int) (u : Tok)
    (c0 : (decide (k < -(2 ^ 63)) || decide (k ≥ 2 ^ 63)) = false) (c1 : (ws.isEmpty || k == 1) = false) (c2 : (decide (k ≤ 0) || ws.isEmpty) = true) :
    Meets (Builtin.«tuple.__mul__» ⟨[.ref l, .int k u], []⟩) (fun _ R s =>
      s.heap.get? l = some { cls := .type "tuple", dict := dd, data := .seq ws n, slots := sl } ∧
      R (.ok (.ret (.ref s.heap.objs.size))) { s with heap := s.heap.push { cls := .type "tuple", data := .seq #[] }, toks := s.toks }) :=
  .of_wp fun prog w A R s h => by
    obtain ⟨hp, g, d, tk, os⟩ := s
    obtain ⟨there, h⟩ := h
    have f1 := AutoSeq1.idx_int
    have hsz : (#[] : Array Value).size ≤ sizeLine := Nat.zero_le _
    wp_walk using wpAny_loadPart' there
    repeat (first
      | (refine wpAny_ite_false (decide_eq_false (by rw [c0]; exact Bool.false_ne_true)) ?_; wp_walk using wpAny_loadPart' there)
      | (refine wpAny_ite_false (decide_eq_false (by rw [c1]; exact Bool.false_ne_true)) ?_; wp_walk using wpAny_loadPart' there)
      | (refine wpAny_ite_true (decide_eq_true c2) ?_; wp_walk using wpAny_loadPart' there)
      | (refine wpAny_ite_false (decide_eq_false (Nat.not_lt.mpr hsz)) ?_; wp_walk using wpAny_loadPart' there))
    exact ⟨_, rfl, h⟩
theorem op_repS : OpR X (binaryOp .Mult) (fun x y H Q => ∃ l k xs, x = .ref l ∧ y = .int k ∧ SqT X.K H l xs ∧ k ≤ 1000 ∧ -1000 ≤ k ∧ ((k = 1 ∨ xs = []) ∧ Q (.ref l) H ∨ k ≤ 0 ∧ xs ≠ [] ∧ ∀ p, H p = none → Q (.ref p) (upd H p (.tup [])))) := by
  intro pins s σ H x y v u Q I rx ry h
  obtain ⟨l, k, xs, rfl, rfl, hT, h1, h2, q⟩ := h
  cases rx
  obtain ⟨t, rfl⟩ := ry
  obtain ⟨its, r, ⟨⟨cls, dd, data, sl⟩, ho, hc, n, hd⟩, hs⟩ := I.tuple hT
  simp only at hc hd
  subst hc hd
  have c0 : (decide (k < -(2 ^ 63)) || decide (k ≥ 2 ^ 63)) = false := by
    rw [decide_eq_false (by omega), decide_eq_false (by omega)]; rfl
  have he : its.toArray.isEmpty = xs.isEmpty := by cases r <;> simp
  rcases q with ⟨c, q⟩ | ⟨hk, hne, q⟩
  · have c1 : (its.toArray.isEmpty || k == 1) = true := by
      rw [he, Bool.or_eq_true]
      rcases c with c | c
      · exact .inr (by simpa using c)
      · exact .inl (by rw [c]; rfl)
    refine wpAny_binaryOp_repeat_ref (T := "tuple") (U := "int") (by decide) ⟨_, ho, rfl⟩ (fun s' => typeIs_int s' k t) noFill_tuple_mul F.fills_int_mul F.slot_int_rmul repeat_tuple F.slot_int_index.lookup
      (call_meets F.slot_int_rmul (typeIs_int s k t) F.entry_int_rmul (F.args_int_rmul_2 _ _) (int_rmul_tuple k t l its.toArray n dd sl)
        ⟨ho, rfl, ⟨_, ho, rfl⟩, call_meets F.slot_tuple_mul ⟨_, ho, rfl⟩ F.entry_tuple_mul (F.args_tuple_mul_2 _ _) (mulSame l its.toArray n dd sl k t c0 c1) ⟨ho, ?_⟩⟩)
    exact ⟨.ref l, H, I, rfl, q⟩
  · have hx : xs.isEmpty = false := by cases xs with
      | nil => exact absurd rfl hne
      | cons _ _ => rfl
    have c1 : (its.toArray.isEmpty || k == 1) = false := by
      rw [he, hx, Bool.false_or]; exact beq_eq_false_iff_ne.mpr (by omega)
    have c2 : (decide (k ≤ 0) || its.toArray.isEmpty) = true := by rw [decide_eq_true hk]; rfl
    refine wpAny_binaryOp_repeat_ref (T := "tuple") (U := "int") (by decide) ⟨_, ho, rfl⟩ (fun s' => typeIs_int s' k t) noFill_tuple_mul F.fills_int_mul F.slot_int_rmul repeat_tuple F.slot_int_index.lookup
      (call_meets F.slot_int_rmul (typeIs_int s k t) F.entry_int_rmul (F.args_int_rmul_2 _ _) (int_rmul_tuple k t l its.toArray n dd sl)
        ⟨ho, rfl, ⟨_, ho, rfl⟩, call_meets F.slot_tuple_mul ⟨_, ho, rfl⟩ F.entry_tuple_mul (F.args_tuple_mul_2 _ _) (mulNone l its.toArray n dd sl k t c0 c1 c2) ⟨ho, ?_⟩⟩)
    exact ⟨.ref s.heap.objs.size, _, I.laid (t' := s.toks) (o := .tup []) (fun b ob q => Heap.get?_push_of_some _ q) (Nat.le_refl _) ⟨Nat.zero_le _, [], .nil, IsTup.new _ _⟩, rfl, q _ (I.hok.fresh (Nat.le_refl _))⟩

theorem RepDs.rep {K : PySem.W.Frag} {z m : List Addr} {H : Hp} {xs : List D} {us : List V} (r : RepDs K z m H xs us) : ∀ n : Nat, RepDs K z m H (List.replicate n xs).flatten (List.replicate n us).flatten
  | 0 => by simp [RepDs]
  | n + 1 => by
    rw [List.replicate_succ, List.replicate_succ, List.flatten_cons, List.flatten_cons]
    exact r.append (RepDs.rep r n)
theorem flat_len {α : Type} (xs : List α) (n : Nat) : (List.replicate n xs).flatten.length = n * xs.length := by
  induction n with
  | zero => simp
  | succ n ih => rw [List.replicate_succ, List.flatten_cons, List.length_append, ih, Nat.succ_mul]; omega

def opOf : Op → Operator
  | .add => .Add | .sub => .Sub | .mul => .Mult | .fdiv => .FloorDiv | .mod => .Mod | .pow => .Pow | .shl => .LShift | .shr => .RShift
theorem opr_int {f : Value → Value → Sem Value} {C : Int → Int → Prop} {g : Int → Int → Int} {t : Int → Int → Option Int} (r : OpR X f (rI C fun i j => .int (g i j))) (ht : ∀ i j w, t i j = some w → C i j ∧ w = g i j) :
    OpR X f (R2of X.K fun _ a b => intOp t a b) := by
  intro pins s σ H x y v u Q I rx ry q
  obtain ⟨a, b, h, z, m, w, ha, hb, rh, e, p⟩ := q
  have e : intOp t a b = some w := e
  unfold intOp at e
  split at e
  · simp only [Option.map_eq_some_iff] at e
    obtain ⟨n, e1, rfl⟩ := e
    obtain ⟨c, rfl⟩ := ht _ _ _ e1
    exact r pins s σ H x y v u Q I rx ry ⟨_, _, ha.int, hb.int, c, p.here rh rfl⟩
  · cases e
theorem opr_bin (o : Op) : OpR X (binaryOp (opOf o)) (R2of X.K fun h a b => binop h o a b) := by
  have ls := lim_size
  cases o with
  | add =>
    intro pins s σ H x y v u Q I rx ry q
    obtain ⟨a, b, h, z, m, w, ha, hb, rh, e, p⟩ := q
    simp only [binop] at e
    have lists : ∀ {xs ys : List D}, deref h a = some (.list xs) → deref h b = some (.list ys) → (if xs.length + ys.length ≤ LIM then some (PV.d (.list (xs ++ ys))) else none) = some w → wpAny (model X.prog X.w) X.A (binaryOp .Add v u) (EP X pins σ Q) X.xe s := by
      intro xs ys e1 e2 e3
      by_cases hl : xs.length + ys.length ≤ LIM
      · rw [if_pos hl] at e3
        cases e3
        exact opr_cat I rx ry rh ha hb e1 e2 hl p
      · rw [if_neg hl] at e3; cases e3
    unfold addOp at e
    split at e
    · cases e
      exact op_add pins s σ H x y v u Q I rx ry ⟨_, _, ha.int, hb.int, p.here rh rfl⟩
    · rename_i s1 t1
      by_cases hl : s1.length + t1.length ≤ LIM
      · rw [if_pos hl] at e
        cases e
        refine op_add_str pins s σ H x y v u Q I rx ry ⟨_, _, ha.str, hb.str, ?_, p.here rh ?_⟩
        · rw [← ls]; simpa [Str.length] using hl
        · show V.str _ = V.str _
          congr 1
          show (⟨s1.toArray ++ t1.toArray⟩ : Str) = ⟨(s1 ++ t1).toArray⟩
          simp
      · rw [if_neg hl] at e; cases e
    · rename_i s1 t1
      by_cases hl : s1.length + t1.length ≤ LIM
      · rw [if_pos hl] at e
        cases e
        obtain ⟨l, us, ex, t, hu, r1⟩ := ha.tup
        obtain ⟨l2, vs, ey, t2, hv, r2⟩ := hb.tup
        have n1 := r1.length
        have n2 := r2.length
        have hz : us.length + vs.length ≤ sizeLine := by rw [← n1, ← n2, ← ls]; exact hl
        have out : ∀ {a : Addr} {ws : List V}, TupAt X.K z m H a ws → ws.length ≤ sizeLine → RepDs X.K z m H (s1 ++ t1) ws → Q (.ref a) H := fun {a ws} t hw r => p.here rh (by rw [Rep, RepD]; exact ⟨a, ws, rfl, t, hw, r⟩)
        refine op_catA pins s σ H x y v u Q I rx ry ⟨l, l2, us, vs, ex, ey, t.sq, t2.sq, hz, fun e => ?_, fun _ e => ?_, fun _ _ q hq => p.tup rh (r1.append r2) (by rw [List.length_append]; exact hz) hq⟩
        · have q := r1.append r2
          subst e
          exact out t2 hv q
        · have q := r1.append r2
          subst e
          rw [List.append_nil] at q
          exact out t hu q
      · rw [if_neg hl] at e; cases e
    · exact lists rfl rfl e
    · split at e
      · rename_i e1 e2
        exact lists e1 e2 e
      · cases e
    · split at e
      · rename_i e1 e2
        exact lists e1 e2 e
      · cases e
    · cases e
  | mul =>
    intro pins s σ H x y v u Q I rx ry q
    obtain ⟨a, b, h, z, m, w, ha, hb, rh, e, p⟩ := q
    simp only [binop] at e
    unfold mulOp at e
    split at e
    · rename_i i j
      by_cases hl : (bigInt i || bigInt j) = true
      · rw [if_pos hl] at e
        cases e
        exact op_mul pins s σ H x y v u Q I rx ry ⟨_, _, ha.int, hb.int, CMul.of hl, p.here rh rfl⟩
      · rw [if_neg hl] at e; cases e
    · rename_i s1 k
      by_cases hl : (decide (-1000 ≤ k) && decide (k ≤ 1000) && decide (s1.length ≤ 1000)) = true
      · rw [if_pos hl] at e
        cases e
        simp only [Bool.and_eq_true, decide_eq_true_eq] at hl
        obtain ⟨⟨k1, k2⟩, k3⟩ := hl
        obtain ⟨l, us, ex, t, hu, r1⟩ := ha.tup
        have n1 := r1.length
        have r2 := r1.rep k.toNat
        have hz : (List.replicate k.toNat us).flatten.length ≤ sizeLine := by
          have hs := sizeLine_eq
          rw [flat_len, ← n1]
          have : k.toNat * s1.length ≤ 1000 * 1000 := Nat.mul_le_mul (by omega) k3
          omega
        by_cases hx : us = []
        · subst hx
          refine op_repS pins s σ H x y v u Q I rx ry ⟨l, k, [], ex, hb.int, t.sq, k2, k1, .inl ⟨.inr rfl, p.here rh ?_⟩⟩
          rw [Rep, RepD]
          refine ⟨l, [], rfl, t, hu, ?_⟩
          simpa using r2
        by_cases h1 : k = 1
        · subst h1
          refine op_repS pins s σ H x y v u Q I rx ry ⟨l, 1, us, ex, hb.int, t.sq, k2, k1, .inl ⟨.inl rfl, p.here rh ?_⟩⟩
          rw [Rep, RepD]
          refine ⟨l, us, rfl, t, hu, ?_⟩
          simpa using r2
        by_cases h0 : k ≤ 0
        · refine op_repS pins s σ H x y v u Q I rx ry ⟨l, k, us, ex, hb.int, t.sq, k2, k1, .inr ⟨h0, hx, fun q hq => ?_⟩⟩
          have e0 : k.toNat = 0 := by omega
          rw [e0] at r2 p
          exact p.tup rh (us := []) (by simpa using r2) (Nat.zero_le _) hq
        · exact op_repT pins s σ H x y v u Q I rx ry ⟨l, k, us, ex, hb.int, t.sq, hx, by omega, k2, by omega, fun q hq => p.tup rh r2 hz hq⟩
      · rw [if_neg hl] at e; cases e
    · rename_i s1 k
      by_cases hl : (decide (-1000 ≤ k) && decide (k ≤ 1000) && decide (s1.length ≤ 1000)) = true
      · rw [if_pos hl] at e
        cases e
        simp only [Bool.and_eq_true, decide_eq_true_eq] at hl
        obtain ⟨⟨k1, k2⟩, k3⟩ := hl
        obtain ⟨l, us, ex, t, hu, r1⟩ := ha.list
        have n1 := r1.length
        have r2 := r1.rep k.toNat
        have hz : us.length * k.toNat ≤ sizeLine := by
          have hs := sizeLine_eq
          rw [← n1]
          have : s1.length * k.toNat ≤ 1000 * 1000 := Nat.mul_le_mul k3 (by omega)
          omega
        exact op_rep pins s σ H x y v u Q I rx ry ⟨l, k, us, ex, hb.int, t.1, by omega, by omega, hz, fun q hq => p.lst rh r2 (by rw [flat_len, Nat.mul_comm]; exact hz) hq⟩
      · rw [if_neg hl] at e; cases e
    · cases e
  | sub => exact opr_int (C := fun _ _ => True) (g := fun i j => i - j) (fun pins s σ H x y v u Q I rx ry q => by
      obtain ⟨i, j, h1, h2, _, q⟩ := q
      exact op_sub pins s σ H x y v u Q I rx ry ⟨i, j, h1, h2, q⟩) (fun i j w e => ⟨trivial, (Option.some.inj e).symm⟩)
  | fdiv => exact opr_int op_fdiv (fun i j w e => by
      by_cases hl : (decide (0 < j) && decide (j < 1073741824)) = true
      · rw [if_pos hl] at e
        simp only [Bool.and_eq_true, decide_eq_true_eq] at hl
        exact ⟨hl, (Option.some.inj e).symm⟩
      · rw [if_neg hl] at e; cases e)
  | mod => exact opr_int op_mod (fun i j w e => by
      by_cases hl : decide (0 < j) = true
      · rw [if_pos hl] at e
        exact ⟨of_decide_eq_true hl, (Option.some.inj e).symm⟩
      · rw [if_neg hl] at e; cases e)
  | pow => exact opr_int op_pow (fun i j w e => by
      by_cases hl : (decide (0 ≤ j) && decide (j ≤ 1000000) && decide (i.natAbs < 2 ^ 64)) = true
      · rw [if_pos hl] at e
        simp only [Bool.and_eq_true, decide_eq_true_eq] at hl
        exact ⟨⟨hl.1.1, hl.1.2, hl.2⟩, (Option.some.inj e).symm⟩
      · rw [if_neg hl] at e; cases e)
  | shl => exact opr_int op_shl (fun i j w e => by
      by_cases hl : (decide (0 ≤ j) && decide (j ≤ 1000000) && decide (i.natAbs < 2 ^ 64)) = true
      · rw [if_pos hl] at e
        simp only [Bool.and_eq_true, decide_eq_true_eq] at hl
        exact ⟨⟨hl.1.1, hl.1.2, hl.2⟩, (Option.some.inj e).symm⟩
      · rw [if_neg hl] at e; cases e)
  | shr => exact opr_int op_shr (fun i j w e => by
      by_cases hl : decide (0 ≤ j) = true
      · rw [if_pos hl] at e
        exact ⟨of_decide_eq_true hl, (Option.some.inj e).symm⟩
      · rw [if_neg hl] at e; cases e)
end
end Ev
end

section
/-! EvSnd: what the evaluator comes to, the machine comes to. -/
set_option autoImplicit false
set_option linter.all false
set_option Elab.async false
set_option maxRecDepth 100000
set_option maxHeartbeats 1000000
namespace Ev
open PySem L2 PyProof.Rows

/-- an exception without a word of its own -/
def XRep (XC : Nat → Option Addr) (c : Nat) (v : PV) (cls : Value) (d : Option Addr) : Prop := ∃ C, XC c = some C ∧ cls = .ref C ∧ d = none
section
variable (K : PySem.W.Frag) (XC : Nat → Option Addr)
/-- how a run ends: P of what it gives, E of what it raises -/
def Out {α : Type} (z m : List Addr) (H : Hp) (r : R α) (P : α → Hh → List Addr → Hp → Prop) (E : XK) : Prop := match r with
  | .ok a h' => ∀ m' H', Ext m H m' H' → RelH K z m' H' h' → P a h' m' H'
  | .exc c v h' => ∀ m' H' cls d, Ext m H m' H' → RelH K z m' H' h' → XRep XC c v cls d → E cls d H'
  | .stuck => False
end
section
variable {K : PySem.W.Frag} {XC : Nat → Option Addr} {z m m1 : List Addr} {H H1 : Hp} {E E' : XK}
theorem Out.mono {α : Type} {r : R α} {P : α → Hh → List Addr → Hp → Prop} (e : Ext m H m1 H1) (o : Out K XC z m H r P E) : Out K XC z m1 H1 r P E := by
  cases r with
  | ok a h' => exact fun m' H' e' rh => o m' H' (e.trans e') rh
  | exc c v h' => exact fun m' H' cls d e' rh x => o m' H' cls d (e.trans e') rh x
  | stuck => exact o
theorem Out.imp {α : Type} {r : R α} {P P' : α → Hh → List Addr → Hp → Prop} (o : Out K XC z m H r P E) (f : ∀ a h' m' H', Ext m H m' H' → RelH K z m' H' h' → P a h' m' H' → P' a h' m' H') : Out K XC z m H r P' E := by
  cases r with
  | ok a h' => exact fun m' H' e' rh => f a h' m' H' e' rh (o m' H' e' rh)
  | exc c v h' => exact o
  | stuck => exact o
theorem Out.bnd {α β : Type} {x : M α} {f : α → M β} {h : Hh} {P : β → Hh → List Addr → Hp → Prop} (o : Out K XC z m H (M.bnd x f h) P E) : Out K XC z m H (x h) (fun a h' m' H' => Out K XC z m' H' (f a h') P E) E := by
  unfold M.bnd at o
  cases e : x h with
  | ok a h' =>
    simp only [e] at o
    exact fun m' H' e' rh => o.mono e'
  | exc c v h' =>
    simp only [e] at o
    exact o
  | stuck =>
    simp only [e] at o
    exact o
theorem Out.lift {α : Type} {f : Hh → Option α} {h : Hh} {P : α → Hh → List Addr → Hp → Prop} (o : Out K XC z m H (M.lift f h) P E) : ∃ a, f h = some a ∧ ∀ m' H', Ext m H m' H' → RelH K z m' H' h → P a h m' H' := by
  unfold M.lift at o
  cases e : f h with
  | none => simp only [e] at o; exact o.elim
  | some a => simp only [e] at o; exact ⟨a, rfl, o⟩
theorem Out.ret {α : Type} {a : α} {h : Hh} {P : α → Hh → List Addr → Hp → Prop} (o : Out K XC z m H (M.ret a h) P E) : ∀ m' H', Ext m H m' H' → RelH K z m' H' h → P a h m' H' := o
theorem Out.calm {α : Type} {x : M α} {h : Hh} {P : α → Hh → List Addr → Hp → Prop} (o : Out K XC z m H (M.calm x h) P E) : Out K XC z m H (x h) P fun _ _ _ => False := by
  unfold M.calm at o
  cases e : x h with
  | ok a h' => simp only [e] at o; exact o
  | exc c v h' => simp only [e] at o; exact o.elim
  | stuck => simp only [e] at o; exact o
end

/-- the reading of an expression -/
def tE (K : PySem.W.Frag) (XC : Nat → Option Addr) (W : WX) (r : Env → M PV) : TE := fun σ H Q => ∃ env h z m, RelS K z m H env σ ∧ RelH K z m H h ∧
  Out K XC z m H (r env h) (fun v h' m' H' => ∀ x, Rep K z m' H' v x → Q x H') fun cls d H' => W cls d σ H'
def tEs (K : PySem.W.Frag) (XC : Nat → Option Addr) (W : WX) (r : Env → M (List PV)) : TA := fun σ H Q => ∃ env h z m, RelS K z m H env σ ∧ RelH K z m H h ∧
  Out K XC z m H (r env h) (fun vs h' m' H' => ∀ xs, Reps K z m' H' vs xs → Q xs H') fun cls d H' => W cls d σ H'
def tTt (K : PySem.W.Frag) (XC : Nat → Option Addr) (W : WX) (r : Env → M Bool) : TT := fun σ H Q => ∃ env h z m, RelS K z m H env σ ∧ RelH K z m H h ∧
  Out K XC z m H (r env h) (fun b h' m' H' => Q b H') fun cls d H' => W cls d σ H'
def tPo (K : PySem.W.Frag) (XC : Nat → Option Addr) (W : WX) (r : Env → M (Option Int)) : TO := fun σ H Q => ∃ env h z m, RelS K z m H env σ ∧ RelH K z m H h ∧
  Out K XC z m H (r env h) (fun o h' m' H' => Q o H') fun cls d H' => W cls d σ H'
/-- a value's truth -/
def tst (r : Env → M PV) : Env → M Bool := fun env => M.bnd (r env) fun x => M.lift fun h => truthy h x

theorem _root_.L2.PE.to {X : Cx} {e : Expr} {t t' : TE} (p : PE X e t) (h : ∀ σ H Q, t' σ H Q → t σ H Q) : PE X e t' := ⟨fun pins s σ H Q I q => p.run pins s σ H Q I (h σ H Q q)⟩
theorem _root_.L2.PT.to {X : Cx} {e : Expr} {t t' : TT} (p : PT X e t) (h : ∀ σ H Q, t' σ H Q → t σ H Q) : PT X e t' := ⟨fun pins s σ H Q I q => p.run pins s σ H Q I (h σ H Q q)⟩
theorem _root_.L2.PW.to {X : Cx} {e : Expr} {t t' : TT} (p : PW X e t) (h : ∀ σ H Q, t' σ H Q → t σ H Q) : PW X e t' := ⟨fun wh pins s σ H Q I q => p.run wh pins s σ H Q I (h σ H Q q)⟩
theorem _root_.L2.PA.to {X : Cx} {es : List Expr} {t t' : TA} (p : PA X es t) (h : ∀ σ H Q, t' σ H Q → t σ H Q) : PA X es t' := ⟨fun pos pins s σ H Q I q => p.run pos pins s σ H Q I (h σ H Q q)⟩
theorem _root_.L2.PS.to {X : Cx} {st : Stmt} {t t' : TS} (p : PS X st t) (h : ∀ D σ H, t' D σ H → t D σ H) : PS X st t' := ⟨fun pins s σ H D I q => p.run pins s σ H D I (h D σ H q)⟩
theorem _root_.L2.PSs.to {X : Cx} {st : List Stmt} {t t' : TS} (p : PSs X st t) (h : ∀ D σ H, t' D σ H → t D σ H) : PSs X st t' := ⟨fun pins s σ H D I q => p.run pins s σ H D I (h D σ H q)⟩
theorem _root_.L2.PI.to {X : Cx} {tg e : Expr} {t t' : TI} (p : PI X tg e t) (h : ∀ σ H Q, t' σ H Q → t σ H Q) : PI X tg e t' := ⟨fun pins s σ H Q I q => p.run pins s σ H Q I (h σ H Q q)⟩
theorem _root_.L2.PI.or {X : Cx} {tg e : Expr} {t t' : TI} (p : PI X tg e t) (p' : PI X tg e t') : PI X tg e (fun σ H R => t σ H R ∨ t' σ H R) := ⟨fun pins s σ H Q I q => q.elim (p.run pins s σ H Q I) (p'.run pins s σ H Q I)⟩
theorem _root_.L2.PE.or {X : Cx} {e : Expr} {t t' : TE} (p : PE X e t) (p' : PE X e t') : PE X e (fun σ H R => t σ H R ∨ t' σ H R) := ⟨fun pins s σ H Q I q => q.elim (p.run pins s σ H Q I) (p'.run pins s σ H Q I)⟩

/-- a def's promise: what its run comes to -/
def spEv (K : PySem.W.Frag) (XC : Nat → Option Addr) (np : Nat) (r : List PV → M PV) : Sp := fun vs H Q E => vs.length = np ∧ ∃ args h z m, Reps K z m H args vs ∧ RelH K z m H h ∧
  Out K XC z m H (r args h) (fun v h' m' H' => ∀ x, Rep K z m' H' v x → Q x H') E

/-- what is known of the text's names -/
structure Facts (P : TrP) (T : Nat → Option Fn) (C : Nat → Option PV) (XC : Nat → Option Addr) (prog : Program) (w : World) (K : PySem.W.Frag) (mg : Str → Option Value) (base : Heap) (k : Nat) : Prop where
  fns : ∀ x, P.fns.contains x = true → ∃ f fd ps, mg x = some (.ref f) ∧ PySem.W.keepIn K (.ref f) = true ∧ Binds K fd ps [] ∧ (∀ d, T (code x) = some d → d.np = ps.length) ∧ FnOk prog w K mg base (CX prog w) k f fd ps (spEv K XC ps.length (call T C k (code x)))
  csts : ∀ x, P.csts.contains x = true → ∀ v, C (code x) = some v → ∃ u y, mg x = some u ∧ RelV y u ∧ ∀ z m H, Rep K z m H v y
  blts : ∀ x, P.blts.contains x = true → mg x = none
  excs : ∀ x, P.excs.contains x = true → ∃ Cc, XC (code x) = some Cc ∧ mg x = some (.ref Cc) ∧ PySem.W.excIn K Cc [.type "ValueError", .type "Exception", .type "BaseException", .type "object"] "ValueError.__new__" = true ∧ PySem.W.keepIn K (.ref Cc) = true ∧ PySem.W.subIn K (.ref Cc) (.type "BaseException") = some true ∧ PySem.W.typeIn K (.ref Cc) = some (.type "type")

structure Gd (P : TrP) (T : Nat → Option Fn) (C : Nat → Option PV) (XC : Nat → Option Addr) (k : Nat) (N : List Str) (sc : Scope) (X : Cx) : Prop where
  facts : Facts P T C XC X.prog X.w X.K X.mg X.base k
  hN : X.N = N
  sc : X.env.scope = sc
  calm : X.calm = true
  room : Room k X.A
  nd : N.Nodup

section
variable {P : TrP} {T : Nat → Option Fn} {C : Nat → Option PV} {XC : Nat → Option Addr} {k : Nat} {N : List Str} {sc : Scope} {X : Cx} {W : WX}
theorem idx_at {N : List Str} {x : Str} {i : Nat} (h : idx N x = some i) : N[i]? = some x := by
  unfold idx at h
  obtain ⟨hi, h1, _⟩ := List.findIdx?_eq_some_iff_getElem.mp h
  rw [List.getElem?_eq_getElem hi]
  simp only [beq_iff_eq] at h1
  rw [h1]
theorem vis_of {sc : Scope} {x : Str} (h : isVis sc x = true) : Vis sc x := by
  unfold isVis at h
  unfold Vis
  split at h
  · exact .inl ‹_›
  · exact .inr (.inl ‹_›)
  · exact .inr (.inr ‹_›)
  · cases h
theorem loc_of {sc : Scope} {x : Str} (h : isLoc sc x = true) : L2.Loc sc x := by
  unfold isLoc at h
  unfold L2.Loc
  split at h
  · exact .inl ‹_›
  · exact .inr ‹_›
  · cases h
theorem gl_of (G : Gd P T C XC k N sc X) {x : Str} (h : isGl sc x = true) : Gl X x := by
  unfold isGl at h
  show X.env.scope.names.lookup x = some .globalImplicit
  rw [G.sc]
  simpa using h
theorem okN_of {x : Str} (h : okN x = true) : (x == ("__debug__" : Str)) = false ∧ (x == ("__classdict__" : Str)) = false ∧ x ≠ ("__name__" : Str) := by
  unfold okN at h
  simp only [Bool.and_eq_true, Bool.not_eq_true'] at h
  exact ⟨h.1.1, h.1.2, fun e => by have := h.2; rw [e] at this; simp at this⟩

theorem snd_var (G : Gd P T C XC k N sc X) {x : Str} {i : Nat} {pos : Pos} (h1 : okN x = true) (h2 : isVis sc x = true) (h3 : idx N x = some i) : PE X (.Name x pos) (tE X.K XC W fun env => M.lift fun _ => (env[i]?).bind id) := by
  obtain ⟨d1, d2, _⟩ := okN_of h1
  refine (pe_var (i := i) (by rw [G.hN]; exact idx_at h3) (by rw [G.sc]; exact vis_of h2) d1 d2).to fun σ H Q q => ?_
  obtain ⟨env, h, z, m, rs, rh, o⟩ := q
  obtain ⟨v, e, p⟩ := o.lift
  cases e1 : env[i]? with
  | none => rw [e1] at e; cases e
  | some o1 =>
    rw [e1] at e
    have e : o1 = some v := e
    subst e
    obtain ⟨y, h4, h5⟩ := rs.2 i v e1
    exact ⟨y, h4, p m H (Ext.refl _ _) rh y h5⟩
theorem snd_cst (G : Gd P T C XC k N sc X) {x : Str} {pos : Pos} (h1 : okN x = true) (h2 : isGl sc x = true) (h3 : P.csts.contains x = true) : PE X (.Name x pos) (tE X.K XC W fun _ => M.lift fun _ => C (code x)) := by
  obtain ⟨d1, d2, _⟩ := okN_of h1
  refine ⟨fun pins s σ H Q I q => ?_⟩
  obtain ⟨env, h, z, m, rs, rh, o⟩ := q
  obtain ⟨v, e, p⟩ := o.lift
  obtain ⟨u, y, hm, rv, hr⟩ := G.facts.csts x h3 v e
  exact (pe_glob (gl_of G h2) hm rv d1).run pins s σ H Q I (p m H (Ext.refl _ _) rh y (hr z m H))
theorem snd_lit {c : Const} {d : D} {j : Nat} {pos : Pos} (h : trConst c = some d) : PE X (.Constant c j pos) (tE X.K XC W fun _ => M.ret (.d d)) := by
  have fin : ∀ {y : V}, (∀ z m H, RepD X.K z m H d y) → ∀ σ H Q, tE X.K XC W (fun _ => M.ret (.d d)) σ H Q → Q y H := fun hy σ H Q q => by
    obtain ⟨env, h, z, m, rs, rh, o⟩ := q
    exact o.ret m H (Ext.refl _ _) rh _ (hy z m H)
  cases c with
  | none => cases h; exact pe_non.to (fin fun _ _ _ => rfl)
  | bool b => cases h; exact pe_bl.to (fin fun _ _ _ => rfl)
  | int i => cases h; exact pe_int.to (fin fun _ _ _ => rfl)
  | str x =>
    simp only [trConst] at h
    split at h
    · cases h
      refine pe_str.to (fin fun _ _ _ => ?_)
      rw [RepD]
      show V.str x = V.str ⟨(codes x).toArray⟩
      simp [codes]
    · cases h
  | _ => cases h

theorem snd_op {o : Op} {a b : Expr} {ra rb : Env → M PV} {pos : Pos} (ha : PE X a (tE X.K XC W ra)) (hb : PE X b (tE X.K XC W rb)) :
    PE X (.BinOp a (opOf o) b pos) (tE X.K XC W fun env => M.bnd (ra env) fun x => M.bnd (rb env) fun y => M.lift fun h => binop h o x y) := by
  refine (pe_op (opr_bin o) ha hb).to fun σ H Q q => ?_
  obtain ⟨env, h, z, m, rs, rh, out⟩ := q
  refine ⟨env, h, z, m, rs, rh, out.bnd.imp fun x h1 m1 H1 e1 rh1 o1 vx rx => ?_⟩
  refine ⟨env, h1, z, m1, rs.keep e1.keeps, rh1, o1.bnd.imp fun y h2 m2 H2 e2 rh2 o2 vy ry => ?_⟩
  obtain ⟨v, e, p⟩ := o2.lift
  exact ⟨x, y, h2, z, m2, v, rx.keep e2.keeps, ry, rh2, e, fun m' H' x' e' r' rr => p m' H' e' r' x' rr⟩
theorem snd_cmp {o : Cm} {a b : Expr} {ra rb : Env → M PV} {pos : Pos} (hr : Room k X.A) (hs : behindInMarks (cmOp o) b = false) (ha : PE X a (tE X.K XC W ra)) (hb : PE X b (tE X.K XC W rb)) :
    PE X (.Compare a [cmOp o] [b] pos) (tE X.K XC W fun env => M.bnd (ra env) fun x => M.bnd (rb env) fun y => M.lift fun h => (cmpop h o x y).map fun r => .d (.bool r)) := by
  refine (pe_cmpR (opr_cmp hr o) ha hb hs).to fun σ H Q q => ?_
  obtain ⟨env, h, z, m, rs, rh, out⟩ := q
  refine ⟨env, h, z, m, rs, rh, out.bnd.imp fun x h1 m1 H1 e1 rh1 o1 vx rx => ?_⟩
  refine ⟨env, h1, z, m1, rs.keep e1.keeps, rh1, o1.bnd.imp fun y h2 m2 H2 e2 rh2 o2 vy ry => ?_⟩
  obtain ⟨v, e, p⟩ := o2.lift
  exact ⟨x, y, h2, z, m2, v, rx.keep e2.keeps, ry, rh2, e, fun m' H' x' e' r' rr => p m' H' e' r' x' rr⟩

/-- truth, as the machine has it -/
theorem truV {h : Hh} {z m : List Addr} {H : Hp} {v : PV} {x : V} {b : Bool} (rh : RelH X.K z m H h) (r : Rep X.K z m H v x) (e : truthy h v = some b) : TruV X.K x H b := by
  have seq : ∀ {a : Addr} {us : List V} {n : Nat} {c : Bool}, us.length = n → (c = !(n == 0)) → SqL X.K H a us ∨ SqT X.K H a us → TruV X.K (.ref a) H c := fun {a us n c} hl hc hs => by
    have hb : c = !us.isEmpty := by
      rw [hc, ← hl]
      cases us <;> simp
    rcases hs with hs | hs
    · exact .inl ⟨us, hs, hb⟩
    · exact .inr (.inl ⟨us, hs, hb⟩)
  have ie : ∀ {α : Type} (xs : List α), xs.isEmpty = (xs.length == 0) := fun xs => by cases xs <;> simp
  cases v with
  | d y =>
    cases y with
    | none =>
      have r : x = .non := by simpa [Rep, RepD] using r
      subst r
      simp only [truthy, D.truthy, Option.some.injEq] at e
      exact e.symm
    | bool c =>
      have r : x = .bl c := by simpa [Rep, RepD] using r
      subst r
      simp only [truthy, D.truthy, Option.some.injEq] at e
      exact e.symm
    | int i =>
      have r : x = .int i := by simpa [Rep, RepD] using r
      subst r
      simp only [truthy, D.truthy, Option.some.injEq] at e
      exact e.symm
    | str t =>
      have r := r.str
      subst r
      simp only [truthy] at e
      split at e
      · rename_i hl
        simp only [Option.some.injEq] at e
        refine ⟨by rw [← lim_size]; simpa [Str.length] using hl, ?_⟩
        rw [← e, ie]
        show (!t.length == 0) = !((((⟨t.toArray⟩ : Str).length : Int)) == 0)
        congr 1
        rw [Bool.eq_iff_iff]
        simp [Str.length]
      · cases e
    | list xs =>
      obtain ⟨a, us, rfl, h2, h3, h4⟩ := r.list
      simp only [truthy, D.truthy, Option.some.injEq] at e
      exact seq h4.length.symm (by rw [← e, ie]) (.inl h2.sq)
    | tup xs =>
      obtain ⟨a, us, rfl, h2, h3, h4⟩ := r.tup
      simp only [truthy, D.truthy, Option.some.injEq] at e
      exact seq h4.length.symm (by rw [← e, ie]) (.inr h2.sq)
  | ref l =>
    obtain ⟨a, rfl, ha⟩ := r
    simp only [truthy] at e
    cases hc : h[l]? with
    | none => rw [hc] at e; simp at e
    | some c =>
      cases c with
      | lst xs =>
        rw [hc] at e
        simp only [Option.some.injEq] at e
        obtain ⟨us, h1, h2, h3⟩ := rh.cell l a xs ha hc
        exact seq h3.length.symm (by rw [← e, ie]) (.inl (.inl (.inl h1)))
  | dict kvs => obtain ⟨_, _, f⟩ := r; exact f.elim
  | scr xs =>
    obtain ⟨a, us, rfl, h2, h3, h4⟩ := r
    simp only [truthy, Option.some.injEq] at e
    exact seq h4.length.symm (by rw [← e, ie]) (.inl (h2.elim (fun q => .inl q.1) .inr))

/-- an expression, as a value and as a test -/
structure Both (XC : Nat → Option Addr) (X : Cx) (W : WX) (e : Expr) (r : Env → M PV) : Prop where
  v : PE X e (tE X.K XC W r)
  t : PT X e (tTt X.K XC W (tst r))
theorem Both.plain {e : Expr} {r : Env → M PV} (v : PE X e (tE X.K XC W r)) (he : ∀ whole, isTrue e X.env whole = (do let v ← whole; standAt e.pos; holding [v] (PySem.truthy v))) : Both XC X W e r := by
  refine ⟨v, (pt_truth v he).to fun σ H Q q => ?_⟩
  obtain ⟨env, h, z, m, rs, rh, o⟩ := q
  refine ⟨env, h, z, m, rs, rh, o.bnd.imp fun a h1 m1 H1 e1 rh1 o1 x rx => ?_⟩
  obtain ⟨b, e, p⟩ := o1.lift
  exact ⟨b, truV rh1 rx e, p m1 H1 (Ext.refl _ _) rh1⟩

theorem lift_bool (f : Hh → Option Bool) (k : Bool → Bool) : (M.bnd (M.lift fun h => (f h).map fun b => PV.d (.bool (k b))) fun x => M.lift fun h => truthy h x) = M.lift fun h => (f h).map k := by
  funext h
  simp only [M.bnd, M.lift]
  cases f h <;> rfl
theorem lift_bool1 (f : Hh → Option Bool) : (M.bnd (M.lift fun h => (f h).map fun b => PV.d (.bool b)) fun x => M.lift fun h => truthy h x) = M.lift f := by
  funext h
  simp only [M.bnd, M.lift]
  cases f h <;> rfl
theorem ret_bool (b : Bool) : (M.bnd (M.ret (PV.d (.bool b))) fun x => M.lift fun h => truthy h x) = M.ret b := rfl

theorem snd_not {a : Expr} {ra : Env → M PV} {pos : Pos} (ha : Both XC X W a ra) : Both XC X W (.UnaryOp .Not a pos) fun env => M.bnd (ra env) fun x => M.lift fun h => (truthy h x).map fun b => .d (.bool (!b)) := by
  refine ⟨(pe_notT ha.v).to fun σ H Q q => ?_, (pt_not ha.t).to fun σ H Q q => ?_⟩
  · obtain ⟨env, h, z, m, rs, rh, o⟩ := q
    refine ⟨env, h, z, m, rs, rh, o.bnd.imp fun a h1 m1 H1 e1 rh1 o1 x rx => ?_⟩
    obtain ⟨b, e, p⟩ := o1.lift
    simp only [Option.map_eq_some_iff] at e
    obtain ⟨c, e, rfl⟩ := e
    exact ⟨c, truV rh1 rx e, p m1 H1 (Ext.refl _ _) rh1 _ rfl⟩
  · obtain ⟨env, h, z, m, rs, rh, o⟩ := q
    refine ⟨env, h, z, m, rs, rh, ?_⟩
    simp only [tst, M.bnd_assoc, lift_bool] at o ⊢
    simp only [M.bnd] at o ⊢
    cases e : ra env h with
    | ok v h1 =>
      simp only [e, M.lift] at o ⊢
      cases e2 : truthy h1 v with
      | none => simp only [e2, Option.map_none] at o; exact o
      | some c => simp only [e2, Option.map_some] at o ⊢; exact o
    | exc c v h1 => simp only [e] at o ⊢; exact o
    | stuck => simp only [e] at o; exact o
theorem snd_cmpB {o : Cm} {a b : Expr} {ra rb : Env → M PV} {pos : Pos} (hr : Room k X.A) (hs : behindInMarks (cmOp o) b = false) (ha : PE X a (tE X.K XC W ra)) (hb : PE X b (tE X.K XC W rb)) :
    Both XC X W (.Compare a [cmOp o] [b] pos) fun env => M.bnd (ra env) fun x => M.bnd (rb env) fun y => M.lift fun h => (cmpop h o x y).map fun r => .d (.bool r) := by
  refine ⟨snd_cmp hr hs ha hb, (pt_cmpR (opr_cmp hr o) ha hb hs).to fun σ H Q q => ?_⟩
  obtain ⟨env, h, z, m, rs, rh, out⟩ := q
  simp only [tst, M.bnd_assoc, lift_bool1] at out
  refine ⟨env, h, z, m, rs, rh, out.bnd.imp fun x h1 m1 H1 e1 rh1 o1 vx rx => ?_⟩
  refine ⟨env, h1, z, m1, rs.keep e1.keeps, rh1, o1.bnd.imp fun y h2 m2 H2 e2 rh2 o2 vy ry => ?_⟩
  obtain ⟨v, e, p⟩ := o2.lift
  exact ⟨x, y, h2, z, m2, .d (.bool v), rx.keep e2.keeps, ry, rh2, by show Option.map _ _ = _; rw [e]; rfl, fun m' H' x' e' r' rr => ⟨v, rr, p m' H' e' r'⟩⟩
theorem snd_cmp2 {o o' : Cm} {a b c : Expr} {ra rb rc : Env → M PV} {pos : Pos} (hr : Room k X.A) (hs : lastMarks [cmOp o, cmOp o'] [b, c] = false) (ha : PE X a (tE X.K XC W ra)) (hb : PE X b (tE X.K XC W rb)) (hc : PE X c (tE X.K XC W rc)) :
    Both XC X W (.Compare a [cmOp o, cmOp o'] [b, c] pos) fun env => M.bnd (ra env) fun x => M.bnd (rb env) fun y => M.bnd (M.lift fun h => cmpop h o x y) fun r =>
      if r then M.bnd (rc env) fun w => M.lift fun h => (cmpop h o' y w).map fun b => .d (.bool b) else M.ret (.d (.bool false)) := by
  have key : ∀ {Q : V → Hp → Prop} {Q' : PV → Hh → List Addr → Hp → Prop} {σ : L2.St} {H : Hp} {env : Env} {h : Hh} {z m : List Addr}, RelS X.K z m H env σ → RelH X.K z m H h →
      (∀ (b : Bool) h' m' H', RelH X.K z m' H' h' → Q' (.d (.bool b)) h' m' H' → Q (.bl b) H') →
      Out X.K XC z m H ((M.bnd (ra env) fun x => M.bnd (rb env) fun y => M.bnd (M.lift fun h => cmpop h o x y) fun r =>
        if r then M.bnd (rc env) fun w => M.lift fun h => (cmpop h o' y w).map fun b => .d (.bool b) else M.ret (.d (.bool false))) h) Q' (fun cls d H' => W cls d σ H') →
      tChain (R2of X.K fun h a b => (cmpop h o a b).map fun r => .d (.bool r)) (R2of X.K fun h a b => (cmpop h o' a b).map fun r => .d (.bool r)) (tE X.K XC W ra) (tE X.K XC W rb) (tE X.K XC W rc) σ H Q := by
    intro Q Q' σ H env h z m rs rh hQ out
    refine ⟨env, h, z, m, rs, rh, out.bnd.imp fun x h1 m1 H1 e1 rh1 o1 vx rx => ?_⟩
    refine ⟨env, h1, z, m1, rs.keep e1.keeps, rh1, o1.bnd.imp fun y h2 m2 H2 e2 rh2 o2 vy ry => ?_⟩
    obtain ⟨v, e, p⟩ := o2.bnd.lift
    refine ⟨x, y, h2, z, m2, .d (.bool v), rx.keep e2.keeps, ry, rh2, by show Option.map _ _ = _; rw [e]; rfl, fun m' H' x' e' r' rr => ⟨v, rr, ?_⟩⟩
    have o3 := p m' H' e' r'
    have rs3 := (rs.keep e1.keeps).keep (e2.trans e').keeps
    cases v with
    | false =>
      simp only [Bool.false_eq_true, if_false] at o3 ⊢
      exact hQ false _ _ _ r' (o3.ret m' H' (Ext.refl _ _) r')
    | true =>
      simp only [if_true] at o3 ⊢
      refine ⟨env, h2, z, m', rs3, r', o3.bnd.imp fun w h3 m3 H3 e3 rh3 o4 vw rw' => ?_⟩
      obtain ⟨v2, e4, p4⟩ := o4.lift
      simp only [Option.map_eq_some_iff] at e4
      obtain ⟨b4, e4, rfl⟩ := e4
      refine ⟨y, w, h3, z, m3, .d (.bool b4), (ry.keep e'.keeps).keep e3.keeps, rw', rh3, by show Option.map _ _ = _; rw [e4]; rfl, fun m5 H5 x5 e5 r5 rr5 => ?_⟩
      rw [show x5 = .bl b4 from rr5]
      exact hQ b4 _ _ _ r5 (p4 m5 H5 e5 r5)
  refine ⟨(pe_chain (opr_cmp hr o) (opr_cmp hr o') ha hb hc hs).to fun σ H Q q => ?_, (pt_chain (opr_cmp hr o) (opr_cmp hr o') ha hb hc hs).to fun σ H Q q => ?_⟩
  · obtain ⟨env, h, z, m, rs, rh, out⟩ := q
    exact key rs rh (fun b h' m' H' _ p => p _ rfl) out
  · obtain ⟨env, h, z, m, rs, rh, out⟩ := q
    refine key (Q' := fun v h' m' H' => ∀ b, v = .d (.bool b) → Q b H') rs rh (fun b h' m' H' _ p => ⟨b, rfl, p b rfl⟩) ?_
    simp only [tst] at out
    refine Out.imp (P := fun v h' m' H' => Out X.K XC z m' H' (M.lift (fun h => truthy h v) h') (fun b _ _ H' => Q b H') fun cls d H' => W cls d σ H') out.bnd fun v h' m' H' e' r' o b eb => ?_
    subst eb
    obtain ⟨c, ec, pc⟩ := o.lift
    simp only [truthy, D.truthy, Option.some.injEq] at ec
    subst ec
    exact pc m' H' (Ext.refl _ _) r'

theorem Rep.non_iff {K : PySem.W.Frag} {z m : List Addr} {H : Hp} {v : PV} {x : V} (r : Rep K z m H v x) : decide (x = .non) = isNone v := by
  cases v with
  | d y =>
    cases y with
    | none => have e : x = .non := by simpa [Rep, RepD] using r
              subst e; rfl
    | bool b => have e : x = .bl b := by simpa [Rep, RepD] using r
                subst e; rfl
    | int b => have e := r.int
               subst e; rfl
    | str b => have e := r.str
               subst e; rfl
    | list b => obtain ⟨a, us, rfl, _⟩ := r.list; rfl
    | tup b => obtain ⟨a, us, rfl, _⟩ := r.tup; rfl
  | ref l => obtain ⟨a, rfl, _⟩ := r; rfl
  | dict l => obtain ⟨a, rfl, _⟩ := r; rfl
  | scr l => obtain ⟨a, us, rfl, _⟩ := r; rfl
theorem isC_none (v : PV) : isC v .none = some (isNone v) := rfl
theorem snd_isN (n : Bool) {a : Expr} {ra : Env → M PV} {j : Nat} {p1 pos : Pos} (ha : PE X a (tE X.K XC W ra)) :
    Both XC X W (.Compare a [if n then .IsNot else .Is] [.Constant .none j p1] pos) fun env => M.bnd (ra env) fun x => M.lift fun _ => (isC x .none).map fun b => .d (.bool (if n then !b else b)) := by
  refine ⟨?_, ?_⟩
  · have r : PE X (.Compare a [if n then .IsNot else .Is] [.Constant .none j p1] pos) (fun σ H Q => tE X.K XC W ra σ H fun x H1 => Q (.bl (if n then !decide (x = .non) else decide (x = .non))) H1) := by
      cases n
      · exact pe_cmp (pc_isN ha)
      · exact pe_cmp (pc_notN ha)
    refine r.to fun σ H Q q => ?_
    obtain ⟨env, h, z, m, rs, rh, out⟩ := q
    refine ⟨env, h, z, m, rs, rh, out.bnd.imp fun x h1 m1 H1 e1 rh1 o1 vx rx => ?_⟩
    obtain ⟨v, e, p⟩ := o1.lift
    rw [isC_none] at e
    simp only [Option.map_some, Option.some.injEq] at e
    subst e
    refine p m1 H1 (Ext.refl _ _) rh1 _ ?_
    rw [Rep.non_iff rx]
    cases n <;> rfl
  · have r : PT X (.Compare a [if n then .IsNot else .Is] [.Constant .none j p1] pos) (fun σ H Q => tE X.K XC W ra σ H fun x H1 => Q (if n then !decide (x = .non) else decide (x = .non)) H1) := by
      cases n
      · exact (pt_cmp (pc_isN ha)).to fun σ H Q q => by
          obtain ⟨env, h, z, m, rs, rh, out⟩ := q
          exact ⟨env, h, z, m, rs, rh, out.imp fun x h1 m1 H1 e1 rh1 o1 vx rx => ⟨_, rfl, o1 vx rx⟩⟩
      · exact (pt_cmp (pc_notN ha)).to fun σ H Q q => by
          obtain ⟨env, h, z, m, rs, rh, out⟩ := q
          exact ⟨env, h, z, m, rs, rh, out.imp fun x h1 m1 H1 e1 rh1 o1 vx rx => ⟨_, rfl, o1 vx rx⟩⟩
    refine r.to fun σ H Q q => ?_
    obtain ⟨env, h, z, m, rs, rh, out⟩ := q
    simp only [tst, M.bnd_assoc, isC_none, Option.map_some] at out
    refine ⟨env, h, z, m, rs, rh, out.bnd.imp fun x h1 m1 H1 e1 rh1 o1 vx rx => ?_⟩
    obtain ⟨v, e, p⟩ := o1.bnd.lift
    cases e
    obtain ⟨c, ec, pc⟩ := (p m1 H1 (Ext.refl _ _) rh1).lift
    simp only [truthy, D.truthy, Option.some.injEq] at ec
    subst ec
    rw [Rep.non_iff rx]
    exact pc m1 H1 (Ext.refl _ _) rh1
theorem snd_isB (n b : Bool) {a : Expr} {ra : Env → M PV} {j : Nat} {p1 pos : Pos} (ha : PE X a (tE X.K XC W ra)) :
    Both XC X W (.Compare a [if n then .IsNot else .Is] [.Constant (.bool b) j p1] pos) fun env => M.bnd (ra env) fun x => M.lift fun _ => (isC x (.bool b)).map fun b => .d (.bool (if n then !b else b)) := by
  have get : ∀ {z m : List Addr} {H : Hp} {v : PV} {x : V} {w : Bool}, Rep X.K z m H v x → isC v (.bool b) = some w → ∃ c, x = .bl c ∧ w = (c == b) := fun {z m H v x w} r e => by
    cases v with
    | d y =>
      cases y with
      | bool c => exact ⟨c, by simpa [Rep, RepD] using r, (Option.some.inj e).symm⟩
      | _ => simp [isC] at e
    | _ => simp [isC] at e
  have deq : ∀ c : Bool, decide (c = b) = (c == b) := fun c => by cases c <;> cases b <;> rfl
  refine ⟨?_, ?_⟩
  · have r : PE X (.Compare a [if n then .IsNot else .Is] [.Constant (.bool b) j p1] pos) (fun σ H Q => tE X.K XC W ra σ H fun x H1 => ∃ c, x = .bl c ∧ Q (.bl (if n then !(c == b) else (c == b))) H1) := by
      cases n
      · exact (pe_cmpR op_isBl ha pe_bl (nomark _)).to fun σ H Q ⟨env, h, z, m, rs, rh, out⟩ => ⟨env, h, z, m, rs, rh, out.imp fun x h1 m1 H1 e1 rh1 o1 vx rx => by
          obtain ⟨c, hc, q⟩ := o1 vx rx
          exact ⟨c, b, hc, rfl, by rw [deq]; exact q⟩⟩
      · exact (pe_cmpR op_notBl ha pe_bl (nomark _)).to fun σ H Q ⟨env, h, z, m, rs, rh, out⟩ => ⟨env, h, z, m, rs, rh, out.imp fun x h1 m1 H1 e1 rh1 o1 vx rx => by
          obtain ⟨c, hc, q⟩ := o1 vx rx
          exact ⟨c, b, hc, rfl, by rw [deq]; exact q⟩⟩
    refine r.to fun σ H Q q => ?_
    obtain ⟨env, h, z, m, rs, rh, out⟩ := q
    refine ⟨env, h, z, m, rs, rh, out.bnd.imp fun x h1 m1 H1 e1 rh1 o1 vx rx => ?_⟩
    obtain ⟨v, e, p⟩ := o1.lift
    simp only [Option.map_eq_some_iff] at e
    obtain ⟨w, e, rfl⟩ := e
    obtain ⟨c, hc, rfl⟩ := get rx e
    exact ⟨c, hc, p m1 H1 (Ext.refl _ _) rh1 _ rfl⟩
  · have r : PT X (.Compare a [if n then .IsNot else .Is] [.Constant (.bool b) j p1] pos) (fun σ H Q => tE X.K XC W ra σ H fun x H1 => ∃ c, x = .bl c ∧ Q (if n then !(c == b) else (c == b)) H1) := by
      cases n
      · exact (pt_cmpR op_isBl ha pe_bl (nomark _)).to fun σ H Q ⟨env, h, z, m, rs, rh, out⟩ => ⟨env, h, z, m, rs, rh, out.imp fun x h1 m1 H1 e1 rh1 o1 vx rx => by
          obtain ⟨c, hc, q⟩ := o1 vx rx
          exact ⟨c, b, hc, rfl, _, rfl, by rw [deq]; exact q⟩⟩
      · exact (pt_cmpR op_notBl ha pe_bl (nomark _)).to fun σ H Q ⟨env, h, z, m, rs, rh, out⟩ => ⟨env, h, z, m, rs, rh, out.imp fun x h1 m1 H1 e1 rh1 o1 vx rx => by
          obtain ⟨c, hc, q⟩ := o1 vx rx
          exact ⟨c, b, hc, rfl, _, rfl, by rw [deq]; exact q⟩⟩
    refine r.to fun σ H Q q => ?_
    obtain ⟨env, h, z, m, rs, rh, out⟩ := q
    simp only [tst, M.bnd_assoc, lift_bool (fun _ => isC _ _)] at out
    refine ⟨env, h, z, m, rs, rh, out.bnd.imp fun x h1 m1 H1 e1 rh1 o1 vx rx => ?_⟩
    obtain ⟨v, e, p⟩ := o1.lift
    simp only [Option.map_eq_some_iff] at e
    obtain ⟨w, e, rfl⟩ := e
    obtain ⟨c, hc, rfl⟩ := get rx e
    exact ⟨c, hc, p m1 H1 (Ext.refl _ _) rh1⟩

theorem snd_and {a b : Expr} {rest : List Expr} {ra rb : Env → M PV} {pos : Pos} (ha : Both XC X W a ra) (hb : PE X (.BoolOp .And (b :: rest) pos) (tE X.K XC W rb)) (hb' : PW X (.BoolOp .And (b :: rest) pos) (tTt X.K XC W (tst rb))) :
    PE X (.BoolOp .And (a :: b :: rest) pos) (tE X.K XC W fun env => M.bnd (ra env) fun x => M.bnd (M.lift fun h => truthy h x) fun r => if r then rb env else M.ret x) ∧
    PW X (.BoolOp .And (a :: b :: rest) pos) (tTt X.K XC W (tst fun env => M.bnd (ra env) fun x => M.bnd (M.lift fun h => truthy h x) fun r => if r then rb env else M.ret x)) := by
  refine ⟨(pe_andT ha.v hb).to fun σ H Q q => ?_, (pw_and ha.t hb').to fun σ H Q q => ?_⟩
  · obtain ⟨env, h, z, m, rs, rh, out⟩ := q
    refine ⟨env, h, z, m, rs, rh, out.bnd.imp fun x h1 m1 H1 e1 rh1 o1 vx rx => ?_⟩
    obtain ⟨r, e, p⟩ := o1.bnd.lift
    have o2 := p m1 H1 (Ext.refl _ _) rh1
    refine ⟨r, truV rh1 rx e, ?_⟩
    cases r with
    | true => exact ⟨env, h1, z, m1, rs.keep e1.keeps, rh1, by simpa using o2⟩
    | false =>
      simp only [Bool.false_eq_true, if_false] at o2 ⊢
      exact o2.ret m1 H1 (Ext.refl _ _) rh1 vx rx
  · obtain ⟨env, h, z, m, rs, rh, out⟩ := q
    simp only [tst, M.bnd_assoc] at out
    refine ⟨env, h, z, m, rs, rh, ?_⟩
    simp only [M.bnd, tst] at out ⊢
    cases e : ra env h with
    | stuck => simp only [e] at out; exact out
    | exc c v h1 => simp only [e] at out ⊢; exact out
    | ok v h1 =>
      simp only [e, M.lift] at out ⊢
      cases e2 : truthy h1 v with
      | none => simp only [e2] at out; exact out
      | some c =>
        simp only [e2] at out ⊢
        intro m' H' e' r'
        cases c with
        | true =>
          simp only [if_true] at out ⊢
          exact ⟨env, h1, z, m', rs.keep e'.keeps, r', out.mono e'⟩
        | false =>
          simp only [Bool.false_eq_true, if_false, M.ret, e2] at out ⊢
          exact out m' H' e' r'
theorem snd_or {a b : Expr} {rest : List Expr} {ra rb : Env → M PV} {pos : Pos} (ha : Both XC X W a ra) (hb : PE X (.BoolOp .Or (b :: rest) pos) (tE X.K XC W rb)) (hb' : PW X (.BoolOp .Or (b :: rest) pos) (tTt X.K XC W (tst rb))) :
    PE X (.BoolOp .Or (a :: b :: rest) pos) (tE X.K XC W fun env => M.bnd (ra env) fun x => M.bnd (M.lift fun h => truthy h x) fun r => if r then M.ret x else rb env) ∧
    PW X (.BoolOp .Or (a :: b :: rest) pos) (tTt X.K XC W (tst fun env => M.bnd (ra env) fun x => M.bnd (M.lift fun h => truthy h x) fun r => if r then M.ret x else rb env)) := by
  refine ⟨(pe_orT ha.v hb).to fun σ H Q q => ?_, (pw_or ha.t hb').to fun σ H Q q => ?_⟩
  · obtain ⟨env, h, z, m, rs, rh, out⟩ := q
    refine ⟨env, h, z, m, rs, rh, out.bnd.imp fun x h1 m1 H1 e1 rh1 o1 vx rx => ?_⟩
    obtain ⟨r, e, p⟩ := o1.bnd.lift
    have o2 := p m1 H1 (Ext.refl _ _) rh1
    refine ⟨r, truV rh1 rx e, ?_⟩
    cases r with
    | false => exact ⟨env, h1, z, m1, rs.keep e1.keeps, rh1, by simpa using o2⟩
    | true =>
      simp only [if_true] at o2 ⊢
      exact o2.ret m1 H1 (Ext.refl _ _) rh1 vx rx
  · obtain ⟨env, h, z, m, rs, rh, out⟩ := q
    simp only [tst, M.bnd_assoc] at out
    refine ⟨env, h, z, m, rs, rh, ?_⟩
    simp only [M.bnd, tst] at out ⊢
    cases e : ra env h with
    | stuck => simp only [e] at out; exact out
    | exc c v h1 => simp only [e] at out ⊢; exact out
    | ok v h1 =>
      simp only [e, M.lift] at out ⊢
      cases e2 : truthy h1 v with
      | none => simp only [e2] at out; exact out
      | some c =>
        simp only [e2] at out ⊢
        intro m' H' e' r'
        cases c with
        | false =>
          simp only [Bool.false_eq_true, if_false] at out ⊢
          exact ⟨env, h1, z, m', rs.keep e'.keeps, r', out.mono e'⟩
        | true =>
          simp only [if_true, M.ret, e2] at out ⊢
          exact out m' H' e' r'

theorem _root_.L2.pt_ifExp {c a b : Expr} {pos : Pos} {tc ta tb : TT} (hc : PT X c tc) (ha : PT X a ta) (hb : PT X b tb) : PT X (.IfExp c a b pos) (fun σ H Q => tc σ H fun k H1 => if k = true then ta σ H1 Q else tb σ H1 Q) := by
  refine ⟨fun pins s σ H Q I h => ?_⟩
  refine PyProof.Rows.isTrue_IfExp (thn (hc.run pins s σ H _ I h) fun d s1 ⟨H1, I1, q1⟩ => ?_)
  cases d with
  | true => exact ha.run pins s1 σ H1 Q I1 q1
  | false => exact hb.run pins s1 σ H1 Q I1 q1
theorem snd_ite {c a b : Expr} {rc ra rb : Env → M PV} {pos : Pos} (hc : Both XC X W c rc) (ha : Both XC X W a ra) (hb : Both XC X W b rb) :
    Both XC X W (.IfExp c a b pos) fun env => M.bnd (rc env) fun x => M.bnd (M.lift fun h => truthy h x) fun r => if r then ra env else rb env := by
  have key : ∀ {α : Type} {P : α → Hh → List Addr → Hp → Prop} {σ : L2.St} {H : Hp} {env : Env} {h : Hh} {z m : List Addr} {fa fb : M α} {Q : Bool → Hp → Prop}, RelS X.K z m H env σ → RelH X.K z m H h →
      (∀ c h1 m1 H1, RelS X.K z m1 H1 env σ → RelH X.K z m1 H1 h1 → Out X.K XC z m1 H1 ((if c = true then fa else fb) h1) P (fun cls d H' => W cls d σ H') → Q c H1) →
      Out X.K XC z m H (M.bnd (rc env) (fun x => M.bnd (M.lift fun h => truthy h x) fun r => if r then fa else fb) h) P (fun cls d H' => W cls d σ H') → tTt X.K XC W (tst rc) σ H Q := by
    intro α P σ H env h z m fa fb Q rs rh hQ out
    refine ⟨env, h, z, m, rs, rh, ?_⟩
    simp only [M.bnd, tst] at out ⊢
    cases e : rc env h with
    | stuck => simp only [e] at out; exact out
    | exc c v h1 => simp only [e] at out ⊢; exact out
    | ok v h1 =>
      simp only [e, M.lift] at out ⊢
      cases e2 : truthy h1 v with
      | none => simp only [e2] at out; exact out
      | some c =>
        simp only [e2] at out ⊢
        intro m' H' e' r'
        exact hQ c h1 m' H' (rs.keep e'.keeps) r' (out.mono e')
  refine ⟨(pe_ifExp hc.t ha.v hb.v).to fun σ H Q q => ?_, (pt_ifExp hc.t ha.t hb.t).to fun σ H Q q => ?_⟩
  · obtain ⟨env, h, z, m, rs, rh, out⟩ := q
    refine key rs rh (fun c h1 m1 H1 rs1 rh1 o => ?_) out
    cases c with
    | true => exact ⟨env, h1, z, m1, rs1, rh1, o⟩
    | false => exact ⟨env, h1, z, m1, rs1, rh1, o⟩
  · obtain ⟨env, h, z, m, rs, rh, out⟩ := q
    simp only [tst, M.bnd_assoc] at out
    refine key (fa := tst ra env) (fb := tst rb env) rs rh (fun c h1 m1 H1 rs1 rh1 o => ?_) (P := fun b h' m' H' => Q b H') ?_
    · cases c with
      | true => exact ⟨env, h1, z, m1, rs1, rh1, o⟩
      | false => exact ⟨env, h1, z, m1, rs1, rh1, o⟩
    · have e : (fun x => M.bnd (M.lift fun h => truthy h x) fun r => M.bnd (if r = true then ra env else rb env) fun x => M.lift fun h => truthy h x) = fun x => M.bnd (M.lift fun h => truthy h x) fun r => if r = true then tst ra env else tst rb env := by
        funext x
        congr 1
        funext r
        cases r <;> rfl
      rw [← e]
      exact out
end
end Ev
end

section
/-! EvSnd2: argument lists, calls, built-ins, methods, displays, items, slices. -/
set_option autoImplicit false
set_option linter.all false
set_option Elab.async false
set_option maxRecDepth 100000
set_option maxHeartbeats 1000000
namespace Ev
open PySem L2 PyProof.Rows

def notStar : Expr → Bool
  | .Starred .. => false
  | _ => true
theorem starEach_one {e : Expr} {es : List Expr} {env : PySem.Env} (h : notStar e = true) : starEach (e :: es) env = (false, eval e env) :: starEach es env := by
  cases e <;> first | rfl | (simp [notStar] at h)
theorem stars_false : ∀ (es : List Expr) (env : PySem.Env) (pos : Pos), es.all notStar = true → (backTo pos (starEach es env)).any (·.1) = false
  | [], _, _, _ => rfl
  | e :: es, env, pos, h => by
    simp only [List.all_cons, Bool.and_eq_true] at h
    rw [starEach_one h.1]
    show ((false : Bool) || (backTo pos (starEach es env)).any (·.1)) = false
    rw [stars_false es env pos h.2]; rfl
theorem stars_all : ∀ (es : List Expr) (env : PySem.Env) (pos : Pos), es.all notStar = true → ((backTo pos (starEach es env)).all fun x => !x.1) = true
  | [], _, _, _ => rfl
  | e :: es, env, pos, h => by
    simp only [List.all_cons, Bool.and_eq_true] at h
    rw [starEach_one h.1]
    show (!(false : Bool) && (backTo pos (starEach es env)).all fun x => !x.1) = true
    rw [stars_all es env pos h.2]; rfl

section
variable {P : TrP} {T : Nat → Option Fn} {C : Nat → Option PV} {XC : Nat → Option Addr} {k : Nat} {N : List Str} {sc : Scope} {X : Cx} {W : WX}
theorem snd_nil : PA X [] (tEs X.K XC W fun _ => M.ret []) := pa_nil.to fun σ H Q q => by
  obtain ⟨env, h, z, m, rs, rh, o⟩ := q
  exact o.ret m H (Ext.refl _ _) rh [] rfl
theorem snd_cons {e : Expr} {es : List Expr} {re : Env → M PV} {rs : Env → M (List PV)} (h : notStar e = true) (he : PE X e (tE X.K XC W re)) (hs : PA X es (tEs X.K XC W rs)) :
    PA X (e :: es) (tEs X.K XC W fun env => M.bnd (re env) fun x => M.bnd (rs env) fun xs => M.ret (x :: xs)) := by
  refine (pa_cons he hs (starEach_one h)).to fun σ H Q q => ?_
  obtain ⟨env, h, z, m, rs, rh, out⟩ := q
  refine ⟨env, h, z, m, rs, rh, out.bnd.imp fun x h1 m1 H1 e1 rh1 o1 vx rx => ?_⟩
  refine ⟨env, h1, z, m1, rs.keep e1.keeps, rh1, o1.bnd.imp fun xs h2 m2 H2 e2 rh2 o2 us rus => ?_⟩
  exact o2.ret m2 H2 (Ext.refl _ _) rh2 (vx :: us) ⟨vx, us, rfl, rx.keep e2.keeps, rus⟩

theorem pe_call0SD {CX : CXT} {k : Nat} {f : Addr} {fd : FuncData} {ps : List Str} {sp : Sp} {E : L2.St → XK} {x : Str} {p pos : Pos} (F : FnOk X.prog X.w X.K X.mg X.base CX k f fd ps sp) (hr : Room k X.A) (hg : Gl X x) (hm : X.mg x = some (.ref f)) (hk : PySem.W.keepIn X.K (.ref f) = true)
    (hb : Binds X.K fd ps []) (hx : ∀ σ, PassesAt CX X σ (E σ)) (hdb : (x == ("__debug__" : Str)) = false) : PE X (.Call (.Name x p) [] [] pos) (fun σ H Q => sp [] H Q (E σ)) := by
  refine ⟨fun pins s σ H Q I h => ?_⟩
  refine wpAny_Call_Name_kw (ld_glob I hg hm ?_ hdb)
  exact PySem.W.callWith_K0 I.kIn hk (run_fnSD (dvs := []) (us := []) (vs := []) F hr hb .nil (hx σ) I .nil h)

theorem call_len {k : Nat} {c : Nat} {args : List PV} {h : Hh} {n : Nat} {z m : List Addr} {H : Hp} {P : PV → Hh → List Addr → Hp → Prop} {E : XK} (hn : ∀ d, T c = some d → d.np = n) (o : Out X.K XC z m H (call T C k c args h) P E) : args.length = n := by
  cases k with
  | zero => exact (show False from o).elim
  | succ k =>
    rw [Ev.call] at o
    cases e : T c with
    | none => rw [e] at o; exact (show False from o).elim
    | some d =>
      rw [e] at o
      simp only at o
      split at o
      · rename_i hl
        rw [hl, hn d e]
      · exact (show False from o).elim

theorem snd_call0 (G : Gd P T C XC k N sc X) (tk : Takes X W) {x : Str} {p pos : Pos} (h1 : okN x = true) (h2 : isGl sc x = true) (h3 : P.fns.contains x = true) :
    PE X (.Call (.Name x p) [] [] pos) (tE X.K XC W fun _ => M.bnd (M.ret []) fun xs => call T C k (code x) xs) := by
  obtain ⟨d1, d2, _⟩ := okN_of h1
  obtain ⟨f, fd, ps, hm, hk, hb, hn, F⟩ := G.facts.fns x h3
  refine (pe_call0SD (E := fun σ => WE W σ) F G.room (gl_of G h2) hm hk hb (passAt tk) d1).to fun σ H Q q => ?_
  obtain ⟨env, h, z, m, rs, rh, o⟩ := q
  have o : Out X.K XC z m H (call T C k (code x) [] h) _ _ := o
  exact ⟨call_len hn o, [], h, z, m, rfl, rh, o⟩
theorem snd_call (G : Gd P T C XC k N sc X) (tk : Takes X W) {x : Str} {e : Expr} {es : List Expr} {rs : Env → M (List PV)} {p pos : Pos} (h1 : okN x = true) (h2 : isGl sc x = true) (h3 : P.fns.contains x = true) (hst : (e :: es).all notStar = true) (hs : PA X (e :: es) (tEs X.K XC W rs)) :
    PE X (.Call (.Name x p) (e :: es) [] pos) (tE X.K XC W fun env => M.bnd (rs env) fun xs => call T C k (code x) xs) := by
  obtain ⟨d1, d2, _⟩ := okN_of h1
  obtain ⟨f, fd, ps, hm, hk, hb, hn, F⟩ := G.facts.fns x h3
  simp only [List.all_cons, Bool.and_eq_true] at hst
  refine (pe_callSD (dvs := []) (E := fun σ => WE W σ) F G.room (gl_of G h2) hm hk hb .nil (passAt tk) hs d1 (starEach_one hst.1) (stars_false _ _ _ hst.2)).to fun σ H Q q => ?_
  obtain ⟨env, h, z, m, rs, rh, out⟩ := q
  refine ⟨env, h, z, m, rs, rh, out.bnd.imp fun xs h1 m1 H1 e1 rh1 o1 us rus => ?_⟩
  show spEv _ _ _ _ (us ++ []) _ _ _
  rw [List.append_nil]
  refine ⟨?_, xs, h1, z, m1, rus, rh1, o1⟩
  rw [← rus.length]
  exact call_len hn o1

/-! ### displays -/
theorem allD_of {K : PySem.W.Frag} {z m : List Addr} {H : Hp} {xs : List PV} {us : List V} {ds : List D} (r : Reps K z m H xs us) (e : allD xs = some ds) : RepDs K z m H ds us := r.ds e
theorem short_of {K : PySem.W.Frag} {z m : List Addr} {H : Hp} {xs : List PV} {us : List V} (r : Reps K z m H xs us) (h : xs.length ≤ LIM) : us.length ≤ sizeLine := by rw [← r.length, ← lim_size]; exact h
theorem snd_tup {es : List Expr} {j : Nat} {rs : Env → M (List PV)} {pos : Pos} (hs : PA X es (tEs X.K XC W rs)) : PE X (.Tuple es j pos) (tE X.K XC W fun env => M.bnd (rs env) fun xs => M.lift fun _ => if xs.length ≤ LIM then (allD xs).map fun ds => .d (.tup ds) else .none) := by
  refine (pe_tup hs).to fun σ H Q q => ?_
  obtain ⟨env, h, z, m, rs, rh, out⟩ := q
  refine ⟨env, h, z, m, rs, rh, out.bnd.imp fun xs h1 m1 H1 e1 rh1 o1 us rus => ?_⟩
  obtain ⟨v, e, p⟩ := o1.lift
  split at e
  · rename_i hl
    simp only [Option.map_eq_some_iff] at e
    obtain ⟨ds, e, rfl⟩ := e
    have hz := short_of rus hl
    exact ⟨hz, fun q hq => Post.tup (fun m' H' x e' r' rr => p m' H' e' r' x rr) rh1 (rus.ds e) hz hq⟩
  · cases e
theorem snd_lst {es : List Expr} {rs : Env → M (List PV)} {pos : Pos} (hs : PA X es (tEs X.K XC W rs)) : PE X (.List es pos) (tE X.K XC W fun env => M.bnd (rs env) fun xs => M.lift fun _ => if xs.length ≤ LIM then (allD xs).map fun ds => .d (.list ds) else .none) := by
  refine (pe_lst hs).to fun σ H Q q => ?_
  obtain ⟨env, h, z, m, rs, rh, out⟩ := q
  refine ⟨env, h, z, m, rs, rh, out.bnd.imp fun xs h1 m1 H1 e1 rh1 o1 us rus => ?_⟩
  obtain ⟨v, e, p⟩ := o1.lift
  split at e
  · rename_i hl
    simp only [Option.map_eq_some_iff] at e
    obtain ⟨ds, e, rfl⟩ := e
    have hz := short_of rus hl
    exact ⟨hz, fun q hq => Post.lst (fun m' H' x e' r' rr => p m' H' e' r' x rr) rh1 (rus.ds e) hz hq⟩
  · cases e
/-- a new cell -/
theorem RelH.push {K : PySem.W.Frag} {z m : List Addr} {H : Hp} {h : Hh} (r : RelH K z m H h) {p : Addr} (hp : H p = none) {xs : List PV} {us : List V} (rx : Reps K z m H xs us) (hl : us.length ≤ sizeLine) :
    Ext m H (m ++ [p]) (upd H p (.lst us)) ∧ RelH K z (m ++ [p]) (upd H p (.lst us)) (h ++ [.lst xs]) := by
  have nm := (r.fresh hp).1
  have e : Ext m H (m ++ [p]) (upd H p (.lst us)) := ⟨⟨[p], rfl⟩, fun a o h1 h2 => by
    have hne := ne_of_none h1 hp
    exact ⟨by rw [upd_ne hne]; exact h1, by simp [h2, hne]⟩⟩
  refine ⟨e, ?_, ?_, ?_, ?_⟩
  · rw [List.nodup_append]
    refine ⟨r.nd, by simp, fun a ha b hb => ?_⟩
    simp only [List.mem_singleton] at hb
    subst hb
    exact fun q => nm (q ▸ ha)
  · simp [r.len]
  · intro l a ys h1 h2
    by_cases hl1 : l < m.length
    · rw [List.getElem?_append_left hl1] at h1
      rw [List.getElem?_append_left (by rw [← r.len]; exact hl1)] at h2
      obtain ⟨vs, q1, q2, q3⟩ := r.cell l a ys h1 h2
      exact ⟨vs, by rw [upd_ne (ne_of_none q1 hp)]; exact q1, q2, q3.keep e.keeps⟩
    · rw [List.getElem?_append_right (by omega)] at h1
      rw [List.getElem?_append_right (by rw [← r.len]; omega)] at h2
      have e0 : l - m.length = 0 := by
        cases hq : l - m.length with
        | zero => rfl
        | succ n => rw [hq] at h1; simp at h1
      rw [e0] at h1
      rw [← r.len, e0] at h2
      simp only [List.getElem?_cons_zero, Option.some.injEq] at h1 h2
      subst h1
      cases h2
      exact ⟨us, upd_same, hl, rx.keep e.keeps⟩
  · intro a ha
    obtain ⟨⟨o, q⟩, n⟩ := r.zt a ha
    have hne := ne_of_none q hp
    exact ⟨⟨o, by rw [upd_ne hne]; exact q⟩, by simp [n, hne]⟩
theorem snd_new {es : List Expr} {rs : Env → M (List PV)} {pos : Pos} (hs : PA X es (tEs X.K XC W rs)) : PE X (.List es pos) (tE X.K XC W fun env => M.bnd (rs env) fun xs => fun h => if xs.length ≤ LIM then .ok (.ref h.length) (h ++ [.lst xs]) else .stuck) := by
  refine (pe_lst hs).to fun σ H Q q => ?_
  obtain ⟨env, h, z, m, rs, rh, out⟩ := q
  refine ⟨env, h, z, m, rs, rh, out.bnd.imp fun xs h1 m1 H1 e1 rh1 o1 us rus => ?_⟩
  by_cases hl : xs.length ≤ LIM
  · simp only [hl, if_true] at o1
    have hz := short_of rus hl
    refine ⟨hz, fun q hq => ?_⟩
    obtain ⟨e, r⟩ := rh1.push hq rus hz
    exact o1 _ _ e r _ ⟨q, rfl, by rw [← rh1.len]; simp⟩
  · simp only [hl, if_false] at o1
    exact o1.elim

/-! ### built-ins by their names -/
def CBl (X : Cx) (f : Hh → List PV → Option PV) : List V → Hp → VK → Prop := fun us H Q => ∃ xs h z m v, Reps X.K z m H xs us ∧ RelH X.K z m H h ∧ f h xs = some v ∧ Post X.K z m H Q v h
theorem snd_callR {f : Value} {g : Hh → List PV → Option PV} {x : Str} {e : Expr} {es : List Expr} {rs : Env → M (List PV)} {p pos : Pos} (hp : PE X (.Call (.Name x p) (e :: es) [] pos) (tCB (CBl X g) (tEs X.K XC W rs))) :
    PE X (.Call (.Name x p) (e :: es) [] pos) (tE X.K XC W fun env => M.bnd (rs env) fun xs => M.lift fun h => g h xs) := by
  refine hp.to fun σ H Q q => ?_
  obtain ⟨env, h, z, m, rs, rh, out⟩ := q
  refine ⟨env, h, z, m, rs, rh, out.bnd.imp fun xs h1 m1 H1 e1 rh1 o1 us rus => ?_⟩
  obtain ⟨v, e, p⟩ := o1.lift
  exact ⟨xs, h1, z, m1, v, rus, rh1, e, fun m' H' x e' r' rr => p m' H' e' r' x rr⟩
theorem reps1 {K : PySem.W.Frag} {z m : List Addr} {H : Hp} {x : PV} {us : List V} (r : Reps K z m H [x] us) : ∃ u, us = [u] ∧ Rep K z m H x u := by
  obtain ⟨u, t, rfl, h1, h2⟩ := r
  rw [show t = [] from h2]
  exact ⟨u, rfl, h1⟩
theorem reps2 {K : PySem.W.Frag} {z m : List Addr} {H : Hp} {x y : PV} {us : List V} (r : Reps K z m H [x, y] us) : ∃ u v, us = [u, v] ∧ Rep K z m H x u ∧ Rep K z m H y v := by
  obtain ⟨u, t, rfl, h1, h2⟩ := r
  obtain ⟨v, rfl, h3⟩ := reps1 h2
  exact ⟨u, v, rfl, h1, h3⟩
theorem bools_of {K : PySem.W.Frag} {z m : List Addr} {H : Hp} : ∀ {xs : List D} {us : List V} {bs : List Bool}, RepDs K z m H xs us → boolsOf xs = some bs → us = bs.map V.bl
  | [], _, _, r, e => by rw [RepDs] at r; simp [boolsOf] at e; subst e; exact r
  | .bool b :: xs, _, _, r, e => by
    rw [RepDs] at r
    obtain ⟨u, t, rfl, h1, h2⟩ := r
    simp only [boolsOf, Option.map_eq_some_iff] at e
    obtain ⟨cs, e, rfl⟩ := e
    rw [show u = .bl b by simpa [RepD] using h1, bools_of h2 e]; rfl
  | .none :: _, _, _, _, e => by simp [boolsOf] at e
  | .int _ :: _, _, _, _, e => by simp [boolsOf] at e
  | .str _ :: _, _, _, _, e => by simp [boolsOf] at e
  | .list _ :: _, _, _, _, e => by simp [boolsOf] at e
  | .tup _ :: _, _, _, _, e => by simp [boolsOf] at e
theorem ints_of {K : PySem.W.Frag} {z m : List Addr} {H : Hp} : ∀ {xs : List D} {us : List V} {bs : List Int}, RepDs K z m H xs us → intsOf xs = some bs → us = bs.map V.int
  | [], _, _, r, e => by rw [RepDs] at r; simp [intsOf] at e; subst e; exact r
  | .int b :: xs, _, _, r, e => by
    rw [RepDs] at r
    obtain ⟨u, t, rfl, h1, h2⟩ := r
    simp only [intsOf, Option.map_eq_some_iff] at e
    obtain ⟨cs, e, rfl⟩ := e
    rw [show u = .int b by simpa [RepD] using h1, ints_of h2 e]; rfl
  | .none :: _, _, _, _, e => by simp [intsOf] at e
  | .bool _ :: _, _, _, _, e => by simp [intsOf] at e
  | .str _ :: _, _, _, _, e => by simp [intsOf] at e
  | .list _ :: _, _, _, _, e => by simp [intsOf] at e
  | .tup _ :: _, _, _, _, e => by simp [intsOf] at e
theorem maxL_eq : ∀ (xs : List Int) (m k : Int), k ∈ m :: xs → (∀ y ∈ m :: xs, y ≤ k) → k = maxL m xs
  | [], m, k, h1, h2 => by simpa [maxL] using h1
  | x :: xs, m, k, h1, h2 => by
    rw [maxL]
    refine maxL_eq xs _ k ?_ ?_
    · simp only [List.mem_cons] at h1 ⊢
      have hm := h2 m (by simp)
      have hx := h2 x (by simp)
      rcases h1 with h1 | h1 | h1
      · split
        · left; omega
        · exact .inl h1
      · split
        · exact .inl h1
        · left; omega
      · exact .inr h1
    · intro y hy
      simp only [List.mem_cons] at hy
      rcases hy with hy | hy
      · subst hy
        split
        · exact h2 x (by simp)
        · exact h2 m (by simp)
      · exact h2 y (by simp [hy])
theorem minL_eq : ∀ (xs : List Int) (m k : Int), k ∈ m :: xs → (∀ y ∈ m :: xs, k ≤ y) → k = minL m xs
  | [], m, k, h1, h2 => by simpa [minL] using h1
  | x :: xs, m, k, h1, h2 => by
    rw [minL]
    refine minL_eq xs _ k ?_ ?_
    · simp only [List.mem_cons] at h1 ⊢
      have hm := h2 m (by simp)
      have hx := h2 x (by simp)
      rcases h1 with h1 | h1 | h1
      · split
        · left; omega
        · exact .inl h1
      · split
        · exact .inl h1
        · left; omega
      · exact .inr h1
    · intro y hy
      simp only [List.mem_cons] at hy
      rcases hy with hy | hy
      · subst hy
        split
        · exact h2 x (by simp)
        · exact h2 m (by simp)
      · exact h2 y (by simp [hy])
theorem one_of {f : PV → Option PV} {xs : List PV} {w : PV} (e : one f xs = some w) : ∃ x, xs = [x] ∧ f x = some w := by
  match xs, e with
  | [x], e => exact ⟨x, rfl, e⟩
  | [], e => cases e
  | _ :: _ :: _, e => cases e
theorem two_of {f : PV → PV → Option PV} {xs : List PV} {w : PV} (e : two f xs = some w) : ∃ x y, xs = [x, y] ∧ f x y = some w := by
  match xs, e with
  | [x, y], e => exact ⟨x, y, rfl, e⟩
  | [], e => cases e
  | [_], e => cases e
  | _ :: _ :: _ :: _, e => cases e
theorem bl_len : CallR X (.builtin "len") (CBl X fun h xs => blt h .len xs) := by
  intro pins s σ H us vs Q I rv q
  obtain ⟨xs, h, z, m, w, r, rh, e0, p⟩ := q
  obtain ⟨x, rfl, e⟩ := one_of e0
  obtain ⟨u, rfl, ru⟩ := reps1 r
  clear e0
  cases x with
  | scr ys =>
    cases e
    obtain ⟨a, us, rfl, h2, h3, h4⟩ := ru
    refine call_len_seq pins s σ H _ vs Q I rv ⟨a, us, rfl, .inl (h2.elim (fun q => .inl q.1) .inr), ?_⟩
    rw [← h4.length]
    exact p.here rh rfl
  | dict _ => obtain ⟨_, _, f⟩ := ru; exact f.elim
  | ref l =>
    simp only [lenOp, Option.map_eq_some_iff] at e
    obtain ⟨ys, e1, rfl⟩ := e
    obtain ⟨a, rfl, ha⟩ := ru
    simp only [items] at e1
    cases hc : h[l]? with
    | none => rw [hc] at e1; simp at e1
    | some c =>
      cases c with
      | lst zs =>
        rw [hc] at e1
        cases e1
        obtain ⟨us, h1, h2, h3⟩ := rh.cell l a _ ha hc
        refine call_len_seq pins s σ H _ vs Q I rv ⟨a, us, rfl, .inl (.inl (.inl h1)), ?_⟩
        rw [← h3.length]
        exact p.here rh rfl
  | d y =>
    cases y with
    | str t =>
      simp only [lenOp] at e
      split at e
      · rename_i hl
        cases e
        rw [ru.str] at rv
        exact call_len_str pins s σ H _ vs Q I rv ⟨⟨t.toArray⟩, rfl, by rw [← lim_size]; simpa [Str.length] using hl, p.here rh (by simp [Str.length, Rep, RepD])⟩
      · cases e
    | list ys =>
      cases e
      obtain ⟨a, us, rfl, h2, h3, h4⟩ := ru.list
      refine call_len_seq pins s σ H _ vs Q I rv ⟨a, us, rfl, .inl h2.sq, ?_⟩
      rw [← h4.length]
      exact p.here rh rfl
    | tup ys =>
      cases e
      obtain ⟨a, us, rfl, h2, h3, h4⟩ := ru.tup
      refine call_len_seq pins s σ H _ vs Q I rv ⟨a, us, rfl, .inr h2.sq, ?_⟩
      rw [← h4.length]
      exact p.here rh rfl
    | _ => cases e
theorem onList_of {f : List D → Option D} {h : Hh} {v w : PV} (e : onList f h v = some w) : ∃ xs d, deref h v = some (.list xs) ∧ f xs = some d ∧ w = .d d := by
  unfold onList at e
  split at e
  · rename_i xs e1
    simp only [Option.map_eq_some_iff] at e
    obtain ⟨d, e2, rfl⟩ := e
    exact ⟨xs, d, e1, e2, rfl⟩
  · cases e
theorem bl_onList {f : Value} {g : List D → Option D} {r : List V → Hp → VK → Prop} (c : CallR X f r)
    (hr : ∀ (z m : List Addr) (H : Hp) (a : Addr) (us : List V) (xs : List D) (d : D) (Q : VK), SqL X.K H a us → RepDs X.K z m H xs us → g xs = some d → (∀ y, RepD X.K z m H d y → Q y H) → r [.ref a] H Q) : CallR X f (CBl X fun h xs => one (onList g h) xs) := by
  intro pins s σ H us vs Q I rv q
  obtain ⟨xs, h, z, m, w, r', rh, e0, p⟩ := q
  obtain ⟨x, rfl, e⟩ := one_of e0
  clear e0
  obtain ⟨ys, d, e1, e2, rfl⟩ := onList_of e
  obtain ⟨u, rfl, ru⟩ := reps1 r'
  obtain ⟨a, vs', rfl, hs, hz, rd⟩ := deref_list rh ru e1
  exact c pins s σ H _ vs Q I rv (hr z m H a vs' ys d Q hs rd e2 fun y ry => p.here rh ry)
theorem bl_all (hc : X.calm = true) : CallR X (.builtin "all") (CBl X fun h xs => blt h .all xs) := bl_onList (cr_all hc) fun z m H a us xs d Q hs rd e q => by
  simp only [Option.map_eq_some_iff] at e
  obtain ⟨bs, e, rfl⟩ := e
  rw [bools_of rd e] at hs
  exact ⟨a, bs, rfl, hs, q _ rfl⟩
theorem bl_any (hc : X.calm = true) : CallR X (.builtin "any") (CBl X fun h xs => blt h .any xs) := bl_onList (cr_any hc) fun z m H a us xs d Q hs rd e q => by
  simp only [Option.map_eq_some_iff] at e
  obtain ⟨bs, e, rfl⟩ := e
  rw [bools_of rd e] at hs
  exact ⟨a, bs, rfl, hs, q _ rfl⟩
theorem bl_sum (hc : X.calm = true) : CallR X (.builtin "sum") (CBl X fun h xs => blt h .sum xs) := bl_onList (cr_sum hc) fun z m H a us xs d Q hs rd e q => by
  simp only [Option.map_eq_some_iff] at e
  obtain ⟨bs, e, rfl⟩ := e
  rw [ints_of rd e] at hs
  exact ⟨a, bs, rfl, hs, q _ rfl⟩
theorem onSeq_of {f : List D → Option D} {h : Hh} {v w : PV} (e : onSeq f h v = some w) : (∃ xs d, deref h v = some (.list xs) ∧ f xs = some d ∧ w = .d d) ∨ ∃ xs d, deref h v = some (.tup xs) ∧ f xs = some d ∧ w = .d d := by
  unfold onSeq at e
  split at e
  · rename_i xs e1
    obtain ⟨d, e2, rfl⟩ := Option.map_eq_some_iff.mp e
    exact .inl ⟨xs, d, e1, e2, rfl⟩
  · rename_i xs e1
    obtain ⟨d, e2, rfl⟩ := Option.map_eq_some_iff.mp e
    exact .inr ⟨xs, d, e1, e2, rfl⟩
  · cases e
theorem bl_onSeq {f : Value} {g : List D → Option D} {r : List V → Hp → VK → Prop} (c : CallR X f r)
    (hr : ∀ (z m : List Addr) (H : Hp) (a : Addr) (us : List V) (xs : List D) (d : D) (Q : VK), SqL X.K H a us → RepDs X.K z m H xs us → g xs = some d → (∀ y, RepD X.K z m H d y → Q y H) → r [.ref a] H Q)
    (ht : ∀ (pins : List (Addr × Obj)) (s : Shared) (σ : L2.St) (z m : List Addr) (H : Hp) (a : Addr) (us : List V) (xs : List D) (d : D) (Q : VK), Inv X pins σ H s → SqT X.K H a us → RepDs X.K z m H xs us → g xs = some d → (∀ y, RepD X.K z m H d y → Q y H) → wpAny (model X.prog X.w) X.A (PySem.call f [.ref a]) (EP X pins σ Q) X.xe s) :
    CallR X f (CBl X fun h xs => one (onSeq g h) xs) := by
  intro pins s σ H us vs Q I rv q
  obtain ⟨xs, h, z, m, w, r', rh, e0, p⟩ := q
  obtain ⟨x, rfl, e⟩ := one_of e0
  clear e0
  rcases onSeq_of e with ⟨ys, d, e1, e2, rfl⟩ | ⟨ys, d, e1, e2, rfl⟩
  · obtain ⟨u, rfl, ru⟩ := reps1 r'
    obtain ⟨a, vs', rfl, hs, hz, rd⟩ := deref_list rh ru e1
    exact c pins s σ H _ vs Q I rv (hr z m H a vs' ys d Q hs rd e2 fun y ry => p.here rh ry)
  · obtain ⟨u, rfl, ru⟩ := reps1 r'
    obtain ⟨a, vs', rfl, hs, hz, rd⟩ := deref_tup rh ru e1
    obtain ⟨u', rfl, ru'⟩ := vals1 rv
    cases ru'
    exact ht pins s σ z m H a vs' ys d Q I hs.sq rd e2 fun y ry => p.here rh ry
theorem intsOf_map : ∀ {xs : List D} {ns : List Int}, intsOf xs = some ns → xs = ns.map D.int
  | [], _, e => by simp [intsOf] at e; subst e; rfl
  | .int b :: xs, _, e => by
    simp only [intsOf, Option.map_eq_some_iff] at e
    obtain ⟨cs, e, rfl⟩ := e
    rw [intsOf_map e]; rfl
  | .none :: _, _, e => by simp [intsOf] at e
  | .bool _ :: _, _, e => by simp [intsOf] at e
  | .str _ :: _, _, e => by simp [intsOf] at e
  | .list _ :: _, _, e => by simp [intsOf] at e
  | .tup _ :: _, _, e => by simp [intsOf] at e
theorem pys_ints (ns : List Int) : D.pys (ns.map D.int) = ns.map PyData.int := by
  rw [D.pys_map, List.map_map]
  rfl
theorem maxL_fold : ∀ (ns : List Int) (n : Int), ns.foldl max n = maxL n ns
  | [], _ => rfl
  | x :: ns, n => by
    rw [List.foldl_cons, maxL, maxL_fold ns]
    congr 1
    rw [Int.max_def]
    split <;> split <;> omega
theorem minL_fold : ∀ (ns : List Int) (n : Int), ns.foldl min n = minL n ns
  | [], _ => rfl
  | x :: ns, n => by
    rw [List.foldl_cons, minL, minL_fold ns]
    congr 1
    rw [Int.min_def]
    split <;> split <;> omega
theorem alike_intsAll (n : Int) (ns : List Int) : PySem.W.AlikeAll (PyData.int n :: ns.map PyData.int) := by
  have h : ∀ x ∈ (PyData.int n :: ns.map PyData.int), ∃ i, x = PyData.int i := fun x hx => by
    rcases List.mem_cons.mp hx with rfl | hx
    · exact ⟨n, rfl⟩
    · obtain ⟨i, _, rfl⟩ := List.mem_map.mp hx
      exact ⟨i, rfl⟩
  refine ⟨fun x hx y hy => ?_, fun x hx => ?_⟩
  · obtain ⟨i, rfl⟩ := h x hx
    obtain ⟨j, rfl⟩ := h y hy
    rfl
  · obtain ⟨i, rfl⟩ := h x hx
    simp
theorem depth_intsAll (n : Int) (ns : List Int) : PyData.depthAll (PyData.int n :: ns.map PyData.int) = 0 := by
  have : ∀ ns : List Int, PyData.depthAll (ns.map PyData.int) = 0 := fun ns => by
    induction ns with
    | nil => rfl
    | cons x xs ih => rw [List.map_cons, PyData.depthAll, ih]; rfl
  exact this (n :: ns)
theorem bl_max (hc : X.calm = true) (hrm : Room k X.A) : CallR X (.builtin "max") (CBl X fun h xs => blt h .max xs) := bl_onSeq (cr_max hc) (fun z m H a us xs d Q hs rd e q => by
  unfold maxOf at e
  split at e
  · rename_i i is e1
    cases e
    rw [ints_of rd e1] at hs
    exact ⟨a, i :: is, rfl, hs, by simp, fun k h1 h2 => q _ (by rw [maxL_eq is i k h1 h2]; rfl)⟩
  · cases e) fun pins s σ z m H a us xs d Q I hs rd e q => by
  unfold maxOf at e
  split at e
  · rename_i i is e1
    cases e
    obtain ⟨its, rv, hl, _⟩ := I.tuple hs
    obtain ⟨as, h4⟩ := Dp.readsAll I _ _ its (RepDs.dp rd) rv
    rw [intsOf_map e1, pys_ints] at h4
    refine PySem.W.max_tuple_data (I.ok.hd hc) hl (x := .int i) (xs := is.map PyData.int) h4 (alike_intsAll i is) (by rw [depth_intsAll]; have := units_of hrm; omega) fun j v h' tk bs _ r kp => ?_
    rw [PySem.W.maxD_ints, maxL_fold] at r
    cases r
    exact ⟨.int _, H, I.kept kp, ⟨_, rfl⟩, q _ rfl⟩
  · cases e
theorem bl_min (hc : X.calm = true) (hrm : Room k X.A) : CallR X (.builtin "min") (CBl X fun h xs => blt h .min xs) := bl_onSeq (cr_min hc) (fun z m H a us xs d Q hs rd e q => by
  unfold minOf at e
  split at e
  · rename_i i is e1
    cases e
    rw [ints_of rd e1] at hs
    exact ⟨a, i :: is, rfl, hs, by simp, fun k h1 h2 => q _ (by rw [minL_eq is i k h1 h2]; rfl)⟩
  · cases e) fun pins s σ z m H a us xs d Q I hs rd e q => by
  unfold minOf at e
  split at e
  · rename_i i is e1
    cases e
    obtain ⟨its, rv, hl, _⟩ := I.tuple hs
    obtain ⟨as, h4⟩ := Dp.readsAll I _ _ its (RepDs.dp rd) rv
    rw [intsOf_map e1, pys_ints] at h4
    refine PySem.W.min_tuple_data (I.ok.hd hc) hl (x := .int i) (xs := is.map PyData.int) h4 (alike_intsAll i is) (by rw [depth_intsAll]; have := units_of hrm; omega) fun j v h' tk bs _ r kp => ?_
    rw [PySem.W.minD_ints, minL_fold] at r
    cases r
    exact ⟨.int _, H, I.kept kp, ⟨_, rfl⟩, q _ rfl⟩
  · cases e
theorem bl_two {f : Value} {g : Int → Int → Int} (c : CallR X f (fun xs H Q => ∃ i j, xs = [.int i, .int j] ∧ Q (.int (g i j)) H)) : CallR X f (CBl X fun h xs => two (intOp fun i j => some (g i j)) xs) := by
  intro pins s σ H us vs Q I rv q
  obtain ⟨xs, h, z, m, w, r', rh, e0, p⟩ := q
  obtain ⟨x, y, rfl, e⟩ := two_of e0
  clear e0
  unfold intOp at e
  split at e
  · cases e
    obtain ⟨u, v, rfl, r1, r2⟩ := reps2 r'
    rw [r1.int, r2.int] at rv
    exact c pins s σ H _ vs Q I rv ⟨_, _, rfl, p.here rh rfl⟩
  · cases e
theorem bl_max2 (hc : X.calm = true) : CallR X (.builtin "max") (CBl X fun h xs => blt h .max2 xs) := bl_two (call_max2 hc)
theorem bl_min2 (hc : X.calm = true) : CallR X (.builtin "min") (CBl X fun h xs => blt h .min2 xs) := bl_two (call_min2 hc)
theorem bl_int : CallR X (.type "int") (CBl X fun h xs => blt h .int xs) := by
  intro pins s σ H us vs Q I rv q
  obtain ⟨xs, h, z, m, w, r', rh, e0, p⟩ := q
  obtain ⟨x, rfl, e⟩ := one_of e0
  clear e0
  obtain ⟨u, rfl, ru⟩ := reps1 r'
  unfold intOf at e
  split at e
  · cases e
    rw [ru.int] at rv
    exact call_int1 pins s σ H _ vs Q I rv (.inl ⟨_, rfl, p.here rh rfl⟩)
  · cases e
    rw [show u = .bl _ by simpa [Rep, RepD] using ru] at rv
    exact call_int1 pins s σ H _ vs Q I rv (.inr ⟨_, rfl, p.here rh rfl⟩)
  · cases e
theorem bl_ord : CallR X (.builtin "ord") (CBl X fun h xs => blt h .ord xs) := by
  intro pins s σ H us vs Q I rv q
  obtain ⟨xs, h, z, m, w, r', rh, e0, p⟩ := q
  obtain ⟨x, rfl, e⟩ := one_of e0
  clear e0
  obtain ⟨u, rfl, ru⟩ := reps1 r'
  unfold ordOf at e
  split at e
  · cases e
    rw [ru.str] at rv
    exact call_ord pins s σ H _ vs Q I rv ⟨_, rfl, rfl, p.here rh rfl⟩
  · cases e
theorem bl_abs : CallR X (.builtin "abs") (CBl X fun h xs => blt h .abs xs) := by
  intro pins s σ H us vs Q I rv q
  obtain ⟨xs, h, z, m, w, r', rh, e0, p⟩ := q
  obtain ⟨x, rfl, e⟩ := one_of e0
  clear e0
  obtain ⟨u, rfl, ru⟩ := reps1 r'
  unfold absOf at e
  split at e
  · cases e
    rw [ru.int] at rv
    exact call_abs pins s σ H _ vs Q I rv ⟨_, rfl, p.here rh rfl⟩
  · cases e
theorem bl_tuple : CallR X (.type "tuple") (CBl X fun h xs => blt h .tuple xs) := by
  intro pins s σ H us vs Q I rv q
  obtain ⟨xs, h, z, m, w, r', rh, e0, p⟩ := q
  obtain ⟨x, rfl, e⟩ := one_of e0
  clear e0
  obtain ⟨u, rfl, ru⟩ := reps1 r'
  unfold tupleOp at e
  split at e
  · rename_i ys e1
    cases e
    obtain ⟨a, vs', rfl, hs, hz, rd⟩ := deref_list rh ru e1
    exact call_tuple_of pins s σ H _ vs Q I rv ⟨a, vs', rfl, .inl ⟨hs, fun q hq => p.tup rh rd hz hq⟩⟩
  · rename_i ys e1
    cases e
    obtain ⟨a, vs', rfl, hs, hz, rd⟩ := deref_tup rh ru e1
    exact call_tuple_of pins s σ H _ vs Q I rv ⟨a, vs', rfl, .inr ⟨hs.sq, p.here rh (by rw [Rep, RepD]; exact ⟨a, vs', rfl, hs, hz, rd⟩)⟩⟩
  · cases e
theorem bl_list : CallR X (.type "list") (CBl X fun h xs => blt h .list xs) := by
  intro pins s σ H us vs Q I rv q
  obtain ⟨xs, h, z, m, w, r', rh, e0, p⟩ := q
  obtain ⟨x, rfl, e⟩ := one_of e0
  clear e0
  obtain ⟨u, rfl, ru⟩ := reps1 r'
  have gen : ∀ ys, (deref h x = some (.list ys) ∨ deref h x = some (.tup ys)) → w = .d (.list ys) → wpAny (model X.prog X.w) X.A (PySem.call (.type "list") vs) (EP X pins σ Q) X.xe s := by
    rintro ys (e1 | e1) rfl
    · obtain ⟨a, vs', rfl, hs, hz, rd⟩ := deref_list rh ru e1
      exact call_list_of pins s σ H _ vs Q I rv ⟨a, vs', rfl, .inl hs, fun q hq => p.lst rh rd hz hq⟩
    · obtain ⟨a, vs', rfl, hs, hz, rd⟩ := deref_tup rh ru e1
      exact call_list_of pins s σ H _ vs Q I rv ⟨a, vs', rfl, .inr hs.sq, fun q hq => p.lst rh rd hz hq⟩
  unfold listOp at e
  split at e
  · cases e
    obtain ⟨a, us, rfl, h2, h3, h4⟩ := ru
    exact call_list_of pins s σ H _ vs Q I rv ⟨a, us, rfl, .inl (h2.elim (fun q => .inl q.1) .inr), fun q hq => p.lst rh h4 h3 hq⟩
  · split at e
    · rename_i ys e1
      exact gen ys (.inl e1) (Option.some.inj e).symm
    · rename_i ys e1
      exact gen ys (.inr e1) (Option.some.inj e).symm
    · cases e
end
end Ev
end

section
/-! EvSort: sorted(..). -/
set_option autoImplicit false
set_option linter.all false
set_option Elab.async false
set_option maxRecDepth 100000
set_option maxHeartbeats 2000000
namespace Ev
open PySem L2 PyProof.Rows PySem.W PySem.SeqAt

mutual
theorem toks_py : ∀ x : D, keyToks x.py = x.toks
  | .none => rfl
  | .bool _ => rfl
  | .int _ => rfl
  | .str s => by simp [D.py, keyToks, D.toks]
  | .list xs => by rw [D.py, keyToks, D.toks, toksAll_py xs]
  | .tup xs => by rw [D.py, keyToks, D.toks, toksAll_py xs]
theorem toksAll_py : ∀ xs : List D, keyToksAll (D.pys xs) = D.toksAll xs
  | [] => rfl
  | x :: xs => by rw [D.pys, keyToksAll, D.toksAll, toks_py x, toksAll_py xs]
end
theorem ltTok_eq : ∀ a b : Int ⊕ List Nat, itemLt a b = ltTok a b
  | .inl _, .inl _ => rfl
  | .inl _, .inr _ => rfl
  | .inr _, .inl _ => rfl
  | .inr a, .inr b => by
    show PyProof.Rows.strKind.blt a b = ltStr a b
    rw [ltStr_iff]
theorem ltToks_eq : ∀ a b : List (Int ⊕ List Nat), PyProof.Rows.lexLt itemOrd a b = ltToks a b
  | [], [] => rfl
  | [], _ :: _ => rfl
  | _ :: _, [] => rfl
  | x :: r, y :: t => by
    show (itemLt x y || (!itemLt y x && PyProof.Rows.lexLt itemOrd r t)) = _
    rw [ltTok_eq, ltTok_eq, ltToks_eq r t, ltToks]
mutual
theorem like_py : ∀ x y : D, alike x.py y.py = D.like x y
  | .none, y => by cases y <;> simp [D.py, alike, D.like]
  | .bool _, y => by cases y <;> simp [D.py, alike, D.like]
  | .int _, y => by cases y <;> simp [D.py, alike, D.like]
  | .str _, y => by cases y <;> simp [D.py, alike, D.like]
  | .list xs, y => by
    cases y with
    | list ys => simp only [D.py, alike, D.like]; exact likes_py xs ys
    | _ => simp [D.py, alike, D.like]
  | .tup xs, y => by
    cases y with
    | tup ys => simp only [D.py, alike, D.like]; exact likes_py xs ys
    | _ => simp [D.py, alike, D.like]
theorem likes_py : ∀ xs ys : List D, alikeAll (D.pys xs) (D.pys ys) = D.likes xs ys
  | [], _ => by simp [D.pys, alikeAll, D.likes]
  | _ :: _, [] => by simp [D.pys, alikeAll, D.likes]
  | x :: xs, y :: ys => by simp only [D.pys, alikeAll, D.likes, like_py x y, likes_py xs ys]
end

section
variable {prog : Program} {w : World} {A : Around} {E : Value → Shared → Prop} {s : Shared}
/-- tuples that are alike as far as they are equal -/
theorem katLex_weak {b fin : Bool} {Q : Bool → Shared → Prop} : ∀ (xs ys : List D) (i : Nat) (vs ws : List Value) (as bs : List Addr), ReadsAll s.heap vs (D.pys xs) as → ReadsAll s.heap ws (D.pys ys) bs → D.wlikes xs ys = true →
    A.units + min (PyData.depthAll (D.pys xs)) (PyData.depthAll (D.pys ys)) < cLine → (b = true → i = 0 → ∀ x r t, xs = x :: r → x ≠ .tup t) → fin = decide (xs.length < ys.length) → Q (PyProof.Rows.lexLt itemOrd (keyToksAll (D.pys xs)) (keyToksAll (D.pys ys))) s → KatLex prog w A b fin Q (vs.zip ws) i s
  | [], [], i, _, _, _, _, ra, rb, _, _, _, hf, hq => by
    cases ra
    cases rb
    have e : fin = false := by rw [hf]; rfl
    subst e
    rw [lex_irrefl] at hq
    exact kat_nil hq
  | [], y :: ys, i, _, _, _, _, ra, rb, _, _, _, hf, hq => by
    cases ra
    have e : fin = true := by rw [hf]; exact decide_eq_true (Nat.succ_pos _)
    subst e
    rw [D.pys, D.pys, toks_all_cons] at hq
    simp only [keyToksAll] at hq
    rw [lex_diff (O := itemOrd) (by simp)] at hq
    rw [List.zip_nil_left]
    exact kat_nil (by simpa [itemLt] using hq)
  | x :: xs, [], i, _, _, _, _, ra, rb, _, _, _, hf, hq => by
    cases rb
    have e : fin = false := by rw [hf]; exact decide_eq_false (Nat.not_lt_zero _)
    subst e
    rw [D.pys, D.pys, toks_all_cons] at hq
    simp only [keyToksAll] at hq
    rw [lex_diff (O := itemOrd) (by simp)] at hq
    rw [List.zip_nil_right]
    exact kat_nil (by simpa [itemLt] using hq)
  | x :: xs, y :: ys, i, _, _, _, _, ra, rb, h, hu, hb, hf, hq => by
    rw [D.wlikes, Bool.and_eq_true] at h
    have h1 : alike x.py y.py = true := by rw [like_py]; exact h.1
    have hf' : fin = decide (xs.length < ys.length) := by
      rw [hf]
      simp only [List.length_cons, Nat.add_lt_add_iff_right]
    rw [D.pys] at ra rb hu hq
    rw [D.pys] at hu hq
    cases ra with
    | cons r rs =>
      cases rb with
      | cons r' rs' =>
        rw [List.zip_cons_cons]
        refine kat_cons (eqAt_alike x.py y.py A s _ _ _ _ r r' h1 (room_head hu) prog w _ _ ?_)
        cases hx : PyData.eqv x.py y.py with
        | true =>
          rw [dataLt_all_yes h1 hx] at hq
          have h2 : D.wlikes xs ys = true := by
            rw [D.py_eqv] at hx
            simpa [hx] using h.2
          exact kat_yes (katLex_weak xs ys (i + 1) _ _ _ _ rs rs' h2 (room_tail hu) (fun _ hi => absurd hi (Nat.succ_ne_zero i)) hf' hq)
        | false =>
          rw [dataLt_all_no h1 hx] at hq
          refine kat_no (oneLt_alike (fun hbi t => ?_) r r' h1 (ne_none_of h1 hx) (room_head hu) hq)
          rw [Bool.and_eq_true] at hbi
          intro et
          cases x with
          | tup t' => exact hb hbi.1 (by simpa using hbi.2) _ _ t' rfl rfl
          | _ => simp [D.py] at et
theorem kind_some {h : Heap} {xs : List D} {v : Value} {x : D} (hx : x ∈ xs) {as : List Addr} (r : Reads h v x.py as) : (dataKind h (xs.map D.py)).keyOf v = some (keyToks x.py) := by
  have q : ∃ d, d ∈ xs.map D.py ∧ ∃ as, Reads h v d as := ⟨x.py, List.mem_map_of_mem hx, as, r⟩
  have e : (dataKind h (xs.map D.py)).keyOf v = some (keyToks q.choose) := by
    show (open Classical in if q : ∃ d, d ∈ xs.map D.py ∧ ∃ as, Reads h v d as then some (keyToks q.choose) else none) = _
    rw [dif_pos q]
  obtain ⟨h1, as', h2⟩ := q.choose_spec
  obtain ⟨y, _, ey⟩ := List.mem_map.mp h1
  have hp : q.choose.plain = true := by rw [← ey]; exact D.plain y
  rw [e, ← readOf_plain hp h2, readOf_plain (D.plain x) r]
theorem kind_inv {h : Heap} {xs : List D} {v : Value} {k : List (Int ⊕ List Nat)} (e : (dataKind h (xs.map D.py)).keyOf v = some k) : ∃ x as, x ∈ xs ∧ Reads h v x.py as ∧ k = keyToks x.py := by
  obtain ⟨d, as, hd, r, hk⟩ := dataKind_inv e
  obtain ⟨x, hx, rfl⟩ := List.mem_map.mp hd
  exact ⟨x, as, hx, r, hk⟩
theorem sortsAt_ev {vs : List Value} {xs : List D} (e : EachIs (fun v x => ∃ as, Reads s.heap v (D.py x) as) vs xs) (hs : sortable xs = true) (hu : A.units + 60 < cLine) : SortsAt prog w A s (dataKind s.heap (xs.map D.py)) vs := by
  unfold sortable at hs
  rw [Bool.and_eq_true] at hs
  obtain ⟨hsh, hs⟩ := hs
  have dep : ∀ x ∈ xs, x.py.depth ≤ 50 := fun x hx => D.shal_depth x 50 (List.all_eq_true.mp hsh x hx)
  have room : ∀ {x y : D}, x ∈ xs → A.units + min x.py.depth y.py.depth < cLine := fun {x y} hx => by
    have := dep x hx
    omega
  refine ⟨fun v hv => ?_, ?_⟩
  · obtain ⟨x, hx, as, r⟩ := e.left v hv
    exact ⟨_, kind_some hx r⟩
  · rw [Bool.or_eq_true] at hs
    rcases hs with ht | hn
    · have tup : ∀ x ∈ xs, ∃ a r, x = .tup (a :: r) ∧ ∀ y ∈ xs, ∃ b t, y = .tup (b :: t) ∧ D.wlikes (a :: r) (b :: t) = true := fun x hx => by
        have q := List.all_eq_true.mp ht x hx
        split at q
        · rename_i a r
          refine ⟨a, r, rfl, fun y hy => ?_⟩
          have q2 := List.all_eq_true.mp q y hy
          split at q2
          · exact ⟨_, _, rfl, q2⟩
          · cases q2
        · cases q
      cases hxs : xs with
      | nil =>
        subst hxs
        cases e
        exact ⟨general', fun E x y a b Q ha _ _ => (by
          obtain ⟨d, _, hd, _⟩ := kind_inv ha
          exact absurd hd (by simp)), fun h2 => absurd h2 (by simp)⟩
      | cons z zs =>
        rw [← hxs]
        have hz : z ∈ xs := by rw [hxs]; exact List.mem_cons_self ..
        obtain ⟨a0, r0, rfl, hall⟩ := tup z hz
        have hfirst : ∀ a r, D.tup (a :: r) ∈ xs → dataType a.py = dataType a0.py := fun a r hm => by
          obtain ⟨b, t, eb, hw⟩ := hall _ hm
          cases eb
          rw [D.wlikes, Bool.and_eq_true] at hw
          exact (dataType_alike (by rw [like_py]; exact hw.1)).symm
        have e' : EachIs (fun v d => ∃ as, Reads s.heap v d as) vs (xs.map D.py) := PySem.W.each_map D.py e
        refine ⟨tuples' (dataType a0.py != Value.type "tuple"), ?_, fun h2 E Q hq => ?_⟩
        · intro E x y a b Q ha hb hq
          obtain ⟨d, as, hd, ra, rfl⟩ := kind_inv ha
          obtain ⟨d', as', hd', rb, rfl⟩ := kind_inv hb
          obtain ⟨x1, r1, rfl, hw⟩ := tup d hd
          obtain ⟨x2, r2, ed, hw⟩ := hw d' hd'
          subst ed
          have hroom := room (y := .tup (x2 :: r2)) hd
          have hq' : Q (dataLt (D.tup (x1 :: r1)).py (D.tup (x2 :: r2)).py) s := hq
          rw [D.py, D.py, dataLt_tuple] at hq'
          rw [D.py, D.py] at hroom
          rw [D.py] at ra rb
          cases ra with
          | @tuple l o ws n _ _ h1 h2 h3 h4 =>
            cases rb with
            | @tuple l' o' ws' n' _ _ k1 k2 k3 k4 =>
              have n1 : ws.size = (x1 :: r1).length := by
                have := SeqAt.ReadsAll.length _ _ _ h4
                rw [D.pys_map, List.length_map] at this
                simpa using this
              have n2 : ws'.size = (x2 :: r2).length := by
                have := SeqAt.ReadsAll.length _ _ _ k4
                rw [D.pys_map, List.length_map] at this
                simpa using this
              refine kat_lt h1 h3 k1 k3 (katLex_weak (x1 :: r1) (x2 :: r2) 0 _ _ _ _ h4 k4 hw (by have q := SeqAt.room_in hroom; omega) (fun hb _ x r t ex => ?_) (by rw [n1, n2]) hq')
              obtain ⟨rfl, rfl⟩ := List.cons.inj ex
              rw [← hfirst _ _ hd] at hb
              intro et
              subst et
              exact dataType_tuple hb (D.pys t) (by rw [D.py])
        · obtain ⟨fs, t1, t2, t3⟩ := each_katTups e' fun d hd => by
            obtain ⟨x, hx, rfl⟩ := List.mem_map.mp hd
            obtain ⟨a, r, rfl, _⟩ := tup x hx
            exact ⟨a.py, D.pys r, by rw [D.py, D.pys]⟩
          refine kat_kind (T := dataType a0.py) t1 (by omega) (fun f hf => ?_) (beq_self_eq_true _) hq
          obtain ⟨x, r, as, m1, m2⟩ := t3 f hf
          obtain ⟨y, hy, ey⟩ := List.mem_map.mp m1
          obtain ⟨a, t, rfl, _⟩ := tup y hy
          rw [D.py, D.pys] at ey
          cases ey
          rw [← hfirst a t hy]
          exact looks_reads m2
    · have non : ∀ x ∈ xs, x.py ≠ .none ∧ (∀ t, x.py ≠ .tuple t) ∧ ∀ y ∈ xs, alike x.py y.py = true := fun x hx => by
        have q := List.all_eq_true.mp hn x hx
        rw [Bool.and_eq_true] at q
        refine ⟨?_, ?_, fun y hy => by rw [like_py]; exact List.all_eq_true.mp q.2 y hy⟩
        · cases x <;> simp_all [D.py]
        · intro t
          cases x <;> simp_all [D.py]
      refine ⟨oneType', ?_, fun h2 E Q hq => ?_⟩
      · intro E x y a b Q ha hb hq
        obtain ⟨d, as, hd, ra, rfl⟩ := kind_inv ha
        obtain ⟨d', as', hd', rb, rfl⟩ := kind_inv hb
        rw [keyLt'_oneType]
        exact oneLt_alike (fun _ => (non d hd).2.1) ra rb ((non d hd).2.2 d' hd') (non d hd).1 (room hd) hq
      · cases hxs : xs with
        | nil =>
          subst hxs
          cases e
          exact absurd h2 (by simp)
        | cons z zs =>
          have hz : z ∈ xs := by rw [hxs]; exact List.mem_cons_self ..
          refine kas_kind (T := dataType z.py) h2 (fun v hv => ?_) (dataType_other (non z hz).2.1) (beq_self_eq_true _) hq
          obtain ⟨d, hd, as, r⟩ := e.left v hv
          rw [← dataType_alike ((non d hd).2.2 z hz)]
          exact looks_reads r
end
section
variable {prog : Program} {w : World} {A : Around} {E : Value → Shared → Prop} {s : Shared}
theorem collect_tup {l : Addr} {vs : List Value} {Q : List Value → Shared → Prop} (hl : s.heap.IsTuple l vs.toArray)
    (h : Q vs { s with heap := (s.heap.push (seqObj "list" #[] 0)).update s.heap.objs.size (Obj.mapSeq (· ++ vs.toArray)) }) (hsz : vs.length ≤ sizeLine) :
    wpAny (model prog w) A (collect (.ref l)) Q E s := by
  obtain ⟨o, ho, hc, n, hd⟩ := id hl
  unfold collect
  refine wpAny_bind (wpAny_runValue (codeAny_builtin entry_proto_collect' ?_))
  show wpAny _ _ (do again (.builtin "list.__iadd__" ⟨[← newList [], .ref l], []⟩)) _ _ s
  refine wpAny_bind (wpAny_newList (wpAny_pure ⟨Code.quiet_builtin _ (by decide +kernel), codeAny_builtin entry_list_iadd' ?_⟩))
  show wpAny _ _ (Builtin.List.listExtendWith (.ref s.heap.objs.size) (.ref l) (.ref s.heap.objs.size)) _ _ { s with heap := s.heap.push (seqObj "list" #[] 0) }
  unfold Builtin.List.listExtendWith
  have ho' : (s.heap.push (seqObj "list" #[] 0)).get? l = some o := Heap.get?_push_of_some _ ho
  refine wpAny_bind (wpAny_typeOf (T := "tuple") ⟨o, ho', hc⟩ ?_)
  have ht : (Value.type "tuple" == Value.type "tuple") = true := by rfl
  rw [if_pos (by rw [ht]; simp)]
  refine wpAny_bind (listItems_at ho' hd ?_)
  refine wpAny_bind (listItems_at (xs := #[]) (n := 0) (Heap.get?_push_size _ rfl) rfl ?_)
  rw [if_neg (by simp)]
  refine wpAny_bind (listUpdate_at (xs := #[]) (n := 0) (Heap.get?_push_size _ rfl) rfl ?_ (Nat.zero_le _) (by show (#[] ++ vs.toArray).size ≤ sizeLine + 1; simp only [Array.size_append, List.size_toArray, List.length_nil]; omega))
  refine wpAny_pure ?_
  show wpAny (model prog w) A (do
      let o ← load s.heap.objs.size
      match o.data with
      | .seq xs _ => pure xs.toList
      | _ => unsupported "internal:collect") Q E { s with heap := (s.heap.push (seqObj "list" #[] 0)).update s.heap.objs.size (Obj.mapSeq (· ++ vs.toArray)) }
  refine wpAny_bind (wpAny_load (get?_update_seq (Heap.get?_push_size _ rfl) _) ?_)
  show wpAny _ _ (pure ((#[] : Array Value) ++ vs.toArray).toList) Q E _
  rw [show ((#[] : Array Value) ++ vs.toArray).toList = vs by simp]
  exact wpAny_pure h
theorem sorted_tup {l : Addr} {vs : List Value} {κ : PyProof.Rows.KeyKind} {Q : Value → Shared → Prop} (hl : s.heap.IsTuple l vs.toArray) (S : SortsAt prog w A.in1.in1 { s with heap := sortingHeap (copyHeap s.heap vs) (s.heap.objs.size + 1) vs } κ vs) (hL : vs.length ≤ sizeLine)
    (h : Q (.ref (s.heap.objs.size + 1)) { s with heap := sortedAll s.heap vs (sortVals κ false vs vs).toArray }) : wpAny (model prog w) A (PySem.call (.builtin "sorted") [.ref l]) Q E s := by
  refine call_function_entry_kw (kw := []) kind_sorted plain_sorted entry_sorted (args_sorted1 _) ?_
  unfold Builtin.«sorted»
  refine wpAny_bind (m := checkCount "sorted" 1 1 _) (wpAny_pure ?_)
  refine wpAny_bind (collect_tup hl ?_ hL)
  refine wpAny_bind (wpAny_newList ?_ hL)
  have hsz : ((s.heap.push (seqObj "list" #[] 0)).update s.heap.objs.size (Obj.mapSeq (· ++ vs.toArray))).objs.size = s.heap.objs.size + 1 := by
    rw [Heap.size_update, size_push']
  show wpAny _ _ _ _ _ { s with heap := copyHeap s.heap vs }
  rw [hsz]
  refine wpAny_bind (wpAny_holding (wpAny_call_entry_kw slot_list_sort ⟨_, copyHeap_at s.heap vs, rfl⟩ entry_list_sort ?body (args_list_sort _)))
  case body =>
    show wpAny (model prog w) A.in1.in1 (Builtin.«list.sort» ⟨[.ref (s.heap.objs.size + 1)], []⟩) _ _ _
    refine wpAny_mono (list_sort_vals (P := fun f s' => f = .done (.ret .none) ∧ Q (.ref (s.heap.objs.size + 1)) s') (s := { s with heap := copyHeap s.heap vs }) (copyHeap_at s.heap vs) S hL ⟨rfl, h⟩) (fun f s' hf => ?_) fun _ _ e => e
    obtain ⟨rfl, hq⟩ := hf
    exact ⟨_, rfl, wpAny_pure ⟨_, rfl, hq⟩⟩
end
section
variable {K : PySem.W.Frag} {z m : List Addr} {H : Hp}
theorem each_of : ∀ {xs : List D} {us : List V} {vs : List Value}, RepDs K z m H xs us → Vals us vs → EachIs (fun v (p : D × V) => RelV p.2 v ∧ RepD K z m H p.1 p.2) vs (xs.zip us)
  | [], _, _, r, h => by
    rw [RepDs] at r
    subst r
    cases h
    exact .nil
  | x :: xs, _, _, r, h => by
    rw [RepDs] at r
    obtain ⟨u, t, rfl, r1, r2⟩ := r
    cases h with
    | cons h1 h2 => exact .cons ⟨h1, r1⟩ (each_of r2 h2)
theorem of_each : ∀ {vs : List Value} {bs : List (D × V)}, EachIs (fun v (p : D × V) => RelV p.2 v ∧ RepD K z m H p.1 p.2) vs bs → RepDs K z m H (bs.map (·.1)) (bs.map (·.2)) ∧ Vals (bs.map (·.2)) vs
  | _, _, .nil => ⟨by rw [List.map_nil, RepDs]; rfl, .nil⟩
  | _, _, .cons (b := b) h t => by
    obtain ⟨h1, h2⟩ := of_each t
    refine ⟨?_, .cons h.1 h2⟩
    rw [List.map_cons, RepDs]
    exact ⟨b.2, _, rfl, h.2, h1⟩
end
section
variable {X : Cx} {k : Nat}
theorem sort_fin {pins : List (Addr × Obj)} {s : Shared} {σ : L2.St} {H : Hp} {z m : List Addr} {h : Hh} {xs : List D} {us : List V} {its : List Value} {Q : VK} (hr : Room k X.A) (I : Inv X pins σ H s) (rh : RelH X.K z m H h) (rd : RepDs X.K z m H xs us) (rv : Vals us its) (hz : us.length ≤ sizeLine) (hs : sortable xs = true)
    (p : Post X.K z m H Q (.d (.list (sortD xs))) h) :
    SortsAt X.prog X.w X.A.in1.in1 { s with heap := sortingHeap (copyHeap s.heap its) (s.heap.objs.size + 1) its } (dataKind (sortingHeap (copyHeap s.heap its) (s.heap.objs.size + 1) its) (xs.map D.py)) its ∧ its.length ≤ sizeLine ∧
    EP X pins σ Q (.ref (s.heap.objs.size + 1)) { s with heap := sortedAll s.heap its (sortVals (dataKind (sortingHeap (copyHeap s.heap its) (s.heap.objs.size + 1) its) (xs.map D.py)) false its its).toArray } := by
  have hil : its.length ≤ sizeLine := by rw [← rv.length]; exact hz
  have e1 := each_of rd rv
  have rd1 : ∀ (g : Heap), (∀ b o, s.heap.get? b = some o → g.get? b = some o) → ∀ {xs : List D} {us : List V} {its : List Value}, RepDs X.K z m H xs us → Vals us its → EachIs (fun v x => ∃ as, Reads g v (D.py x) as) its xs := by
    intro g hg xs
    induction xs with
    | nil =>
      intro us its r h
      rw [RepDs] at r
      subst r
      cases h
      exact .nil
    | cons x xs ih =>
      intro us its r h
      rw [RepDs] at r
      obtain ⟨u, t, rfl, r1, r2⟩ := r
      cases h with
      | cons h1 h2 =>
        obtain ⟨as, q⟩ := Dp.reads I _ _ _ r1.dp h1
        exact .cons ⟨as, PyProof.Rows.Reads.keeps (fun _ _ e => hg _ _ e) q⟩ (ih r2 h2)
  have er := rd1 (sortingHeap (copyHeap s.heap its) (s.heap.objs.size + 1) its) (fun _ _ => sorting_copy_old) rd rv
  have hu : X.A.in1.in1.units + 60 < cLine := by
    have := units_of hr
    show X.A.units + 1 + 1 + 60 < cLine
    omega
  refine ⟨sortsAt_ev (s := { s with heap := sortingHeap (copyHeap s.heap its) (s.heap.objs.size + 1) its }) er hs hu, hil, ?_⟩
  have hk : EachIs (fun v (b : D × V) => (dataKind (sortingHeap (copyHeap s.heap its) (s.heap.objs.size + 1) its) (xs.map D.py)).keyOf v = some (keyToks b.1.py)) its (xs.zip us) := by
    have gen : ∀ {ys : List D} {us : List V} {its' : List Value}, (∀ y ∈ ys, y ∈ xs) → RepDs X.K z m H ys us → EachIs (fun v x => ∃ as, Reads (sortingHeap (copyHeap s.heap its) (s.heap.objs.size + 1) its) v (D.py x) as) its' ys →
        EachIs (fun v (b : D × V) => (dataKind (sortingHeap (copyHeap s.heap its) (s.heap.objs.size + 1) its) (xs.map D.py)).keyOf v = some (keyToks b.1.py)) its' (ys.zip us) := by
      intro ys
      induction ys with
      | nil =>
        intro us its' _ r h
        cases h
        exact .nil
      | cons y ys ih =>
        intro us its' hm r h
        rw [RepDs] at r
        obtain ⟨u, t, rfl, r1, r2⟩ := r
        cases h with
        | cons h1 h2 =>
          obtain ⟨as, q⟩ := h1
          exact .cons (kind_some (hm y (List.mem_cons_self ..)) q) (ih (fun y hy => hm y (List.mem_cons_of_mem _ hy)) r2 h2)
    exact gen (fun _ h => h) rd er
  have out := sortVals_each (κ := dataKind (sortingHeap (copyHeap s.heap its) (s.heap.objs.size + 1) its) (xs.map D.py)) (rev := false) (fun b : D × V => keyToks b.1.py) e1 hk
  obtain ⟨o1, o2⟩ := of_each out
  have hmap : ((xs.zip us).mergeSort (sortLe (dataKind (sortingHeap (copyHeap s.heap its) (s.heap.objs.size + 1) its) (xs.map D.py)).toKeyOrd false fun b : D × V => keyToks b.1.py)).map (·.1) = sortD xs := by
    unfold sortD
    rw [List.map_mergeSort (s := fun a b => !ltToks b.toks a.toks)]
    · rw [List.map_fst_zip (by rw [rd.length]; exact Nat.le_refl _)]
    · intro a _ b _
      show (!PyProof.Rows.lexLt itemOrd (keyToks b.1.py) (keyToks a.1.py)) = _
      rw [ltToks_eq, toks_py, toks_py]
  rw [hmap] at o1
  obtain ⟨ep, he'⟩ := PyProof.Rows.sortedAll_at s.heap its (sortVals (dataKind (sortingHeap (copyHeap s.heap its) (s.heap.objs.size + 1) its) (xs.map D.py)) false its its).toArray
  have hl2 : (((xs.zip us).mergeSort (sortLe (dataKind (sortingHeap (copyHeap s.heap its) (s.heap.objs.size + 1) its) (xs.map D.py)).toKeyOrd false fun b : D × V => keyToks b.1.py)).map (·.2)).length ≤ sizeLine := by
    rw [o2.length, sortVals_length false rfl]
    exact hil
  generalize hys : ((xs.zip us).mergeSort (sortLe (dataKind (sortingHeap (copyHeap s.heap its) (s.heap.objs.size + 1) its) (xs.map D.py)).toKeyOrd false fun b : D × V => keyToks b.1.py)).map (·.2) = ys at hl2 o1 o2
  exact ⟨.ref _, upd H (s.heap.objs.size + 1) (.lst ys), I.laid (t' := s.toks) (fun _ _ => PyProof.Rows.sortedAll_old) (Nat.le_succ _) ⟨hl2, _, ep, o2, he'⟩, rfl, p.lst rh o1 hl2 (I.hok.fresh (Nat.le_succ _))⟩
theorem bl_sorted (hr : Room k X.A) : CallR X (.builtin "sorted") (CBl X fun h xs => blt h .sorted xs) := by
  intro pins s σ H us vs Q I rv q
  obtain ⟨xs, h, z, m, v, r, rh, e0, p⟩ := q
  obtain ⟨x, rfl, e⟩ := one_of e0
  obtain ⟨u, rfl, ru⟩ := reps1 r
  unfold sortedOp at e
  split at e
  · rename_i ys hd
    split at e
    · rename_i hs
      cases e
      obtain ⟨a, ws, rfl, hq, hz, rd⟩ := deref_list rh ru hd
      obtain ⟨its, rw', hl, _⟩ := I.list hq
      obtain ⟨u', rfl, ru'⟩ := vals1 rv
      cases ru'
      obtain ⟨S, hL, fin⟩ := sort_fin hr I rh rd rw' hz hs p
      exact sorted_vals hl.isList S hL fin
    · cases e
  · rename_i ys hd
    split at e
    · rename_i hs
      cases e
      obtain ⟨a, ws, rfl, hq, hz, rd⟩ := deref_tup rh ru hd
      obtain ⟨its, rw', hl, _⟩ := I.tuple hq.sq
      obtain ⟨u', rfl, ru'⟩ := vals1 rv
      cases ru'
      obtain ⟨S, hL, fin⟩ := sort_fin hr I rh rd rw' hz hs p
      exact sorted_tup hl S hL fin
    · cases e
  · cases e
end
end Ev
end

section
/-! EvSnd3: built-ins by their names, isinstance, items, slices. -/
set_option autoImplicit false
set_option linter.all false
set_option Elab.async false
set_option maxRecDepth 100000
set_option maxHeartbeats 1000000
namespace Ev
open PySem L2 PyProof.Rows

section
variable {P : TrP} {T : Nat → Option Fn} {C : Nat → Option PV} {XC : Nat → Option Addr} {k : Nat} {N : List Str} {sc : Scope} {X : Cx} {W : WX}
theorem starEachs {e : Expr} {es : List Expr} {env : PySem.Env} {pos : Pos} (h : (e :: es).all notStar = true) : starEach (e :: es) env = (false, eval e env) :: starEach es env ∧ (backTo pos (starEach es env)).any (·.1) = false := by
  simp only [List.all_cons, Bool.and_eq_true] at h
  exact ⟨starEach_one h.1, stars_false _ _ _ h.2⟩

/-- a built-in of this name, under this word -/
def BlOk (X : Cx) (x : Str) (b : Bl) : Prop := (∃ id, bootBuiltins x = some (.builtin id) ∧ CallR X (.builtin id) (CBl X fun h xs => blt h b xs)) ∨ (∃ T, bootBuiltins x = some (.type T) ∧ CallR X (.type T) (CBl X fun h xs => blt h b xs))
theorem snd_bl (G : Gd P T C XC k N sc X) {x : Str} {b : Bl} {e : Expr} {es : List Expr} {rs : Env → M (List PV)} {p pos : Pos} (h1 : okN x = true) (h2 : isGl sc x = true) (h3 : P.blts.contains x = true) (hb : BlOk X x b)
    (hst : (e :: es).all notStar = true) (hs : PA X (e :: es) (tEs X.K XC W rs)) : PE X (.Call (.Name x p) (e :: es) [] pos) (tE X.K XC W fun env => M.bnd (rs env) fun xs => M.lift fun h => blt h b xs) := by
  obtain ⟨d1, d2, d3⟩ := okN_of h1
  obtain ⟨q1, q2⟩ := starEachs (pos := pos) (env := X.env) hst
  rcases hb with ⟨id, hv, c⟩ | ⟨T', hv, c⟩
  · exact snd_callR (f := .builtin id) (pe_callB c (gl_of G h2) (G.facts.blts x h3) hv hs d3 d1 q1 q2)
  · exact snd_callR (f := .type T') (pe_callTy c (gl_of G h2) (G.facts.blts x h3) hv hs d3 d1 q1 q2)

theorem stuckBl (f : Value) (b : Bl) (h : ∀ hh xs, blt hh b xs = none) : CallR X f (CBl X fun h xs => blt h b xs) := by
  intro pins s σ H us vs Q I rv q
  obtain ⟨xs, hh, z, m, w, r, rh, e0, p⟩ := q
  exact absurd ((h hh xs).symm.trans e0) (by simp)

theorem ite_or {α : Type} {c : Prop} [Decidable c] {a b : Option α} {r : α} (h : (if c then a else b) = some r) : (c ∧ a = some r) ∨ (¬ c ∧ b = some r) := by
  by_cases q : c
  · rw [if_pos q] at h; exact .inl ⟨q, h⟩
  · rw [if_neg q] at h; exact .inr ⟨q, h⟩
theorem str_eq {x y : Str} (h : (x == y) = true) : x = y := by simpa using h
theorem blOk_of (hc : X.calm = true) (hr : Room k X.A) {x : Str} {n : Nat} {b : Bl} (h : trBl x n = some b) : BlOk X x b := by
  unfold trBl at h
  rcases ite_or h with ⟨c, h⟩ | ⟨_, h⟩
  · obtain rfl := str_eq c; cases h; exact .inl ⟨_, rfl, bl_len⟩
  rcases ite_or h with ⟨c, h⟩ | ⟨_, h⟩
  · obtain rfl := str_eq c; cases h; exact .inl ⟨_, rfl, bl_all hc⟩
  rcases ite_or h with ⟨c, h⟩ | ⟨_, h⟩
  · obtain rfl := str_eq c; cases h; exact .inl ⟨_, rfl, bl_any hc⟩
  rcases ite_or h with ⟨c, h⟩ | ⟨_, h⟩
  · obtain rfl := str_eq c; cases h; exact .inr ⟨_, rfl, bl_tuple⟩
  rcases ite_or h with ⟨c, h⟩ | ⟨_, h⟩
  · obtain rfl := str_eq c; cases h; exact .inr ⟨_, rfl, bl_list⟩
  rcases ite_or h with ⟨c, h⟩ | ⟨_, h⟩
  · obtain rfl := str_eq c; cases h; exact .inl ⟨_, rfl, bl_sum hc⟩
  rcases ite_or h with ⟨c, h⟩ | ⟨_, h⟩
  · obtain rfl := str_eq c
    by_cases hn : n = 2
    · rw [if_pos hn] at h; cases h; exact .inl ⟨_, rfl, bl_max2 hc⟩
    · rw [if_neg hn] at h; cases h; exact .inl ⟨_, rfl, bl_max hc hr⟩
  rcases ite_or h with ⟨c, h⟩ | ⟨_, h⟩
  · obtain rfl := str_eq c
    by_cases hn : n = 2
    · rw [if_pos hn] at h; cases h; exact .inl ⟨_, rfl, bl_min2 hc⟩
    · rw [if_neg hn] at h; cases h; exact .inl ⟨_, rfl, bl_min hc hr⟩
  rcases ite_or h with ⟨c, h⟩ | ⟨_, h⟩
  · obtain rfl := str_eq c; cases h; exact .inr ⟨_, rfl, bl_int⟩
  rcases ite_or h with ⟨c, h⟩ | ⟨_, h⟩
  · obtain rfl := str_eq c; cases h; exact .inr ⟨_, rfl, stuckBl _ _ fun _ _ => rfl⟩
  rcases ite_or h with ⟨c, h⟩ | ⟨_, h⟩
  · obtain rfl := str_eq c; cases h; exact .inr ⟨_, rfl, stuckBl _ _ fun _ _ => rfl⟩
  rcases ite_or h with ⟨c, h⟩ | ⟨_, h⟩
  · obtain rfl := str_eq c; cases h; exact .inl ⟨_, rfl, bl_ord⟩
  rcases ite_or h with ⟨c, h⟩ | ⟨_, h⟩
  · obtain rfl := str_eq c; cases h; exact .inl ⟨_, rfl, bl_abs⟩
  rcases ite_or h with ⟨c, h⟩ | ⟨_, h⟩
  · obtain rfl := str_eq c; cases h; exact .inl ⟨_, rfl, bl_sorted hr⟩
  cases h

/-! ### isinstance -/
def tyName : Ty → String
  | .int => "int" | .str => "str" | .bool => "bool" | .tuple => "tuple" | .list => "list" | .dict => "dict"
theorem isi_call (ty : Ty) : CallR X (.builtin "isinstance") (fun us H Q => ∃ u a h z m v, us = [u, .ty (tyName ty)] ∧ Rep X.K z m H a u ∧ RelH X.K z m H h ∧ isTy h a ty = some v ∧ Post X.K z m H Q v h) := by
  intro pins s σ H us vs Q I rv q
  obtain ⟨u, a, h, z, m, v, rfl, ra, rh, e, p⟩ := q
  obtain ⟨w1, w2, rfl, r1, r2⟩ := vals2 rv
  unfold isTy at e
  simp only [Option.map_eq_some_iff] at e
  obtain ⟨d, e, rfl⟩ := e
  obtain ⟨as, rd⟩ := Dp.reads I _ _ _ (deref_seq rh ra e) r1
  have hw : w2 = .type (tyName ty) := r2
  subst hw
  have fin : ∀ tk b, b = isTyD d ty → EP X pins σ Q (.bool b) { s with toks := tk } := fun tk b hb => ⟨.bl b, H, I.tok tk, rfl, p.here rh (by rw [hb]; rfl)⟩
  cases ty with
  | int => exact W.isinstance_int_data rd fun tk _ => fin tk _ (by cases d <;> rfl)
  | str => exact W.isinstance_str_data rd fun tk _ => fin tk _ (by cases d <;> rfl)
  | bool => exact W.isinstance_bool_data rd fun tk _ => fin tk _ (by cases d <;> rfl)
  | tuple => exact W.isinstance_tuple_data rd fun tk _ => fin tk _ (by cases d <;> rfl)
  | list => exact W.isinstance_list_data rd fun tk _ => fin tk _ (by cases d <;> rfl)
  | dict => exact W.isinstance_dict_data rd fun tk _ => fin tk _ (by cases d <;> rfl)
theorem trTy_boot {t : Str} {ty : Ty} (h : trTy t = some ty) : bootBuiltins t = some (.type (tyName ty)) := by
  unfold trTy at h
  rcases ite_or h with ⟨c, h⟩ | ⟨_, h⟩
  · obtain rfl := str_eq c; cases h; rfl
  rcases ite_or h with ⟨c, h⟩ | ⟨_, h⟩
  · obtain rfl := str_eq c; cases h; rfl
  rcases ite_or h with ⟨c, h⟩ | ⟨_, h⟩
  · obtain rfl := str_eq c; cases h; rfl
  rcases ite_or h with ⟨c, h⟩ | ⟨_, h⟩
  · obtain rfl := str_eq c; cases h; rfl
  rcases ite_or h with ⟨c, h⟩ | ⟨_, h⟩
  · obtain rfl := str_eq c; cases h; rfl
  rcases ite_or h with ⟨c, h⟩ | ⟨_, h⟩
  · obtain rfl := str_eq c; cases h; rfl
  cases h
theorem snd_isi (G : Gd P T C XC k N sc X) {t : Str} {ty : Ty} {a : Expr} {ra : Env → M PV} {p p1 pos : Pos} (h2 : isGl sc "isinstance" = true) (h3 : P.blts.contains "isinstance" = true)
    (t1 : okN t = true) (t2 : isGl sc t = true) (t3 : P.blts.contains t = true) (ht : trTy t = some ty) (hst : notStar a = true) (ha : PE X a (tE X.K XC W ra)) :
    PE X (.Call (.Name "isinstance" p) [a, .Name t p1] [] pos) (tE X.K XC W fun env => M.bnd (ra env) fun x => M.lift fun h => isTy h x ty) := by
  obtain ⟨d1, d2, d3⟩ := okN_of t1
  have hs : ([a, .Name t p1] : List Expr).all notStar = true := by show (notStar a && _) = true; rw [hst]; rfl
  obtain ⟨q1, q2⟩ := starEachs (pos := pos) (env := X.env) hs
  have hn : PE X (.Name t p1) (tC (.ty (tyName ty))) := pe_bltn (gl_of G t2) (G.facts.blts t t3) (trTy_boot ht) rfl d3 d1
  refine (pe_callB (isi_call ty) (gl_of G h2) (G.facts.blts _ h3) rfl (pa_cons ha (pa_cons hn pa_nil rfl) q1) (by decide) (by decide) q1 q2).to fun σ H Q q => ?_
  obtain ⟨env, h, z, m, rs, rh, out⟩ := q
  refine ⟨env, h, z, m, rs, rh, out.bnd.imp fun x h1 m1 H1 e1 rh1 o1 vx rx => ?_⟩
  obtain ⟨v, e, p⟩ := o1.lift
  exact ⟨vx, x, h1, z, m1, v, rfl, rx, rh1, e, fun m' H' x' e' r' rr => p m' H' e' r' x' rr⟩

/-! ### -x -/
theorem snd_neg {a : Expr} {ra : Env → M PV} {pos : Pos} (ha : PE X a (tE X.K XC W ra)) : PE X (.UnaryOp .USub a pos) (tE X.K XC W fun env => M.bnd (ra env) fun x => M.lift fun _ => match x with
    | .d (.int i) => some (.d (.int (-i)))
    | _ => .none) := by
  refine (pe_un un_neg ha).to fun σ H Q q => ?_
  obtain ⟨env, h, z, m, rs, rh, out⟩ := q
  refine ⟨env, h, z, m, rs, rh, out.bnd.imp fun x h1 m1 H1 e1 rh1 o1 vx rx => ?_⟩
  obtain ⟨v, e, p⟩ := o1.lift
  split at e
  · cases e
    exact ⟨_, rx.int, p m1 H1 (Ext.refl _ _) rh1 _ rfl⟩
  · cases e

/-! ### a[b] -/
theorem place_ix {n : Nat} {i : Int} : place n i = ixN n i := by
  unfold place ixN
  by_cases h0 : 0 ≤ i
  · rw [if_pos h0, if_pos h0]
    by_cases h1 : i < n
    · rw [if_pos (by omega), if_pos h1]
    · rw [if_neg (by omega), if_neg h1]
  · rw [if_neg h0, if_neg h0]
    by_cases h1 : -(n : Int) ≤ i
    · rw [if_pos (by omega), if_pos h1]
      congr 1
      omega
    · rw [if_neg (by omega), if_neg h1]
theorem at_of {α : Type} {xs : List α} {i : Int} {v : α} (h : (place xs.length i).bind (fun j => xs[j]?) = some v) : atI xs i = some v := by
  unfold atI; rw [← place_ix]; exact h
theorem ixr_ev : IxR X (R2of X.K indexOp) := by
  intro value slice pins s σ H x y v u Q I rx ry q hs
  obtain ⟨a, b, h, z, m, w, ha, hb, rh, e, p⟩ := q
  have dl : ∀ {xs : List D} {i : Int} {ad : Addr} {us : List V}, x = .ref ad → b = .d (.int i) → us.length ≤ sizeLine → RepDs X.K z m H xs us → ((place xs.length i).bind fun j => (xs[j]?).map PV.d) = some w → ∃ y', y = .int i ∧ atI us i = some y' ∧ Q y' H := fun {xs i ad us} hx hb' hz rd eq => by
    rw [hb'] at hb
    obtain ⟨j, e1, e3⟩ := Option.bind_eq_some_iff.mp eq
    obtain ⟨d, e2, rfl⟩ := Option.map_eq_some_iff.mp e3
    obtain ⟨y', h1, h2⟩ := rd.get e2
    refine ⟨y', hb.int, at_of ?_, p.here rh h2⟩
    rw [← rd.length, e1]
    exact h1
  unfold indexOp at e
  split at e
  · obtain ⟨ad, us, rfl, h2, h3, h4⟩ := ha.list
    obtain ⟨y', rfl, h5, h6⟩ := dl rfl rfl h3 h4 e
    exact ix_list value slice pins s σ H _ _ v u Q I rx ry ⟨ad, us, _, y', rfl, rfl, h2.sq, h5, h6⟩ hs
  · obtain ⟨ad, us, rfl, h2, h3, h4⟩ := ha.tup
    obtain ⟨y', rfl, h5, h6⟩ := dl rfl rfl h3 h4 e
    exact ix_tup value slice pins s σ H _ _ v u Q I rx ry ⟨ad, us, _, y', rfl, rfl, h2.sq, h5, h6⟩ hs
  · split at e
    · rename_i hl
      simp only [Option.bind_eq_some_iff, Option.map_eq_some_iff] at e
      obtain ⟨j, e1, c, e2, rfl⟩ := e
      have hx := ha.str
      have hy := hb.int
      subst hx hy
      refine ix_str value slice pins s σ H _ _ v u Q I rx ry ⟨_, _, c, rfl, rfl, by rw [← lim_size]; simpa [Str.length] using hl, ?_, p.here rh rfl⟩ hs
      refine at_of ?_
      show (place _ _).bind _ = _
      rw [e1]
      exact e2
    · cases e
  · split at e
    · rename_i ys hc
      obtain ⟨j, e1, e2⟩ := Option.bind_eq_some_iff.mp e
      obtain ⟨ad, rfl, hm⟩ := ha
      obtain ⟨us, h1, h2, h3⟩ := rh.cell _ _ _ hm hc
      obtain ⟨y', h4, h5⟩ := h3.get e2
      rw [hb.int] at ry
      refine ix_list value slice pins s σ H _ _ v u Q I rx ry ⟨ad, us, _, y', rfl, rfl, .inl (.inl h1), ?_, p.here rh h5⟩ hs
      refine at_of ?_
      rw [← h3.length, e1]
      exact h4
    · cases e
  · obtain ⟨_, _, f⟩ := ha; exact f.elim
  · cases e
def plainIx : Expr → Bool
  | .Slice .. => false
  | _ => true
theorem plainIx_of {b : Expr} (h : plainIx b = true) : PlainIx b := by
  intro o i
  cases b <;> first | rfl | (simp [plainIx] at h)
theorem snd_ix {a b : Expr} {ra rb : Env → M PV} {pos : Pos} (hp : plainIx b = true) (ha : PE X a (tE X.K XC W ra)) (hb : PE X b (tE X.K XC W rb)) :
    PE X (.Subscript a b pos) (tE X.K XC W fun env => M.bnd (ra env) fun x => M.bnd (rb env) fun y => M.lift fun h => indexOp h x y) := by
  refine (pe_ix ixr_ev ha hb (plainIx_of hp)).to fun σ H Q q => ?_
  obtain ⟨env, h, z, m, rs, rh, out⟩ := q
  refine ⟨env, h, z, m, rs, rh, out.bnd.imp fun x h1 m1 H1 e1 rh1 o1 vx rx => ?_⟩
  refine ⟨env, h1, z, m1, rs.keep e1.keeps, rh1, o1.bnd.imp fun y h2 m2 H2 e2 rh2 o2 vy ry => ?_⟩
  obtain ⟨v, e, p⟩ := o2.lift
  exact ⟨x, y, h2, z, m2, v, rx.keep e2.keeps, ry, rh2, e, fun m' H' x' e' r' rr => p m' H' e' r' x' rr⟩

/-! ### a[lo:hi] -/
theorem bound_sIx {n : Nat} {i : Int} (d : Nat) : bound n i = HT.sIx n d (some i) := by
  unfold bound HT.sIx
  by_cases h : 0 ≤ i
  · rw [if_pos h]
    show _ = if i < 0 then _ else _
    rw [if_neg (by omega)]
  · rw [if_neg h]
    show _ = if i < 0 then _ else _
    rw [if_pos (by omega)]
    omega
theorem cut_sIx {α : Type} (xs : List α) (lo hi : Option Int) : cut xs lo hi = (xs.drop (HT.sIx xs.length 0 lo)).take (HT.sIx xs.length xs.length hi - HT.sIx xs.length 0 lo) := by
  unfold cut
  cases lo with
  | none => cases hi with
    | none => rfl
    | some j => simp only [bound_sIx xs.length]; rfl
  | some i => cases hi with
    | none => simp only [bound_sIx 0]; rfl
    | some j => simp only [bound_sIx (i := j) xs.length, bound_sIx (i := i) 0]
theorem RepDs.cutV {z m : List Addr} {H : Hp} {xs : List D} {us : List V} (lo hi : Option Int) (r : RepDs X.K z m H xs us) : RepDs X.K z m H (cut xs lo hi) (L2.cutV us lo hi) := by
  rw [cut_sIx]
  unfold L2.cutV
  rw [r.length]
  exact (r.drop _).take _
def rSlE (X : Cx) : V → Option Int → Option Int → Hp → VK → Prop := fun x lo hi H Q => ∃ a h z m v, Rep X.K z m H a x ∧ RelH X.K z m H h ∧ sliceOp h a lo hi = some v ∧ Post X.K z m H Q v h
theorem slr_ev : SlR X (rSlE X) := by
  intro pins s σ H x v vl vu lo hi sl Q I rx hs pl pu q
  obtain ⟨a, h, z, m, w, ra, rh, e, p⟩ := q
  have lst : ∀ {ad : Addr} {us : List V} {xs : List D}, x = .ref ad → SqL X.K H ad us → us.length ≤ sizeLine → RepDs X.K z m H xs us → w = .d (.list (cut xs lo hi)) → rSlL X.K x lo hi H Q := fun {ad us xs} hx h2 h3 h4 hw => by
    subst hw
    exact ⟨ad, us, hx, h2, fun q hq => p.lst rh (h4.cutV lo hi) (Nat.le_trans (cutV_length us lo hi) h3) hq⟩
  unfold sliceOp at e
  split at e
  · obtain ⟨ad, us, rfl, h2, h3, h4⟩ := ra.list
    exact sl_list pins s σ H _ v vl vu lo hi sl Q I rx hs pl pu (lst rfl h2.sq h3 h4 (Option.some.inj e).symm)
  · obtain ⟨ad, us, rfl, h2, h3, h4⟩ := ra.tup
    cases e
    have hc := h4.cutV (X := X) lo hi
    refine sl_tupA pins s σ H _ v vl vu lo hi sl Q I rx hs pl pu ⟨ad, us, rfl, h2.sq, fun hw => p.here rh ?_, fun hw q hq => p.tup rh hc (Nat.le_trans (cutV_length us lo hi) h3) hq⟩
    rw [Rep, RepD]
    refine ⟨ad, us, rfl, h2, h3, ?_⟩
    unfold L2.cutV at hc
    rw [hw.1, hw.2] at hc
    simpa using hc
  · split at e
    · rename_i hl
      cases e
      have hx := ra.str
      subst hx
      refine sl_str pins s σ H _ v vl vu lo hi sl Q I rx hs pl pu ⟨_, rfl, by rw [← lim_size]; simpa [Str.length] using hl, p.here rh ?_⟩
      show V.str _ = _
      rw [cut_sIx]
      simp [cutS, Str.length]
    · cases e
  · split at e
    · rename_i xs hd
      obtain ⟨ad, us, rfl, h2, h3, h4⟩ := deref_list rh ra hd
      exact sl_list pins s σ H _ v vl vu lo hi sl Q I rx hs pl pu (lst rfl h2 h3 h4 (Option.some.inj e).symm)
    · cases e
  · cases e

theorem snd_po0 : PO X none (tPo X.K XC W fun _ => M.ret none) := ⟨fun pins s σ H Q I q => po_none.run pins s σ H Q I (by
  obtain ⟨env, h, z, m, rs, rh, o⟩ := q
  exact o.ret m H (Ext.refl _ _) rh)⟩
theorem snd_po1 {e : Expr} {re : Env → M PV} (he : PE X e (tE X.K XC W re)) : PO X (some e) (tPo X.K XC W fun env => M.bnd (re env) fun x => M.lift fun _ => match x with
    | .d (.int i) => some (some i)
    | _ => .none) := ⟨fun pins s σ H Q I q => (po_some he).run pins s σ H Q I (by
  obtain ⟨env, h, z, m, rs, rh, out⟩ := q
  refine ⟨env, h, z, m, rs, rh, out.bnd.imp fun x h1 m1 H1 e1 rh1 o1 vx rx => ?_⟩
  obtain ⟨v, e, p⟩ := o1.lift
  split at e
  · cases e
    exact ⟨_, rx.int, p m1 H1 (Ext.refl _ _) rh1⟩
  · cases e)⟩
theorem snd_sl {a : Expr} {lo hi : Option Expr} {ra : Env → M PV} {rl rh' : Env → M (Option Int)} {pos p2 : Pos} (ha : PE X a (tE X.K XC W ra)) (hl : PO X lo (tPo X.K XC W rl)) (hh : PO X hi (tPo X.K XC W rh')) :
    PE X (.Subscript a (.Slice lo hi none p2) pos) (tE X.K XC W fun env => M.bnd (ra env) fun x => M.bnd (rl env) fun i => M.bnd (rh' env) fun j => M.lift fun h => sliceOp h x i j) := by
  refine (pe_slice slr_ev ha hl hh).to fun σ H Q q => ?_
  obtain ⟨env, h, z, m, rs, rh, out⟩ := q
  refine ⟨env, h, z, m, rs, rh, out.bnd.imp fun x h1 m1 H1 e1 rh1 o1 vx rx => ?_⟩
  refine ⟨env, h1, z, m1, rs.keep e1.keeps, rh1, o1.bnd.imp fun i h2 m2 H2 e2 rh2 o2 => ?_⟩
  refine ⟨env, h2, z, m2, (rs.keep e1.keeps).keep e2.keeps, rh2, o2.bnd.imp fun j h3 m3 H3 e3 rh3 o3 => ?_⟩
  obtain ⟨v, e, p⟩ := o3.lift
  exact ⟨x, h3, z, m3, v, (rx.keep e2.keeps).keep e3.keeps, rh3, e, fun m' H' x' e' r' rr => p m' H' e' r' x' rr⟩
end
end Ev
end

section
/-! EvSnd4: methods. -/
set_option autoImplicit false
set_option linter.all false
set_option Elab.async false
set_option maxRecDepth 100000
set_option maxHeartbeats 1000000
namespace Ev
open PySem L2 PyProof.Rows

section
variable {P : TrP} {T : Nat → Option Fn} {C : Nat → Option PV} {XC : Nat → Option Addr} {k : Nat} {N : List Str} {sc : Scope} {X : Cx} {W : WX}
theorem near_inl {a : D} {ys : List D} (h : near a (.list ys) = true) : min (PyData.depthAll (D.pys ys)) a.py.depth ≤ 60 := near_in (.inl h)
theorem find_pys (xs : List D) (d : D) : SeqAt.dataPlace (D.pys xs) d.py = xs.findIdx? fun x => D.eqv x d := by
  unfold SeqAt.dataPlace
  rw [D.pys_map, List.findIdx?_map]
  congr 1
  funext x
  exact D.py_eqv x d
theorem count_pys (xs : List D) (d : D) : ((D.pys xs).countP fun y => PyData.eqv y d.py) = xs.countP fun x => D.eqv x d := by
  rw [D.pys_map, List.countP_map]
  congr 1
  funext x
  exact D.py_eqv x d
/-- the argument is one, with data -/
def rAt (X : Cx) (f : Hh → List PV → Option PV) : List V → Hp → VK → Prop := fun us H Q => ∃ as h z m v, Reps X.K z m H as us ∧ RelH X.K z m H h ∧ f h as = some v ∧ Post X.K z m H Q v h
theorem one_deref {h : Hh} {f : D → Option PV} {as : List PV} {v : PV} {z m : List Addr} {H : Hp} {us : List V} (rs : Reps X.K z m H as us) (rh : RelH X.K z m H h) (e : one (fun k => match deref h k with | some d => f d | _ => none) as = some v) :
    ∃ u d, us = [u] ∧ Dp X.K H u d.py ∧ f d = some v := by
  obtain ⟨x, rfl, e2⟩ := one_of e
  obtain ⟨u, rfl, ru⟩ := reps1 rs
  clear e
  split at e2
  · rename_i d e1
    exact ⟨u, d, rfl, deref_seq rh ru e1, e2⟩
  · cases e2
theorem mt_indexL (hr : Room k X.A) : MtR X "list.index" (fun x us H Q => ∃ a ws xs as h z m v, x = .ref a ∧ SqL X.K H a ws ∧ RepDs X.K z m H xs ws ∧ Reps X.K z m H as us ∧ RelH X.K z m H h ∧ one (indexL h xs) as = some v ∧ Post X.K z m H Q v h) := by
  intro pins s σ H x us w vs Q I rx rs q
  obtain ⟨a, ws, xs, as, h, z, m, v, rfl, hs, rd, ra, rh, e, p⟩ := q
  cases rx
  obtain ⟨u, d, rfl, dp, e⟩ := one_deref (f := fun d => if near d (.list xs) then (xs.findIdx? fun x => D.eqv x d).map fun (n : Nat) => .d (.int (n : Int)) else .none) ra rh e
  split at e
  · rename_i hn
    obtain ⟨j, e1, rfl⟩ := Option.map_eq_some_iff.mp e
    obtain ⟨uy, rfl, r1⟩ := vals1 rs
    obtain ⟨bs, r2⟩ := Dp.reads I _ _ _ dp r1
    obtain ⟨its, rv, ⟨⟨cls, dd, data, sls⟩, n, ho, hc, hdn, hdt⟩, hlen⟩ := I.list hs
    simp only at hc hdt
    subst hc hdt
    obtain ⟨as', h4⟩ := Dp.readsAll I _ _ its (RepDs.dp rd) rv
    have h4 : ReadsAll s.heap its.toArray.toList (D.pys xs) as' := h4
    have hu : X.A.units + 1 + min (PyData.depthAll (D.pys xs)) d.py.depth < cLine := by have := near_inl hn; have := units_of hr; omega
    rw [← find_pys] at e1
    obtain ⟨hj, hit, hno⟩ := SeqAt.hit_at h4 (D.plains xs) e1
    have hjz : (j : Int) < 2 ^ 63 - 1 := by
      have h5 : its.toArray.size = its.length := by simp
      have h6 := sizeLine_eq
      have h7 := rv.length
      omega
    exact call_meets PySem.F.slot_list_index ⟨_, ho, rfl⟩ PySem.F.entry_list_index (PySem.F.args_list_index_2 _ _)
      (SeqAt.list_indexAt a its.toArray n dd sls uy (fun u => PyData.eqv (SeqAt.readOf s.heap u) d.py) j hj hjz hit hno) ⟨ho, SeqAt.items_plain h4 r2 (D.plains xs) (D.plain d) hu, ⟨.int (j : Nat), H, I.tok _, ⟨_, rfl⟩, p.here rh rfl⟩⟩
  · cases e
theorem mt_countL (hr : Room k X.A) : MtR X "list.count" (fun x us H Q => ∃ a ws xs as h z m v, x = .ref a ∧ SqL X.K H a ws ∧ RepDs X.K z m H xs ws ∧ Reps X.K z m H as us ∧ RelH X.K z m H h ∧ one (countL h xs) as = some v ∧ Post X.K z m H Q v h) := by
  intro pins s σ H x us w vs Q I rx rs q
  obtain ⟨a, ws, xs, as, h, z, m, v, rfl, hs, rd, ra, rh, e, p⟩ := q
  cases rx
  obtain ⟨u, d, rfl, dp, e⟩ := one_deref (f := fun d => if near d (.list xs) then some (.d (.int (xs.countP fun x => D.eqv x d))) else .none) ra rh e
  split at e
  · rename_i hn
    cases e
    obtain ⟨uy, rfl, r1⟩ := vals1 rs
    obtain ⟨bs, r2⟩ := Dp.reads I _ _ _ dp r1
    obtain ⟨its, rv, pl, hlen⟩ := I.list hs
    obtain ⟨as', h4⟩ := Dp.readsAll I _ _ its (RepDs.dp rd) rv
    have h4 : ReadsAll s.heap its.toArray.toList (D.pys xs) as' := h4
    have hu : X.A.units + 1 + min (PyData.depthAll (D.pys xs)) d.py.depth < cLine := by have := near_inl hn; have := units_of hr; omega
    refine SeqAt.count_list_data pl.isList h4 r2 (D.plains xs) (D.plain d) hu ?_
    rw [count_pys]
    exact ⟨.int _, H, I.tok _, ⟨_, rfl⟩, p.here rh rfl⟩
  · cases e
theorem mt_indexT (hr : Room k X.A) : MtR X "tuple.index" (fun x us H Q => ∃ a ws xs as h z m v, x = .ref a ∧ SqT X.K H a ws ∧ RepDs X.K z m H xs ws ∧ Reps X.K z m H as us ∧ RelH X.K z m H h ∧ one (indexL h xs) as = some v ∧ Post X.K z m H Q v h) := by
  intro pins s σ H x us w vs Q I rx rs q
  obtain ⟨a, ws, xs, as, h, z, m, v, rfl, hs, rd, ra, rh, e, p⟩ := q
  cases rx
  obtain ⟨u, d, rfl, dp, e⟩ := one_deref (f := fun d => if near d (.list xs) then (xs.findIdx? fun x => D.eqv x d).map fun (n : Nat) => .d (.int (n : Int)) else .none) ra rh e
  split at e
  · rename_i hn
    obtain ⟨j, e1, rfl⟩ := Option.map_eq_some_iff.mp e
    obtain ⟨uy, rfl, r1⟩ := vals1 rs
    obtain ⟨bs, r2⟩ := Dp.reads I _ _ _ dp r1
    obtain ⟨its, rv, pl, hlen⟩ := I.tuple hs
    obtain ⟨⟨cls, dd, data, sls⟩, ho, hc, n, hdt⟩ := pl
    simp only at hc hdt
    subst hc hdt
    obtain ⟨as', h4⟩ := Dp.readsAll I _ _ its (RepDs.dp rd) rv
    have h4 : ReadsAll s.heap its.toArray.toList (D.pys xs) as' := h4
    have hu : X.A.units + 1 + min (PyData.depthAll (D.pys xs)) d.py.depth < cLine := by have := near_inl hn; have := units_of hr; omega
    rw [← find_pys] at e1
    obtain ⟨hj, hit, hno⟩ := SeqAt.hit_at h4 (D.plains xs) e1
    exact call_meets PySem.F.slot_tuple_index ⟨_, ho, rfl⟩ PySem.F.entry_tuple_index (PySem.F.args_tuple_index_2 _ _)
      (TI.tuple_indexAt a its.toArray n dd sls uy (fun u => PyData.eqv (SeqAt.readOf s.heap u) d.py) j hj hit hno) ⟨ho, SeqAt.items_plain h4 r2 (D.plains xs) (D.plain d) hu, ⟨.int (j : Nat), H, I.tok _, ⟨_, rfl⟩, p.here rh rfl⟩⟩
  · cases e
theorem mt_countT (hr : Room k X.A) : MtR X "tuple.count" (fun x us H Q => ∃ a ws xs as h z m v, x = .ref a ∧ SqT X.K H a ws ∧ RepDs X.K z m H xs ws ∧ Reps X.K z m H as us ∧ RelH X.K z m H h ∧ one (countL h xs) as = some v ∧ Post X.K z m H Q v h) := by
  intro pins s σ H x us w vs Q I rx rs q
  obtain ⟨a, ws, xs, as, h, z, m, v, rfl, hs, rd, ra, rh, e, p⟩ := q
  cases rx
  obtain ⟨u, d, rfl, dp, e⟩ := one_deref (f := fun d => if near d (.list xs) then some (.d (.int (xs.countP fun x => D.eqv x d))) else .none) ra rh e
  split at e
  · rename_i hn
    cases e
    obtain ⟨uy, rfl, r1⟩ := vals1 rs
    obtain ⟨bs, r2⟩ := Dp.reads I _ _ _ dp r1
    obtain ⟨its, rv, pl, hlen⟩ := I.tuple hs
    obtain ⟨as', h4⟩ := Dp.readsAll I _ _ its (RepDs.dp rd) rv
    have h4 : ReadsAll s.heap its.toArray.toList (D.pys xs) as' := h4
    have hu : X.A.units + 1 + min (PyData.depthAll (D.pys xs)) d.py.depth < cLine := by have := near_inl hn; have := units_of hr; omega
    refine SeqAt.count_tuple_data pl h4 r2 (D.plains xs) (D.plain d) hu ?_
    rw [count_pys]
    exact ⟨.int _, H, I.tok _, ⟨_, rfl⟩, p.here rh rfl⟩
  · cases e

theorem _root_.L2.PE.never {X : Cx} {e : Expr} {t : TE} (h : ∀ σ H Q, ¬ t σ H Q) : PE X e t := ⟨fun _ _ σ H Q _ q => (h σ H Q q).elim⟩
def notCall : Expr → Bool
  | .Call .. => false
  | _ => true
theorem base_of {o : Expr} {name : Str} {env : PySem.Env} (h : notCall o = true) : attributeBase o name env (eval o env) = eval o env := by
  cases o <;> first | rfl | (simp [notCall] at h)
theorem few_of {e : Expr} {es : List Expr} {env : PySem.Env} {pos : Pos} (h : (e :: es).all notStar = true) (hl : (e :: es).length ≤ 20) : ((backTo pos (starEach (e :: es) env)).all (fun x => !x.1) && (backToKw pos (keywordEach [] env)).all (fun x => x.1.isSome)
      && decide ((e :: es).length + ([] : List Keyword).length + (if ([] : List Keyword).isEmpty then 0 else 1) < 30)) = true := by
  rw [stars_all _ _ _ h, Bool.true_and]
  have h1 : (backToKw pos (keywordEach [] env)).all (fun x => x.1.isSome) = true := rfl
  rw [h1, Bool.true_and]
  have h2 : (if ([] : List Keyword).isEmpty then 0 else 1) = 0 := rfl
  rw [h2]
  have h3 : ([] : List Keyword).length = 0 := rfl
  rw [h3]
  exact decide_eq_true (by omega)
theorem listOf {m0 : Mt} {x : PV} {u : V} {h : Hh} {z m : List Addr} {H : Hp} (hm : m0 = .index ∨ m0 = .count) (rh : RelH X.K z m H h) (r : Rep X.K z m H x u) (e : mtOk m0 x = true) : tyV X.K "list" u H ∧ ∃ a, u = .ref a ∧ ((∃ us, SqL X.K H a us ∧ H a = some (.lst us)) ∧ ∀ (m' : List Addr) (H' : Hp) (h' : Hh) (xs : List D), Ext m H m' H' → RelH X.K z m' H' h' → deref h' x = some (.list xs) → ∃ ws, SqL X.K H' a ws ∧ RepDs X.K z m' H' xs ws) := by
  have key : (∃ xs, x = .d (.list xs)) ∨ ∃ l, x = .ref l := by
    rcases hm with rfl | rfl <;>
    · cases x with
      | d y => cases y <;> first | exact .inl ⟨_, rfl⟩ | (simp [mtOk] at e)
      | ref l => exact .inr ⟨l, rfl⟩
      | dict _ => simp [mtOk] at e
      | scr _ => simp [mtOk] at e
  have fin : ∀ a us, u = .ref a → H a = some (.lst us) → tyV X.K "list" u H ∧ ∃ a, u = .ref a ∧ ((∃ us, SqL X.K H a us ∧ H a = some (.lst us)) ∧ ∀ (m' : List Addr) (H' : Hp) (h' : Hh) (xs : List D), Ext m H m' H' → RelH X.K z m' H' h' → deref h' x = some (.list xs) → ∃ ws, SqL X.K H' a ws ∧ RepDs X.K z m' H' xs ws) := by
    rintro a us rfl h1
    refine ⟨.inl ⟨rfl, us, .inl (.inl h1)⟩, a, rfl, ⟨us, .inl (.inl h1), h1⟩, fun m' H' h' xs e' rh' e2 => ?_⟩
    obtain ⟨a', us', h3, h4, h5, h6⟩ := deref_list rh' (r.keep e'.keeps) e2
    cases h3
    exact ⟨us', h4, h6⟩
  rcases key with ⟨xs, rfl⟩ | ⟨l, rfl⟩
  · obtain ⟨a, us, rfl, h2, _, _⟩ := r.list
    exact fin a us rfl h2.1
  · obtain ⟨a, rfl, hm⟩ := id r
    obtain ⟨us, h1⟩ := rh.there (List.mem_of_getElem? hm)
    exact fin a us rfl h1
theorem snd_mt (hr : Room k X.A) {m : Mt} {name : Str} {o e : Expr} {es : List Expr} {ro : Env → M PV} {rs : Env → M (List PV)} {apos cpos : Pos} (hm : trMt name (e :: es).length = some m) (ho : notCall o = true) (hl : (e :: es).length ≤ 20) (hline : (apos.endLine == cpos.line) = true)
    (hst : (e :: es).all notStar = true) (po : PE X o (tE X.K XC W ro)) (ha : PA X (e :: es) (tEs X.K XC W rs)) :
    PE X (.Call (.Attribute o name apos) (e :: es) [] cpos) (tE X.K XC W fun env => M.bnd (ro env) fun x => M.bnd (guardM (mtOk m x)) fun _ => M.bnd (rs env) fun xs => M.lift fun h => meth h m x xs) := by
  obtain ⟨q1, q2⟩ := starEachs (pos := cpos) (env := X.env) hst
  have nope : (∀ x, mtOk m x = false) → PE X (.Call (.Attribute o name apos) (e :: es) [] cpos) (tE X.K XC W fun env => M.bnd (ro env) fun x => M.bnd (guardM (mtOk m x)) fun _ => M.bnd (rs env) fun xs => M.lift fun h => meth h m x xs) := fun hf => by
    have hp : PE X o (tE X.K XC W ro) := po
    refine ⟨fun pins s σ H Q I q => ?_⟩
    rw [arm_eval_Call, base_of ho]
    refine wpAny_bind (wpAny_mono (po.run pins s σ H (fun _ _ => False) I ?_) (fun u s1 ⟨_, _, _, _, f⟩ => f.elim) fun _ _ e => e)
    obtain ⟨env, h, z, m1, rs', rh, out⟩ := q
    refine ⟨env, h, z, m1, rs', rh, out.bnd.imp fun x h1 m2 H1 e1 rh1 o1 vx rx => ?_⟩
    obtain ⟨_, e2, _⟩ := o1.bnd.lift
    rw [hf] at e2
    cases e2
  have go : ∀ {id : String} {r : V → List V → Hp → VK → Prop}, (m = .index ∨ m = .count) → Slot "list" name id → typeOf (.builtin id) = pure (.type "method_descriptor") → MtR X id r →
      (∀ (x : PV) (as : List PV) (h : Hh) (z m' : List Addr) (H : Hp) (a : Addr) (us : List V) (ws : List V) (xs : List D) (v : PV) (Q : VK), deref h x = some (.list xs) → SqL X.K H a ws → RepDs X.K z m' H xs ws → Reps X.K z m' H as us → RelH X.K z m' H h → meth h m x as = some v → Post X.K z m' H Q v h → r (.ref a) us H Q) →
      PE X (.Call (.Attribute o name apos) (e :: es) [] cpos) (tE X.K XC W fun env => M.bnd (ro env) fun x => M.bnd (guardM (mtOk m x)) fun _ => M.bnd (rs env) fun xs => M.lift fun h => meth h m x xs) := by
    intro id r hm2 slot hty hmt hrule
    refine (pe_bm PySem.F.plainAttrs_list slot hty hmt po ha (base_of ho) (few_of hst hl) hline q1 q2).to fun σ H Q q => ?_
    obtain ⟨env, h, z, m1, rs', rh, out⟩ := q
    refine ⟨env, h, z, m1, rs', rh, out.bnd.imp fun x h1 m2 H1 e1 rh1 o1 vx rx => ?_⟩
    obtain ⟨_, e2, p2⟩ := o1.bnd.lift
    have hk : mtOk m x = true := by
      cases hq : mtOk m x with
      | true => rfl
      | false => rw [hq] at e2; cases e2
    obtain ⟨ty, a, rfl, _, hd⟩ := listOf hm2 rh1 rx hk
    have o2 := p2 m2 H1 (Ext.refl _ _) rh1
    refine ⟨ty, env, h1, z, m2, rs'.keep e1.keeps, rh1, o2.bnd.imp fun as h2 m3 H2 e3 rh2 o3 us rus => ?_⟩
    obtain ⟨v, e4, p4⟩ := o3.lift
    have hdr : ∃ xs, deref h2 x = some (.list xs) := by
      rcases hm2 with rfl | rfl
      · simp only [meth] at e4
        split at e4
        · exact ⟨_, ‹_›⟩
        · cases e4
      · simp only [meth] at e4
        split at e4
        · exact ⟨_, ‹_›⟩
        · cases e4
    obtain ⟨xs, hxs⟩ := hdr
    obtain ⟨ws, h5, h6⟩ := hd _ _ _ _ e3 rh2 hxs
    exact hrule x as h2 z m3 H2 a us ws xs v Q hxs h5 h6 rus rh2 e4 fun m' H' x' e' r' rr => p4 m' H' e' r' x' rr
  unfold trMt at hm
  rcases ite_or hm with ⟨c, hm⟩ | ⟨_, hm⟩
  · obtain rfl := str_eq c
    cases hm
    exact go (.inl rfl) PySem.F.slot_list_index PySem.F.type_list_index (mt_indexL hr) fun x as h z m' H a us ws xs v Q hd hs rd ra rh e p => ⟨a, ws, xs, as, h, z, m', v, rfl, hs, rd, ra, rh, by simp only [meth, hd] at e; exact e, p⟩
  rcases ite_or hm with ⟨c, hm⟩ | ⟨_, hm⟩
  · obtain rfl := str_eq c
    cases hm
    exact go (.inr rfl) PySem.F.slot_list_count PySem.F.type_list_count (mt_countL hr) fun x as h z m' H a us ws xs v Q hd hs rd ra rh e p => ⟨a, ws, xs, as, h, z, m', v, rfl, hs, rd, ra, rh, by simp only [meth, hd] at e; exact e, p⟩
  rcases ite_or hm with ⟨c, hm⟩ | ⟨_, hm⟩
  · cases hm; exact nope fun x => by cases x <;> rfl
  rcases ite_or hm with ⟨c, hm⟩ | ⟨_, hm⟩
  · cases hm; exact nope fun x => by cases x <;> rfl
  rcases ite_or hm with ⟨c, hm⟩ | ⟨_, hm⟩
  · by_cases hn : (e :: es).length = 2
    · rw [if_pos hn] at hm; cases hm; exact nope fun x => by cases x <;> rfl
    · rw [if_neg hn] at hm; cases hm; exact nope fun x => by cases x <;> rfl
  cases hm
theorem kept0 {K : PySem.W.Frag} {z m : List Addr} {H : Hp} : Kept K [] [] (fun _ => none) z m H := by
  have no : ∀ {a : Addr} {o : HO}, ¬ Rd (fun _ => none) a o := fun h => by
    rcases h with h | ⟨_, h⟩ <;> cases h
  refine ⟨fun a us h => ?_, fun a us h => ?_, fun l a h => ?_, fun a us h => (no h.1).elim⟩
  · cases h.1
  · exact h.elim (fun q => (no q.1).elim) .inr
  · cases h
/-- a method of a written tuple -/
theorem snd_mtc (G : Gd P T C XC k N sc X) {m : Mt} {name x : Str} {e : Expr} {es : List Expr} {rs : Env → M (List PV)} {apos cpos p1 : Pos} (hm : trMt name (e :: es).length = some m) (hi : isIC m = true) (hl : (e :: es).length ≤ 20) (hline : (apos.endLine == cpos.line) = true)
    (hst : (e :: es).all notStar = true) (h1 : okN x = true) (h2 : isGl sc x = true) (h3 : P.csts.contains x = true) (ha : PA X (e :: es) (tEs X.K XC W rs)) :
    PE X (.Call (.Attribute (.Name x p1) name apos) (e :: es) [] cpos) (tE X.K XC W fun env => M.bnd (M.lift fun _ => (C (code x)).bind tupOf) fun o => M.bnd (rs env) fun xs => M.lift fun h => methT h m o xs) := by
  obtain ⟨q1, q2⟩ := starEachs (pos := cpos) (env := X.env) hst
  obtain ⟨d1, d2, _⟩ := okN_of h1
  cases e0 : (C (code x)).bind tupOf with
  | none => exact PE.never fun σ H Q ⟨env, h, z, m, rs, rh, o⟩ => o
  | some o =>
    have get : ∃ a u us, X.mg x = some u ∧ RelV (.ref a) u ∧ KTup X.K a us ∧ ∀ z m H, RepDs X.K z m H o us := by
      obtain ⟨v, e1, e2⟩ := Option.bind_eq_some_iff.mp e0
      obtain ⟨u, y, hm, rv, hrep⟩ := G.facts.csts x h3 v e1
      have hv : v = .d (.tup o) := by
        cases v with
        | d w => cases w <;> first | (cases e2; rfl) | (cases e2)
        | _ => cases e2
      subst hv
      obtain ⟨a, us, rfl, h7, _, h8⟩ := (hrep [] [] fun _ => none).tup
      refine ⟨a, u, us, hm, rv, ?_, fun z m H => h8.keep kept0⟩
      rcases h7 with ⟨h7 | ⟨_, h7⟩, _⟩ | h7
      · cases h7
      · cases h7
      · exact h7
    obtain ⟨a, u, us, hmg, rv, hk, hrd⟩ := get
    have po : PE X (.Name x p1) (tC (.ref a)) := pe_glob (gl_of G h2) hmg rv d1
    have hty : ∀ H, tyV X.K "tuple" (.ref a) H := fun H => by
      obtain ⟨ob, its, n, k1, k2, k3, _⟩ := hk
      exact .inr (.inl ⟨rfl, ob, k1, k2, k3⟩)
    have hsq : ∀ H, SqT X.K H a us := fun H => .inr hk.sq
    have go : ∀ {id : String} {r : V → List V → Hp → VK → Prop}, Slot "tuple" name id → typeOf (.builtin id) = pure (.type "method_descriptor") → MtR X id r →
        (∀ (as : List PV) (h : Hh) (z m' : List Addr) (H : Hp) (vs : List V) (v : PV) (Q : VK), SqT X.K H a us → RepDs X.K z m' H o us → Reps X.K z m' H as vs → RelH X.K z m' H h → methT h m o as = some v → Post X.K z m' H Q v h → r (.ref a) vs H Q) →
        PE X (.Call (.Attribute (.Name x p1) name apos) (e :: es) [] cpos) (tE X.K XC W fun env => M.bnd (M.lift fun _ => some o) fun o => M.bnd (rs env) fun xs => M.lift fun h => methT h m o xs) := by
      intro id r slot hty' hmt hrule
      refine (pe_bm PySem.F.plainAttrs_tuple slot hty' hmt po ha rfl (few_of hst hl) hline q1 q2).to fun σ H Q q => ?_
      obtain ⟨env, h, z, m1, rs', rh, out⟩ := q
      have out : Out X.K XC z m1 H (M.bnd (rs env) (fun xs => M.lift fun h => methT h m o xs) h) _ _ := out
      refine ⟨hty H, env, h, z, m1, rs', rh, out.bnd.imp fun as h2 m3 H2 e3 rh2 o3 vs rvs => ?_⟩
      obtain ⟨v, e4, p4⟩ := o3.lift
      exact hrule as h2 z m3 H2 vs v Q (hsq _) (hrd _ _ _) rvs rh2 e4 fun m' H' x' e' r' rr => p4 m' H' e' r' x' rr
    unfold trMt at hm
    rcases ite_or hm with ⟨c, hm⟩ | ⟨_, hm⟩
    · obtain rfl := str_eq c
      cases hm
      exact go PySem.F.slot_tuple_index PySem.F.type_tuple_index (mt_indexT G.room) fun as h z m' H vs v Q hs rd ra rh e p => ⟨a, us, o, as, h, z, m', v, rfl, hs, rd, ra, rh, e, p⟩
    rcases ite_or hm with ⟨c, hm⟩ | ⟨_, hm⟩
    · obtain rfl := str_eq c
      cases hm
      exact go PySem.F.slot_tuple_count PySem.F.type_tuple_count (mt_countT G.room) fun as h z m' H vs v Q hs rd ra rh e p => ⟨a, us, o, as, h, z, m', v, rfl, hs, rd, ra, rh, e, p⟩
    rcases ite_or hm with ⟨c, hm⟩ | ⟨_, hm⟩
    · cases hm; cases hi
    rcases ite_or hm with ⟨c, hm⟩ | ⟨_, hm⟩
    · cases hm; cases hi
    rcases ite_or hm with ⟨c, hm⟩ | ⟨_, hm⟩
    · by_cases hn : (e :: es).length = 2
      · rw [if_pos hn] at hm; cases hm; cases hi
      · rw [if_neg hn] at hm; cases hm; cases hi
    cases hm
end
end Ev
end

section
/-! EvSnd5: targets. -/
set_option autoImplicit false
set_option linter.all false
set_option Elab.async false
set_option maxRecDepth 100000
set_option maxHeartbeats 1000000
namespace Ev
open PySem L2 PyProof.Rows

mutual
def T.slots : T → List Nat
  | .nm i => [i]
  | .tp ts => Ts.slots ts
def Ts.slots : Ts → List Nat
  | .nil => []
  | .cons t r => t.slots ++ Ts.slots r
end
def Ts.len : Ts → Nat
  | .nil => 0
  | .cons _ r => Ts.len r + 1
theorem wipe_at {σ : L2.St} {vs : List Nat} {i : Nat} : (L2.wipe σ vs)[i]? = if i ∈ vs then (if i < σ.length then some none else none) else σ[i]? := by
  induction vs with
  | nil => simp [L2.wipe]
  | cons v vs ih =>
    rw [L2.wipe, List.getElem?_set]
    by_cases h : v = i
    · subst h
      simp only [if_true, wipe_length, List.mem_cons, true_or]
    · rw [if_neg h, ih]
      simp only [List.mem_cons]
      by_cases h2 : i ∈ vs
      · simp [h2]
      · simp [h2, Ne.symm h]
theorem wipe_set {σ : L2.St} {vs : List Nat} {i : Nat} {x : Option V} (h : i ∈ vs) : L2.wipe (σ.set i x) vs = L2.wipe σ vs := by
  apply List.ext_getElem?
  intro j
  rw [wipe_at, wipe_at]
  by_cases hj : j ∈ vs
  · simp [hj]
  · have hne : i ≠ j := fun e => hj (e ▸ h)
    simp only [hj, if_false]
    rw [List.getElem?_set_ne hne]
/-- nothing but these slots has been changed -/
def Only (is : List Nat) (σ σ' : L2.St) : Prop := σ'.length = σ.length ∧ ∀ vs : List Nat, (∀ i ∈ is, i ∈ vs) → L2.wipe σ' vs = L2.wipe σ vs
theorem Only.refl (is : List Nat) (σ : L2.St) : Only is σ σ := ⟨rfl, fun _ _ => rfl⟩

/-- the names of a target may be stored -/
def TgOk (X : Cx) (scope : Scope) : Prop := ∀ x, isLoc scope x = true → L2.Loc X.env.scope x ∧ (X.fn x = true ∨ X.env.scope.names.lookup x = some .local)

def gT (K : PySem.W.Frag) (t : T) : TG := fun v σ H Q => ∃ env env' pv z m, RelS K z m H env σ ∧ Rep K z m H pv v ∧ T.store t pv env = some env' ∧ ∀ σ', RelS K z m H env' σ' → Only t.slots σ σ' → Q σ' H
def gTs (K : PySem.W.Frag) (ts : Ts) : TGs := fun vs σ H Q => ∃ env env' xs z m, RelS K z m H env σ ∧ RepDs K z m H xs vs ∧ Ts.stores ts xs env = some env' ∧ ∀ σ', RelS K z m H env' σ' → Only ts.slots σ σ' → Q σ' H
theorem _root_.L2.PG.to {X : Cx} {e : Expr} {t t' : TG} (p : PG X e t) (h : ∀ v σ H Q, t' v σ H Q → t v σ H Q) : PG X e t' := ⟨fun pins s σ H v u Q I r q => p.run pins s σ H v u Q I r (h v σ H Q q)⟩
theorem _root_.L2.PGs.to {X : Cx} {e : List Expr} {t t' : TGs} (p : PGs X e t) (h : ∀ v σ H Q, t' v σ H Q → t v σ H Q) : PGs X e t' := ⟨fun pins s σ H v u Q I r q => p.run pins s σ H v u Q I r (h v σ H Q q)⟩
theorem Ts.stores_len : ∀ {ts : Ts} {xs : List D} {env env' : Env}, Ts.stores ts xs env = some env' → xs.length = ts.len
  | .nil, [], _, _, _ => rfl
  | .nil, _ :: _, _, _, h => by simp [Ts.stores] at h
  | .cons t r, [], _, _, h => by simp [Ts.stores] at h
  | .cons t r, x :: xs, env, env', h => by
    rw [Ts.stores] at h
    obtain ⟨e1, h1, h2⟩ := Option.bind_eq_some_iff.mp h
    rw [List.length_cons, Ts.stores_len h2, Ts.len]
section
variable {X : Cx} {N : List Str}
theorem trTs_each {scope : Scope} : ∀ {k : Nat} {es : List Expr} {ts : Ts}, trTs k N scope es = some ts → ∀ env, (assignEach es env).map (·.2) = es.map (fun e => assign e env) ∧ (assignEach es env).length = ts.len ∧ (assignEach es env).findIdx? (·.1) = none
  | 0, _, _, h, _ => by simp [trTs] at h
  | k + 1, [], ts, h, env => by
    simp only [trTs, Option.some.injEq] at h
    subst h
    exact ⟨rfl, rfl, rfl⟩
  | k + 1, e :: es, ts, h, env => by
    simp only [trTs] at h
    obtain ⟨t, h1, h2⟩ := Option.bind_eq_some_iff.mp h
    obtain ⟨r, h3, rfl⟩ := Option.map_eq_some_iff.mp h2
    obtain ⟨q1, q2, q3⟩ := trTs_each h3 env
    have hs : assignEach (e :: es) env = (false, assign e env) :: assignEach es env := by
      cases k with
      | zero => simp [trT] at h1
      | succ k => cases e <;> first | rfl | (simp [trT] at h1)
    rw [hs]
    refine ⟨by rw [List.map_cons, q1, List.map_cons], by rw [List.length_cons, q2, Ts.len], ?_⟩
    rw [List.findIdx?_cons]
    simp [q3]
mutual
theorem snd_T (hc : X.calm = true) (nd : N.Nodup) (hN : X.N = N) {scope : Scope} (ok : TgOk X scope) : ∀ {k : Nat} {e : Expr} {t : T}, trT k N scope e = some t → PG X e (gT X.K t)
  | 0, _, _, h => by simp [trT] at h
  | k + 1, e, t, h => by
    cases e with
    | Name x pos =>
      simp only [trT] at h
      split at h
      · rename_i hl
        obtain ⟨i, hi, rfl⟩ := Option.map_eq_some_iff.mp h
        obtain ⟨q1, q2⟩ := ok x hl
        refine (pg_name (by rw [hN]; exact nd) (by rw [hN]; exact idx_at hi) q1 q2).to fun v σ H Q q => ?_
        obtain ⟨env, env', pv, z, m, rs, rp, st, fin⟩ := q
        simp only [T.store, Option.some.injEq] at st
        subst st
        exact fin _ (rs.set rp) ⟨by simp, fun vs hv => wipe_set (hv i (by simp [T.slots]))⟩
      · cases h
    | Tuple es a pos =>
      simp only [trT] at h
      obtain ⟨ts, hts, rfl⟩ := Option.map_eq_some_iff.mp h
      obtain ⟨q1, q2, q3⟩ := trTs_each hts X.env
      refine (pg_tup hc (snd_Ts hc nd hN ok hts) q2 q3).to fun v σ H Q q => ?_
      obtain ⟨env, env', pv, z, m, rs, rp, st, fin⟩ := q
      simp only [T.store] at st
      split at st
      · rename_i xs
        obtain ⟨ad, us, rfl, h2, h3, h4⟩ := rp.tup
        refine ⟨ad, us, rfl, h2.sq, ?_, env, env', xs, z, m, rs, h4, st, fin⟩
        rw [← h4.length, Ts.stores_len st]
      · cases st
    | _ => simp [trT] at h
theorem snd_Ts (hc : X.calm = true) (nd : N.Nodup) (hN : X.N = N) {scope : Scope} (ok : TgOk X scope) : ∀ {k : Nat} {es : List Expr} {ts : Ts}, trTs k N scope es = some ts → PGs X es (gTs X.K ts)
  | 0, _, _, h => by simp [trTs] at h
  | k + 1, [], ts, h => by
    simp only [trTs, Option.some.injEq] at h
    subst h
    refine pgs_nil.to fun vs σ H Q q => ?_
    obtain ⟨env, env', xs, z, m, rs, rp, st, fin⟩ := q
    cases xs with
    | cons _ _ => simp [Ts.stores] at st
    | nil =>
      simp only [Ts.stores, Option.some.injEq] at st
      subst st
      rw [RepDs] at rp
      exact ⟨rp, fin σ rs (.refl _ _)⟩
  | k + 1, e :: es, ts, h => by
    obtain ⟨q1, q2, q3⟩ := trTs_each h X.env
    simp only [trTs] at h
    obtain ⟨t, h1, h2⟩ := Option.bind_eq_some_iff.mp h
    obtain ⟨r, h3, rfl⟩ := Option.map_eq_some_iff.mp h2
    obtain ⟨q4, _, _⟩ := trTs_each h3 X.env
    refine (pgs_cons (snd_T hc nd hN ok h1) (snd_Ts hc nd hN ok h3) (by rw [q1, q4]; rfl)).to fun vs σ H Q q => ?_
    obtain ⟨env, env', xs, z, m, rs, rp, st, fin⟩ := q
    cases xs with
    | nil => simp [Ts.stores] at st
    | cons x xs =>
      rw [Ts.stores] at st
      obtain ⟨e1, s1, s2⟩ := Option.bind_eq_some_iff.mp st
      rw [RepDs] at rp
      obtain ⟨u, us, rfl, r1, r2⟩ := rp
      refine ⟨u, us, rfl, env, e1, .d x, z, m, rs, r1, s1, fun σ1 rs1 o1 => ⟨e1, env', xs, z, m, rs1, r2, s2, fun σ2 rs2 o2 => fin σ2 rs2 ⟨o2.1.trans o1.1, fun ws hw => ?_⟩⟩⟩
      rw [o2.2 ws fun i hi => hw i (by rw [Ts.slots]; exact List.mem_append_right _ hi), o1.2 ws fun i hi => hw i (by rw [Ts.slots]; exact List.mem_append_left _ hi)]
end
end
end Ev
end

section
/-! EvSnd6: what is walked. -/
set_option autoImplicit false
set_option linter.all false
set_option Elab.async false
set_option maxRecDepth 100000
set_option maxHeartbeats 1000000
namespace Ev
open PySem L2 PyProof.Rows

theorem Ext.keepsZ {K : PySem.W.Frag} {z z' m m' : List Addr} {H H' : Hp} (e : Ext m H m' H') (hz : ∀ a ∈ z', a ∈ z ∨ H a = none) : Kept K z m H z' m' H' := by
  have nz : ∀ {a : Addr} {o : HO}, H a = some o → a ∉ z → a ∉ z' := fun h n q => by
    rcases hz _ q with q | q
    · exact n q
    · rw [h] at q; cases q
  have rd : ∀ {a : Addr} {u : HO}, Rd H a u → a ∉ m → a ∉ z → Rd H' a u ∧ a ∉ m' ∧ a ∉ z' := fun h n y => by
    refine ⟨(e.rd h n).1, (e.rd h n).2, ?_⟩
    rcases h with h | ⟨_, h⟩
    · exact nz h y
    · exact nz h y
  refine ⟨fun a us ⟨h, n, y⟩ => ⟨(e.imm _ _ h n).1, (e.imm _ _ h n).2, nz h y⟩, fun a us h => ?_, fun l a h => e.at h, fun a us ⟨h, n, y⟩ => rd h n y⟩
  rcases h with ⟨h, n, y⟩ | h
  · exact .inl (rd h n y)
  · exact .inr h

/-- J walks these items, whatever else goes on -/
structure ItsOk (K : PySem.W.Frag) (z m : List Addr) (H : Hp) (xs : List PV) (J : L2.It) : Prop where
  go : ∀ i m' H', Ext m H m' H' → i < xs.length → J.go i H'
  stop : ∀ m' H', Ext m H m' H' → J.stop xs.length H'
  yld : ∀ i z' m' H' h' x H'' v, Ext m H m' H' → (∀ a ∈ z', a ∈ z ∨ H a = none) → RelH K z' m' H' h' → xs[i]? = some v → J.yld i H' x H'' → Ext m' H' m' H'' ∧ RelH K z' m' H'' h' ∧ Rep K z' m' H'' v x ∧ ∀ a, H' a ≠ none → H'' a = H' a
def RunOk (K : PySem.W.Frag) (z m : List Addr) (H : Hp) : Run → L2.It → Prop
  | .its xs, J => ItsOk K z m H xs J
  | .cell l _, J => ∃ a, m[l]? = some a ∧ J = Itl K a

section
variable {K : PySem.W.Frag} {z m : List Addr} {H : Hp}
theorem its_list {a : Addr} {us : List V} {xs : List D} (h : LstAt K z m H a us) (r : RepDs K z m H xs us) : ItsOk K z m H (xs.map PV.d) (Itl K a) := by
  have sq : ∀ {m' : List Addr} {H' : Hp}, Ext m H m' H' → SqL K H' a us := fun e => (h.mono e).sq
  have hl := r.length
  refine ⟨fun i m' H' e hi => ?_, fun m' H' e => ⟨us, sq e, by simp [hl]⟩, fun i z' m' H' h' x H'' v e hz rh hx y => ?_⟩
  · have hi' : i < us.length := by simpa [hl] using hi
    exact ⟨us, us[i], sq e, by simp [hi']⟩
  · obtain ⟨rfl, y⟩ := y
    obtain ⟨u, h1, h2⟩ := r.reps.get hx
    rw [y us (sq e)] at h1
    cases h1
    exact ⟨.refl _ _, rh, h2.keep (e.keepsZ hz), fun _ _ => rfl⟩
theorem its_tup {a : Addr} {us : List V} {xs : List D} (h : TupAt K z m H a us) (r : RepDs K z m H xs us) : ItsOk K z m H (xs.map PV.d) (Itt K a) := by
  have sq : ∀ {m' : List Addr} {H' : Hp}, Ext m H m' H' → SqT K H' a us := fun e => (h.mono e).sq
  have hl := r.length
  refine ⟨fun i m' H' e hi => ?_, fun m' H' e => ⟨us, sq e, by simp [hl]⟩, fun i z' m' H' h' x H'' v e hz rh hx y => ?_⟩
  · have hi' : i < us.length := by simpa [hl] using hi
    exact ⟨us, us[i], sq e, by simp [hi']⟩
  · obtain ⟨rfl, y⟩ := y
    obtain ⟨u, h1, h2⟩ := r.reps.get hx
    rw [y us (sq e)] at h1
    cases h1
    exact ⟨.refl _ _, rh, h2.keep (e.keepsZ hz), fun _ _ => rfl⟩
theorem its_str {s : List Nat} : ItsOk K z m H (s.map fun c => PV.d (.str [c])) (Its ⟨s.toArray⟩) := by
  refine ⟨fun i m' H' e hi => ?_, fun m' H' e => ?_, fun i z' m' H' h' x H'' v e hz rh hx y => ?_⟩
  · show i < s.toArray.size
    simpa using hi
  · show s.toArray.size ≤ _
    simp
  · obtain ⟨rfl, c, h1, rfl⟩ := y
    have h1 : s[i]? = some c := by simpa using h1
    rw [List.getElem?_map, h1] at hx
    cases hx
    exact ⟨.refl _ _, rh, rfl, fun _ _ => rfl⟩
theorem its_range {lo : Int} {n : Nat} : ItsOk K z m H (rangeD lo n 1) (Itr lo n) := by
  have hl : (rangeD lo n 1).length = n := by simp [rangeD]
  refine ⟨fun i m' H' e hi => ?_, fun m' H' e => ?_, fun i z' m' H' h' x H'' v e hz rh hx y => ?_⟩
  · rw [hl] at hi; exact hi
  · rw [hl]; exact Nat.le_refl _
  · obtain ⟨rfl, rfl⟩ := y
    simp only [rangeD, List.getElem?_map, Option.map_eq_some_iff] at hx
    obtain ⟨j, h1, rfl⟩ := hx
    have h2 := (List.getElem?_eq_some_iff.mp h1).2
    simp only [List.getElem_range] at h2
    subst h2
    exact ⟨.refl _ _, rh, by rw [Rep, RepD, Int.mul_one], fun _ _ => rfl⟩
theorem its_rangeC {lo c : Int} {n : Nat} : ItsOk K z m H (rangeD lo n c) (Itc lo c n) := by
  have hl : (rangeD lo n c).length = n := by simp [rangeD]
  refine ⟨fun i m' H' e hi => ?_, fun m' H' e => ?_, fun i z' m' H' h' x H'' v e hz rh hx y => ?_⟩
  · rw [hl] at hi; exact hi
  · rw [hl]; exact Nat.le_refl _
  · obtain ⟨rfl, rfl⟩ := y
    simp only [rangeD, List.getElem?_map, Option.map_eq_some_iff] at hx
    obtain ⟨j, h1, rfl⟩ := hx
    have h2 := (List.getElem?_eq_some_iff.mp h1).2
    simp only [List.getElem_range] at h2
    subst h2
    exact ⟨.refl _ _, rh, by rw [Rep, RepD], fun _ _ => rfl⟩
theorem zipD_at : ∀ {xs ys : List D} {i : Nat} {v : PV}, (zipD xs ys)[i]? = some v → ∃ x y, xs[i]? = some x ∧ ys[i]? = some y ∧ v = .d (.tup [x, y])
  | [], _, _, _, h => by simp [zipD] at h
  | _ :: _, [], _, _, h => by simp [zipD] at h
  | x :: xs, y :: ys, 0, v, h => by simp [zipD] at h; exact ⟨x, y, rfl, rfl, h.symm⟩
  | x :: xs, y :: ys, i + 1, v, h => by
    obtain ⟨x', y', h1, h2, h3⟩ := zipD_at (xs := xs) (ys := ys) (i := i) (by simpa [zipD] using h)
    exact ⟨x', y', by simpa using h1, by simpa using h2, h3⟩
theorem zipD_len : ∀ (xs ys : List D), (zipD xs ys).length = min xs.length ys.length
  | [], _ => by simp [zipD]
  | _ :: _, [] => by simp [zipD]
  | x :: xs, y :: ys => by simp only [zipD, List.length_cons, zipD_len xs ys]; omega
/-- a new pair -/
theorem pair_new {z' m' : List Addr} {H' : Hp} {h' : Hh} {T : Addr} {x y : D} {u w : V} (rh : RelH K z' m' H' h') (hT : H' T = none) (r1 : RepD K z' m' H' x u) (r2 : RepD K z' m' H' y w) :
    Ext m' H' m' (upd H' T (.tup [u, w])) ∧ RelH K z' m' (upd H' T (.tup [u, w])) h' ∧ Rep K z' m' (upd H' T (.tup [u, w])) (.d (.tup [x, y])) (.ref T) ∧ ∀ a, H' a ≠ none → upd H' T (.tup [u, w]) a = H' a := by
  have e : Ext m' H' m' (upd H' T (.tup [u, w])) := Ext.new hT
  obtain ⟨n1, n2⟩ := rh.fresh hT
  refine ⟨e, rh.keepNew hT, ?_, fun a ha => upd_ne (fun q => ha (by rw [q]; exact hT))⟩
  rw [Rep, RepD]
  refine ⟨T, [u, w], rfl, .inl ⟨.inl upd_same, n1, n2⟩, by show 2 ≤ sizeLine; decide, ?_⟩
  rw [RepDs]
  refine ⟨u, [w], rfl, r1.keep e.keeps, ?_⟩
  rw [RepDs]
  refine ⟨w, [], rfl, r2.keep e.keeps, ?_⟩
  rw [RepDs]
theorem its_zipL {a b : Addr} {us ws : List V} {xs ys : List D} (h : LstAt K z m H a us) (r : RepDs K z m H xs us) (h2 : LstAt K z m H b ws) (r2 : RepDs K z m H ys ws) : ItsOk K z m H (zipD xs ys) (Itz K a b) := by
  have sq : ∀ {m' : List Addr} {H' : Hp}, Ext m H m' H' → SqL K H' a us := fun e => (h.mono e).sq
  have sq2 : ∀ {m' : List Addr} {H' : Hp}, Ext m H m' H' → SqL K H' b ws := fun e => (h2.mono e).sq
  have hl := r.length
  have hl2 := r2.length
  refine ⟨fun i m' H' e hi => ?_, fun m' H' e => ⟨us, ws, sq e, sq2 e, ?_⟩, fun i z' m' H' h' x H'' v e hz rh hx y => ?_⟩
  · rw [zipD_len] at hi
    have hi1 : i < us.length := by omega
    have hi2 : i < ws.length := by omega
    exact ⟨us, ws, us[i], ws[i], sq e, sq2 e, by simp [hi1], by simp [hi2]⟩
  · rw [zipD_len]; omega
  · obtain ⟨T, u, w, rfl, hT, rfl, y1, y2⟩ := y
    obtain ⟨x', y', h3, h4, rfl⟩ := zipD_at hx
    obtain ⟨u', q1, q2⟩ := r.get h3
    obtain ⟨w', q3, q4⟩ := r2.get h4
    rw [y1 us (sq e)] at q1
    rw [y2 ws (sq2 e)] at q3
    cases q1
    cases q3
    exact pair_new rh hT (q2.keep (e.keepsZ hz)) (q4.keep (e.keepsZ hz))
theorem its_zipT {a b : Addr} {us ws : List V} {xs ys : List D} (h : TupAt K z m H a us) (r : RepDs K z m H xs us) (h2 : TupAt K z m H b ws) (r2 : RepDs K z m H ys ws) : ItsOk K z m H (zipD xs ys) (RZ.ItzT K a b) := by
  have sq : ∀ {m' : List Addr} {H' : Hp}, Ext m H m' H' → SqT K H' a us := fun e => (h.mono e).sq
  have sq2 : ∀ {m' : List Addr} {H' : Hp}, Ext m H m' H' → SqT K H' b ws := fun e => (h2.mono e).sq
  have hl := r.length
  have hl2 := r2.length
  refine ⟨fun i m' H' e hi => ?_, fun m' H' e => ⟨us, ws, sq e, sq2 e, ?_⟩, fun i z' m' H' h' x H'' v e hz rh hx y => ?_⟩
  · rw [zipD_len] at hi
    have hi1 : i < us.length := by omega
    have hi2 : i < ws.length := by omega
    exact ⟨us, ws, us[i], ws[i], sq e, sq2 e, by simp [hi1], by simp [hi2]⟩
  · rw [zipD_len]; omega
  · obtain ⟨T, u, w, rfl, hT, rfl, y1, y2⟩ := y
    obtain ⟨x', y', h3, h4, rfl⟩ := zipD_at hx
    obtain ⟨u', q1, q2⟩ := r.get h3
    obtain ⟨w', q3, q4⟩ := r2.get h4
    rw [y1 us (sq e)] at q1
    rw [y2 ws (sq2 e)] at q3
    cases q1
    cases q3
    exact pair_new rh hT (q2.keep (e.keepsZ hz)) (q4.keep (e.keepsZ hz))
theorem enumD_at : ∀ {xs : List D} {n i : Nat} {v : PV}, (enumD n xs)[i]? = some v → ∃ x, xs[i]? = some x ∧ v = .d (.tup [.int ((n + i : Nat) : Int), x])
  | [], _, _, _, h => by simp [enumD] at h
  | x :: xs, n, 0, v, h => by simp [enumD] at h; exact ⟨x, rfl, h.symm⟩
  | x :: xs, n, i + 1, v, h => by
    obtain ⟨x', h1, h2⟩ := enumD_at (xs := xs) (n := n + 1) (i := i) (by simpa [enumD] using h)
    exact ⟨x', by simpa using h1, by rw [h2]; congr 5; omega⟩
theorem enumD_len : ∀ (xs : List D) (n : Nat), (enumD n xs).length = xs.length
  | [], _ => rfl
  | x :: xs, n => by simp [enumD, enumD_len xs (n + 1)]
theorem its_enum {a : Addr} {us : List V} {xs : List D} (h : LstAt K z m H a us) (r : RepDs K z m H xs us) : ItsOk K z m H (enumD 0 xs) (Ite K a) := by
  have sq : ∀ {m' : List Addr} {H' : Hp}, Ext m H m' H' → SqL K H' a us := fun e => (h.mono e).sq
  have hl := r.length
  refine ⟨fun i m' H' e hi => ?_, fun m' H' e => ⟨us, sq e, ?_⟩, fun i z' m' H' h' x H'' v e hz rh hx y => ?_⟩
  · rw [enumD_len] at hi
    have hi1 : i < us.length := by omega
    exact ⟨us, us[i], sq e, by simp [hi1]⟩
  · rw [enumD_len]; omega
  · obtain ⟨T, w, rfl, hT, rfl, y1⟩ := y
    obtain ⟨x', h3, rfl⟩ := enumD_at hx
    obtain ⟨u', q1, q2⟩ := r.get h3
    rw [y1 us (sq e)] at q1
    cases q1
    refine pair_new rh hT ?_ (q2.keep (e.keepsZ hz))
    rw [RepD, Nat.zero_add]
end

/-- the reading of what is walked -/
def tI (K : PySem.W.Frag) (XC : Nat → Option Addr) (W : WX) (r : Env → M Run) : TI := fun σ H R => ∃ env h z m, RelS K z m H env σ ∧ RelH K z m H h ∧
  Out K XC z m H (r env h) (fun run h' m' H' => ∀ J, RunOk K z m' H' run J → R J H') fun cls d H' => W cls d σ H'
theorem _root_.L2.PI.never {X : Cx} {tg e : Expr} {t : TI} (h : ∀ σ H Q, ¬ t σ H Q) : PI X tg e t := ⟨fun _ _ σ H _ _ q => (h σ H _ q).elim⟩
section
variable {P : TrP} {T : Nat → Option Fn} {C : Nat → Option PV} {XC : Nat → Option Addr} {k : Nat} {N : List Str} {sc : Scope} {X : Cx} {W : WX} {tg : Expr}
theorem iter_list {pins : List (Addr × Obj)} {s : Shared} {σ : L2.St} {H : Hp} {a : Addr} {us : List V} {R : L2.It → Hp → Prop} (I : Inv X pins σ H s) (h : SqL X.K H a us) (q : R (Itl X.K a) H) : wpAny (model X.prog X.w) X.A (pyIter (.ref a)) (PIE X pins σ tg R) X.xe s := by
  obtain ⟨its, rv, p, hz⟩ := I.list h
  refine wpAny_pyIter_list p.isList ?_
  refine ⟨s.heap.objs.size, [s.heap.objs.size], _, _, H, rfl, I.kept (t' := s.toks) fun b o e => Heap.get?_push_of_some _ e, turn_list a _, ⟨_, Heap.get?_push_size _ rfl, rfl, rfl⟩, fun b hb => ?_, q⟩
  have e : b = s.heap.objs.size := by simpa using hb
  subst e
  exact I.fpOk (Nat.le_refl _) (I.hok.fresh (Nat.le_refl _))
theorem iter_tup {pins : List (Addr × Obj)} {s : Shared} {σ : L2.St} {H : Hp} {a : Addr} {us : List V} {R : L2.It → Hp → Prop} (I : Inv X pins σ H s) (h : SqT X.K H a us) (q : R (Itt X.K a) H) : wpAny (model X.prog X.w) X.A (pyIter (.ref a)) (PIE X pins σ tg R) X.xe s := by
  obtain ⟨its, rv, p, hz⟩ := I.tuple h
  refine wpAny_pyIter_tuple (show s.heap.IsTuple a its.toArray from p) ?_
  refine ⟨s.heap.objs.size, [s.heap.objs.size], _, _, H, rfl, I.kept (t' := s.toks) fun b o e => Heap.get?_push_of_some _ e, turn_tuple a _, ⟨_, Heap.get?_push_size _ rfl, rfl, rfl⟩, fun b hb => ?_, q⟩
  have e : b = s.heap.objs.size := by simpa using hb
  subst e
  exact I.fpOk (Nat.le_refl _) (I.hok.fresh (Nat.le_refl _))
theorem iter_str {pins : List (Addr × Obj)} {s : Shared} {σ : L2.St} {H : Hp} {x : Str} {v : Value} {R : L2.It → Hp → Prop} (I : Inv X pins σ H s) (r : RelV (.str x) v) (q : R (Its x) H) : wpAny (model X.prog X.w) X.A (pyIter v) (PIE X pins σ tg R) X.xe s := by
  obtain ⟨t, rfl⟩ := r
  cases ha : x.cps.all (· < 128)
  · exact wpAny_pyIter_wide ha (pi_one (tk := s.toks) I _ (turn_str _ x t "str_iterator" (.inr rfl)) ⟨_, Heap.get?_push_size _ rfl, rfl, rfl⟩ q)
  · exact wpAny_pyIter_ascii ha (pi_one (tk := s.toks) I _ (turn_str _ x t "str_ascii_iterator" (.inl rfl)) ⟨_, Heap.get?_push_size _ rfl, rfl, rfl⟩ q)
theorem snd_seq {e : Expr} {re : Env → M PV} (he : PE X e (tE X.K XC W re)) : PI X tg e (tI X.K XC W fun env => M.bnd (re env) fun x => M.lift fun _ => match x with
    | .d (.list xs) => some (.its (xs.map PV.d))
    | .d (.tup xs) => some (.its (xs.map PV.d))
    | .d (.str s) => some (.its (s.map fun c => PV.d (.str [c])))
    | _ => .none) := by
  refine ⟨fun pins s σ H R I q => ?_⟩
  obtain ⟨env, h, z, m, rs, rh, out⟩ := q
  refine thn (he.run pins s σ H (fun x H1 => ∃ v h1 m1 r, Rep X.K z m1 H1 v x ∧ (match v with
    | .d (.list xs) => some (Run.its (xs.map PV.d))
    | .d (.tup xs) => some (.its (xs.map PV.d))
    | .d (.str s) => some (.its (s.map fun c => PV.d (.str [c])))
    | _ => .none) = some r ∧ RelH X.K z m1 H1 h1 ∧ ∀ J, RunOk X.K z m1 H1 r J → R J H1) I ⟨env, h, z, m, rs, rh, out.bnd.imp fun v h1 m1 H1 e1 rh1 o1 x rx => ?_⟩) fun v s1 ⟨x, H1, I1, r1, w, h1, m1, r, rx, er, rh1, q⟩ => ?_
  · obtain ⟨r, er, p⟩ := o1.lift
    exact ⟨v, h1, m1, r, rx, er, rh1, p m1 H1 (Ext.refl _ _) rh1⟩
  · split at er
    · cases er
      obtain ⟨a, us, rfl, h2, h3, h4⟩ := rx.list
      cases r1
      exact iter_list I1 h2.sq (q _ (its_list h2 h4))
    · cases er
      obtain ⟨a, us, rfl, h2, h3, h4⟩ := rx.tup
      cases r1
      exact iter_tup I1 h2.sq (q _ (its_tup h2 h4))
    · cases er
      have hx := rx.str
      subst hx
      exact iter_str I1 r1 (q _ its_str)
    · cases er
theorem snd_cellI {e : Expr} {re : Env → M PV} (he : PE X e (tE X.K XC W re)) : PI X tg e (tI X.K XC W fun env => M.bnd (re env) fun x => M.lift fun h => match x with
    | .ref l => (items h (.ref l)).map fun xs => .cell l xs.length
    | _ => .none) := by
  refine (pi_list he).to fun σ H R q => ?_
  obtain ⟨env, h, z, m, rs, rh, out⟩ := q
  refine ⟨env, h, z, m, rs, rh, out.bnd.imp fun v h1 m1 H1 e1 rh1 o1 x rx => ?_⟩
  obtain ⟨r, er, p⟩ := o1.lift
  split at er
  · rename_i l
    obtain ⟨xs, _, rfl⟩ := Option.map_eq_some_iff.mp er
    obtain ⟨a, rfl, ha⟩ := rx
    obtain ⟨us, h2⟩ := rh1.there (List.mem_of_getElem? ha)
    exact ⟨a, rfl, ⟨us, .inl (.inl h2)⟩, p m1 H1 (Ext.refl _ _) rh1 _ ⟨a, ha, rfl⟩⟩
  · cases er
theorem small_of {i : Int} (h : small i = true) : -(2 ^ 62) ≤ i ∧ i < 2 ^ 62 := by
  unfold small at h
  simp only [Bool.and_eq_true, decide_eq_true_eq] at h
  exact h
theorem snd_rng1 (G : Gd P T C XC k N sc X) {a : Expr} {ra : Env → M PV} {p pos : Pos} (h2 : isGl sc "range" = true) (h3 : P.blts.contains "range" = true) (hs : notStar a = true) (ha : PE X a (tE X.K XC W ra)) :
    PI X tg (.Call (.Name "range" p) [a] [] pos) (tI X.K XC W fun env => M.bnd (ra env) fun x => M.lift fun _ => match x with
    | .d (.int j) => if small j then some (.its (rangeD 0 j.toNat 1)) else .none
    | _ => .none) := by
  refine (pi_range1 (gl_of G h2) (G.facts.blts _ h3) (pa_cons ha pa_nil (starEach_one hs)) (starEach_one hs)).to fun σ H R q => ?_
  obtain ⟨env, h, z, m, rs, rh, out⟩ := q
  refine ⟨env, h, z, m, rs, rh, out.bnd.imp fun v h1 m1 H1 e1 rh1 o1 x rx => ?_⟩
  obtain ⟨r, er, p⟩ := o1.lift
  split at er
  · split at er
    · cases er
      obtain ⟨q1, q2⟩ := small_of ‹_›
      refine ⟨_, by rw [rx.int], q1, q2, p m1 H1 (Ext.refl _ _) rh1 _ its_range⟩
    · cases er
  · cases er
theorem snd_rng2 (G : Gd P T C XC k N sc X) {a b : Expr} {ra rb : Env → M PV} {p pos : Pos} (h2 : isGl sc "range" = true) (h3 : P.blts.contains "range" = true) (hs : notStar a = true) (hs2 : notStar b = true) (ha : PE X a (tE X.K XC W ra)) (hb : PE X b (tE X.K XC W rb)) :
    PI X tg (.Call (.Name "range" p) [a, b] [] pos) (tI X.K XC W fun env => M.bnd (ra env) fun x => M.bnd (rb env) fun y => M.lift fun _ => match x, y with
    | .d (.int i), .d (.int j) => if small i && small j then some (.its (rangeD i (j - i).toNat 1)) else .none
    | _, _ => .none) := by
  have s2 := starEach_one (es := []) (env := X.env) hs2
  refine (pi_range2 (gl_of G h2) (G.facts.blts _ h3) (pa_cons ha (pa_cons hb pa_nil s2) (starEach_one hs)) (by rw [starEach_one hs, s2]; rfl) s2).to fun σ H R q => ?_
  obtain ⟨env, h, z, m, rs, rh, out⟩ := q
  refine ⟨env, h, z, m, rs, rh, out.bnd.imp fun v h1 m1 H1 e1 rh1 o1 x rx => ?_⟩
  refine ⟨env, h1, z, m1, rs.keep e1.keeps, rh1, o1.bnd.imp fun v2 h2 m2 H2 e2 rh2 o2 y ry => ?_⟩
  obtain ⟨r, er, p⟩ := o2.lift
  split at er
  · split at er
    · cases er
      rename_i hsm
      simp only [Bool.and_eq_true] at hsm
      obtain ⟨q1, q2⟩ := small_of hsm.1
      obtain ⟨q3, q4⟩ := small_of hsm.2
      exact ⟨_, _, by rw [rx.int, ry.int], ⟨q1, q2, q3, q4⟩, p m2 H2 (Ext.refl _ _) rh2 _ its_range⟩
    · cases er
  · cases er
theorem snd_rng3 (G : Gd P T C XC k N sc X) {a b : Expr} {ra rb : Env → M PV} {p pos p1 p2 : Pos} {j : Nat} (h2 : isGl sc "range" = true) (h3 : P.blts.contains "range" = true) (hs : notStar a = true) (hs2 : notStar b = true) (ha : PE X a (tE X.K XC W ra)) (hb : PE X b (tE X.K XC W rb)) :
    PI X tg (.Call (.Name "range" p) [a, b, .UnaryOp .USub (.Constant (.int 1) j p1) p2] [] pos) (tI X.K XC W fun env => M.bnd (ra env) fun x => M.bnd (rb env) fun y => M.lift fun _ => match x, y with
    | .d (.int i), .d (.int j) => if decide (-1000000 ≤ i) && decide (i ≤ 1000000) && decide (-1000000 ≤ j) && decide (j ≤ 1000000) && decide ((-1 : Int) = -1) then some (.its (rangeD i (turns i j (-1)) (-1))) else .none
    | _, _ => .none) := by
  have s2 : starEach (b :: [.UnaryOp .USub (.Constant (.int 1) j p1) p2]) X.env = (false, eval b X.env) :: starEach [.UnaryOp .USub (.Constant (.int 1) j p1) p2] X.env := starEach_one hs2
  refine (pi_range3 (gl_of G h2) (G.facts.blts _ h3) (pa_cons ha (pa_cons hb (pa_cons (pe_un un_neg pe_int) pa_nil rfl) s2) (starEach_one hs)) (starEach_one hs) (stars_false _ _ _ (by show (notStar b && _) = true; rw [hs2]; rfl))).to fun σ H R q => ?_
  obtain ⟨env, h, z, m, rs, rh, out⟩ := q
  refine ⟨env, h, z, m, rs, rh, out.bnd.imp fun v h1 m1 H1 e1 rh1 o1 x rx => ?_⟩
  refine ⟨env, h1, z, m1, rs.keep e1.keeps, rh1, o1.bnd.imp fun v2 h2 m2 H2 e2 rh2 o2 y ry => ?_⟩
  obtain ⟨r, er, p⟩ := o2.lift
  split at er
  · rename_i i j
    split at er
    · cases er
      rename_i hsm
      simp only [Bool.and_eq_true, decide_eq_true_eq] at hsm
      obtain ⟨⟨⟨⟨q1, q2⟩, q3⟩, q4⟩, _⟩ := hsm
      have ht : turns i j (-1) = (i - j).toNat := by
        unfold turns
        rw [if_neg (by decide)]
        congr 1
        simp
      refine ⟨1, rfl, i, j, -1, (i - j).toNat, by rw [rx.int, ry.int], RgC.neg (by omega) (by omega) (by omega) (by omega), ?_⟩
      rw [← ht]
      exact p m2 H2 (Ext.refl _ _) rh2 _ its_rangeC
    · cases er
  · cases er
theorem snd_zip (G : Gd P T C XC k N sc X) {a b : Expr} {ra rb : Env → M PV} {p pos tpos : Pos} {elts : List Expr} {kk : Nat} (h2 : isGl sc "zip" = true) (h3 : P.blts.contains "zip" = true) (hs : notStar a = true) (hs2 : notStar b = true) (ha : PE X a (tE X.K XC W ra)) (hb : PE X b (tE X.K XC W rb)) :
    PI X (.Tuple elts kk tpos) (.Call (.Name "zip" p) [a, b] [] pos) (tI X.K XC W fun env => M.bnd (ra env) fun x => M.bnd (rb env) fun y => M.lift fun _ => match x, y with
    | .d (.list xs), .d (.list ys) => some (.its (zipD xs ys))
    | .d (.tup xs), .d (.tup ys) => some (.its (zipD xs ys))
    | _, _ => .none) := by
  have s2 := starEach_one (es := []) (env := X.env) hs2
  refine (RZ.pi_zipA (gl_of G h2) (G.facts.blts _ h3) (pa_cons ha (pa_cons hb pa_nil s2) (starEach_one hs)) (starEach_one hs) (stars_false _ _ _ (by show (notStar b && _) = true; rw [hs2]; rfl))).to fun σ H R q => ?_
  obtain ⟨env, h, z, m, rs, rh, out⟩ := q
  refine ⟨env, h, z, m, rs, rh, out.bnd.imp fun v h1 m1 H1 e1 rh1 o1 x rx => ?_⟩
  refine ⟨env, h1, z, m1, rs.keep e1.keeps, rh1, o1.bnd.imp fun v2 h2 m2 H2 e2 rh2 o2 y ry => ?_⟩
  obtain ⟨r, er, p⟩ := o2.lift
  have rx := rx.keep e2.keeps
  split at er
  · cases er
    obtain ⟨a1, us, rfl, l2, l3, l4⟩ := rx.list
    obtain ⟨a2, ws, rfl, k2, k3, k4⟩ := ry.list
    exact ⟨a1, a2, us, ws, rfl, .inl ⟨l2.sq, k2.sq, p m2 H2 (Ext.refl _ _) rh2 _ (its_zipL l2 l4 k2 k4)⟩⟩
  · cases er
    obtain ⟨a1, us, rfl, l2, l3, l4⟩ := rx.tup
    obtain ⟨a2, ws, rfl, k2, k3, k4⟩ := ry.tup
    exact ⟨a1, a2, us, ws, rfl, .inr ⟨l2.sq, k2.sq, p m2 H2 (Ext.refl _ _) rh2 _ (its_zipT l2 l4 k2 k4)⟩⟩
  · cases er
theorem snd_enum (G : Gd P T C XC k N sc X) {a : Expr} {ra : Env → M PV} {p pos tpos : Pos} {elts : List Expr} {kk : Nat} (h2 : isGl sc "enumerate" = true) (h3 : P.blts.contains "enumerate" = true) (hs : notStar a = true) (ha : PE X a (tE X.K XC W ra)) :
    PI X (.Tuple elts kk tpos) (.Call (.Name "enumerate" p) [a] [] pos) (tI X.K XC W fun env => M.bnd (ra env) fun x => M.lift fun _ => match x with
    | .d (.list xs) => some (.its (enumD 0 xs))
    | _ => .none) := by
  refine (pi_enum (gl_of G h2) (G.facts.blts _ h3) (pa_cons ha pa_nil (starEach_one hs)) (starEach_one hs)).to fun σ H R q => ?_
  obtain ⟨env, h, z, m, rs, rh, out⟩ := q
  refine ⟨env, h, z, m, rs, rh, out.bnd.imp fun v h1 m1 H1 e1 rh1 o1 x rx => ?_⟩
  obtain ⟨r, er, p⟩ := o1.lift
  split at er
  · cases er
    obtain ⟨a1, us, rfl, l2, l3, l4⟩ := rx.list
    exact ⟨a1, us, rfl, l2.sq, p m1 H1 (Ext.refl _ _) rh1 _ (its_enum l2 l4)⟩
  · cases er
end
end Ev
end

section
/-! EvSnd7: comprehensions. -/
set_option autoImplicit false
set_option linter.all false
set_option Elab.async false
set_option maxRecDepth 100000
set_option maxHeartbeats 1000000
namespace Ev
open PySem L2 PyProof.Rows

def WNo : WX := fun _ _ _ _ => False
section
variable {K : PySem.W.Frag} {XC : Nat → Option Addr}
theorem Out.bndB {α β : Type} {z z' m1 m' : List Addr} {H1 H' : Hp} {x : M α} {f : α → M β} {h : Hh} {P : β → Hh → List Addr → Hp → Prop} {E E' : XK} (o : Out K XC z m1 H1 (M.bnd (M.calm x) f h) P E) :
    Out K XC z' m' H' (x h) (fun a h'' _ _ => Out K XC z m1 H1 (f a h'') P E) E' := by
  unfold M.bnd M.calm at o
  cases e : x h with
  | ok a h' => simp only [e] at o; exact fun _ _ _ _ => o
  | exc c v h' => simp only [e] at o; exact o.elim
  | stuck => simp only [e] at o; exact o

/-- the list D is being built -/
def LcInv (K : PySem.W.Frag) (z m1 : List Addr) (H1 : Hp) (Dd : Addr) (acc : List D) (h' : Hh) (m' : List Addr) (H : Hp) : Prop :=
  Ext m1 H1 m' H ∧ RelH K (Dd :: z) m' H h' ∧ ∃ us, H Dd = some (.lst us) ∧ us.length ≤ sizeLine ∧ RepDs K (Dd :: z) m' H acc us
theorem zsub {z : List Addr} {H1 : Hp} {Dd : Addr} (hD : H1 Dd = none) : ∀ a ∈ Dd :: z, a ∈ z ∨ H1 a = none := fun a ha => by
  rcases List.mem_cons.mp ha with rfl | h
  · exact .inr hD
  · exact .inl h
theorem kept_tail {z m : List Addr} {H : Hp} {Dd : Addr} : Kept K (Dd :: z) m H z m H := by
  have t : ∀ {a : Addr}, a ∉ Dd :: z → a ∉ z := fun h q => h (List.mem_cons_of_mem _ q)
  exact ⟨fun a us ⟨h, n, y⟩ => ⟨h, n, t y⟩, fun a us h => h.imp (fun ⟨h, n, y⟩ => ⟨h, n, t y⟩) id, fun _ _ h => h, fun a us ⟨h, n, y⟩ => ⟨h, n, t y⟩⟩
theorem kept_upd {z m : List Addr} {H : Hp} {Dd : Addr} {o : HO} : Kept K (Dd :: z) m H (Dd :: z) m (upd H Dd o) := by
  have ne : ∀ {a : Addr}, a ∉ Dd :: z → a ≠ Dd := fun h q => h (by rw [q]; exact List.mem_cons_self ..)
  have rd : ∀ {a : Addr} {u : HO}, Rd H a u → a ≠ Dd → Rd (upd H Dd o) a u := fun h n => by
    rcases h with h | ⟨x, h⟩
    · exact .inl (by rw [upd_ne n]; exact h)
    · exact .inr ⟨x, by rw [upd_ne n]; exact h⟩
  exact ⟨fun a us ⟨h, n, y⟩ => ⟨by rw [upd_ne (ne y)]; exact h, n, y⟩, fun a us h => h.imp (fun ⟨h, n, y⟩ => ⟨rd h (ne y), n, y⟩) id, fun _ _ h => h, fun a us ⟨h, n, y⟩ => ⟨rd h (ne y), n, y⟩⟩
theorem RelH.tail {z m : List Addr} {H : Hp} {h : Hh} {Dd : Addr} (r : RelH K (Dd :: z) m H h) : RelH K z m H h :=
  ⟨r.nd, r.len, fun l a xs h1 h2 => let ⟨us, e1, e2, e3⟩ := r.cell l a xs h1 h2; ⟨us, e1, e2, e3.keep kept_tail⟩, fun a ha => r.zt a (List.mem_cons_of_mem _ ha)⟩
theorem RelH.upd {z m : List Addr} {H : Hp} {h : Hh} {Dd : Addr} {o : HO} (r : RelH K (Dd :: z) m H h) : RelH K (Dd :: z) m (L2.upd H Dd o) h := by
  have nD := (r.zt Dd (List.mem_cons_self ..)).2
  refine ⟨r.nd, r.len, fun l a xs h1 h2 => ?_, fun a ha => ?_⟩
  · obtain ⟨us, e1, e2, e3⟩ := r.cell l a xs h1 h2
    have ne : a ≠ Dd := fun q => nD (q ▸ List.mem_of_getElem? h1)
    exact ⟨us, by rw [upd_ne ne]; exact e1, e2, e3.keep kept_upd⟩
  · refine ⟨?_, (r.zt a ha).2⟩
    by_cases e : a = Dd
    · subst e; exact ⟨_, upd_same⟩
    · obtain ⟨⟨u, q⟩, _⟩ := r.zt a ha
      exact ⟨u, by rw [upd_ne e]; exact q⟩
theorem LcInv.start {z m1 : List Addr} {H1 : Hp} {Dd : Addr} {h1 : Hh} (rh : RelH K z m1 H1 h1) (hD : H1 Dd = none) : LcInv K z m1 H1 Dd [] h1 m1 (upd H1 Dd (.lst [])) := by
  have e : Ext m1 H1 m1 (upd H1 Dd (.lst [])) := Ext.new hD
  refine ⟨e, ⟨rh.nd, rh.len, fun l a xs q1 q2 => ?_, fun a ha => ?_⟩, [], upd_same, Nat.zero_le _, by rw [RepDs]⟩
  · obtain ⟨us, e1, e2, e3⟩ := rh.cell l a xs q1 q2
    exact ⟨us, by rw [upd_ne (ne_of_none e1 hD)]; exact e1, e2, e3.keep (e.keepsZ (zsub hD))⟩
  · rcases List.mem_cons.mp ha with rfl | h
    · exact ⟨⟨_, upd_same⟩, (rh.fresh hD).1⟩
    · obtain ⟨⟨u, q⟩, n⟩ := rh.zt a h
      exact ⟨⟨u, by rw [upd_ne (ne_of_none q hD)]; exact q⟩, n⟩
/-- the built list is a value -/
theorem LcInv.done {z m1 m' : List Addr} {H1 H : Hp} {Dd : Addr} {acc : List D} {h1 h' : Hh} (rh1 : RelH K z m1 H1 h1) (hD : H1 Dd = none) (I : LcInv K z m1 H1 Dd acc h' m' H) : RelH K z m' H h' ∧ Rep K z m' H (.d (.list acc)) (.ref Dd) := by
  obtain ⟨e, rh, us, q1, q2, q3⟩ := I
  refine ⟨rh.tail, ?_⟩
  rw [Rep, RepD]
  exact ⟨Dd, us, rfl, ⟨q1, (rh.zt Dd (List.mem_cons_self ..)).2, (rh1.fresh hD).2⟩, q2, q3.keep kept_tail⟩

def Step {α : Type} (kont : List D → M PV) (acc : List D) (r : Option PV) : M PV := match r with
  | none => kont acc
  | some (.d y) => if acc.length < LIM then kont (acc ++ [y]) else M.stuck
  | _ => M.stuck
theorem lc_turn {z m1 m' : List Addr} {H1 H H' : Hp} {Dd : Addr} {acc : List D} {h' : Hh} {P : PV → Hh → List Addr → Hp → Prop} {E : XK} {kont : List D → M PV} {rt : Env → M Bool} {re : Env → M PV} {env' : Env} {σ2 : L2.St} (hD : H1 Dd = none)
    (I : LcInv K z m1 H1 Dd acc h' m' H) (e : Ext m' H m' H') (rh : RelH K (Dd :: z) m' H' h') (hk : ∀ a, H a ≠ none → H' a = H a) (rs : RelS K (Dd :: z) m' H' env' σ2)
    (o : Out K XC z m1 H1 (M.bnd (M.calm (M.bnd (rt env') fun b => if b then M.bnd (re env') fun v => M.ret (some v) else M.ret none)) (Step (α := Unit) kont acc) h') P E) :
    tTt K XC WNo rt σ2 H' fun b H3 => if b = true then tE K XC WNo re σ2 H3 fun y H4 => ∃ us, H4 Dd = some (.lst us) ∧ us.length < sizeLine ∧ (∃ acc' h'' m'', LcInv K z m1 H1 Dd acc' h'' m'' (upd H4 Dd (.lst (us ++ [y]))) ∧ Out K XC z m1 H1 (kont acc' h'') P E)
      else ∃ acc' h'' m'', LcInv K z m1 H1 Dd acc' h'' m'' H3 ∧ Out K XC z m1 H1 (kont acc' h'') P E := by
  obtain ⟨e0, rh0, us, q1, q2, q3⟩ := I
  have nD : Dd ∉ m' := (rh0.zt Dd (List.mem_cons_self ..)).2
  have qD : H' Dd = some (.lst us) := by rw [hk Dd (by rw [q1]; simp)]; exact q1
  have o1 := (Out.bndB (z' := Dd :: z) (m' := m') (H' := H') (E' := fun cls d H' => WNo cls d σ2 H') o).bnd
  refine ⟨env', h', Dd :: z, m', rs, rh, o1.imp fun b h3 m3 H3 e3 rh3 o3 => ?_⟩
  have e13 : Ext m1 H1 m3 H3 := (e0.trans e).trans e3
  have qD3 := e3.imm _ _ qD nD
  have acc3 : RepDs K (Dd :: z) m3 H3 acc us := (q3.keep e.keeps).keep e3.keeps
  cases b with
  | false =>
    simp only [Bool.false_eq_true, if_false] at o3 ⊢
    have o4 := o3.ret m3 H3 (Ext.refl _ _) rh3
    exact ⟨acc, h3, m3, ⟨e13, rh3, us, qD3.1, q2, acc3⟩, o4⟩
  | true =>
    simp only [if_true] at o3 ⊢
    refine ⟨env', h3, Dd :: z, m3, rs.keep e3.keeps, rh3, o3.bnd.imp fun v h4 m4 H4 e4 rh4 o4 y ry => ?_⟩
    have o5 := o4.ret m4 H4 (Ext.refl _ _) rh4
    have qD4 := e4.imm _ _ qD3.1 qD3.2
    cases v with
    | d w =>
      simp only [Step] at o5
      split at o5
      · rename_i hl
        have hlen : acc.length = us.length := q3.length
        refine ⟨us, qD4.1, by rw [← hlen, ← lim_size]; exact hl, acc ++ [w], h4, m4, ⟨⟨?_, fun a o h1 h2 => ?_⟩, rh4.upd, us ++ [y], upd_same, ?_, ?_⟩, o5⟩
        · exact (e13.trans e4).pre
        · have ne : a ≠ Dd := ne_of_none h1 hD
          have z := (e13.trans e4).imm a o h1 h2
          exact ⟨by rw [upd_ne ne]; exact z.1, z.2⟩
        · rw [List.length_append, List.length_singleton, ← hlen, ← lim_size]; exact hl
        · refine RepDs.keep kept_upd ((acc3.keep e4.keeps).append ?_)
          rw [RepDs]
          exact ⟨y, [], rfl, ry, by rw [RepDs]⟩
      · exact (show False from o5).elim
    | ref _ => exact (show False from o5).elim
    | dict _ => exact (show False from o5).elim
    | scr _ => exact (show False from o5).elim
theorem step_its (kont : List D → M PV) (acc : List D) : (fun r : Option PV => match r with
      | .none => kont acc
      | some (.d y) => if acc.length < LIM then kont (acc ++ [y]) else M.stuck
      | _ => M.stuck) = Step (α := Unit) kont acc := by
  funext r
  cases r with
  | none => rfl
  | some v => cases v <;> rfl

section
variable {σ : L2.St} {W : WX} {Q : VK} {t : T} {vs : List Nat} {rt : Env → M Bool} {re : Env → M PV}
/-- what a turn makes -/
def eltOf (rt : Env → M Bool) (re : Env → M PV) : Env → M (Option PV) := fun env' => M.bnd (rt env') fun b => if b then M.bnd (re env') fun v => M.ret (some v) else M.ret none
theorem lc_its {z m1 : List Addr} {H1 : Hp} {h1 : Hh} {env : Env} {xs : List PV} {J : L2.It} (hs : ∀ i ∈ t.slots, i ∈ vs) (rs : RelS K z m1 H1 env σ) (rh1 : RelH K z m1 H1 h1) (hJ : ItsOk K z m1 H1 xs J)
    (o : Out K XC z m1 H1 (lcGo (eltOf rt re) (T.store t) (Ev.wipe env vs) xs [] h1) (fun v h' m' H' => ∀ x, Rep K z m' H' v x → Q x H') fun cls d H' => W cls d σ H') (Dd : Addr) (hD : H1 Dd = none) :
    ∃ Wt : Nat → Nat → Hp → Prop, (∃ n, Wt 0 n (upd H1 Dd (.lst []))) ∧ ∀ i n H, Wt i n H →
  (J.stop i H ∧ Q (.ref Dd) H) ∨ (J.go i H ∧ ∃ Nx : Hp → Prop, (∀ H', Nx H' → ∃ m', m' < n ∧ Wt (i + 1) m' H') ∧ ∀ x H', J.yld i H x H' → gT K t x (L2.wipe σ vs) H' fun σ2 H2 => L2.wipe σ2 vs = L2.wipe σ vs ∧ tTt K XC WNo rt σ2 H2 fun b H3 =>
    if b = true then tE K XC WNo re σ2 H3 fun y H4 => ∃ acc, H4 Dd = some (.lst acc) ∧ acc.length < sizeLine ∧ Nx (upd H4 Dd (.lst (acc ++ [y]))) else Nx H3) := by
  refine ⟨fun i n H => n = xs.length - i ∧ i ≤ xs.length ∧ ∃ acc h' m', LcInv K z m1 H1 Dd acc h' m' H ∧ Out K XC z m1 H1 (lcGo (eltOf rt re) (T.store t) (Ev.wipe env vs) (xs.drop i) acc h') (fun v h' m' H' => ∀ x, Rep K z m' H' v x → Q x H') (fun cls d H' => W cls d σ H'),
    ⟨xs.length, by simp, Nat.zero_le _, [], h1, m1, LcInv.start rh1 hD, o⟩, ?_⟩
  rintro i n H ⟨rfl, hi, acc, h', m', I, o'⟩
  by_cases hlt : i < xs.length
  · refine .inr ⟨hJ.go i m' H I.1 hlt, fun H' => ∃ acc' h'' m'', LcInv K z m1 H1 Dd acc' h'' m'' H' ∧ Out K XC z m1 H1 (lcGo (eltOf rt re) (T.store t) (Ev.wipe env vs) (xs.drop (i + 1)) acc' h'') (fun v h' m' H' => ∀ x, Rep K z m' H' v x → Q x H') (fun cls d H' => W cls d σ H'), fun H' hN => ⟨xs.length - (i + 1), by omega, rfl, hlt, hN⟩, fun x H' y => ?_⟩
    rw [List.drop_eq_getElem_cons hlt, lcGo] at o'
    obtain ⟨e2, rh2, rx, hk⟩ := hJ.yld i (Dd :: z) m' H h' x H' xs[i] I.1 (zsub hD) I.2.1 (by simp [hlt]) y
    cases est : T.store t xs[i] (Ev.wipe env vs) with
    | none => rw [est] at o'; exact (show False from o').elim
    | some env' =>
      rw [est] at o'
      simp only [step_its (fun acc => lcGo (eltOf rt re) (T.store t) (Ev.wipe env vs) (xs.drop (i + 1)) acc)] at o'
      refine ⟨Ev.wipe env vs, env', xs[i], Dd :: z, m', ?_, rx, est, fun σ' rs' only => ⟨?_, ?_⟩⟩
      · exact (rs.keep ((I.1.trans e2).keepsZ (zsub hD))).wipe vs
      · rw [only.2 vs hs]
        apply List.ext_getElem?
        intro j
        rw [wipe_at, wipe_at, wipe_length]
        by_cases hj : j ∈ vs <;> simp [hj]
      · exact lc_turn hD I e2 rh2 hk rs' o'
  · have hi' : i = xs.length := by omega
    subst hi'
    refine .inl ⟨hJ.stop m' H I.1, ?_⟩
    rw [List.drop_length, lcGo] at o'
    obtain ⟨q1, q2⟩ := I.done rh1 hD
    exact o'.ret m' H I.1 q1 _ q2
theorem lc_cell {z m1 : List Addr} {H1 : Hp} {h1 : Hh} {env : Env} {l n : Nat} {a : Addr} (hs : ∀ i ∈ t.slots, i ∈ vs) (rs : RelS K z m1 H1 env σ) (rh1 : RelH K z m1 H1 h1) (ha : m1[l]? = some a)
    (o : Out K XC z m1 H1 (lcCell (eltOf rt re) (T.store t) (Ev.wipe env vs) l n n [] h1) (fun v h' m' H' => ∀ x, Rep K z m' H' v x → Q x H') fun cls d H' => W cls d σ H') (Dd : Addr) (hD : H1 Dd = none) :
    ∃ Wt : Nat → Nat → Hp → Prop, (∃ n, Wt 0 n (upd H1 Dd (.lst []))) ∧ ∀ i k H, Wt i k H →
  ((Itl K a).stop i H ∧ Q (.ref Dd) H) ∨ ((Itl K a).go i H ∧ ∃ Nx : Hp → Prop, (∀ H', Nx H' → ∃ m', m' < k ∧ Wt (i + 1) m' H') ∧ ∀ x H', (Itl K a).yld i H x H' → gT K t x (L2.wipe σ vs) H' fun σ2 H2 => L2.wipe σ2 vs = L2.wipe σ vs ∧ tTt K XC WNo rt σ2 H2 fun b H3 =>
    if b = true then tE K XC WNo re σ2 H3 fun y H4 => ∃ acc, H4 Dd = some (.lst acc) ∧ acc.length < sizeLine ∧ Nx (upd H4 Dd (.lst (acc ++ [y]))) else Nx H3) := by
  refine ⟨fun i k H => k = n - i ∧ i ≤ n ∧ ∃ acc h' m', LcInv K z m1 H1 Dd acc h' m' H ∧ Out K XC z m1 H1 (lcCell (eltOf rt re) (T.store t) (Ev.wipe env vs) l n (n - i) acc h') (fun v h' m' H' => ∀ x, Rep K z m' H' v x → Q x H') (fun cls d H' => W cls d σ H'),
    ⟨n, by simp, Nat.zero_le _, [], h1, m1, LcInv.start rh1 hD, o⟩, ?_⟩
  rintro i k H ⟨rfl, hi, acc, h', m', I, o'⟩
  have get : ∀ {r : List PV → R PV} {P : PV → Hh → List Addr → Hp → Prop} {E : XK}, Out K XC z m1 H1 (match h'[l]? with | some (.lst xs) => r xs | .none => .stuck) P E → ∃ xs us, h'[l]? = some (.lst xs) ∧ H a = some (.lst us) ∧ Reps K (Dd :: z) m' H xs us ∧ Out K XC z m1 H1 (r xs) P E := fun {r P E} q => by
    cases hc : h'[l]? with
    | none => rw [hc] at q; exact (show False from q).elim
    | some c =>
      cases c with
      | lst xs =>
        rw [hc] at q
        obtain ⟨us, q1, _, q3⟩ := I.2.1.cell l a xs (I.1.at ha) hc
        exact ⟨xs, us, rfl, q1, q3, q⟩
  by_cases hlt : i < n
  · have hk : n - i = (n - (i + 1)) + 1 := by omega
    rw [hk] at o'
    obtain ⟨xs, us, hc, hu, ru, o2⟩ := get o'
    split at o2
    · rename_i hn
      have hix : n - (n - (i + 1) + 1) = i := by omega
      rw [hix] at o2
      have hlx : i < xs.length := by omega
      have hlu : i < us.length := by rw [← ru.length]; exact hlx
      have sq : SqL K H a us := .inl (.inl hu)
      refine .inr ⟨⟨us, us[i], sq, by simp [hlu]⟩, fun H' => ∃ acc' h'' m'', LcInv K z m1 H1 Dd acc' h'' m'' H' ∧ Out K XC z m1 H1 (lcCell (eltOf rt re) (T.store t) (Ev.wipe env vs) l n (n - (i + 1)) acc' h'') (fun v h' m' H' => ∀ x, Rep K z m' H' v x → Q x H') (fun cls d H' => W cls d σ H'), fun H' hN => ⟨n - (i + 1), by omega, rfl, hlt, hN⟩, fun x H' y => ?_⟩
      obtain ⟨rfl, y⟩ := y
      obtain ⟨x', hx1, hx2⟩ := ru.get (i := i) (x := xs[i]) (by simp [hlx])
      rw [y us sq] at hx1
      cases hx1
      have hxi : xs[i]? = some xs[i] := by simp [hlx]
      rw [hxi] at o2
      simp only at o2
      cases est : T.store t xs[i] (Ev.wipe env vs) with
      | none => rw [est] at o2; exact (show False from o2).elim
      | some env' =>
        rw [est] at o2
        simp only [step_its (fun acc => lcCell (eltOf rt re) (T.store t) (Ev.wipe env vs) l n (n - (i + 1)) acc)] at o2
        refine ⟨Ev.wipe env vs, env', xs[i], Dd :: z, m', ?_, hx2, est, fun σ' rs' only => ⟨?_, ?_⟩⟩
        · exact (rs.keep (I.1.keepsZ (zsub hD))).wipe vs
        · rw [only.2 vs hs]
          apply List.ext_getElem?
          intro j
          rw [wipe_at, wipe_at, wipe_length]
          by_cases hj : j ∈ vs <;> simp [hj]
        · exact lc_turn hD I (.refl _ _) I.2.1 (fun _ _ => rfl) rs' o2
    · exact (show False from o2).elim
  · have hi' : i = n := by omega
    subst hi'
    rw [Nat.sub_self] at o'
    obtain ⟨xs, us, hc, hu, ru, o2⟩ := get o'
    split at o2
    · rename_i hn
      obtain ⟨q1, q2⟩ := I.done rh1 hD
      exact .inl ⟨⟨us, .inl (.inl hu), by rw [← ru.length, hn]; exact Nat.le_refl _⟩, o2 m' H I.1 q1 _ q2⟩
    · exact (show False from o2).elim
/-- the whole of it -/
theorem lc_all {rit : Env → M Run} {H : Hp} (hs : ∀ i ∈ t.slots, i ∈ vs) (q : tE K XC W (fun env => M.bnd (rit env) fun r => match r with
    | .its xs => lcGo (eltOf rt re) (T.store t) (Ev.wipe env vs) xs []
    | .cell l n => lcCell (eltOf rt re) (T.store t) (Ev.wipe env vs) l n n []) σ H Q) : tLc (tI K XC W rit) (gT K t) (tTt K XC WNo rt) (tE K XC WNo re) vs σ H Q := by
  obtain ⟨env, h, z, m, rs, rh, out⟩ := q
  refine ⟨env, h, z, m, rs, rh, out.bnd.imp fun run h1 m1 H1 e1 rh1 o1 J hJ Dd hD => ?_⟩
  cases run with
  | its xs => exact lc_its hs (rs.keep e1.keeps) rh1 hJ o1 Dd hD
  | cell l n =>
    obtain ⟨a, ha, rfl⟩ := hJ
    exact lc_cell hs (rs.keep e1.keeps) rh1 ha o1 Dd hD
end
end
end Ev
end

section
/-! EvSnd8: what is read off a text comes to what the evaluator says: expressions. -/
set_option autoImplicit false
set_option linter.all false
set_option Elab.async false
set_option maxRecDepth 100000
set_option maxHeartbeats 2000000
namespace Ev
open PySem L2 PyProof.Rows

def plainE : Expr → Bool
  | .Starred .. => false
  | .Set .. => false
  | .Slice .. => false
  | _ => true
section
variable {P : TrP} {N : List Str} {sc : Scope}
theorem trE_plain {k : Nat} {e : Expr} {e' : E} (h : trE P k N sc e = some e') : plainE e = true := by
  cases k with
  | zero => simp [trE] at h
  | succ k => cases e <;> first | rfl | (simp [trE] at h)
theorem plainE_star {e : Expr} (h : plainE e = true) : notStar e = true := by
  cases e <;> first | rfl | (simp [plainE] at h)
theorem plainE_fold {e : Expr} (h : plainE e = true) (env : PySem.Env) (x : Value) : foldedSetIterable e env x = pure x := by
  cases e <;> first | rfl | (simp [plainE] at h)
theorem plainE_mark {e : Expr} (h : plainE e = true) (o : CmpOp) : behindInMarks o e = false := by
  cases e <;> first | rfl | (simp [plainE] at h)
theorem plainE_ix {e : Expr} (h : plainE e = true) : plainIx e = true := by
  cases e <;> first | rfl | (simp [plainE] at h)
theorem trCm_of {o : CmpOp} {o' : Cm} (h : trCm o = some o') : o = cmOp o' := by
  cases o <;> first | (cases h; rfl) | (simp [trCm] at h)
theorem trOp_of {o : Operator} {o' : Op} (h : trOp o = some o') : o = opOf o' := by
  cases o <;> first | (cases h; rfl) | (simp [trOp] at h)
end
theorem one_and {X : Cx} {a : Expr} {t : TE} {pos : Pos} {o : BoolOp} (ha : PE X a t) : PE X (.BoolOp o [a] pos) t := ⟨fun pins s σ H Q I q => ha.run pins s σ H Q I q⟩
theorem last_of {o o' : CmpOp} {b c : Expr} (h : plainE c = true) : lastMarks [o, o'] [b, c] = false := plainE_mark h o'

abbrev Fof (T : Nat → Option Fn) (C : Nat → Option PV) (kk : Nat) : Fns := ⟨call T C kk, C⟩
section
variable {P : TrP} {T : Nat → Option Fn} {C : Nat → Option PV} {XC : Nat → Option Addr} {kk : Nat} {N : List Str}
theorem tst_lift (f : Hh → Option Bool) : (M.bnd (M.lift f) fun b => if b = true then M.ret true else M.ret false) = M.lift f := by
  funext h
  simp only [M.bnd, M.lift]
  cases f h with
  | none => rfl
  | some b => cases b <;> rfl
theorem ts_one (F : Fns) (c : E) : evTs F (.cons c .nil) = tst (evE F c) := by
  funext env
  show M.bnd (evE F c env) (fun x => M.bnd (M.lift fun h => truthy h x) fun b => if b = true then M.ret true else M.ret false) = _
  unfold tst
  congr 1
  funext x
  exact tst_lift _
theorem own_slot {scope : Scope} {x : Str} {i : Nat} (hi : idx N x = some i) (hl : isLoc scope x = true) : i ∈ (ownOf N scope.names).map (·.2) := by
  have key : ∀ (ns : List (Str × NameKind)), (ns.lookup x = some .local ∨ ns.lookup x = some .cell) → i ∈ (ownOf N ns).map (·.2) := by
    intro ns
    induction ns with
    | nil => intro h; simp at h
    | cons p r ih =>
      obtain ⟨n, k⟩ := p
      intro h
      by_cases e : x = n
      · subst e
        simp only [List.lookup_cons, beq_self_eq_true] at h
        have hk : (k == NameKind.local || k == NameKind.cell) = true := by
          rcases h with h | h <;> (cases h; rfl)
        simp only [ownOf, hk, if_true, hi]
        simp
      · have hb : (x == n) = false := by simpa using e
        simp only [List.lookup_cons, hb] at h
        have q := ih h
        simp only [ownOf]
        split
        · split
          · simp only [List.map_cons, List.mem_cons]
            exact .inr q
          · exact q
        · exact q
  refine key _ ?_
  unfold isLoc at hl
  split at hl
  · exact .inl ‹_›
  · exact .inr ‹_›
  · cases hl
mutual
theorem slots_in {scope : Scope} : ∀ {k : Nat} {e : Expr} {t : Ev.T}, trT k N scope e = some t → ∀ i ∈ t.slots, i ∈ (ownOf N scope.names).map (·.2)
  | 0, _, _, h => by simp [trT] at h
  | k + 1, e, t, h => by
    cases e with
    | Name x pos =>
      simp only [trT] at h
      split at h
      · rename_i hl
        obtain ⟨i, hi, rfl⟩ := Option.map_eq_some_iff.mp h
        intro j hj
        simp only [T.slots, List.mem_singleton] at hj
        subst hj
        exact own_slot hi hl
      · cases h
    | Tuple es a pos =>
      simp only [trT] at h
      obtain ⟨ts, hts, rfl⟩ := Option.map_eq_some_iff.mp h
      intro j hj
      exact slots_ins hts j (by simpa [T.slots] using hj)
    | _ => simp [trT] at h
theorem slots_ins {scope : Scope} : ∀ {k : Nat} {es : List Expr} {ts : Ev.Ts}, trTs k N scope es = some ts → ∀ i ∈ ts.slots, i ∈ (ownOf N scope.names).map (·.2)
  | 0, _, _, h => by simp [trTs] at h
  | k + 1, [], ts, h => by
    simp only [trTs, Option.some.injEq] at h
    subst h
    intro i hi
    simp [Ts.slots] at hi
  | k + 1, e :: es, ts, h => by
    simp only [trTs] at h
    obtain ⟨t, h1, h2⟩ := Option.bind_eq_some_iff.mp h
    obtain ⟨r, h3, rfl⟩ := Option.map_eq_some_iff.mp h2
    intro i hi
    rw [Ts.slots, List.mem_append] at hi
    rcases hi with hi | hi
    · exact slots_in h1 i hi
    · exact slots_ins h3 i hi
end
theorem tgOk_blk {X : Cx} {s : Shared} {H : Hp} {scope : Scope} {C : Addr} {cl : List (Str × Addr)} {fp : List Addr} : TgOk (X.blk s H scope (compEnvC scope cl C X.env) fp) scope := by
  intro x hl
  unfold isLoc at hl
  split at hl
  · rename_i h
    have q : (relS scope X.env.scope).names.lookup x = some .local := lookup_relS_keep (by decide) h
    exact ⟨.inl q, .inr q⟩
  · rename_i h
    have q : (relS scope X.env.scope).names.lookup x = some .cell := lookup_relS_keep (by decide) h
    exact ⟨.inr q, .inl (by show (scope.names.lookup x == some NameKind.cell) = true; rw [h]; rfl)⟩
  · cases hl
theorem Gd.blk {sc : Scope} {X : Cx} (G : Gd P T C XC kk N sc X) (s : Shared) (H : Hp) (scope : Scope) (Cc : Addr) (cl : List (Str × Addr)) (fp : List Addr) : Gd P T C XC kk N (relS scope sc) (X.blk s H scope (compEnvC scope cl Cc X.env) fp) :=
  ⟨G.facts, G.hN, by show relS scope X.env.scope = _; rw [G.sc], G.calm, G.room, G.nd⟩
end
end Ev
end

section
/-! EvSnd9: expressions, all of them. -/
set_option autoImplicit false
set_option linter.all false
set_option Elab.async false
set_option maxRecDepth 100000
set_option maxHeartbeats 4000000
namespace Ev
open PySem L2 PyProof.Rows

section
variable {P : TrP} {T : Nat → Option Fn} {C : Nat → Option PV} {XC : Nat → Option Addr} {kk : Nat} {N : List Str}
mutual
theorem sE : ∀ {k : Nat} {X : Cx} {sc : Scope} {W : WX} {e : Expr} {e' : E}, Gd P T C XC kk N sc X → Takes X W → trE P k N sc e = some e' → Both XC X W e (evE (Fof T C kk) e')
  | 0, _, _, _, _, _, _, _, h => by simp [trE] at h
  | k + 1, X, sc, W, e, e', G, tk, h => by
    cases e with
    | Name x pos =>
      simp only [trE] at h
      split at h
      · rename_i h1
        split at h
        · rename_i h2
          obtain ⟨i, hi, rfl⟩ := Option.map_eq_some_iff.mp h
          exact .plain (snd_var G h1 h2 hi) fun _ => rfl
        · split at h
          · rename_i h3
            simp only [Bool.and_eq_true] at h3
            cases h
            exact .plain (snd_cst G h1 h3.1 h3.2) fun _ => rfl
          · cases h
      · cases h
    | Constant c j pos =>
      simp only [trE] at h
      obtain ⟨d, hd, rfl⟩ := Option.map_eq_some_iff.mp h
      exact .plain (snd_lit hd) fun _ => rfl
    | BinOp a o b pos =>
      simp only [trE] at h
      obtain ⟨o', ho, h⟩ := Option.bind_eq_some_iff.mp h
      obtain ⟨a', ha, h⟩ := Option.bind_eq_some_iff.mp h
      obtain ⟨b', hb, rfl⟩ := Option.map_eq_some_iff.mp h
      obtain rfl := trOp_of ho
      exact .plain (snd_op (sE G tk ha).v (sE G tk hb).v) fun _ => rfl
    | UnaryOp o a pos =>
      cases o with
      | USub =>
        simp only [trE] at h
        obtain ⟨a', ha, rfl⟩ := Option.map_eq_some_iff.mp h
        exact .plain (snd_neg (sE G tk ha).v) fun _ => rfl
      | Not =>
        simp only [trE] at h
        obtain ⟨a', ha, rfl⟩ := Option.map_eq_some_iff.mp h
        exact snd_not (sE G tk ha)
      | _ => simp [trE] at h
    | BoolOp o es pos =>
      simp only [trE] at h
      exact ⟨(sB G tk h).1, (sB G tk h).2.pt⟩
    | IfExp c a b pos =>
      simp only [trE] at h
      obtain ⟨c', hc, h⟩ := Option.bind_eq_some_iff.mp h
      obtain ⟨a', ha, h⟩ := Option.bind_eq_some_iff.mp h
      obtain ⟨b', hb, rfl⟩ := Option.map_eq_some_iff.mp h
      exact snd_ite (sE G tk hc) (sE G tk ha) (sE G tk hb)
    | Compare a ops bs pos =>
      simp only [trE] at h
      split at h
      · split at h
        · obtain ⟨a', ha, rfl⟩ := Option.map_eq_some_iff.mp h
          exact snd_isN false (sE G tk ha).v
        · obtain ⟨a', ha, rfl⟩ := Option.map_eq_some_iff.mp h
          exact snd_isB false _ (sE G tk ha).v
        · cases h
      · split at h
        · obtain ⟨a', ha, rfl⟩ := Option.map_eq_some_iff.mp h
          exact snd_isN true (sE G tk ha).v
        · obtain ⟨a', ha, rfl⟩ := Option.map_eq_some_iff.mp h
          exact snd_isB true _ (sE G tk ha).v
        · cases h
      · obtain ⟨o', ho, h⟩ := Option.bind_eq_some_iff.mp h
        obtain ⟨a', ha, h⟩ := Option.bind_eq_some_iff.mp h
        obtain ⟨b', hb, rfl⟩ := Option.map_eq_some_iff.mp h
        obtain rfl := trCm_of ho
        exact snd_cmpB G.room (plainE_mark (trE_plain hb) _) (sE G tk ha).v (sE G tk hb).v
      · obtain ⟨o', ho, h⟩ := Option.bind_eq_some_iff.mp h
        obtain ⟨o2', ho2, h⟩ := Option.bind_eq_some_iff.mp h
        obtain ⟨a', ha, h⟩ := Option.bind_eq_some_iff.mp h
        obtain ⟨b', hb, h⟩ := Option.bind_eq_some_iff.mp h
        obtain ⟨c', hc, rfl⟩ := Option.map_eq_some_iff.mp h
        obtain rfl := trCm_of ho
        obtain rfl := trCm_of ho2
        exact snd_cmp2 G.room (last_of (trE_plain hc)) (sE G tk ha).v (sE G tk hb).v (sE G tk hc).v
      · cases h
    | Call f as ks pos =>
      simp only [trE] at h
      split at h
      · rename_i x p
        split at h
        · rename_i h1
          simp only [Bool.and_eq_true] at h1
          split at h
          · rename_i h2
            obtain ⟨as', has, rfl⟩ := Option.map_eq_some_iff.mp h
            obtain ⟨pa, st⟩ := sEs G tk has
            cases as with
            | nil =>
              cases k with
              | zero => simp [trEs] at has
              | succ k =>
                simp only [trEs, Option.some.injEq] at has
                subst has
                exact .plain (snd_call0 G tk h1.1 h1.2 h2) fun _ => rfl
            | cons a as => exact .plain (snd_call G tk h1.1 h1.2 h2 st pa) fun _ => rfl
          · split at h
            · rename_i h3
              split at h
              · rename_i h4
                obtain rfl := str_eq h4
                split at h
                · rename_i a t p1
                  split at h
                  · rename_i h5
                    simp only [Bool.and_eq_true] at h5
                    obtain ⟨t', ht, h⟩ := Option.bind_eq_some_iff.mp h
                    obtain ⟨a', ha, rfl⟩ := Option.map_eq_some_iff.mp h
                    exact .plain (snd_isi G h1.2 h3 h5.1.1 h5.1.2 h5.2 ht (plainE_star (trE_plain ha)) (sE G tk ha).v) fun _ => rfl
                  · cases h
                · cases h
              · obtain ⟨b, hb, h⟩ := Option.bind_eq_some_iff.mp h
                obtain ⟨as', has, rfl⟩ := Option.map_eq_some_iff.mp h
                obtain ⟨pa, st⟩ := sEs G tk has
                cases as with
                | nil =>
                  cases k with
                  | zero => simp [trEs] at has
                  | succ k =>
                    simp only [trEs, Option.some.injEq] at has
                    subst has
                    have hn : ∀ h, blt h b [] = none := fun h => by cases b <;> rfl
                    refine .plain (PE.never fun σ H Q q => ?_) fun _ => rfl
                    obtain ⟨env, h, z, m, rs, rh, o⟩ := q
                    have o : Out X.K XC z m H (M.lift (fun h => blt h b []) h) _ _ := o
                    obtain ⟨a, e, _⟩ := o.lift
                    rw [hn] at e
                    cases e
                | cons a as => exact .plain (snd_bl G h1.1 h1.2 h3 (blOk_of G.calm G.room hb) st pa) fun _ => rfl
            · cases h
        · cases h
      · rename_i o m apos
        split at h
        · cases h
        · rename_i h1
          simp only [Bool.or_eq_true, bne_iff_ne, ne_eq, decide_eq_true_eq, beq_iff_eq, not_or, Decidable.not_not] at h1
          obtain ⟨⟨h1, h2⟩, h3⟩ := h1
          obtain ⟨m', hm, h⟩ := Option.bind_eq_some_iff.mp h
          cases as with
          | nil => simp at h3
          | cons a as =>
            have hl : (a :: as).length ≤ 20 := by omega
            have hline : (apos.endLine == pos.line) = true := by simpa using h1
            have gen : ∀ {o : Expr}, notCall o = true → (trE P k N sc o).bind (fun o' => (trEs P k N sc (a :: as)).map fun as' => E.mt m' o' as') = some e' → Both XC X W (.Call (.Attribute o m apos) (a :: as) [] pos) (evE (Fof T C kk) e') := fun {o} hc h => by
              obtain ⟨o', ho, h⟩ := Option.bind_eq_some_iff.mp h
              obtain ⟨as', has, rfl⟩ := Option.map_eq_some_iff.mp h
              obtain ⟨pa, st⟩ := sEs G tk has
              exact .plain (snd_mt G.room hm hc hl hline st (sE G tk ho).v pa) fun _ => rfl
            split at h
            · split at h
              · rename_i h4
                simp only [Bool.and_eq_true] at h4
                obtain ⟨as', has, rfl⟩ := Option.map_eq_some_iff.mp h
                obtain ⟨pa, st⟩ := sEs G tk has
                exact .plain (snd_mtc G hm h4.2 hl hline st h4.1.1.1 h4.1.1.2 h4.1.2 pa) fun _ => rfl
              · exact gen rfl h
            · cases h
            · rename_i hnc
              refine gen ?_ h
              cases o <;> first | rfl | exact (hnc _ _ _ _ rfl).elim
      · cases h
    | Subscript a i pos =>
      simp only [trE] at h
      split at h
      · obtain ⟨a', ha, h⟩ := Option.bind_eq_some_iff.mp h
        obtain ⟨lo', hlo, h⟩ := Option.bind_eq_some_iff.mp h
        obtain ⟨hi', hhi, rfl⟩ := Option.map_eq_some_iff.mp h
        exact .plain (snd_sl (sE G tk ha).v (sEo G tk hlo) (sEo G tk hhi)) fun _ => rfl
      · cases h
      · cases h
      · obtain ⟨a', ha, h⟩ := Option.bind_eq_some_iff.mp h
        obtain ⟨i', hi, rfl⟩ := Option.map_eq_some_iff.mp h
        exact .plain (snd_ix (plainE_ix (trE_plain hi)) (sE G tk ha).v (sE G tk hi).v) fun _ => rfl
    | Tuple es j pos =>
      simp only [trE] at h
      obtain ⟨es', hes, rfl⟩ := Option.map_eq_some_iff.mp h
      exact .plain (snd_tup (sEs G tk hes).1) fun _ => rfl
    | List es pos =>
      simp only [trE] at h
      split at h
      · obtain ⟨es', hes, rfl⟩ := Option.map_eq_some_iff.mp h
        exact .plain (snd_new (sEs G tk hes).1) fun _ => rfl
      · obtain ⟨es', hes, rfl⟩ := Option.map_eq_some_iff.mp h
        exact .plain (snd_lst (sEs G tk hes).1) fun _ => rfl
    | ListComp elt gens scope pos =>
      rcases gens with _ | ⟨⟨tg, iter, ifs, ia⟩, _ | ⟨g2, gs⟩⟩
      · simp [trE] at h
      · by_cases hia : ia = 0
        rotate_left
        · simp [trE, hia] at h
        subst hia
        simp only [trE] at h
        split at h
        · rename_i hb
          simp only [Bool.and_eq_true, decide_eq_true_eq] at hb
          obtain ⟨it, hit, h⟩ := Option.bind_eq_some_iff.mp h
          obtain ⟨t, ht, h⟩ := Option.bind_eq_some_iff.mp h
          obtain ⟨ifs', hifs, h⟩ := Option.bind_eq_some_iff.mp h
          obtain ⟨elt', helt, rfl⟩ := Option.map_eq_some_iff.mp h
          obtain ⟨pi, pf⟩ := sIt G tk hit
          refine .plain ((pe_lc (g := gT X.K t) (tt := tTt X.K XC WNo fun env => evTs (Fof T C kk) ifs' env) (te := tE X.K XC WNo (evE (Fof T C kk) elt')) G.calm (by rw [G.hN]; exact G.nd) pi (blkOk_by (by rw [G.hN, G.sc]; exact hb.1)) (fun s H Cc cl fp => ?_) (fun s H Cc cl fp => ?_) (fun s H Cc cl fp => ?_) (plainE_fold pf X.env)).to fun σ H Q q => ?_) fun _ => rfl
          · exact snd_T (X := X.blk s H scope (compEnvC scope cl Cc X.env) fp) G.calm G.nd G.hN tgOk_blk ht
          · exact sTs (W := WNo) hb.2 (G.blk s H scope Cc cl fp) L2.takes0 hifs
          · exact (sE (W := WNo) (G.blk s H scope Cc cl fp) L2.takes0 helt).v
          · exact lc_all (slots_in ht) q
        · cases h
      · simp [trE] at h
    | _ => simp [trE] at h
theorem sB : ∀ {k : Nat} {X : Cx} {sc : Scope} {W : WX} {o : BoolOp} {es : List Expr} {pos : Pos} {e' : E}, Gd P T C XC kk N sc X → Takes X W → trBool P k N sc o es = some e' →
    PE X (.BoolOp o es pos) (tE X.K XC W (evE (Fof T C kk) e')) ∧ PW X (.BoolOp o es pos) (tTt X.K XC W (tst (evE (Fof T C kk) e')))
  | 0, _, _, _, _, _, _, _, _, _, h => by simp [trBool] at h
  | k + 1, X, sc, W, o, es, pos, e', G, tk, h => by
    match es, h with
    | [], h => simp [trBool] at h
    | [a], h =>
      simp only [trBool] at h
      have b := sE G tk h
      cases o with
      | And => exact ⟨one_and b.v, pw_and1 b.t⟩
      | Or => exact ⟨one_and b.v, pw_or1 b.t⟩
    | a :: b :: r, h =>
      simp only [trBool] at h
      obtain ⟨a', ha, h⟩ := Option.bind_eq_some_iff.mp h
      obtain ⟨r', hr, h⟩ := Option.map_eq_some_iff.mp h
      have q := sB (pos := pos) G tk hr
      cases o with
      | And => cases h; exact snd_and (sE G tk ha) q.1 q.2
      | Or => cases h; exact snd_or (sE G tk ha) q.1 q.2
theorem sEs : ∀ {k : Nat} {X : Cx} {sc : Scope} {W : WX} {es : List Expr} {es' : Es}, Gd P T C XC kk N sc X → Takes X W → trEs P k N sc es = some es' → PA X es (tEs X.K XC W (evEs (Fof T C kk) es')) ∧ es.all notStar = true
  | 0, _, _, _, _, _, _, _, h => by simp [trEs] at h
  | k + 1, X, sc, W, es, es', G, tk, h => by
    cases es with
    | nil =>
      simp only [trEs, Option.some.injEq] at h
      subst h
      exact ⟨snd_nil, rfl⟩
    | cons e r =>
      have hs : notStar e = true := by
        cases e <;> first | rfl | (simp [trEs] at h)
      have h : (trE P k N sc e).bind (fun e' => (trEs P k N sc r).map fun r' => Es.cons e' r') = some es' := by
        cases e <;> first | (simpa only [trEs] using h) | (simp [notStar] at hs)
      obtain ⟨e', he, h⟩ := Option.bind_eq_some_iff.mp h
      obtain ⟨r', hr, rfl⟩ := Option.map_eq_some_iff.mp h
      obtain ⟨pa, st⟩ := sEs G tk hr
      exact ⟨snd_cons hs (sE G tk he).v pa, by rw [List.all_cons, hs, st]; rfl⟩
theorem sTs : ∀ {k : Nat} {X : Cx} {sc : Scope} {W : WX} {ifs : List Expr} {ifs' : Es}, ifs.length ≤ 1 → Gd P T C XC kk N sc X → Takes X W → trEs P k N sc ifs = some ifs' → PTs X ifs (tTt X.K XC W fun env => evTs (Fof T C kk) ifs' env)
  | 0, _, _, _, _, _, _, _, _, h => by simp [trEs] at h
  | k + 1, X, sc, W, ifs, ifs', hl, G, tk, h => by
    match ifs, hl, h with
    | [], _, h =>
      simp only [trEs, Option.some.injEq] at h
      subst h
      exact ⟨fun pins s σ H Q I q => pts_nil.run pins s σ H Q I (by
        obtain ⟨env, h, z, m, rs, rh, o⟩ := q
        exact (show Out X.K XC z m H (M.ret true h) _ _ from o).ret m H (Ext.refl _ _) rh)⟩
    | [c], _, h =>
      have hs : notStar c = true := by
        cases c <;> first | rfl | (simp [trEs] at h)
      have h : (trE P k N sc c).bind (fun e' => (trEs P k N sc []).map fun r' => Es.cons e' r') = some ifs' := by
        cases c <;> first | (simpa only [trEs] using h) | (simp [notStar] at hs)
      obtain ⟨c', h1, h2⟩ := Option.bind_eq_some_iff.mp h
      obtain ⟨r', h3, rfl⟩ := Option.map_eq_some_iff.mp h2
      have h4 : r' = .nil := by
        cases k with
        | zero => simp [trEs] at h3
        | succ k => simpa only [trEs, Option.some.injEq, eq_comm] using h3
      subst h4
      have e : (fun env => evTs (Fof T C kk) (.cons c' .nil) env) = tst (evE (Fof T C kk) c') := ts_one _ c'
      rw [e]
      exact pts_one (sE G tk h1).t
    | _ :: _ :: _, hl, _ => simp at hl
theorem sEo : ∀ {k : Nat} {X : Cx} {sc : Scope} {W : WX} {e : Option Expr} {e' : Eo}, Gd P T C XC kk N sc X → Takes X W → trEo P k N sc e = some e' → PO X e (tPo X.K XC W (evEo (Fof T C kk) e'))
  | 0, _, _, _, _, _, _, _, h => by simp [trEo] at h
  | k + 1, X, sc, W, e, e', G, tk, h => by
    cases e with
    | none =>
      simp only [trEo, Option.some.injEq] at h
      subst h
      exact snd_po0
    | some e =>
      simp only [trEo] at h
      obtain ⟨e', he, rfl⟩ := Option.map_eq_some_iff.mp h
      exact snd_po1 (sE G tk he).v
theorem sIt : ∀ {k : Nat} {X : Cx} {sc : Scope} {W : WX} {tg e : Expr} {it : Ev.It}, Gd P T C XC kk N sc X → Takes X W → trIt P k N sc tg e = some it → PI X tg e (tI X.K XC W (evIt (Fof T C kk) it)) ∧ plainE e = true
  | 0, _, _, _, _, _, _, _, _, h => by simp [trIt] at h
  | k + 1, X, sc, W, tg, e, it, G, tk, h => by
    have seq : ∀ {e : Expr}, (trE P k N sc e).map It.seq = some it → PI X tg e (tI X.K XC W (evIt (Fof T C kk) it)) ∧ plainE e = true := fun {e} h => by
      obtain ⟨e', he, rfl⟩ := Option.map_eq_some_iff.mp h
      exact ⟨snd_seq (sE G tk he).v, trE_plain he⟩
    simp only [trIt] at h
    split at h
    · rename_i x p a pos
      split at h
      · rename_i h1
        simp only [Bool.and_eq_true] at h1
        obtain rfl := str_eq h1.1.1
        obtain ⟨a', ha, rfl⟩ := Option.map_eq_some_iff.mp h
        exact ⟨snd_rng1 G h1.1.2 h1.2 (plainE_star (trE_plain ha)) (sE G tk ha).v, rfl⟩
      · split at h
        · rename_i h1
          simp only [Bool.and_eq_true] at h1
          obtain rfl := str_eq h1.1.1
          split at h
          · obtain ⟨a', ha, rfl⟩ := Option.map_eq_some_iff.mp h
            exact ⟨snd_enum G h1.1.2 h1.2 (plainE_star (trE_plain ha)) (sE G tk ha).v, rfl⟩
          · cases h
        · exact seq h
    · rename_i x p a b pos
      split at h
      · rename_i h1
        simp only [Bool.and_eq_true] at h1
        obtain rfl := str_eq h1.1.1
        obtain ⟨a', ha, h⟩ := Option.bind_eq_some_iff.mp h
        obtain ⟨b', hb, rfl⟩ := Option.map_eq_some_iff.mp h
        exact ⟨snd_rng2 G h1.1.2 h1.2 (plainE_star (trE_plain ha)) (plainE_star (trE_plain hb)) (sE G tk ha).v (sE G tk hb).v, rfl⟩
      · split at h
        · rename_i h1
          simp only [Bool.and_eq_true] at h1
          obtain rfl := str_eq h1.1.1
          split at h
          · obtain ⟨a', ha, h⟩ := Option.bind_eq_some_iff.mp h
            obtain ⟨b', hb, rfl⟩ := Option.map_eq_some_iff.mp h
            exact ⟨snd_zip G h1.1.2 h1.2 (plainE_star (trE_plain ha)) (plainE_star (trE_plain hb)) (sE G tk ha).v (sE G tk hb).v, rfl⟩
          · cases h
        · exact seq h
    · rename_i x p a b j p1 p2 pos
      split at h
      · rename_i h1
        simp only [Bool.and_eq_true] at h1
        obtain rfl := str_eq h1.1.1
        obtain ⟨a', ha, h⟩ := Option.bind_eq_some_iff.mp h
        obtain ⟨b', hb, rfl⟩ := Option.map_eq_some_iff.mp h
        exact ⟨snd_rng3 G h1.1.2 h1.2 (plainE_star (trE_plain ha)) (plainE_star (trE_plain hb)) (sE G tk ha).v (sE G tk hb).v, rfl⟩
      · exact seq h
    · split at h
      · obtain ⟨e', he, rfl⟩ := Option.map_eq_some_iff.mp h
        exact ⟨snd_cellI (sE G tk he).v, rfl⟩
      · exact seq h
    · exact seq h
end
end
end Ev
end

section
/-! EvSnd10: statements. -/
set_option autoImplicit false
set_option linter.all false
set_option Elab.async false
set_option maxRecDepth 100000
set_option maxHeartbeats 4000000
namespace Ev
open PySem L2 PyProof.Rows

abbrev WU (Ex : XK) : WX := fun c d _ H => Ex c d H
/-- how a statement ends, in the machine's words -/
def FlP (K : PySem.W.Frag) (z : List Addr) (D : Ends) : Fl → Hh → List Addr → Hp → Prop
  | .nxt env, _, m, H => ∀ σ, RelS K z m H env σ → D.nx σ H
  | .ret v, _, m, H => ∀ x, Rep K z m H v x → D.rt x H
  | .brk env, _, m, H => ∀ σ, RelS K z m H env σ → D.bk σ H
  | .cont env, _, m, H => ∀ σ, RelS K z m H env σ → D.ct σ H
def tS (K : PySem.W.Frag) (XC : Nat → Option Addr) (Ex : XK) (r : Env → M Fl) : TS := fun D σ H => ∃ env h z m, RelS K z m H env σ ∧ RelH K z m H h ∧ Out K XC z m H (r env h) (FlP K z D) Ex

section
variable {P : TrP} {T : Nat → Option Fn} {C : Nat → Option PV} {XC : Nat → Option Addr} {kk : Nat} {N : List Str} {X : Cx} {Ex : XK} {F : Fns}
theorem st_nil : PSs X [] (tS X.K XC Ex fun env => M.ret (.nxt env)) := pss_nil.to fun D σ H q => by
  obtain ⟨env, h, z, m, rs, rh, o⟩ := q
  exact o.ret m H (Ext.refl _ _) rh σ rs
theorem st_cons {s : Stmt} {r : List Stmt} {rs rr : Env → M Fl} (h1 : PS X s (tS X.K XC Ex rs)) (h2 : PSs X r (tS X.K XC Ex rr)) :
    PSs X (s :: r) (tS X.K XC Ex fun env => M.bnd (rs env) fun f => match f with
    | .nxt e => rr e
    | f => M.ret f) := by
  refine (pss_cons h1 h2).to fun D σ H q => ?_
  obtain ⟨env, h, z, m, rs', rh, out⟩ := q
  refine ⟨env, h, z, m, rs', rh, out.bnd.imp fun f h1 m1 H1 e1 rh1 o1 => ?_⟩
  cases f with
  | nxt e => exact fun σ1 rs1 => ⟨e, h1, z, m1, rs1, rh1, o1⟩
  | ret v => exact o1.ret m1 H1 (Ext.refl _ _) rh1
  | brk e => exact o1.ret m1 H1 (Ext.refl _ _) rh1
  | cont e => exact o1.ret m1 H1 (Ext.refl _ _) rh1
theorem st_never {s : Stmt} : PS X s (tS X.K XC Ex fun _ => M.stuck) := ps_never.to fun D σ H q => by
  obtain ⟨env, h, z, m, rs', rh, out⟩ := q
  exact out
theorem st_pass {pos : Pos} : PS X (.Pass pos) (tS X.K XC Ex fun env => M.ret (.nxt env)) := ps_pass.to fun D σ H q => by
  obtain ⟨env, h, z, m, rs, rh, o⟩ := q
  exact o.ret m H (Ext.refl _ _) rh σ rs
theorem st_break {pos : Pos} : PS X (.Break pos) (tS X.K XC Ex fun env => M.ret (.brk env)) := ps_break.to fun D σ H q => by
  obtain ⟨env, h, z, m, rs, rh, o⟩ := q
  exact o.ret m H (Ext.refl _ _) rh σ rs
theorem st_cont {pos : Pos} : PS X (.Continue pos) (tS X.K XC Ex fun env => M.ret (.cont env)) := ps_continue.to fun D σ H q => by
  obtain ⟨env, h, z, m, rs, rh, o⟩ := q
  exact o.ret m H (Ext.refl _ _) rh σ rs
theorem st_retN {pos : Pos} : PS X (.Return none pos) (tS X.K XC Ex fun _ => M.ret (.ret (.d .none))) := ps_retN.to fun D σ H q => by
  obtain ⟨env, h, z, m, rs, rh, o⟩ := q
  exact o.ret m H (Ext.refl _ _) rh _ rfl
theorem st_ret {e : Expr} {re : Env → M PV} {pos : Pos} (he : PE X e (tE X.K XC (WU Ex) re)) : PS X (.Return (some e) pos) (tS X.K XC Ex fun env => M.bnd (re env) fun v => M.ret (.ret v)) := by
  refine (ps_ret he).to fun D σ H q => ?_
  obtain ⟨env, h, z, m, rs, rh, out⟩ := q
  refine ⟨env, h, z, m, rs, rh, out.bnd.imp fun v h1 m1 H1 e1 rh1 o1 x rx => ?_⟩
  exact o1.ret m1 H1 (Ext.refl _ _) rh1 x rx
theorem st_expr {e : Expr} {re : Env → M PV} {pos : Pos} (he : PE X e (tE X.K XC (WU Ex) re)) (hs : swapsWith e none pos.line X.env = pure false) : PS X (.Expr e pos) (tS X.K XC Ex fun env => M.bnd (re env) fun _ => M.ret (.nxt env)) := by
  refine (ps_expr he hs).to fun D σ H q => ?_
  obtain ⟨env, h, z, m, rs, rh, out⟩ := q
  refine ⟨env, h, z, m, rs, rh, out.bnd.imp fun v h1 m1 H1 e1 rh1 o1 x rx => ?_⟩
  exact o1.ret m1 H1 (Ext.refl _ _) rh1 σ (rs.keep e1.keeps)
theorem asg_name {re : Env → M PV} {i : Nat} {te : TE} (ht : ∀ σ H Q, tE X.K XC (WU Ex) re σ H Q → te σ H Q) : ∀ D σ H, tS X.K XC Ex (fun env => M.bnd (re env) fun v => M.ret (.nxt (env.set i (some v)))) D σ H → tAsg te (gName i) D σ H := by
  intro D σ H q
  obtain ⟨env, h, z, m, rs, rh, out⟩ := q
  refine ht _ _ _ ⟨env, h, z, m, rs, rh, out.bnd.imp fun v h1 m1 H1 e1 rh1 o1 x rx => ?_⟩
  exact o1.ret m1 H1 (Ext.refl _ _) rh1 _ ((rs.keep e1.keeps).set rx)
theorem st_tgt {tg e : Expr} {t : Ev.T} {re : Env → M PV} {pos : Pos} (he : PE X e (tE X.K XC (WU Ex) re)) (hg : PG X tg (gT X.K t)) (hs : swapsWithSole [tg] e pos.line X.env = pure false) (hw : swappedStores [tg] e X.env = pure none) (h1 : (assignEach [tg] X.env).map (·.2) = [assign tg X.env]) :
    PS X (.Assign [tg] e pos) (tS X.K XC Ex fun env => M.bnd (re env) fun v => M.lift fun _ => (Ev.T.store t v env).map Fl.nxt) := by
  refine (ps_asg he hg hs hw h1).to fun D σ H q => ?_
  obtain ⟨env, h, z, m, rs, rh, out⟩ := q
  refine ⟨env, h, z, m, rs, rh, out.bnd.imp fun v h1 m1 H1 e1 rh1 o1 x rx => ?_⟩
  obtain ⟨f, ef, p⟩ := o1.lift
  obtain ⟨env', est, rfl⟩ := Option.map_eq_some_iff.mp ef
  exact ⟨env, env', v, z, m1, rs.keep e1.keeps, rx, est, fun σ' rs' _ => p m1 H1 (Ext.refl _ _) rh1 σ' rs'⟩
theorem st_if {c : Expr} {a b : List Stmt} {rc : Env → M PV} {ra rb : Env → M Fl} {pos : Pos} (hc : PT X c (tTt X.K XC (WU Ex) (tst rc))) (ha : PSs X a (tS X.K XC Ex ra)) (hb : PSs X b (tS X.K XC Ex rb)) :
    PS X (.If c a b pos) (tS X.K XC Ex fun env => M.bnd (rc env) fun x => M.bnd (M.lift fun h => truthy h x) fun r => if r then ra env else rb env) := by
  refine (ps_if hc ha hb).to fun D σ H q => ?_
  obtain ⟨env, h, z, m, rs, rh, out⟩ := q
  have eq : (M.bnd (rc env) fun x => M.bnd (M.lift fun h => truthy h x) fun r => if r = true then ra env else rb env) = M.bnd (tst rc env) (fun r => if r = true then ra env else rb env) := (M.bnd_assoc _ _ _).symm
  have out : Out X.K XC z m H ((M.bnd (rc env) fun x => M.bnd (M.lift fun h => truthy h x) fun r => if r = true then ra env else rb env) h) (FlP X.K z D) Ex := out
  rw [eq] at out
  refine ⟨env, h, z, m, rs, rh, out.bnd.imp fun r h1 m1 H1 e1 rh1 o1 => ?_⟩
  cases r with
  | true => exact ⟨env, h1, z, m1, rs.keep e1.keeps, rh1, o1⟩
  | false => exact ⟨env, h1, z, m1, rs.keep e1.keeps, rh1, o1⟩

/-! ### changes of cells -/
theorem nodup_inj {xs : List Addr} (nd : xs.Nodup) {i j : Nat} (hi : i < xs.length) (hj : j < xs.length) (e : xs[i] = xs[j]) : i = j := by
  have p := List.pairwise_iff_getElem.mp nd
  rcases Nat.lt_trichotomy i j with h | h | h
  · exact absurd e (p i j hi hj h)
  · exact h
  · exact absurd e.symm (p j i hj hi h)
theorem RelH.put {K : PySem.W.Frag} {z m : List Addr} {H : Hp} {h : Hh} {l : Nat} {a : Addr} {xs : List PV} {us : List V} (r : RelH K z m H h) (ha : m[l]? = some a) (rx : Reps K z m H xs us) (hl : us.length ≤ sizeLine) :
    Ext m H m (L2.upd H a (.lst us)) ∧ RelH K z m (L2.upd H a (.lst us)) (setCell h l xs) := by
  have e : Ext m H m (L2.upd H a (.lst us)) := Ext.cell (List.mem_of_getElem? ha)
  have hlt : l < h.length := by rw [← r.len]; exact (List.getElem?_eq_some_iff.mp ha).1
  refine ⟨e, r.nd, by rw [r.len]; simp [setCell], fun l' b ys h1 h2 => ?_, fun b hb => ?_⟩
  · by_cases hq : l = l'
    · subst hq
      rw [ha] at h1
      cases h1
      simp only [setCell, List.getElem?_set_self hlt, Option.some.injEq] at h2
      cases h2
      exact ⟨us, upd_same, hl, rx.keep e.keeps⟩
    · simp only [setCell, List.getElem?_set_ne hq] at h2
      obtain ⟨vs, q1, q2, q3⟩ := r.cell l' b ys h1 h2
      have hne : b ≠ a := fun q => by
        subst q
        obtain ⟨hl1, e1⟩ := List.getElem?_eq_some_iff.mp ha
        obtain ⟨hl2, e2⟩ := List.getElem?_eq_some_iff.mp h1
        exact hq (nodup_inj r.nd hl1 hl2 (e1.trans e2.symm))
      exact ⟨vs, by rw [upd_ne hne]; exact q1, q2, q3.keep e.keeps⟩
  · obtain ⟨⟨o, q⟩, n⟩ := r.zt b hb
    have hne : b ≠ a := fun q => n (by rw [q]; exact List.mem_of_getElem? ha)
    exact ⟨⟨o, by rw [upd_ne hne]; exact q⟩, n⟩
theorem st_app {o a : Expr} {ro ra : Env → M PV} {apos cpos pos : Pos} (hc : notCall o = true) (hline : (apos.endLine == cpos.line) = true) (hst : notStar a = true) (ho : PE X o (tE X.K XC (WU Ex) ro)) (ha : PE X a (tE X.K XC (WU Ex) ra)) :
    PS X (.Expr (.Call (.Attribute o "append" apos) [a] [] cpos) pos) (tS X.K XC Ex fun env => M.bnd (ro env) fun x => M.bnd (guardM (isRef x)) fun _ => M.bnd (ra env) fun v => fun h => match x with
    | .ref l => match h[l]? with
      | some (.lst xs) => if xs.length < LIM then .ok (.nxt env) (setCell h l (xs ++ [v])) else .stuck
      | .none => .stuck
    | _ => .stuck) := by
  have hs : ([a] : List Expr).all notStar = true := by simp [hst]
  obtain ⟨q1, q2⟩ := starEachs (pos := cpos) (env := X.env) hs
  refine (ps_expr (pe_bm PySem.F.plainAttrs_list PySem.F.slot_list_append PySem.F.type_list_append (show MtR X "list.append" rAppend from mt_append) ho (pa_cons ha pa_nil q1) (base_of hc) (few_of hs (by show 1 ≤ 20; omega)) hline q1 q2) rfl).to fun D σ H q => ?_
  obtain ⟨env, h, z, m, rs, rh, out⟩ := q
  refine ⟨env, h, z, m, rs, rh, out.bnd.imp fun x h1 m1 H1 e1 rh1 o1 vx rx => ?_⟩
  obtain ⟨_, e2, p2⟩ := o1.bnd.lift
  have o2 := p2 m1 H1 (Ext.refl _ _) rh1
  cases x with
  | ref l =>
    obtain ⟨ad, rfl, hm⟩ := rx
    obtain ⟨us0, hu0⟩ := rh1.there (List.mem_of_getElem? hm)
    refine ⟨.inl ⟨rfl, us0, .inl (.inl hu0)⟩, env, h1, z, m1, rs.keep e1.keeps, rh1, o2.bnd.imp fun v h2 m2 H2 e2 rh2 o3 y ry => ?_⟩
    simp only at o3
    have hm2 := e2.at hm
    cases hcl : h2[l]? with
    | none => rw [hcl] at o3; exact (show False from o3).elim
    | some c =>
      cases c with
      | lst xs =>
        rw [hcl] at o3
        simp only at o3
        split at o3
        · rename_i hlt
          obtain ⟨us, hu, hz, ru⟩ := rh2.cell l ad xs hm2 hcl
          have hlen : us.length < sizeLine := by rw [← ru.length, ← lim_size]; exact hlt
          obtain ⟨e3, rh3⟩ := rh2.put hm2 (ru.append (show Reps X.K z m2 H2 [v] [y] from ⟨y, [], rfl, ry, rfl⟩)) (by rw [List.length_append, List.length_singleton]; exact hlen)
          exact ⟨ad, us, y, rfl, rfl, hu, hlen, o3 m2 _ e3 rh3 σ (((rs.keep e1.keeps).keep e2.keeps).keep e3.keeps)⟩
        · exact (show False from o3).elim
  | d _ => cases e2
  | dict _ => cases e2
  | scr _ => cases e2
theorem st_setix {o i e : Expr} {ro ri re : Env → M PV} {p1 pos : Pos} (hs : swapsWithSole [.Subscript o i p1] e pos.line X.env = pure false) (hw : swappedStores [.Subscript o i p1] e X.env = pure none) (hp : plainIx i = true)
    (ho : PE X o (tE X.K XC (WU Ex) ro)) (hi : PE X i (tE X.K XC (WU Ex) ri)) (he : PE X e (tE X.K XC (WU Ex) re)) :
    PS X (.Assign [.Subscript o i p1] e pos) (tS X.K XC Ex fun env => M.bnd (re env) fun v => M.bnd (ro env) fun x => M.bnd (ri env) fun k => fun h => match x, k with
    | .ref l, .d (.int n) => match h[l]? with
      | some (.lst xs) => match place xs.length n with
        | some j => .ok (.nxt env) (setCell h l (xs.set j v))
        | .none => .stuck
      | .none => .stuck
    | _, _ => .stuck) := by
  refine (ps_asg he (pg_sub ho hi set_list (fun v => by cases i <;> first | rfl | (simp [plainIx] at hp))) hs hw rfl).to fun D σ H q => ?_
  obtain ⟨env, h, z, m, rs, rh, out⟩ := q
  refine ⟨env, h, z, m, rs, rh, out.bnd.imp fun v h1 m1 H1 e1 rh1 o1 vv rv => ?_⟩
  refine ⟨env, h1, z, m1, rs.keep e1.keeps, rh1, o1.bnd.imp fun x h2 m2 H2 e2 rh2 o2 vx rx => ?_⟩
  refine ⟨env, h2, z, m2, (rs.keep e1.keeps).keep e2.keeps, rh2, o2.bnd.imp fun k h3 m3 H3 e3 rh3 o3 vk rk => ?_⟩
  split at o3
  · rename_i l n
    obtain ⟨ad, rfl, hm⟩ := rx
    have hm3 := e3.at hm
    cases hcl : h3[l]? with
    | none => rw [hcl] at o3; exact (show False from o3).elim
    | some c =>
      cases c with
      | lst xs =>
        rw [hcl] at o3
        simp only at o3
        cases hj : place xs.length n with
        | none => rw [hj] at o3; exact (show False from o3).elim
        | some j =>
          rw [hj] at o3
          simp only at o3
          obtain ⟨us, hu, hz, ru⟩ := rh3.cell l ad xs hm3 hcl
          obtain ⟨e4, rh4⟩ := rh3.put hm3 (ru.set j ((rv.keep e2.keeps).keep e3.keeps)) (by rw [List.length_set]; exact hz)
          exact ⟨ad, us, n, j, rfl, rk.int, hu, by rw [← place_ix, ← ru.length]; exact hj, o3 m3 _ e4 rh4 σ ((((rs.keep e1.keeps).keep e2.keeps).keep e3.keeps).keep e4.keeps)⟩
  · exact (show False from o3).elim
end
end Ev
end

section
/-! EvSnd11: loops, exceptions, pairs of names. -/
set_option autoImplicit false
set_option linter.all false
set_option Elab.async false
set_option maxRecDepth 100000
set_option maxHeartbeats 4000000
namespace Ev
open PySem L2 PyProof.Rows

section
variable {P : TrP} {XC : Nat → Option Addr} {kk : Nat} {N : List Str} {X : Cx} {Ex : XK} {F : Fns}
/-- the turns' end -/
theorem fl_loop {K : PySem.W.Frag} {z m : List Addr} {H : Hp} {D : Ends} {Nx : L2.St → Hp → Prop} {kont : Env → M Fl} {f : Fl} {h1 : Hh} (rh : RelH K z m H h1)
    (o : Out K XC z m H ((match f with
      | .nxt e => kont e
      | .cont e => kont e
      | .brk e => M.ret (.nxt e)
      | .ret v => M.ret (.ret v) : M Fl) h1) (FlP K z D) Ex)
    (hN : ∀ e σ, RelS K z m H e σ → Out K XC z m H (kont e h1) (FlP K z D) Ex → Nx σ H) : FlP K z { D with nx := Nx, ct := Nx, bk := D.nx } f h1 m H := by
  cases f with
  | nxt e => exact fun σ rs => hN e σ rs o
  | cont e => exact fun σ rs => hN e σ rs o
  | brk e => exact fun σ rs => o.ret m H (Ext.refl _ _) rh σ rs
  | ret v => exact o.ret m H (Ext.refl _ _) rh
theorem for_its {t : Ev.T} {body : Env → M Fl} {D : Ends} {z m1 : List Addr} {H1 : Hp} {h1 : Hh} {env : Env} {σ : L2.St} {xs : List PV} {J : L2.It} (rs : RelS X.K z m1 H1 env σ) (rh1 : RelH X.K z m1 H1 h1) (hJ : ItsOk X.K z m1 H1 xs J)
    (o : Out X.K XC z m1 H1 (forGo body (Ev.T.store t) xs env h1) (FlP X.K z D) Ex) :
    ∃ W : Nat → Nat → L2.St → Hp → Prop, (∃ n, W 0 n σ H1) ∧ ∀ i n σ H, W i n σ H →
  (J.stop i H ∧ D.nx σ H) ∨ (J.go i H ∧ ∃ Nx : L2.St → Hp → Prop, (∀ σ' H', Nx σ' H' → ∃ m', m' < n ∧ W (i + 1) m' σ' H') ∧ ∀ x H', J.yld i H x H' → gT X.K t x σ H' fun σ2 H2 => tS X.K XC Ex body { D with nx := Nx, ct := Nx, bk := D.nx } σ2 H2) := by
  refine ⟨fun i n σ H => n = xs.length - i ∧ i ≤ xs.length ∧ ∃ env h' m', Ext m1 H1 m' H ∧ RelH X.K z m' H h' ∧ RelS X.K z m' H env σ ∧ Out X.K XC z m' H (forGo body (Ev.T.store t) (xs.drop i) env h') (FlP X.K z D) Ex,
    ⟨xs.length, by simp, Nat.zero_le _, env, h1, m1, .refl _ _, rh1, rs, o⟩, ?_⟩
  rintro i n σ H ⟨rfl, hi, env, h', m', e, rh, rs, o'⟩
  by_cases hlt : i < xs.length
  · refine .inr ⟨hJ.go i m' H e hlt, fun σ' H' => ∃ env h' m', Ext m1 H1 m' H' ∧ RelH X.K z m' H' h' ∧ RelS X.K z m' H' env σ' ∧ Out X.K XC z m' H' (forGo body (Ev.T.store t) (xs.drop (i + 1)) env h') (FlP X.K z D) Ex, fun σ' H' hN => ⟨xs.length - (i + 1), by omega, rfl, hlt, hN⟩, fun x H' y => ?_⟩
    rw [List.drop_eq_getElem_cons hlt, forGo] at o'
    obtain ⟨e2, rh2, rx, _⟩ := hJ.yld i z m' H h' x H' xs[i] e (fun a ha => .inl ha) rh (by simp [hlt]) y
    cases est : Ev.T.store t xs[i] env with
    | none => rw [est] at o'; exact (show False from o').elim
    | some env' =>
      rw [est] at o'
      refine ⟨env, env', xs[i], z, m', rs.keep e2.keeps, rx, est, fun σ' rs' _ => ⟨env', h', z, m', rs', rh2, ?_⟩⟩
      refine (o'.mono e2).bnd.imp fun f h3 m3 H3 e3 rh3 o3 => ?_
      exact fl_loop rh3 o3 fun e4 σ4 rs4 o4 => ⟨e4, h3, m3, (e.trans e2).trans e3, rh3, rs4, o4⟩
  · have hi' : i = xs.length := by omega
    subst hi'
    rw [List.drop_length, forGo] at o'
    exact .inl ⟨hJ.stop m' H e, o'.ret m' H (Ext.refl _ _) rh σ rs⟩
theorem for_cell {t : Ev.T} {body : Env → M Fl} {D : Ends} {z m1 : List Addr} {H1 : Hp} {h1 : Hh} {env : Env} {σ : L2.St} {l n : Nat} {a : Addr} (rs : RelS X.K z m1 H1 env σ) (rh1 : RelH X.K z m1 H1 h1) (ha : m1[l]? = some a)
    (o : Out X.K XC z m1 H1 (forCell body (Ev.T.store t) l n n env h1) (FlP X.K z D) Ex) :
    ∃ W : Nat → Nat → L2.St → Hp → Prop, (∃ n, W 0 n σ H1) ∧ ∀ i k σ H, W i k σ H →
  ((Itl X.K a).stop i H ∧ D.nx σ H) ∨ ((Itl X.K a).go i H ∧ ∃ Nx : L2.St → Hp → Prop, (∀ σ' H', Nx σ' H' → ∃ m', m' < k ∧ W (i + 1) m' σ' H') ∧ ∀ x H', (Itl X.K a).yld i H x H' → gT X.K t x σ H' fun σ2 H2 => tS X.K XC Ex body { D with nx := Nx, ct := Nx, bk := D.nx } σ2 H2) := by
  refine ⟨fun i k σ H => k = n - i ∧ i ≤ n ∧ ∃ env h' m', Ext m1 H1 m' H ∧ RelH X.K z m' H h' ∧ RelS X.K z m' H env σ ∧ Out X.K XC z m' H (forCell body (Ev.T.store t) l n (n - i) env h') (FlP X.K z D) Ex,
    ⟨n, by simp, Nat.zero_le _, env, h1, m1, .refl _ _, rh1, rs, o⟩, ?_⟩
  rintro i k σ H ⟨rfl, hi, env, h', m', e, rh, rs, o'⟩
  have get : ∀ {r : List PV → R Fl}, Out X.K XC z m' H (match h'[l]? with | some (.lst xs) => r xs | .none => .stuck) (FlP X.K z D) Ex → ∃ xs us, h'[l]? = some (.lst xs) ∧ H a = some (.lst us) ∧ Reps X.K z m' H xs us ∧ Out X.K XC z m' H (r xs) (FlP X.K z D) Ex := fun {r} q => by
    cases hc : h'[l]? with
    | none => rw [hc] at q; exact (show False from q).elim
    | some c =>
      cases c with
      | lst xs =>
        rw [hc] at q
        obtain ⟨us, q1, _, q3⟩ := rh.cell l a xs (e.at ha) hc
        exact ⟨xs, us, rfl, q1, q3, q⟩
  by_cases hlt : i < n
  · have hk : n - i = (n - (i + 1)) + 1 := by omega
    rw [hk] at o'
    obtain ⟨xs, us, hc, hu, ru, o2⟩ := get o'
    split at o2
    · rename_i hn
      have hix : n - (n - (i + 1) + 1) = i := by omega
      rw [hix] at o2
      have hlx : i < xs.length := by omega
      have hlu : i < us.length := by rw [← ru.length]; exact hlx
      have sq : SqL X.K H a us := .inl (.inl hu)
      refine .inr ⟨⟨us, us[i], sq, by simp [hlu]⟩, fun σ' H' => ∃ env h' m', Ext m1 H1 m' H' ∧ RelH X.K z m' H' h' ∧ RelS X.K z m' H' env σ' ∧ Out X.K XC z m' H' (forCell body (Ev.T.store t) l n (n - (i + 1)) env h') (FlP X.K z D) Ex, fun σ' H' hN => ⟨n - (i + 1), by omega, rfl, hlt, hN⟩, fun x H' y => ?_⟩
      obtain ⟨rfl, y⟩ := y
      obtain ⟨x', hx1, hx2⟩ := ru.get (i := i) (x := xs[i]) (by simp [hlx])
      rw [y us sq] at hx1
      cases hx1
      have hxi : xs[i]? = some xs[i] := by simp [hlx]
      rw [hxi] at o2
      simp only at o2
      cases est : Ev.T.store t xs[i] env with
      | none => rw [est] at o2; exact (show False from o2).elim
      | some env' =>
        rw [est] at o2
        refine ⟨env, env', xs[i], z, m', rs, hx2, est, fun σ' rs' _ => ⟨env', h', z, m', rs', rh, ?_⟩⟩
        refine Out.imp (Out.bnd o2) fun f h3 m3 H3 e3 rh3 o3 => ?_
        exact fl_loop rh3 o3 fun e4 σ4 rs4 o4 => ⟨e4, h3, m3, e.trans e3, rh3, rs4, o4⟩
    · exact (show False from o2).elim
  · have hi' : i = n := by omega
    subst hi'
    rw [Nat.sub_self] at o'
    obtain ⟨xs, us, hc, hu, ru, o2⟩ := get o'
    split at o2
    · rename_i hn
      exact .inl ⟨⟨us, .inl (.inl hu), by rw [← ru.length, hn]; exact Nat.le_refl _⟩, o2 m' H (Ext.refl _ _) rh σ rs⟩
    · exact (show False from o2).elim
theorem st_for {tg iter : Expr} {body : List Stmt} {t : Ev.T} {rit : Env → M Run} {rb : Env → M Fl} {pos : Pos} (hp : PassesOwn (model X.prog X.w) X.A X.env X.xe) (hc : X.calm = true) (hi : PI X tg iter (tI X.K XC (WU Ex) rit)) (hg : PG X tg (gT X.K t)) (hb : PSs X body (tS X.K XC Ex rb)) (hs : plainE iter = true) :
    PS X (.For tg iter body [] pos) (tS X.K XC Ex fun env => M.bnd (rit env) fun r => match r with
    | .its xs => forGo rb (Ev.T.store t) xs env
    | .cell l n => forCell rb (Ev.T.store t) l n n env) := by
  refine (ps_for hp hc hi hg hb (plainE_fold hs X.env)).to fun D σ H q => ?_
  obtain ⟨env, h, z, m, rs, rh, out⟩ := q
  refine ⟨env, h, z, m, rs, rh, out.bnd.imp fun run h1 m1 H1 e1 rh1 o1 J hJ => ?_⟩
  cases run with
  | its xs => exact for_its (rs.keep e1.keeps) rh1 hJ o1
  | cell l n =>
    obtain ⟨a, ha, rfl⟩ := hJ
    exact for_cell (rs.keep e1.keeps) rh1 ha o1
theorem st_while {c : Expr} {body : List Stmt} {rc : Env → M PV} {rb : Env → M Fl} {pos : Pos} (hp : PassesOwn (model X.prog X.w) X.A X.env X.xe) (hc : PT X c (tTt X.K XC (WU Ex) (tst rc))) (hb : PSs X body (tS X.K XC Ex rb)) :
    PS X (.While c body [] pos) (tS X.K XC Ex fun env => whileGo (tst rc) rb turnsMost env) := by
  refine (ps_while hp hc hb).to fun D σ H q => ?_
  obtain ⟨env, h, z, m, rs, rh, out⟩ := q
  refine ⟨fun n σ H => ∃ env h m, RelS X.K z m H env σ ∧ RelH X.K z m H h ∧ Out X.K XC z m H (whileGo (tst rc) rb n env h) (FlP X.K z D) Ex, ⟨_, env, h, m, rs, rh, out⟩, ?_⟩
  rintro n σ H ⟨env, h, m, rs, rh, out⟩
  cases n with
  | zero => exact (show False from out).elim
  | succ n =>
    rw [whileGo] at out
    refine ⟨env, h, z, m, rs, rh, out.bnd.imp fun b h1 m1 H1 e1 rh1 o1 => ?_⟩
    cases b with
    | false => exact o1.ret m1 H1 (Ext.refl _ _) rh1 σ (rs.keep e1.keeps)
    | true =>
      simp only [if_true] at o1 ⊢
      refine ⟨fun σ' H' => ∃ env h m, RelS X.K z m H' env σ' ∧ RelH X.K z m H' h ∧ Out X.K XC z m H' (whileGo (tst rc) rb n env h) (FlP X.K z D) Ex, fun σ' H' hN => ⟨n, Nat.lt_succ_self n, hN⟩, env, h1, z, m1, rs.keep e1.keeps, rh1, o1.bnd.imp fun f h3 m3 H3 e3 rh3 o3 => ?_⟩
      exact fl_loop rh3 o3 fun e4 σ4 rs4 o4 => ⟨e4, h3, m3, rs4, rh3, o4⟩
theorem st_raise {T : Nat → Option Fn} {C : Nat → Option PV} {sc : Scope} (G : Gd P T C XC kk N sc X) (tk : Takes X (WU Ex)) {x s : Str} {j : Nat} {p p2 pos pos' : Pos} (h2 : isGl sc x = true) (h3 : P.excs.contains x = true) (hdb : (x == ("__debug__" : Str)) = false) :
    PS X (.Raise (some (.Call (.Name x p) [.Constant (.str s) j p2] [] pos)) none pos') (tS X.K XC Ex fun _ => fun h => .exc (code x) (.d .none) h) := by
  obtain ⟨Cc, q0, q1, q2, q3, q4, q5⟩ := G.facts.excs x h3
  refine (ps_raise G.calm tk (pmk_own PySem.F.excBase_ValueError q2 q1 q3 (raises_own q4 q5) (gl_of G h2) hdb)).to fun D σ H q => ?_
  obtain ⟨env, h, z, m, rs, rh, out⟩ := q
  exact out m H _ _ (Ext.refl _ _) rh ⟨Cc, q0, rfl, rfl⟩
theorem reps3 {K : PySem.W.Frag} {z m : List Addr} {H : Hp} {x y w : PV} {us : List V} (r : Reps K z m H [x, y, w] us) : ∃ u v o, us = [u, v, o] ∧ Rep K z m H x u ∧ Rep K z m H y v ∧ Rep K z m H w o := by
  obtain ⟨u, t, rfl, h1, h2⟩ := r
  obtain ⟨v, o, rfl, h3, h4⟩ := reps2 h2
  exact ⟨u, v, o, rfl, h1, h3, h4⟩
theorem st_par2 {i j : Nat} {x y : Str} {a b : Expr} {px py pt pos : Pos} {kt k2 pt2} {rs : Env → M (List PV)} (hc : X.calm = true) (hN : X.N.Nodup) (hi : X.N[i]? = some x) (hj : X.N[j]? = some y) (hij : i ≠ j)
    (hx : X.env.scope.names.lookup x = some .local) (hy : X.env.scope.names.lookup y = some .local) (ha : PA X [a, b] (tEs X.K XC (WU Ex) rs))
    (hw : swappedStores [.Tuple [.Name x px, .Name y py] kt pt] (.Tuple [a, b] k2 pt2) X.env = pure (some [x, y])) :
    PS X (.Assign [.Tuple [.Name x px, .Name y py] kt pt] (.Tuple [a, b] k2 pt2) pos) (tS X.K XC Ex fun env => M.bnd (rs env) fun vs => M.lift fun _ => match vs with
    | [v, w] => some (.nxt ((env.set i (some v)).set j (some w)))
    | _ => .none) := by
  refine (ps_par hc hN hi hj hij hx hy ha hw).to fun D σ H q => ?_
  obtain ⟨env, h, z, m, rs', rh, out⟩ := q
  refine ⟨env, h, z, m, rs', rh, out.bnd.imp fun vs h1 m1 H1 e1 rh1 o1 us rus => ?_⟩
  obtain ⟨f, ef, p⟩ := o1.lift
  split at ef
  · cases ef
    obtain ⟨u, v, rfl, r1, r2⟩ := reps2 rus
    exact ⟨u, v, rfl, p m1 H1 (Ext.refl _ _) rh1 _ (((rs'.keep e1.keeps).set r1).set r2)⟩
  · cases ef
theorem st_par3 {i j l : Nat} {x y w : Str} {a b c : Expr} {px py pz pt pos : Pos} {kt k2 pt2} {rs : Env → M (List PV)} (hc : X.calm = true) (hN : X.N.Nodup) (hi : X.N[i]? = some x) (hj : X.N[j]? = some y) (hl : X.N[l]? = some w) (hij : i ≠ j) (hil : i ≠ l) (hjl : j ≠ l)
    (hx : X.env.scope.names.lookup x = some .local) (hy : X.env.scope.names.lookup y = some .local) (hz : X.env.scope.names.lookup w = some .local) (ha : PA X [a, b, c] (tEs X.K XC (WU Ex) rs))
    (hw : swappedStores [.Tuple [.Name x px, .Name y py, .Name w pz] kt pt] (.Tuple [a, b, c] k2 pt2) X.env = pure (some [x, y, w])) :
    PS X (.Assign [.Tuple [.Name x px, .Name y py, .Name w pz] kt pt] (.Tuple [a, b, c] k2 pt2) pos) (tS X.K XC Ex fun env => M.bnd (rs env) fun vs => M.lift fun _ => match vs with
    | [u, v, w] => some (.nxt (((env.set i (some u)).set j (some v)).set l (some w)))
    | _ => .none) := by
  refine (ps_par3 hc hN hi hj hl hij hil hjl hx hy hz ha hw).to fun D σ H q => ?_
  obtain ⟨env, h, z, m, rs', rh, out⟩ := q
  refine ⟨env, h, z, m, rs', rh, out.bnd.imp fun vs h1 m1 H1 e1 rh1 o1 us rus => ?_⟩
  obtain ⟨f, ef, p⟩ := o1.lift
  split at ef
  · cases ef
    obtain ⟨u, v, o, rfl, r1, r2, r3⟩ := reps3 rus
    exact ⟨u, v, o, rfl, p m1 H1 (Ext.refl _ _) rh1 _ ((((rs'.keep e1.keeps).set r1).set r2).set r3)⟩
  · cases ef
end
end Ev
end

section
/-! EvSnd12: statements, all of them. -/
set_option autoImplicit false
set_option linter.all false
set_option Elab.async false
set_option maxRecDepth 100000
set_option maxHeartbeats 4000000
namespace Ev
open PySem L2 PyProof.Rows

theorem ite_n {c : Prop} [Decidable c] {x y k : Nat} (h : (if c then y else x) = k) (hn : ¬ c) : x = k := by rwa [if_neg hn] at h
theorem ite_y {c : Prop} [Decidable c] {x y k : Nat} (h : (if c then y else x) = k) (hn : c) : y = k := by rwa [if_pos hn] at h
theorem swK_0 {sc : Scope} {ts vs : List Expr} {a b : Nat} {p p2 : Pos} {env : PySem.Env} (hs : env.scope = sc) (hk : sc.kind = .function) (h : swK sc ts vs = 0) : swappedStores [.Tuple ts a p] (.Tuple vs b p2) env = pure none := by
  have hb : env.blockKind = .function := by unfold Env.blockKind; rw [hs, hk]; rfl
  have hn : ∀ id, env.kindOf id = sc.names.lookup id := fun id => by unfold Env.kindOf; rw [hs]
  unfold swappedStores
  simp only [hb, hn]
  unfold swK parNames at h
  simp only [bne_self_eq_false, Bool.or_false]
  split
  · rfl
  · rename_i h1
    have h := ite_n h h1
    split
    · rfl
    · rename_i h2
      have h := ite_n h h2
      split
      · rfl
      · rename_i h3
        have h := ite_n h h3
        split
        · rfl
        · rename_i h4
          have h := ite_n h h4
          split at h <;> simp at h
theorem swK_1 {sc : Scope} {ts vs : List Expr} {a b : Nat} {p p2 : Pos} {env : PySem.Env} (hs : env.scope = sc) (hk : sc.kind = .function) (h : swK sc ts vs = 1) : swappedStores [.Tuple ts a p] (.Tuple vs b p2) env = pure (some (parNames sc ts)) ∧ (parNames sc ts).length = ts.length := by
  have hb : env.blockKind = .function := by unfold Env.blockKind; rw [hs, hk]; rfl
  have hn : ∀ id, env.kindOf id = sc.names.lookup id := fun id => by unfold Env.kindOf; rw [hs]
  unfold swappedStores
  simp only [hb, hn]
  unfold swK parNames at h
  simp only [bne_self_eq_false, Bool.or_false]
  split
  · rename_i h1
    have h := ite_y h h1
    simp at h
  · rename_i h1
    have h := ite_n h h1
    split
    · rename_i h2
      have h := ite_y h h2
      simp at h
    · rename_i h2
      have h := ite_n h h2
      split
      · rename_i h3
        have h := ite_y h h3
        simp at h
      · rename_i h3
        have h := ite_n h h3
        split
        · rename_i h4
          have h := ite_y h h4
          simp at h
        · rename_i h4
          have h := ite_n h h4
          split
          · rename_i h5
            have h := ite_y h h5
            simp at h
          · refine ⟨rfl, ?_⟩
            have h3' : ¬ ((parNames sc ts).length != ts.length || (parNames sc ts).eraseDups.length != (parNames sc ts).length) = true := h3
            simp only [Bool.or_eq_true, bne_iff_ne, ne_eq, not_or, Decidable.not_not] at h3'
            exact h3'.1
theorem sole_tup {ts : List Expr} {a : Nat} {p : Pos} (e : Expr) (line : Nat) (env : PySem.Env) : swapsWithSole [.Tuple ts a p] e line env = pure false := by
  show swapsWith e (some (.Tuple ts a p)) line env = pure false
  cases e <;> rfl
theorem sole_sub {o i : Expr} {p : Pos} (e : Expr) (line : Nat) (env : PySem.Env) : swapsWithSole [.Subscript o i p] e line env = pure false := by
  show swapsWith e (some (.Subscript o i p)) line env = pure false
  cases e <;> rfl
theorem sw_sub {o i : Expr} {p : Pos} (e : Expr) (env : PySem.Env) : swappedStores [.Subscript o i p] e env = pure none := by
  cases e <;> rfl
theorem sw_tupO {ts : List Expr} {a : Nat} {p : Pos} {e : Expr} (env : PySem.Env) (h : ∀ vs k p, e ≠ .Tuple vs k p) : swappedStores [.Tuple ts a p] e env = pure none := by
  cases e <;> first | rfl | exact (h _ _ _ rfl).elim
def notComp : Expr → Bool
  | .ListComp .. => false
  | .SetComp .. => false
  | .DictComp .. => false
  | _ => true
theorem sw_none {e : Expr} (h : notComp e = true) (t : Option Expr) (line : Nat) (env : PySem.Env) : swapsWith e t line env = pure false := by
  cases e <;> first | rfl | (simp [notComp] at h)
def swB (sc scope : Scope) (vp : Pos) (x : Str) (p : Pos) : Bool := sc.kind == .function && (sc.names.lookup x == some .local) && p.line == vp.line && !(scope.names.any fun (n, k) => n == x && (k == .local || k == .cell))
theorem sw_comp {sc scope : Scope} {elt : Expr} {gens : List Comprehension} {vp p : Pos} {x : Str} {line : Nat} {env : PySem.Env} (hs : env.scope = sc) (hk : sc.kind = .function) : swapsWith (.ListComp elt gens scope vp) (some (.Name x p)) line env = pure (swB sc scope vp x p) := by
  have hb : env.blockKind = sc.kind := by unfold Env.blockKind; rw [hs, hk]; rfl
  have hn : ∀ id, env.kindOf id = sc.names.lookup id := fun id => by unfold Env.kindOf; rw [hs]
  unfold swapsWith swB
  simp only [hb, hn]
  rfl

/-- what a def's body needs -/
structure Gs (P : TrP) (T : Nat → Option Fn) (C : Nat → Option PV) (XC : Nat → Option Addr) (kk : Nat) (N : List Str) (sc : Scope) (X : Cx) (Ex : XK) : Prop where
  g : Gd P T C XC kk N sc X
  tk : Takes X (WU Ex)
  hp : PassesOwn (model X.prog X.w) X.A X.env X.xe
  ok : TgOk X sc
  kind : sc.kind = .function
section
variable {P : TrP} {T : Nat → Option Fn} {C : Nat → Option PV} {XC : Nat → Option Addr} {kk : Nat} {N : List Str} {X : Cx} {Ex : XK} {sc : Scope}
theorem notCallT_of {o : Expr} (h : notCallT o = true) : notCall o = true := by
  cases o <;> first | rfl | (simp [notCallT] at h)
theorem trE_comp {k : Nat} {e : Expr} {e' : E} (h : trE P k N sc e = some e') (hl : ∀ a b c d, e ≠ .ListComp a b c d) : notComp e = true := by
  cases k with
  | zero => simp [trE] at h
  | succ k => cases e <;> first | rfl | (simp [trE] at h; done) | exact (hl _ _ _ _ rfl).elim
/-- name = e -/
theorem s_set (G : Gs P T C XC kk N sc X Ex) {k i : Nat} {x : Str} {e : Expr} {e' : E} {p pos : Pos} (hl : isLoc sc x = true) (hi : idx N x = some i) (h : trE P k N sc e = some e') :
    PS X (.Assign [.Name x p] e pos) (tS X.K XC Ex (evS (Fof T C kk) (.set i e'))) := by
  have hN : X.N[i]? = some x := by rw [G.g.hN]; exact idx_at hi
  have nd : X.N.Nodup := by rw [G.g.hN]; exact G.g.nd
  obtain ⟨q1, q2⟩ := G.ok x hl
  have gen : swapsWith e (some (.Name x p)) pos.line X.env = pure false → PS X (.Assign [.Name x p] e pos) (tS X.K XC Ex (evS (Fof T C kk) (.set i e'))) := fun hs =>
    (ps_set nd hN q1 (sE G.g G.tk h).v hs q2).to fun D σ H q => asg_name (fun σ H Q q => q) D σ H q
  by_cases hc : notComp e = true
  · exact gen (sw_none hc _ _ _)
  · have hlc : ∃ a b c d, e = .ListComp a b c d := Classical.byContradiction fun hn => hc (trE_comp h fun a b c d eq => hn ⟨a, b, c, d, eq⟩)
    obtain ⟨elt, gens, scope, vp, rfl⟩ := hlc
    have hsw := sw_comp (elt := elt) (gens := gens) (scope := scope) (vp := vp) (p := p) (x := x) (line := pos.line) G.g.sc G.kind
    cases hb : swB sc scope vp x p with
    | false => rw [hb] at hsw; exact gen hsw
    | true =>
      rw [hb] at hsw
      have hyl : X.env.scope.names.lookup x = some .local := by
        unfold swB at hb
        simp only [Bool.and_eq_true, beq_iff_eq] at hb
        rw [G.g.sc]
        exact hb.1.1.2
      cases k with
      | zero => simp [trE] at h
      | succ k =>
        rcases gens with _ | ⟨⟨tg, iter, ifs, ia⟩, _ | ⟨g2, gs⟩⟩
        · simp [trE] at h
        · by_cases hia : ia = 0
          rotate_left
          · simp [trE, hia] at h
          subst hia
          simp only [trE] at h
          split at h
          · rename_i hb2
            simp only [Bool.and_eq_true, decide_eq_true_eq] at hb2
            obtain ⟨it, hit, h⟩ := Option.bind_eq_some_iff.mp h
            obtain ⟨t, ht, h⟩ := Option.bind_eq_some_iff.mp h
            obtain ⟨ifs', hifs, h⟩ := Option.bind_eq_some_iff.mp h
            obtain ⟨elt', helt, rfl⟩ := Option.map_eq_some_iff.mp h
            obtain ⟨pi, pf⟩ := sIt G.g G.tk hit
            refine (ps_setLc (g := gT X.K t) (tt := tTt X.K XC WNo fun env => evTs (Fof T C kk) ifs' env) (te := tE X.K XC WNo (evE (Fof T C kk) elt')) G.g.calm nd hN hyl hsw pi (blkOk_by (by rw [G.g.hN, G.g.sc]; exact hb2.1)) (fun s H Cc cl fp => ?_) (fun s H Cc cl fp => ?_) (fun s H Cc cl fp => ?_) (plainE_fold pf X.env)).to fun D σ H q => ?_
            · exact snd_T (X := X.blk s H scope (compEnvC scope cl Cc X.env) fp) G.g.calm G.g.nd G.g.hN tgOk_blk ht
            · exact sTs (W := WNo) hb2.2 (G.g.blk s H scope Cc cl fp) L2.takes0 hifs
            · exact (sE (W := WNo) (G.g.blk s H scope Cc cl fp) L2.takes0 helt).v
            · exact asg_name (re := evE (Fof T C kk) (.lc elt' t ((ownOf N scope.names).map (·.2)) it ifs')) (fun σ H Q q => lc_all (slots_in ht) q) D σ H q
          · cases h
        · simp [trE] at h
theorem append_name {m : Str} (h : (m == ("append" : Str)) = true) : m = "append" := str_eq h
end
section
variable {P : TrP} {T : Nat → Option Fn} {C : Nat → Option PV} {XC : Nat → Option Addr} {kk : Nat} {N : List Str} {X : Cx} {Ex : XK} {sc : Scope}
mutual
theorem sS (G : Gs P T C XC kk N sc X Ex) : ∀ {k : Nat} {s : Stmt} {s' : S}, trS P k N sc s = some s' → PS X s (tS X.K XC Ex (evS (Fof T C kk) s'))
  | 0, _, _, h => by simp [trS] at h
  | k + 1, s, s', h => by
    have gE : ∀ {e : Expr} {e' : E}, trE P k N sc e = some e' → Both XC X (WU Ex) e (evE (Fof T C kk) e') := fun h => sE G.g G.tk h
    have nd : X.N.Nodup := by rw [G.g.hN]; exact G.g.nd
    have tgt : ∀ {ts : List Expr} {a : Nat} {p pos : Pos} {e : Expr}, swappedStores [.Tuple ts a p] e X.env = pure none → ((trT k N sc (.Tuple ts a p)).bind fun t => (trE P k N sc e).map fun e' => S.sett t e') = some s' → PS X (.Assign [.Tuple ts a p] e pos) (tS X.K XC Ex (evS (Fof T C kk) s')) := fun {ts a p pos e} hw h => by
      obtain ⟨t, ht, h⟩ := Option.bind_eq_some_iff.mp h
      obtain ⟨e', he, rfl⟩ := Option.map_eq_some_iff.mp h
      exact st_tgt (gE he).v (snd_T G.g.calm G.g.nd G.g.hN G.ok ht) (sole_tup _ _ _) hw rfl
    simp only [trS] at h
    split at h
    · rename_i e pos
      have ex : ∀ {e : Expr}, (∀ a b c d, e ≠ .ListComp a b c d) → (trE P k N sc e).map S.expr = some s' → PS X (.Expr e pos) (tS X.K XC Ex (evS (Fof T C kk) s')) := fun {e} hl h => by
        obtain ⟨e', he, rfl⟩ := Option.map_eq_some_iff.mp h
        exact st_expr (gE he).v (sw_none (trE_comp he hl) _ _ _)
      split at h
      · rename_i o m apos a cpos
        split at h
        · rename_i h1
          simp only [Bool.and_eq_true] at h1
          obtain rfl := append_name h1.1.1
          obtain ⟨o', ho, h⟩ := Option.bind_eq_some_iff.mp h
          obtain ⟨a', ha, rfl⟩ := Option.map_eq_some_iff.mp h
          exact st_app (notCallT_of h1.2) h1.1.2 (plainE_star (trE_plain ha)) (gE ho).v (gE ha).v
        · exact ex (fun _ _ _ _ q => by cases q) h
      · cases h
      · rename_i hnl
        exact ex (fun a b c d q => hnl _ _ _ _ q) h
    · rename_i x p e pos
      split at h
      · rename_i hl
        obtain ⟨i, hi, h⟩ := Option.bind_eq_some_iff.mp h
        obtain ⟨e', he, rfl⟩ := Option.map_eq_some_iff.mp h
        exact s_set G hl hi he
      · cases h
    · rename_i ts a p e pos
      split at h
      · rename_i vs b p2
        split at h
        · rename_i hk
          exact tgt (swK_0 G.g.sc G.kind hk) h
        · rename_i hk
          obtain ⟨hw, hlen⟩ := swK_1 (a := a) (b := b) (p := p) (p2 := p2) G.g.sc G.kind hk
          split at h
          · rename_i x px y py v w
            obtain ⟨i, hi, h⟩ := Option.bind_eq_some_iff.mp h
            obtain ⟨j, hj, h⟩ := Option.bind_eq_some_iff.mp h
            split at h
            · rename_i hc
              simp only [Bool.and_eq_true, bne_iff_ne, ne_eq, beq_iff_eq] at hc
              obtain ⟨es, hes, rfl⟩ := Option.map_eq_some_iff.mp h
              have hpn : parNames sc [.Name x px, .Name y py] = [x, y] := by
                unfold parNames at hlen ⊢
                simp only [List.filterMap_cons, List.filterMap_nil] at hlen ⊢
                split at hlen <;> split at hlen <;> simp_all
              rw [hpn] at hw
              exact st_par2 G.g.calm nd (by rw [G.g.hN]; exact idx_at hi) (by rw [G.g.hN]; exact idx_at hj) hc.1.1 (by rw [G.g.sc]; exact hc.1.2) (by rw [G.g.sc]; exact hc.2) (sEs G.g G.tk hes).1 hw
            · cases h
          · rename_i x px y py z pz u v w
            obtain ⟨i, hi, h⟩ := Option.bind_eq_some_iff.mp h
            obtain ⟨j, hj, h⟩ := Option.bind_eq_some_iff.mp h
            obtain ⟨l, hl, h⟩ := Option.bind_eq_some_iff.mp h
            split at h
            · rename_i hc
              simp only [Bool.and_eq_true, bne_iff_ne, ne_eq, beq_iff_eq] at hc
              obtain ⟨⟨⟨⟨⟨c1, c2⟩, c3⟩, c4⟩, c5⟩, c6⟩ := hc
              obtain ⟨es, hes, rfl⟩ := Option.map_eq_some_iff.mp h
              have hpn : parNames sc [.Name x px, .Name y py, .Name z pz] = [x, y, z] := by
                unfold parNames at hlen ⊢
                simp only [List.filterMap_cons, List.filterMap_nil] at hlen ⊢
                split at hlen <;> split at hlen <;> split at hlen <;> simp_all
              rw [hpn] at hw
              exact st_par3 G.g.calm nd (by rw [G.g.hN]; exact idx_at hi) (by rw [G.g.hN]; exact idx_at hj) (by rw [G.g.hN]; exact idx_at hl) c1 c2 c3 (by rw [G.g.sc]; exact c4) (by rw [G.g.sc]; exact c5) (by rw [G.g.sc]; exact c6) (sEs G.g G.tk hes).1 hw
            · cases h
          · cases h
        · cases h
      · rename_i hnt
        exact tgt (sw_tupO _ fun vs k p q => hnt _ _ _ q) h
    · rename_i o i p e pos
      split at h
      · cases h
      · cases h
      · cases h
      · obtain ⟨o', ho, h⟩ := Option.bind_eq_some_iff.mp h
        obtain ⟨i', hi, h⟩ := Option.bind_eq_some_iff.mp h
        obtain ⟨e', he, rfl⟩ := Option.map_eq_some_iff.mp h
        exact st_setix (sole_sub _ _ _) (sw_sub _ _) (plainE_ix (trE_plain hi)) (gE ho).v (gE hi).v (gE he).v
    · obtain ⟨e', he, rfl⟩ := Option.map_eq_some_iff.mp h
      exact st_ret (gE he).v
    · cases h
      exact st_retN
    · obtain ⟨c', hc, h⟩ := Option.bind_eq_some_iff.mp h
      obtain ⟨a', ha, h⟩ := Option.bind_eq_some_iff.mp h
      obtain ⟨b', hb, rfl⟩ := Option.map_eq_some_iff.mp h
      exact st_if (gE hc).t (sSs G ha) (sSs G hb)
    · obtain ⟨it, hit, h⟩ := Option.bind_eq_some_iff.mp h
      obtain ⟨t, ht, h⟩ := Option.bind_eq_some_iff.mp h
      obtain ⟨b', hb, rfl⟩ := Option.map_eq_some_iff.mp h
      obtain ⟨pi, pf⟩ := sIt G.g G.tk hit
      exact st_for G.hp G.g.calm pi (snd_T G.g.calm G.g.nd G.g.hN G.ok ht) (sSs G hb) pf
    · obtain ⟨c', hc, h⟩ := Option.bind_eq_some_iff.mp h
      obtain ⟨b', hb, rfl⟩ := Option.map_eq_some_iff.mp h
      exact st_while G.hp (gE hc).t (sSs G hb)
    · split at h
      · rename_i h1
        simp only [Bool.and_eq_true] at h1
        split at h
        · cases h
          exact st_raise G.g G.tk h1.1.2 h1.2 (okN_of h1.1.1).1
        · cases h
      · cases h
    · cases h
      exact st_break
    · cases h
      exact st_cont
    · cases h
      exact st_pass
    · cases h
theorem sSs (G : Gs P T C XC kk N sc X Ex) : ∀ {k : Nat} {ss : List Stmt} {ss' : Ss}, trSs P k N sc ss = some ss' → PSs X ss (tS X.K XC Ex (evSs (Fof T C kk) ss'))
  | 0, _, _, h => by simp [trSs] at h
  | k + 1, [], ss', h => by
    simp only [trSs, Option.some.injEq] at h
    subst h
    exact st_nil
  | k + 1, s :: r, ss', h => by
    simp only [trSs] at h
    obtain ⟨r', hr, rfl⟩ := Option.map_eq_some_iff.mp h
    have hs : PS X s (tS X.K XC Ex (evS (Fof T C kk) ((trS P k N sc s).getD .never))) := by
      cases e : trS P k N sc s with
      | none => exact st_never
      | some s' => exact sS G e
    exact st_cons hs (sSs G hr)
end
end
end Ev
end

section
/-! EvSnd13: all defs keep their promises. -/
set_option autoImplicit false
set_option linter.all false
set_option Elab.async false
set_option maxRecDepth 100000
set_option maxHeartbeats 4000000
namespace Ev
open PySem L2 PyProof.Rows

/-- what is known of the text's names, once for all depths -/
structure Stat (P : TrP) (T : Nat → Option Fn) (C : Nat → Option PV) (XC : Nat → Option Addr) (sts : Str → Option Stmt) (K : PySem.W.Frag) (mg : Str → Option Value) : Prop where
  fns : ∀ x, P.fns.contains x = true → ∃ f fd st, sts x = some st ∧ mg x = some (.ref f) ∧ PySem.W.keepIn K (.ref f) = true ∧ (∀ us : List Value, us.length = (paramsOf st).length → bindArgs fd ⟨us, []⟩ = pure ((paramsOf st).zip us)) ∧ L2.Fun K x x st f fd ∧ FnScope (namesOf st) (paramsOf st) (defScope st) ∧ (∀ d, T (code x) = some d → trFn P st = some d)
  csts : ∀ x, P.csts.contains x = true → ∀ v, C (code x) = some v → ∃ u y, mg x = some u ∧ RelV y u ∧ ∀ z m H, Rep K z m H v y
  blts : ∀ x, P.blts.contains x = true → mg x = none
  excs : ∀ x, P.excs.contains x = true → ∃ Cc, XC (code x) = some Cc ∧ mg x = some (.ref Cc) ∧ PySem.W.excIn K Cc [.type "ValueError", .type "Exception", .type "BaseException", .type "object"] "ValueError.__new__" = true ∧ PySem.W.keepIn K (.ref Cc) = true ∧ PySem.W.subIn K (.ref Cc) (.type "BaseException") = some true ∧ PySem.W.typeIn K (.ref Cc) = some (.type "type")

section
variable {P : TrP} {T : Nat → Option Fn} {C : Nat → Option PV} {XC : Nat → Option Addr} {prog : Program} {w : World} {K : PySem.W.Frag} {mg : Str → Option Value} {base : Heap}
theorem trFn_np {st : Stmt} {d : Fn} (h : trFn P st = some d) : d.np = (paramsOf st).length ∧ d.ns = (namesOf st).length ∧ trSs P 60 (namesOf st) (defScope st) (defBody st) = some d.body := by
  unfold trFn at h
  obtain ⟨b, hb, rfl⟩ := Option.map_eq_some_iff.mp h
  exact ⟨rfl, rfl, hb⟩
theorem start_rel {z m : List Addr} {H : Hp} {args : List PV} {vs : List V} {N : List Str} {n : Nat} (r : Reps K z m H args vs) (hn : n = N.length) : RelS K z m H (Ev.start n args) (L2.start N vs) := by
  have hl := r.length
  refine ⟨?_, fun i v h => ?_⟩
  · unfold Ev.start L2.start
    simp only [List.length_append, List.length_map, List.length_replicate, hl, hn]
  · unfold Ev.start at h
    unfold L2.start
    by_cases hi : i < args.length
    · rw [List.getElem?_append_left (by simpa using hi), List.getElem?_map] at h
      obtain ⟨a, ha, e⟩ := Option.map_eq_some_iff.mp h
      cases e
      obtain ⟨u, h1, h2⟩ := r.get ha
      exact ⟨u, by rw [List.getElem?_append_left (by simpa [← hl] using hi), List.getElem?_map, h1]; rfl, h2⟩
    · rw [List.getElem?_append_right (by simpa using hi), List.getElem?_replicate] at h
      split at h
      · cases h
      · cases h
theorem fnOk_zero {f : Addr} {fd : FuncData} {ps : List Str} {c : Nat} : FnOk prog w K mg base (L2.CX prog w) 0 f fd ps (spEv K XC ps.length (call T C 0 c)) :=
  ⟨fun vs H Q E h => h.1, fun A outer s H args us vs Q E _ _ _ _ h => by
    obtain ⟨_, a, hh, z, m, _, _, o⟩ := h
    exact (show False from o).elim⟩
theorem fnOk_succ {k : Nat} (F0 : Facts P T C XC prog w K mg base k) {x : Str} {f : Addr} {fd : FuncData} {st : Stmt} (F : L2.Fun K x x st f fd) (S : FnScope (namesOf st) (paramsOf st) (defScope st)) (hT : ∀ d, T (code x) = some d → trFn P st = some d) :
    FnOk prog w K mg base (L2.CX prog w) (k + 1) f fd (paramsOf st) (spEv K XC (paramsOf st).length (call T C (k + 1) (code x))) := by
  refine F.okX S (fun vs H Q E h => h.1) fun cdv A outer s H vs Q E hr h => ?_
  obtain ⟨hl, args, hh, z, m, ra, rh, out⟩ := h
  rw [call] at out
  cases e : T (code x) with
  | none => rw [e] at out; exact (show False from out).elim
  | some d =>
    obtain ⟨q1, q2, q3⟩ := trFn_np (hT d e)
    rw [e] at out
    simp only at out
    split at out
    rotate_left
    · exact (show False from out).elim
    have G : Gs P T C XC k (namesOf st) (defScope st) (cxOf (L2.CX prog w) prog w K mg base (namesOf st) x (defScope st) f cdv A outer s H E) E :=
      ⟨⟨F0, rfl, rfl, rfl, hr, S.nd⟩, L2.takes_of rfl rfl rfl rfl, L2.passes_of rfl, fun y hy => ⟨loc_of hy, .inl rfl⟩, S.kind⟩
    refine ⟨_, sSs G q3, Ev.start d.ns args, hh, z, m, start_rel ra q2, rh, out.bnd.imp fun r h1 m1 H1 e1 rh1 o1 => ?_⟩
    cases r with
    | ret v => exact o1.ret m1 H1 (Ext.refl _ _) rh1
    | nxt env => exact fun σ _ => o1.ret m1 H1 (Ext.refl _ _) rh1 .non rfl
    | brk env => exact (show False from o1).elim
    | cont env => exact (show False from o1).elim
theorem facts_all {sts : Str → Option Stmt} (S : Stat P T C XC sts K mg) : ∀ k, Facts P T C XC prog w K mg base k
  | 0 => ⟨fun x hx => by
      obtain ⟨f, fd, st, _, h1, h2, h3, h4, h5, h6⟩ := S.fns x hx
      exact ⟨f, fd, paramsOf st, h1, h2, .all h3, fun d hd => (trFn_np (h6 d hd)).1, fnOk_zero⟩, S.csts, S.blts, S.excs⟩
  | k + 1 => ⟨fun x hx => by
      obtain ⟨f, fd, st, _, h1, h2, h3, h4, h5, h6⟩ := S.fns x hx
      exact ⟨f, fd, paramsOf st, h1, h2, .all h3, fun d hd => (trFn_np (h6 d hd)).1, fnOk_succ (facts_all S k) h4 h5 h6⟩, S.csts, S.blts, S.excs⟩
end

/-- the law, from the evaluator's run of it -/
def spOk (K : PySem.W.Frag) (r : List PV → M PV) : Sp := fun vs H Q _ => vs.length = 1 ∧ ∃ args h z m v h', Reps K z m H args vs ∧ RelH K z m H h ∧ r args h = .ok v h' ∧ ∀ m' H', Ext m H m' H' → RelH K z m' H' h' → ∀ x, Rep K z m' H' v x → Q x H'
theorem ints_rep {K : PySem.W.Frag} {H : Hp} : ∀ ns : List Int, RepDs K [] [] H (ns.map D.int) (ns.map V.int)
  | [] => by rw [List.map_nil, List.map_nil, RepDs]
  | n :: ns => by
    rw [List.map_cons, List.map_cons, RepDs]
    exact ⟨_, _, rfl, by rw [RepD], ints_rep ns⟩
theorem walk {l : PySem.W.OpenLaw} {q : Program} {loose : List Str} {XP : (Str → Option Value) → Heap → Prop} {YP : World → Heap → Prop} {d : DefRec} {K : Params → PySem.W.Frag} {P : TrP} {T : Nat → Option Fn} {C : Nat → Option PV} {sts : Str → Option Stmt} {st : Stmt} (k : Nat)
    (hn : l.most = some 63) (hdf : d.params.defaults = []) (hr : Room k callerA) (hY : ∀ (w : World) (h : Heap), YP w h → (K w.params).In h)
    (hfn : P.fns.contains d.name = true)
    (hx : ∀ (w : World) (mg : Str → Option Value) (h : Heap), (K w.params).In h → h.Ns mainGlobals mg → ∃ (XC : Nat → Option Addr), Stat P T C XC sts (K w.params) mg)
    {x : Str} (hst : sts d.name = some st) (hps : paramsOf st = [x])
    (hlaw : ∀ ns : List Int, ns.length ≤ 63 → ∃ h', call T C k (code d.name) [.scr (ns.map D.int)] [] = .ok (.d (.bool true)) h') :
    PySem.W.WalkO q loose XP YP l.row.toRowW d [] (fun f vs => PySem.call f vs) := by
  refine L2.walk_of (n := 63) (k := k) (x := x) (CX := fun w => L2.CX l.prog w) (sp := fun w => spOk (K w.params) (call T C k (code d.name))) hn (by decide) hdf hr hY (fun w mg fa h KX G hmg => ?_) (fun w H a ns hl _ hS => ?_) fun w H s e s' z => ?_
  · obtain ⟨XC, S⟩ := hx w mg h KX G
    obtain ⟨f, fd, st', h0, h1, h2, h3, h4, h5, h6⟩ := S.fns d.name hfn
    have e := hmg.symm.trans h1
    cases e
    rw [hst] at h0
    cases h0
    have hp := hps
    refine ⟨fd, fun s u => .of_eq ?_, fun base _ _ => ?_⟩
    · have := h3 [u] (by rw [hp]; rfl)
      rw [hp] at this
      exact this
    · have F : FnOk l.prog w (K w.params) mg base (L2.CX l.prog w) k fa fd (paramsOf st) (spEv (K w.params) XC (paramsOf st).length (call T C k (code d.name))) := by
        cases k with
        | zero => exact fnOk_zero
        | succ k => exact fnOk_succ (facts_all S k) h4 h5 h6
      rw [hp] at F
      refine F.imp fun vs H Q E q => ?_
      obtain ⟨q1, args, hh, z, m, v, h', q2, q3, q4, q5⟩ := q
      refine ⟨q1, args, hh, z, m, q2, q3, ?_⟩
      rw [q4]
      exact q5
  · obtain ⟨h', hcall⟩ := hlaw ns hl
    refine ⟨rfl, [.scr (ns.map D.int)], [], [], [], .d (.bool true), h', ⟨.ref a, [], rfl, ⟨a, ns.map V.int, rfl, ?_, ?_, ints_rep ns⟩, rfl⟩, ⟨List.nodup_nil, rfl, fun l a xs h => by simp at h, fun a ha => by simp at ha⟩, hcall, fun m' H' _ _ x rx => rx⟩
    · rcases hS with hS | hS
      · exact .inl ⟨hS, by simp, by simp⟩
      · exact .inr hS
    · rw [List.length_map]
      exact Nat.le_trans hl (by decide)
  · obtain ⟨_, _, _, _, _, _, _, _, _, _, _, _, z⟩ := z
    exact z.elim
end Ev
end

section
/-! EvStat: the facts of a text, one by one. -/
set_option autoImplicit false
set_option linter.all false
set_option Elab.async false
set_option maxRecDepth 100000
set_option maxHeartbeats 4000000
namespace Ev
open PySem L2 PyProof.Rows

/-- a name's facts -/
def FnSt (T : Nat → Option Fn) (P : TrP) (sts : Str → Option Stmt) (K : PySem.W.Frag) (mg : Str → Option Value) (x : Str) : Prop :=
  ∃ f fd st, sts x = some st ∧ mg x = some (.ref f) ∧ PySem.W.keepIn K (.ref f) = true ∧ (∀ us : List Value, us.length = (paramsOf st).length → bindArgs fd ⟨us, []⟩ = pure ((paramsOf st).zip us)) ∧ L2.Fun K x x st f fd ∧ FnScope (namesOf st) (paramsOf st) (defScope st) ∧ (∀ d, T (code x) = some d → trFn P st = some d)
def CsSt (C : Nat → Option PV) (K : PySem.W.Frag) (mg : Str → Option Value) (x : Str) : Prop := ∀ v, C (code x) = some v → ∃ u y, mg x = some u ∧ RelV y u ∧ ∀ z m H, Rep K z m H v y
def ExSt (XC : Nat → Option Addr) (K : PySem.W.Frag) (mg : Str → Option Value) (x : Str) : Prop := ∃ Cc, XC (code x) = some Cc ∧ mg x = some (.ref Cc) ∧ PySem.W.excIn K Cc [.type "ValueError", .type "Exception", .type "BaseException", .type "object"] "ValueError.__new__" = true ∧ PySem.W.keepIn K (.ref Cc) = true ∧ PySem.W.subIn K (.ref Cc) (.type "BaseException") = some true ∧ PySem.W.typeIn K (.ref Cc) = some (.type "type")
theorem all_nil {Q : Str → Prop} : ∀ x ∈ ([] : List Str), Q x := fun _ h => by cases h
theorem all_cons {Q : Str → Prop} {a : Str} {r : List Str} (h1 : Q a) (h2 : ∀ x ∈ r, Q x) : ∀ x ∈ a :: r, Q x := fun x h => by
  rcases List.mem_cons.mp h with rfl | h
  · exact h1
  · exact h2 x h
theorem mem_of {xs : List Str} {x : Str} (h : xs.contains x = true) : x ∈ xs := by simpa using h
theorem stat_of {P : TrP} {T : Nat → Option Fn} {C : Nat → Option PV} {XC : Nat → Option Addr} {sts : Str → Option Stmt} {K : PySem.W.Frag} {mg : Str → Option Value} (h1 : ∀ x ∈ P.fns, FnSt T P sts K mg x) (h2 : ∀ x ∈ P.csts, CsSt C K mg x) (h3 : ∀ x ∈ P.blts, mg x = none) (h4 : ∀ x ∈ P.excs, ExSt XC K mg x) :
    Stat P T C XC sts K mg := ⟨fun x h => h1 x (mem_of h), fun x h => h2 x (mem_of h), fun x h => h3 x (mem_of h), fun x h => h4 x (mem_of h)⟩
section
variable {P : TrP} {T : Nat → Option Fn} {C : Nat → Option PV} {XC : Nat → Option Addr} {sts : Str → Option Stmt} {K : PySem.W.Frag} {mg : Str → Option Value} {h : Heap}
theorem fn_st {st : Stmt} {x : Str} (S : FnScope (namesOf st) (paramsOf st) (defScope st)) (hs : sts x = some st) (hT : T (code x) = trFn P st)
    (hb : ∀ (kV doc pm : Value) (an : Option Addr) (cdv ct : Value) (us : List Value), us.length = (paramsOf st).length → bindArgs (PySem.W.fnOf x x (defArgs st) (defBody st) (defScope st) .none kV doc pm an cdv ct) ⟨us, []⟩ = pure ((paramsOf st).zip us))
    (X : K.In h) (G : h.Ns mainGlobals mg) {f : Addr} {oc : Value} {od an : Option Addr} {osl : Array (Option Value)} {kV doc pm cdv ct : Value}
    (a : PySem.W.nsIn K mainGlobals x = some (some (.ref f))) (l : K.lookup f = some ⟨oc, od, .func (PySem.W.fnOf x x (defArgs st) (defBody st) (defScope st) .none kV doc pm an cdv ct), osl⟩) (c : PySem.W.codeIn K cdv x = true) (k : PySem.W.keepIn K (.ref f) = true) : FnSt T P sts K mg x :=
  ⟨f, _, st, hs, PySem.W.mg_of X G a, k, fun us hl => hb _ _ _ _ _ _ us hl, fun_mk l c k, S, fun d hd => by rw [← hT]; exact hd⟩
theorem ex_st (X : K.In h) (G : h.Ns mainGlobals mg) {x : Str} {Cc : Addr} (a : PySem.W.nsIn K mainGlobals x = some (some (.ref Cc))) (hx : XC (code x) = some Cc) (e : PySem.W.excIn K Cc [.type "ValueError", .type "Exception", .type "BaseException", .type "object"] "ValueError.__new__" = true) (k : PySem.W.keepIn K (.ref Cc) = true) (s : PySem.W.subIn K (.ref Cc) (.type "BaseException") = some true) (t : PySem.W.typeIn K (.ref Cc) = some (.type "type")) :
    ExSt XC K mg x := ⟨Cc, hx, PySem.W.mg_of X G a, e, k, s, t⟩
/-- the exceptions' addresses, as the written part has them -/
def xcOf (K : PySem.W.Frag) (xs : List Str) (c : Nat) : Option Addr := (xs.find? fun x => code x == c).bind fun x => match PySem.W.nsIn K mainGlobals x with
  | some (some (.ref a)) => some a
  | _ => none

/-! ### constants: what the written part says of them -/
mutual
def readV (K : PySem.W.Frag) : Nat → Value → Option D
  | 0, _ => none
  | n + 1, v => match v with
    | .none => some .none
    | .bool b => some (.bool b)
    | .int i _ => some (.int i)
    | .str s _ => some (.str s.cps.toList)
    | .ref a => match K.lookup a with
      | some ⟨.type "tuple", none, .seq its _, _⟩ => if its.size ≤ 1000 then (readVs K n its.toList).map D.tup else none
      | _ => none
    | _ => none
def readVs (K : PySem.W.Frag) : Nat → List Value → Option (List D)
  | 0, _ => none
  | n + 1, vs => match vs with
    | [] => some []
    | v :: r => (readV K n v).bind fun d => (readVs K n r).map fun ds => d :: ds
end
mutual
theorem readV_ok : ∀ {n : Nat} {v : Value} {d : D}, readV K n v = some d → ∃ y, RelV y v ∧ ∀ z m H, RepD K z m H d y
  | 0, _, _, h => by simp [readV] at h
  | n + 1, v, d, h => by
    cases v with
    | none => simp only [readV, Option.some.injEq] at h; subst h; exact ⟨.non, rfl, fun _ _ _ => by rw [RepD]⟩
    | bool b => simp only [readV, Option.some.injEq] at h; subst h; exact ⟨.bl b, rfl, fun _ _ _ => by rw [RepD]⟩
    | int i t => simp only [readV, Option.some.injEq] at h; subst h; exact ⟨.int i, ⟨t, rfl⟩, fun _ _ _ => by rw [RepD]⟩
    | str s t => simp only [readV, Option.some.injEq] at h; subst h; exact ⟨.str s, ⟨t, rfl⟩, fun _ _ _ => by rw [RepD]⟩
    | ref a =>
      simp only [readV] at h
      split at h
      · rename_i its n1 sl hk
        split at h
        · rename_i hz
          obtain ⟨ds, hds, rfl⟩ := Option.map_eq_some_iff.mp h
          obtain ⟨ys, hv, hr⟩ := readVs_ok hds
          have hzl : its.size ≤ sizeLine := Nat.le_trans hz (by decide)
          refine ⟨.ref a, rfl, fun z m H => ?_⟩
          rw [RepD]
          exact ⟨a, ys, rfl, .inr ⟨_, its, n1, hk, rfl, rfl, rfl, hzl, hv⟩, by rw [hv.length]; simpa using hzl, hr z m H⟩
        · cases h
      · cases h
    | _ => simp [readV] at h
theorem readVs_ok : ∀ {n : Nat} {vs : List Value} {ds : List D}, readVs K n vs = some ds → ∃ ys, Vals ys vs ∧ ∀ z m H, RepDs K z m H ds ys
  | 0, _, _, h => by simp [readVs] at h
  | n + 1, [], ds, h => by
    simp only [readVs, Option.some.injEq] at h; subst h
    exact ⟨[], .nil, fun _ _ _ => by rw [RepDs]⟩
  | n + 1, v :: r, ds, h => by
    simp only [readVs] at h
    obtain ⟨d, hd, h⟩ := Option.bind_eq_some_iff.mp h
    obtain ⟨es, he, rfl⟩ := Option.map_eq_some_iff.mp h
    obtain ⟨y, q1, q2⟩ := readV_ok hd
    obtain ⟨ys, q3, q4⟩ := readVs_ok he
    refine ⟨y :: ys, .cons q1 q3, fun z m H => ?_⟩
    rw [RepDs]
    exact ⟨y, ys, rfl, q2 z m H, q4 z m H⟩
end
theorem cs_st (X : K.In h) (G : h.Ns mainGlobals mg) {x : Str} {u : Value} {d : D} (hc : C (code x) = some (.d d)) (a : PySem.W.nsIn K mainGlobals x = some (some u)) (r : readV K 40 u = some d) : CsSt C K mg x := fun v hv => by
  rw [hc] at hv
  cases hv
  obtain ⟨y, q1, q2⟩ := readV_ok r
  exact ⟨u, y, PySem.W.mg_of X G a, q1, q2⟩
theorem cs_no {x : Str} (hc : C (code x) = none) : CsSt C K mg x := fun v hv => by rw [hc] at hv; cases hv
end
end Ev
end

section
/-! EvRun: the evaluator's steps as equations for simp. Plain Lean. -/
set_option autoImplicit false
set_option linter.all false
namespace Ev
/-- what goes on behind a run -/
def R.bd {α β : Type} (r : R α) (f : α → Hh → R β) : R β := match r with
  | .ok a h => f a h
  | .exc c v h => .exc c v h
  | .stuck => .stuck
def opt {α : Type} (o : Option α) (h : Hh) : R α := match o with
  | some a => .ok a h
  | none => .stuck
section
variable {α β γ : Type}
@[simp] theorem rn_bd_ok (a : α) (h : Hh) (f : α → Hh → R β) : R.bd (.ok a h) f = f a h := rfl
@[simp] theorem rn_bd_exc (c : Nat) (v : PV) (h : Hh) (f : α → Hh → R β) : R.bd (.exc c v h) f = .exc c v h := rfl
@[simp] theorem rn_bd_stuck (f : α → Hh → R β) : R.bd .stuck f = .stuck := rfl
@[simp] theorem rn_opt_some (a : α) (h : Hh) : opt (some a) h = .ok a h := rfl
@[simp] theorem rn_opt_none (h : Hh) : opt (none : Option α) h = .stuck := rfl
@[simp] theorem rn_bnd_ap (x : M α) (f : α → M β) (h : Hh) : M.bnd x f h = R.bd (x h) f := rfl
@[simp] theorem rn_ret_ap (a : α) (h : Hh) : M.ret a h = .ok a h := rfl
@[simp] theorem rn_stuck_ap (h : Hh) : (M.stuck : M α) h = .stuck := rfl
@[simp] theorem rn_lift_ap (f : Hh → Option α) (h : Hh) : M.lift f h = opt (f h) h := rfl
@[simp] theorem rn_guard_ap (b : Bool) (h : Hh) : guardM b h = opt (if b then some () else none) h := rfl
@[simp] theorem rn_ite_ap (c : Prop) [Decidable c] (a b : M α) (h : Hh) : (if c then a else b) h = if c then a h else b h := by split <;> rfl
@[simp] theorem rn_calm_ok (a : α) (x : M α) (h : Hh) : M.calm x h = match x h with
  | .ok a h' => .ok a h'
  | _ => .stuck := rfl
end
variable (F : Fns) (env : Env) (h : Hh)
@[simp] theorem rn_e_var (i : Nat) : evE F (.var i) env h = opt ((env[i]?).bind id) h := rfl
@[simp] theorem rn_e_cst (i : Nat) : evE F (.cst i) env h = opt (F.cst i) h := rfl
@[simp] theorem rn_e_lit (d : D) : evE F (.lit d) env h = .ok (.d d) h := rfl
@[simp] theorem rn_e_bin (o : Op) (a b : E) : evE F (.bin o a b) env h = R.bd (evE F a env h) fun x h => R.bd (evE F b env h) fun y h => opt (binop h o x y) h := rfl
@[simp] theorem rn_e_not (a : E) : evE F (.not a) env h = R.bd (evE F a env h) fun x h => opt ((truthy h x).map fun b => .d (.bool (!b))) h := rfl
@[simp] theorem rn_e_cmp (o : Cm) (a b : E) : evE F (.cmp o a b) env h = R.bd (evE F a env h) fun x h => R.bd (evE F b env h) fun y h => opt ((cmpop h o x y).map fun b => .d (.bool b)) h := rfl
@[simp] theorem rn_e_cmp2 (o p : Cm) (a b c : E) : evE F (.cmp2 o p a b c) env h = R.bd (evE F a env h) fun x h => R.bd (evE F b env h) fun y h => R.bd (opt (cmpop h o x y) h) fun r h =>
  if r then R.bd (evE F c env h) fun z h => opt ((cmpop h p y z).map fun b => .d (.bool b)) h else .ok (.d (.bool false)) h := by
  show R.bd _ (fun x => M.bnd _ _) = _
  congr 1; funext x h; show R.bd _ _ = _; congr 1; funext y h; show R.bd _ _ = _; congr 1; funext r h
  cases r <;> rfl
@[simp] theorem rn_e_isc (n : Bool) (a : E) (c : D) : evE F (.isc n a c) env h = R.bd (evE F a env h) fun x h => opt ((isC x c).map fun b => .d (.bool (if n then !b else b))) h := rfl
@[simp] theorem rn_e_and (a b : E) : evE F (.and a b) env h = R.bd (evE F a env h) fun x h => R.bd (opt (truthy h x) h) fun r h => if r then evE F b env h else .ok x h := by
  show R.bd _ (fun x => M.bnd _ _) = _
  congr 1; funext x h; show R.bd _ _ = _; congr 1; funext r h
  cases r <;> rfl
@[simp] theorem rn_e_or (a b : E) : evE F (.or a b) env h = R.bd (evE F a env h) fun x h => R.bd (opt (truthy h x) h) fun r h => if r then .ok x h else evE F b env h := by
  show R.bd _ (fun x => M.bnd _ _) = _
  congr 1; funext x h; show R.bd _ _ = _; congr 1; funext r h
  cases r <;> rfl
@[simp] theorem rn_e_ite (c a b : E) : evE F (.ite c a b) env h = R.bd (evE F c env h) fun x h => R.bd (opt (truthy h x) h) fun r h => if r then evE F a env h else evE F b env h := by
  show R.bd _ (fun x => M.bnd _ _) = _
  congr 1; funext x h; show R.bd _ _ = _; congr 1; funext r h
  cases r <;> rfl
@[simp] theorem rn_e_call (f : Nat) (as : Es) : evE F (.call f as) env h = R.bd (evEs F as env h) fun xs h => F.call f xs h := rfl
@[simp] theorem rn_e_bl (b : Bl) (as : Es) : evE F (.bl b as) env h = R.bd (evEs F as env h) fun xs h => opt (blt h b xs) h := rfl
@[simp] theorem rn_e_isi (a : E) (t : Ty) : evE F (.isi a t) env h = R.bd (evE F a env h) fun x h => opt (isTy h x t) h := rfl
@[simp] theorem rn_e_mtc (m : Mt) (c : Nat) (as : Es) : evE F (.mtc m c as) env h = R.bd (opt ((F.cst c).bind tupOf) h) fun o h => R.bd (evEs F as env h) fun xs h => opt (methT h m o xs) h := rfl
@[simp] theorem rn_e_ix (a b : E) : evE F (.ix a b) env h = R.bd (evE F a env h) fun x h => R.bd (evE F b env h) fun y h => opt (indexOp h x y) h := rfl
@[simp] theorem rn_e_sl (a : E) (lo hi : Eo) : evE F (.sl a lo hi) env h = R.bd (evE F a env h) fun x h => R.bd (evEo F lo env h) fun i h => R.bd (evEo F hi env h) fun j h => opt (sliceOp h x i j) h := rfl
@[simp] theorem rn_e_tup (as : Es) : evE F (.tup as) env h = R.bd (evEs F as env h) fun xs h => opt (if xs.length ≤ LIM then (allD xs).map fun ds => .d (.tup ds) else .none) h := rfl
@[simp] theorem rn_e_lst (as : Es) : evE F (.lst as) env h = R.bd (evEs F as env h) fun xs h => opt (if xs.length ≤ LIM then (allD xs).map fun ds => .d (.list ds) else .none) h := rfl
@[simp] theorem rn_e_new (as : Es) : evE F (.new as) env h = R.bd (evEs F as env h) fun xs h => if xs.length ≤ LIM then .ok (.ref h.length) (h ++ [.lst xs]) else .stuck := rfl
@[simp] theorem rn_es_nil : evEs F .nil env h = .ok [] h := rfl
@[simp] theorem rn_es_cons (e : E) (r : Es) : evEs F (.cons e r) env h = R.bd (evE F e env h) fun x h => R.bd (evEs F r env h) fun xs h => .ok (x :: xs) h := rfl
@[simp] theorem rn_eo_no : evEo F .no env h = .ok none h := rfl
@[simp] theorem rn_eo_some (e : E) : evEo F (.some e) env h = R.bd (evE F e env h) fun x h => opt (match x with
    | .d (.int i) => some (some i)
    | _ => .none) h := rfl
@[simp] theorem rn_s_expr (e : E) : evS F (.expr e) env h = R.bd (evE F e env h) fun _ h => .ok (.nxt env) h := rfl
@[simp] theorem rn_s_set (i : Nat) (e : E) : evS F (.set i e) env h = R.bd (evE F e env h) fun v h => .ok (.nxt (env.set i (some v))) h := rfl
@[simp] theorem rn_s_sett (t : T) (e : E) : evS F (.sett t e) env h = R.bd (evE F e env h) fun v h => opt ((T.store t v env).map Fl.nxt) h := rfl
@[simp] theorem rn_s_ret (e : E) : evS F (.ret e) env h = R.bd (evE F e env h) fun v h => .ok (.ret v) h := rfl
@[simp] theorem rn_s_retN : evS F .retN env h = .ok (.ret (.d .none)) h := rfl
@[simp] theorem rn_s_ifs (c : E) (a b : Ss) : evS F (.ifs c a b) env h = R.bd (evE F c env h) fun x h => R.bd (opt (truthy h x) h) fun r h => if r then evSs F a env h else evSs F b env h := by
  show R.bd _ (fun x => M.bnd _ _) = _
  congr 1; funext x h; show R.bd _ _ = _; congr 1; funext r h
  cases r <;> rfl
@[simp] theorem rn_s_raise (c : Nat) : evS F (.raise c) env h = .exc c (.d .none) h := rfl
@[simp] theorem rn_s_brk : evS F .brk env h = .ok (.brk env) h := rfl
@[simp] theorem rn_s_cont : evS F .cont env h = .ok (.cont env) h := rfl
@[simp] theorem rn_s_pass : evS F .pass env h = .ok (.nxt env) h := rfl
def flK (F : Fns) (r : Ss) (f : Fl) (h : Hh) : R Fl := match f with
  | .nxt e => evSs F r e h
  | .ret v => .ok (.ret v) h
  | .brk e => .ok (.brk e) h
  | .cont e => .ok (.cont e) h
@[simp] theorem rn_ss_nil : evSs F .nil env h = .ok (.nxt env) h := rfl
@[simp] theorem rn_ss_cons (s : S) (r : Ss) : evSs F (.cons s r) env h = R.bd (evS F s env h) (flK F r) := by
  show R.bd _ (fun f => _) = _
  congr 1; funext f h
  cases f <;> rfl
@[simp] theorem rn_flK_nxt (r : Ss) (e : Env) : flK F r (.nxt e) h = evSs F r e h := rfl
@[simp] theorem rn_flK_ret (r : Ss) (v : PV) : flK F r (.ret v) h = .ok (.ret v) h := rfl
@[simp] theorem rn_flK_brk (r : Ss) (v : Env) : flK F r (.brk v) h = .ok (.brk v) h := rfl
@[simp] theorem rn_flK_cont (r : Ss) (v : Env) : flK F r (.cont v) h = .ok (.cont v) h := rfl
/-- a def's end -/
def defK (f : Fl) (h : Hh) : R PV := match f with
  | .ret v => .ok v h
  | .nxt _ => .ok (.d .none) h
  | _ => .stuck
@[simp] theorem rn_defK_ret (v : PV) : defK (.ret v) h = .ok v h := rfl
@[simp] theorem rn_defK_nxt (e : Env) : defK (.nxt e) h = .ok (.d .none) h := rfl
theorem rn_call {T : Nat → Option Fn} {C : Nat → Option PV} {k f : Nat} {d : Fn} {args : List PV} {h : Hh} (hT : T f = some d) (hl : args.length = d.np) :
    call T C (k + 1) f args h = R.bd (evSs ⟨call T C k, C⟩ d.body (start d.ns args) h) defK := by
  rw [call, hT]
  simp only [hl, if_true, rn_bnd_ap]
  congr 1
  funext f h
  cases f <;> rfl
@[simp] theorem rn_bd_ite {α β : Type} (c : Prop) [Decidable c] (a b : R α) (f : α → Hh → R β) : R.bd (if c then a else b) f = if c then R.bd a f else R.bd b f := by split <;> rfl
@[simp] theorem rn_tr_bool (b : Bool) : truthy h (.d (.bool b)) = some b := rfl
@[simp] theorem rn_tr_int (i : Int) : truthy h (.d (.int i)) = some (!(i == 0)) := rfl
@[simp] theorem rn_tr_tup (xs : List D) : truthy h (.d (.tup xs)) = some (!xs.isEmpty) := rfl
@[simp] theorem rn_tr_list (xs : List D) : truthy h (.d (.list xs)) = some (!xs.isEmpty) := rfl
@[simp] theorem rn_tr_none : truthy h (.d .none) = some false := rfl
@[simp] theorem rn_deref (d : D) : deref h (.d d) = some d := rfl
@[simp] theorem rn_lt_int (i j : Int) : cmpop h .lt (.d (.int i)) (.d (.int j)) = some (decide (i < j)) := rfl
@[simp] theorem rn_le_int (i j : Int) : cmpop h .le (.d (.int i)) (.d (.int j)) = some (decide (i ≤ j)) := rfl
@[simp] theorem rn_gt_int (i j : Int) : cmpop h .gt (.d (.int i)) (.d (.int j)) = some (decide (j < i)) := rfl
@[simp] theorem rn_ge_int (i j : Int) : cmpop h .ge (.d (.int i)) (.d (.int j)) = some (decide (j ≤ i)) := rfl
@[simp] theorem rn_add_int (i j : Int) : binop h .add (.d (.int i)) (.d (.int j)) = some (.d (.int (i + j))) := rfl
@[simp] theorem rn_sub_int (i j : Int) : binop h .sub (.d (.int i)) (.d (.int j)) = some (.d (.int (i - j))) := rfl
@[simp] theorem rn_add_tup (xs ys : List D) : binop h .add (.d (.tup xs)) (.d (.tup ys)) = if xs.length + ys.length ≤ LIM then some (.d (.tup (xs ++ ys))) else none := rfl
@[simp] theorem rn_add_list (xs ys : List D) : binop h .add (.d (.list xs)) (.d (.list ys)) = if xs.length + ys.length ≤ LIM then some (.d (.list (xs ++ ys))) else none := rfl
theorem rn_mod_int (i j : Int) (hj : 0 < j) : binop h .mod (.d (.int i)) (.d (.int j)) = some (.d (.int (i % j))) := by
  show (if decide (0 < j) = true then _ else _ : Option Int).map _ = _
  rw [if_pos (decide_eq_true hj)]; rfl
theorem rn_fdiv_int (i j : Int) (hj : 0 < j) (hj2 : j < 1073741824) : binop h .fdiv (.d (.int i)) (.d (.int j)) = some (.d (.int (i / j))) := by
  show (if (decide (0 < j) && decide (j < 1073741824)) = true then _ else _ : Option Int).map _ = _
  rw [if_pos (by simp [hj, hj2])]; rfl
@[simp] theorem rn_len_tup (xs : List D) : blt h .len [.d (.tup xs)] = some (.d (.int xs.length)) := rfl
@[simp] theorem rn_len_list (xs : List D) : blt h .len [.d (.list xs)] = some (.d (.int xs.length)) := rfl
@[simp] theorem rn_max_tup (xs : List D) : blt h .max [.d (.tup xs)] = (maxOf xs).map PV.d := rfl
@[simp] theorem rn_max_list (xs : List D) : blt h .max [.d (.list xs)] = (maxOf xs).map PV.d := rfl
@[simp] theorem rn_min_tup (xs : List D) : blt h .min [.d (.tup xs)] = (minOf xs).map PV.d := rfl
@[simp] theorem rn_min_list (xs : List D) : blt h .min [.d (.list xs)] = (minOf xs).map PV.d := rfl
@[simp] theorem rn_max2 (i j : Int) : blt h .max2 [.d (.int i), .d (.int j)] = some (.d (.int (if i < j then j else i))) := rfl
@[simp] theorem rn_min2 (i j : Int) : blt h .min2 [.d (.int i), .d (.int j)] = some (.d (.int (if j < i then j else i))) := rfl
@[simp] theorem rn_tuple_list (xs : List D) : blt h .tuple [.d (.list xs)] = some (.d (.tup xs)) := rfl
@[simp] theorem rn_tuple_tup (xs : List D) : blt h .tuple [.d (.tup xs)] = some (.d (.tup xs)) := rfl
@[simp] theorem rn_list_scr (xs : List D) : blt h .list [.scr xs] = some (.d (.list xs)) := rfl
@[simp] theorem rn_int_int (i : Int) : blt h .int [.d (.int i)] = some (.d (.int i)) := rfl
@[simp] theorem rn_abs_int (i : Int) : blt h .abs [.d (.int i)] = some (.d (.int (if i < 0 then -i else i))) := rfl
@[simp] theorem rn_sorted_tup (xs : List D) : blt h .sorted [.d (.tup xs)] = if sortable xs then some (.d (.list (sortD xs))) else none := rfl
@[simp] theorem rn_sorted_list (xs : List D) : blt h .sorted [.d (.list xs)] = if sortable xs then some (.d (.list (sortD xs))) else none := rfl
@[simp] theorem rn_all_list (xs : List D) : blt h .all [.d (.list xs)] = ((boolsOf xs).map fun bs => D.bool (bs.all id)).map PV.d := rfl
@[simp] theorem rn_isi (d : D) (t : Ty) : isTy h (.d d) t = some (.d (.bool (isTyD d t))) := rfl
@[simp] theorem rn_par2 (i j : Nat) (es : Es) : evS F (.par2 i j es) env h = R.bd (evEs F es env h) fun vs h => opt (match vs with
    | [v, w] => some (.nxt ((env.set i (some v)).set j (some w)))
    | _ => .none) h := rfl
@[simp] theorem rn_while (c : E) (b : Ss) : evS F (.while_ c b) env h = whileGo (fun env => M.bnd (evE F c env) fun x => M.lift fun h => truthy h x) (evSs F b) turnsMost env h := rfl
@[simp] theorem rn_ix_tup (xs : List D) (i : Int) : indexOp h (.d (.tup xs)) (.d (.int i)) = (place xs.length i).bind fun j => (xs[j]?).map PV.d := rfl
@[simp] theorem rn_ix_list (xs : List D) (i : Int) : indexOp h (.d (.list xs)) (.d (.int i)) = (place xs.length i).bind fun j => (xs[j]?).map PV.d := rfl
@[simp] theorem rn_eq (a b : D) : cmpop h .eq (.d a) (.d b) = if near a b then some (D.eqv a b) else none := rfl
@[simp] theorem rn_ne (a b : D) : cmpop h .ne (.d a) (.d b) = if near a b then some (!D.eqv a b) else none := rfl
@[simp] theorem rn_in_tup (a : D) (xs : List D) : cmpop h .isin (.d a) (.d (.tup xs)) = if near a (.tup xs) then some (xs.any fun y => D.eqv y a) else none := rfl
@[simp] theorem rn_notin_tup (a : D) (xs : List D) : cmpop h .notin (.d a) (.d (.tup xs)) = (if near a (.tup xs) then some (xs.any fun y => D.eqv y a) else none).map (!·) := rfl
@[simp] theorem rn_sl_tup (xs : List D) (lo hi : Option Int) : sliceOp h (.d (.tup xs)) lo hi = some (.d (.tup (cut xs lo hi))) := rfl
@[simp] theorem rn_near_int (i : Int) (b : D) : near (.int i) b = true := rfl
@[simp] theorem rn_near_str (i : List Nat) (b : D) : near (.str i) b = true := rfl
@[simp] theorem rn_eqv_int (i j : Int) : D.eqv (.int i) (.int j) = (i == j) := rfl
@[simp] theorem rn_eqv_str (i j : List Nat) : D.eqv (.str i) (.str j) = (i == j) := rfl
/-- a comprehension whose items leave the store alone -/
theorem rn_lcGo {elt : Env → M (Option PV)} {st : PV → Env → Option Env} {env : Env} {h : Hh} (f : D → Option D) : ∀ (xs acc : List D), (∀ x ∈ xs, ∃ env', st (.d x) env = some env' ∧ elt env' h = .ok ((f x).map PV.d) h) → acc.length + xs.length ≤ LIM →
    lcGo elt st env (xs.map PV.d) acc h = .ok (.d (.list (acc ++ xs.filterMap f))) h
  | [], acc, _, _ => by simp [lcGo]
  | x :: xs, acc, hx, hl => by
    obtain ⟨env', h1, h2⟩ := hx x (by simp)
    have ih := fun acc hl => rn_lcGo f xs acc (fun y hy => hx y (by simp [hy])) hl
    simp only [List.map_cons, lcGo, h1]
    rw [rn_bnd_ap]
    have hc : M.calm (elt env') h = .ok ((f x).map PV.d) h := by simp only [M.calm, h2]
    rw [hc]
    cases e : f x with
    | none =>
      simp only [Option.map_none, rn_bd_ok]
      rw [ih acc (by simp at hl; omega)]
      simp [e]
    | some y =>
      have hl2 : acc.length < LIM := by simp at hl; omega
      simp only [Option.map_some, rn_bd_ok, hl2, if_true]
      rw [ih (acc ++ [y]) (by simp at hl ⊢; omega)]
      simp [e]
@[simp] theorem rn_its_tup (e : E) : evIt F (.seq e) env h = R.bd (evE F e env h) fun x h => opt (match x with
    | .d (.list xs) => some (.its (xs.map PV.d))
    | .d (.tup xs) => some (.its (xs.map PV.d))
    | .d (.str s) => some (.its (s.map fun c => PV.d (.str [c])))
    | _ => .none) h := rfl
@[simp] theorem rn_rng1 (a : E) : evIt F (.rng1 a) env h = R.bd (evE F a env h) fun x h => opt (match x with
    | .d (.int j) => if small j then some (.its (rangeD 0 j.toNat 1)) else .none
    | _ => .none) h := rfl
@[simp] theorem rn_rng2 (a b : E) : evIt F (.rng2 a b) env h = R.bd (evE F a env h) fun x h => R.bd (evE F b env h) fun y h => opt (match x, y with
    | .d (.int i), .d (.int j) => if small i && small j then some (.its (rangeD i (j - i).toNat 1)) else .none
    | _, _ => .none) h := rfl
def lcE (F : Fns) (elt : E) (ifs : Es) : Env → M (Option PV) := fun env' => M.bnd (evTs F ifs env') fun b => if b then M.bnd (evE F elt env') fun v => M.ret (some v) else M.ret .none
@[simp] theorem rn_lc (elt : E) (t : T) (own : List Nat) (it : It) (ifs : Es) : evE F (.lc elt t own it ifs) env h = R.bd (evIt F it env h) fun r h => match r with
    | .its xs => lcGo (lcE F elt ifs) (T.store t) (wipe env own) xs [] h
    | .cell l n => lcCell (lcE F elt ifs) (T.store t) (wipe env own) l n n [] h := by
  show R.bd _ (fun r => _) = _
  congr 1; funext r h
  cases r <;> rfl
@[simp] theorem rn_ts_nil : evTs F .nil env h = .ok true h := rfl
@[simp] theorem rn_ts_cons (e : E) (r : Es) : evTs F (.cons e r) env h = R.bd (evE F e env h) fun x h => R.bd (opt (truthy h x) h) fun b h => if b then evTs F r env h else .ok false h := by
  show R.bd _ (fun x => M.bnd _ _) = _
  congr 1; funext x h; show R.bd _ _ = _; congr 1; funext r h
  cases r <;> rfl
/-- sorting ints -/
theorem sort_ints (xs : List Int) : sortD (xs.map D.int) = (xs.mergeSort fun a b => decide (a ≤ b)).map D.int := by
  unfold sortD
  rw [List.map_mergeSort]
  intro a _ b _
  simp [D.toks, ltToks, ltTok]
  rw [Bool.eq_iff_iff]
  simp
theorem sortable_ints (xs : List Int) : sortable (xs.map D.int) = true := by
  simp [sortable, D.shal, D.like]
@[simp] theorem rn_for (t : T) (it : It) (b : Ss) : evS F (.for_ t it b) env h = R.bd (evIt F it env h) fun r h => match r with
    | .its xs => forGo (evSs F b) (T.store t) xs env h
    | .cell l n => forCell (evSs F b) (T.store t) l n n env h := by
  show R.bd _ (fun r => _) = _
  congr 1; funext r h
  cases r <;> rfl
theorem rn_forGo_nil (body : Env → M Fl) (st : PV → Env → Option Env) : forGo body st [] env h = .ok (.nxt env) h := rfl
theorem rn_forGo_cons (body : Env → M Fl) (st : PV → Env → Option Env) (x : PV) (xs : List PV) {env' : Env} (he : st x env = some env') : forGo body st (x :: xs) env h = R.bd (body env' h) fun f h => match f with
      | .nxt e => forGo body st xs e h
      | .cont e => forGo body st xs e h
      | .brk e => .ok (.nxt e) h
      | .ret v => .ok (.ret v) h := by
  rw [forGo, he]
  show R.bd _ (fun f => _) = _
  congr 1; funext f h
  cases f <;> rfl
@[simp] theorem rn_setix (o i e : E) : evS F (.setix o i e) env h = R.bd (evE F e env h) fun v h => R.bd (evE F o env h) fun x h => R.bd (evE F i env h) fun k h => match x, k with
    | .ref l, .d (.int n) => match h[l]? with
      | some (.lst xs) => match place xs.length n with
        | some j => .ok (.nxt env) (setCell h l (xs.set j v))
        | .none => .stuck
      | .none => .stuck
    | _, _ => .stuck := rfl
theorem rn_ix_ref {l : Nat} {xs : List PV} (i : Int) (hl : h[l]? = some (.lst xs)) : indexOp h (.ref l) (.d (.int i)) = (place xs.length i).bind fun j => xs[j]? := by
  show (match h[l]? with
    | some (.lst xs) => (place xs.length i).bind fun j => xs[j]?
    | .none => .none) = _
  rw [hl]
theorem rn_mul_big (i j : Int) (hb : bigInt i = true ∨ bigInt j = true) : binop h .mul (.d (.int i)) (.d (.int j)) = some (.d (.int (i * j))) := by
  show (if (bigInt i || bigInt j) = true then _ else _) = _
  rw [if_pos (by simpa using hb)]
end Ev
end

section
set_option autoImplicit false
set_option linter.all false
set_option Elab.async false
set_option maxRecDepth 100000
set_option maxHeartbeats 4000000
namespace L24
open PySem L2 Ev PyProof.Rows
abbrev B : List Stmt := PySem.Challenge.pw_heardonce_k24_whole_windows_led_to_rest.main.body
abbrev st (i : Nat) : Stmt := B.getD i (.Pass ⟨0, 0, 0, 0⟩)
abbrev P : TrP := ⟨["is_whole", "is_row_of", "fits_sizes", "need_sizes", "fits_window_event", "bounded", "word_came", "answer_came", "row_changed", "done_on_line", "window_after", "fits_window_events", "windows_ran", "need_ran", "window_behind", "window_events", "is_sound_by", "harm_for", "are_sound", "window_harm", "_law_cup", "_law_roll", "_law_some", "_law_walk", "_law_rested", "_law_right", "law"], ["WIDEST", "WIDE", "FARTHEST", "ROOM", "LONG", "FIRST", "ENDS"], ["len", "all", "any", "tuple", "list", "sum", "max", "min", "int", "str", "bool", "ord", "abs", "sorted", "set", "dict", "range", "zip", "enumerate", "isinstance"], ["HeardError", "InvalidEvents", "CannotHappen", "InvalidSizes"], [], [(137, 11)]⟩
def fis_whole : Fn := ⟨3, 3, (.cons (.ret (.and (.isi (.var 0) .int) (.and (.not (.isi (.var 0) .bool)) (.cmp2 .le .le (.var 1) (.var 0) (.var 2))))) .nil)⟩
def fis_row_of : Fn := ⟨3, 3, (.cons (.ret (.and (.isi (.var 0) .tuple) (.cmp2 .le .le (.var 1) (.bl .len (.cons (.var 0) .nil)) (.var 2)))) .nil)⟩
def ffits_sizes : Fn := ⟨1, 1, (.cons (.ifs (.or (.not (.call 7631208380102080486 (.cons (.var 0) (.cons (.lit (.int (4))) (.cons (.lit (.int (4))) .nil))))) (.or (.not (.call 59618816796915301 (.cons (.ix (.var 0) (.lit (.int (0)))) (.cons (.lit (.int (1))) (.cons (.cst 3009036773844) .nil))))) (.not (.isi (.ix (.var 0) (.lit (.int (3)))) .bool)))) (.cons (.ret (.lit (.bool false))) .nil) .nil) (.cons (.ret (.and (.call 59618816796915301 (.cons (.ix (.var 0) (.lit (.int (1)))) (.cons (.lit (.int (1))) (.cons (.cst 183657029) .nil)))) (.call 59618816796915301 (.cons (.ix (.var 0) (.lit (.int (2)))) (.cons (.lit (.int (1))) (.cons (.cst 183657029) .nil)))))) .nil))⟩
def fneed_sizes : Fn := ⟨1, 1, (.cons (.ifs (.not (.call 948415806398382650099 (.cons (.var 0) .nil))) (.cons (.raise 11162408591013225334485747) .nil) .nil) .nil)⟩
def ffits_window_event : Fn := ⟨1, 1, (.cons (.ifs (.or (.not (.call 7631208380102080486 (.cons (.var 0) (.cons (.lit (.int (1))) (.cons (.lit (.int (3))) .nil))))) (.not (.isi (.ix (.var 0) (.lit (.int (0)))) .str))) (.cons (.ret (.lit (.bool false))) .nil) .nil) (.cons (.ifs (.cmp .eq (.bl .len (.cons (.var 0) .nil)) (.lit (.int (1)))) (.cons (.ret (.cmp .isin (.ix (.var 0) (.lit (.int (0)))) (.tup (.cons (.lit (.str [103, 105, 118, 101])) (.cons (.lit (.str [119, 111, 114, 100])) (.cons (.lit (.str [97, 110, 115, 119, 101, 114])) .nil)))))) .nil) .nil) (.cons (.ifs (.cmp .eq (.bl .len (.cons (.var 0) .nil)) (.lit (.int (2)))) (.cons (.ret (.and (.cmp .eq (.ix (.var 0) (.lit (.int (0)))) (.lit (.str [97, 103, 97, 105, 110]))) (.call 59618816796915301 (.cons (.ix (.var 0) (.lit (.int (1)))) (.cons (.lit (.int (0))) (.cons (.cst 39695209961974228) .nil)))))) .nil) .nil) (.cons (.ifs (.or (.cmp .notin (.ix (.var 0) (.lit (.int (0)))) (.tup (.cons (.lit (.str [108, 111, 115, 101])) (.cons (.lit (.str [100, 111, 117, 98, 108, 101])) (.cons (.lit (.str [116, 117, 114, 110])) .nil))))) (.or (.not (.isi (.ix (.var 0) (.lit (.int (1)))) .str)) (.cmp .notin (.ix (.var 0) (.lit (.int (1)))) (.cst 145990227)))) (.cons (.ret (.lit (.bool false))) .nil) .nil) (.cons (.ret (.call 59618816796915301 (.cons (.ix (.var 0) (.lit (.int (2)))) (.cons (.lit (.int (0))) (.cons (.bin .sub (.cst 173270989) (.lit (.int (1)))) .nil))))) .nil)))))⟩
def fbounded : Fn := ⟨1, 8, (.cons (.sett (.tp (.cons (.nm 1) (.cons (.nm 2) (.cons (.nm 3) (.cons (.nm 4) (.cons (.nm 5) (.cons (.nm 6) (.cons (.nm 7) .nil)))))))) (.var 0)) (.cons (.ifs (.or (.cmp .gt (.bl .len (.cons (.var 5) .nil)) (.cst 173270989)) (.cmp .gt (.bl .len (.cons (.var 6) .nil)) (.cst 173270989))) (.cons (.ret (.lit .none)) .nil) .nil) (.cons (.ret (.ite (.cmp .le (.bl .max (.cons (.bin .add (.tup (.cons (.var 1) (.cons (.var 2) (.cons (.var 3) .nil)))) (.var 4)) .nil)) (.cst 39695209961974228)) (.var 0) (.lit .none))) .nil)))⟩
def fword_came : Fn := ⟨2, 12, (.cons (.sett (.tp (.cons (.nm 2) (.cons (.nm 3) (.cons (.nm 4) (.cons (.nm 5) (.cons (.nm 6) (.cons (.nm 7) (.cons (.nm 8) .nil)))))))) (.var 1)) (.cons (.set 9 (.ix (.var 6) (.lit (.int (0))))) (.cons (.set 10 (.bin .add (.var 4) (.bin .mod (.bin .sub (.var 9) (.var 4)) (.ix (.var 0) (.lit (.int (0))))))) (.cons (.ifs (.and (.cmp .lt (.var 10) (.bin .add (.var 4) (.ix (.var 0) (.lit (.int (2)))))) (.cmp .notin (.var 10) (.var 5))) (.cons (.par2 5 8 (.cons (.bl .tuple (.cons (.bl .sorted (.cons (.bin .add (.var 5) (.tup (.cons (.var 10) .nil))) .nil)) .nil)) (.cons (.or (.var 8) (.cmp .ne (.var 10) (.var 9))) .nil))) .nil) .nil) (.cons (.while_ (.cmp .isin (.var 4) (.var 5)) (.cons (.set 4 (.bin .add (.var 4) (.lit (.int (1))))) .nil)) (.cons (.ret (.tup (.cons (.var 2) (.cons (.var 3) (.cons (.var 4) (.cons (.bl .tuple (.cons (.lc (.var 11) (.nm 11) [11] (.seq (.var 5)) (.cons (.cmp .gt (.var 11) (.var 4)) .nil)) .nil)) (.cons (.sl (.var 6) (.some (.lit (.int (1)))) .no) (.cons (.bin .add (.var 7) (.tup (.cons (.var 4) .nil))) (.cons (.var 8) .nil))))))))) .nil))))))⟩
def fanswer_came : Fn := ⟨2, 10, (.cons (.sett (.tp (.cons (.nm 2) (.cons (.nm 3) (.cons (.nm 4) (.cons (.nm 5) (.cons (.nm 6) (.cons (.nm 7) (.cons (.nm 8) .nil)))))))) (.var 1)) (.cons (.set 9 (.bin .add (.var 2) (.bin .mod (.bin .sub (.ix (.var 7) (.lit (.int (0)))) (.var 2)) (.ix (.var 0) (.lit (.int (0))))))) (.cons (.ifs (.cmp2 .lt .le (.var 2) (.var 9) (.var 3)) (.cons (.par2 2 8 (.cons (.var 9) (.cons (.or (.var 8) (.cmp .ne (.var 9) (.ix (.var 7) (.lit (.int (0)))))) .nil))) .nil) .nil) (.cons (.ret (.tup (.cons (.var 2) (.cons (.var 3) (.cons (.var 4) (.cons (.var 5) (.cons (.var 6) (.cons (.sl (.var 7) (.some (.lit (.int (1)))) .no) (.cons (.var 8) .nil))))))))) .nil))))⟩
def frow_changed : Fn := ⟨4, 4, (.cons (.ifs (.cmp .ge (.var 3) (.bl .len (.cons (.var 1) .nil))) (.cons (.ret (.lit .none)) .nil) .nil) (.cons (.ifs (.cmp .eq (.var 2) (.lit (.str [108, 111, 115, 101]))) (.cons (.ret (.bin .add (.sl (.var 1) .no (.some (.var 3))) (.sl (.var 1) (.some (.bin .add (.var 3) (.lit (.int (1))))) .no))) .nil) .nil) (.cons (.ifs (.cmp .eq (.var 2) (.lit (.str [100, 111, 117, 98, 108, 101]))) (.cons (.ret (.bin .add (.bin .add (.sl (.var 1) .no (.some (.var 3))) (.tup (.cons (.ix (.var 1) (.var 3)) .nil))) (.sl (.var 1) (.some (.var 3)) .no))) .nil) .nil) (.cons (.ifs (.or (.not (.ix (.var 0) (.lit (.int (3))))) (.cmp .eq (.bin .add (.var 3) (.lit (.int (1)))) (.bl .len (.cons (.var 1) .nil)))) (.cons (.ret (.lit .none)) .nil) .nil) (.cons (.ret (.bin .add (.bin .add (.sl (.var 1) .no (.some (.var 3))) (.tup (.cons (.ix (.var 1) (.bin .add (.var 3) (.lit (.int (1))))) (.cons (.ix (.var 1) (.var 3)) .nil)))) (.sl (.var 1) (.some (.bin .add (.var 3) (.lit (.int (2))))) .no))) .nil)))))⟩
def fdone_on_line : Fn := ⟨3, 5, (.cons (.set 3 (.bin .add (.lit (.int (4))) (.mtc .index 145990227 (.cons (.ix (.var 2) (.lit (.int (1)))) .nil)))) (.cons (.set 4 (.call 135619867830818145170148 (.cons (.var 0) (.cons (.ix (.var 1) (.var 3)) (.cons (.ix (.var 2) (.lit (.int (0)))) (.cons (.ix (.var 2) (.lit (.int (2)))) .nil)))))) (.cons (.ret (.ite (.isc false (.var 4) .none) (.lit .none) (.call 434854128333540 (.cons (.bin .add (.bin .add (.sl (.var 1) .no (.some (.var 3))) (.tup (.cons (.var 4) .nil))) (.sl (.var 1) (.some (.bin .add (.var 3) (.lit (.int (1))))) .no)) .nil)))) .nil)))⟩
def fwindow_after : Fn := ⟨3, 11, (.cons (.sett (.tp (.cons (.nm 3) (.cons (.nm 4) (.cons (.nm 5) (.cons (.nm 6) (.cons (.nm 7) (.cons (.nm 8) (.cons (.nm 9) .nil)))))))) (.var 1)) (.cons (.ifs (.cmp .eq (.ix (.var 2) (.lit (.int (0)))) (.lit (.str [103, 105, 118, 101]))) (.cons (.set 10 (.tup (.cons (.var 3) (.cons (.bin .add (.var 4) (.lit (.int (1)))) (.cons (.var 5) (.cons (.var 6) (.cons (.bin .add (.var 7) (.tup (.cons (.var 4) .nil))) (.cons (.var 8) (.cons (.var 9) .nil))))))))) (.cons (.ret (.ite (.cmp .lt (.var 4) (.bin .add (.var 3) (.ix (.var 0) (.lit (.int (1)))))) (.call 434854128333540 (.cons (.var 10) .nil)) (.lit .none))) .nil)) .nil) (.cons (.ifs (.cmp .eq (.ix (.var 2) (.lit (.int (0)))) (.lit (.str [97, 103, 97, 105, 110]))) (.cons (.set 10 (.tup (.cons (.var 3) (.cons (.var 4) (.cons (.var 5) (.cons (.var 6) (.cons (.bin .add (.var 7) (.tup (.cons (.ix (.var 2) (.lit (.int (1)))) .nil))) (.cons (.var 8) (.cons (.var 9) .nil))))))))) (.cons (.ret (.ite (.cmp2 .le .lt (.var 3) (.ix (.var 2) (.lit (.int (1)))) (.var 4)) (.call 434854128333540 (.cons (.var 10) .nil)) (.lit .none))) .nil)) .nil) (.cons (.ifs (.cmp .eq (.ix (.var 2) (.lit (.int (0)))) (.lit (.str [119, 111, 114, 100]))) (.cons (.ret (.ite (.cmp .ne (.var 7) (.tup .nil)) (.call 434854128333540 (.cons (.call 8637845974329882341 (.cons (.var 0) (.cons (.var 1) .nil))) .nil)) (.lit .none))) .nil) .nil) (.cons (.ifs (.cmp .eq (.ix (.var 2) (.lit (.int (0)))) (.lit (.str [97, 110, 115, 119, 101, 114]))) (.cons (.ret (.ite (.cmp .ne (.var 8) (.tup .nil)) (.call 434854128333540 (.cons (.call 115540312196147159004901 (.cons (.var 0) (.cons (.var 1) .nil))) .nil)) (.lit .none))) .nil) .nil) (.cons (.ret (.call 15243640317795783233140581 (.cons (.var 0) (.cons (.var 1) (.cons (.var 2) .nil))))) .nil))))))⟩
def ffits_window_events : Fn := ⟨2, 3, (.cons (.ret (.and (.call 7631208380102080486 (.cons (.var 0) (.cons (.lit (.int (0))) (.cons (.var 1) .nil)))) (.bl .all (.cons (.lc (.call 533910634036609924530123023975020404 (.cons (.var 2) .nil)) (.nm 2) [2] (.seq (.var 0)) .nil) .nil)))) .nil)⟩
def fwindows_ran : Fn := ⟨2, 4, (.cons (.set 2 (.cst 18944928212)) (.cons (.for_ (.nm 3) (.seq (.var 1)) (.cons (.set 2 (.call 18107755526640497772540658 (.cons (.var 0) (.cons (.var 2) (.cons (.var 3) .nil))))) (.cons (.ifs (.isc false (.var 2) .none) (.cons (.ret (.lit .none)) .nil) .nil) .nil))) (.cons (.ret (.var 2)) .nil)))⟩
def fneed_ran : Fn := ⟨2, 3, (.cons (.ifs (.not (.call 68340561156686070339855747068802611827 (.cons (.var 1) (.cons (.cst 160687943) .nil)))) (.cons (.raise 1428788299649692365223606899) .nil) .nil) (.cons (.set 2 (.call 141466840051884253556974 (.cons (.var 0) (.cons (.var 1) .nil)))) (.cons (.ifs (.isc false (.var 2) .none) (.cons (.raise 10240293686741624833192686) .nil) .nil) (.cons (.ret (.var 2)) .nil))))⟩
def fwindow_behind : Fn := ⟨2, 2, (.cons (.expr (.call 1021906042097070158579 (.cons (.var 0) .nil))) (.cons (.ret (.call 62372194952196334 (.cons (.var 0) (.cons (.var 1) .nil)))) .nil))⟩
def fwindow_events : Fn := ⟨2, 9, (.cons (.expr (.call 1021906042097070158579 (.cons (.var 0) .nil))) (.cons (.set 2 (.call 62372194952196334 (.cons (.var 0) (.cons (.var 1) .nil)))) (.cons (.set 3 (.bin .add (.lst (.cons (.tup (.cons (.lit (.str [103, 105, 118, 101])) .nil)) (.cons (.tup (.cons (.lit (.str [119, 111, 114, 100])) .nil)) (.cons (.tup (.cons (.lit (.str [97, 110, 115, 119, 101, 114])) .nil)) .nil)))) (.lc (.tup (.cons (.lit (.str [97, 103, 97, 105, 110])) (.cons (.var 6) .nil))) (.nm 6) [6] (.rng2 (.ix (.var 2) (.lit (.int (0)))) (.ix (.var 2) (.lit (.int (1))))) .nil))) (.cons (.for_ (.nm 4) (.seq (.tup (.cons (.lit (.str [108, 111, 115, 101])) (.cons (.lit (.str [100, 111, 117, 98, 108, 101])) (.cons (.lit (.str [116, 117, 114, 110])) .nil))))) (.cons (.for_ (.nm 5) (.seq (.cst 145990227)) (.cons (.set 3 (.bin .add (.var 3) (.lc (.tup (.cons (.var 4) (.cons (.var 5) (.cons (.var 7) .nil)))) (.nm 7) [7] (.rng1 (.cst 173270989)) .nil))) .nil)) .nil)) (.cons (.ret (.bl .sorted (.cons (.lc (.var 8) (.nm 8) [8] (.seq (.var 3)) (.cons (.isc true (.call 18107755526640497772540658 (.cons (.var 0) (.cons (.var 2) (.cons (.var 8) .nil)))) .none) .nil)) .nil))) .nil)))))⟩
def fis_sound_by : Fn := ⟨1, 1, (.cons (.ret (.and (.not (.ix (.var 0) (.lit (.int (3))))) (.cmp .le (.bin .add (.ix (.var 0) (.lit (.int (1)))) (.ix (.var 0) (.lit (.int (2))))) (.ix (.var 0) (.lit (.int (0))))))) .nil)⟩
def fharm_for : Fn := ⟨1, 7, (.cons (.sett (.tp (.cons (.nm 1) (.cons (.nm 2) (.cons (.nm 3) (.cons (.nm 4) .nil))))) (.var 0)) (.cons (.ifs (.cmp .gt (.var 2) (.var 1)) (.cons (.ret (.bin .add (.bin .add (.bin .mul (.tup (.cons (.tup (.cons (.lit (.str [103, 105, 118, 101])) .nil)) .nil)) (.bin .add (.var 1) (.lit (.int (1))))) (.bin .mul (.tup (.cons (.tup (.cons (.lit (.str [108, 111, 115, 101])) (.cons (.lit (.str [116, 104, 101, 114, 101])) (.cons (.lit (.int (0))) .nil)))) .nil)) (.var 1))) (.tup (.cons (.tup (.cons (.lit (.str [119, 111, 114, 100])) .nil)) .nil)))) .nil) .nil) (.cons (.ifs (.cmp .gt (.bin .add (.var 2) (.var 3)) (.var 1)) (.cons (.ret (.bin .add (.bin .add (.bin .mul (.tup (.cons (.tup (.cons (.lit (.str [103, 105, 118, 101])) .nil)) .nil)) (.var 2)) (.bin .mul (.tup (.cons (.tup (.cons (.lit (.str [119, 111, 114, 100])) .nil)) .nil)) (.var 2))) (.tup (.cons (.tup (.cons (.lit (.str [97, 103, 97, 105, 110])) (.cons (.lit (.int (0))) .nil))) (.cons (.tup (.cons (.lit (.str [119, 111, 114, 100])) .nil)) .nil))))) .nil) .nil) (.cons (.set 5 (.tup (.cons (.tup (.cons (.lit (.str [103, 105, 118, 101])) .nil)) (.cons (.tup (.cons (.lit (.str [100, 111, 117, 98, 108, 101])) (.cons (.lit (.str [116, 104, 101, 114, 101])) (.cons (.lit (.int (0))) .nil)))) (.cons (.tup (.cons (.lit (.str [119, 111, 114, 100])) .nil)) (.cons (.tup (.cons (.lit (.str [97, 110, 115, 119, 101, 114])) .nil)) .nil)))))) (.cons (.set 6 (.tup (.cons (.tup (.cons (.lit (.str [103, 105, 118, 101])) .nil)) (.cons (.tup (.cons (.lit (.str [116, 117, 114, 110])) (.cons (.lit (.str [116, 104, 101, 114, 101])) (.cons (.lit (.int (0))) .nil)))) (.cons (.tup (.cons (.lit (.str [119, 111, 114, 100])) .nil)) (.cons (.tup (.cons (.lit (.str [97, 110, 115, 119, 101, 114])) .nil)) .nil)))))) (.cons (.ret (.bin .add (.bin .add (.var 5) (.bin .mul (.var 6) (.bin .sub (.var 1) (.lit (.int (1)))))) (.tup (.cons (.tup (.cons (.lit (.str [119, 111, 114, 100])) .nil)) .nil)))) .nil))))))⟩
def fare_sound : Fn := ⟨1, 1, (.cons (.expr (.call 1021906042097070158579 (.cons (.var 0) .nil))) (.cons (.ret (.call 125029718662477723988345 (.cons (.var 0) .nil))) .nil))⟩
def fwindow_harm : Fn := ⟨1, 1, (.cons (.expr (.call 1021906042097070158579 (.cons (.var 0) .nil))) (.cons (.ret (.ite (.call 125029718662477723988345 (.cons (.var 0) .nil)) (.lit .none) (.call 58977352137947122 (.cons (.var 0) .nil)))) .nil))⟩
def f_law_cup : Fn := ⟨1, 3, (.cons (.set 1 (.bl .abs (.cons (.ix (.bin .add (.bl .list (.cons (.var 0) .nil)) (.lst (.cons (.lit (.int (0))) .nil))) (.lit (.int (0)))) .nil))) (.cons (.set 2 (.ite (.cmp .ge (.var 1) (.bin .pow (.lit (.int (10))) (.lit (.int (18))))) (.bin .fdiv (.var 1) (.lit (.int (11)))) (.lit (.int (0))))) (.cons (.ret (.new (.cons (.var 2) (.cons (.bin .add (.bin .mod (.bl .int (.cons (.bin .add (.bin .mul (.var 1) (.lit (.int (193)))) (.lit (.int (1201)))) .nil)) (.lit (.int (2077504273)))) (.lit (.int (89)))) .nil)))) .nil)))⟩
def f_law_roll : Fn := ⟨2, 4, (.cons (.ifs (.cmp .gt (.ix (.var 0) (.lit (.int (0)))) (.lit (.int (0)))) (.cons (.set 2 (.bin .mod (.bl .int (.cons (.ix (.var 0) (.lit (.int (0)))) .nil)) (.var 1))) (.cons (.setix (.var 0) (.lit (.int (0))) (.bin .fdiv (.ix (.var 0) (.lit (.int (0)))) (.var 1))) (.cons (.ret (.var 2)) .nil))) .nil) (.cons (.setix (.var 0) (.lit (.int (1))) (.bin .mod (.bl .int (.cons (.bin .add (.bin .mul (.ix (.var 0) (.lit (.int (1)))) (.lit (.int (30671)))) (.lit (.int (7919)))) .nil)) (.lit (.int (2147483549))))) (.cons (.set 3 (.bin .mod (.bl .int (.cons (.bin .mul (.ix (.var 0) (.lit (.int (1)))) (.bin .add (.ix (.var 0) (.lit (.int (1)))) (.lit (.int (131))))) .nil)) (.lit (.int (2147483587))))) (.cons (.ret (.bin .mod (.bl .int (.cons (.bin .fdiv (.var 3) (.lit (.int (709)))) .nil)) (.var 1))) .nil))))⟩
def f_law_some : Fn := ⟨2, 2, (.cons (.ret (.ix (.var 1) (.call 6906700753635374700 (.cons (.var 0) (.cons (.bl .len (.cons (.var 1) .nil)) .nil))))) .nil)⟩
def f_law_walk : Fn := ⟨3, 8, (.cons (.set 3 (.tup .nil)) (.cons (.for_ (.nm 4) (.rng1 (.var 2)) (.cons (.set 5 (.lc (.var 7) (.nm 7) [7] (.seq (.call 2317792707409983856587815539 (.cons (.var 1) (.cons (.var 3) .nil)))) (.cons (.cmp .ne (.ix (.var 7) (.lit (.int (0)))) (.lit (.str [116, 117, 114, 110]))) .nil))) (.cons (.set 6 (.lc (.var 7) (.nm 7) [7] (.seq (.var 5)) (.cons (.cmp .isin (.var 7) (.tup (.cons (.tup (.cons (.lit (.str [103, 105, 118, 101])) .nil)) (.cons (.tup (.cons (.lit (.str [119, 111, 114, 100])) .nil)) (.cons (.tup (.cons (.lit (.str [97, 110, 115, 119, 101, 114])) .nil)) .nil))))) .nil))) (.cons (.set 3 (.bin .add (.var 3) (.tup (.cons (.call 6906700753637471973 (.cons (.var 0) (.cons (.bin .add (.var 5) (.bin .mul (.var 6) (.lit (.int (3))))) .nil))) .nil)))) .nil)))) (.cons (.ret (.var 3)) .nil)))⟩
def f_law_rested : Fn := ⟨2, 10, (.cons (.for_ (.nm 2) (.rng1 (.lit (.int (120)))) (.cons (.sett (.tp (.cons (.nm 3) (.cons (.nm 4) (.cons (.nm 5) (.cons (.nm 6) (.cons (.nm 7) (.cons (.nm 8) (.cons (.nm 9) .nil)))))))) (.call 2317792707409983748951406436 (.cons (.var 0) (.cons (.var 1) .nil)))) (.cons (.ifs (.cmp .ne (.var 7) (.tup .nil)) (.cons (.set 1 (.bin .add (.var 1) (.tup (.cons (.tup (.cons (.lit (.str [119, 111, 114, 100])) .nil)) .nil)))) .nil) (.cons (.ifs (.cmp .ne (.var 8) (.tup .nil)) (.cons (.set 1 (.bin .add (.var 1) (.tup (.cons (.tup (.cons (.lit (.str [97, 110, 115, 119, 101, 114])) .nil)) .nil)))) .nil) (.cons (.ifs (.cmp .lt (.var 3) (.var 4)) (.cons (.set 1 (.bin .add (.var 1) (.tup (.cons (.tup (.cons (.lit (.str [97, 103, 97, 105, 110])) (.cons (.var 3) .nil))) .nil)))) .nil) (.cons (.ret (.var 1)) .nil)) .nil)) .nil)) .nil))) (.cons (.ret (.lit .none)) .nil))⟩
def f_law_right : Fn := ⟨2, 12, (.cons (.set 2 (.call 6906700753645631083 (.cons (.var 0) (.cons (.var 1) (.cons (.lit (.int (10))) .nil))))) (.cons (.set 3 (.call 113159385147559309554404 (.cons (.var 1) (.cons (.var 2) .nil)))) (.cons (.ifs (.or (.isc false (.var 3) .none) (.cmp .lt (.bl .len (.cons (.var 3) .nil)) (.bl .len (.cons (.var 2) .nil)))) (.cons (.ret (.lit (.bool false))) .nil) .nil) (.cons (.sett (.tp (.cons (.nm 4) (.cons (.nm 5) (.cons (.nm 6) (.cons (.nm 7) (.cons (.nm 8) (.cons (.nm 9) (.cons (.nm 10) .nil)))))))) (.call 2317792707409983748951406436 (.cons (.var 1) (.cons (.var 3) .nil)))) (.cons (.ifs (.cmp .ne (.tup (.cons (.var 4) (.cons (.var 6) (.cons (.var 7) (.cons (.var 8) (.cons (.var 9) (.cons (.var 10) .nil))))))) (.tup (.cons (.var 5) (.cons (.var 5) (.cons (.tup .nil) (.cons (.tup .nil) (.cons (.tup .nil) (.cons (.lit (.bool false)) .nil)))))))) (.cons (.ret (.lit (.bool false))) .nil) .nil) (.cons (.set 11 (.bin .add (.var 3) (.tup (.cons (.tup (.cons (.lit (.str [103, 105, 118, 101])) .nil)) (.cons (.tup (.cons (.lit (.str [119, 111, 114, 100])) .nil)) (.cons (.tup (.cons (.lit (.str [97, 110, 115, 119, 101, 114])) .nil)) .nil)))))) (.cons (.ret (.cmp .eq (.call 2317792707409983748951406436 (.cons (.var 1) (.cons (.var 11) .nil))) (.tup (.cons (.bin .add (.var 5) (.lit (.int (1)))) (.cons (.bin .add (.var 5) (.lit (.int (1)))) (.cons (.bin .add (.var 5) (.lit (.int (1)))) (.cons (.tup .nil) (.cons (.tup .nil) (.cons (.tup .nil) (.cons (.lit (.bool false)) .nil)))))))))) .nil)))))))⟩
def flaw : Fn := ⟨1, 10, (.cons (.set 1 (.call 53958599637531376 (.cons (.var 0) .nil))) (.cons (.par2 2 3 (.cons (.bin .add (.lit (.int (1))) (.call 6906700753635374700 (.cons (.var 1) (.cons (.lit (.int (4))) .nil)))) (.cons (.bin .add (.lit (.int (1))) (.call 6906700753635374700 (.cons (.var 1) (.cons (.lit (.int (4))) .nil)))) .nil))) (.cons (.set 4 (.tup (.cons (.bin .add (.bin .add (.var 2) (.var 3)) (.call 6906700753635374700 (.cons (.var 1) (.cons (.lit (.int (3))) .nil)))) (.cons (.var 2) (.cons (.var 3) (.cons (.lit (.bool false)) .nil)))))) (.cons (.ifs (.or (.isc true (.call 7054210414346598244 (.cons (.var 4) .nil)) (.bool true)) (.not (.call 884057696465315296372 (.cons (.var 1) (.cons (.var 4) .nil))))) (.cons (.ret (.lit (.bool false))) .nil) .nil) (.cons (.set 5 (.tup (.cons (.bl .max2 (.cons (.lit (.int (1))) (.cons (.bin .sub (.bin .sub (.bin .add (.var 2) (.var 3)) (.lit (.int (1)))) (.call 6906700753635374700 (.cons (.var 1) (.cons (.lit (.int (2))) .nil)))) .nil))) (.cons (.var 2) (.cons (.var 3) (.cons (.lit (.bool false)) .nil)))))) (.cons (.set 6 (.call 141466840051878903445869 (.cons (.var 5) .nil))) (.cons (.ifs (.or (.isc true (.call 7054210414346598244 (.cons (.var 5) .nil)) (.bool false)) (.isc true (.ix (.call 2317792707409983748951406436 (.cons (.var 5) (.cons (.var 6) .nil))) (.lit (.int (6)))) (.bool true))) (.cons (.ret (.lit (.bool false))) .nil) .nil) (.cons (.ifs (.cmp .ne (.lc (.var 9) (.nm 9) [9] (.seq (.call 2317792707409983856587815539 (.cons (.var 5) (.cons (.var 6) .nil)))) (.cons (.isc true (.ix (.call 2317792707409983748951406436 (.cons (.var 5) (.cons (.bin .add (.var 6) (.tup (.cons (.var 9) .nil))) .nil))) (.lit (.int (6)))) (.bool true)) .nil)) (.lst .nil)) (.cons (.ret (.lit (.bool false))) .nil) .nil) (.cons (.set 7 (.tup (.cons (.tup (.cons (.lit (.str [103, 105, 118, 101])) .nil)) (.cons (.tup (.cons (.lit (.str [103, 105, 118, 101])) .nil)) (.cons (.tup (.cons (.lit (.str [108, 111, 115, 101])) (.cons (.lit (.str [116, 104, 101, 114, 101])) (.cons (.lit (.int (0))) .nil)))) (.cons (.tup (.cons (.lit (.str [119, 111, 114, 100])) .nil)) (.cons (.tup (.cons (.lit (.str [108, 111, 115, 101])) (.cons (.lit (.str [98, 97, 99, 107])) (.cons (.lit (.int (0))) .nil)))) .nil))))))) (.cons (.set 8 (.tup (.cons (.tup (.cons (.lit (.str [97, 103, 97, 105, 110])) (.cons (.lit (.int (0))) .nil))) (.cons (.tup (.cons (.lit (.str [119, 111, 114, 100])) .nil)) (.cons (.tup (.cons (.lit (.str [97, 110, 115, 119, 101, 114])) .nil)) (.cons (.tup (.cons (.lit (.str [97, 103, 97, 105, 110])) (.cons (.lit (.int (1))) .nil))) (.cons (.tup (.cons (.lit (.str [119, 111, 114, 100])) .nil)) (.cons (.tup (.cons (.lit (.str [97, 110, 115, 119, 101, 114])) .nil)) .nil)))))))) (.cons (.ifs (.cmp .ne (.call 113159385147559309554404 (.cons (.tup (.cons (.lit (.int (3))) (.cons (.lit (.int (2))) (.cons (.lit (.int (1))) (.cons (.lit (.bool false)) .nil))))) (.cons (.var 7) .nil))) (.bin .add (.var 7) (.var 8))) (.cons (.ret (.lit (.bool false))) .nil) .nil) (.cons (.ifs (.cmp .ne (.call 113159385147559309554404 (.cons (.tup (.cons (.lit (.int (4))) (.cons (.lit (.int (2))) (.cons (.lit (.int (2))) (.cons (.lit (.bool false)) .nil))))) (.cons (.var 7) .nil))) (.bin .add (.var 7) (.tup (.cons (.tup (.cons (.lit (.str [97, 103, 97, 105, 110])) (.cons (.lit (.int (0))) .nil))) (.cons (.tup (.cons (.lit (.str [119, 111, 114, 100])) .nil)) (.cons (.tup (.cons (.lit (.str [97, 110, 115, 119, 101, 114])) .nil)) .nil)))))) (.cons (.ret (.lit (.bool false))) .nil) .nil) (.cons (.ret (.call 884057696465315296372 (.cons (.var 1) (.cons (.tup (.cons (.lit (.int (2))) (.cons (.lit (.int (1))) (.cons (.lit (.int (1))) (.cons (.lit (.bool false)) .nil))))) .nil)))) .nil)))))))))))))⟩
def tab : List (Nat × Fn) := [(59618816796915301, fis_whole), (7631208380102080486, fis_row_of), (948415806398382650099, ffits_sizes), (1021906042097070158579, fneed_sizes), (533910634036609924530123023975020404, ffits_window_event), (434854128333540, fbounded), (8637845974329882341, fword_came), (115540312196147159004901, fanswer_came), (135619867830818145170148, frow_changed), (15243640317795783233140581, fdone_on_line), (18107755526640497772540658, fwindow_after), (68340561156686070339855747068802611827, ffits_window_events), (141466840051884253556974, fwindows_ran), (62372194952196334, fneed_ran), (2317792707409983748951406436, fwindow_behind), (2317792707409983856587815539, fwindow_events), (125029718662477723988345, fis_sound_by), (58977352137947122, fharm_for), (7054210414346598244, fare_sound), (141466840051878903445869, fwindow_harm), (53958599637531376, f_law_cup), (6906700753635374700, f_law_roll), (6906700753637471973, f_law_some), (6906700753645631083, f_law_walk), (113159385147559309554404, f_law_rested), (884057696465315296372, f_law_right), (1782007, flaw)]
def T (c : Nat) : Option Fn := tab.lookup c
def cWIDEST : D := (.int (16))
def cWIDE : D := (.int (8))
def cFARTHEST : D := (.int (80))
def cROOM : D := (.int (12))
def cLONG : D := (.int (200))
def cFIRST : D := (.tup [(.int (0)), (.int (0)), (.int (0)), (.tup []), (.tup []), (.tup []), (.bool false)])
def cENDS : D := (.tup [(.str [116, 104, 101, 114, 101]), (.str [98, 97, 99, 107])])
def ctab : List (Nat × PV) := [(3009036773844, .d cWIDEST), (183657029, .d cWIDE), (39695209961974228, .d cFARTHEST), (173270989, .d cROOM), (160687943, .d cLONG), (18944928212, .d cFIRST), (145990227, .d cENDS)]
def C (c : Nat) : Option PV := ctab.lookup c
def stab : List (Str × Stmt) := [("is_whole", st 6), ("is_row_of", st 8), ("fits_sizes", st 17), ("need_sizes", st 18), ("fits_window_event", st 19), ("bounded", st 20), ("word_came", st 21), ("answer_came", st 22), ("row_changed", st 23), ("done_on_line", st 24), ("window_after", st 25), ("fits_window_events", st 26), ("windows_ran", st 27), ("need_ran", st 28), ("window_behind", st 29), ("window_events", st 30), ("is_sound_by", st 32), ("harm_for", st 33), ("are_sound", st 34), ("window_harm", st 35), ("_law_cup", st 37), ("_law_roll", st 38), ("_law_some", st 39), ("_law_walk", st 40), ("_law_rested", st 41), ("_law_right", st 42), ("law", st 43)]
def sts (x : Str) : Option Stmt := stab.lookup x
theorem mkis_whole {K : PySem.W.Frag} {mg : Str → Option Value} {h : Heap} (X : K.In h) (G : h.Ns mainGlobals mg) {f : Addr} {oc : Value} {od an : Option Addr} {osl : Array (Option Value)} {kV doc pm cdv ct : Value}
    (a : PySem.W.nsIn K mainGlobals "is_whole" = some (some (.ref f))) (l : K.lookup f = some ⟨oc, od, .func (PySem.W.fnOf "is_whole" "is_whole" (defArgs (st 6)) (defBody (st 6)) (defScope (st 6)) .none kV doc pm an cdv ct), osl⟩) (c : PySem.W.codeIn K cdv "is_whole" = true) (k : PySem.W.keepIn K (.ref f) = true) : FnSt T P sts K mg "is_whole" :=
  fn_st (st := st 6) ⟨rfl, rfl, rfl, by decide +kernel, rfl, by decide +kernel, by decide +kernel⟩ (by kernel_rfl) (by kernel_rfl) (fun _ _ _ _ _ _ us hl => match us, hl with | [_, _, _], _ => rfl) X G a l c k
theorem mkis_row_of {K : PySem.W.Frag} {mg : Str → Option Value} {h : Heap} (X : K.In h) (G : h.Ns mainGlobals mg) {f : Addr} {oc : Value} {od an : Option Addr} {osl : Array (Option Value)} {kV doc pm cdv ct : Value}
    (a : PySem.W.nsIn K mainGlobals "is_row_of" = some (some (.ref f))) (l : K.lookup f = some ⟨oc, od, .func (PySem.W.fnOf "is_row_of" "is_row_of" (defArgs (st 8)) (defBody (st 8)) (defScope (st 8)) .none kV doc pm an cdv ct), osl⟩) (c : PySem.W.codeIn K cdv "is_row_of" = true) (k : PySem.W.keepIn K (.ref f) = true) : FnSt T P sts K mg "is_row_of" :=
  fn_st (st := st 8) ⟨rfl, rfl, rfl, by decide +kernel, rfl, by decide +kernel, by decide +kernel⟩ (by kernel_rfl) (by kernel_rfl) (fun _ _ _ _ _ _ us hl => match us, hl with | [_, _, _], _ => rfl) X G a l c k
theorem mkfits_sizes {K : PySem.W.Frag} {mg : Str → Option Value} {h : Heap} (X : K.In h) (G : h.Ns mainGlobals mg) {f : Addr} {oc : Value} {od an : Option Addr} {osl : Array (Option Value)} {kV doc pm cdv ct : Value}
    (a : PySem.W.nsIn K mainGlobals "fits_sizes" = some (some (.ref f))) (l : K.lookup f = some ⟨oc, od, .func (PySem.W.fnOf "fits_sizes" "fits_sizes" (defArgs (st 17)) (defBody (st 17)) (defScope (st 17)) .none kV doc pm an cdv ct), osl⟩) (c : PySem.W.codeIn K cdv "fits_sizes" = true) (k : PySem.W.keepIn K (.ref f) = true) : FnSt T P sts K mg "fits_sizes" :=
  fn_st (st := st 17) ⟨rfl, rfl, rfl, by decide +kernel, rfl, by decide +kernel, by decide +kernel⟩ (by kernel_rfl) (by kernel_rfl) (fun _ _ _ _ _ _ us hl => match us, hl with | [_], _ => rfl) X G a l c k
theorem mkneed_sizes {K : PySem.W.Frag} {mg : Str → Option Value} {h : Heap} (X : K.In h) (G : h.Ns mainGlobals mg) {f : Addr} {oc : Value} {od an : Option Addr} {osl : Array (Option Value)} {kV doc pm cdv ct : Value}
    (a : PySem.W.nsIn K mainGlobals "need_sizes" = some (some (.ref f))) (l : K.lookup f = some ⟨oc, od, .func (PySem.W.fnOf "need_sizes" "need_sizes" (defArgs (st 18)) (defBody (st 18)) (defScope (st 18)) .none kV doc pm an cdv ct), osl⟩) (c : PySem.W.codeIn K cdv "need_sizes" = true) (k : PySem.W.keepIn K (.ref f) = true) : FnSt T P sts K mg "need_sizes" :=
  fn_st (st := st 18) ⟨rfl, rfl, rfl, by decide +kernel, rfl, by decide +kernel, by decide +kernel⟩ (by kernel_rfl) (by kernel_rfl) (fun _ _ _ _ _ _ us hl => match us, hl with | [_], _ => rfl) X G a l c k
theorem mkfits_window_event {K : PySem.W.Frag} {mg : Str → Option Value} {h : Heap} (X : K.In h) (G : h.Ns mainGlobals mg) {f : Addr} {oc : Value} {od an : Option Addr} {osl : Array (Option Value)} {kV doc pm cdv ct : Value}
    (a : PySem.W.nsIn K mainGlobals "fits_window_event" = some (some (.ref f))) (l : K.lookup f = some ⟨oc, od, .func (PySem.W.fnOf "fits_window_event" "fits_window_event" (defArgs (st 19)) (defBody (st 19)) (defScope (st 19)) .none kV doc pm an cdv ct), osl⟩) (c : PySem.W.codeIn K cdv "fits_window_event" = true) (k : PySem.W.keepIn K (.ref f) = true) : FnSt T P sts K mg "fits_window_event" :=
  fn_st (st := st 19) ⟨rfl, rfl, rfl, by decide +kernel, rfl, by decide +kernel, by decide +kernel⟩ (by kernel_rfl) (by kernel_rfl) (fun _ _ _ _ _ _ us hl => match us, hl with | [_], _ => rfl) X G a l c k
theorem mkbounded {K : PySem.W.Frag} {mg : Str → Option Value} {h : Heap} (X : K.In h) (G : h.Ns mainGlobals mg) {f : Addr} {oc : Value} {od an : Option Addr} {osl : Array (Option Value)} {kV doc pm cdv ct : Value}
    (a : PySem.W.nsIn K mainGlobals "bounded" = some (some (.ref f))) (l : K.lookup f = some ⟨oc, od, .func (PySem.W.fnOf "bounded" "bounded" (defArgs (st 20)) (defBody (st 20)) (defScope (st 20)) .none kV doc pm an cdv ct), osl⟩) (c : PySem.W.codeIn K cdv "bounded" = true) (k : PySem.W.keepIn K (.ref f) = true) : FnSt T P sts K mg "bounded" :=
  fn_st (st := st 20) ⟨rfl, rfl, rfl, by decide +kernel, rfl, by decide +kernel, by decide +kernel⟩ (by kernel_rfl) (by kernel_rfl) (fun _ _ _ _ _ _ us hl => match us, hl with | [_], _ => rfl) X G a l c k
theorem mkword_came {K : PySem.W.Frag} {mg : Str → Option Value} {h : Heap} (X : K.In h) (G : h.Ns mainGlobals mg) {f : Addr} {oc : Value} {od an : Option Addr} {osl : Array (Option Value)} {kV doc pm cdv ct : Value}
    (a : PySem.W.nsIn K mainGlobals "word_came" = some (some (.ref f))) (l : K.lookup f = some ⟨oc, od, .func (PySem.W.fnOf "word_came" "word_came" (defArgs (st 21)) (defBody (st 21)) (defScope (st 21)) .none kV doc pm an cdv ct), osl⟩) (c : PySem.W.codeIn K cdv "word_came" = true) (k : PySem.W.keepIn K (.ref f) = true) : FnSt T P sts K mg "word_came" :=
  fn_st (st := st 21) ⟨rfl, rfl, rfl, by decide +kernel, rfl, by decide +kernel, by decide +kernel⟩ (by kernel_rfl) (by kernel_rfl) (fun _ _ _ _ _ _ us hl => match us, hl with | [_, _], _ => rfl) X G a l c k
theorem mkanswer_came {K : PySem.W.Frag} {mg : Str → Option Value} {h : Heap} (X : K.In h) (G : h.Ns mainGlobals mg) {f : Addr} {oc : Value} {od an : Option Addr} {osl : Array (Option Value)} {kV doc pm cdv ct : Value}
    (a : PySem.W.nsIn K mainGlobals "answer_came" = some (some (.ref f))) (l : K.lookup f = some ⟨oc, od, .func (PySem.W.fnOf "answer_came" "answer_came" (defArgs (st 22)) (defBody (st 22)) (defScope (st 22)) .none kV doc pm an cdv ct), osl⟩) (c : PySem.W.codeIn K cdv "answer_came" = true) (k : PySem.W.keepIn K (.ref f) = true) : FnSt T P sts K mg "answer_came" :=
  fn_st (st := st 22) ⟨rfl, rfl, rfl, by decide +kernel, rfl, by decide +kernel, by decide +kernel⟩ (by kernel_rfl) (by kernel_rfl) (fun _ _ _ _ _ _ us hl => match us, hl with | [_, _], _ => rfl) X G a l c k
theorem mkrow_changed {K : PySem.W.Frag} {mg : Str → Option Value} {h : Heap} (X : K.In h) (G : h.Ns mainGlobals mg) {f : Addr} {oc : Value} {od an : Option Addr} {osl : Array (Option Value)} {kV doc pm cdv ct : Value}
    (a : PySem.W.nsIn K mainGlobals "row_changed" = some (some (.ref f))) (l : K.lookup f = some ⟨oc, od, .func (PySem.W.fnOf "row_changed" "row_changed" (defArgs (st 23)) (defBody (st 23)) (defScope (st 23)) .none kV doc pm an cdv ct), osl⟩) (c : PySem.W.codeIn K cdv "row_changed" = true) (k : PySem.W.keepIn K (.ref f) = true) : FnSt T P sts K mg "row_changed" :=
  fn_st (st := st 23) ⟨rfl, rfl, rfl, by decide +kernel, rfl, by decide +kernel, by decide +kernel⟩ (by kernel_rfl) (by kernel_rfl) (fun _ _ _ _ _ _ us hl => match us, hl with | [_, _, _, _], _ => rfl) X G a l c k
theorem mkdone_on_line {K : PySem.W.Frag} {mg : Str → Option Value} {h : Heap} (X : K.In h) (G : h.Ns mainGlobals mg) {f : Addr} {oc : Value} {od an : Option Addr} {osl : Array (Option Value)} {kV doc pm cdv ct : Value}
    (a : PySem.W.nsIn K mainGlobals "done_on_line" = some (some (.ref f))) (l : K.lookup f = some ⟨oc, od, .func (PySem.W.fnOf "done_on_line" "done_on_line" (defArgs (st 24)) (defBody (st 24)) (defScope (st 24)) .none kV doc pm an cdv ct), osl⟩) (c : PySem.W.codeIn K cdv "done_on_line" = true) (k : PySem.W.keepIn K (.ref f) = true) : FnSt T P sts K mg "done_on_line" :=
  fn_st (st := st 24) ⟨rfl, rfl, rfl, by decide +kernel, rfl, by decide +kernel, by decide +kernel⟩ (by kernel_rfl) (by kernel_rfl) (fun _ _ _ _ _ _ us hl => match us, hl with | [_, _, _], _ => rfl) X G a l c k
theorem mkwindow_after {K : PySem.W.Frag} {mg : Str → Option Value} {h : Heap} (X : K.In h) (G : h.Ns mainGlobals mg) {f : Addr} {oc : Value} {od an : Option Addr} {osl : Array (Option Value)} {kV doc pm cdv ct : Value}
    (a : PySem.W.nsIn K mainGlobals "window_after" = some (some (.ref f))) (l : K.lookup f = some ⟨oc, od, .func (PySem.W.fnOf "window_after" "window_after" (defArgs (st 25)) (defBody (st 25)) (defScope (st 25)) .none kV doc pm an cdv ct), osl⟩) (c : PySem.W.codeIn K cdv "window_after" = true) (k : PySem.W.keepIn K (.ref f) = true) : FnSt T P sts K mg "window_after" :=
  fn_st (st := st 25) ⟨rfl, rfl, rfl, by decide +kernel, rfl, by decide +kernel, by decide +kernel⟩ (by kernel_rfl) (by kernel_rfl) (fun _ _ _ _ _ _ us hl => match us, hl with | [_, _, _], _ => rfl) X G a l c k
theorem mkfits_window_events {K : PySem.W.Frag} {mg : Str → Option Value} {h : Heap} (X : K.In h) (G : h.Ns mainGlobals mg) {f : Addr} {oc : Value} {od an : Option Addr} {osl : Array (Option Value)} {kV doc pm cdv ct : Value}
    (a : PySem.W.nsIn K mainGlobals "fits_window_events" = some (some (.ref f))) (l : K.lookup f = some ⟨oc, od, .func (PySem.W.fnOf "fits_window_events" "fits_window_events" (defArgs (st 26)) (defBody (st 26)) (defScope (st 26)) .none kV doc pm an cdv ct), osl⟩) (c : PySem.W.codeIn K cdv "fits_window_events" = true) (k : PySem.W.keepIn K (.ref f) = true) : FnSt T P sts K mg "fits_window_events" :=
  fn_st (st := st 26) ⟨rfl, rfl, rfl, by decide +kernel, rfl, by decide +kernel, by decide +kernel⟩ (by kernel_rfl) (by kernel_rfl) (fun _ _ _ _ _ _ us hl => match us, hl with | [_, _], _ => rfl) X G a l c k
theorem mkwindows_ran {K : PySem.W.Frag} {mg : Str → Option Value} {h : Heap} (X : K.In h) (G : h.Ns mainGlobals mg) {f : Addr} {oc : Value} {od an : Option Addr} {osl : Array (Option Value)} {kV doc pm cdv ct : Value}
    (a : PySem.W.nsIn K mainGlobals "windows_ran" = some (some (.ref f))) (l : K.lookup f = some ⟨oc, od, .func (PySem.W.fnOf "windows_ran" "windows_ran" (defArgs (st 27)) (defBody (st 27)) (defScope (st 27)) .none kV doc pm an cdv ct), osl⟩) (c : PySem.W.codeIn K cdv "windows_ran" = true) (k : PySem.W.keepIn K (.ref f) = true) : FnSt T P sts K mg "windows_ran" :=
  fn_st (st := st 27) ⟨rfl, rfl, rfl, by decide +kernel, rfl, by decide +kernel, by decide +kernel⟩ (by kernel_rfl) (by kernel_rfl) (fun _ _ _ _ _ _ us hl => match us, hl with | [_, _], _ => rfl) X G a l c k
theorem mkneed_ran {K : PySem.W.Frag} {mg : Str → Option Value} {h : Heap} (X : K.In h) (G : h.Ns mainGlobals mg) {f : Addr} {oc : Value} {od an : Option Addr} {osl : Array (Option Value)} {kV doc pm cdv ct : Value}
    (a : PySem.W.nsIn K mainGlobals "need_ran" = some (some (.ref f))) (l : K.lookup f = some ⟨oc, od, .func (PySem.W.fnOf "need_ran" "need_ran" (defArgs (st 28)) (defBody (st 28)) (defScope (st 28)) .none kV doc pm an cdv ct), osl⟩) (c : PySem.W.codeIn K cdv "need_ran" = true) (k : PySem.W.keepIn K (.ref f) = true) : FnSt T P sts K mg "need_ran" :=
  fn_st (st := st 28) ⟨rfl, rfl, rfl, by decide +kernel, rfl, by decide +kernel, by decide +kernel⟩ (by kernel_rfl) (by kernel_rfl) (fun _ _ _ _ _ _ us hl => match us, hl with | [_, _], _ => rfl) X G a l c k
theorem mkwindow_behind {K : PySem.W.Frag} {mg : Str → Option Value} {h : Heap} (X : K.In h) (G : h.Ns mainGlobals mg) {f : Addr} {oc : Value} {od an : Option Addr} {osl : Array (Option Value)} {kV doc pm cdv ct : Value}
    (a : PySem.W.nsIn K mainGlobals "window_behind" = some (some (.ref f))) (l : K.lookup f = some ⟨oc, od, .func (PySem.W.fnOf "window_behind" "window_behind" (defArgs (st 29)) (defBody (st 29)) (defScope (st 29)) .none kV doc pm an cdv ct), osl⟩) (c : PySem.W.codeIn K cdv "window_behind" = true) (k : PySem.W.keepIn K (.ref f) = true) : FnSt T P sts K mg "window_behind" :=
  fn_st (st := st 29) ⟨rfl, rfl, rfl, by decide +kernel, rfl, by decide +kernel, by decide +kernel⟩ (by kernel_rfl) (by kernel_rfl) (fun _ _ _ _ _ _ us hl => match us, hl with | [_, _], _ => rfl) X G a l c k
theorem mkwindow_events {K : PySem.W.Frag} {mg : Str → Option Value} {h : Heap} (X : K.In h) (G : h.Ns mainGlobals mg) {f : Addr} {oc : Value} {od an : Option Addr} {osl : Array (Option Value)} {kV doc pm cdv ct : Value}
    (a : PySem.W.nsIn K mainGlobals "window_events" = some (some (.ref f))) (l : K.lookup f = some ⟨oc, od, .func (PySem.W.fnOf "window_events" "window_events" (defArgs (st 30)) (defBody (st 30)) (defScope (st 30)) .none kV doc pm an cdv ct), osl⟩) (c : PySem.W.codeIn K cdv "window_events" = true) (k : PySem.W.keepIn K (.ref f) = true) : FnSt T P sts K mg "window_events" :=
  fn_st (st := st 30) ⟨rfl, rfl, rfl, by decide +kernel, rfl, by decide +kernel, by decide +kernel⟩ (by kernel_rfl) (by kernel_rfl) (fun _ _ _ _ _ _ us hl => match us, hl with | [_, _], _ => rfl) X G a l c k
theorem mkis_sound_by {K : PySem.W.Frag} {mg : Str → Option Value} {h : Heap} (X : K.In h) (G : h.Ns mainGlobals mg) {f : Addr} {oc : Value} {od an : Option Addr} {osl : Array (Option Value)} {kV doc pm cdv ct : Value}
    (a : PySem.W.nsIn K mainGlobals "is_sound_by" = some (some (.ref f))) (l : K.lookup f = some ⟨oc, od, .func (PySem.W.fnOf "is_sound_by" "is_sound_by" (defArgs (st 32)) (defBody (st 32)) (defScope (st 32)) .none kV doc pm an cdv ct), osl⟩) (c : PySem.W.codeIn K cdv "is_sound_by" = true) (k : PySem.W.keepIn K (.ref f) = true) : FnSt T P sts K mg "is_sound_by" :=
  fn_st (st := st 32) ⟨rfl, rfl, rfl, by decide +kernel, rfl, by decide +kernel, by decide +kernel⟩ (by kernel_rfl) (by kernel_rfl) (fun _ _ _ _ _ _ us hl => match us, hl with | [_], _ => rfl) X G a l c k
theorem mkharm_for {K : PySem.W.Frag} {mg : Str → Option Value} {h : Heap} (X : K.In h) (G : h.Ns mainGlobals mg) {f : Addr} {oc : Value} {od an : Option Addr} {osl : Array (Option Value)} {kV doc pm cdv ct : Value}
    (a : PySem.W.nsIn K mainGlobals "harm_for" = some (some (.ref f))) (l : K.lookup f = some ⟨oc, od, .func (PySem.W.fnOf "harm_for" "harm_for" (defArgs (st 33)) (defBody (st 33)) (defScope (st 33)) .none kV doc pm an cdv ct), osl⟩) (c : PySem.W.codeIn K cdv "harm_for" = true) (k : PySem.W.keepIn K (.ref f) = true) : FnSt T P sts K mg "harm_for" :=
  fn_st (st := st 33) ⟨rfl, rfl, rfl, by decide +kernel, rfl, by decide +kernel, by decide +kernel⟩ (by kernel_rfl) (by kernel_rfl) (fun _ _ _ _ _ _ us hl => match us, hl with | [_], _ => rfl) X G a l c k
theorem mkare_sound {K : PySem.W.Frag} {mg : Str → Option Value} {h : Heap} (X : K.In h) (G : h.Ns mainGlobals mg) {f : Addr} {oc : Value} {od an : Option Addr} {osl : Array (Option Value)} {kV doc pm cdv ct : Value}
    (a : PySem.W.nsIn K mainGlobals "are_sound" = some (some (.ref f))) (l : K.lookup f = some ⟨oc, od, .func (PySem.W.fnOf "are_sound" "are_sound" (defArgs (st 34)) (defBody (st 34)) (defScope (st 34)) .none kV doc pm an cdv ct), osl⟩) (c : PySem.W.codeIn K cdv "are_sound" = true) (k : PySem.W.keepIn K (.ref f) = true) : FnSt T P sts K mg "are_sound" :=
  fn_st (st := st 34) ⟨rfl, rfl, rfl, by decide +kernel, rfl, by decide +kernel, by decide +kernel⟩ (by kernel_rfl) (by kernel_rfl) (fun _ _ _ _ _ _ us hl => match us, hl with | [_], _ => rfl) X G a l c k
theorem mkwindow_harm {K : PySem.W.Frag} {mg : Str → Option Value} {h : Heap} (X : K.In h) (G : h.Ns mainGlobals mg) {f : Addr} {oc : Value} {od an : Option Addr} {osl : Array (Option Value)} {kV doc pm cdv ct : Value}
    (a : PySem.W.nsIn K mainGlobals "window_harm" = some (some (.ref f))) (l : K.lookup f = some ⟨oc, od, .func (PySem.W.fnOf "window_harm" "window_harm" (defArgs (st 35)) (defBody (st 35)) (defScope (st 35)) .none kV doc pm an cdv ct), osl⟩) (c : PySem.W.codeIn K cdv "window_harm" = true) (k : PySem.W.keepIn K (.ref f) = true) : FnSt T P sts K mg "window_harm" :=
  fn_st (st := st 35) ⟨rfl, rfl, rfl, by decide +kernel, rfl, by decide +kernel, by decide +kernel⟩ (by kernel_rfl) (by kernel_rfl) (fun _ _ _ _ _ _ us hl => match us, hl with | [_], _ => rfl) X G a l c k
theorem mk_law_cup {K : PySem.W.Frag} {mg : Str → Option Value} {h : Heap} (X : K.In h) (G : h.Ns mainGlobals mg) {f : Addr} {oc : Value} {od an : Option Addr} {osl : Array (Option Value)} {kV doc pm cdv ct : Value}
    (a : PySem.W.nsIn K mainGlobals "_law_cup" = some (some (.ref f))) (l : K.lookup f = some ⟨oc, od, .func (PySem.W.fnOf "_law_cup" "_law_cup" (defArgs (st 37)) (defBody (st 37)) (defScope (st 37)) .none kV doc pm an cdv ct), osl⟩) (c : PySem.W.codeIn K cdv "_law_cup" = true) (k : PySem.W.keepIn K (.ref f) = true) : FnSt T P sts K mg "_law_cup" :=
  fn_st (st := st 37) ⟨rfl, rfl, rfl, by decide +kernel, rfl, by decide +kernel, by decide +kernel⟩ (by kernel_rfl) (by kernel_rfl) (fun _ _ _ _ _ _ us hl => match us, hl with | [_], _ => rfl) X G a l c k
theorem mk_law_roll {K : PySem.W.Frag} {mg : Str → Option Value} {h : Heap} (X : K.In h) (G : h.Ns mainGlobals mg) {f : Addr} {oc : Value} {od an : Option Addr} {osl : Array (Option Value)} {kV doc pm cdv ct : Value}
    (a : PySem.W.nsIn K mainGlobals "_law_roll" = some (some (.ref f))) (l : K.lookup f = some ⟨oc, od, .func (PySem.W.fnOf "_law_roll" "_law_roll" (defArgs (st 38)) (defBody (st 38)) (defScope (st 38)) .none kV doc pm an cdv ct), osl⟩) (c : PySem.W.codeIn K cdv "_law_roll" = true) (k : PySem.W.keepIn K (.ref f) = true) : FnSt T P sts K mg "_law_roll" :=
  fn_st (st := st 38) ⟨rfl, rfl, rfl, by decide +kernel, rfl, by decide +kernel, by decide +kernel⟩ (by kernel_rfl) (by kernel_rfl) (fun _ _ _ _ _ _ us hl => match us, hl with | [_, _], _ => rfl) X G a l c k
theorem mk_law_some {K : PySem.W.Frag} {mg : Str → Option Value} {h : Heap} (X : K.In h) (G : h.Ns mainGlobals mg) {f : Addr} {oc : Value} {od an : Option Addr} {osl : Array (Option Value)} {kV doc pm cdv ct : Value}
    (a : PySem.W.nsIn K mainGlobals "_law_some" = some (some (.ref f))) (l : K.lookup f = some ⟨oc, od, .func (PySem.W.fnOf "_law_some" "_law_some" (defArgs (st 39)) (defBody (st 39)) (defScope (st 39)) .none kV doc pm an cdv ct), osl⟩) (c : PySem.W.codeIn K cdv "_law_some" = true) (k : PySem.W.keepIn K (.ref f) = true) : FnSt T P sts K mg "_law_some" :=
  fn_st (st := st 39) ⟨rfl, rfl, rfl, by decide +kernel, rfl, by decide +kernel, by decide +kernel⟩ (by kernel_rfl) (by kernel_rfl) (fun _ _ _ _ _ _ us hl => match us, hl with | [_, _], _ => rfl) X G a l c k
theorem mk_law_walk {K : PySem.W.Frag} {mg : Str → Option Value} {h : Heap} (X : K.In h) (G : h.Ns mainGlobals mg) {f : Addr} {oc : Value} {od an : Option Addr} {osl : Array (Option Value)} {kV doc pm cdv ct : Value}
    (a : PySem.W.nsIn K mainGlobals "_law_walk" = some (some (.ref f))) (l : K.lookup f = some ⟨oc, od, .func (PySem.W.fnOf "_law_walk" "_law_walk" (defArgs (st 40)) (defBody (st 40)) (defScope (st 40)) .none kV doc pm an cdv ct), osl⟩) (c : PySem.W.codeIn K cdv "_law_walk" = true) (k : PySem.W.keepIn K (.ref f) = true) : FnSt T P sts K mg "_law_walk" :=
  fn_st (st := st 40) ⟨rfl, rfl, rfl, by decide +kernel, rfl, by decide +kernel, by decide +kernel⟩ (by kernel_rfl) (by kernel_rfl) (fun _ _ _ _ _ _ us hl => match us, hl with | [_, _, _], _ => rfl) X G a l c k
theorem mk_law_rested {K : PySem.W.Frag} {mg : Str → Option Value} {h : Heap} (X : K.In h) (G : h.Ns mainGlobals mg) {f : Addr} {oc : Value} {od an : Option Addr} {osl : Array (Option Value)} {kV doc pm cdv ct : Value}
    (a : PySem.W.nsIn K mainGlobals "_law_rested" = some (some (.ref f))) (l : K.lookup f = some ⟨oc, od, .func (PySem.W.fnOf "_law_rested" "_law_rested" (defArgs (st 41)) (defBody (st 41)) (defScope (st 41)) .none kV doc pm an cdv ct), osl⟩) (c : PySem.W.codeIn K cdv "_law_rested" = true) (k : PySem.W.keepIn K (.ref f) = true) : FnSt T P sts K mg "_law_rested" :=
  fn_st (st := st 41) ⟨rfl, rfl, rfl, by decide +kernel, rfl, by decide +kernel, by decide +kernel⟩ (by kernel_rfl) (by kernel_rfl) (fun _ _ _ _ _ _ us hl => match us, hl with | [_, _], _ => rfl) X G a l c k
theorem mk_law_right {K : PySem.W.Frag} {mg : Str → Option Value} {h : Heap} (X : K.In h) (G : h.Ns mainGlobals mg) {f : Addr} {oc : Value} {od an : Option Addr} {osl : Array (Option Value)} {kV doc pm cdv ct : Value}
    (a : PySem.W.nsIn K mainGlobals "_law_right" = some (some (.ref f))) (l : K.lookup f = some ⟨oc, od, .func (PySem.W.fnOf "_law_right" "_law_right" (defArgs (st 42)) (defBody (st 42)) (defScope (st 42)) .none kV doc pm an cdv ct), osl⟩) (c : PySem.W.codeIn K cdv "_law_right" = true) (k : PySem.W.keepIn K (.ref f) = true) : FnSt T P sts K mg "_law_right" :=
  fn_st (st := st 42) ⟨rfl, rfl, rfl, by decide +kernel, rfl, by decide +kernel, by decide +kernel⟩ (by kernel_rfl) (by kernel_rfl) (fun _ _ _ _ _ _ us hl => match us, hl with | [_, _], _ => rfl) X G a l c k
theorem mklaw {K : PySem.W.Frag} {mg : Str → Option Value} {h : Heap} (X : K.In h) (G : h.Ns mainGlobals mg) {f : Addr} {oc : Value} {od an : Option Addr} {osl : Array (Option Value)} {kV doc pm cdv ct : Value}
    (a : PySem.W.nsIn K mainGlobals "law" = some (some (.ref f))) (l : K.lookup f = some ⟨oc, od, .func (PySem.W.fnOf "law" "law" (defArgs (st 43)) (defBody (st 43)) (defScope (st 43)) .none kV doc pm an cdv ct), osl⟩) (c : PySem.W.codeIn K cdv "law" = true) (k : PySem.W.keepIn K (.ref f) = true) : FnSt T P sts K mg "law" :=
  fn_st (st := st 43) ⟨rfl, rfl, rfl, by decide +kernel, rfl, by decide +kernel, by decide +kernel⟩ (by kernel_rfl) (by kernel_rfl) (fun _ _ _ _ _ _ us hl => match us, hl with | [_], _ => rfl) X G a l c k
theorem all_mk {K : PySem.W.Frag} {mg : Str → Option Value} {h : Heap} (X : K.In h) (G : h.Ns mainGlobals mg)
    {f0 : Addr} {oc0 kV0 dc0 pm0 cd0 ct0 : Value} {od0 an0 : Option Addr} {sl0 : Array (Option Value)}
    {f1 : Addr} {oc1 kV1 dc1 pm1 cd1 ct1 : Value} {od1 an1 : Option Addr} {sl1 : Array (Option Value)}
    {f2 : Addr} {oc2 kV2 dc2 pm2 cd2 ct2 : Value} {od2 an2 : Option Addr} {sl2 : Array (Option Value)}
    {f3 : Addr} {oc3 kV3 dc3 pm3 cd3 ct3 : Value} {od3 an3 : Option Addr} {sl3 : Array (Option Value)}
    {f4 : Addr} {oc4 kV4 dc4 pm4 cd4 ct4 : Value} {od4 an4 : Option Addr} {sl4 : Array (Option Value)}
    {f5 : Addr} {oc5 kV5 dc5 pm5 cd5 ct5 : Value} {od5 an5 : Option Addr} {sl5 : Array (Option Value)}
    {f6 : Addr} {oc6 kV6 dc6 pm6 cd6 ct6 : Value} {od6 an6 : Option Addr} {sl6 : Array (Option Value)}
    {f7 : Addr} {oc7 kV7 dc7 pm7 cd7 ct7 : Value} {od7 an7 : Option Addr} {sl7 : Array (Option Value)}
    {f8 : Addr} {oc8 kV8 dc8 pm8 cd8 ct8 : Value} {od8 an8 : Option Addr} {sl8 : Array (Option Value)}
    {f9 : Addr} {oc9 kV9 dc9 pm9 cd9 ct9 : Value} {od9 an9 : Option Addr} {sl9 : Array (Option Value)}
    {f10 : Addr} {oc10 kV10 dc10 pm10 cd10 ct10 : Value} {od10 an10 : Option Addr} {sl10 : Array (Option Value)}
    {f11 : Addr} {oc11 kV11 dc11 pm11 cd11 ct11 : Value} {od11 an11 : Option Addr} {sl11 : Array (Option Value)}
    {f12 : Addr} {oc12 kV12 dc12 pm12 cd12 ct12 : Value} {od12 an12 : Option Addr} {sl12 : Array (Option Value)}
    {f13 : Addr} {oc13 kV13 dc13 pm13 cd13 ct13 : Value} {od13 an13 : Option Addr} {sl13 : Array (Option Value)}
    {f14 : Addr} {oc14 kV14 dc14 pm14 cd14 ct14 : Value} {od14 an14 : Option Addr} {sl14 : Array (Option Value)}
    {f15 : Addr} {oc15 kV15 dc15 pm15 cd15 ct15 : Value} {od15 an15 : Option Addr} {sl15 : Array (Option Value)}
    {f16 : Addr} {oc16 kV16 dc16 pm16 cd16 ct16 : Value} {od16 an16 : Option Addr} {sl16 : Array (Option Value)}
    {f17 : Addr} {oc17 kV17 dc17 pm17 cd17 ct17 : Value} {od17 an17 : Option Addr} {sl17 : Array (Option Value)}
    {f18 : Addr} {oc18 kV18 dc18 pm18 cd18 ct18 : Value} {od18 an18 : Option Addr} {sl18 : Array (Option Value)}
    {f19 : Addr} {oc19 kV19 dc19 pm19 cd19 ct19 : Value} {od19 an19 : Option Addr} {sl19 : Array (Option Value)}
    {f20 : Addr} {oc20 kV20 dc20 pm20 cd20 ct20 : Value} {od20 an20 : Option Addr} {sl20 : Array (Option Value)}
    {f21 : Addr} {oc21 kV21 dc21 pm21 cd21 ct21 : Value} {od21 an21 : Option Addr} {sl21 : Array (Option Value)}
    {f22 : Addr} {oc22 kV22 dc22 pm22 cd22 ct22 : Value} {od22 an22 : Option Addr} {sl22 : Array (Option Value)}
    {f23 : Addr} {oc23 kV23 dc23 pm23 cd23 ct23 : Value} {od23 an23 : Option Addr} {sl23 : Array (Option Value)}
    {f24 : Addr} {oc24 kV24 dc24 pm24 cd24 ct24 : Value} {od24 an24 : Option Addr} {sl24 : Array (Option Value)}
    {f25 : Addr} {oc25 kV25 dc25 pm25 cd25 ct25 : Value} {od25 an25 : Option Addr} {sl25 : Array (Option Value)}
    {f26 : Addr} {oc26 kV26 dc26 pm26 cd26 ct26 : Value} {od26 an26 : Option Addr} {sl26 : Array (Option Value)}
    {u0 : Value}
    {u1 : Value}
    {u2 : Value}
    {u3 : Value}
    {u4 : Value}
    {u5 : Value}
    {u6 : Value}
    {e0 : Addr}
    {e1 : Addr}
    {e2 : Addr}
    {e3 : Addr}
    (a0 : PySem.W.nsIn K mainGlobals "is_whole" = some (some (.ref f0)))
    (l0 : K.lookup f0 = some ⟨oc0, od0, .func (PySem.W.fnOf "is_whole" "is_whole" (defArgs (st 6)) (defBody (st 6)) (defScope (st 6)) .none kV0 dc0 pm0 an0 cd0 ct0), sl0⟩)
    (d0 : PySem.W.codeIn K cd0 "is_whole" = true)
    (k0 : PySem.W.keepIn K (.ref f0) = true)
    (a1 : PySem.W.nsIn K mainGlobals "is_row_of" = some (some (.ref f1)))
    (l1 : K.lookup f1 = some ⟨oc1, od1, .func (PySem.W.fnOf "is_row_of" "is_row_of" (defArgs (st 8)) (defBody (st 8)) (defScope (st 8)) .none kV1 dc1 pm1 an1 cd1 ct1), sl1⟩)
    (d1 : PySem.W.codeIn K cd1 "is_row_of" = true)
    (k1 : PySem.W.keepIn K (.ref f1) = true)
    (a2 : PySem.W.nsIn K mainGlobals "fits_sizes" = some (some (.ref f2)))
    (l2 : K.lookup f2 = some ⟨oc2, od2, .func (PySem.W.fnOf "fits_sizes" "fits_sizes" (defArgs (st 17)) (defBody (st 17)) (defScope (st 17)) .none kV2 dc2 pm2 an2 cd2 ct2), sl2⟩)
    (d2 : PySem.W.codeIn K cd2 "fits_sizes" = true)
    (k2 : PySem.W.keepIn K (.ref f2) = true)
    (a3 : PySem.W.nsIn K mainGlobals "need_sizes" = some (some (.ref f3)))
    (l3 : K.lookup f3 = some ⟨oc3, od3, .func (PySem.W.fnOf "need_sizes" "need_sizes" (defArgs (st 18)) (defBody (st 18)) (defScope (st 18)) .none kV3 dc3 pm3 an3 cd3 ct3), sl3⟩)
    (d3 : PySem.W.codeIn K cd3 "need_sizes" = true)
    (k3 : PySem.W.keepIn K (.ref f3) = true)
    (a4 : PySem.W.nsIn K mainGlobals "fits_window_event" = some (some (.ref f4)))
    (l4 : K.lookup f4 = some ⟨oc4, od4, .func (PySem.W.fnOf "fits_window_event" "fits_window_event" (defArgs (st 19)) (defBody (st 19)) (defScope (st 19)) .none kV4 dc4 pm4 an4 cd4 ct4), sl4⟩)
    (d4 : PySem.W.codeIn K cd4 "fits_window_event" = true)
    (k4 : PySem.W.keepIn K (.ref f4) = true)
    (a5 : PySem.W.nsIn K mainGlobals "bounded" = some (some (.ref f5)))
    (l5 : K.lookup f5 = some ⟨oc5, od5, .func (PySem.W.fnOf "bounded" "bounded" (defArgs (st 20)) (defBody (st 20)) (defScope (st 20)) .none kV5 dc5 pm5 an5 cd5 ct5), sl5⟩)
    (d5 : PySem.W.codeIn K cd5 "bounded" = true)
    (k5 : PySem.W.keepIn K (.ref f5) = true)
    (a6 : PySem.W.nsIn K mainGlobals "word_came" = some (some (.ref f6)))
    (l6 : K.lookup f6 = some ⟨oc6, od6, .func (PySem.W.fnOf "word_came" "word_came" (defArgs (st 21)) (defBody (st 21)) (defScope (st 21)) .none kV6 dc6 pm6 an6 cd6 ct6), sl6⟩)
    (d6 : PySem.W.codeIn K cd6 "word_came" = true)
    (k6 : PySem.W.keepIn K (.ref f6) = true)
    (a7 : PySem.W.nsIn K mainGlobals "answer_came" = some (some (.ref f7)))
    (l7 : K.lookup f7 = some ⟨oc7, od7, .func (PySem.W.fnOf "answer_came" "answer_came" (defArgs (st 22)) (defBody (st 22)) (defScope (st 22)) .none kV7 dc7 pm7 an7 cd7 ct7), sl7⟩)
    (d7 : PySem.W.codeIn K cd7 "answer_came" = true)
    (k7 : PySem.W.keepIn K (.ref f7) = true)
    (a8 : PySem.W.nsIn K mainGlobals "row_changed" = some (some (.ref f8)))
    (l8 : K.lookup f8 = some ⟨oc8, od8, .func (PySem.W.fnOf "row_changed" "row_changed" (defArgs (st 23)) (defBody (st 23)) (defScope (st 23)) .none kV8 dc8 pm8 an8 cd8 ct8), sl8⟩)
    (d8 : PySem.W.codeIn K cd8 "row_changed" = true)
    (k8 : PySem.W.keepIn K (.ref f8) = true)
    (a9 : PySem.W.nsIn K mainGlobals "done_on_line" = some (some (.ref f9)))
    (l9 : K.lookup f9 = some ⟨oc9, od9, .func (PySem.W.fnOf "done_on_line" "done_on_line" (defArgs (st 24)) (defBody (st 24)) (defScope (st 24)) .none kV9 dc9 pm9 an9 cd9 ct9), sl9⟩)
    (d9 : PySem.W.codeIn K cd9 "done_on_line" = true)
    (k9 : PySem.W.keepIn K (.ref f9) = true)
    (a10 : PySem.W.nsIn K mainGlobals "window_after" = some (some (.ref f10)))
    (l10 : K.lookup f10 = some ⟨oc10, od10, .func (PySem.W.fnOf "window_after" "window_after" (defArgs (st 25)) (defBody (st 25)) (defScope (st 25)) .none kV10 dc10 pm10 an10 cd10 ct10), sl10⟩)
    (d10 : PySem.W.codeIn K cd10 "window_after" = true)
    (k10 : PySem.W.keepIn K (.ref f10) = true)
    (a11 : PySem.W.nsIn K mainGlobals "fits_window_events" = some (some (.ref f11)))
    (l11 : K.lookup f11 = some ⟨oc11, od11, .func (PySem.W.fnOf "fits_window_events" "fits_window_events" (defArgs (st 26)) (defBody (st 26)) (defScope (st 26)) .none kV11 dc11 pm11 an11 cd11 ct11), sl11⟩)
    (d11 : PySem.W.codeIn K cd11 "fits_window_events" = true)
    (k11 : PySem.W.keepIn K (.ref f11) = true)
    (a12 : PySem.W.nsIn K mainGlobals "windows_ran" = some (some (.ref f12)))
    (l12 : K.lookup f12 = some ⟨oc12, od12, .func (PySem.W.fnOf "windows_ran" "windows_ran" (defArgs (st 27)) (defBody (st 27)) (defScope (st 27)) .none kV12 dc12 pm12 an12 cd12 ct12), sl12⟩)
    (d12 : PySem.W.codeIn K cd12 "windows_ran" = true)
    (k12 : PySem.W.keepIn K (.ref f12) = true)
    (a13 : PySem.W.nsIn K mainGlobals "need_ran" = some (some (.ref f13)))
    (l13 : K.lookup f13 = some ⟨oc13, od13, .func (PySem.W.fnOf "need_ran" "need_ran" (defArgs (st 28)) (defBody (st 28)) (defScope (st 28)) .none kV13 dc13 pm13 an13 cd13 ct13), sl13⟩)
    (d13 : PySem.W.codeIn K cd13 "need_ran" = true)
    (k13 : PySem.W.keepIn K (.ref f13) = true)
    (a14 : PySem.W.nsIn K mainGlobals "window_behind" = some (some (.ref f14)))
    (l14 : K.lookup f14 = some ⟨oc14, od14, .func (PySem.W.fnOf "window_behind" "window_behind" (defArgs (st 29)) (defBody (st 29)) (defScope (st 29)) .none kV14 dc14 pm14 an14 cd14 ct14), sl14⟩)
    (d14 : PySem.W.codeIn K cd14 "window_behind" = true)
    (k14 : PySem.W.keepIn K (.ref f14) = true)
    (a15 : PySem.W.nsIn K mainGlobals "window_events" = some (some (.ref f15)))
    (l15 : K.lookup f15 = some ⟨oc15, od15, .func (PySem.W.fnOf "window_events" "window_events" (defArgs (st 30)) (defBody (st 30)) (defScope (st 30)) .none kV15 dc15 pm15 an15 cd15 ct15), sl15⟩)
    (d15 : PySem.W.codeIn K cd15 "window_events" = true)
    (k15 : PySem.W.keepIn K (.ref f15) = true)
    (a16 : PySem.W.nsIn K mainGlobals "is_sound_by" = some (some (.ref f16)))
    (l16 : K.lookup f16 = some ⟨oc16, od16, .func (PySem.W.fnOf "is_sound_by" "is_sound_by" (defArgs (st 32)) (defBody (st 32)) (defScope (st 32)) .none kV16 dc16 pm16 an16 cd16 ct16), sl16⟩)
    (d16 : PySem.W.codeIn K cd16 "is_sound_by" = true)
    (k16 : PySem.W.keepIn K (.ref f16) = true)
    (a17 : PySem.W.nsIn K mainGlobals "harm_for" = some (some (.ref f17)))
    (l17 : K.lookup f17 = some ⟨oc17, od17, .func (PySem.W.fnOf "harm_for" "harm_for" (defArgs (st 33)) (defBody (st 33)) (defScope (st 33)) .none kV17 dc17 pm17 an17 cd17 ct17), sl17⟩)
    (d17 : PySem.W.codeIn K cd17 "harm_for" = true)
    (k17 : PySem.W.keepIn K (.ref f17) = true)
    (a18 : PySem.W.nsIn K mainGlobals "are_sound" = some (some (.ref f18)))
    (l18 : K.lookup f18 = some ⟨oc18, od18, .func (PySem.W.fnOf "are_sound" "are_sound" (defArgs (st 34)) (defBody (st 34)) (defScope (st 34)) .none kV18 dc18 pm18 an18 cd18 ct18), sl18⟩)
    (d18 : PySem.W.codeIn K cd18 "are_sound" = true)
    (k18 : PySem.W.keepIn K (.ref f18) = true)
    (a19 : PySem.W.nsIn K mainGlobals "window_harm" = some (some (.ref f19)))
    (l19 : K.lookup f19 = some ⟨oc19, od19, .func (PySem.W.fnOf "window_harm" "window_harm" (defArgs (st 35)) (defBody (st 35)) (defScope (st 35)) .none kV19 dc19 pm19 an19 cd19 ct19), sl19⟩)
    (d19 : PySem.W.codeIn K cd19 "window_harm" = true)
    (k19 : PySem.W.keepIn K (.ref f19) = true)
    (a20 : PySem.W.nsIn K mainGlobals "_law_cup" = some (some (.ref f20)))
    (l20 : K.lookup f20 = some ⟨oc20, od20, .func (PySem.W.fnOf "_law_cup" "_law_cup" (defArgs (st 37)) (defBody (st 37)) (defScope (st 37)) .none kV20 dc20 pm20 an20 cd20 ct20), sl20⟩)
    (d20 : PySem.W.codeIn K cd20 "_law_cup" = true)
    (k20 : PySem.W.keepIn K (.ref f20) = true)
    (a21 : PySem.W.nsIn K mainGlobals "_law_roll" = some (some (.ref f21)))
    (l21 : K.lookup f21 = some ⟨oc21, od21, .func (PySem.W.fnOf "_law_roll" "_law_roll" (defArgs (st 38)) (defBody (st 38)) (defScope (st 38)) .none kV21 dc21 pm21 an21 cd21 ct21), sl21⟩)
    (d21 : PySem.W.codeIn K cd21 "_law_roll" = true)
    (k21 : PySem.W.keepIn K (.ref f21) = true)
    (a22 : PySem.W.nsIn K mainGlobals "_law_some" = some (some (.ref f22)))
    (l22 : K.lookup f22 = some ⟨oc22, od22, .func (PySem.W.fnOf "_law_some" "_law_some" (defArgs (st 39)) (defBody (st 39)) (defScope (st 39)) .none kV22 dc22 pm22 an22 cd22 ct22), sl22⟩)
    (d22 : PySem.W.codeIn K cd22 "_law_some" = true)
    (k22 : PySem.W.keepIn K (.ref f22) = true)
    (a23 : PySem.W.nsIn K mainGlobals "_law_walk" = some (some (.ref f23)))
    (l23 : K.lookup f23 = some ⟨oc23, od23, .func (PySem.W.fnOf "_law_walk" "_law_walk" (defArgs (st 40)) (defBody (st 40)) (defScope (st 40)) .none kV23 dc23 pm23 an23 cd23 ct23), sl23⟩)
    (d23 : PySem.W.codeIn K cd23 "_law_walk" = true)
    (k23 : PySem.W.keepIn K (.ref f23) = true)
    (a24 : PySem.W.nsIn K mainGlobals "_law_rested" = some (some (.ref f24)))
    (l24 : K.lookup f24 = some ⟨oc24, od24, .func (PySem.W.fnOf "_law_rested" "_law_rested" (defArgs (st 41)) (defBody (st 41)) (defScope (st 41)) .none kV24 dc24 pm24 an24 cd24 ct24), sl24⟩)
    (d24 : PySem.W.codeIn K cd24 "_law_rested" = true)
    (k24 : PySem.W.keepIn K (.ref f24) = true)
    (a25 : PySem.W.nsIn K mainGlobals "_law_right" = some (some (.ref f25)))
    (l25 : K.lookup f25 = some ⟨oc25, od25, .func (PySem.W.fnOf "_law_right" "_law_right" (defArgs (st 42)) (defBody (st 42)) (defScope (st 42)) .none kV25 dc25 pm25 an25 cd25 ct25), sl25⟩)
    (d25 : PySem.W.codeIn K cd25 "_law_right" = true)
    (k25 : PySem.W.keepIn K (.ref f25) = true)
    (a26 : PySem.W.nsIn K mainGlobals "law" = some (some (.ref f26)))
    (l26 : K.lookup f26 = some ⟨oc26, od26, .func (PySem.W.fnOf "law" "law" (defArgs (st 43)) (defBody (st 43)) (defScope (st 43)) .none kV26 dc26 pm26 an26 cd26 ct26), sl26⟩)
    (d26 : PySem.W.codeIn K cd26 "law" = true)
    (k26 : PySem.W.keepIn K (.ref f26) = true)
    (ca0 : PySem.W.nsIn K mainGlobals "WIDEST" = some (some u0))
    (cr0 : readV K 40 u0 = some cWIDEST)
    (ca1 : PySem.W.nsIn K mainGlobals "WIDE" = some (some u1))
    (cr1 : readV K 40 u1 = some cWIDE)
    (ca2 : PySem.W.nsIn K mainGlobals "FARTHEST" = some (some u2))
    (cr2 : readV K 40 u2 = some cFARTHEST)
    (ca3 : PySem.W.nsIn K mainGlobals "ROOM" = some (some u3))
    (cr3 : readV K 40 u3 = some cROOM)
    (ca4 : PySem.W.nsIn K mainGlobals "LONG" = some (some u4))
    (cr4 : readV K 40 u4 = some cLONG)
    (ca5 : PySem.W.nsIn K mainGlobals "FIRST" = some (some u5))
    (cr5 : readV K 40 u5 = some cFIRST)
    (ca6 : PySem.W.nsIn K mainGlobals "ENDS" = some (some u6))
    (cr6 : readV K 40 u6 = some cENDS)
    (b0 : PySem.W.nsIn K mainGlobals "len" = some none)
    (b1 : PySem.W.nsIn K mainGlobals "all" = some none)
    (b2 : PySem.W.nsIn K mainGlobals "any" = some none)
    (b3 : PySem.W.nsIn K mainGlobals "tuple" = some none)
    (b4 : PySem.W.nsIn K mainGlobals "list" = some none)
    (b5 : PySem.W.nsIn K mainGlobals "sum" = some none)
    (b6 : PySem.W.nsIn K mainGlobals "max" = some none)
    (b7 : PySem.W.nsIn K mainGlobals "min" = some none)
    (b8 : PySem.W.nsIn K mainGlobals "int" = some none)
    (b9 : PySem.W.nsIn K mainGlobals "str" = some none)
    (b10 : PySem.W.nsIn K mainGlobals "bool" = some none)
    (b11 : PySem.W.nsIn K mainGlobals "ord" = some none)
    (b12 : PySem.W.nsIn K mainGlobals "abs" = some none)
    (b13 : PySem.W.nsIn K mainGlobals "sorted" = some none)
    (b14 : PySem.W.nsIn K mainGlobals "set" = some none)
    (b15 : PySem.W.nsIn K mainGlobals "dict" = some none)
    (b16 : PySem.W.nsIn K mainGlobals "range" = some none)
    (b17 : PySem.W.nsIn K mainGlobals "zip" = some none)
    (b18 : PySem.W.nsIn K mainGlobals "enumerate" = some none)
    (b19 : PySem.W.nsIn K mainGlobals "isinstance" = some none)
    (ea0 : PySem.W.nsIn K mainGlobals "HeardError" = some (some (.ref e0)))
    (ex0 : xcOf K P.excs (Ev.code "HeardError") = some e0)
    (ee0 : PySem.W.excIn K e0 [.type "ValueError", .type "Exception", .type "BaseException", .type "object"] "ValueError.__new__" = true)
    (ek0 : PySem.W.keepIn K (.ref e0) = true)
    (es0 : PySem.W.subIn K (.ref e0) (.type "BaseException") = some true)
    (et0 : PySem.W.typeIn K (.ref e0) = some (.type "type"))
    (ea1 : PySem.W.nsIn K mainGlobals "InvalidEvents" = some (some (.ref e1)))
    (ex1 : xcOf K P.excs (Ev.code "InvalidEvents") = some e1)
    (ee1 : PySem.W.excIn K e1 [.type "ValueError", .type "Exception", .type "BaseException", .type "object"] "ValueError.__new__" = true)
    (ek1 : PySem.W.keepIn K (.ref e1) = true)
    (es1 : PySem.W.subIn K (.ref e1) (.type "BaseException") = some true)
    (et1 : PySem.W.typeIn K (.ref e1) = some (.type "type"))
    (ea2 : PySem.W.nsIn K mainGlobals "CannotHappen" = some (some (.ref e2)))
    (ex2 : xcOf K P.excs (Ev.code "CannotHappen") = some e2)
    (ee2 : PySem.W.excIn K e2 [.type "ValueError", .type "Exception", .type "BaseException", .type "object"] "ValueError.__new__" = true)
    (ek2 : PySem.W.keepIn K (.ref e2) = true)
    (es2 : PySem.W.subIn K (.ref e2) (.type "BaseException") = some true)
    (et2 : PySem.W.typeIn K (.ref e2) = some (.type "type"))
    (ea3 : PySem.W.nsIn K mainGlobals "InvalidSizes" = some (some (.ref e3)))
    (ex3 : xcOf K P.excs (Ev.code "InvalidSizes") = some e3)
    (ee3 : PySem.W.excIn K e3 [.type "ValueError", .type "Exception", .type "BaseException", .type "object"] "ValueError.__new__" = true)
    (ek3 : PySem.W.keepIn K (.ref e3) = true)
    (es3 : PySem.W.subIn K (.ref e3) (.type "BaseException") = some true)
    (et3 : PySem.W.typeIn K (.ref e3) = some (.type "type")) :
    ∃ XC : Nat → Option Addr, Stat P T C XC sts K mg :=
  ⟨xcOf K P.excs, stat_of (Ev.all_cons (mkis_whole X G a0 l0 d0 k0) (Ev.all_cons (mkis_row_of X G a1 l1 d1 k1) (Ev.all_cons (mkfits_sizes X G a2 l2 d2 k2) (Ev.all_cons (mkneed_sizes X G a3 l3 d3 k3) (Ev.all_cons (mkfits_window_event X G a4 l4 d4 k4) (Ev.all_cons (mkbounded X G a5 l5 d5 k5) (Ev.all_cons (mkword_came X G a6 l6 d6 k6) (Ev.all_cons (mkanswer_came X G a7 l7 d7 k7) (Ev.all_cons (mkrow_changed X G a8 l8 d8 k8) (Ev.all_cons (mkdone_on_line X G a9 l9 d9 k9) (Ev.all_cons (mkwindow_after X G a10 l10 d10 k10) (Ev.all_cons (mkfits_window_events X G a11 l11 d11 k11) (Ev.all_cons (mkwindows_ran X G a12 l12 d12 k12) (Ev.all_cons (mkneed_ran X G a13 l13 d13 k13) (Ev.all_cons (mkwindow_behind X G a14 l14 d14 k14) (Ev.all_cons (mkwindow_events X G a15 l15 d15 k15) (Ev.all_cons (mkis_sound_by X G a16 l16 d16 k16) (Ev.all_cons (mkharm_for X G a17 l17 d17 k17) (Ev.all_cons (mkare_sound X G a18 l18 d18 k18) (Ev.all_cons (mkwindow_harm X G a19 l19 d19 k19) (Ev.all_cons (mk_law_cup X G a20 l20 d20 k20) (Ev.all_cons (mk_law_roll X G a21 l21 d21 k21) (Ev.all_cons (mk_law_some X G a22 l22 d22 k22) (Ev.all_cons (mk_law_walk X G a23 l23 d23 k23) (Ev.all_cons (mk_law_rested X G a24 l24 d24 k24) (Ev.all_cons (mk_law_right X G a25 l25 d25 k25) (Ev.all_cons (mklaw X G a26 l26 d26 k26) (Ev.all_nil))))))))))))))))))))))))))))
    (Ev.all_cons (cs_st X G (by kernel_rfl) ca0 cr0) (Ev.all_cons (cs_st X G (by kernel_rfl) ca1 cr1) (Ev.all_cons (cs_st X G (by kernel_rfl) ca2 cr2) (Ev.all_cons (cs_st X G (by kernel_rfl) ca3 cr3) (Ev.all_cons (cs_st X G (by kernel_rfl) ca4 cr4) (Ev.all_cons (cs_st X G (by kernel_rfl) ca5 cr5) (Ev.all_cons (cs_st X G (by kernel_rfl) ca6 cr6) (Ev.all_nil))))))))
    (Ev.all_cons (PySem.W.mg_none_of X G b0) (Ev.all_cons (PySem.W.mg_none_of X G b1) (Ev.all_cons (PySem.W.mg_none_of X G b2) (Ev.all_cons (PySem.W.mg_none_of X G b3) (Ev.all_cons (PySem.W.mg_none_of X G b4) (Ev.all_cons (PySem.W.mg_none_of X G b5) (Ev.all_cons (PySem.W.mg_none_of X G b6) (Ev.all_cons (PySem.W.mg_none_of X G b7) (Ev.all_cons (PySem.W.mg_none_of X G b8) (Ev.all_cons (PySem.W.mg_none_of X G b9) (Ev.all_cons (PySem.W.mg_none_of X G b10) (Ev.all_cons (PySem.W.mg_none_of X G b11) (Ev.all_cons (PySem.W.mg_none_of X G b12) (Ev.all_cons (PySem.W.mg_none_of X G b13) (Ev.all_cons (PySem.W.mg_none_of X G b14) (Ev.all_cons (PySem.W.mg_none_of X G b15) (Ev.all_cons (PySem.W.mg_none_of X G b16) (Ev.all_cons (PySem.W.mg_none_of X G b17) (Ev.all_cons (PySem.W.mg_none_of X G b18) (Ev.all_cons (PySem.W.mg_none_of X G b19) (Ev.all_nil)))))))))))))))))))))
    (Ev.all_cons (ex_st X G ea0 ex0 ee0 ek0 es0 et0) (Ev.all_cons (ex_st X G ea1 ex1 ee1 ek1 es1 et1) (Ev.all_cons (ex_st X G ea2 ex2 ee2 ek2 es2 et2) (Ev.all_cons (ex_st X G ea3 ex3 ee3 ek3 es3 et3) (Ev.all_nil)))))⟩
end L24
end

section
set_option autoImplicit false
set_option linter.all false
set_option maxRecDepth 100000
set_option maxHeartbeats 1000000
namespace L24
open Ev
theorem T_bounded : T 434854128333540 = some fbounded := rfl
theorem T_answer_came : T 115540312196147159004901 = some fanswer_came := rfl
theorem T_row_changed : T 135619867830818145170148 = some frow_changed := rfl
@[simp] theorem C_FARTHEST : C 39695209961974228 = some (.d (.int 80)) := rfl
@[simp] theorem C_ROOM : C 173270989 = some (.d (.int 12)) := rfl
structure W where
  base : Int
  given : Int
  place : Int
  kept : List Int
  there : List Int
  back : List Int
  harmed : Bool
deriving DecidableEq
def rowD (xs : List Int) : D := .tup (xs.map D.int)
def stD (s : W) : D := .tup [.int s.base, .int s.given, .int s.place, rowD s.kept, rowD s.there, rowD s.back, .bool s.harmed]
def bd (s : W) : Option W := if 12 < s.there.length ∨ 12 < s.back.length then none else if maxL s.base (s.given :: s.place :: s.kept) ≤ 80 then some s else none
def optD : Option W → D
  | none => .none
  | some s => stD s
@[simp] theorem intsOf_ints (xs : List Int) : intsOf (xs.map D.int) = some xs := by
  induction xs with
  | nil => rfl
  | cons x xs ih => simp [intsOf, ih]
theorem cast_lt {a : Nat} : ((12 : Int) < (a : Int)) ↔ 12 < a := by omega
@[simp] theorem bounded_eq (k : Nat) (s : W) (h : Hh) (hk : s.kept.length ≤ 100) : Ev.call T C (k + 1) 434854128333540 [.d (stD s)] h = .ok (.d (optD (bd s))) h := by
  rw [rn_call T_bounded rfl]
  have e3 : s.kept.length + 3 ≤ 16777216 ∧ 3 + s.kept.length ≤ 16777216 := by omega
  simp [fbounded, stD, rowD, Ev.start, T.store, Ts.stores, allD, maxOf, intsOf, bd, cast_lt]
  by_cases h1 : 12 < s.there.length
  · simp [h1, optD]
  · by_cases h2 : 12 < s.back.length
    · simp [h1, h2, optD]
    · by_cases h3 : maxL s.base (s.given :: s.place :: s.kept) ≤ 80
      · simp [h1, h2, h3, optD, stD, rowD, e3, LIM, maxOf, intsOf]
      · simp [h1, h2, h3, optD, e3, LIM, maxOf, intsOf]
def sz (r g t : Int) : D := .tup [.int r, .int g, .int t, .bool false]
/-- an answer comes in -/
def ans (r : Int) (s : W) (b : Int) (bs : List Int) : W :=
  let own := s.base + (b - s.base) % r
  if s.base < own ∧ own ≤ s.given then { s with base := own, back := bs, harmed := s.harmed || !(own == b) } else { s with back := bs }
@[simp] theorem cut_tail {α : Type} (x : α) (xs : List α) : cut (x :: xs) (some 1) none = xs := by
  simp [cut, bound]
@[simp] theorem answer_came_eq (k : Nat) (r g t : Int) (s : W) (b : Int) (bs : List Int) (h : Hh) (hr : 0 < r) (hb : s.back = b :: bs) : Ev.call T C (k + 1) 115540312196147159004901 [.d (sz r g t), .d (stD s)] h = .ok (.d (stD (ans r s b bs))) h := by
  rw [rn_call T_answer_came rfl]
  simp [fanswer_came, stD, rowD, sz, Ev.start, T.store, Ts.stores, allD, hb, place, rn_mod_int _ _ _ hr, ans, LIM]
  by_cases h1 : s.base < s.base + (b - s.base) % r
  · by_cases h2 : s.base + (b - s.base) % r ≤ s.given
    · cases hh : s.harmed <;> simp [h1, h2, hh, allD, LIM, place]
    · simp [h1, h2, allD, LIM]
  · simp [h1, allD, LIM]
theorem T_word_came : T 8637845974329882341 = some fword_came := rfl
/-- the next place that is not kept -/
def adv : Nat → List Int → Int → Int
  | 0, _, p => p
  | n + 1, kept, p => if p ∈ kept then adv n kept (p + 1) else p
def msr (kept : List Int) (p : Int) : Nat := (kept.filter fun x => decide (p ≤ x)).length
theorem filt_le (kept : List Int) (p : Int) : msr kept (p + 1) ≤ msr kept p := by
  unfold msr
  induction kept with
  | nil => simp
  | cons y ys ih =>
    simp only [List.filter_cons]
    by_cases h1 : p + 1 ≤ y
    · have h2 : p ≤ y := by omega
      simp only [h1, h2, decide_true, if_true, List.length_cons]
      omega
    · by_cases h2 : p ≤ y
      · simp only [h1, h2, decide_true, decide_false, if_true, Bool.false_eq_true, if_false, List.length_cons]
        omega
      · simp only [h1, h2, decide_false, Bool.false_eq_true, if_false]
        exact ih
theorem msr_lt {kept : List Int} {p : Int} (h : p ∈ kept) : msr kept (p + 1) < msr kept p := by
  induction kept with
  | nil => cases h
  | cons x xs ih =>
    have hle := filt_le xs p
    unfold msr at ih hle ⊢
    simp only [List.filter_cons]
    by_cases hx : p = x
    · subst hx
      have h1 : ¬ (p + 1 ≤ p) := by omega
      simp only [h1, decide_false, Bool.false_eq_true, if_false, Int.le_refl, decide_true, if_true, List.length_cons]
      omega
    · have hm : p ∈ xs := by simpa [hx] using h
      have := ih hm
      by_cases h1 : p + 1 ≤ x
      · have h2 : p ≤ x := by omega
        simp only [h1, h2, decide_true, if_true, List.length_cons]
        omega
      · have h2 : ¬ p ≤ x := by omega
        simp only [h1, h2, decide_false, Bool.false_eq_true, if_false]
        exact this
@[simp] theorem any_ints (xs : List Int) (p : Int) : (xs.map D.int).any (fun y => D.eqv y (.int p)) = decide (p ∈ xs) := by
  induction xs with
  | nil => simp
  | cons x xs ih =>
    simp only [List.map_cons, List.any_cons, ih, rn_eqv_int, List.mem_cons, Bool.decide_or]
    congr 1
    rw [Bool.eq_iff_iff]
    simp only [beq_iff_eq, decide_eq_true_eq]
    exact eq_comm
@[simp] theorem any_ints2 (xs : List Int) (p : Int) : xs.any ((fun y => D.eqv y (.int p)) ∘ D.int) = decide (p ∈ xs) := by
  rw [← List.any_map]
  exact any_ints xs p
theorem while_adv (F : Fns) (e0 e1 e2 e3 e6 e7 e8 e9 e10 e11 : Option PV) (kept : List Int) (h : Hh) : ∀ (n : Nat) (p : Int), msr kept p < n →
    whileGo (fun env => M.bnd (evE F (.cmp .isin (.var 4) (.var 5)) env) fun x => M.lift fun h => truthy h x) (evSs F (.cons (.set 4 (.bin .add (.var 4) (.lit (.int (1))))) .nil)) n [e0, e1, e2, e3, some (.d (.int p)), some (.d (rowD kept)), e6, e7, e8, e9, e10, e11] h
      = .ok (.nxt [e0, e1, e2, e3, some (.d (.int (adv n kept p))), some (.d (rowD kept)), e6, e7, e8, e9, e10, e11]) h
  | 0, _, hn => absurd hn (Nat.not_lt_zero _)
  | n + 1, p, hn => by
    rw [whileGo, rn_bnd_ap]
    have ht : M.bnd (evE F (.cmp .isin (.var 4) (.var 5)) [e0, e1, e2, e3, some (.d (.int p)), some (.d (rowD kept)), e6, e7, e8, e9, e10, e11]) (fun x => M.lift fun h => truthy h x) h = .ok (decide (p ∈ kept)) h := by
      simp [rowD]
    rw [ht, rn_bd_ok]
    by_cases hp : p ∈ kept
    · have ih := while_adv F e0 e1 e2 e3 e6 e7 e8 e9 e10 e11 kept h n (p + 1) (by have := msr_lt hp; omega)
      simp only [hp, decide_true, if_true, rn_bnd_ap, adv]
      have hb : evSs F (.cons (.set 4 (.bin .add (.var 4) (.lit (.int (1))))) .nil) [e0, e1, e2, e3, some (.d (.int p)), some (.d (rowD kept)), e6, e7, e8, e9, e10, e11] h = .ok (.nxt [e0, e1, e2, e3, some (.d (.int (p + 1))), some (.d (rowD kept)), e6, e7, e8, e9, e10, e11]) h := by
        simp
      rw [hb]
      exact ih
    · simp only [hp, decide_false, Bool.false_eq_true, if_false, adv]
      rfl
def kept1 (t own : Int) (s : W) : Bool := decide (own < s.place + t) && !decide (own ∈ s.kept)
/-- a word comes in -/
def wrd (r t : Int) (s : W) (i : Int) (is : List Int) : W :=
  let own := s.place + (i - s.place) % r
  let kept := if kept1 t own s then (s.kept ++ [own]).mergeSort (fun a b => decide (a ≤ b)) else s.kept
  let p := adv turnsMost kept s.place
  { base := s.base, given := s.given, place := p, kept := kept.filter (fun x => decide (p < x)), there := is, back := s.back ++ [p], harmed := if kept1 t own s then s.harmed || !(own == i) else s.harmed }
theorem msr_len (kept : List Int) (p : Int) : msr kept p ≤ kept.length := List.length_filter_le _ _
theorem lc_kept (F : Fns) (e0 e1 e2 e3 e5 e6 e7 e8 e9 e10 e11 : Option PV) (kept : List Int) (p : Int) (h : Hh) (hl : kept.length ≤ LIM) :
    lcGo (lcE F (.var 11) (.cons (.cmp .gt (.var 11) (.var 4)) .nil)) (Ev.T.store (.nm 11)) (wipe [e0, e1, e2, e3, some (.d (.int p)), e5, e6, e7, e8, e9, e10, e11] [11]) ((kept.map D.int).map PV.d) [] h = .ok (.d (.list ((kept.filter fun x => decide (p < x)).map D.int))) h := by
  rw [rn_lcGo (fun d => match d with
    | .int x => if p < x then some (.int x) else none
    | _ => none)]
  · congr 3
    rw [List.nil_append, List.filterMap_map]
    induction kept with
    | nil => rfl
    | cons x xs ih =>
      simp only [List.filterMap_cons, Function.comp, List.filter_cons]
      have ih := ih (by simp at hl; omega)
      by_cases hx : p < x
      · simp only [hx, if_true, decide_true, List.map_cons]
        rw [← ih]
      · simp only [hx, if_false, decide_false, Bool.false_eq_true]
        exact ih
  · intro x hx
    obtain ⟨i, _, rfl⟩ := List.mem_map.mp hx
    refine ⟨_, rfl, ?_⟩
    by_cases hq : p < i <;> simp [hq, lcE, wipe]
  · simpa using hl
theorem store_seven (e0 e1 : Option PV) (a b c : D) (d e f g : D) :
    Ev.T.store (.tp (.cons (.nm 2) (.cons (.nm 3) (.cons (.nm 4) (.cons (.nm 5) (.cons (.nm 6) (.cons (.nm 7) (.cons (.nm 8) .nil)))))))) (.d (.tup [a, b, c, d, e, f, g])) [e0, e1, none, none, none, none, none, none, none, none, none, none] =
      some [e0, e1, some (.d a), some (.d b), some (.d c), some (.d d), some (.d e), some (.d f), some (.d g), none, none, none] := by
  simp [Ev.T.store, Ts.stores]
def wtail : Ss := (.cons (.while_ (.cmp .isin (.var 4) (.var 5)) (.cons (.set 4 (.bin .add (.var 4) (.lit (.int (1))))) .nil)) (.cons (.ret (.tup (.cons (.var 2) (.cons (.var 3) (.cons (.var 4) (.cons (.bl .tuple (.cons (.lc (.var 11) (.nm 11) [11] (.seq (.var 5)) (.cons (.cmp .gt (.var 11) (.var 4)) .nil)) .nil)) (.cons (.sl (.var 6) (.some (.lit (.int (1)))) .no) (.cons (.bin .add (.var 7) (.tup (.cons (.var 4) .nil))) (.cons (.var 8) .nil))))))))) .nil))
theorem fword_eq : fword_came = ⟨2, 12, (.cons (.sett (.tp (.cons (.nm 2) (.cons (.nm 3) (.cons (.nm 4) (.cons (.nm 5) (.cons (.nm 6) (.cons (.nm 7) (.cons (.nm 8) .nil)))))))) (.var 1)) (.cons (.set 9 (.ix (.var 6) (.lit (.int (0))))) (.cons (.set 10 (.bin .add (.var 4) (.bin .mod (.bin .sub (.var 9) (.var 4)) (.ix (.var 0) (.lit (.int (0))))))) (.cons (.ifs (.and (.cmp .lt (.var 10) (.bin .add (.var 4) (.ix (.var 0) (.lit (.int (2)))))) (.cmp .notin (.var 10) (.var 5))) (.cons (.par2 5 8 (.cons (.bl .tuple (.cons (.bl .sorted (.cons (.bin .add (.var 5) (.tup (.cons (.var 10) .nil))) .nil)) .nil)) (.cons (.or (.var 8) (.cmp .ne (.var 10) (.var 9))) .nil))) .nil) .nil) wtail))))⟩ := rfl
@[simp] theorem word_came_eq (k : Nat) (r g t : Int) (s : W) (i : Int) (is : List Int) (h : Hh) (hr : 0 < r) (hi : s.there = i :: is) (hk : s.kept.length ≤ 100) (hb : s.back.length ≤ 100) : Ev.call T C (k + 1) 8637845974329882341 [.d (sz r g t), .d (stD s)] h = .ok (.d (stD (wrd r t s i is))) h := by
  rw [rn_call T_word_came rfl]
  have hl : s.kept.length + 1 ≤ 16777216 := by omega
  have hl2 : s.back.length + 1 ≤ 16777216 := by omega
  have tail : ∀ (e0 e1 e9 e10 : Option PV) (kept : List Int) (hd : Bool), kept.length ≤ 101 →
      R.bd (evSs ⟨Ev.call T C k, C⟩ wtail
        [e0, e1, some (.d (.int s.base)), some (.d (.int s.given)), some (.d (.int s.place)), some (.d (rowD kept)), some (.d (rowD (i :: is))), some (.d (rowD s.back)), some (.d (.bool hd)), e9, e10, none] h) defK
      = .ok (.d (stD { base := s.base, given := s.given, place := adv turnsMost kept s.place, kept := kept.filter (fun x => decide (adv turnsMost kept s.place < x)), there := is, back := s.back ++ [adv turnsMost kept s.place], harmed := hd })) h := by
    intro e0 e1 e9 e10 kept hd hkl
    rw [wtail, rn_ss_cons, rn_while, while_adv _ _ _ _ _ _ _ _ _ _ _ kept h turnsMost s.place (by have := msr_len kept s.place; unfold turnsMost; omega)]
    generalize hp : adv turnsMost kept s.place = p
    have lk := lc_kept ⟨Ev.call T C k, C⟩ e0 e1 (some (.d (.int s.base))) (some (.d (.int s.given))) (some (.d (rowD kept))) (some (.d (rowD (i :: is)))) (some (.d (rowD s.back))) (some (.d (.bool hd))) e9 e10 none kept p h (by unfold LIM; omega)
    simp only [rowD, List.map_map, List.map_cons] at lk
    simp [rowD, allD, LIM, hl2, stD, lk]
  have srt : sortable (s.kept.map D.int ++ [D.int (s.place + (i - s.place) % r)]) = true := by
    have := sortable_ints (s.kept ++ [s.place + (i - s.place) % r])
    simpa using this
  have srd : sortD (s.kept.map D.int ++ [D.int (s.place + (i - s.place) % r)]) = ((s.kept ++ [s.place + (i - s.place) % r]).mergeSort fun a b => decide (a ≤ b)).map D.int := by
    have := sort_ints (s.kept ++ [s.place + (i - s.place) % r])
    simpa using this
  by_cases h1 : s.place + (i - s.place) % r < s.place + t
  · by_cases h2 : s.place + (i - s.place) % r ∈ s.kept
    · have hq : kept1 t (s.place + (i - s.place) % r) s = false := by simp [kept1, h2]
      rw [fword_eq]
      simp [stD, rowD, sz, Ev.start, Ev.T.store, Ts.stores, hi, place, rn_mod_int _ _ _ hr, h1, h2]
      have := tail (some (.d (sz r g t))) (some (.d (stD s))) (some (.d (.int i))) (some (.d (.int (s.place + (i - s.place) % r)))) s.kept s.harmed (by omega)
      simp [stD, rowD, sz, hi] at this
      rw [this]
      simp [wrd, hq, stD, rowD]
    · have hq : kept1 t (s.place + (i - s.place) % r) s = true := by simp [kept1, h1, h2]
      have hlm : ((s.kept ++ [s.place + (i - s.place) % r]).mergeSort fun a b => decide (a ≤ b)).length ≤ 101 := by
        rw [List.length_mergeSort, List.length_append, List.length_singleton]; omega
      rw [fword_eq]
      simp [stD, rowD, sz, Ev.start, Ev.T.store, Ts.stores, hi, place, rn_mod_int _ _ _ hr, h1, h2, allD, LIM, hl, srt, srd]
      cases hh : s.harmed with
      | true =>
        have := tail (some (.d (sz r g t))) (some (.d (stD s))) (some (.d (.int i))) (some (.d (.int (s.place + (i - s.place) % r)))) ((s.kept ++ [s.place + (i - s.place) % r]).mergeSort fun a b => decide (a ≤ b)) true hlm
        simp [stD, rowD, sz, hi, hh] at this
        simp
        rw [this]
        simp [wrd, hq, stD, rowD, hh]
      | false =>
        have := tail (some (.d (sz r g t))) (some (.d (stD s))) (some (.d (.int i))) (some (.d (.int (s.place + (i - s.place) % r)))) ((s.kept ++ [s.place + (i - s.place) % r]).mergeSort fun a b => decide (a ≤ b)) (!(s.place + (i - s.place) % r == i)) hlm
        simp [stD, rowD, sz, hi, hh] at this
        simp
        rw [this]
        simp [wrd, hq, stD, rowD, hh]
  · have hq : kept1 t (s.place + (i - s.place) % r) s = false := by simp [kept1, h1]
    rw [fword_eq]
    simp [stD, rowD, sz, Ev.start, Ev.T.store, Ts.stores, hi, place, rn_mod_int _ _ _ hr, h1]
    have := tail (some (.d (sz r g t))) (some (.d (stD s))) (some (.d (.int i))) (some (.d (.int (s.place + (i - s.place) % r)))) s.kept s.harmed (by omega)
    simp [stD, rowD, sz, hi] at this
    rw [this]
    simp [wrd, hq, stD, rowD]
end L24
end

section
set_option autoImplicit false
set_option linter.all false
set_option maxRecDepth 100000
set_option maxHeartbeats 1000000
namespace L24
open Ev
@[simp] theorem cut_take {α : Type} (xs : List α) (n : Nat) : cut xs none (some (n : Int)) = xs.take n := by
  have h0 : (0 : Int) ≤ n := by omega
  simp only [cut, bound, h0, if_true, List.drop_zero, Nat.sub_zero, Int.toNat_natCast]
  by_cases h : n ≤ xs.length
  · rw [Nat.min_eq_left h]
  · rw [Nat.min_eq_right (by omega), List.take_length, List.take_of_length_le (by omega)]
@[simp] theorem cut_drop {α : Type} (xs : List α) (n : Nat) : cut xs (some (n : Int)) none = xs.drop n := by
  have h0 : (0 : Int) ≤ n := by omega
  simp only [cut, bound, h0, if_true, Int.toNat_natCast]
  by_cases h : n ≤ xs.length
  · rw [Nat.min_eq_left h, List.take_of_length_le (by rw [List.length_drop]; omega)]
  · rw [Nat.min_eq_right (by omega), List.drop_of_length_le (by omega : xs.length ≤ n), List.drop_length]
    simp
@[simp] theorem cut_drop1 {α : Type} (xs : List α) (n : Nat) : cut xs (some ((n : Int) + 1)) none = xs.drop (n + 1) := by
  have := cut_drop xs (n + 1)
  simpa using this
@[simp] theorem place_nat (n m : Nat) : place m (n : Int) = if n < m then some n else none := by
  have h0 : (0 : Int) ≤ n := by omega
  simp [place, h0]
def sLose : List Nat := [108, 111, 115, 101]
def sDouble : List Nat := [100, 111, 117, 98, 108, 101]
def sTurn : List Nat := [116, 117, 114, 110]
def rowc (w : List Nat) (row : List Int) (at' : Nat) : Option (List Int) :=
  if row.length ≤ at' then none else if w = sLose then some (row.take at' ++ row.drop (at' + 1)) else if w = sDouble then some (row.take at' ++ (row[at']?).toList ++ row.drop at') else none
def optRow : Option (List Int) → D
  | none => .none
  | some r => rowD r
theorem T_row_changed' : T 135619867830818145170148 = some frow_changed := rfl
theorem row_changed_eq (k : Nat) (r g t : Int) (row : List Int) (w : List Nat) (n : Nat) (h : Hh) (hl : row.length ≤ 1000) : Ev.call T C (k + 1) 135619867830818145170148 [.d (sz r g t), .d (rowD row), .d (.str w), .d (.int n)] h = .ok (.d (optRow (rowc w row n))) h := by
  rw [rn_call T_row_changed' rfl]
  by_cases h1 : row.length ≤ n
  · have h1' : (row.length : Int) ≤ (n : Int) := by omega
    simp [frow_changed, rowD, sz, Ev.start, rowc, h1, h1', optRow]
  · have h1' : ¬ (row.length : Int) ≤ (n : Int) := by omega
    have hn : n < row.length := by omega
    have e1 : min n row.length + (row.length - (n + 1)) ≤ 16777216 := by omega
    have e2 : min n row.length + 1 ≤ 16777216 := by omega
    have e3 : min n row.length + 1 + (row.length - n) ≤ 16777216 := by omega
    by_cases h2 : w = sLose
    · subst h2
      simp [frow_changed, rowD, sz, Ev.start, rowc, h1, h1', optRow, sLose, LIM, e1]
    · have h2' : ¬ w = [108, 111, 115, 101] := h2
      by_cases h3 : w = sDouble
      · subst h3
        simp [frow_changed, rowD, sz, Ev.start, rowc, h1, h1', optRow, sDouble, sLose, LIM, e2, e3, hn, allD]
        rw [List.take_add_one]
        simp [hn]
      · have h3' : ¬ w = [100, 111, 117, 98, 108, 101] := h3
        simp [frow_changed, rowD, sz, Ev.start, rowc, h1, h1', optRow, h2, h3, h2', h3', place]
theorem T_done_on_line : T 15243640317795783233140581 = some fdone_on_line := rfl
theorem T_window_after : T 18107755526640497772540658 = some fwindow_after := rfl
@[simp] theorem C_ENDS : C 145990227 = some (.d (.tup [.str [116, 104, 101, 114, 101], .str [98, 97, 99, 107]])) := rfl
/-- the two ends: true: there -/
def sEnd (b : Bool) : D := .str (if b then [116, 104, 101, 114, 101] else [98, 97, 99, 107])
inductive Evn where
  | give | word | answer | again (i : Int) | line (w : List Nat) (b : Bool) (n : Nat)
deriving DecidableEq
def evD : Evn → D
  | .give => .tup [.str [103, 105, 118, 101]]
  | .word => .tup [.str [119, 111, 114, 100]]
  | .answer => .tup [.str [97, 110, 115, 119, 101, 114]]
  | .again i => .tup [.str [97, 103, 97, 105, 110], .int i]
  | .line w b n => .tup [.str w, sEnd b, .int n]
def lineAft (s : W) (w : List Nat) (b : Bool) (n : Nat) : Option W := if b then (rowc w s.there n).bind fun r => bd { s with there := r } else (rowc w s.back n).bind fun r => bd { s with back := r }
theorem done_on_line_eq (k : Nat) (r g t : Int) (s : W) (w : List Nat) (b : Bool) (n : Nat) (h : Hh) (h1 : s.there.length ≤ 1000) (h2 : s.back.length ≤ 1000) (hk : s.kept.length ≤ 100) : Ev.call T C (k + 2) 15243640317795783233140581 [.d (sz r g t), .d (stD s), .d (evD (.line w b n))] h = .ok (.d (optD (lineAft s w b n))) h := by
  rw [rn_call T_done_on_line rfl]
  cases b with
  | true =>
    have q := row_changed_eq k r g t s.there w n h h1
    simp only [rowD] at q
    cases e : rowc w s.there n with
    | none =>
      simp [e, optRow] at q
      simp [fdone_on_line, stD, rowD, Ev.start, evD, sEnd, tupOf, methT, one, indexL, place, q, lineAft, e, optD, isC, isNone, List.findIdx?, List.findIdx?.go]
    | some row =>
      simp [e, optRow, rowD] at q
      have q2 := bounded_eq k { s with there := row } h hk
      simp [stD, rowD] at q2
      simp [fdone_on_line, stD, rowD, Ev.start, evD, sEnd, tupOf, methT, one, indexL, place, q, lineAft, e, isC, isNone, List.findIdx?, List.findIdx?.go, cut, bound, allD, LIM, q2]
  | false =>
    have q := row_changed_eq k r g t s.back w n h h2
    simp only [rowD] at q
    cases e : rowc w s.back n with
    | none =>
      simp [e, optRow] at q
      simp [fdone_on_line, stD, rowD, Ev.start, evD, sEnd, tupOf, methT, one, indexL, place, q, lineAft, e, optD, isC, isNone, List.findIdx?, List.findIdx?.go]
    | some row =>
      simp [e, optRow, rowD] at q
      have q2 := bounded_eq k { s with back := row } h hk
      simp [stD, rowD] at q2
      simp [fdone_on_line, stD, rowD, Ev.start, evD, sEnd, tupOf, methT, one, indexL, place, q, lineAft, e, isC, isNone, List.findIdx?, List.findIdx?.go, cut, bound, allD, LIM, q2]
/-- a state behind an event -/
def aft (r g t : Int) (s : W) : Evn → Option W
  | .give => if s.given < s.base + g then bd { s with given := s.given + 1, there := s.there ++ [s.given] } else none
  | .again i => if s.base ≤ i ∧ i < s.given then bd { s with there := s.there ++ [i] } else none
  | .word => match s.there with
    | [] => none
    | i :: is => bd (wrd r t s i is)
  | .answer => match s.back with
    | [] => none
    | b :: bs => bd (ans r s b bs)
  | .line w b n => lineAft s w b n
def plainW : List Nat → Prop := fun w => w = sLose ∨ w = sDouble ∨ w = sTurn
def fitE : Evn → Prop
  | .line w _ _ => plainW w
  | _ => True
/-- of a size that is served -/
def okW (s : W) : Prop := s.there.length ≤ 90 ∧ s.back.length ≤ 90 ∧ s.kept.length ≤ 90
theorem wrd_kept (r t : Int) (s : W) (i : Int) (is : List Int) : (wrd r t s i is).kept.length ≤ s.kept.length + 1 := by
  unfold wrd
  refine Nat.le_trans (List.length_filter_le _ _) ?_
  split
  · rw [List.length_mergeSort, List.length_append, List.length_singleton]
    exact Nat.le_refl _
  · exact Nat.le_succ _
theorem near_tup_nil (a : D) : near a (.tup []) = true := by
  unfold near
  rw [Bool.or_eq_true]
  exact .inr (by simp [D.shal, D.shals])
theorem window_after_eq (k : Nat) (r g t : Int) (s : W) (e : Evn) (h : Hh) (hr : 0 < r) (hs : okW s) (he : fitE e) : Ev.call T C (k + 3) 18107755526640497772540658 [.d (sz r g t), .d (stD s), .d (evD e)] h = .ok (.d (optD (aft r g t s e))) h := by
  obtain ⟨h1, h2, h3⟩ := hs
  have l1 : s.there.length + 1 ≤ 16777216 := by omega
  rw [rn_call T_window_after rfl]
  cases e with
  | give =>
    have q := bounded_eq (k + 1) { s with given := s.given + 1, there := s.there ++ [s.given] } h (by simp; omega)
    simp [stD, rowD] at q
    by_cases hc : s.given < s.base + g
    · simp [fwindow_after, stD, rowD, sz, evD, Ev.start, Ev.T.store, Ts.stores, place, allD, LIM, l1, aft, hc, q]
    · simp [fwindow_after, stD, rowD, sz, evD, Ev.start, Ev.T.store, Ts.stores, place, allD, LIM, l1, aft, hc, optD]
  | again i =>
    have q := bounded_eq (k + 1) { s with there := s.there ++ [i] } h (by simp; omega)
    simp [stD, rowD] at q
    by_cases hc : s.base ≤ i
    · by_cases hd : i < s.given
      · simp [fwindow_after, stD, rowD, sz, evD, Ev.start, Ev.T.store, Ts.stores, place, allD, LIM, l1, aft, hc, hd, q]
      · simp [fwindow_after, stD, rowD, sz, evD, Ev.start, Ev.T.store, Ts.stores, place, allD, LIM, l1, aft, hc, hd, optD]
    · simp [fwindow_after, stD, rowD, sz, evD, Ev.start, Ev.T.store, Ts.stores, place, allD, LIM, l1, aft, hc, optD]
  | word =>
    cases hth : s.there with
    | nil => simp [fwindow_after, stD, rowD, sz, evD, Ev.start, Ev.T.store, Ts.stores, place, allD, LIM, aft, hth, optD, near_tup_nil, D.eqv, D.eqvs]
    | cons i is =>
      have q := word_came_eq (k + 1) r g t s i is h hr hth (by omega) (by omega)
      have q2 := bounded_eq (k + 1) (wrd r t s i is) h (by have := wrd_kept r t s i is; omega)
      simp [stD, rowD, sz, hth] at q q2
      simp [fwindow_after, stD, rowD, sz, evD, Ev.start, Ev.T.store, Ts.stores, place, allD, LIM, aft, hth, near_tup_nil, D.eqv, D.eqvs, q, q2]
  | answer =>
    cases hbk : s.back with
    | nil => simp [fwindow_after, stD, rowD, sz, evD, Ev.start, Ev.T.store, Ts.stores, place, allD, LIM, aft, hbk, optD, near_tup_nil, D.eqv, D.eqvs]
    | cons b bs =>
      have q := answer_came_eq (k + 1) r g t s b bs h hr hbk
      have q2 := bounded_eq (k + 1) (ans r s b bs) h (by unfold ans; simp only; split <;> (simp only; omega))
      simp [stD, rowD, sz, hbk] at q q2
      simp [fwindow_after, stD, rowD, sz, evD, Ev.start, Ev.T.store, Ts.stores, place, allD, LIM, aft, hbk, near_tup_nil, D.eqv, D.eqvs, q, q2]
  | line w b n =>
    have q := done_on_line_eq k r g t s w b n h (by omega) (by omega) (by omega)
    simp [stD, rowD, sz, evD] at q
    rcases he with rfl | rfl | rfl
    · simp [sLose] at q
      simp [fwindow_after, stD, rowD, sz, evD, Ev.start, Ev.T.store, Ts.stores, place, allD, LIM, aft, q, sLose]
    · simp [sDouble] at q
      simp [fwindow_after, stD, rowD, sz, evD, Ev.start, Ev.T.store, Ts.stores, place, allD, LIM, aft, q, sDouble]
    · simp [sTurn] at q
      simp [fwindow_after, stD, rowD, sz, evD, Ev.start, Ev.T.store, Ts.stores, place, allD, LIM, aft, q, sTurn]
end L24
end

section
set_option autoImplicit false
set_option linter.all false
set_option maxRecDepth 100000
set_option maxHeartbeats 1000000
namespace L24
open Ev
@[simp] theorem C_WIDEST : C 3009036773844 = some (.d (.int 16)) := rfl
@[simp] theorem C_WIDE : C 183657029 = some (.d (.int 8)) := rfl
@[simp] theorem C_LONG : C 160687943 = some (.d (.int 200)) := rfl
theorem T_is_whole : T 59618816796915301 = some fis_whole := rfl
theorem T_is_row_of : T 7631208380102080486 = some fis_row_of := rfl
theorem T_fits_sizes : T 948415806398382650099 = some ffits_sizes := rfl
theorem T_need_sizes : T 1021906042097070158579 = some fneed_sizes := rfl
theorem T_fits_window_event : T 533910634036609924530123023975020404 = some ffits_window_event := rfl
theorem T_fits_window_events : T 68340561156686070339855747068802611827 = some ffits_window_events := rfl
theorem T_windows_ran : T 141466840051884253556974 = some fwindows_ran := rfl
theorem T_need_ran : T 62372194952196334 = some fneed_ran := rfl
theorem T_window_behind : T 2317792707409983748951406436 = some fwindow_behind := rfl
@[simp] theorem is_whole_int (k : Nat) (v lo hi : Int) (h : Hh) : Ev.call T C (k + 1) 59618816796915301 [.d (.int v), .d (.int lo), .d (.int hi)] h = .ok (.d (.bool (decide (lo ≤ v) && decide (v ≤ hi)))) h := by
  rw [rn_call T_is_whole rfl]
  simp [fis_whole, Ev.start, isTyD]
  by_cases h1 : lo ≤ v <;> simp [h1]
@[simp] theorem is_row_of_tup (k : Nat) (xs : List D) (lo hi : Int) (h : Hh) : Ev.call T C (k + 1) 7631208380102080486 [.d (.tup xs), .d (.int lo), .d (.int hi)] h = .ok (.d (.bool (decide (lo ≤ (xs.length : Int)) && decide ((xs.length : Int) ≤ hi)))) h := by
  rw [rn_call T_is_row_of rfl]
  simp [fis_row_of, Ev.start, isTyD]
  by_cases h1 : lo ≤ (xs.length : Int) <;> simp [h1]
def szOk (r g t : Int) : Prop := (1 ≤ r ∧ r ≤ 16) ∧ (1 ≤ g ∧ g ≤ 8) ∧ 1 ≤ t ∧ t ≤ 8
theorem fits_sizes_ok (k : Nat) (r g t : Int) (h : Hh) (hs : szOk r g t) : Ev.call T C (k + 2) 948415806398382650099 [.d (sz r g t)] h = .ok (.d (.bool true)) h := by
  obtain ⟨h1, h2, h3⟩ := hs
  rw [rn_call T_fits_sizes rfl]
  simp [ffits_sizes, sz, Ev.start, isTyD, place, h1, h2, h3]
theorem need_sizes_ok (k : Nat) (r g t : Int) (h : Hh) (hs : szOk r g t) : Ev.call T C (k + 3) 1021906042097070158579 [.d (sz r g t)] h = .ok (.d .none) h := by
  rw [rn_call T_need_sizes rfl]
  simp [fneed_sizes, Ev.start, fits_sizes_ok k r g t h hs]
def fitB : Evn → Prop
  | .again i => 0 ≤ i ∧ i ≤ 80
  | .line w _ n => plainW w ∧ n ≤ 11
  | _ => True
theorem fitB_E {e : Evn} (h : fitB e) : fitE e := by
  cases e <;> first | trivial | exact h.1
theorem fits_event (k : Nat) (e : Evn) (h : Hh) (he : fitB e) : Ev.call T C (k + 2) 533910634036609924530123023975020404 [.d (evD e)] h = .ok (.d (.bool true)) h := by
  rw [rn_call T_fits_window_event rfl]
  cases e with
  | give => simp [ffits_window_event, evD, Ev.start, isTyD, place, allD, LIM]
  | word => simp [ffits_window_event, evD, Ev.start, isTyD, place, allD, LIM]
  | answer => simp [ffits_window_event, evD, Ev.start, isTyD, place, allD, LIM]
  | again i => simp [ffits_window_event, evD, Ev.start, isTyD, place, allD, LIM, he.1, he.2]
  | line w b n =>
    have hn : (n : Int) ≤ 11 := by have := he.2; omega
    rcases he.1 with rfl | rfl | rfl <;> cases b <;> simp [ffits_window_event, evD, Ev.start, isTyD, place, allD, LIM, sEnd, sLose, sDouble, sTurn, hn]
def evsD (es : List Evn) : D := .tup (es.map evD)
theorem fits_events (k : Nat) (es : List Evn) (h : Hh) (he : ∀ e ∈ es, fitB e) (hl : es.length ≤ 200) : Ev.call T C (k + 3) 68340561156686070339855747068802611827 [.d (evsD es), .d (.int 200)] h = .ok (.d (.bool true)) h := by
  rw [rn_call T_fits_window_events rfl]
  have hl' : (es.length : Int) ≤ 200 := by omega
  have lc := rn_lcGo (elt := lcE ⟨Ev.call T C (k + 2), C⟩ (.call 533910634036609924530123023975020404 (.cons (.var 2) .nil)) .nil) (st := Ev.T.store (.nm 2)) (env := wipe [some (.d (evsD es)), some (.d (.int 200)), none] [2]) (h := h) (fun _ => some (.bool true)) (es.map evD) [] (fun x hx => by
    obtain ⟨e, hm, rfl⟩ := List.mem_map.mp hx
    refine ⟨_, rfl, ?_⟩
    simp [lcE, wipe, fits_event k e h (he e hm)]) (by simp; unfold LIM; omega)
  have hb : ∀ n : List Evn, boolsOf ((n.map evD).filterMap fun _ => some (D.bool true)) = some (n.map fun _ => true) := fun n => by
    induction n with
    | nil => rfl
    | cons a n ih => simp only [List.map_cons, List.filterMap_cons, boolsOf, ih]; rfl
  have it : evIt ⟨Ev.call T C (k + 2), C⟩ (.seq (.var 0)) [some (.d (evsD es)), some (.d (.int 200)), none] h = .ok (.its ((es.map evD).map PV.d)) h := by
    simp [evsD]
  simp only [evsD, List.map_map] at lc
  simp [ffits_window_events, Ev.start, evsD, hl', lc]
  have hb := hb es
  simp only [List.filterMap_map] at hb
  simp [hb]
@[simp] theorem C_FIRST : C 18944928212 = some (.d (.tup [.int 0, .int 0, .int 0, .tup [], .tup [], .tup [], .bool false])) := rfl
def W0 : W := ⟨0, 0, 0, [], [], [], false⟩
theorem W0_D : stD W0 = .tup [.int 0, .int 0, .int 0, .tup [], .tup [], .tup [], .bool false] := rfl
/-- a run -/
def ran (r g t : Int) : W → List Evn → Option W
  | s, [] => some s
  | s, e :: es => match aft r g t s e with
    | none => none
    | some s' => ran r g t s' es
theorem bd_some {s s' : W} (h : bd s = some s') : s' = s ∧ s.there.length ≤ 12 ∧ s.back.length ≤ 12 ∧ maxL s.base (s.given :: s.place :: s.kept) ≤ 80 := by
  unfold bd at h
  split at h
  · cases h
  · rename_i hn
    split at h
    · cases h
      exact ⟨rfl, by omega, by omega, ‹_›⟩
    · cases h
theorem ans_kept (r : Int) (s : W) (b : Int) (bs : List Int) : (ans r s b bs).kept = s.kept := by
  unfold ans
  simp only
  split <;> rfl
/-- behind an event the lines are short and at most one more is kept -/
theorem aft_len {r g t : Int} {s s' : W} {e : Evn} (h : aft r g t s e = some s') : s'.there.length ≤ 12 ∧ s'.back.length ≤ 12 ∧ s'.kept.length ≤ s.kept.length + 1 := by
  cases e with
  | give =>
    simp only [aft] at h
    split at h
    · obtain ⟨rfl, h1, h2, _⟩ := bd_some h
      exact ⟨h1, h2, Nat.le_succ _⟩
    · cases h
  | again i =>
    simp only [aft] at h
    split at h
    · obtain ⟨rfl, h1, h2, _⟩ := bd_some h
      exact ⟨h1, h2, Nat.le_succ _⟩
    · cases h
  | word =>
    simp only [aft] at h
    split at h
    · cases h
    · rename_i i is hth
      obtain ⟨rfl, h1, h2, _⟩ := bd_some h
      exact ⟨h1, h2, wrd_kept r t s i is⟩
  | answer =>
    simp only [aft] at h
    split at h
    · cases h
    · rename_i b bs hbk
      obtain ⟨rfl, h1, h2, _⟩ := bd_some h
      exact ⟨h1, h2, by rw [ans_kept]; omega⟩
  | line w b n =>
    simp only [aft, lineAft] at h
    split at h
    · obtain ⟨row, _, h⟩ := Option.bind_eq_some_iff.mp h
      obtain ⟨rfl, h1, h2, _⟩ := bd_some h
      exact ⟨h1, h2, Nat.le_succ _⟩
    · obtain ⟨row, _, h⟩ := Option.bind_eq_some_iff.mp h
      obtain ⟨rfl, h1, h2, _⟩ := bd_some h
      exact ⟨h1, h2, Nat.le_succ _⟩
theorem ran_loop (k : Nat) (r g t : Int) (hr : 0 < r) (h : Hh) (v1 : Option PV) : ∀ (es : List Evn) (s : W) (v3 : Option PV), (∀ e ∈ es, fitB e) → s.there.length ≤ 12 → s.back.length ≤ 12 → s.kept.length + es.length ≤ 88 →
    ∃ v3', forGo (evSs ⟨Ev.call T C (k + 3), C⟩ (.cons (.set 2 (.call 18107755526640497772540658 (.cons (.var 0) (.cons (.var 2) (.cons (.var 3) .nil))))) (.cons (.ifs (.isc false (.var 2) .none) (.cons (.ret (.lit .none)) .nil) .nil) .nil))) (Ev.T.store (.nm 3)) (es.map fun e => PV.d (evD e)) [some (.d (sz r g t)), v1, some (.d (stD s)), v3] h
      = match ran r g t s es with
        | some s' => .ok (.nxt [some (.d (sz r g t)), v1, some (.d (stD s')), v3']) h
        | none => .ok (.ret (.d .none)) h
  | [], s, v3, _, _, _, _ => ⟨v3, by simp [ran, rn_forGo_nil]⟩
  | e :: es, s, v3, he, h1, h2, h3 => by
    have q := window_after_eq k r g t s e h hr ⟨by omega, by omega, by simp at h3; omega⟩ (fitB_E (he e (by simp)))
    have body : evSs ⟨Ev.call T C (k + 3), C⟩ (.cons (.set 2 (.call 18107755526640497772540658 (.cons (.var 0) (.cons (.var 2) (.cons (.var 3) .nil))))) (.cons (.ifs (.isc false (.var 2) .none) (.cons (.ret (.lit .none)) .nil) .nil) .nil)) [some (.d (sz r g t)), v1, some (.d (stD s)), some (.d (evD e))] h
        = match aft r g t s e with
          | some s' => .ok (.nxt [some (.d (sz r g t)), v1, some (.d (stD s')), some (.d (evD e))]) h
          | none => .ok (.ret (.d .none)) h := by
      cases ea : aft r g t s e with
      | none => simp [q, ea, optD, isC, isNone]
      | some s' =>
        have hn : isNone (.d (stD s')) = false := rfl
        simp [q, ea, optD, isC, hn]
    have st : Ev.T.store (.nm 3) (.d (evD e)) [some (.d (sz r g t)), v1, some (.d (stD s)), v3] = some [some (.d (sz r g t)), v1, some (.d (stD s)), some (.d (evD e))] := rfl
    rw [List.map_cons, rn_forGo_cons _ _ _ _ _ _ st, body]
    cases ea : aft r g t s e with
    | none => exact ⟨none, by simp [ran, ea]⟩
    | some s' =>
      obtain ⟨q1, q2, q3⟩ := aft_len ea
      obtain ⟨v3', ih⟩ := ran_loop k r g t hr h v1 es s' (some (.d (evD e))) (fun x hx => he x (by simp [hx])) q1 q2 (by simp at h3; omega)
      refine ⟨v3', ?_⟩
      simp only [rn_bd_ok, ran, ea]
      exact ih
theorem windows_ran_eq (k : Nat) (r g t : Int) (es : List Evn) (h : Hh) (hr : 0 < r) (he : ∀ e ∈ es, fitB e) (hl : es.length ≤ 88) : Ev.call T C (k + 4) 141466840051884253556974 [.d (sz r g t), .d (evsD es)] h = .ok (.d (optD (ran r g t W0 es))) h := by
  rw [rn_call T_windows_ran rfl]
  obtain ⟨v3', q⟩ := ran_loop k r g t hr h (some (.d (evsD es))) es W0 none he (by simp [W0]) (by simp [W0]) (by simp [W0]; omega)
  rw [W0_D] at q
  have it : (es.map evD).map PV.d = es.map fun e => PV.d (evD e) := by rw [List.map_map]; rfl
  have ev : evIt ⟨Ev.call T C (k + 3), C⟩ (.seq (.var 1)) [some (.d (sz r g t)), some (.d (evsD es)), some (.d (.tup [.int 0, .int 0, .int 0, .tup [], .tup [], .tup [], .bool false])), none] h = .ok (.its (es.map fun e => PV.d (evD e))) h := by
    rw [← it]; simp [evsD]
  have st : Ev.start 4 [.d (sz r g t), .d (evsD es)] = [some (.d (sz r g t)), some (.d (evsD es)), none, none] := rfl
  simp only [fwindows_ran, st, rn_ss_cons, rn_s_set, rn_e_cst, C_FIRST, rn_opt_some, rn_bd_ok, rn_flK_nxt, List.set_cons_succ, List.set_cons_zero, rn_for, ev]
  rw [q]
  cases er : ran r g t W0 es with
  | none => simp [optD]
  | some s' => simp [optD]
end L24
end

section
set_option autoImplicit false
set_option linter.all false
set_option maxRecDepth 100000
set_option maxHeartbeats 1000000
namespace L24
open Ev
theorem need_ran_eq (k : Nat) (r g t : Int) (es : List Evn) (h : Hh) (hr : 0 < r) (he : ∀ e ∈ es, fitB e) (hl : es.length ≤ 88) {s : W} (hs : ran r g t W0 es = some s) : Ev.call T C (k + 5) 62372194952196334 [.d (sz r g t), .d (evsD es)] h = .ok (.d (stD s)) h := by
  rw [rn_call T_need_ran rfl]
  have hn : isNone (.d (stD s)) = false := rfl
  simp [fneed_ran, Ev.start, fits_events (k + 1) es h he (by omega), windows_ran_eq k r g t es h hr he hl, hs, optD, isC, hn]
theorem window_behind_eq (k : Nat) (r g t : Int) (es : List Evn) (h : Hh) (hz : szOk r g t) (he : ∀ e ∈ es, fitB e) (hl : es.length ≤ 88) {s : W} (hs : ran r g t W0 es = some s) : Ev.call T C (k + 6) 2317792707409983748951406436 [.d (sz r g t), .d (evsD es)] h = .ok (.d (stD s)) h := by
  rw [rn_call T_window_behind rfl]
  simp [fwindow_behind, Ev.start, need_sizes_ok (k + 2) r g t h hz, need_ran_eq k r g t es h (by have := hz.1.1; omega) he hl hs]
end L24
end

section
set_option autoImplicit false
set_option linter.all false
set_option maxRecDepth 100000
set_option maxHeartbeats 1000000
namespace L24
open Ev
theorem T_cup : T 53958599637531376 = some f_law_cup := rfl
theorem T_roll : T 6906700753635374700 = some f_law_roll := rfl
/-- the store: the cup alone -/
def cup (a b : Int) : Hh := [.lst [.d (.int a), .d (.int b)]]
theorem big_const (j : Int) (h1 : -(2 ^ 64) < j) (h2 : j < 2 ^ 64) : bigInt j = true := by
  unfold bigInt
  rw [Bool.and_eq_true]
  exact ⟨decide_eq_true h1, decide_eq_true h2⟩
theorem roll_eq (k : Nat) (a b n : Int) (hn : 0 < n) (hn2 : n < 1073741824) (ha : 0 ≤ a) : ∃ v a' b', Ev.call T C (k + 1) 6906700753635374700 [.ref 0, .d (.int n)] (cup a b) = .ok (.d (.int v)) (cup a' b') ∧ 0 ≤ v ∧ v < n ∧ 0 ≤ a' := by
  rw [rn_call T_roll rfl]
  have ix : ∀ (a b : Int) (i : Int), indexOp [Cell.lst [PV.d (.int a), PV.d (.int b)]] (.ref 0) (.d (.int i)) = (place 2 i).bind fun j => [PV.d (.int a), PV.d (.int b)][j]? := fun a b i => rn_ix_ref (xs := [PV.d (.int a), PV.d (.int b)]) _ i rfl
  by_cases h0 : 0 < a
  · refine ⟨a % n, a / n, b, ?_, Int.emod_nonneg _ (by omega), Int.emod_lt_of_pos _ hn, Int.ediv_nonneg ha (by omega)⟩
    simp [f_law_roll, cup, Ev.start, ix, place, h0, rn_mod_int _ _ _ hn, rn_fdiv_int _ _ _ hn hn2, setCell]
  · have e0 : a = 0 := by omega
    subst e0
    refine ⟨(((b * 30671 + 7919) % 2147483549 * ((b * 30671 + 7919) % 2147483549 + 131)) % 2147483587 / 709) % n, 0, (b * 30671 + 7919) % 2147483549, ?_, Int.emod_nonneg _ (by omega), Int.emod_lt_of_pos _ hn, Int.le_refl _⟩
    have hb1 : 0 ≤ (b * 30671 + 7919) % 2147483549 := Int.emod_nonneg _ (by omega)
    have hb2 : (b * 30671 + 7919) % 2147483549 < 2147483549 := Int.emod_lt_of_pos _ (by omega)
    have m1 : ∀ h, binop h .mul (.d (.int b)) (.d (.int 30671)) = some (.d (.int (b * 30671))) := fun h => rn_mul_big h _ _ (.inr (by decide))
    have m2 : ∀ h, binop h .mul (.d (.int ((b * 30671 + 7919) % 2147483549))) (.d (.int ((b * 30671 + 7919) % 2147483549 + 131))) = some (.d (.int ((b * 30671 + 7919) % 2147483549 * ((b * 30671 + 7919) % 2147483549 + 131)))) := fun h => rn_mul_big h _ _ (.inl (big_const _ (by omega) (by omega)))
    have d1 : ∀ h i, binop h .mod (.d (.int i)) (.d (.int 2147483549)) = some (.d (.int (i % 2147483549))) := fun h i => rn_mod_int h _ _ (by decide)
    have d2 : ∀ h i, binop h .mod (.d (.int i)) (.d (.int 2147483587)) = some (.d (.int (i % 2147483587))) := fun h i => rn_mod_int h _ _ (by decide)
    have d3 : ∀ h i, binop h .fdiv (.d (.int i)) (.d (.int 709)) = some (.d (.int (i / 709))) := fun h i => rn_fdiv_int h _ _ (by decide) (by decide)
    have d4 : ∀ h i, binop h .mod (.d (.int i)) (.d (.int n)) = some (.d (.int (i % n))) := fun h i => rn_mod_int h _ _ hn
    simp [f_law_roll, cup, Ev.start, ix, place, m1, m2, d1, d2, d3, d4, setCell]
theorem cup_eq (k : Nat) (ns : List Int) (hns : ns.length ≤ 63) : ∃ a b, Ev.call T C (k + 1) 53958599637531376 [.scr (ns.map D.int)] [] = .ok (.ref 0) (cup a b) ∧ 0 ≤ a := by
  rw [rn_call T_cup rfl]
  have m1 : ∀ h (i : Int), binop h .mul (.d (.int i)) (.d (.int 193)) = some (.d (.int (i * 193))) := fun h i => rn_mul_big h _ _ (.inr (by decide))
  have d1 : ∀ h i, binop h .mod (.d (.int i)) (.d (.int 2077504273)) = some (.d (.int (i % 2077504273))) := fun h i => rn_mod_int h _ _ (by decide)
  have d2 : ∀ h i, binop h .fdiv (.d (.int i)) (.d (.int 11)) = some (.d (.int (i / 11))) := fun h i => rn_fdiv_int h _ _ (by decide) (by decide)
  have pw : ∀ h, binop h .pow (.d (.int 10)) (.d (.int 18)) = some (.d (.int (10 ^ 18))) := fun h => by rfl
  have fin : ∀ (x : Int), (∃ ix : Hh → Option PV, (∀ h, indexOp h (.d (.list (ns.map D.int ++ [D.int 0]))) (.d (.int 0)) = some (.d (.int x)))) → ∃ a b, R.bd (evSs ⟨Ev.call T C k, C⟩ f_law_cup.body (Ev.start f_law_cup.ns [.scr (ns.map D.int)]) []) defK = .ok (.ref 0) (cup a b) ∧ 0 ≤ a := by
    rintro x ⟨_, hx⟩
    have hl : ns.length ≤ 16777215 := by omega
    have y0 : 0 ≤ (if x < 0 then -x else x) := by split <;> omega
    generalize hy : (if x < 0 then -x else x) = y at y0
    by_cases h1 : (10 : Int) ^ 18 ≤ y
    · refine ⟨y / 11, (y * 193 + 1201) % 2077504273 + 89, ?_, Int.ediv_nonneg y0 (by decide)⟩
      have h1' : (1000000000000000000 : Int) ≤ y := h1
      have hx2 : ∀ h, indexOp h (.d (.list (ns.map D.int ++ [D.int 0]))) (.d (.int 0)) = some (.d (.int x)) := hx
      simp [f_law_cup, Ev.start, allD, LIM, m1, d1, d2, pw, hl, hy, h1', cup, -rn_ix_list, hx2]
    · refine ⟨0, (y * 193 + 1201) % 2077504273 + 89, ?_, Int.le_refl _⟩
      have h1' : ¬ (1000000000000000000 : Int) ≤ y := h1
      simp [f_law_cup, Ev.start, allD, LIM, m1, d1, d2, pw, hl, hy, h1', cup, -rn_ix_list, hx]
  cases ns with
  | nil => exact fin 0 ⟨fun _ => none, fun h => by simp [place]⟩
  | cons n ns => exact fin n ⟨fun _ => none, fun h => by simp [place]⟩
end L24
end

section
set_option autoImplicit false
set_option linter.all false
set_option maxRecDepth 100000
set_option maxHeartbeats 1000000
namespace L24
open Ev
theorem T_window_events : T 2317792707409983856587815539 = some fwindow_events := rfl
def evL : Evn → D × List D
  | .give => (.str [103, 105, 118, 101], [])
  | .word => (.str [119, 111, 114, 100], [])
  | .answer => (.str [97, 110, 115, 119, 101, 114], [])
  | .again i => (.str [97, 103, 97, 105, 110], [.int i])
  | .line w b n => (.str w, [sEnd b, .int n])
theorem evD_L (e : Evn) : evD e = .tup ((evL e).1 :: (evL e).2) := by cases e <;> rfl
theorem wl_nil (x y : D) (xs : List D) (h : D.like x y = true) : D.wlikes [x] (y :: xs) = true := by
  rw [D.wlikes, h]; cases D.eqv x y <;> simp [D.wlikes]
theorem wl_nil2 (x y : D) (xs : List D) (h : D.like x y = true) : D.wlikes (x :: xs) [y] = true := by
  rw [D.wlikes, h]; cases D.eqv x y <;> cases xs <;> simp [D.wlikes]
theorem wl_ne (x y : D) (xs ys : List D) (h : D.like x y = true) (hn : D.eqv x y = false) : D.wlikes (x :: xs) (y :: ys) = true := by
  rw [D.wlikes, h, hn]; rfl
theorem wl_cons (x y : D) (xs ys : List D) (h : D.like x y = true) (hw : D.wlikes xs ys = true) : D.wlikes (x :: xs) (y :: ys) = true := by
  rw [D.wlikes, h, hw]; simp
theorem wl (e e' : Evn) (f1 : fitE e) (f2 : fitE e') : D.wlikes ((evL e).1 :: (evL e).2) ((evL e').1 :: (evL e').2) = true := by
  cases e with
  | give => cases e' <;> exact wl_nil _ _ _ rfl
  | word => cases e' <;> exact wl_nil _ _ _ rfl
  | answer => cases e' <;> exact wl_nil _ _ _ rfl
  | again i =>
    cases e' with
    | give => exact wl_nil2 _ _ _ rfl
    | word => exact wl_nil2 _ _ _ rfl
    | answer => exact wl_nil2 _ _ _ rfl
    | again j => exact wl_cons _ _ _ _ rfl (wl_nil _ _ _ rfl)
    | line w b n => rcases f2 with rfl | rfl | rfl <;> exact wl_ne _ _ _ _ rfl rfl
  | line w b n =>
    cases e' with
    | give => exact wl_nil2 _ _ _ rfl
    | word => exact wl_nil2 _ _ _ rfl
    | answer => exact wl_nil2 _ _ _ rfl
    | again j => rcases f1 with rfl | rfl | rfl <;> exact wl_ne _ _ _ _ rfl rfl
    | line w' b' n' => exact wl_cons _ _ _ _ rfl (wl_cons _ _ _ _ rfl (wl_nil _ _ _ rfl))
theorem sortable_evs (es : List Evn) (he : ∀ e ∈ es, fitE e) : sortable (es.map evD) = true := by
  unfold sortable
  rw [Bool.and_eq_true]
  refine ⟨?_, ?_⟩
  · rw [List.all_map, List.all_eq_true]
    intro e _
    cases e with
    | line w b n => simp [evD, sEnd, D.shal, D.shals]
    | _ => simp [evD, D.shal, D.shals]
  · rw [Bool.or_eq_true]
    left
    rw [List.all_map, List.all_eq_true]
    intro e hm
    simp only [Function.comp, evD_L]
    rw [List.all_map, List.all_eq_true]
    intro e' hm'
    simp only [Function.comp, evD_L]
    exact wl e e' (he e hm) (he e' hm')
def agains (s : W) : List Evn := (List.range (s.given - s.base).toNat).map fun k => Evn.again (s.base + (k : Nat))
def lineRow (w : List Nat) (b : Bool) : List Evn := (List.range 12).map fun n => Evn.line w b n
def allEv (s : W) : List Evn := [.give, .word, .answer] ++ agains s ++ lineRow sLose true ++ lineRow sLose false ++ lineRow sDouble true ++ lineRow sDouble false ++ lineRow sTurn true ++ lineRow sTurn false
theorem lc_agains (F : Fns) (e0 e1 e2 e3 e4 e5 e6 e7 e8 : Option PV) (lo : Int) (n : Nat) (h : Hh) (hn : n ≤ 1000) :
    lcGo (lcE F (.tup (.cons (.lit (.str [97, 103, 97, 105, 110])) (.cons (.var 6) .nil))) .nil) (Ev.T.store (.nm 6)) (wipe [e0, e1, e2, e3, e4, e5, e6, e7, e8] [6]) (rangeD lo n 1) [] h = .ok (.d (.list (((List.range n).map fun k => Evn.again (lo + (k : Nat))).map evD))) h := by
  have e : rangeD lo n 1 = ((List.range n).map fun k => D.int (lo + (k : Nat))).map PV.d := by
    simp [rangeD]
  rw [e, rn_lcGo (fun d => match d with
    | .int i => some (evD (.again i))
    | _ => none)]
  · congr 3
    rw [List.nil_append, List.filterMap_map, List.map_map]
    induction (List.range n) with
    | nil => rfl
    | cons a r ih => simp only [List.filterMap_cons, Function.comp, List.map_cons]; rw [← ih]
  · intro x hx
    obtain ⟨k, _, rfl⟩ := List.mem_map.mp hx
    refine ⟨_, rfl, ?_⟩
    simp [lcE, wipe, allD, LIM, evD]
  · simp; unfold LIM; omega
theorem lc_line (F : Fns) (e0 e1 e2 e3 e6 e7 e8 : Option PV) (w : List Nat) (b : Bool) (h : Hh) :
    lcGo (lcE F (.tup (.cons (.var 4) (.cons (.var 5) (.cons (.var 7) .nil)))) .nil) (Ev.T.store (.nm 7)) (wipe [e0, e1, e2, e3, some (.d (.str w)), some (.d (sEnd b)), e6, e7, e8] [7]) (rangeD 0 12 1) [] h = .ok (.d (.list ((lineRow w b).map evD))) h := by
  have e : rangeD 0 12 1 = ((List.range 12).map fun k => D.int ((k : Nat) : Int)).map PV.d := by
    simp [rangeD]
  rw [e, rn_lcGo (fun d => match d with
    | .int i => some (.tup [.str w, sEnd b, .int i])
    | _ => none)]
  · congr 3
  · intro x hx
    obtain ⟨k, _, rfl⟩ := List.mem_map.mp hx
    refine ⟨_, rfl, ?_⟩
    simp [lcE, wipe, allD, LIM]
  · simp; unfold LIM; omega
def innerB : Ss := (.cons (.set 3 (.bin .add (.var 3) (.lc (.tup (.cons (.var 4) (.cons (.var 5) (.cons (.var 7) .nil)))) (.nm 7) [7] (.rng1 (.cst 173270989)) .nil))) .nil)
def outerB : Ss := (.cons (.for_ (.nm 5) (.seq (.cst 145990227)) innerB) .nil)
def lastS : S := (.ret (.bl .sorted (.cons (.lc (.var 8) (.nm 8) [8] (.seq (.var 3)) (.cons (.isc true (.call 18107755526640497772540658 (.cons (.var 0) (.cons (.var 2) (.cons (.var 8) .nil)))) .none) .nil)) .nil)))
theorem fwindow_events_eq : fwindow_events = ⟨2, 9, (.cons (.expr (.call 1021906042097070158579 (.cons (.var 0) .nil))) (.cons (.set 2 (.call 62372194952196334 (.cons (.var 0) (.cons (.var 1) .nil)))) (.cons (.set 3 (.bin .add (.lst (.cons (.tup (.cons (.lit (.str [103, 105, 118, 101])) .nil)) (.cons (.tup (.cons (.lit (.str [119, 111, 114, 100])) .nil)) (.cons (.tup (.cons (.lit (.str [97, 110, 115, 119, 101, 114])) .nil)) .nil)))) (.lc (.tup (.cons (.lit (.str [97, 103, 97, 105, 110])) (.cons (.var 6) .nil))) (.nm 6) [6] (.rng2 (.ix (.var 2) (.lit (.int (0)))) (.ix (.var 2) (.lit (.int (1))))) .nil))) (.cons (.for_ (.nm 4) (.seq (.tup (.cons (.lit (.str [108, 111, 115, 101])) (.cons (.lit (.str [100, 111, 117, 98, 108, 101])) (.cons (.lit (.str [116, 117, 114, 110])) .nil))))) outerB) (.cons lastS .nil)))))⟩ := rfl
theorem it_room (k : Nat) (env : Env) (h : Hh) : evIt ⟨Ev.call T C k, C⟩ (.rng1 (.cst 173270989)) env h = .ok (.its (rangeD 0 12 1)) h := by
  have hc : (⟨Ev.call T C k, C⟩ : Fns).cst 173270989 = some (.d (.int 12)) := rfl
  rw [rn_rng1, rn_e_cst, hc]
  rfl
theorem inner_eq (k : Nat) (e0 e1 e2 e6 e7 e8 : Option PV) (found : List D) (w : List Nat) (b : Bool) (h : Hh) (hf : found.length ≤ 1000) :
    evSs ⟨Ev.call T C k, C⟩ innerB [e0, e1, e2, some (.d (.list found)), some (.d (.str w)), some (.d (sEnd b)), e6, e7, e8] h = .ok (.nxt [e0, e1, e2, some (.d (.list (found ++ (lineRow w b).map evD))), some (.d (.str w)), some (.d (sEnd b)), e6, e7, e8]) h := by
  have lc := lc_line ⟨Ev.call T C k, C⟩ e0 e1 e2 (some (.d (.list found))) e6 e7 e8 w b h
  have it := it_room k [e0, e1, e2, some (.d (.list found)), some (.d (.str w)), some (.d (sEnd b)), e6, e7, e8] h
  have hl : (lineRow w b).length = 12 := by simp [lineRow]
  have hl2 : found.length + ((lineRow w b).map evD).length ≤ LIM := by rw [List.length_map, hl]; unfold LIM; omega
  generalize (lineRow w b).map evD = L at lc hl2 ⊢
  generalize rangeD 0 12 1 = rg at lc it
  have v3 : evE ⟨Ev.call T C k, C⟩ (.var 3) [e0, e1, e2, some (.d (.list found)), some (.d (.str w)), some (.d (sEnd b)), e6, e7, e8] h = .ok (.d (.list found)) h := rfl
  rw [innerB, rn_ss_cons, rn_s_set, rn_e_bin, v3, rn_bd_ok, rn_lc, it, rn_bd_ok]
  simp only [lc, rn_bd_ok, rn_add_list, hl2, if_true, rn_opt_some, rn_flK_nxt, rn_ss_nil, List.set_cons_succ, List.set_cons_zero]
theorem outer_eq (k : Nat) (e0 e1 e2 e5 e6 e7 e8 : Option PV) (found : List D) (w : List Nat) (h : Hh) (hf : found.length ≤ 900) :
    evSs ⟨Ev.call T C k, C⟩ outerB [e0, e1, e2, some (.d (.list found)), some (.d (.str w)), e5, e6, e7, e8] h = .ok (.nxt [e0, e1, e2, some (.d (.list (found ++ (lineRow w true).map evD ++ (lineRow w false).map evD))), some (.d (.str w)), some (.d (sEnd false)), e6, e7, e8]) h := by
  have it : evIt ⟨Ev.call T C k, C⟩ (.seq (.cst 145990227)) [e0, e1, e2, some (.d (.list found)), some (.d (.str w)), e5, e6, e7, e8] h = .ok (.its [.d (sEnd true), .d (sEnd false)]) h := by
    simp [sEnd]
  have hl : (lineRow w true).length = 12 := by simp [lineRow]
  have s1 : Ev.T.store (.nm 5) (.d (sEnd true)) [e0, e1, e2, some (.d (.list found)), some (.d (.str w)), e5, e6, e7, e8] = some [e0, e1, e2, some (.d (.list found)), some (.d (.str w)), some (.d (sEnd true)), e6, e7, e8] := rfl
  have s2 : Ev.T.store (.nm 5) (.d (sEnd false)) [e0, e1, e2, some (.d (.list (found ++ (lineRow w true).map evD))), some (.d (.str w)), some (.d (sEnd true)), e6, e7, e8] = some [e0, e1, e2, some (.d (.list (found ++ (lineRow w true).map evD))), some (.d (.str w)), some (.d (sEnd false)), e6, e7, e8] := rfl
  simp only [outerB, rn_ss_cons, rn_for, it, rn_bd_ok]
  rw [rn_forGo_cons _ _ _ _ _ _ s1, inner_eq k e0 e1 e2 e6 e7 e8 found w true h (by omega)]
  simp only [rn_bd_ok]
  rw [rn_forGo_cons _ _ _ _ _ _ s2, inner_eq k e0 e1 e2 e6 e7 e8 _ w false h (by rw [List.length_append, List.length_map, hl]; omega)]
  simp only [rn_bd_ok, rn_forGo_nil, rn_flK_nxt, rn_ss_nil]
end L24
end

section
set_option autoImplicit false
set_option linter.all false
set_option maxRecDepth 100000
set_option maxHeartbeats 1000000
namespace L24
open Ev
theorem rn_lcEnc {α : Type} {elt : Env → M (Option PV)} {st : PV → Env → Option Env} {env : Env} {h : Hh} (enc : α → D) (f : α → Option D) : ∀ (xs : List α) (acc : List D), (∀ x ∈ xs, ∃ env', st (.d (enc x)) env = some env' ∧ elt env' h = .ok ((f x).map PV.d) h) → acc.length + xs.length ≤ LIM →
    lcGo elt st env ((xs.map enc).map PV.d) acc h = .ok (.d (.list (acc ++ xs.filterMap f))) h
  | [], acc, _, _ => by simp [lcGo]
  | x :: xs, acc, hx, hl => by
    obtain ⟨env', h1, h2⟩ := hx x (by simp)
    have ih := fun acc hl => rn_lcEnc enc f xs acc (fun y hy => hx y (by simp [hy])) hl
    simp only [List.map_cons, lcGo, h1]
    rw [rn_bnd_ap]
    have hc : M.calm (elt env') h = .ok ((f x).map PV.d) h := by simp only [M.calm, h2]
    rw [hc]
    cases e : f x with
    | none =>
      simp only [Option.map_none, rn_bd_ok]
      rw [ih acc (by simp at hl; omega)]
      simp [e]
    | some y =>
      have hl2 : acc.length < LIM := by simp at hl; omega
      simp only [Option.map_some, rn_bd_ok, hl2, if_true]
      rw [ih (acc ++ [y]) (by simp at hl ⊢; omega)]
      simp [e]
theorem filt_map (p : Evn → Bool) : ∀ es : List Evn, es.filterMap (fun e => if p e then some (evD e) else none) = (es.filter p).map evD
  | [] => rfl
  | a :: es => by
    simp only [List.filterMap_cons, List.filter_cons]
    cases h : p a <;> simp [filt_map p es]
/-- the last row: what can happen, in order -/
theorem last_eq (k : Nat) (r g t : Int) (s : W) (es : List Evn) (e1 e4 e5 e6 e7 e8 : Option PV) (h : Hh) (hr : 0 < r) (hs : okW s) (he : ∀ e ∈ es, fitE e) (hl : es.length ≤ 1000) :
    evS ⟨Ev.call T C (k + 3), C⟩ lastS [some (.d (sz r g t)), e1, some (.d (stD s)), some (.d (.list (es.map evD))), e4, e5, e6, e7, e8] h = .ok (.ret (.d (.list (sortD ((es.filter fun e => (aft r g t s e).isSome).map evD))))) h := by
  have it : evIt ⟨Ev.call T C (k + 3), C⟩ (.seq (.var 3)) [some (.d (sz r g t)), e1, some (.d (stD s)), some (.d (.list (es.map evD))), e4, e5, e6, e7, e8] h = .ok (.its ((es.map evD).map PV.d)) h := rfl
  have lc := rn_lcEnc (elt := lcE ⟨Ev.call T C (k + 3), C⟩ (.var 8) (.cons (.isc true (.call 18107755526640497772540658 (.cons (.var 0) (.cons (.var 2) (.cons (.var 8) .nil)))) .none) .nil)) (st := Ev.T.store (.nm 8)) (env := wipe [some (.d (sz r g t)), e1, some (.d (stD s)), some (.d (.list (es.map evD))), e4, e5, e6, e7, e8] [8]) (h := h)
    evD (fun e => if (aft r g t s e).isSome then some (evD e) else none) es [] (fun e hm => by
      have q := window_after_eq k r g t s e h hr hs (he e hm)
      refine ⟨_, rfl, ?_⟩
      cases ea : aft r g t s e with
      | none =>
        have hn : isNone (.d (optD none)) = true := rfl
        rw [ea] at q
        simp [lcE, wipe, q, isC, hn]
      | some s' =>
        have hn : isNone (.d (optD (some s'))) = false := rfl
        rw [ea] at q
        simp [lcE, wipe, q, isC, hn]) (by simp; unfold LIM; omega)
  have hf := filt_map (fun e => (aft r g t s e).isSome) es
  rw [List.nil_append] at lc
  rw [hf] at lc
  have srt := sortable_evs (es.filter fun e => (aft r g t s e).isSome) (fun e hm => he e (List.mem_filter.mp hm).1)
  generalize (es.filter fun e => (aft r g t s e).isSome).map evD = L at lc srt ⊢
  rw [lastS, rn_s_ret, rn_e_bl, rn_es_cons, rn_lc, it, rn_bd_ok]
  simp only [lc, rn_bd_ok, rn_es_nil, rn_sorted_list, srt, if_true, rn_opt_some]
end L24
end

section
set_option autoImplicit false
set_option linter.all false
set_option maxRecDepth 100000
set_option maxHeartbeats 1000000
namespace L24
open Ev
theorem outers_eq (k : Nat) (e0 e1 e2 e4 e5 e6 e7 e8 : Option PV) (found : List D) (h : Hh) (hf : found.length ≤ 500) :
    evS ⟨Ev.call T C k, C⟩ (.for_ (.nm 4) (.seq (.tup (.cons (.lit (.str [108, 111, 115, 101])) (.cons (.lit (.str [100, 111, 117, 98, 108, 101])) (.cons (.lit (.str [116, 117, 114, 110])) .nil))))) outerB) [e0, e1, e2, some (.d (.list found)), e4, e5, e6, e7, e8] h =
      .ok (.nxt [e0, e1, e2, some (.d (.list (found ++ (lineRow sLose true).map evD ++ (lineRow sLose false).map evD ++ (lineRow sDouble true).map evD ++ (lineRow sDouble false).map evD ++ (lineRow sTurn true).map evD ++ (lineRow sTurn false).map evD))), some (.d (.str sTurn)), some (.d (sEnd false)), e6, e7, e8]) h := by
  have it : evIt ⟨Ev.call T C k, C⟩ (.seq (.tup (.cons (.lit (.str [108, 111, 115, 101])) (.cons (.lit (.str [100, 111, 117, 98, 108, 101])) (.cons (.lit (.str [116, 117, 114, 110])) .nil))))) [e0, e1, e2, some (.d (.list found)), e4, e5, e6, e7, e8] h = .ok (.its [.d (.str sLose), .d (.str sDouble), .d (.str sTurn)]) h := by
    simp [allD, LIM, sLose, sDouble, sTurn]
  have hl : ∀ w b, ((lineRow w b).map evD).length = 12 := fun w b => by simp [lineRow]
  generalize ha : (lineRow sLose true).map evD = la
  generalize hb : (lineRow sLose false).map evD = lb
  generalize hc : (lineRow sDouble true).map evD = lc
  generalize hd : (lineRow sDouble false).map evD = ld
  have la1 : la.length = 12 := by rw [← ha]; exact hl _ _
  have lb1 : lb.length = 12 := by rw [← hb]; exact hl _ _
  have lc1 : lc.length = 12 := by rw [← hc]; exact hl _ _
  have ld1 : ld.length = 12 := by rw [← hd]; exact hl _ _
  have o1 := outer_eq k e0 e1 e2 e5 e6 e7 e8 found sLose h (by omega)
  rw [ha, hb] at o1
  have o2 := outer_eq k e0 e1 e2 (some (.d (sEnd false))) e6 e7 e8 (found ++ la ++ lb) sDouble h (by simp [la1, lb1]; omega)
  rw [hc, hd] at o2
  have o3 := outer_eq k e0 e1 e2 (some (.d (sEnd false))) e6 e7 e8 (found ++ la ++ lb ++ lc ++ ld) sTurn h (by simp [la1, lb1, lc1, ld1]; omega)
  rw [rn_for, it, rn_bd_ok]
  show forGo _ _ _ _ _ = _
  rw [rn_forGo_cons (env' := [e0, e1, e2, some (.d (.list found)), some (.d (.str sLose)), e5, e6, e7, e8]) _ _ _ _ _ _ rfl, o1, rn_bd_ok]
  show forGo _ _ _ _ _ = _
  rw [rn_forGo_cons (env' := [e0, e1, e2, some (.d (.list (found ++ la ++ lb))), some (.d (.str sDouble)), some (.d (sEnd false)), e6, e7, e8]) _ _ _ _ _ _ rfl, o2, rn_bd_ok]
  show forGo _ _ _ _ _ = _
  rw [rn_forGo_cons (env' := [e0, e1, e2, some (.d (.list (found ++ la ++ lb ++ lc ++ ld))), some (.d (.str sTurn)), some (.d (sEnd false)), e6, e7, e8]) _ _ _ _ _ _ rfl, o3, rn_bd_ok]
  rfl
theorem fit_all (s : W) : ∀ e ∈ allEv s, fitE e := by
  intro e he
  simp only [allEv, List.mem_append, lineRow, agains, List.mem_map, List.mem_cons] at he
  rcases he with (((((((he | he) | he) | he) | he) | he) | he) | he)
  · rcases he with rfl | rfl | rfl | he
    · trivial
    · trivial
    · trivial
    · cases he
  · obtain ⟨_, _, rfl⟩ := he; trivial
  · obtain ⟨_, _, rfl⟩ := he; exact .inl rfl
  · obtain ⟨_, _, rfl⟩ := he; exact .inl rfl
  · obtain ⟨_, _, rfl⟩ := he; exact .inr (.inl rfl)
  · obtain ⟨_, _, rfl⟩ := he; exact .inr (.inl rfl)
  · obtain ⟨_, _, rfl⟩ := he; exact .inr (.inr rfl)
  · obtain ⟨_, _, rfl⟩ := he; exact .inr (.inr rfl)
end L24
end

section
set_option autoImplicit false
set_option linter.all false
set_option maxRecDepth 100000
set_option maxHeartbeats 1000000
namespace L24
open Ev
theorem window_events_eq (k : Nat) (r g t : Int) (es : List Evn) (h : Hh) (hz : szOk r g t) (he : ∀ e ∈ es, fitB e) (hl : es.length ≤ 88) {s : W} (hs : ran r g t W0 es = some s) (ho : okW s) (hb : 0 ≤ s.base ∧ s.base ≤ 80) (hg : 0 ≤ s.given ∧ s.given ≤ 81) :
    Ev.call T C (k + 6) 2317792707409983856587815539 [.d (sz r g t), .d (evsD es)] h = .ok (.d (.list (sortD (((allEv s).filter fun e => (aft r g t s e).isSome).map evD)))) h := by
  have hr : 0 < r := by have := hz.1.1; omega
  rw [rn_call T_window_events rfl, fwindow_events_eq]
  have q1 := need_sizes_ok (k + 2) r g t h hz
  have q2 := need_ran_eq k r g t es h hr he hl hs
  have st : Ev.start 9 [.d (sz r g t), .d (evsD es)] = [some (.d (sz r g t)), some (.d (evsD es)), none, none, none, none, none, none, none] := rfl
  have la := lc_agains ⟨Ev.call T C (k + 5), C⟩ (some (.d (sz r g t))) (some (.d (evsD es))) (some (.d (stD s))) none none none none none none s.base (s.given - s.base).toNat h (by omega)
  have hag : ((List.range (s.given - s.base).toNat).map fun k => Evn.again (s.base + (k : Nat))) = agains s := rfl
  rw [hag] at la
  have hagl : ((agains s).map evD).length ≤ 100 := by simp [agains]; omega
  have sm1 : small s.base = true := by unfold small; rw [Bool.and_eq_true]; exact ⟨decide_eq_true (by omega), decide_eq_true (by omega)⟩
  have sm2 : small s.given = true := by unfold small; rw [Bool.and_eq_true]; exact ⟨decide_eq_true (by omega), decide_eq_true (by omega)⟩
  have it : evIt ⟨Ev.call T C (k + 5), C⟩ (.rng2 (.ix (.var 2) (.lit (.int (0)))) (.ix (.var 2) (.lit (.int (1))))) [some (.d (sz r g t)), some (.d (evsD es)), some (.d (stD s)), none, none, none, none, none, none] h = .ok (.its (rangeD s.base (s.given - s.base).toNat 1)) h := by
    simp [stD, place, sm1, sm2]
  have f0 : evE ⟨Ev.call T C (k + 5), C⟩ (.lst (.cons (.tup (.cons (.lit (.str [103, 105, 118, 101])) .nil)) (.cons (.tup (.cons (.lit (.str [119, 111, 114, 100])) .nil)) (.cons (.tup (.cons (.lit (.str [97, 110, 115, 119, 101, 114])) .nil)) .nil)))) [some (.d (sz r g t)), some (.d (evsD es)), some (.d (stD s)), none, none, none, none, none, none] h = .ok (.d (.list ([Evn.give, .word, .answer].map evD))) h := by
    simp [allD, LIM, evD]
  generalize rangeD s.base (s.given - s.base).toNat 1 = rg at la it
  have ou := outers_eq (k + 5) (some (.d (sz r g t))) (some (.d (evsD es))) (some (.d (stD s))) none none none none none ([Evn.give, .word, .answer].map evD ++ (agains s).map evD) h (by rw [List.length_append]; simp at hagl ⊢; omega)
  have hall : ([Evn.give, .word, .answer].map evD ++ (agains s).map evD) ++ (lineRow sLose true).map evD ++ (lineRow sLose false).map evD ++ (lineRow sDouble true).map evD ++ (lineRow sDouble false).map evD ++ (lineRow sTurn true).map evD ++ (lineRow sTurn false).map evD = (allEv s).map evD := by
    simp only [allEv, List.map_append]
  rw [hall] at ou
  have las := last_eq (k + 2) r g t s (allEv s) (some (.d (evsD es))) (some (.d (.str sTurn))) (some (.d (sEnd false))) none none none h hr ho (fit_all s) (by simp [allEv, agains, lineRow]; omega)
  have hadd : ([Evn.give, .word, .answer].map evD).length + ((agains s).map evD).length ≤ LIM := by
    have : ([Evn.give, .word, .answer].map evD).length = 3 := rfl
    unfold LIM; omega
  generalize [Evn.give, .word, .answer].map evD = A at f0 ou hadd hall
  generalize (agains s).map evD = Bg at la ou hadd hall
  generalize sortD (((allEv s).filter fun e => (aft r g t s e).isSome).map evD) = Rs at las ⊢
  generalize (allEv s).map evD = All at ou las hall
  simp only [st, rn_ss_cons, rn_s_expr, rn_s_set, rn_e_call, rn_es_cons, rn_es_nil, rn_e_bin, rn_e_var, List.getElem?_cons_zero, List.getElem?_cons_succ, Option.bind_some, id, rn_opt_some, rn_bd_ok, q1, rn_flK_nxt]
  simp only [q2, rn_bd_ok, rn_flK_nxt, List.set_cons_zero, List.set_cons_succ, rn_ss_cons, rn_s_set, rn_e_bin, f0, rn_lc, it, la, rn_add_list, hadd, if_true, rn_opt_some, ou, las, rn_flK_ret, rn_defK_ret]
end L24
end

section
set_option autoImplicit false
set_option linter.all false
set_option maxRecDepth 100000
set_option maxHeartbeats 1000000
namespace L24
open Ev
theorem T_some : T 6906700753637471973 = some f_law_some := rfl
theorem some_eq (k : Nat) (a b : Int) (L : List D) (ha : 0 ≤ a) (h0 : 0 < L.length) (hl : L.length ≤ 10000) : ∃ d a' b', Ev.call T C (k + 2) 6906700753637471973 [.ref 0, .d (.list L)] (cup a b) = .ok (.d d) (cup a' b') ∧ d ∈ L ∧ 0 ≤ a' := by
  obtain ⟨v, a', b', e, v0, v1, h1⟩ := roll_eq k a b (L.length : Int) (by omega) (by omega) ha
  have hv : v.toNat < L.length := by omega
  refine ⟨L[v.toNat], a', b', ?_, List.getElem_mem hv, h1⟩
  rw [rn_call T_some rfl]
  have hp : place L.length v = some v.toNat := by unfold place; rw [if_pos v0, if_pos hv]
  simp [f_law_some, Ev.start, e, hp, hv]
end L24
end

section
set_option autoImplicit false
set_option linter.all false
set_option maxRecDepth 100000
set_option maxHeartbeats 1000000
namespace L24
open Ev
/-- what holds behind any run of sound windows -/
structure Inv (g t : Int) (s : W) : Prop where
  calm : s.harmed = false
  b0 : 0 ≤ s.base
  bp : s.base ≤ s.place
  pg : s.place ≤ s.given
  gb : s.given ≤ s.base + g
  kept : ∀ x ∈ s.kept, s.place < x ∧ x < s.given
  there : ∀ i ∈ s.there, 0 ≤ i ∧ i < s.given ∧ s.place ≤ i + g ∧ ∀ x ∈ s.kept, x < i + g
  pw : s.there.Pairwise fun i j => i < j + g
  back : ∀ b ∈ s.back, s.base ≤ b ∧ b ≤ s.place
  bw : s.back.Pairwise fun a b => a ≤ b
theorem inv0 (g t : Int) (hg : 1 ≤ g) : Inv g t W0 := by
  constructor <;> simp [W0]
  omega
theorem adv_spec (kept : List Int) : ∀ (n : Nat) (p : Int), (adv n kept p = p ∨ adv n kept p - 1 ∈ kept) ∧ p ≤ adv n kept p
  | 0, p => ⟨.inl rfl, Int.le_refl _⟩
  | n + 1, p => by
    unfold adv
    split
    · obtain ⟨h1, h2⟩ := adv_spec kept n (p + 1)
      refine ⟨.inr ?_, by omega⟩
      rcases h1 with h1 | h1
      · rw [h1, Int.add_sub_cancel]; assumption
      · exact h1
    · exact ⟨.inl rfl, Int.le_refl _⟩
/-- the place behind is not kept -/
theorem adv_out (kept : List Int) : ∀ (n : Nat) (p : Int), msr kept p < n → adv n kept p ∉ kept
  | 0, _, h => absurd h (Nat.not_lt_zero _)
  | n + 1, p, h => by
    unfold adv
    split
    · rename_i hp
      exact adv_out kept n (p + 1) (by have := msr_lt hp; omega)
    · assumption
theorem adv_lt (kept : List Int) (n : Nat) (p : Int) (hp : p ∈ kept) : p < adv (n + 1) kept p := by
  unfold adv
  rw [if_pos hp]
  have := (adv_spec kept n (p + 1)).2
  omega
theorem own_in (r g t : Int) (p i : Int) (hr : g + t ≤ r) (ht : 1 ≤ t) (h1 : p ≤ i) (h2 : i ≤ p + g) : p + (i - p) % r = i := by
  rw [Int.emod_eq_of_lt (by omega) (by omega)]; omega
theorem own_out (r g t : Int) (p i : Int) (hr : g + t ≤ r) (ht : 1 ≤ t) (h1 : i < p) (h2 : p ≤ i + g) : p + t ≤ p + (i - p) % r := by
  have : (i - p) % r = i - p + r := by
    rw [← Int.add_emod_right, Int.emod_eq_of_lt (by omega) (by omega)]
  omega
theorem inv_word {r g t : Int} {s : W} {i : Int} {is : List Int} (hr : g + t ≤ r) (hg : 1 ≤ g) (ht : 1 ≤ t) (I : Inv g t s) (hi : s.there = i :: is) (hk : s.kept.length ≤ 100) :
    Inv g t (wrd r t s i is) ∧ (wrd r t s i is).base = s.base ∧ (wrd r t s i is).given = s.given ∧ (wrd r t s i is).there = is ∧ (∃ p, (wrd r t s i is).back = s.back ++ [p] ∧ (is = [] → s.base = s.place → s.base < s.given → i = s.base → s.base < p) ∧ s.place ≤ p) := by
  obtain ⟨c1, c2, c3, c4, c5, c6, c7, c8, c9, c10⟩ := I
  rw [hi] at c7 c8
  obtain ⟨d1, d2, d3, d4⟩ := c7 i (by simp)
  obtain ⟨e1, e2⟩ := List.pairwise_cons.mp c8
  -- the kept ones behind
  have key : ∃ K : List Int, (if kept1 t (s.place + (i - s.place) % r) s then (s.kept ++ [s.place + (i - s.place) % r]).mergeSort (fun a b => decide (a ≤ b)) else s.kept) = K ∧ (∀ x ∈ K, s.place ≤ x ∧ x < s.given ∧ (x ∈ s.kept ∨ x = i)) ∧ (kept1 t (s.place + (i - s.place) % r) s = true → s.place + (i - s.place) % r = i) ∧ K.length ≤ 101 ∧ (s.place = i → i ∈ K) := by
    by_cases hp : s.place ≤ i
    · have ho := own_in r g t s.place i hr ht hp (by omega)
      rw [ho]
      refine ⟨_, rfl, ?_, fun _ => rfl, ?_, ?_⟩
      · intro x hx
        split at hx
        · rw [List.mem_mergeSort, List.mem_append] at hx
          rcases hx with hx | hx
          · exact ⟨by have := c6 x hx; omega, (c6 x hx).2, .inl hx⟩
          · have := List.mem_singleton.mp hx
            subst this
            exact ⟨hp, d2, .inr rfl⟩
        · exact ⟨by have := c6 x hx; omega, (c6 x hx).2, .inl hx⟩
      · split
        · rw [List.length_mergeSort, List.length_append, List.length_singleton]; omega
        · omega
      · intro he
        have hni : i ∉ s.kept := fun hx => by have := c6 i hx; omega
        rw [if_pos (by simp [kept1, hni]; omega), List.mem_mergeSort, List.mem_append]
        exact .inr (List.mem_singleton.mpr rfl)
    · have ho := own_out r g t s.place i hr ht (by omega) d3
      have hq : kept1 t (s.place + (i - s.place) % r) s = false := by
        unfold kept1
        rw [Bool.and_eq_false_iff]
        exact .inl (decide_eq_false (by omega))
      rw [hq]
      exact ⟨_, rfl, fun x hx => ⟨by have := c6 x (by simpa using hx); omega, (c6 x (by simpa using hx)).2, .inl (by simpa using hx)⟩, fun h => by simp at h, by simp; omega, fun h => by omega⟩
  obtain ⟨K, hK, k1, k2, k3, k4⟩ := key
  have hw : wrd r t s i is = { base := s.base, given := s.given, place := adv turnsMost K s.place, kept := K.filter (fun x => decide (adv turnsMost K s.place < x)), there := is, back := s.back ++ [adv turnsMost K s.place], harmed := if kept1 t (s.place + (i - s.place) % r) s then s.harmed || !(s.place + (i - s.place) % r == i) else s.harmed } := by
    unfold wrd
    simp only [hK]
  obtain ⟨a1, a2⟩ := adv_spec K turnsMost s.place
  have a3 : adv turnsMost K s.place ≤ s.given := by
    rcases a1 with a1 | a1
    · omega
    · have := (k1 _ a1).2.1; omega
  have a4 : s.place = i → s.place < adv turnsMost K s.place := fun he => by
    have := adv_lt K 999999 s.place (by rw [he]; exact k4 he)
    exact this
  rw [hw]
  refine ⟨⟨?_, c2, by show s.base ≤ adv turnsMost K s.place; omega, a3, c5, ?_, ?_, e2, ?_, ?_⟩, rfl, rfl, rfl, _, rfl, ?_, a2⟩
  · show (if _ then _ else _) = false
    split
    · rename_i h
      rw [k2 h, c1]
      simp
    · exact c1
  · intro x hx
    obtain ⟨h1, h2⟩ := List.mem_filter.mp hx
    exact ⟨of_decide_eq_true h2, (k1 x h1).2.1⟩
  · intro j hj
    obtain ⟨f1, f2, f3, f4⟩ := c7 j (by simp [hj])
    have f5 := e1 j hj
    have f6 : ∀ x ∈ K, x < j + g := fun x hx => by
      rcases (k1 x hx).2.2 with h | h
      · exact f4 x h
      · omega
    refine ⟨f1, f2, ?_, fun x hx => f6 x (List.mem_filter.mp hx).1⟩
    show adv turnsMost K s.place ≤ _
    rcases a1 with a1 | a1
    · omega
    · have := f6 _ a1; omega
  · intro b hb
    rcases List.mem_append.mp hb with hb | hb
    · obtain ⟨h1, h2⟩ := c9 b hb
      exact ⟨h1, by show b ≤ adv turnsMost K s.place; omega⟩
    · have := List.mem_singleton.mp hb
      subst this
      exact ⟨by show s.base ≤ adv turnsMost K s.place; omega, Int.le_refl _⟩
  · show (s.back ++ [adv turnsMost K s.place]).Pairwise _
    rw [List.pairwise_append]
    refine ⟨c10, List.pairwise_singleton _ _, fun a ha b hb => ?_⟩
    have := List.mem_singleton.mp hb
    subst this
    have := (c9 a ha).2
    omega
  · intro _ h1 _ h3
    have := a4 (by omega)
    omega
theorem inv_ans {r g t : Int} {s : W} {b : Int} {bs : List Int} (hr : g + t ≤ r) (hg : 1 ≤ g) (ht : 1 ≤ t) (I : Inv g t s) (hb : s.back = b :: bs) :
    Inv g t (ans r s b bs) ∧ (ans r s b bs).base = b ∧ (ans r s b bs).given = s.given ∧ (ans r s b bs).there = s.there ∧ (ans r s b bs).back = bs := by
  obtain ⟨c1, c2, c3, c4, c5, c6, c7, c8, c9, c10⟩ := I
  rw [hb] at c9 c10
  obtain ⟨d1, d2⟩ := c9 b (by simp)
  obtain ⟨e1, e2⟩ := List.pairwise_cons.mp c10
  have ho : s.base + (b - s.base) % r = b := own_in r g t s.base b hr ht d1 (by omega)
  have hw : ans r s b bs = { s with base := b, back := bs } := by
    unfold ans
    simp only [ho]
    split
    · rw [c1]; simp
    · have : b = s.base := by omega
      subst this; rfl
  rw [hw]
  refine ⟨⟨c1, ?_, d2, c4, ?_, c6, c7, c8, ?_, e2⟩, rfl, rfl, rfl, rfl⟩
  · show 0 ≤ b; omega
  · show s.given ≤ b + g; omega
  · intro a ha
    exact ⟨e1 a ha, (c9 a (by simp [ha])).2⟩
theorem inv_give {g t : Int} {s : W} (hg : 1 ≤ g) (I : Inv g t s) (h : s.given < s.base + g) : Inv g t { s with given := s.given + 1, there := s.there ++ [s.given] } := by
  obtain ⟨c1, c2, c3, c4, c5, c6, c7, c8, c9, c10⟩ := I
  refine ⟨c1, c2, c3, by show s.place ≤ s.given + 1; omega, by show s.given + 1 ≤ s.base + g; omega, fun x hx => ⟨(c6 x hx).1, by have := (c6 x hx).2; show x < s.given + 1; omega⟩, ?_, ?_, c9, c10⟩
  · intro i hi
    rcases List.mem_append.mp hi with hi | hi
    · obtain ⟨f1, f2, f3, f4⟩ := c7 i hi
      exact ⟨f1, by show i < s.given + 1; omega, f3, f4⟩
    · have := List.mem_singleton.mp hi
      subst this
      exact ⟨by omega, by show s.given < s.given + 1; omega, by show s.place ≤ _; omega, fun x hx => by have := (c6 x hx).2; omega⟩
  · show (s.there ++ [s.given]).Pairwise _
    rw [List.pairwise_append]
    refine ⟨c8, List.pairwise_singleton _ _, fun a ha b hb => ?_⟩
    have := List.mem_singleton.mp hb
    subst this
    have := (c7 a ha).2.1
    omega
theorem inv_again {g t : Int} {s : W} {i : Int} (hg : 1 ≤ g) (I : Inv g t s) (h1 : s.base ≤ i) (h2 : i < s.given) : Inv g t { s with there := s.there ++ [i] } := by
  obtain ⟨c1, c2, c3, c4, c5, c6, c7, c8, c9, c10⟩ := I
  refine ⟨c1, c2, c3, c4, c5, c6, ?_, ?_, c9, c10⟩
  · intro j hj
    rcases List.mem_append.mp hj with hj | hj
    · exact c7 j hj
    · have := List.mem_singleton.mp hj
      subst this
      exact ⟨by omega, h2, by show s.place ≤ _; omega, fun x hx => by have := (c6 x hx).2; omega⟩
  · show (s.there ++ [i]).Pairwise _
    rw [List.pairwise_append]
    refine ⟨c8, List.pairwise_singleton _ _, fun a ha b hb => ?_⟩
    have := List.mem_singleton.mp hb
    subst this
    have := (c7 a ha).2.1
    omega
theorem row_mem {w : List Nat} {row row' : List Int} {n : Nat} (h : rowc w row n = some row') : (∀ x ∈ row', x ∈ row) ∧ row'.length ≤ row.length + 1 ∧ ∀ R : Int → Int → Prop, (∀ x ∈ row, R x x) → row.Pairwise R → row'.Pairwise R := by
  unfold rowc at h
  split at h
  · cases h
  rename_i hn
  split at h
  · cases h
    refine ⟨fun x hx => ?_, by simp; omega, fun R _ hp => ?_⟩
    · rcases List.mem_append.mp hx with hx | hx
      · exact List.mem_of_mem_take hx
      · exact List.mem_of_mem_drop hx
    · have : row.take n ++ row.drop (n + 1) = row.eraseIdx n := by rw [List.eraseIdx_eq_take_drop_succ]
      rw [this]
      exact hp.sublist (List.eraseIdx_sublist _ _)
  · split at h
    · cases h
      have hlt : n < row.length := by omega
      have e : row.take n ++ (row[n]?).toList ++ row.drop n = row.take n ++ row[n] :: row[n] :: row.drop (n + 1) := by
        rw [List.getElem?_eq_getElem hlt, List.drop_eq_getElem_cons hlt, List.append_assoc]
        rfl
      rw [e]
      have e0 : row = row.take n ++ row[n] :: row.drop (n + 1) := by
        rw [← List.drop_eq_getElem_cons hlt, List.take_append_drop]
      refine ⟨fun x hx => ?_, by simp; omega, fun R hR hp => ?_⟩
      · rw [List.mem_append, List.mem_cons, List.mem_cons] at hx
        rcases hx with hx | rfl | rfl | hx
        · exact List.mem_of_mem_take hx
        · exact List.getElem_mem hlt
        · exact List.getElem_mem hlt
        · exact List.mem_of_mem_drop hx
      · have hrr := hR row[n] (List.getElem_mem hlt)
        rw [e0] at hp
        simp only [List.pairwise_append, List.pairwise_cons, List.mem_cons] at hp ⊢
        obtain ⟨p1, ⟨p2, p3⟩, p4⟩ := hp
        refine ⟨p1, ⟨?_, p2, p3⟩, fun a ha b hb => ?_⟩
        · rintro a (rfl | ha)
          · exact hrr
          · exact p2 a ha
        · rcases hb with rfl | rfl | hb
          · exact p4 a ha _ (.inl rfl)
          · exact p4 a ha _ (.inl rfl)
          · exact p4 a ha b (.inr hb)
    · cases h
theorem inv_aft {r g t : Int} {s s' : W} {e : Evn} (hr : g + t ≤ r) (hg : 1 ≤ g) (ht : 1 ≤ t) (I : Inv g t s) (hk : s.kept.length ≤ 100) (h : aft r g t s e = some s') : Inv g t s' ∧ s'.there.length + s'.back.length ≤ s.there.length + s.back.length + 1 ∧ s.base ≤ s'.base ∧ s.given ≤ s'.given ∧ s'.given ≤ s.given + 1 ∧ fitE e := by
  cases e with
  | give =>
    simp only [aft] at h
    split at h
    · obtain ⟨rfl, _⟩ := bd_some h
      exact ⟨inv_give hg I ‹_›, by simp; omega, Int.le_refl _, by show s.given ≤ s.given + 1; omega, Int.le_refl _, trivial⟩
    · cases h
  | again i =>
    simp only [aft] at h
    split at h
    · rename_i hc
      obtain ⟨rfl, _⟩ := bd_some h
      exact ⟨inv_again hg I hc.1 hc.2, by simp; omega, Int.le_refl _, Int.le_refl _, by show s.given ≤ s.given + 1; omega, trivial⟩
    · cases h
  | word =>
    simp only [aft] at h
    split at h
    · cases h
    · rename_i i is hth
      obtain ⟨rfl, _⟩ := bd_some h
      obtain ⟨q1, q2, q3, q4, p, q5, _, _⟩ := inv_word hr hg ht I hth hk
      refine ⟨q1, ?_, by rw [q2]; exact Int.le_refl _, by rw [q3]; exact Int.le_refl _, by rw [q3]; omega, trivial⟩
      rw [q4, q5, hth]; simp; omega
  | answer =>
    simp only [aft] at h
    split at h
    · cases h
    · rename_i b bs hbk
      obtain ⟨rfl, _⟩ := bd_some h
      obtain ⟨q1, q2, q3, q4, q5⟩ := inv_ans hr hg ht I hbk
      refine ⟨q1, ?_, ?_, by rw [q3]; exact Int.le_refl _, by rw [q3]; omega, trivial⟩
      · rw [q4, q5, hbk]; simp; omega
      · rw [q2]; exact (I.back b (by rw [hbk]; simp)).1
  | line w b n =>
    obtain ⟨c1, c2, c3, c4, c5, c6, c7, c8, c9, c10⟩ := I
    have hw : fitE (.line w b n) ∨ rowc w s.there n = none ∧ rowc w s.back n = none := by
      by_cases h1 : w = sLose
      · exact .inl (.inl h1)
      · by_cases h2 : w = sDouble
        · exact .inl (.inr (.inl h2))
        · right
          unfold rowc
          simp [h1, h2]
    simp only [aft, lineAft] at h
    split at h
    · obtain ⟨row, hrow, h⟩ := Option.bind_eq_some_iff.mp h
      obtain ⟨rfl, _⟩ := bd_some h
      obtain ⟨m1, m2, m3⟩ := row_mem hrow
      refine ⟨⟨c1, c2, c3, c4, c5, c6, fun i hi => c7 i (m1 i hi), m3 _ (fun x _ => by omega) c8, c9, c10⟩, by simp; omega, Int.le_refl _, Int.le_refl _, by show s.given ≤ s.given + 1; omega, ?_⟩
      rcases hw with hw | hw
      · exact hw
      · rw [hw.1] at hrow; cases hrow
    · obtain ⟨row, hrow, h⟩ := Option.bind_eq_some_iff.mp h
      obtain ⟨rfl, _⟩ := bd_some h
      obtain ⟨m1, m2, m3⟩ := row_mem hrow
      refine ⟨⟨c1, c2, c3, c4, c5, c6, c7, c8, fun b hb => c9 b (m1 b hb), m3 _ (fun x _ => Int.le_refl _) c10⟩, by simp; omega, Int.le_refl _, Int.le_refl _, by show s.given ≤ s.given + 1; omega, ?_⟩
      rcases hw with hw | hw
      · exact hw
      · rw [hw.2] at hrow; cases hrow
end L24
end

section
set_option autoImplicit false
set_option linter.all false
set_option maxRecDepth 100000
set_option maxHeartbeats 1000000
namespace L24
open Ev
/-- the next event on the way to rest -/
def nxt (s : W) : Option Evn := if s.there ≠ [] then some .word else if s.back ≠ [] then some .answer else if s.base < s.given then some (.again s.base) else none
inductive Leads (r g t : Int) : W → List Evn → W → Prop where
  | stop {s : W} (h : nxt s = none) : Leads r g t s [] s
  | step {s s' s2 : W} {e : Evn} {es : List Evn} (h : nxt s = some e) (h1 : aft r g t s e = some s') (h2 : Leads r g t s' es s2) : Leads r g t s (e :: es) s2
theorem ran_app (r g t : Int) : ∀ (es fs : List Evn) (s : W), ran r g t s (es ++ fs) = (ran r g t s es).bind fun s' => ran r g t s' fs
  | [], fs, s => rfl
  | e :: es, fs, s => by
    simp only [List.cons_append, ran]
    cases aft r g t s e with
    | none => rfl
    | some s' => exact ran_app r g t es fs s'
theorem Leads.ran {r g t : Int} {s s' : W} {es : List Evn} (h : Leads r g t s es s') : L24.ran r g t s es = some s' := by
  induction h with
  | stop h => rfl
  | step h h1 h2 ih => simp only [L24.ran, h1]; exact ih
theorem maxL_le (m : Int) : ∀ (xs : List Int) (a : Int), a ≤ m → (∀ x ∈ xs, x ≤ m) → maxL a xs ≤ m
  | [], a, h, _ => h
  | x :: xs, a, h, hx => by
    unfold maxL
    refine maxL_le m xs _ ?_ fun y hy => hx y (by simp [hy])
    split
    · exact hx x (by simp)
    · exact h
theorem bd_ok {g t : Int} {s : W} (I : Inv g t s) (h1 : s.there.length ≤ 12) (h2 : s.back.length ≤ 12) (h3 : s.given ≤ 80) : bd s = some s := by
  unfold bd
  rw [if_neg (by omega), if_pos]
  have := I.bp
  have := I.pg
  refine maxL_le 80 _ _ (by omega) fun x hx => ?_
  rw [List.mem_cons, List.mem_cons] at hx
  rcases hx with rfl | rfl | hx
  · omega
  · omega
  · have := (I.kept x hx).2; omega
def small24 (s : W) : Prop := s.there.length + s.back.length ≤ 12 ∧ s.given ≤ 80
theorem word_ok {r g t : Int} {s : W} {i : Int} {is : List Int} (hr : g + t ≤ r) (hg : 1 ≤ g) (ht : 1 ≤ t) (I : Inv g t s) (hk : s.kept.length ≤ 100) (h1 : small24 s) (hi : s.there = i :: is) : aft r g t s .word = some (wrd r t s i is) := by
  obtain ⟨q1, q2, q3, q4, p, q5, q6, q7⟩ := inv_word hr hg ht I hi hk
  have h2 := h1.1
  rw [hi] at h2
  simp only [aft, hi]
  exact bd_ok q1 (by rw [q4]; simp at h2; omega) (by rw [q5]; simp at h2 ⊢; omega) (by rw [q3]; exact h1.2)
theorem answer_ok {r g t : Int} {s : W} {b : Int} {bs : List Int} (hr : g + t ≤ r) (hg : 1 ≤ g) (ht : 1 ≤ t) (I : Inv g t s) (h1 : small24 s) (hb : s.back = b :: bs) : aft r g t s .answer = some (ans r s b bs) := by
  obtain ⟨q1, q2, q3, q4, q5⟩ := inv_ans hr hg ht I hb
  have h2 := h1.1
  rw [hb] at h2
  simp only [aft, hb]
  exact bd_ok q1 (by rw [q4]; omega) (by rw [q5]; simp at h2; omega) (by rw [q3]; exact h1.2)
theorem again_ok {r g t : Int} {s : W} {i : Int} (hg : 1 ≤ g) (I : Inv g t s) (h1 : s.there.length ≤ 11 ∧ s.back.length ≤ 12) (hgv : s.given ≤ 80) (h3 : s.base ≤ i) (h4 : i < s.given) : aft r g t s (.again i) = some { s with there := s.there ++ [i] } := by
  simp only [aft]
  rw [if_pos ⟨h3, h4⟩]
  exact bd_ok (inv_again hg I h3 h4) (by simp; omega) h1.2 hgv
theorem give_ok {r g t : Int} {s : W} (hg : 1 ≤ g) (I : Inv g t s) (h1 : s.there.length ≤ 11 ∧ s.back.length ≤ 12) (hgv : s.given < 80) (h3 : s.given < s.base + g) : aft r g t s .give = some { s with given := s.given + 1, there := s.there ++ [s.given] } := by
  simp only [aft]
  rw [if_pos h3]
  exact bd_ok (inv_give hg I h3) (by simp; omega) h1.2 (by show s.given + 1 ≤ 80; omega)
def msr24 (s : W) : Nat := 2 * s.there.length + s.back.length + 3 * (s.given - s.base).toNat
/-- at rest -/
structure Rest (s : W) : Prop where
  place : s.place = s.given
  base : s.base = s.given
  kept : s.kept = []
  there : s.there = []
  back : s.back = []
  calm : s.harmed = false
theorem nxt_none {g t : Int} {s : W} (I : Inv g t s) (h : nxt s = none) : Rest s := by
  unfold nxt at h
  split at h
  · cases h
  split at h
  · cases h
  split at h
  · cases h
  rename_i h1 h2 h3
  have := I.bp
  have := I.pg
  refine ⟨by omega, by omega, ?_, by simpa using h1, by simpa using h2, I.calm⟩
  cases hk : s.kept with
  | nil => rfl
  | cons x xs => have := I.kept x (by rw [hk]; simp); omega
theorem leads {r g t : Int} (hr : g + t ≤ r) (hg : 1 ≤ g) (ht : 1 ≤ t) : ∀ (n : Nat) (s : W), Inv g t s → s.kept.length + n ≤ 100 → small24 s → msr24 s ≤ n →
    ∃ es s', Leads r g t s es s' ∧ es.length ≤ n ∧ Inv g t s' ∧ s'.given = s.given ∧ s'.there = [] ∧ ∀ e ∈ es, e = .word ∨ e = .answer ∨ ∃ i, e = .again i ∧ 0 ≤ i ∧ i < s.given := by
  intro n
  induction n using Nat.strongRecOn with
  | _ n ih =>
  intro s I hk hs hm
  have hI := I
  cases hth : s.there with
  | cons i is =>
    have hn : nxt s = some .word := by simp [nxt, hth]
    have ha := word_ok hr hg ht I (by omega) hs hth
    obtain ⟨q1, q2, q3, q4, p, q5, q6, q7⟩ := inv_word hr hg ht I hth (by omega)
    have hlt : msr24 (wrd r t s i is) + 1 ≤ msr24 s := by
      unfold msr24
      rw [q2, q3, q4, q5, hth]
      simp; omega
    have hkl := wrd_kept r t s i is
    have h2 := hs.1
    rw [hth] at h2
    obtain ⟨es, s', l1, l2, l3, l4, l4', l5⟩ := ih (n - 1) (by omega) (wrd r t s i is) q1 (by omega) ⟨by rw [q4, q5]; simp at h2 ⊢; omega, by rw [q3]; exact hs.2⟩ (by omega)
    refine ⟨.word :: es, s', .step hn ha l1, by simp; omega, l3, by rw [l4, q3], l4', fun e he => ?_⟩
    rcases List.mem_cons.mp he with rfl | he
    · exact .inl rfl
    · have := l5 e he
      rwa [q3] at this
  | nil =>
    cases hbk : s.back with
    | cons b bs =>
      have hn : nxt s = some .answer := by simp [nxt, hth, hbk]
      have ha := answer_ok hr hg ht I hs hbk
      obtain ⟨q1, q2, q3, q4, q5⟩ := inv_ans hr hg ht I hbk
      have hbb := (I.back b (by rw [hbk]; simp)).1
      have hlt : msr24 (ans r s b bs) + 1 ≤ msr24 s := by
        unfold msr24
        rw [q2, q3, q4, q5, hbk]
        simp; omega
      have h2 := hs.1
      rw [hbk] at h2
      obtain ⟨es, s', l1, l2, l3, l4, l4', l5⟩ := ih (n - 1) (by omega) (ans r s b bs) q1 (by rw [ans_kept]; omega) ⟨by rw [q4, q5]; simp at h2 ⊢; omega, by rw [q3]; exact hs.2⟩ (by omega)
      refine ⟨.answer :: es, s', .step hn ha l1, by simp; omega, l3, by rw [l4, q3], l4', fun e he => ?_⟩
      rcases List.mem_cons.mp he with rfl | he
      · exact .inr (.inl rfl)
      · have := l5 e he
        rwa [q3] at this
    | nil =>
      by_cases hb : s.base < s.given
      · have hn : nxt s = some (.again s.base) := by simp [nxt, hth, hbk, hb]
        have ha := again_ok (r := r) hg I (by rw [hth, hbk]; simp) hs.2 (Int.le_refl _) hb
        have I1 := inv_again hg I (Int.le_refl _) hb
        generalize hs1 : ({ s with there := s.there ++ [s.base] } : W) = s1 at ha I1
        have t1 : s1.there = [s.base] := by rw [← hs1, hth]; rfl
        have b1 : s1.back = [] := by rw [← hs1]; exact hbk
        have k1 : s1.kept = s.kept := by rw [← hs1]
        have e1 : s1.base = s.base ∧ s1.given = s.given ∧ s1.place = s.place := by rw [← hs1]; exact ⟨rfl, rfl, rfl⟩
        have hn1 : nxt s1 = some .word := by simp [nxt, t1]
        have sm1 : small24 s1 := ⟨by rw [t1, b1]; simp, by rw [e1.2.1]; exact hs.2⟩
        have ha1 := word_ok hr hg ht I1 (by rw [k1]; omega) sm1 t1
        obtain ⟨q1, q2, q3, q4, p, q5, q6, q7⟩ := inv_word hr hg ht I1 t1 (by rw [k1]; omega)
        have hkl := wrd_kept r t s1 s.base []
        generalize wrd r t s1 s.base [] = s2 at *
        have b2 : s2.back = [p] := by rw [q5, b1]; rfl
        have hn2 : nxt s2 = some .answer := by simp [nxt, q4, b2]
        have sm2 : small24 s2 := ⟨by rw [q4, b2]; simp, by rw [q3]; exact sm1.2⟩
        have ha2 := answer_ok hr hg ht q1 sm2 b2
        obtain ⟨z1, z2, z3, z4, z5⟩ := inv_ans hr hg ht q1 b2
        have hak := ans_kept r s2 p []
        generalize ans r s2 p [] = s3 at *
        have hp : s.base < p := by
          by_cases hq : s1.base = s1.place
          · have := q6 rfl hq (by omega) e1.1.symm
            omega
          · have := I1.bp
            omega
        have hlt : msr24 s3 + 3 ≤ msr24 s := by
          unfold msr24
          rw [z2, z3, z4, z5, q4, hth, hbk, q3, e1.2.1]
          simp; omega
        obtain ⟨es, s', l1, l2, l3, l4, l4', l5⟩ := ih (n - 3) (by omega) s3 z1 (by rw [hak]; rw [k1] at hkl; omega) ⟨by rw [z4, z5, q4]; simp, by rw [z3]; exact sm2.2⟩ (by omega)
        refine ⟨.again s.base :: .word :: .answer :: es, s', .step hn ha (.step hn1 ha1 (.step hn2 ha2 l1)), by simp; omega, l3, by rw [l4, z3, q3, e1.2.1], l4', fun e he => ?_⟩
        rw [List.mem_cons, List.mem_cons, List.mem_cons] at he
        rcases he with rfl | rfl | rfl | he
        · exact .inr (.inr ⟨_, rfl, I.b0, hb⟩)
        · exact .inl rfl
        · exact .inr (.inl rfl)
        · have := l5 e he
          rwa [z3, q3, e1.2.1] at this
      · have hn : nxt s = none := by simp [nxt, hth, hbk, hb]
        exact ⟨[], s, .stop hn, Nat.zero_le _, I, rfl, hth, fun e he => by cases he⟩
end L24
end

section
set_option autoImplicit false
set_option linter.all false
set_option maxRecDepth 100000
set_option maxHeartbeats 1000000
namespace L24
open Ev
theorem T_rested : T 113159385147559309554404 = some f_law_rested := rfl
def restT : Ev.T := (.tp (.cons (.nm 3) (.cons (.nm 4) (.cons (.nm 5) (.cons (.nm 6) (.cons (.nm 7) (.cons (.nm 8) (.cons (.nm 9) .nil))))))))
def restI : S := (.ifs (.cmp .ne (.var 7) (.tup .nil)) (.cons (.set 1 (.bin .add (.var 1) (.tup (.cons (.tup (.cons (.lit (.str [119, 111, 114, 100])) .nil)) .nil)))) .nil) (.cons (.ifs (.cmp .ne (.var 8) (.tup .nil)) (.cons (.set 1 (.bin .add (.var 1) (.tup (.cons (.tup (.cons (.lit (.str [97, 110, 115, 119, 101, 114])) .nil)) .nil)))) .nil) (.cons (.ifs (.cmp .lt (.var 3) (.var 4)) (.cons (.set 1 (.bin .add (.var 1) (.tup (.cons (.tup (.cons (.lit (.str [97, 103, 97, 105, 110])) (.cons (.var 3) .nil))) .nil)))) .nil) (.cons (.ret (.var 1)) .nil)) .nil)) .nil))
def restB : Ss := .cons (.sett restT (.call 2317792707409983748951406436 (.cons (.var 0) (.cons (.var 1) .nil)))) (.cons restI .nil)
theorem rested_body : f_law_rested = ⟨2, 10, .cons (.for_ (.nm 2) (.rng1 (.lit (.int 120))) restB) (.cons (.ret (.lit .none)) .nil)⟩ := rfl
theorem rest_store (s : W) (e0 e1 e2 e3 e4 e5 e6 e7 e8 e9 : Option PV) : Ev.T.store restT (.d (stD s)) [e0, e1, e2, e3, e4, e5, e6, e7, e8, e9] = some [e0, e1, e2, some (.d (.int s.base)), some (.d (.int s.given)), some (.d (.int s.place)), some (.d (rowD s.kept)), some (.d (rowD s.there)), some (.d (rowD s.back)), some (.d (.bool s.harmed))] := by
  simp [restT, stD, Ev.T.store, Ts.stores]
theorem evsD_snoc (es : List Evn) (e : Evn) : evsD (es ++ [e]) = .tup (es.map evD ++ [evD e]) := by simp [evsD]
theorem ne_nil_row (h : Hh) (xs : List Int) : cmpop h .ne (.d (rowD xs)) (.d (.tup [])) = some (!xs.isEmpty) := by
  rw [rn_ne, near_tup_nil]
  cases xs <;> simp [rowD, D.eqv, D.eqvs]
theorem rest_turn (k : Nat) (r g t : Int) (es : List Evn) (s : W) (h : Hh) (hz : szOk r g t) (he : ∀ e ∈ es, fitB e) (hl : es.length ≤ 88) (hs : ran r g t W0 es = some s) (e2 e3 e4 e5 e6 e7 e8 e9 : Option PV) :
    evSs ⟨Ev.call T C (k + 6), C⟩ restB [some (.d (sz r g t)), some (.d (evsD es)), e2, e3, e4, e5, e6, e7, e8, e9] h
      = match nxt s with
        | some e => .ok (.nxt [some (.d (sz r g t)), some (.d (evsD (es ++ [e]))), e2, some (.d (.int s.base)), some (.d (.int s.given)), some (.d (.int s.place)), some (.d (rowD s.kept)), some (.d (rowD s.there)), some (.d (rowD s.back)), some (.d (.bool s.harmed))]) h
        | none => .ok (.ret (.d (evsD es))) h := by
  have q := window_behind_eq k r g t es h hz he hl hs
  have hl2 : (es.map evD).length + 1 ≤ LIM := by rw [List.length_map]; unfold LIM; omega
  simp only [restB, rn_ss_cons, rn_s_sett, rn_e_call, rn_es_cons, rn_es_nil, rn_e_var, List.getElem?_cons_zero, List.getElem?_cons_succ, Option.bind_some, id, rn_opt_some, rn_bd_ok, q, rest_store, Option.map_some, rn_flK_nxt]
  have nil : ∀ env, evE ⟨Ev.call T C (k + 6), C⟩ (.tup .nil) env h = .ok (.d (.tup [])) h := fun env => by simp [allD, LIM]
  have w1 : ∀ env, evE ⟨Ev.call T C (k + 6), C⟩ (.tup (.cons (.tup (.cons (.lit (.str [119, 111, 114, 100])) .nil)) .nil)) env h = .ok (.d (.tup [evD .word])) h := fun env => by simp [allD, LIM, evD]
  have w2 : ∀ env, evE ⟨Ev.call T C (k + 6), C⟩ (.tup (.cons (.tup (.cons (.lit (.str [97, 110, 115, 119, 101, 114])) .nil)) .nil)) env h = .ok (.d (.tup [evD .answer])) h := fun env => by simp [allD, LIM, evD]
  have w3 : ∀ e0 e1 e2 (i : Int) e4 e5 e6 e7 e8 e9, evE ⟨Ev.call T C (k + 6), C⟩ (.tup (.cons (.tup (.cons (.lit (.str [97, 103, 97, 105, 110])) (.cons (.var 3) .nil))) .nil)) [e0, e1, e2, some (.d (.int i)), e4, e5, e6, e7, e8, e9] h = .ok (.d (.tup [evD (.again i)])) h := fun e0 e1 e2 i e4 e5 e6 e7 e8 e9 => by simp [allD, LIM, evD]
  simp only [restI, rn_s_ifs, rn_ss_cons, rn_ss_nil, rn_e_cmp, rn_e_var, List.getElem?_cons_zero, List.getElem?_cons_succ, Option.bind_some, id, rn_opt_some, rn_bd_ok, nil, ne_nil_row, Option.map_some, rn_tr_bool, rn_s_set, rn_e_bin, w1, w2, w3, List.set_cons_zero, List.set_cons_succ, rn_lt_int, rn_s_ret, evsD, rn_add_tup, List.length_singleton, hl2, if_true, rn_flK_nxt]
  unfold nxt
  cases hth : s.there with
  | cons i is => simp
  | nil =>
    cases hbk : s.back with
    | cons b bs => simp
    | nil =>
      by_cases hb : s.base < s.given
      · simp [hb]
      · simp [hb]
theorem rest_loop (k : Nat) (r g t : Int) (h : Hh) (hz : szOk r g t) {s s' : W} {more : List Evn} (L : Leads r g t s more s') : ∀ (es : List Evn) (xs : List PV), (∀ e ∈ es, fitB e) → (∀ e ∈ more, fitB e) → es.length + more.length ≤ 88 → ran r g t W0 es = some s → more.length < xs.length → ∀ (e2 e3 e4 e5 e6 e7 e8 e9 : Option PV),
    forGo (evSs ⟨Ev.call T C (k + 6), C⟩ restB) (Ev.T.store (.nm 2)) xs [some (.d (sz r g t)), some (.d (evsD es)), e2, e3, e4, e5, e6, e7, e8, e9] h = .ok (.ret (.d (evsD (es ++ more)))) h := by
  induction L with
  | @stop s hn =>
    intro es xs he _ hl hs hx e2 e3 e4 e5 e6 e7 e8 e9
    cases xs with
    | nil => simp at hx
    | cons x xs =>
      rw [rn_forGo_cons (env' := [some (.d (sz r g t)), some (.d (evsD es)), some x, e3, e4, e5, e6, e7, e8, e9]) _ _ _ _ _ _ rfl, rest_turn k r g t es s h hz he (by simp at hl; omega) hs, hn]
      simp
  | @step s s' s2 e more hn ha L ih =>
    intro es xs he hm hl hs hx e2 e3 e4 e5 e6 e7 e8 e9
    cases xs with
    | nil => simp at hx
    | cons x xs =>
      rw [rn_forGo_cons (env' := [some (.d (sz r g t)), some (.d (evsD es)), some x, e3, e4, e5, e6, e7, e8, e9]) _ _ _ _ _ _ rfl, rest_turn k r g t es s h hz he (by simp at hl; omega) hs, hn]
      simp only [rn_bd_ok]
      rw [ih (es ++ [e]) xs (fun x hx => by
        rcases List.mem_append.mp hx with hx | hx
        · exact he x hx
        · have := List.mem_singleton.mp hx
          subst this
          exact hm x (by simp)) (fun x hx => hm x (by simp [hx])) (by simp at hl ⊢; omega) (by rw [ran_app, hs]; simp [ran, ha]) (by simp at hx; omega)]
      simp
theorem rested_eq (k : Nat) (r g t : Int) (es more : List Evn) (h : Hh) (hz : szOk r g t) {s s' : W} (hs : ran r g t W0 es = some s) (L : Leads r g t s more s') (he : ∀ e ∈ es, fitB e) (hm : ∀ e ∈ more, fitB e) (hl : es.length + more.length ≤ 88) :
    Ev.call T C (k + 7) 113159385147559309554404 [.d (sz r g t), .d (evsD es)] h = .ok (.d (evsD (es ++ more))) h := by
  rw [rn_call T_rested rfl, rested_body]
  have it : ∀ env, evIt ⟨Ev.call T C (k + 6), C⟩ (.rng1 (.lit (.int 120))) env h = .ok (.its (rangeD 0 120 1)) h := fun env => by
    rw [rn_rng1, rn_e_lit]; rfl
  have st : Ev.start 10 [.d (sz r g t), .d (evsD es)] = [some (.d (sz r g t)), some (.d (evsD es)), none, none, none, none, none, none, none, none] := rfl
  have hr : (rangeD 0 120 1).length = 120 := by unfold rangeD; rw [List.length_map, List.length_range]
  have lp := rest_loop k r g t h hz L es (rangeD 0 120 1) he hm hl hs (by omega)
  simp only [st, rn_ss_cons, rn_for, it, rn_bd_ok, lp, rn_flK_ret, rn_defK_ret]
end L24
end

section
set_option autoImplicit false
set_option linter.all false
set_option maxRecDepth 100000
set_option maxHeartbeats 1000000
namespace L24
open Ev
theorem T_walk : T 6906700753645631083 = some f_law_walk := rfl
def walk1 : S := (.set 5 (.lc (.var 7) (.nm 7) [7] (.seq (.call 2317792707409983856587815539 (.cons (.var 1) (.cons (.var 3) .nil)))) (.cons (.cmp .ne (.ix (.var 7) (.lit (.int (0)))) (.lit (.str [116, 117, 114, 110]))) .nil)))
def three : D := .tup [evD .give, evD .word, evD .answer]
def threeE : E := (.tup (.cons (.tup (.cons (.lit (.str [103, 105, 118, 101])) .nil)) (.cons (.tup (.cons (.lit (.str [119, 111, 114, 100])) .nil)) (.cons (.tup (.cons (.lit (.str [97, 110, 115, 119, 101, 114])) .nil)) .nil))))
def walk2 : S := (.set 6 (.lc (.var 7) (.nm 7) [7] (.seq (.var 5)) (.cons (.cmp .isin (.var 7) threeE) .nil)))
def walk3 : S := (.set 3 (.bin .add (.var 3) (.tup (.cons (.call 6906700753637471973 (.cons (.var 0) (.cons (.bin .add (.var 5) (.bin .mul (.var 6) (.lit (.int (3))))) .nil))) .nil))))
def walkB : Ss := .cons walk1 (.cons walk2 (.cons walk3 .nil))
theorem walk_body : f_law_walk = ⟨3, 8, (.cons (.set 3 (.tup .nil)) (.cons (.for_ (.nm 4) (.rng1 (.var 2)) walkB) (.cons (.ret (.var 3)) .nil)))⟩ := rfl
def f1 : D → Option D
  | .tup (x :: xs) => if !(D.eqv x (.str [116, 117, 114, 110])) then some (.tup (x :: xs)) else none
  | _ => none
def f2 (d : D) : Option D := if [evD .give, evD .word, evD .answer].any (fun y => D.eqv y d) then some d else none
theorem threeE_eq (F : Fns) (env : Env) (h : Hh) : evE F threeE env h = .ok (.d three) h := by simp [threeE, three, allD, LIM, evD]
theorem near_three (d : D) : near d three = true := by
  unfold near
  rw [Bool.or_eq_true]
  exact .inr rfl
/-- what can happen next -/
def poss (r g t : Int) (s : W) : List Evn := (allEv s).filter fun e => (aft r g t s e).isSome
theorem lc1 (F : Fns) (e0 e1 e2 e3 e4 e5 e6 e7 : Option PV) (L : List D) (hL : ∀ d ∈ L, ∃ e, d = evD e) (hl : L.length ≤ 10000) (h : Hh) :
    lcGo (lcE F (.var 7) (.cons (.cmp .ne (.ix (.var 7) (.lit (.int (0)))) (.lit (.str [116, 117, 114, 110]))) .nil)) (Ev.T.store (.nm 7)) (wipe [e0, e1, e2, e3, e4, e5, e6, e7] [7]) (L.map PV.d) [] h = .ok (.d (.list (L.filterMap f1))) h := by
  have := rn_lcGo (elt := lcE F (.var 7) (.cons (.cmp .ne (.ix (.var 7) (.lit (.int (0)))) (.lit (.str [116, 117, 114, 110]))) .nil)) (st := Ev.T.store (.nm 7)) (env := wipe [e0, e1, e2, e3, e4, e5, e6, e7] [7]) (h := h) f1 L [] (fun d hd => by
    obtain ⟨e, rfl⟩ := hL d hd
    refine ⟨_, rfl, ?_⟩
    rw [evD_L]
    have hp : place ((evL e).1 :: (evL e).2).length 0 = some 0 := by simp [place]
    cases hq : D.eqv (evL e).1 (.str [116, 117, 114, 110]) with
    | true =>
      have : near (evL e).1 (.str [116, 117, 114, 110]) = true := by unfold near; simp [D.shal]
      simp [lcE, wipe, f1, hq, this, place]
    | false =>
      have : near (evL e).1 (.str [116, 117, 114, 110]) = true := by unfold near; simp [D.shal]
      simp [lcE, wipe, f1, hq, this, place]) (by simp; unfold LIM; omega)
  simpa using this
theorem lc2 (F : Fns) (e0 e1 e2 e3 e4 e5 e6 e7 : Option PV) (L : List D) (hl : L.length ≤ 10000) (h : Hh) :
    lcGo (lcE F (.var 7) (.cons (.cmp .isin (.var 7) threeE) .nil)) (Ev.T.store (.nm 7)) (wipe [e0, e1, e2, e3, e4, e5, e6, e7] [7]) (L.map PV.d) [] h = .ok (.d (.list (L.filterMap f2))) h := by
  have := rn_lcGo (elt := lcE F (.var 7) (.cons (.cmp .isin (.var 7) threeE) .nil)) (st := Ev.T.store (.nm 7)) (env := wipe [e0, e1, e2, e3, e4, e5, e6, e7] [7]) (h := h) f2 L [] (fun d hd => by
    refine ⟨_, rfl, ?_⟩
    have hi : ∀ h, cmpop h .isin (.d d) (.d three) = some ([evD .give, evD .word, evD .answer].any fun y => D.eqv y d) := fun h => by
      have := near_three d
      unfold three at this ⊢
      rw [rn_in_tup, this, if_pos rfl]
    cases hq : [evD .give, evD .word, evD .answer].any (fun y => D.eqv y d) with
    | true =>
      rw [hq] at hi
      have hf : f2 d = some d := by rw [f2, hq]; rfl
      simp [lcE, wipe, hf, threeE_eq, hi]
    | false =>
      rw [hq] at hi
      have hf : f2 d = none := by rw [f2, hq]; rfl
      simp [lcE, wipe, hf, threeE_eq, hi]) (by simp; unfold LIM; omega)
  simpa using this
theorem f1_mem {d x : D} (h : f1 d = some x) : x = d := by
  unfold f1 at h
  split at h
  · split at h
    · cases h; rfl
    · cases h
  · cases h
theorem f2_mem {d x : D} (h : f2 d = some x) : x = d := by
  unfold f2 at h
  split at h
  · cases h; rfl
  · cases h
theorem mem_sortD {x : D} {L : List D} : x ∈ sortD L ↔ x ∈ L := by
  unfold sortD
  exact List.mem_mergeSort
theorem poss_spec {r g t : Int} {s : W} {e : Evn} (h : e ∈ poss r g t s) : e ∈ allEv s ∧ ∃ s', aft r g t s e = some s' := by
  obtain ⟨h1, h2⟩ := List.mem_filter.mp h
  exact ⟨h1, Option.isSome_iff_exists.mp h2⟩
/-- an event that can happen -/
theorem poss_one {r g t : Int} {s : W} (hr : g + t ≤ r) (hg : 1 ≤ g) (ht : 1 ≤ t) (I : Inv g t s) (hk : s.kept.length ≤ 100) (h1 : s.there.length + s.back.length ≤ 11) (h2 : s.given < 80) : ∃ e ∈ poss r g t s, ∃ d, f1 (evD e) = some d := by
  cases hth : s.there with
  | cons i is =>
    refine ⟨.word, List.mem_filter.mpr ⟨by simp [allEv], ?_⟩, _, rfl⟩
    rw [word_ok hr hg ht I hk ⟨by omega, by omega⟩ hth]; rfl
  | nil =>
    rw [hth] at h1
    simp at h1
    by_cases hb : s.given < s.base + g
    · refine ⟨.give, List.mem_filter.mpr ⟨by simp [allEv], ?_⟩, _, rfl⟩
      rw [give_ok hg I ⟨by rw [hth]; simp, by omega⟩ h2 hb]; rfl
    · have hlt : s.base < s.given := by omega
      refine ⟨.again s.base, List.mem_filter.mpr ⟨?_, ?_⟩, _, rfl⟩
      · simp only [allEv, List.mem_append, agains, List.mem_map, List.mem_range]
        left; left; left; left; left; left; right
        exact ⟨0, by omega, by simp⟩
      · rw [again_ok hg I ⟨by rw [hth]; simp, by omega⟩ (by omega) (Int.le_refl _) hlt]; rfl
theorem allEv_fit {s : W} {e : Evn} (h0 : 0 ≤ s.base) (hg : s.given ≤ 81) (h : e ∈ allEv s) : fitB e := by
  simp only [allEv, List.mem_append, lineRow, agains, List.mem_map, List.mem_cons, List.mem_range] at h
  rcases h with (((((((h | h) | h) | h) | h) | h) | h) | h)
  · rcases h with rfl | rfl | rfl | h
    · trivial
    · trivial
    · trivial
    · cases h
  · obtain ⟨k, hk, rfl⟩ := h
    exact ⟨by omega, by omega⟩
  · obtain ⟨n, hn, rfl⟩ := h; exact ⟨.inl rfl, by omega⟩
  · obtain ⟨n, hn, rfl⟩ := h; exact ⟨.inl rfl, by omega⟩
  · obtain ⟨n, hn, rfl⟩ := h; exact ⟨.inr (.inl rfl), by omega⟩
  · obtain ⟨n, hn, rfl⟩ := h; exact ⟨.inr (.inl rfl), by omega⟩
  · obtain ⟨n, hn, rfl⟩ := h; exact ⟨.inr (.inr rfl), by omega⟩
  · obtain ⟨n, hn, rfl⟩ := h; exact ⟨.inr (.inr rfl), by omega⟩
theorem allEv_len {s : W} (h0 : 0 ≤ s.base) (hg : s.given ≤ 81) : (allEv s).length ≤ 200 := by
  simp [allEv, agains, lineRow]; omega
theorem walk_turn (k : Nat) (r g t : Int) (es : List Evn) (s : W) (hz : szOk r g t) (hr : g + t ≤ r) (I : Inv g t s) (he : ∀ e ∈ es, fitB e) (hl : es.length ≤ 20) (hs : ran r g t W0 es = some s) (hk : s.kept.length ≤ 20) (hln : s.there.length + s.back.length ≤ 11) (hgv : s.given < 80) (a b : Int) (ha : 0 ≤ a) (e2 e4 e5 e6 e7 : Option PV) :
    ∃ e s' a' b' v5 v6, evSs ⟨Ev.call T C (k + 6), C⟩ walkB [some (.ref 0), some (.d (sz r g t)), e2, some (.d (evsD es)), e4, e5, e6, e7] (cup a b)
      = .ok (.nxt [some (.ref 0), some (.d (sz r g t)), e2, some (.d (evsD (es ++ [e]))), e4, v5, v6, e7]) (cup a' b') ∧ 0 ≤ a' ∧ fitB e ∧ aft r g t s e = some s' := by
  have hb0 := I.b0
  have hbp := I.bp
  have hpg := I.pg
  have q := window_events_eq k r g t es (cup a b) hz he (by omega) hs ⟨by omega, by omega, by omega⟩ ⟨hb0, by omega⟩ ⟨by omega, by omega⟩
  have hpe : ((allEv s).filter fun e => (aft r g t s e).isSome) = poss r g t s := rfl
  rw [hpe] at q
  have hlen : (sortD ((poss r g t s).map evD)).length ≤ 200 := by
    unfold sortD
    rw [List.length_mergeSort, List.length_map]
    exact Nat.le_trans (List.length_filter_le _ _) (allEv_len hb0 (by omega))
  have hmem : ∀ d ∈ sortD ((poss r g t s).map evD), ∃ e ∈ poss r g t s, d = evD e := fun d hd => by
    obtain ⟨e, h1, h2⟩ := List.mem_map.mp (mem_sortD.mp hd)
    exact ⟨e, h1, h2.symm⟩
  obtain ⟨ep, hp1, dp, hp2⟩ := poss_one hr hz.2.1.1 hz.2.2.1 I (by omega) hln hgv
  have hpm : evD ep ∈ sortD ((poss r g t s).map evD) := mem_sortD.mpr (List.mem_map.mpr ⟨ep, hp1, rfl⟩)
  generalize sortD ((poss r g t s).map evD) = SL at q hlen hmem hpm
  have c1 := lc1 ⟨Ev.call T C (k + 6), C⟩ (some (.ref 0)) (some (.d (sz r g t))) e2 (some (.d (evsD es))) e4 e5 e6 e7 SL (fun d hd => by obtain ⟨e, _, h⟩ := hmem d hd; exact ⟨e, h⟩) (by omega) (cup a b)
  have c2 := lc2 ⟨Ev.call T C (k + 6), C⟩ (some (.ref 0)) (some (.d (sz r g t))) e2 (some (.d (evsD es))) e4 (some (.d (.list (SL.filterMap f1)))) e6 e7 (SL.filterMap f1) (Nat.le_trans (List.length_filterMap_le _ _) (by omega)) (cup a b)
  have l1 : (SL.filterMap f1).length ≤ 200 := Nat.le_trans (List.length_filterMap_le _ _) hlen
  have l2 : ((SL.filterMap f1).filterMap f2).length ≤ 200 := Nat.le_trans (List.length_filterMap_le _ _) l1
  have m1 : dp ∈ SL.filterMap f1 := List.mem_filterMap.mpr ⟨_, hpm, hp2⟩
  have m2 : ∀ d ∈ SL.filterMap f1, ∃ e ∈ poss r g t s, d = evD e := fun d hd => by
    obtain ⟨x, h1, h2⟩ := List.mem_filterMap.mp hd
    rw [f1_mem h2]
    exact hmem x h1
  have m3 : ∀ d ∈ (SL.filterMap f1).filterMap f2, ∃ e ∈ poss r g t s, d = evD e := fun d hd => by
    obtain ⟨x, h1, h2⟩ := List.mem_filterMap.mp hd
    rw [f2_mem h2]
    exact m2 x h1
  generalize hA : SL.filterMap f1 = A at c1 c2 l1 l2 m1 m2 m3
  generalize hB : A.filterMap f2 = B at c2 l2 m3
  have hrl : (List.replicate 3 B).flatten.length ≤ 600 := by simp; omega
  have hmu : ∀ h, binop h .mul (.d (.list B)) (.d (.int 3)) = some (.d (.list (List.replicate 3 B).flatten)) := fun h => by
    show (if _ then _ else _) = _
    rw [if_pos]
    · rfl
    · simp; omega
  have m4 : ∀ d ∈ A ++ (List.replicate 3 B).flatten, ∃ e ∈ poss r g t s, d = evD e := fun d hd => by
    rcases List.mem_append.mp hd with hd | hd
    · exact m2 d hd
    · rw [List.mem_flatten] at hd
      obtain ⟨l, h1, h2⟩ := hd
      rw [(List.mem_replicate.mp h1).2] at h2
      exact m3 d h2
  have hadd : A.length + (List.replicate 3 B).flatten.length ≤ LIM := by unfold LIM; omega
  have l3 : 0 < (A ++ (List.replicate 3 B).flatten).length := by
    rw [List.length_append]
    have := List.length_pos_of_mem m1
    omega
  have l4 : (A ++ (List.replicate 3 B).flatten).length ≤ 10000 := by rw [List.length_append]; omega
  generalize (List.replicate 3 B).flatten = B3 at hmu m4 l3 l4 hadd
  obtain ⟨d, a', b', hsome, hd, ha'⟩ := some_eq (k + 4) a b (A ++ B3) ha l3 l4
  obtain ⟨e, hep, rfl⟩ := m4 d hd
  obtain ⟨hal, s', haft⟩ := poss_spec hep
  refine ⟨e, s', a', b', some (.d (.list A)), some (.d (.list B)), ?_, ha', allEv_fit hb0 (by omega) hal, haft⟩
  have hl2 : (es.map evD).length + 1 ≤ LIM := by rw [List.length_map]; unfold LIM; omega
  have hev : evsD (es ++ [e]) = .tup (es.map evD ++ [evD e]) := evsD_snoc es e
  rw [hev]
  have one : (1 : Nat) ≤ LIM := by decide
  have hadd2 : ∀ h, binop h .add (.d (evsD es)) (.d (.tup [evD e])) = some (.d (.tup (es.map evD ++ [evD e]))) := fun h => by
    rw [evsD, rn_add_tup, List.length_singleton, if_pos hl2]
  simp only [walkB, walk1, walk2, walk3, rn_ss_cons, rn_ss_nil, rn_s_set, rn_lc, rn_its_tup, rn_e_call, rn_es_cons, rn_es_nil, rn_e_var, List.getElem?_cons_zero, List.getElem?_cons_succ, Option.bind_some, id, rn_opt_some, rn_bd_ok, q, c1, rn_flK_nxt, List.set_cons_zero, List.set_cons_succ]
  simp only [rn_bd_ok, c2, rn_flK_nxt, rn_ss_cons, rn_s_set, List.set_cons_zero, List.set_cons_succ, rn_e_bin, rn_e_var, List.getElem?_cons_zero, List.getElem?_cons_succ, Option.bind_some, id, rn_opt_some, rn_e_tup, rn_es_cons, rn_es_nil, rn_e_call, rn_e_lit, hmu, rn_add_list, hadd, if_true, hsome, allD, List.length_singleton, one, Option.map_some, hadd2, rn_ss_nil]
theorem walk_loop (k : Nat) (r g t : Int) (hz : szOk r g t) (hr : g + t ≤ r) : ∀ (xs : List PV) (es : List Evn) (s : W) (a b : Int) (e2 e4 e5 e6 e7 : Option PV), Inv g t s → (∀ e ∈ es, fitB e) → es.length + xs.length ≤ 10 → ran r g t W0 es = some s → s.kept.length ≤ es.length → s.there.length + s.back.length ≤ es.length → s.given ≤ es.length → 0 ≤ a →
    ∃ es' s' a' b' v4 v5 v6, forGo (evSs ⟨Ev.call T C (k + 6), C⟩ walkB) (Ev.T.store (.nm 4)) xs [some (.ref 0), some (.d (sz r g t)), e2, some (.d (evsD es)), e4, e5, e6, e7] (cup a b)
      = .ok (.nxt [some (.ref 0), some (.d (sz r g t)), e2, some (.d (evsD es')), v4, v5, v6, e7]) (cup a' b') ∧ 0 ≤ a' ∧ Inv g t s' ∧ (∀ e ∈ es', fitB e) ∧ es'.length ≤ 10 ∧ ran r g t W0 es' = some s' ∧ s'.kept.length ≤ 10 ∧ s'.there.length + s'.back.length ≤ 10 ∧ s'.given ≤ 10
  | [], es, s, a, b, e2, e4, e5, e6, e7, I, he, hl, hs, h1, h2, h3, ha => by
    simp at hl
    exact ⟨es, s, a, b, e4, e5, e6, rfl, ha, I, he, hl, hs, by omega, by omega, by omega⟩
  | x :: xs, es, s, a, b, e2, e4, e5, e6, e7, I, he, hl, hs, h1, h2, h3, ha => by
    simp at hl
    obtain ⟨e, s', a', b', v5, v6, q1, q2, q3, q4⟩ := walk_turn k r g t es s hz hr I he (by omega) hs (by omega) (by omega) (by omega) a b ha e2 (some x) e5 e6 e7
    obtain ⟨i1, i2, i3, i4, i5, i6⟩ := inv_aft hr hz.2.1.1 hz.2.2.1 I (by omega) q4
    obtain ⟨j1, j2, j3⟩ := aft_len q4
    obtain ⟨es', s2, a2, b2, v4', v5', v6', w1, w2⟩ := walk_loop k r g t hz hr xs (es ++ [e]) s' a' b' e2 (some x) v5 v6 e7 i1 (fun y hy => by
        rcases List.mem_append.mp hy with hy | hy
        · exact he y hy
        · have := List.mem_singleton.mp hy
          subst this
          exact q3) (by simp; omega) (by rw [ran_app, hs]; simp [ran, q4]) (by simp; omega) (by simp; omega) (by simp; omega) q2
    refine ⟨es', s2, a2, b2, v4', v5', v6', ?_, w2⟩
    rw [rn_forGo_cons (env' := [some (.ref 0), some (.d (sz r g t)), e2, some (.d (evsD es)), some x, e5, e6, e7]) _ _ _ _ _ _ rfl, q1]
    exact w1
theorem walk_eq (k : Nat) (r g t : Int) (hz : szOk r g t) (hr : g + t ≤ r) (a b : Int) (ha : 0 ≤ a) : ∃ es s a' b', Ev.call T C (k + 7) 6906700753645631083 [.ref 0, .d (sz r g t), .d (.int 10)] (cup a b) = .ok (.d (evsD es)) (cup a' b') ∧ 0 ≤ a' ∧ Inv g t s ∧ (∀ e ∈ es, fitB e) ∧ es.length ≤ 10 ∧ ran r g t W0 es = some s ∧ s.kept.length ≤ 10 ∧ s.there.length + s.back.length ≤ 10 ∧ s.given ≤ 10 := by
  have hxl : (rangeD 0 10 1).length = 10 := by simp [rangeD]
  obtain ⟨es', s', a', b', v4, v5, v6, q1, q2, q3, q4, q5, q6, q7⟩ := walk_loop k r g t hz hr (rangeD 0 10 1) [] W0 a b (some (.d (.int 10))) none none none none (inv0 g t hz.2.1.1) (fun e he => by cases he) (by rw [hxl]; simp) rfl (by simp [W0]) (by simp [W0]) (by simp [W0]) ha
  refine ⟨es', s', a', b', ?_, q2, q3, q4, q5, q6, q7⟩
  rw [rn_call T_walk rfl, walk_body]
  have st : Ev.start 8 [.ref 0, .d (sz r g t), .d (.int 10)] = [some (.ref 0), some (.d (sz r g t)), some (.d (.int 10)), none, none, none, none, none] := rfl
  have nil : ∀ env, evE ⟨Ev.call T C (k + 6), C⟩ (.tup .nil) env (cup a b) = .ok (.d (.tup [])) (cup a b) := fun env => by simp [allD, LIM]
  have it : ∀ e0 e1 e3 e4 e5 e6 e7, evIt ⟨Ev.call T C (k + 6), C⟩ (.rng1 (.var 2)) [e0, e1, some (.d (.int 10)), e3, e4, e5, e6, e7] (cup a b) = .ok (.its (rangeD 0 10 1)) (cup a b) := fun e0 e1 e3 e4 e5 e6 e7 => by
    rw [rn_rng1]; rfl
  have hev : (evsD [] : D) = .tup [] := rfl
  rw [hev] at q1
  simp only [st, rn_ss_cons, rn_s_set, nil, rn_bd_ok, rn_flK_nxt, List.set_cons_zero, List.set_cons_succ, rn_for, it, q1, rn_s_ret, rn_e_var, List.getElem?_cons_zero, List.getElem?_cons_succ, Option.bind_some, id, rn_opt_some, rn_flK_ret, rn_defK_ret]
end L24
end

section
set_option autoImplicit false
set_option linter.all false
set_option maxRecDepth 100000
set_option maxHeartbeats 1000000
namespace L24
open Ev
theorem T_right : T 884057696465315296372 = some f_law_right := rfl
theorem rest_D {s : W} (R : Rest s) : stD s = .tup [.int s.given, .int s.given, .int s.given, .tup [], .tup [], .tup [], .bool false] := by
  obtain ⟨h1, h2, h3, h4, h5, h6⟩ := R
  unfold stD
  rw [h1, h2, h3, h4, h5, h6]; rfl
/-- a further word goes through -/
theorem rest_more {r g t : Int} {s : W} (hr : g + t ≤ r) (hg : 1 ≤ g) (ht : 1 ≤ t) (I : Inv g t s) (R : Rest s) (hgv : s.given ≤ 60) : ∃ s', ran r g t s [.give, .word, .answer] = some s' ∧ Rest s' ∧ s'.given = s.given + 1 := by
  have hth := R.there
  have hbk := R.back
  have hbs := R.base
  have hpl := R.place
  have hgv0 : s.given < s.base + g := by omega
  have ha := give_ok (r := r) hg I (by rw [hth, hbk]; simp) (by omega) hgv0
  have I1 := inv_give hg I hgv0
  generalize hs1 : ({ s with given := s.given + 1, there := s.there ++ [s.given] } : W) = s1 at ha I1
  have t1 : s1.there = [s.given] := by rw [← hs1, hth]; rfl
  have b1 : s1.back = [] := by rw [← hs1]; exact hbk
  have k1 : s1.kept = [] := by rw [← hs1]; exact R.kept
  have e1 : s1.base = s.base ∧ s1.given = s.given + 1 ∧ s1.place = s.place := by rw [← hs1]; exact ⟨rfl, rfl, rfl⟩
  have sm1 : small24 s1 := ⟨by rw [t1, b1]; simp, by omega⟩
  have ha1 := word_ok hr hg ht I1 (by rw [k1]; simp) sm1 t1
  obtain ⟨q1, q2, q3, q4, p, q5, q6, q7⟩ := inv_word hr hg ht I1 t1 (by rw [k1]; simp)
  have hkl := wrd_kept r t s1 s.given []
  generalize wrd r t s1 s.given [] = s2 at *
  have b2 : s2.back = [p] := by rw [q5, b1]; rfl
  have sm2 : small24 s2 := ⟨by rw [q4, b2]; simp, by omega⟩
  have ha2 := answer_ok hr hg ht q1 sm2 b2
  obtain ⟨z1, z2, z3, z4, z5⟩ := inv_ans hr hg ht q1 b2
  have hp : s1.base < p := q6 rfl (by omega) (by omega) (by omega)
  have hp2 := (q1.back p (by rw [b2]; simp)).2
  have hp3 := q1.pg
  generalize ans r s2 p [] = s3 at *
  refine ⟨s3, by simp only [ran, ha, ha1, ha2], nxt_none z1 ?_, by omega⟩
  unfold nxt
  rw [z4, z5, q4, if_neg (by simp), if_neg (by simp), if_neg (by omega)]
def rightT : Ev.T := (.tp (.cons (.nm 4) (.cons (.nm 5) (.cons (.nm 6) (.cons (.nm 7) (.cons (.nm 8) (.cons (.nm 9) (.cons (.nm 10) .nil))))))))
theorem right_store (a b c d e f g : D) (e0 e1 e2 e3 e4 e5 e6 e7 e8 e9 e10 e11 : Option PV) : Ev.T.store rightT (.d (.tup [a, b, c, d, e, f, g])) [e0, e1, e2, e3, e4, e5, e6, e7, e8, e9, e10, e11] = some [e0, e1, e2, e3, some (.d a), some (.d b), some (.d c), some (.d d), some (.d e), some (.d f), some (.d g), e11] := by
  simp [rightT, Ev.T.store, Ts.stores]
def right5 : S := (.ifs (.cmp .ne (.tup (.cons (.var 4) (.cons (.var 6) (.cons (.var 7) (.cons (.var 8) (.cons (.var 9) (.cons (.var 10) .nil))))))) (.tup (.cons (.var 5) (.cons (.var 5) (.cons (.tup .nil) (.cons (.tup .nil) (.cons (.tup .nil) (.cons (.lit (.bool false)) .nil)))))))) (.cons (.ret (.lit (.bool false))) .nil) .nil)
def threeMore : E := (.tup (.cons (.tup (.cons (.lit (.str [103, 105, 118, 101])) .nil)) (.cons (.tup (.cons (.lit (.str [119, 111, 114, 100])) .nil)) (.cons (.tup (.cons (.lit (.str [97, 110, 115, 119, 101, 114])) .nil)) .nil))))
def right7 : E := (.tup (.cons (.bin .add (.var 5) (.lit (.int (1)))) (.cons (.bin .add (.var 5) (.lit (.int (1)))) (.cons (.bin .add (.var 5) (.lit (.int (1)))) (.cons (.tup .nil) (.cons (.tup .nil) (.cons (.tup .nil) (.cons (.lit (.bool false)) .nil))))))))
theorem right_body : f_law_right = ⟨2, 12, (.cons (.set 2 (.call 6906700753645631083 (.cons (.var 0) (.cons (.var 1) (.cons (.lit (.int (10))) .nil))))) (.cons (.set 3 (.call 113159385147559309554404 (.cons (.var 1) (.cons (.var 2) .nil)))) (.cons (.ifs (.or (.isc false (.var 3) .none) (.cmp .lt (.bl .len (.cons (.var 3) .nil)) (.bl .len (.cons (.var 2) .nil)))) (.cons (.ret (.lit (.bool false))) .nil) .nil) (.cons (.sett rightT (.call 2317792707409983748951406436 (.cons (.var 1) (.cons (.var 3) .nil)))) (.cons right5 (.cons (.set 11 (.bin .add (.var 3) threeMore)) (.cons (.ret (.cmp .eq (.call 2317792707409983748951406436 (.cons (.var 1) (.cons (.var 11) .nil))) right7)) .nil)))))))⟩ := rfl
theorem rest_near (x : D) (a b c : Int) : near x (.tup [.int a, .int b, .int c, .tup [], .tup [], .tup [], .bool false]) = true := by
  unfold near; rw [Bool.or_eq_true]; exact .inr rfl
theorem rest_near6 (x : D) (a b : Int) : near x (.tup [.int a, .int b, .tup [], .tup [], .tup [], .bool false]) = true := by
  unfold near; rw [Bool.or_eq_true]; exact .inr rfl
theorem rest_eqv (a b c : Int) : D.eqv (.tup [.int a, .int b, .int c, .tup [], .tup [], .tup [], .bool false]) (.tup [.int a, .int b, .int c, .tup [], .tup [], .tup [], .bool false]) = true := by
  simp [D.eqv, D.eqvs]
theorem rest_eqv6 (a b : Int) : D.eqv (.tup [.int a, .int b, .tup [], .tup [], .tup [], .bool false]) (.tup [.int a, .int b, .tup [], .tup [], .tup [], .bool false]) = true := by
  simp [D.eqv, D.eqvs]
theorem right_eq (k : Nat) (r g t : Int) (hz : szOk r g t) (hr : g + t ≤ r) (a b : Int) (ha : 0 ≤ a) : ∃ a' b', Ev.call T C (k + 8) 884057696465315296372 [.ref 0, .d (sz r g t)] (cup a b) = .ok (.d (.bool true)) (cup a' b') ∧ 0 ≤ a' := by
  have hg := hz.2.1.1
  have ht := hz.2.2.1
  obtain ⟨es, s, a', b', w1, w2, w3, w4, w5, w6, w7, w8, w9⟩ := walk_eq k r g t hz hr a b ha
  have hgb := w3.gb
  have hbp := w3.bp
  have hg8 := hz.2.1.2
  have hms : msr24 s ≤ 44 := by unfold msr24; omega
  obtain ⟨more, s', l1, l2, l3, l4, _, l5⟩ := leads hr hg ht 44 s w3 (by omega) ⟨by omega, by omega⟩ hms
  have hm : ∀ e ∈ more, fitB e := fun e he => by
    rcases l5 e he with rfl | rfl | ⟨i, rfl, i1, i2⟩
    · trivial
    · trivial
    · exact ⟨i1, by omega⟩
  have hre := rested_eq k r g t es more (cup a' b') hz w6 l1 w4 hm (by omega)
  have hrn : ran r g t W0 (es ++ more) = some s' := by rw [ran_app, w6]; exact l1.ran
  have hR : Rest s' := by
    have : ∀ {s s' : W} {es : List Evn}, Leads r g t s es s' → nxt s' = none := fun L => by
      induction L with
      | stop h => exact h
      | step _ _ _ ih => exact ih
    exact nxt_none l3 (this l1)
  have hfit : ∀ e ∈ es ++ more, fitB e := fun e he => by
    rcases List.mem_append.mp he with he | he
    · exact w4 e he
    · exact hm e he
  have hlen : (es ++ more).length ≤ 54 := by rw [List.length_append]; omega
  have hwb := window_behind_eq (k + 1) r g t (es ++ more) (cup a' b') hz hfit (by omega) hrn
  rw [rest_D hR] at hwb
  obtain ⟨s2, m1, m2, m3⟩ := rest_more hr hg ht l3 hR (by omega)
  have hrn2 : ran r g t W0 ((es ++ more) ++ [.give, .word, .answer]) = some s2 := by rw [ran_app, hrn]; exact m1
  have hwb2 := window_behind_eq (k + 1) r g t ((es ++ more) ++ [.give, .word, .answer]) (cup a' b') hz (fun e he => by
    rcases List.mem_append.mp he with he | he
    · exact hfit e he
    · rcases List.mem_cons.mp he with rfl | he
      · trivial
      rcases List.mem_cons.mp he with rfl | he
      · trivial
      rcases List.mem_cons.mp he with rfl | he
      · trivial
      · cases he) (by rw [List.length_append]; simp at hlen ⊢; omega) hrn2
  rw [rest_D m2, m3] at hwb2
  have hll : es.length ≤ (es ++ more).length := by rw [List.length_append]; omega
  generalize es ++ more = fs at *
  have hadd : ∀ h, binop h .add (.d (evsD fs)) (.d (.tup [evD .give, evD .word, evD .answer])) = some (.d (evsD (fs ++ [.give, .word, .answer]))) := fun h => by
    have : (fs.map evD).length + 3 ≤ LIM := by rw [List.length_map]; unfold LIM; omega
    rw [evsD, rn_add_tup]
    show (if (fs.map evD).length + 3 ≤ LIM then _ else _) = _
    rw [if_pos this]
    simp [evsD]
  have e3 : ∀ env h, evE ⟨Ev.call T C (k + 7), C⟩ threeMore env h = .ok (.d (.tup [evD .give, evD .word, evD .answer])) h := fun env h => by simp [threeMore, allD, LIM, evD]
  have nn : isC (.d (evsD fs)) .none = some false := rfl
  have lf : ∀ h, blt h .len [.d (evsD fs)] = some (.d (.int fs.length)) := fun h => by simp [evsD]
  have le : ∀ h, blt h .len [.d (evsD es)] = some (.d (.int es.length)) := fun h => by simp [evsD]
  have hlt : decide ((fs.length : Int) < (es.length : Int)) = false := decide_eq_false (by omega)
  have e5 : ∀ e0 e1 e2 e3 (i : Int) e11 h, evS ⟨Ev.call T C (k + 7), C⟩ right5 [e0, e1, e2, e3, some (.d (.int i)), some (.d (.int i)), some (.d (.int i)), some (.d (.tup [])), some (.d (.tup [])), some (.d (.tup [])), some (.d (.bool false)), e11] h = .ok (.nxt [e0, e1, e2, e3, some (.d (.int i)), some (.d (.int i)), some (.d (.int i)), some (.d (.tup [])), some (.d (.tup [])), some (.d (.tup [])), some (.d (.bool false)), e11]) h := fun e0 e1 e2 e3 i e11 h => by
    simp [right5, allD, LIM, rest_near6, rest_eqv6]
  have e7 : ∀ e0 e1 e2 e3 (i : Int) e4 e6 e7 e8 e9 e10 e11 h, evE ⟨Ev.call T C (k + 7), C⟩ right7 [e0, e1, e2, e3, e4, some (.d (.int i)), e6, e7, e8, e9, e10, e11] h = .ok (.d (.tup [.int (i + 1), .int (i + 1), .int (i + 1), .tup [], .tup [], .tup [], .bool false])) h := fun e0 e1 e2 e3 i e4 e6 e7 e8 e9 e10 e11 h => by
    simp [right7, allD, LIM]
  have st : Ev.start 12 [.ref 0, .d (sz r g t)] = [some (.ref 0), some (.d (sz r g t)), none, none, none, none, none, none, none, none, none, none] := rfl
  refine ⟨a', b', ?_, w2⟩
  rw [rn_call T_right rfl, right_body]
  simp only [st, rn_ss_cons, rn_s_set, rn_e_call, rn_es_cons, rn_es_nil, rn_e_var, rn_e_lit, List.getElem?_cons_zero, List.getElem?_cons_succ, Option.bind_some, id, rn_opt_some, rn_bd_ok, w1, rn_flK_nxt, List.set_cons_zero, List.set_cons_succ, hre, rn_s_ifs, rn_e_or, rn_e_isc, nn, Option.map_some, rn_tr_bool, Bool.false_eq_true, if_false, rn_e_cmp, rn_e_bl, lf, le, rn_lt_int, hlt, rn_ss_nil, rn_s_sett, hwb, right_store, e5, rn_e_bin, e3, hadd, rn_s_ret, hwb2, e7, rn_eq, rest_near, rest_eqv, if_true, rn_flK_ret, rn_defK_ret]
end L24
end

section
set_option autoImplicit false
set_option linter.all false
set_option maxRecDepth 100000
set_option maxHeartbeats 1000000
namespace L24
open Ev
def harmL (r g t : Int) : List Evn := if r < g then List.replicate (r + 1).toNat .give ++ List.replicate r.toNat (.line sLose true 0) ++ [.word] else List.replicate g.toNat .give ++ List.replicate g.toNat .word ++ [.again 0, .word]
def chk (r g t : Int) : Bool := match ran r g t W0 (harmL r g t) with
  | some s => s.harmed && decide (0 ≤ s.base ∧ s.given ≤ 80 ∧ 0 ≤ s.given ∧ s.base ≤ 80) && decide ((harmL r g t).length ≤ 20)
  | none => false
theorem chk_all : ∀ g ∈ [(1 : Int), 2, 3, 4], ∀ t ∈ [(1 : Int), 2, 3, 4], ∀ q ∈ [(0 : Int), 1], chk (if 1 < g + t - 1 - q then g + t - 1 - q else 1) g t = true := by decide +kernel
def goF (r g t : Int) : Nat → W → Option (List Evn)
  | 0, _ => none
  | n + 1, s => match nxt s with
    | none => some []
    | some e => match aft r g t s e with
      | none => none
      | some s' => (goF r g t n s').map (e :: ·)
theorem goF_leads (r g t : Int) : ∀ (n : Nat) (s : W) (es : List Evn), goF r g t n s = some es → ∃ s', Leads r g t s es s'
  | 0, s, es, h => by simp [goF] at h
  | n + 1, s, es, h => by
    unfold goF at h
    split at h
    · rename_i hn
      cases h
      exact ⟨s, .stop hn⟩
    · rename_i e hn
      split at h
      · cases h
      · rename_i s1 ha
        obtain ⟨es', h1, h2⟩ := Option.map_eq_some_iff.mp h
        obtain ⟨s2, L⟩ := goF_leads r g t n s1 es' h1
        subst h2
        exact ⟨s2, .step hn ha L⟩
def lawQ : List Evn := [.give, .give, .line sLose true 0, .word, .line sLose false 0]
theorem q1 : (ran 3 2 1 W0 lawQ).bind (goF 3 2 1 20) = some [.again 0, .word, .answer, .again 1, .word, .answer] := by decide +kernel
theorem srt2 : ([1, 0] : List Int).mergeSort (fun a b => decide (a ≤ b)) = [0, 1] := by
  simp [List.mergeSort, List.MergeSort.Internal.splitInTwo]
theorem adv2 : adv turnsMost [0, 1] 0 = 2 := by decide +kernel
def w1 : W := ⟨0, 2, 0, [1], [0], [], false⟩
theorem q2w : aft 4 2 2 w1 .word = some ⟨0, 2, 2, [], [], [2], false⟩ := by
  have e : wrd 4 2 w1 0 [] = ⟨0, 2, 2, [], [], [2], false⟩ := by
    unfold wrd
    have h1 : w1.place + (0 - w1.place) % 4 = 0 := by decide
    have h2 : kept1 2 0 w1 = true := by decide +kernel
    simp only [h1, h2, if_true]
    have h3 : w1.kept ++ [0] = [1, 0] := rfl
    have h4 : w1.place = 0 := rfl
    rw [h3, srt2, h4, adv2]
    rfl
  show bd (wrd 4 2 w1 0 []) = _
  rw [e]
  decide +kernel
theorem q2a : ran 4 2 2 W0 lawQ = some ⟨0, 2, 0, [1], [], [], false⟩ := by decide +kernel
theorem q2b : aft 4 2 2 ⟨0, 2, 0, [1], [], [], false⟩ (.again 0) = some w1 := by decide +kernel
theorem q2c : goF 4 2 2 8 ⟨0, 2, 2, [], [], [2], false⟩ = some [.answer] := by decide +kernel
theorem q2 : (ran 4 2 2 W0 lawQ).bind (goF 4 2 2 10) = some [.again 0, .word, .answer] := by
  rw [q2a]
  have n1 : nxt ⟨0, 2, 0, [1], [], [], false⟩ = some (.again 0) := by decide +kernel
  have n2 : nxt w1 = some .word := by decide +kernel
  simp only [Option.bind_some, goF, n1, q2b, n2, q2w]
  have := q2c
  simp only [goF] at this
  simp only [this]
  rfl
end L24
end

section
set_option autoImplicit false
set_option linter.all false
set_option maxRecDepth 100000
set_option maxHeartbeats 1000000
namespace L24
open Ev
theorem T_is_sound_by : T 125029718662477723988345 = some fis_sound_by := rfl
theorem T_harm_for : T 58977352137947122 = some fharm_for := rfl
theorem T_are_sound : T 7054210414346598244 = some fare_sound := rfl
theorem T_window_harm : T 141466840051878903445869 = some fwindow_harm := rfl
theorem T_law : T 1782007 = some flaw := rfl
theorem sound_by_eq (k : Nat) (r g t : Int) (h : Hh) : Ev.call T C (k + 1) 125029718662477723988345 [.d (sz r g t)] h = .ok (.d (.bool (decide (g + t ≤ r)))) h := by
  rw [rn_call T_is_sound_by rfl]
  simp [fis_sound_by, sz, Ev.start, place]
theorem are_sound_eq (k : Nat) (r g t : Int) (h : Hh) (hz : szOk r g t) : Ev.call T C (k + 4) 7054210414346598244 [.d (sz r g t)] h = .ok (.d (.bool (decide (g + t ≤ r)))) h := by
  rw [rn_call T_are_sound rfl]
  simp [fare_sound, Ev.start, need_sizes_ok k r g t h hz, sound_by_eq]
theorem rep_map (n : Nat) (e : Evn) : List.replicate n (evD e) = (List.replicate n e).map evD := by simp
theorem rep1 (n : Nat) (e : Evn) : (List.replicate n [evD e]).flatten = (List.replicate n e).map evD := by
  induction n with
  | zero => rfl
  | succ n ih => rw [List.replicate_succ, List.flatten_cons, ih]; simp [List.replicate_succ]
theorem mulT (h : Hh) (d : D) (n : Int) (h1 : -1000 ≤ n) (h2 : n ≤ 1000) : binop h .mul (.d (.tup [d])) (.d (.int n)) = some (.d (.tup (List.replicate n.toNat [d]).flatten)) := by
  show (if _ then _ else _) = _
  rw [if_pos]
  simp [h1, h2]
theorem harm_for_eq (k : Nat) (r g t : Int) (h : Hh) (hz : szOk r g t) (hb : r < g + t) : Ev.call T C (k + 1) 58977352137947122 [.d (sz r g t)] h = .ok (.d (evsD (harmL r g t))) h := by
  obtain ⟨⟨z1, z2⟩, ⟨z3, z4⟩, z5, z6⟩ := hz
  rw [rn_call T_harm_for rfl]
  have v1 : D.tup [.str [103, 105, 118, 101]] = evD .give := rfl
  have v2 : D.tup [.str [119, 111, 114, 100]] = evD .word := rfl
  have v3 : D.tup [.str [108, 111, 115, 101], .str [116, 104, 101, 114, 101], .int 0] = evD (.line sLose true 0) := rfl
  have v4 : D.tup [.str [97, 103, 97, 105, 110], .int 0] = evD (.again 0) := rfl
  have m1 : ∀ h d, binop h .mul (.d (.tup [d])) (.d (.int (r + 1))) = some (.d (.tup (List.replicate (r + 1).toNat [d]).flatten)) := fun h d => mulT h d _ (by omega) (by omega)
  have m2 : ∀ h d, binop h .mul (.d (.tup [d])) (.d (.int r)) = some (.d (.tup (List.replicate r.toNat [d]).flatten)) := fun h d => mulT h d _ (by omega) (by omega)
  have m3 : ∀ h d, binop h .mul (.d (.tup [d])) (.d (.int g)) = some (.d (.tup (List.replicate g.toNat [d]).flatten)) := fun h d => mulT h d _ (by omega) (by omega)
  by_cases h1 : r < g
  · have l1 : (r + 1).toNat + r.toNat ≤ 16777216 := by omega
    have l2 : (r + 1).toNat + (r.toNat + 1) ≤ 16777216 := by omega
    have l3 : (r + 1).toNat + r.toNat + 1 ≤ 16777216 := by omega
    simp [fharm_for, sz, Ev.start, Ev.T.store, Ts.stores, h1, allD, LIM, v1, v2, v3, v4, m1, m2, m3, rep1, l1, l2, l3, harmL, evsD]
  · have l1 : g.toNat + g.toNat ≤ 16777216 := by omega
    have l2 : g.toNat + (g.toNat + 2) ≤ 16777216 := by omega
    have l3 : g.toNat + g.toNat + 2 ≤ 16777216 := by omega
    simp [fharm_for, sz, Ev.start, Ev.T.store, Ts.stores, h1, hb, allD, LIM, v1, v2, v3, v4, m1, m2, m3, rep1, l1, l2, l3, harmL, evsD]
theorem harm_fit (r g t : Int) : ∀ e ∈ harmL r g t, fitB e := by
  intro e he
  unfold harmL at he
  split at he
  · rw [List.mem_append, List.mem_append] at he
    rcases he with (he | he) | he
    · rw [(List.mem_replicate.mp he).2]; trivial
    · rw [(List.mem_replicate.mp he).2]; exact ⟨.inl rfl, by omega⟩
    · rw [List.mem_singleton.mp he]; trivial
  · rw [List.mem_append, List.mem_append] at he
    rcases he with (he | he) | he
    · rw [(List.mem_replicate.mp he).2]; trivial
    · rw [(List.mem_replicate.mp he).2]; trivial
    · rcases List.mem_cons.mp he with rfl | he
      · exact ⟨by omega, by omega⟩
      · rw [List.mem_singleton.mp he]; trivial
/-- what is harmed stays so -/
theorem aft_harm {r g t : Int} {s s' : W} {e : Evn} (hh : s.harmed = true) (h : aft r g t s e = some s') : s'.harmed = true := by
  cases e with
  | give =>
    simp only [aft] at h
    split at h
    · obtain ⟨rfl, _⟩ := bd_some h; exact hh
    · cases h
  | again i =>
    simp only [aft] at h
    split at h
    · obtain ⟨rfl, _⟩ := bd_some h; exact hh
    · cases h
  | word =>
    simp only [aft] at h
    split at h
    · cases h
    · obtain ⟨rfl, _⟩ := bd_some h
      unfold wrd
      simp [hh]
  | answer =>
    simp only [aft] at h
    split at h
    · cases h
    · obtain ⟨rfl, _⟩ := bd_some h
      unfold ans
      simp only
      split <;> simp [hh]
  | line w b n =>
    simp only [aft, lineAft] at h
    split at h
    · obtain ⟨row, _, h⟩ := Option.bind_eq_some_iff.mp h
      obtain ⟨rfl, _⟩ := bd_some h; exact hh
    · obtain ⟨row, _, h⟩ := Option.bind_eq_some_iff.mp h
      obtain ⟨rfl, _⟩ := bd_some h; exact hh
theorem ran_len {r g t : Int} : ∀ {es : List Evn} {s s' : W}, s.there.length ≤ 12 → s.back.length ≤ 12 → ran r g t s es = some s' → s'.there.length ≤ 12 ∧ s'.back.length ≤ 12 ∧ s'.kept.length ≤ s.kept.length + es.length
  | [], s, s', h1, h2, h => by cases h; exact ⟨h1, h2, Nat.le_refl _⟩
  | e :: es, s, s', h1, h2, h => by
    simp only [ran] at h
    split at h
    · cases h
    · rename_i s1 ha
      obtain ⟨j1, j2, j3⟩ := aft_len ha
      obtain ⟨k1, k2, k3⟩ := ran_len j1 j2 h
      exact ⟨k1, k2, by simp; omega⟩
theorem ix6 (h : Hh) (s : W) : indexOp h (.d (stD s)) (.d (.int 6)) = some (.d (.bool s.harmed)) := by
  simp [stD, place]
/-- the harm of windows that are not sound -/
theorem harm_part (k : Nat) (r g t : Int) (hz : szOk r g t) (hb : r < g + t) (hc : chk r g t = true) (h : Hh) :
    Ev.call T C (k + 4) 141466840051878903445869 [.d (sz r g t)] h = .ok (.d (evsD (harmL r g t))) h ∧
    (∃ s, Ev.call T C (k + 6) 2317792707409983748951406436 [.d (sz r g t), .d (evsD (harmL r g t))] h = .ok (.d (stD s)) h ∧ s.harmed = true) ∧
    ∃ L : List D, Ev.call T C (k + 6) 2317792707409983856587815539 [.d (sz r g t), .d (evsD (harmL r g t))] h = .ok (.d (.list L)) h ∧ L.length ≤ 200 ∧ (evsD (harmL r g t) = .tup ((harmL r g t).map evD) ∧ (harmL r g t).length ≤ 20) ∧ ∀ d ∈ L, ∃ e s', d = evD e ∧ Ev.call T C (k + 6) 2317792707409983748951406436 [.d (sz r g t), .d (evsD (harmL r g t ++ [e]))] h = .ok (.d (stD s')) h ∧ s'.harmed = true := by
  unfold chk at hc
  split at hc
  rotate_left
  · cases hc
  rename_i s hs
  rw [Bool.and_eq_true, Bool.and_eq_true] at hc
  obtain ⟨⟨c1, c2⟩, c3⟩ := hc
  obtain ⟨c4, c5, c6, c7⟩ := of_decide_eq_true c2
  have c8 := of_decide_eq_true c3
  obtain ⟨n1, n2, n3⟩ := ran_len (s := W0) (by simp [W0]) (by simp [W0]) hs
  have n3' : s.kept.length ≤ 20 := by simp [W0] at n3; omega
  refine ⟨?_, ⟨s, window_behind_eq k r g t _ h hz (harm_fit r g t) (by omega) hs, c1⟩, ?_⟩
  · rw [rn_call T_window_harm rfl]
    have : decide (g + t ≤ r) = false := decide_eq_false (by omega)
    simp [fwindow_harm, Ev.start, need_sizes_ok k r g t h hz, sound_by_eq, this, harm_for_eq (k + 2) r g t h hz hb]
  · refine ⟨_, window_events_eq k r g t _ h hz (harm_fit r g t) (by omega) hs ⟨by omega, by omega, by omega⟩ ⟨c4, c7⟩ ⟨c6, by omega⟩, ?_, ⟨rfl, c8⟩, fun d hd => ?_⟩
    · unfold sortD
      rw [List.length_mergeSort, List.length_map]
      exact Nat.le_trans (List.length_filter_le _ _) (allEv_len c4 (by omega))
    · obtain ⟨e, h1, h2⟩ := List.mem_map.mp (mem_sortD.mp hd)
      obtain ⟨h3, s', h4⟩ := poss_spec h1
      refine ⟨e, s', h2.symm, window_behind_eq k r g t _ h hz (fun x hx => ?_) (by simp; omega) (by rw [ran_app, hs]; simp [ran, h4]), aft_harm c1 h4⟩
      rcases List.mem_append.mp hx with hx | hx
      · exact harm_fit r g t x hx
      · rw [List.mem_singleton.mp hx]
        exact allEv_fit c4 (by omega) h3
end L24
end

section
set_option autoImplicit false
set_option linter.all false
set_option maxRecDepth 100000
set_option maxHeartbeats 2000000
namespace L24
open Ev
def lawLc : E := (.lc (.var 9) (.nm 9) [9] (.seq (.call 2317792707409983856587815539 (.cons (.var 5) (.cons (.var 6) .nil)))) (.cons (.isc true (.ix (.call 2317792707409983748951406436 (.cons (.var 5) (.cons (.bin .add (.var 6) (.tup (.cons (.var 9) .nil))) .nil))) (.lit (.int (6)))) (.bool true)) .nil))
def lawQE : E := (.tup (.cons (.tup (.cons (.lit (.str [103, 105, 118, 101])) .nil)) (.cons (.tup (.cons (.lit (.str [103, 105, 118, 101])) .nil)) (.cons (.tup (.cons (.lit (.str [108, 111, 115, 101])) (.cons (.lit (.str [116, 104, 101, 114, 101])) (.cons (.lit (.int (0))) .nil)))) (.cons (.tup (.cons (.lit (.str [119, 111, 114, 100])) .nil)) (.cons (.tup (.cons (.lit (.str [108, 111, 115, 101])) (.cons (.lit (.str [98, 97, 99, 107])) (.cons (.lit (.int (0))) .nil)))) .nil))))))
def lawME : E := (.tup (.cons (.tup (.cons (.lit (.str [97, 103, 97, 105, 110])) (.cons (.lit (.int (0))) .nil))) (.cons (.tup (.cons (.lit (.str [119, 111, 114, 100])) .nil)) (.cons (.tup (.cons (.lit (.str [97, 110, 115, 119, 101, 114])) .nil)) (.cons (.tup (.cons (.lit (.str [97, 103, 97, 105, 110])) (.cons (.lit (.int (1))) .nil))) (.cons (.tup (.cons (.lit (.str [119, 111, 114, 100])) .nil)) (.cons (.tup (.cons (.lit (.str [97, 110, 115, 119, 101, 114])) .nil)) .nil)))))))
def lawM2 : E := (.tup (.cons (.tup (.cons (.lit (.str [97, 103, 97, 105, 110])) (.cons (.lit (.int (0))) .nil))) (.cons (.tup (.cons (.lit (.str [119, 111, 114, 100])) .nil)) (.cons (.tup (.cons (.lit (.str [97, 110, 115, 119, 101, 114])) .nil)) .nil))))
def s321 : E := (.tup (.cons (.lit (.int (3))) (.cons (.lit (.int (2))) (.cons (.lit (.int (1))) (.cons (.lit (.bool false)) .nil)))))
def s422 : E := (.tup (.cons (.lit (.int (4))) (.cons (.lit (.int (2))) (.cons (.lit (.int (2))) (.cons (.lit (.bool false)) .nil)))))
def s211 : E := (.tup (.cons (.lit (.int (2))) (.cons (.lit (.int (1))) (.cons (.lit (.int (1))) (.cons (.lit (.bool false)) .nil)))))
def lawSz : E := (.tup (.cons (.bin .add (.bin .add (.var 2) (.var 3)) (.call 6906700753635374700 (.cons (.var 1) (.cons (.lit (.int (3))) .nil)))) (.cons (.var 2) (.cons (.var 3) (.cons (.lit (.bool false)) .nil)))))
def lawBad : E := (.tup (.cons (.bl .max2 (.cons (.lit (.int (1))) (.cons (.bin .sub (.bin .sub (.bin .add (.var 2) (.var 3)) (.lit (.int (1)))) (.call 6906700753635374700 (.cons (.var 1) (.cons (.lit (.int (2))) .nil)))) .nil))) (.cons (.var 2) (.cons (.var 3) (.cons (.lit (.bool false)) .nil)))))
def retF : Ss := (.cons (.ret (.lit (.bool false))) .nil)
theorem law_body : flaw = ⟨1, 10, (.cons (.set 1 (.call 53958599637531376 (.cons (.var 0) .nil))) (.cons (.par2 2 3 (.cons (.bin .add (.lit (.int (1))) (.call 6906700753635374700 (.cons (.var 1) (.cons (.lit (.int (4))) .nil)))) (.cons (.bin .add (.lit (.int (1))) (.call 6906700753635374700 (.cons (.var 1) (.cons (.lit (.int (4))) .nil)))) .nil))) (.cons (.set 4 lawSz) (.cons (.ifs (.or (.isc true (.call 7054210414346598244 (.cons (.var 4) .nil)) (.bool true)) (.not (.call 884057696465315296372 (.cons (.var 1) (.cons (.var 4) .nil))))) retF .nil) (.cons (.set 5 lawBad) (.cons (.set 6 (.call 141466840051878903445869 (.cons (.var 5) .nil))) (.cons (.ifs (.or (.isc true (.call 7054210414346598244 (.cons (.var 5) .nil)) (.bool false)) (.isc true (.ix (.call 2317792707409983748951406436 (.cons (.var 5) (.cons (.var 6) .nil))) (.lit (.int (6)))) (.bool true))) retF .nil) (.cons (.ifs (.cmp .ne lawLc (.lst .nil)) retF .nil) (.cons (.set 7 lawQE) (.cons (.set 8 lawME) (.cons (.ifs (.cmp .ne (.call 113159385147559309554404 (.cons s321 (.cons (.var 7) .nil))) (.bin .add (.var 7) (.var 8))) retF .nil) (.cons (.ifs (.cmp .ne (.call 113159385147559309554404 (.cons s422 (.cons (.var 7) .nil))) (.bin .add (.var 7) lawM2)) retF .nil) (.cons (.ret (.call 884057696465315296372 (.cons (.var 1) (.cons s211 .nil)))) .nil)))))))))))))⟩ := rfl
def more1 : List Evn := [.again 0, .word, .answer, .again 1, .word, .answer]
def more2 : List Evn := [.again 0, .word, .answer]
theorem fit_lawQ : ∀ e ∈ lawQ, fitB e := by
  intro e he
  simp only [lawQ, List.mem_cons] at he
  rcases he with rfl | rfl | rfl | rfl | rfl | he
  · trivial
  · trivial
  · exact ⟨.inl rfl, by omega⟩
  · trivial
  · exact ⟨.inl rfl, by omega⟩
  · cases he
theorem fit_more1 : ∀ e ∈ more1, fitB e := by
  intro e he
  simp only [more1, List.mem_cons] at he
  rcases he with rfl | rfl | rfl | rfl | rfl | rfl | he
  all_goals first | trivial | exact ⟨by omega, by omega⟩ | cases he
theorem fit_more2 : ∀ e ∈ more2, fitB e := by
  intro e he
  simp only [more2, List.mem_cons] at he
  rcases he with rfl | rfl | rfl | he
  all_goals first | trivial | exact ⟨by omega, by omega⟩ | cases he
theorem rested1 (k : Nat) (h : Hh) : Ev.call T C (k + 7) 113159385147559309554404 [.d (sz 3 2 1), .d (evsD lawQ)] h = .ok (.d (evsD (lawQ ++ more1))) h := by
  cases hs : ran 3 2 1 W0 lawQ with
  | none => have := q1; rw [hs] at this; cases this
  | some s =>
    have := q1
    rw [hs] at this
    obtain ⟨s', L⟩ := goF_leads 3 2 1 20 s more1 this
    exact rested_eq k 3 2 1 lawQ more1 h ⟨by decide, by decide, by decide⟩ hs L fit_lawQ fit_more1 (by decide)
theorem rested2 (k : Nat) (h : Hh) : Ev.call T C (k + 7) 113159385147559309554404 [.d (sz 4 2 2), .d (evsD lawQ)] h = .ok (.d (evsD (lawQ ++ more2))) h := by
  cases hs : ran 4 2 2 W0 lawQ with
  | none => have := q2; rw [hs] at this; cases this
  | some s =>
    have := q2
    rw [hs] at this
    obtain ⟨s', L⟩ := goF_leads 4 2 2 10 s more2 this
    exact rested_eq k 4 2 2 lawQ more2 h ⟨by decide, by decide, by decide⟩ hs L fit_lawQ fit_more2 (by decide)
theorem lc_law (k : Nat) (e0 e1 e2 e3 e4 e7 e8 e9 : Option PV) (r g t : Int) (hs : List Evn) (L : List D) (h : Hh) (hl : L.length ≤ 200) (hh : hs.length ≤ 20)
    (hL : ∀ d ∈ L, ∃ e s', d = evD e ∧ Ev.call T C (k + 6) 2317792707409983748951406436 [.d (sz r g t), .d (evsD (hs ++ [e]))] h = .ok (.d (stD s')) h ∧ s'.harmed = true) :
    lcGo (lcE ⟨Ev.call T C (k + 6), C⟩ (.var 9) (.cons (.isc true (.ix (.call 2317792707409983748951406436 (.cons (.var 5) (.cons (.bin .add (.var 6) (.tup (.cons (.var 9) .nil))) .nil))) (.lit (.int (6)))) (.bool true)) .nil)) (Ev.T.store (.nm 9)) (wipe [e0, e1, e2, e3, e4, some (.d (sz r g t)), some (.d (evsD hs)), e7, e8, e9] [9]) (L.map PV.d) [] h = .ok (.d (.list [])) h := by
  have := rn_lcGo (elt := lcE ⟨Ev.call T C (k + 6), C⟩ (.var 9) (.cons (.isc true (.ix (.call 2317792707409983748951406436 (.cons (.var 5) (.cons (.bin .add (.var 6) (.tup (.cons (.var 9) .nil))) .nil))) (.lit (.int (6)))) (.bool true)) .nil)) (st := Ev.T.store (.nm 9)) (env := wipe [e0, e1, e2, e3, e4, some (.d (sz r g t)), some (.d (evsD hs)), e7, e8, e9] [9]) (h := h) (fun _ => none) L [] (fun d hd => by
    obtain ⟨e, s', rfl, hw, hm⟩ := hL d hd
    refine ⟨_, rfl, ?_⟩
    have hadd : ∀ h, binop h .add (.d (evsD hs)) (.d (.tup [evD e])) = some (.d (evsD (hs ++ [e]))) := fun h => by
      have : (hs.map evD).length + 1 ≤ LIM := by rw [List.length_map]; unfold LIM; omega
      rw [evsD, rn_add_tup, List.length_singleton, if_pos this]; simp [evsD]
    have one : (1 : Nat) ≤ LIM := by decide
    have hw0 : wipe [e0, e1, e2, e3, e4, some (.d (sz r g t)), some (.d (evsD hs)), e7, e8, e9] [9] = [e0, e1, e2, e3, e4, some (.d (sz r g t)), some (.d (evsD hs)), e7, e8, none] := rfl
    have i6 := ix6 h s'
    rw [hm] at i6
    have isc : isC (.d (.bool true)) (.bool true) = some true := rfl
    rw [hw0, lcE, rn_bnd_ap]
    simp only [rn_ts_cons, rn_e_isc, rn_e_ix, rn_e_call, rn_es_cons, rn_es_nil, rn_e_var, rn_e_bin, rn_e_tup, rn_e_lit, List.set_cons_zero, List.set_cons_succ, List.getElem?_cons_zero, List.getElem?_cons_succ, Option.bind_some, id, rn_opt_some, rn_bd_ok, List.length_singleton, one, if_true, allD, Option.map_some, hadd, hw, i6, isc, Bool.not_true, rn_tr_bool, Bool.false_eq_true, if_false, rn_ret_ap, Option.map_none]) (by simp; unfold LIM; omega)
  rw [this]
  simp
theorem near_evs (x : D) (es : List Evn) : near x (evsD es) = true := by
  unfold near
  rw [Bool.or_eq_true]
  right
  have : ∀ es : List Evn, D.shals (es.map evD) 59 = true := fun es => by
    induction es with
    | nil => rfl
    | cons e es ih =>
      rw [List.map_cons, D.shals, ih]
      cases e <;> simp [evD, sEnd, D.shal, D.shals]
  rw [evsD, D.shal]
  exact this es
theorem evD_refl (e : Evn) : D.eqv (evD e) (evD e) = true := by
  cases e <;> simp [evD, sEnd, D.eqv, D.eqvs]
theorem evs_refl (es : List Evn) : D.eqv (evsD es) (evsD es) = true := by
  rw [evsD, D.eqv]
  induction es with
  | nil => rfl
  | cons e es ih => rw [List.map_cons, D.eqvs, evD_refl, ih]; rfl
theorem law_true : ∀ ns : List Int, ns.length ≤ 63 → ∃ h', Ev.call T C 20 1782007 [.scr (ns.map D.int)] [] = .ok (.d (.bool true)) h' := by
  intro ns hns
  obtain ⟨a0, b0, c0, p0⟩ := cup_eq 18 ns hns
  obtain ⟨v1, a1, b1, r1, l1, u1, p1⟩ := roll_eq 18 a0 b0 4 (by decide) (by decide) p0
  obtain ⟨v2, a2, b2, r2, l2, u2, p2⟩ := roll_eq 18 a1 b1 4 (by decide) (by decide) p1
  obtain ⟨v3, a3, b3, r3, l3, u3, p3⟩ := roll_eq 18 a2 b2 3 (by decide) (by decide) p2
  have hz : szOk (1 + v1 + (1 + v2) + v3) (1 + v1) (1 + v2) := ⟨⟨by omega, by omega⟩, ⟨by omega, by omega⟩, by omega, by omega⟩
  have as := are_sound_eq 15 (1 + v1 + (1 + v2) + v3) (1 + v1) (1 + v2) (cup a3 b3) hz
  have d1 : decide (1 + v1 + (1 + v2) ≤ 1 + v1 + (1 + v2) + v3) = true := decide_eq_true (by omega)
  rw [d1] at as
  obtain ⟨a4, b4, r4, p4⟩ := right_eq 11 (1 + v1 + (1 + v2) + v3) (1 + v1) (1 + v2) hz (by omega) a3 b3 p3
  obtain ⟨v5, a5, b5, r5, l5, u5, p5⟩ := roll_eq 18 a4 b4 2 (by decide) (by decide) p4
  have hck : chk (if 1 < 1 + v1 + (1 + v2) - 1 - v5 then 1 + v1 + (1 + v2) - 1 - v5 else 1) (1 + v1) (1 + v2) = true := by
    refine chk_all (1 + v1) ?_ (1 + v2) ?_ v5 ?_
    · have : v1 = 0 ∨ v1 = 1 ∨ v1 = 2 ∨ v1 = 3 := by omega
      rcases this with rfl | rfl | rfl | rfl <;> decide
    · have : v2 = 0 ∨ v2 = 1 ∨ v2 = 2 ∨ v2 = 3 := by omega
      rcases this with rfl | rfl | rfl | rfl <;> decide
    · have : v5 = 0 ∨ v5 = 1 := by omega
      rcases this with rfl | rfl <;> decide
  have hbz : szOk (if 1 < 1 + v1 + (1 + v2) - 1 - v5 then 1 + v1 + (1 + v2) - 1 - v5 else 1) (1 + v1) (1 + v2) := by
    refine ⟨?_, ⟨by omega, by omega⟩, by omega, by omega⟩
    split <;> exact ⟨by omega, by omega⟩
  have hbl : (if 1 < 1 + v1 + (1 + v2) - 1 - v5 then 1 + v1 + (1 + v2) - 1 - v5 else 1) < 1 + v1 + (1 + v2) := by split <;> omega
  have mx : ∀ h, blt h .max2 [.d (.int 1), .d (.int (1 + v1 + (1 + v2) - 1 - v5))] = some (.d (.int (if 1 < 1 + v1 + (1 + v2) - 1 - v5 then 1 + v1 + (1 + v2) - 1 - v5 else 1))) := fun h => rn_max2 h _ _
  generalize (if 1 < 1 + v1 + (1 + v2) - 1 - v5 then 1 + v1 + (1 + v2) - 1 - v5 else 1) = bd0 at hck hbz hbl mx
  have as2 := are_sound_eq 15 bd0 (1 + v1) (1 + v2) (cup a5 b5) hbz
  have d2 : decide (1 + v1 + (1 + v2) ≤ bd0) = false := decide_eq_false (by omega)
  rw [d2] at as2
  obtain ⟨hp1, ⟨s, hp2, hp3⟩, L, hp4, hp5, ⟨hp6, hp6'⟩, hp7⟩ := harm_part 13 bd0 (1 + v1) (1 + v2) hbz hbl hck (cup a5 b5)
  have hp1' := (harm_part 15 bd0 (1 + v1) (1 + v2) hbz hbl hck (cup a5 b5)).1
  generalize harmL bd0 (1 + v1) (1 + v2) = hs at hp1 hp2 hp4 hp6 hp6' hp7 hp1'
  have i6 := ix6 (cup a5 b5) s
  rw [hp3] at i6
  have rs1 := rested1 12 (cup a5 b5)
  have rs2 := rested2 12 (cup a5 b5)
  obtain ⟨a6, b6, r6, p6⟩ := right_eq 11 2 1 1 ⟨by decide, by decide, by decide⟩ (by decide) a5 b5 p5
  refine ⟨cup a6 b6, ?_⟩
  have st : Ev.start 10 [.scr (ns.map D.int)] = [some (.scr (ns.map D.int)), none, none, none, none, none, none, none, none, none] := rfl
  have lc := fun e0 e1 e2 e3 e4 e7 e8 e9 => lc_law 13 e0 e1 e2 e3 e4 e7 e8 e9 bd0 (1 + v1) (1 + v2) hs L (cup a5 b5) hp5 hp6' hp7
  have isct : isC (.d (.bool true)) (.bool true) = some true := rfl
  have iscf : isC (.d (.bool false)) (.bool false) = some true := rfl
  have four : (4 : Nat) ≤ LIM := by decide
  have szE : ∀ r g t : Int, D.tup [.int r, .int g, .int t, .bool false] = sz r g t := fun _ _ _ => rfl
  have eQ : ∀ env h, evE ⟨Ev.call T C 19, C⟩ lawQE env h = .ok (.d (evsD lawQ)) h := fun env h => by simp [lawQE, allD, LIM, lawQ, evsD, evD, sLose, sEnd]
  have eM : ∀ env h, evE ⟨Ev.call T C 19, C⟩ lawME env h = .ok (.d (evsD more1)) h := fun env h => by simp [lawME, allD, LIM, more1, evsD, evD]
  have eM2 : ∀ env h, evE ⟨Ev.call T C 19, C⟩ lawM2 env h = .ok (.d (evsD more2)) h := fun env h => by simp [lawM2, allD, LIM, more2, evsD, evD]
  have e321 : ∀ env h, evE ⟨Ev.call T C 19, C⟩ s321 env h = .ok (.d (sz 3 2 1)) h := fun env h => by simp [s321, allD, LIM, sz]
  have e422 : ∀ env h, evE ⟨Ev.call T C 19, C⟩ s422 env h = .ok (.d (sz 4 2 2)) h := fun env h => by simp [s422, allD, LIM, sz]
  have e211 : ∀ env h, evE ⟨Ev.call T C 19, C⟩ s211 env h = .ok (.d (sz 2 1 1)) h := fun env h => by simp [s211, allD, LIM, sz]
  have ad1 : ∀ h, binop h .add (.d (evsD lawQ)) (.d (evsD more1)) = some (.d (evsD (lawQ ++ more1))) := fun h => rfl
  have ad2 : ∀ h, binop h .add (.d (evsD lawQ)) (.d (evsD more2)) = some (.d (evsD (lawQ ++ more2))) := fun h => rfl
  have nn : ∀ h, cmpop h .ne (.d (.list [])) (.d (.list [])) = some false := fun h => rfl
  have nil : ∀ env h, evE ⟨Ev.call T C 19, C⟩ (.lst .nil) env h = .ok (.d (.list [])) h := fun env h => by simp [allD, LIM]
  have eSz : ∀ x0 x4 x5 x6 x7 x8 x9, evE ⟨Ev.call T C 19, C⟩ lawSz [x0, some (.ref 0), some (.d (.int (1 + v1))), some (.d (.int (1 + v2))), x4, x5, x6, x7, x8, x9] (cup a2 b2) = .ok (.d (sz (1 + v1 + (1 + v2) + v3) (1 + v1) (1 + v2))) (cup a3 b3) := fun x0 x4 x5 x6 x7 x8 x9 => by
    simp only [lawSz, rn_e_tup, rn_es_cons, rn_es_nil, rn_e_bin, rn_e_var, rn_e_call, rn_e_lit, List.getElem?_cons_zero, List.getElem?_cons_succ, Option.bind_some, id, rn_opt_some, rn_bd_ok, rn_add_int, r3, List.length_cons, List.length_nil, Nat.reduceAdd, four, if_true, allD, Option.map_some, szE]
  have eBad : ∀ x0 x4 x5 x6 x7 x8 x9, evE ⟨Ev.call T C 19, C⟩ lawBad [x0, some (.ref 0), some (.d (.int (1 + v1))), some (.d (.int (1 + v2))), x4, x5, x6, x7, x8, x9] (cup a4 b4) = .ok (.d (sz bd0 (1 + v1) (1 + v2))) (cup a5 b5) := fun x0 x4 x5 x6 x7 x8 x9 => by
    simp only [lawBad, rn_e_tup, rn_es_cons, rn_es_nil, rn_e_bl, rn_e_bin, rn_e_var, rn_e_call, rn_e_lit, List.getElem?_cons_zero, List.getElem?_cons_succ, Option.bind_some, id, rn_opt_some, rn_bd_ok, rn_add_int, rn_sub_int, r5, mx, List.length_cons, List.length_nil, Nat.reduceAdd, four, if_true, allD, Option.map_some, szE]
  rw [rn_call T_law rfl, law_body]
  simp only [st, rn_ss_cons, rn_s_set, rn_par2, rn_e_call, rn_es_cons, rn_es_nil, rn_e_var, rn_e_lit, rn_e_bin, List.getElem?_cons_zero, List.getElem?_cons_succ, Option.bind_some, id, rn_opt_some, rn_bd_ok, c0, rn_flK_nxt, List.set_cons_zero, List.set_cons_succ, r1, r2, rn_add_int, eSz, rn_s_ifs, rn_e_or, rn_e_isc, as, isct, if_true, Bool.not_true, Option.map_some, rn_tr_bool, Bool.false_eq_true, if_false, rn_e_not, r4, rn_ss_nil, eBad, hp1', as2, iscf]
  simp only [rn_bd_ok, rn_flK_nxt, rn_ss_cons, rn_s_set, rn_s_ifs, rn_e_or, rn_e_isc, rn_e_ix, rn_e_call, rn_es_cons, rn_es_nil, rn_e_var, rn_e_lit, List.getElem?_cons_zero, List.getElem?_cons_succ, Option.bind_some, id, rn_opt_some, hp2, i6, isct, Option.map_some, Bool.not_true, rn_tr_bool, Bool.false_eq_true, if_false, if_true, rn_ss_nil, rn_e_cmp, lawLc, rn_lc, rn_its_tup, hp4, lc, nil, nn, eQ, eM, e321, rs1, rn_e_bin, ad1, rn_ne, near_evs, evs_refl, e422, rs2, eM2, ad2, List.set_cons_zero, List.set_cons_succ, rn_s_ret, e211, r6, rn_flK_ret, rn_defK_ret]
end L24
end

open PySem PySem.W PyProof.Rows in
set_option maxRecDepth 100000 in
set_option maxHeartbeats 0 in
theorem PySem.Challenge.cw_heardonce_k24_whole_windows_led_to_rest_holds : PySem.Challenge.rw_heardonce_k24_whole_windows_led_to_rest.Holds := by
  w_on; o_law; k_head; (case hw => w_witness2)
  k_fill
  refine Ev.walk (l := PySem.Challenge.rw_heardonce_k24_whole_windows_led_to_rest) (P := L24.P) (T := L24.T) (C := L24.C) (sts := L24.sts) (st := L24.st 43) 20 rfl rfl ⟨rfl, by decide, by decide⟩ (fun w h Y => PySem.W.kIn_of Y) rfl ?X (by kernel_rfl) rfl L24.law_true
  case X =>
    intro w mg h KX G
    refine' L24.all_mk KX G ?a0 ?l0 ?d0 ?k0 ?a1 ?l1 ?d1 ?k1 ?a2 ?l2 ?d2 ?k2 ?a3 ?l3 ?d3 ?k3 ?a4 ?l4 ?d4 ?k4 ?a5 ?l5 ?d5 ?k5 ?a6 ?l6 ?d6 ?k6 ?a7 ?l7 ?d7 ?k7 ?a8 ?l8 ?d8 ?k8 ?a9 ?l9 ?d9 ?k9 ?a10 ?l10 ?d10 ?k10 ?a11 ?l11 ?d11 ?k11 ?a12 ?l12 ?d12 ?k12 ?a13 ?l13 ?d13 ?k13 ?a14 ?l14 ?d14 ?k14 ?a15 ?l15 ?d15 ?k15 ?a16 ?l16 ?d16 ?k16 ?a17 ?l17 ?d17 ?k17 ?a18 ?l18 ?d18 ?k18 ?a19 ?l19 ?d19 ?k19 ?a20 ?l20 ?d20 ?k20 ?a21 ?l21 ?d21 ?k21 ?a22 ?l22 ?d22 ?k22 ?a23 ?l23 ?d23 ?k23 ?a24 ?l24 ?d24 ?k24 ?a25 ?l25 ?d25 ?k25 ?a26 ?l26 ?d26 ?k26 ?ca0 ?cr0 ?ca1 ?cr1 ?ca2 ?cr2 ?ca3 ?cr3 ?ca4 ?cr4 ?ca5 ?cr5 ?ca6 ?cr6 ?b0 ?b1 ?b2 ?b3 ?b4 ?b5 ?b6 ?b7 ?b8 ?b9 ?b10 ?b11 ?b12 ?b13 ?b14 ?b15 ?b16 ?b17 ?b18 ?b19 ?ea0 ?ex0 ?ee0 ?ek0 ?es0 ?et0 ?ea1 ?ex1 ?ee1 ?ek1 ?es1 ?et1 ?ea2 ?ex2 ?ee2 ?ek2 ?es2 ?et2 ?ea3 ?ex3 ?ee3 ?ek3 ?es3 ?et3
    (case a0 => k_is)
    (case l0 => k_is)
    (case d0 => k_is)
    (case k0 => k_is)
    (case a1 => k_is)
    (case l1 => k_is)
    (case d1 => k_is)
    (case k1 => k_is)
    (case a2 => k_is)
    (case l2 => k_is)
    (case d2 => k_is)
    (case k2 => k_is)
    (case a3 => k_is)
    (case l3 => k_is)
    (case d3 => k_is)
    (case k3 => k_is)
    (case a4 => k_is)
    (case l4 => k_is)
    (case d4 => k_is)
    (case k4 => k_is)
    (case a5 => k_is)
    (case l5 => k_is)
    (case d5 => k_is)
    (case k5 => k_is)
    (case a6 => k_is)
    (case l6 => k_is)
    (case d6 => k_is)
    (case k6 => k_is)
    (case a7 => k_is)
    (case l7 => k_is)
    (case d7 => k_is)
    (case k7 => k_is)
    (case a8 => k_is)
    (case l8 => k_is)
    (case d8 => k_is)
    (case k8 => k_is)
    (case a9 => k_is)
    (case l9 => k_is)
    (case d9 => k_is)
    (case k9 => k_is)
    (case a10 => k_is)
    (case l10 => k_is)
    (case d10 => k_is)
    (case k10 => k_is)
    (case a11 => k_is)
    (case l11 => k_is)
    (case d11 => k_is)
    (case k11 => k_is)
    (case a12 => k_is)
    (case l12 => k_is)
    (case d12 => k_is)
    (case k12 => k_is)
    (case a13 => k_is)
    (case l13 => k_is)
    (case d13 => k_is)
    (case k13 => k_is)
    (case a14 => k_is)
    (case l14 => k_is)
    (case d14 => k_is)
    (case k14 => k_is)
    (case a15 => k_is)
    (case l15 => k_is)
    (case d15 => k_is)
    (case k15 => k_is)
    (case a16 => k_is)
    (case l16 => k_is)
    (case d16 => k_is)
    (case k16 => k_is)
    (case a17 => k_is)
    (case l17 => k_is)
    (case d17 => k_is)
    (case k17 => k_is)
    (case a18 => k_is)
    (case l18 => k_is)
    (case d18 => k_is)
    (case k18 => k_is)
    (case a19 => k_is)
    (case l19 => k_is)
    (case d19 => k_is)
    (case k19 => k_is)
    (case a20 => k_is)
    (case l20 => k_is)
    (case d20 => k_is)
    (case k20 => k_is)
    (case a21 => k_is)
    (case l21 => k_is)
    (case d21 => k_is)
    (case k21 => k_is)
    (case a22 => k_is)
    (case l22 => k_is)
    (case d22 => k_is)
    (case k22 => k_is)
    (case a23 => k_is)
    (case l23 => k_is)
    (case d23 => k_is)
    (case k23 => k_is)
    (case a24 => k_is)
    (case l24 => k_is)
    (case d24 => k_is)
    (case k24 => k_is)
    (case a25 => k_is)
    (case l25 => k_is)
    (case d25 => k_is)
    (case k25 => k_is)
    (case a26 => k_is)
    (case l26 => k_is)
    (case d26 => k_is)
    (case k26 => k_is)
    (case ca0 => k_is)
    (case cr0 => kernel_rfl)
    (case ca1 => k_is)
    (case cr1 => kernel_rfl)
    (case ca2 => k_is)
    (case cr2 => kernel_rfl)
    (case ca3 => k_is)
    (case cr3 => kernel_rfl)
    (case ca4 => k_is)
    (case cr4 => kernel_rfl)
    (case ca5 => k_is)
    (case cr5 => kernel_rfl)
    (case ca6 => k_is)
    (case cr6 => kernel_rfl)
    (case b0 => k_is)
    (case b1 => k_is)
    (case b2 => k_is)
    (case b3 => k_is)
    (case b4 => k_is)
    (case b5 => k_is)
    (case b6 => k_is)
    (case b7 => k_is)
    (case b8 => k_is)
    (case b9 => k_is)
    (case b10 => k_is)
    (case b11 => k_is)
    (case b12 => k_is)
    (case b13 => k_is)
    (case b14 => k_is)
    (case b15 => k_is)
    (case b16 => k_is)
    (case b17 => k_is)
    (case b18 => k_is)
    (case b19 => k_is)
    (case ea0 => k_is)
    (case ex0 => kernel_rfl)
    (case ee0 => first | k_exc | kernel_rfl)
    (case ek0 => k_is)
    (case es0 => k_is)
    (case et0 => k_is)
    (case ea1 => k_is)
    (case ex1 => kernel_rfl)
    (case ee1 => first | k_exc | kernel_rfl)
    (case ek1 => k_is)
    (case es1 => k_is)
    (case et1 => k_is)
    (case ea2 => k_is)
    (case ex2 => kernel_rfl)
    (case ee2 => first | k_exc | kernel_rfl)
    (case ek2 => k_is)
    (case es2 => k_is)
    (case et2 => k_is)
    (case ea3 => k_is)
    (case ex3 => kernel_rfl)
    (case ee3 => first | k_exc | kernel_rfl)
    (case ek3 => k_is)
    (case es3 => k_is)
    (case et3 => k_is)
