import PyProof.Rows.All
import Wide.All
import OpenK.AllK
import Wide.FinOn
import PySem.Challenge.RW_onetiemore_k69_fractions_by_other_roads
import KE.KStateDown
import HandS.Base
import HandS.Call
import HandS.Ends
import HandS.More
import HandS.Words
import HandS.WordsExc
import HandS.Defaults
import HandS.Head0
import HandS.Head1
import HandS.Head2
import HandS.HeadEnd
import HandS.HeadHook1
import HandS.HeadHook2
import HandS.ForMost
import HandS.ForExc
import HandS.CallSlots
import HandS.Wide
import HandS.Style
import HandS.Deep
import HandS.SortInts
import KE.SortData
import KE.LtData
import KE.DataEq
import KE.DataCmp
import KE.DataFind
import KE.DataIsa
import KE.DataMinMax
import KE.DataAny
import HandS.Flow
import HandS.Comp
import HandS.Small
set_option Elab.async false
set_option linter.all false
set_option maxRecDepth 100000

set_option autoImplicit false
set_option linter.all false
/-! OM1: an interpreter of the programs' own forms over plain data. -/
namespace OM
open PySem

/-- data; o = true: owned by one name alone (may be changed in place); t: its keys are tuples -/
inductive D where
  | non | bl (b : Bool) | int (i : Int) | str (x : Str)
  | tup (xs : List D)
  | lst (o : Bool) (xs : List D)
  | dct (o t : Bool) (kvs : List (D × D))
  | ins (o : Bool) (c : Nat) (fs : List (Nat × D))
  | scr (ns : List Int)
  deriving Inhabited

abbrev Env := List (Option D)
def sget : Env → Nat → Option D
  | [], _ => none
  | x :: _, 0 => x
  | _ :: r, n + 1 => sget r n
def sset : Env → Nat → Option D → Env
  | [], _, _ => []
  | _ :: r, 0, d => d :: r
  | x :: r, n + 1, d => x :: sset r n d

structure Exc where
  cls : Nat
  arg : Option D

inductive R (α : Type) where
  | ok (a : α) (s : Env) | exc (x : Exc) (s : Env) | bad
def R.bind {α β : Type} (r : R α) (f : α → Env → R β) : R β := match r with
  | .ok a s => f a s
  | .exc x s => .exc x s
  | .bad => .bad
/-- an option as a result -/
def lift {α : Type} (o : Option α) (s : Env) : R α := match o with
  | some a => .ok a s
  | none => .bad

/-- a call's result: the value, the changed arguments -/
inductive CR where
  | ok (d : D) (outs : List D) | exc (x : Exc) (outs : List D) | bad

mutual
def frz : D → D
  | .lst _ xs => .lst false xs
  | .dct _ t kvs => .dct false t kvs
  | .ins _ c fs => .ins false c (frzF fs)
  | d => d
def frzF : List (Nat × D) → List (Nat × D)
  | [] => []
  | (f, d) :: r => (f, frz d) :: frzF r
end
def isOwn : D → Bool
  | .lst o _ => o
  | .dct o _ _ => o
  | .ins o _ _ => o
  | _ => false
/-- a name's value, to be kept elsewhere too: what it owns is frozen -/
def copyV (i : Nat) (s : Env) : R D := match sget s i with
  | some d => if isOwn d = true then .ok (frz d) (sset s i (some (frz d))) else .ok d s
  | none => .bad

inductive Bop | add | sub | mul | fdiv | mod | pow
  deriving DecidableEq
inductive Cop | eq | ne | lt | le | gt | ge | inn | nin | is_ | isn
  deriving DecidableEq
inductive Bn
  | len | sorted | list | tuple | sum | sumL | max1 | min1 | max2 | min2 | abs | int | str | any | all | dict | isInt | isBool | isStr | isTuple | isList | isDict
  | split | join | partition | upper | count | index | get1 | get2 | items | values | reversed
  deriving DecidableEq

/-! ### operations by values -/
/-- a place in n, from the end below 0 -/
def ixOf (n : Nat) (i : Int) : Nat := if i < 0 then (if i + n < 0 then n else (i + n).toNat) else i.toNat
def mulOk (a b : Int) : Bool := decide (a.natAbs.log2 + b.natAbs.log2 < 900000)
def divOk (b : Int) : Bool := decide (0 < b) && decide (b.natAbs.log2 < 8900)
def most : Nat := 16777216
/-- xs[lo:hi] -/
def sIx (n d : Nat) : Option Int → Nat
  | none => d
  | some v => if v < 0 then (v + (n : Int)).toNat else min v.toNat n
def cut {α : Type} (xs : List α) (lo hi : Option Int) : List α := (xs.drop (sIx xs.length 0 lo)).take (sIx xs.length xs.length hi - sIx xs.length 0 lo)
def strOf (l : List Nat) : Str := ⟨l.toArray⟩
def cps (x : Str) : List Nat := x.cps.toList

mutual
/-- Python's == (o: which pairs it is asked of: see eqOk) -/
def deq : D → D → Bool
  | .non, .non => true
  | .bl a, .bl b => a == b
  | .bl a, .int b => (if a = true then 1 else 0) == b
  | .int a, .bl b => a == (if b = true then 1 else 0)
  | .int a, .int b => a == b
  | .str a, .str b => a == b
  | .tup xs, .tup ys => deqL xs ys
  | .lst _ xs, .lst _ ys => deqL xs ys
  | _, _ => false
def deqL : List D → List D → Bool
  | [], [] => true
  | x :: xs, y :: ys => deq x y && deqL xs ys
  | _, _ => false
end
mutual
/-- data of none, bools, ints, texts, tuples, lists, no deeper than n -/
def plain : Nat → D → Bool
  | _, .non => true
  | _, .bl _ => true
  | _, .int _ => true
  | _, .str _ => true
  | 0, _ => false
  | n + 1, .tup xs => plainL n xs
  | n + 1, .lst _ xs => plainL n xs
  | _, _ => false
def plainL : Nat → List D → Bool
  | _, [] => true
  | n, x :: xs => plain n x && plainL n xs
end
def eqOk (a b : D) : Bool := plain 20 a && plain 20 b
/-- keys: an int or a text; a tuple of these -/
def isK : D → Bool
  | .int _ => true
  | .str _ => true
  | _ => false
def isT : D → Bool
  | .tup xs => xs.all isK
  | _ => false
def keyOk (t : Bool) (k : D) : Bool := if t = true then isT k else isK k
mutual
/-- each place of one kind -/
def alike : D → D → Bool
  | .bl _, .bl _ => true
  | .int _, .int _ => true
  | .str _, .str _ => true
  | .tup xs, .tup ys => alikeL xs ys
  | .lst _ xs, .lst _ ys => alikeL xs ys
  | .non, .non => true
  | _, _ => false
def alikeL : List D → List D → Bool
  | x :: xs, y :: ys => alike x y && alikeL xs ys
  | _, _ => true
end
mutual
/-- Python's < of alike data -/
def dlt : D → D → Bool
  | .bl a, .bl b => !a && b
  | .int a, .int b => decide (a < b)
  | .str a, .str b => decide (cps a < cps b)
  | .tup xs, .tup ys => dltL xs ys
  | .lst _ xs, .lst _ ys => dltL xs ys
  | _, _ => false
def dltL : List D → List D → Bool
  | _, [] => false
  | [], _ :: _ => true
  | x :: xs, y :: ys => if deq x y = true then dltL xs ys else dlt x y
end
def dle (a b : D) : Bool := !dlt b a
def isNon : D → Bool
  | .non => true
  | _ => false
def isIntD : D → Bool
  | .int _ => true
  | .bl _ => true
  | _ => false
def isBlD : D → Bool
  | .bl _ => true
  | _ => false
def isStrD : D → Bool
  | .str _ => true
  | _ => false
def isLstD : D → Bool
  | .lst _ _ => true
  | _ => false
def isTup : D → Bool
  | .tup _ => true
  | _ => false
def tupNe : D → Bool
  | .tup (_ :: _) => true
  | _ => false
/-- what sorted takes -/
def sortable (xs : List D) : Bool := xs.all (plain 20) && xs.all (fun x => xs.all fun y => alike x y) && (xs.all tupNe || xs.all fun x => !isNon x && !isTup x)
def dsort (xs : List D) : List D := xs.mergeSort dle

def bop : Bop → D → D → Option D
  | .add, .int a, .int b => some (.int (a + b))
  | .add, .str a, .str b => if a.length + b.length ≤ most then some (.str (a ++ b)) else none
  | .add, .lst _ xs, .lst _ ys => if xs.length + ys.length ≤ most then some (.lst true (xs ++ ys)) else none
  | .add, .tup (x :: xs), .tup (y :: ys) => if xs.length + ys.length + 2 ≤ most then some (.tup (x :: xs ++ y :: ys)) else none
  | .sub, .int a, .int b => some (.int (a - b))
  | .mul, .int a, .int b => if mulOk a b = true then some (.int (a * b)) else none
  | .mul, .lst _ xs, .int k => if k < 2 ^ 60 ∧ -(2 ^ 60) < k ∧ xs.length * k.toNat ≤ most then some (.lst true (List.replicate k.toNat xs).flatten) else none
  | .fdiv, .int a, .int b => if divOk b = true then some (.int (a / b)) else none
  | .mod, .int a, .int b => if 0 < b then some (.int (a % b)) else none
  | .pow, .int a, .int b => if 0 ≤ b ∧ b ≤ 1000 ∧ a.natAbs < 2 ^ 64 then some (.int (a ^ b.toNat)) else none
  | _, _, _ => none

def dget (kvs : List (D × D)) (k : D) : Option D := (kvs.find? fun kv => deq kv.1 k).map (·.2)
/-- a sign in a text -/
def memD (x : D) (ys : List D) : Bool := ys.any fun y => deq y x
def inOp : D → D → Option Bool
  | .str x, .str y => (match cps x with
    | [c] => some (decide (c ∈ cps y))
    | _ => none)
  | x, .lst _ ys => if plain 20 x && plainL 20 ys then some (memD x ys) else none
  | x, .tup ys => if plain 20 x && plainL 20 ys then some (memD x ys) else none
  | x, .dct _ t kvs => if keyOk t x = true then some (dget kvs x).isSome else none
  | _, _ => none
def ltOp : D → D → Option Bool
  | .int a, .int b => some (decide (a < b))
  | .str a, .str b => some (decide (cps a < cps b))
  | .tup xs, .tup ys => if plainL 20 xs && plainL 20 ys && alikeL xs ys then some (dltL xs ys) else none
  | _, _ => none
def cop : Cop → D → D → Option Bool
  | .eq, a, b => if eqOk a b = true then some (deq a b) else none
  | .ne, a, b => if eqOk a b = true then some (!deq a b) else none
  | .lt, a, b => ltOp a b
  | .gt, a, b => ltOp b a
  | .le, a, b => (ltOp b a).map (!·)
  | .ge, a, b => (ltOp a b).map (!·)
  | .inn, a, b => inOp a b
  | .nin, a, b => (inOp a b).map (!·)
  | .is_, a, .non => some (isNon a)
  | .isn, a, .non => some (!isNon a)
  | .is_, .bl a, .bl b => some (a == b)
  | .isn, .bl a, .bl b => some (!(a == b))
  | _, _, _ => none

def truth : D → Option Bool
  | .non => some false
  | .bl b => some b
  | .int i => some (i != 0)
  | .str x => if (cps x).length ≤ most then some (!(cps x).isEmpty) else none
  | .tup xs => some (!xs.isEmpty)
  | .lst _ xs => some (!xs.isEmpty)
  | .dct _ false kvs => some (!kvs.isEmpty)
  | _ => none

def ixOp : D → D → Option D
  | .lst _ xs, .int i => xs[ixOf xs.length i]?
  | .tup xs, .int i => xs[ixOf xs.length i]?
  | .str x, .int i => if (cps x).length ≤ most then ((cps x)[ixOf (cps x).length i]?).map fun c => .str (strOf [c]) else none
  | .dct _ t kvs, k => if keyOk t k = true then dget kvs k else none
  | _, _ => none
def slOp (lo hi : Option Int) : D → Option D
  | .lst _ xs => some (.lst true (cut xs lo hi))
  | .tup xs => if sIx xs.length 0 lo = 0 ∧ sIx xs.length xs.length hi = xs.length then none else some (.tup (cut xs lo hi))
  | .str x => if (cps x).length ≤ most then some (.str (strOf (cut (cps x) lo hi))) else none
  | _ => none

/-! ### dicts -/
def dput (kvs : List (D × D)) (k v : D) : List (D × D) := if (kvs.any fun kv => deq kv.1 k) = true then kvs.map fun kv => if deq kv.1 k = true then (kv.1, v) else kv else kvs ++ [(k, v)]

/-! ### texts -/
def isFig (c : Nat) : Bool := decide (48 ≤ c) && decide (c ≤ 57)
def figs (l : List Nat) : Nat := l.foldl (fun a c => a * 10 + (c - 48)) 0
/-- int(x) of figures, perhaps behind a minus -/
def intOf (l : List Nat) : Option Int := match l with
  | 45 :: r => if r ≠ [] ∧ r.all isFig = true ∧ r.length ≤ 600 then some (-((figs r : Nat) : Int)) else none
  | r => if r ≠ [] ∧ r.all isFig = true ∧ r.length ≤ 600 then some ((figs r : Nat) : Int) else none
def pre (S l : List Nat) : Bool := l.take S.length == S
/-- l cut at each S from the left; k signs are still to be passed over -/
def spl (S : List Nat) : Nat → List Nat → List Nat → List (List Nat)
  | _, acc, [] => [acc]
  | 0, acc, c :: r => if pre S (c :: r) = true then acc :: spl S (S.length - 1) [] r else spl S 0 (acc ++ [c]) r
  | k + 1, acc, _ :: r => spl S k acc r
/-- what stands before the first S, and behind it -/
def par (S : List Nat) : List Nat → List Nat → Option (List Nat × List Nat)
  | _, [] => none
  | acc, c :: r => if pre S (c :: r) = true then some (acc, (c :: r).drop S.length) else par S (acc ++ [c]) r
def joinL (sep : List Nat) : List (List Nat) → List Nat
  | [] => []
  | [x] => x
  | x :: y :: r => x ++ (sep ++ joinL sep (y :: r))
def ascii (l : List Nat) : Bool := l.all fun c => decide (c < 256)
def strs? : List D → Option (List Str)
  | [] => some []
  | .str x :: r => (strs? r).map (x :: ·)
  | _ => none
def ints? : List D → Option (List Int)
  | [] => some []
  | .int x :: r => (ints? r).map (x :: ·)
  | _ => none
def bools? : List D → Option (List Bool)
  | [] => some []
  | .bl x :: r => (bools? r).map (x :: ·)
  | _ => none
def lists? : List D → Option (List (List D))
  | [] => some []
  | .lst _ x :: r => (lists? r).map (x :: ·)
  | _ => none
def pairs? : List D → Option (List (D × D))
  | [] => some []
  | .tup [a, b] :: r => (pairs? r).map ((a, b) :: ·)
  | _ => none
def intText (i : Int) : Str := if 0 ≤ i then strOf ((Nat.toDigits 10 i.toNat).map Char.toNat) else strOf (45 :: (Nat.toDigits 10 (-i).toNat).map Char.toNat)
def minI (a b : Int) : Int := if b < a then b else a
def maxI (a b : Int) : Int := if a < b then b else a

/-- what is walked in a value -/
def itemsOf : D → Option (List D)
  | .lst _ xs => some xs
  | .tup xs => some xs
  | .str x => some ((cps x).map fun c => .str (strOf [c]))
  | .scr ns => some (ns.map .int)
  | _ => none

def b_len : List D → Option D
  | [.lst _ xs] => some (.int xs.length)
  | [.tup xs] => some (.int xs.length)
  | [.str x] => if (cps x).length ≤ most then some (.int (cps x).length) else none
  | [.dct _ false kvs] => some (.int kvs.length)
  | _ => none
def b_list : List D → Option D
  | [.lst _ xs] => some (.lst true xs)
  | [.tup xs] => some (.lst true xs)
  | _ => none
def b_tuple : List D → Option D
  | [.lst _ xs] => some (.tup xs)
  | _ => none
def b_sorted : List D → Option D
  | [.lst _ xs] => if sortable xs = true then some (.lst true (dsort xs)) else none
  | _ => none
def b_sum : List D → Option D
  | [.lst _ xs] => (ints? xs).map fun l => .int l.sum
  | _ => none
def b_sumL : List D → Option D
  | [.lst _ xs, .lst _ []] => (lists? xs).bind fun l => if l.flatten.length ≤ most then some (.lst true l.flatten) else none
  | _ => none
def b_max1 : List D → Option D
  | [.lst _ xs] => (ints? xs).bind fun l => match l with
    | [] => none
    | x :: r => some (.int (r.foldl maxI x))
  | _ => none
def b_min1 : List D → Option D
  | [.lst _ xs] => (ints? xs).bind fun l => match l with
    | [] => none
    | x :: r => some (.int (r.foldl minI x))
  | _ => none
def b_max2 : List D → Option D
  | [.int a, .int b] => some (.int (maxI a b))
  | _ => none
def b_min2 : List D → Option D
  | [.int a, .int b] => some (.int (minI a b))
  | _ => none
def b_abs : List D → Option D
  | [.int a] => some (.int (if a < 0 then -a else a))
  | _ => none
def b_int : List D → Option D
  | [.int a] => some (.int a)
  | [.bl b] => some (.int (if b = true then 1 else 0))
  | [.str x] => (intOf (cps x)).map .int
  | _ => none
def b_str : List D → Option D
  | [.int i] => if i.natAbs.log2 < 1900 then some (.str (intText i)) else none
  | _ => none
def b_any : List D → Option D
  | [.lst _ xs] => (bools? xs).map fun l => .bl (l.any id)
  | _ => none
def b_all : List D → Option D
  | [.lst _ xs] => (bools? xs).map fun l => .bl (l.all id)
  | _ => none
def b_isInt : List D → Option D
  | [d] => if plain 20 d = true then some (.bl (isIntD d)) else none
  | _ => none
def b_isBool : List D → Option D
  | [d] => if plain 20 d = true then some (.bl (isBlD d)) else none
  | _ => none
def b_isStr : List D → Option D
  | [d] => if plain 20 d = true then some (.bl (isStrD d)) else none
  | _ => none
def b_isTuple : List D → Option D
  | [d] => if plain 20 d = true then some (.bl (isTup d)) else none
  | _ => none
def b_isList : List D → Option D
  | [d] => if plain 20 d = true then some (.bl (isLstD d)) else none
  | _ => none
def b_split : List D → Option D
  | [.str x, .str y] => if cps y ≠ [] ∧ ascii (cps y) = true ∧ (cps x).length + 2 ≤ most then some (.lst true ((spl (cps y) 0 [] (cps x)).map fun p => .str (strOf p))) else none
  | _ => none
def b_join : List D → Option D
  | [.str x, .lst _ ys] => (strs? ys).bind fun l => if (l.map fun y => (cps y).length).sum + l.length * (cps x).length ≤ most then some (.str (strOf (joinL (cps x) (l.map cps)))) else none
  | _ => none
def b_partition : List D → Option D
  | [.str x, .str y] => if cps y ≠ [] ∧ (cps x).length ≤ most then (match par (cps y) [] (cps x) with
    | some (a, b) => some (.tup [.str (strOf a), .str y, .str (strOf b)])
    | none => some (.tup [.str x, .str (strOf []), .str (strOf [])])) else none
  | _ => none
def b_count : List D → Option D
  | [.lst _ xs, x] => if plain 20 x && plainL 20 xs then some (.int (xs.countP fun y => deq y x)) else none
  | _ => none
def b_index : List D → Option D
  | [.lst _ xs, x] => if plain 20 x && plainL 20 xs then (if memD x xs = true then some (.int (xs.findIdx fun y => deq y x)) else none) else none
  | _ => none
def b_get1 : List D → Option D
  | [.dct _ t kvs, k] => if keyOk t k = true then some ((dget kvs k).getD .non) else none
  | _ => none
def b_get2 : List D → Option D
  | [.dct _ t kvs, k, d] => if keyOk t k = true then some ((dget kvs k).getD d) else none
  | _ => none
def bn : Bn → List D → Option D
  | .len => b_len
  | .list => b_list
  | .tuple => b_tuple
  | .sorted => b_sorted
  | .sum => b_sum
  | .sumL => b_sumL
  | .max1 => b_max1
  | .min1 => b_min1
  | .max2 => b_max2
  | .min2 => b_min2
  | .abs => b_abs
  | .int => b_int
  | .str => b_str
  | .any => b_any
  | .all => b_all
  | .isInt => b_isInt
  | .isBool => b_isBool
  | .isStr => b_isStr
  | .isTuple => b_isTuple
  | .isList => b_isList
  | .split => b_split
  | .join => b_join
  | .partition => b_partition
  | .count => b_count
  | .index => b_index
  | .get1 => b_get1
  | .get2 => b_get2
  | _ => fun _ => none

/-! ### the forms -/
inductive Tg where
  | nm (i : Nat) | tp (is : List Nat)
def setAll : List Nat → List D → Env → Option Env
  | [], [], s => some s
  | i :: is, d :: ds, s => setAll is ds (sset s i (some d))
  | _, _, _ => none
def bindT : Tg → D → Env → Option Env
  | .nm i, d, s => some (sset s i (some d))
  | .tp is, .tup ds, s => setAll is ds s
  | _, _, _ => none

mutual
inductive E where
  | var (i : Nat) | mref (i : Nat) | cst (d : D) | glob (g : Nat) (d : D)
  | tup (es : Es) | lst (es : Es) | dnew (t : Bool) | dsp (ks : List D) (vs : Es)
  | neg (e : E) | not (c : T) | bin (op : Bop) (a b : E) | cmp (op : Cop) (a b : E) | cmp2 (o1 o2 : Cop) (a b c : E)
  | and (a b : E) | or (a b : E) | ite (c : T) (a b : E)
  | ix (a i : E) | slL (a lo : E) | slH (a hi : E) | slB (a lo hi : E) | slR (a : E)
  | call (f : Nat) (as : Es) | b (f : Bn) (as : Es) | m (f : Bn) (a : E) (as : Es)
  | pop (p : Nat) | popAt (p : Nat) (i : E) | app (p : Nat) (e : E) | ext (p : Nat) (e : E)
  | rng1 (a : E) | rng2 (a b : E) | enum (a : E)
  | lc (el : E) (t : Tg) (it : E) (cs : Ts) (own : List Nat)
  | lc2 (el : E) (t : Tg) (it : E) (cs : Ts) (t2 : Tg) (it2 : E) (cs2 : Ts) (own own1 : List Nat)
  | dc (t : Bool) (k v : E) (tg : Tg) (it : E) (cs : Ts) (own : List Nat)
inductive Es where
  | nil | cons (e : E) (r : Es)
inductive T where
  | v (e : E) | not (c : T) | and (a b : T) | or (a b : T)
inductive Ts where
  | nil | cons (c : T) (r : Ts)
end
mutual
inductive S where
  | set (i : Nat) (e : E) | seto (i : Nat) (e : E) | unp (is : List Nat) (e : E) | par (is : List Nat) (es : Es)
  | sidx (p : Nat) (i e : E) | swp (p : Nat) (i j : E) (a b : E)
  | ex (e : E) | ret (e : E) | reto (e : E) | retN
  | ite (c : T) (a b : Ss) | forr (t : Tg) (it : E) (b : Ss) | whl (c : T) (b : Ss) | brk | cnt | pass
  | raise (c : Nat) (keep : Bool) (as : Es) | bad
inductive Ss where
  | nil | cons (s : S) (r : Ss)
end
inductive F where
  | next | ret (d : D) | brk | cnt

/-- one step over items; what it hands on is kept in order -/
def wipeE (s : Env) : List Nat → Env
  | [] => s
  | v :: vs => sset (wipeE s vs) v none
def compLoop (own : List Nat) (step : D → Env → R (List D)) : List D → Env → R (List D)
  | [], s => .ok [] s
  | x :: r, s => match step x (wipeE s own) with
    | .ok o s1 => (match compLoop own step r s1 with
      | .ok ys s2 => .ok (o ++ ys) s2
      | _ => .bad)
    | _ => .bad
/-- the slots own as they were (but what owned something) -/
def back1 (old new : Env) (i : Nat) : Env := match sget old i with
  | some d => if isOwn d = true then new else sset new i (some d)
  | none => new
def back (own : List Nat) (old new : Env) : Env := own.foldl (back1 old) (wipeE new own)
/-- an operand that is read alone: a name is read when all are there -/
def opd (e : E) (f : Env → R D) (s : Env) : R (Option D) := match e with
  | .var i => (match sget s i with
    | some _ => .ok none s
    | none => .bad)
  | _ => (f s).bind fun d s1 => .ok (some (frz d)) s1
def rdO (e : E) (o : Option D) (s : Env) : Option D := match e with
  | .var i => sget s i
  | _ => o
def rdOs : Es → List (Option D) → Env → Option (List D)
  | .nil, _, _ => some []
  | .cons e r, o :: os, s => (rdO e o s).bind fun d => (rdOs r os s).map (d :: ·)
  | _, _, _ => none
/-- arguments: a copy, or a name handed on to be changed -/
def mrefs : Es → List Nat
  | .nil => []
  | .cons (.mref i) r => i :: mrefs r
  | .cons _ r => mrefs r
def argOf (e : E) (f : Env → R D) (s : Env) : R (Option D) := match e with
  | .mref i => (match sget s i with
    | some _ => .ok none s
    | none => .bad)
  | _ => (f s).bind fun d s1 => .ok (some (frz d)) s1
def argD : Es → List (Option D) → Env → Option (List D)
  | .nil, _, _ => some []
  | .cons (.mref i) r, _ :: os, s => (sget s i).bind fun d => (argD r os s).map (d :: ·)
  | .cons _ r, some d :: os, s => (argD r os s).map (d :: ·)
  | _, _, _ => none
def setOuts : List Nat → List D → Env → Option Env
  | [], [], s => some s
  | i :: is, d :: ds, s => setOuts is ds (sset s i (some d))
  | _, _, _ => none
def fromCR (ms : List Nat) (s : Env) : CR → R D
  | .ok d outs => (match setOuts ms outs s with
    | some s1 => .ok d s1
    | none => .bad)
  | .exc x outs => (match setOuts ms outs s with
    | some s1 => .exc x s1
    | none => .bad)
  | .bad => .bad
abbrev FT := Nat → List D → CR

/-- the lists at a name -/
def lstAt (p : Nat) (s : Env) : Option (List D) := match sget s p with
  | some (.lst true xs) => some xs
  | _ => none
/-- whose method it is -/
def mOk (f : Bn) (d : D) : Bool := match f, d with
  | .split, .str _ => true
  | .join, .str _ => true
  | .partition, .str _ => true
  | .get1, .dct _ _ _ => true
  | .get2, .dct _ _ _ => true
  | .count, .lst _ _ => true
  | .index, .lst _ _ => true
  | _, _ => false
def enumL : Nat → List D → List D
  | _, [] => []
  | n, x :: r => .tup [.int n, x] :: enumL (n + 1) r
def rangeL (a b : Int) : List D := (List.range (b - a).toNat).map fun (k : Nat) => .int (a + (k : Int))
def rngOk (a b : Int) : Bool := decide (-(2 ^ 60) < a) && decide (a < 2 ^ 60) && decide (-(2 ^ 60) < b) && decide (b < 2 ^ 60)
/-- what an iterable walks -/
def itemsR (e : E) (f : Env → R D) (s : Env) : R (List D) := match e with
  | .rng1 _ => (f s).bind fun d s1 => (match d with
    | .int n => if rngOk 0 n = true then .ok (rangeL 0 n) s1 else .bad
    | _ => .bad)
  | .rng2 _ _ => (f s).bind fun d s1 => (match d with
    | .tup [.int a, .int b] => if rngOk a b = true then .ok (rangeL a b) s1 else .bad
    | _ => .bad)
  | .enum _ => (f s).bind fun d s1 => (match d with
    | .lst _ xs => .ok (enumL 0 xs) s1
    | _ => .bad)
  | _ => (f s).bind fun d s1 => lift (itemsOf (frz d)) s1
def dputAll (t : Bool) : List D → List (D × D) → Option (List (D × D))
  | [], acc => some acc
  | .tup [k, v] :: r, acc => if keyOk t k = true then dputAll t r (dput acc k v) else none
  | _, _ => none
def zipD : List D → List D → Option (List (D × D))
  | [], [] => some []
  | a :: as, b :: bs => (zipD as bs).map ((a, b) :: ·)
  | _, _ => none

mutual
def ev (Γ : FT) : E → Env → R D
  | .var i, s => copyV i s
  | .mref _, _ => .bad
  | .cst d, s => .ok d s
  | .glob _ d, s => .ok d s
  | .tup es, s => (evs Γ es s).bind fun ds s1 => .ok (.tup ds) s1
  | .lst es, s => (evs Γ es s).bind fun ds s1 => .ok (.lst true ds) s1
  | .dnew t, s => .ok (.dct true t []) s
  | .dsp ks vs, s => (evs Γ vs s).bind fun vs s2 => lift ((zipD ks vs).map fun l => .dct true false (l.foldl (fun a kv => dput a kv.1 kv.2) [])) s2
  | .neg e, s => (opd e (ev Γ e) s).bind fun x s1 => (match rdO e x s1 with
    | some (.int i) => .ok (.int (-i)) s1
    | _ => .bad)
  | .not e, s => (evT Γ e s).bind fun t s1 => .ok (.bl (!t)) s1
  | .bin op a b, s => (opd a (ev Γ a) s).bind fun x s1 => (opd b (ev Γ b) s1).bind fun y s2 => (match rdO a x s2, rdO b y s2 with
    | some x, some y => lift (bop op x y) s2
    | _, _ => .bad)
  | .cmp op a b, s => (opd a (ev Γ a) s).bind fun x s1 => (opd b (ev Γ b) s1).bind fun y s2 => (match rdO a x s2, rdO b y s2 with
    | some x, some y => lift ((cop op x y).map .bl) s2
    | _, _ => .bad)
  | .cmp2 o1 o2 a b c, s => (opd a (ev Γ a) s).bind fun x s1 => (opd b (ev Γ b) s1).bind fun y s2 => (match rdO a x s2, rdO b y s2 with
    | some x, some y' => (match cop o1 x y' with
      | some true => (opd c (ev Γ c) s2).bind fun z s3 => (match rdO b y s3, rdO c z s3 with
        | some y, some z => lift ((cop o2 y z).map .bl) s3
        | _, _ => .bad)
      | some false => .ok (.bl false) s2
      | none => .bad)
    | _, _ => .bad)
  | .and a b, s => (ev Γ a s).bind fun x s1 => (match x with
    | .bl true => ev Γ b s1
    | .bl false => .ok (.bl false) s1
    | _ => .bad)
  | .or a b, s => (ev Γ a s).bind fun x s1 => (match x with
    | .bl false => ev Γ b s1
    | .bl true => .ok (.bl true) s1
    | _ => .bad)
  | .ite c a b, s => (evT Γ c s).bind fun t s1 => if t = true then ev Γ a s1 else ev Γ b s1
  | .ix a i, s => (opd a (ev Γ a) s).bind fun x s1 => (opd i (ev Γ i) s1).bind fun y s2 => (match rdO a x s2, rdO i y s2 with
    | some x, some y => lift (ixOp x y) s2
    | _, _ => .bad)
  | .slL a lo, s => (opd a (ev Γ a) s).bind fun x s1 => (opd lo (ev Γ lo) s1).bind fun y s2 => (match rdO a x s2, rdO lo y s2 with
    | some x, some (.int l) => lift (slOp (some l) none x) s2
    | _, _ => .bad)
  | .slH a hi, s => (opd a (ev Γ a) s).bind fun x s1 => (opd hi (ev Γ hi) s1).bind fun y s2 => (match rdO a x s2, rdO hi y s2 with
    | some x, some (.int l) => lift (slOp none (some l) x) s2
    | _, _ => .bad)
  | .slB a lo hi, s => (opd a (ev Γ a) s).bind fun x s1 => (opd lo (ev Γ lo) s1).bind fun y s2 => (match rdO lo y s2 with
    | some (.int l) => (opd hi (ev Γ hi) s2).bind fun z s3 => (match rdO a x s3, rdO hi z s3 with
      | some x, some (.int h) => lift (slOp (some l) (some h) x) s3
      | _, _ => .bad)
    | _ => .bad)
  | .slR a, s => (opd a (ev Γ a) s).bind fun x s1 => (match rdO a x s1 with
    | some (.lst _ xs) => .ok (.lst true xs.reverse) s1
    | _ => .bad)
  | .call f as, s => (evArgs Γ as s).bind fun os s1 => (match argD as os s1 with
    | some ds => if (mrefs as).Nodup then fromCR (mrefs as) s1 (Γ f ds) else .bad
    | none => .bad)
  | .b f as, s => (evOps Γ as s).bind fun os s1 => (match rdOs as os s1 with
    | some ds => lift (bn f ds) s1
    | none => .bad)
  | .m f a as, s => (opd a (ev Γ a) s).bind fun x s1 => (match rdO a x s1 with
    | some d => if mOk f d = true then (evOps Γ as s1).bind fun os s2 => (match rdO a x s2, rdOs as os s2 with
      | some x, some ds => lift (bn f (x :: ds)) s2
      | _, _ => .bad) else .bad
    | none => .bad)
  | .pop p, s => (match lstAt p s with
    | some xs => (match xs.getLast? with
      | some x => .ok x (sset s p (some (.lst true xs.dropLast)))
      | none => .bad)
    | none => .bad)
  | .popAt p i, s => match lstAt p s with
    | none => .bad
    | some _ => (opd i (ev Γ i) s).bind fun y s1 => (match rdO i y s1, lstAt p s1 with
    | some (.int i), some xs => if xs.length ≤ most then (match xs[ixOf xs.length i]? with
      | some x => .ok x (sset s1 p (some (.lst true (xs.eraseIdx (ixOf xs.length i)))))
      | none => .bad) else .bad
    | _, _ => .bad)
  | .app p e, s => match lstAt p s with
    | none => .bad
    | some _ => (ev Γ e s).bind fun d s1 => (match lstAt p s1 with
    | some xs => if xs.length < most then .ok .non (sset s1 p (some (.lst true (xs ++ [frz d])))) else .bad
    | none => .bad)
  | .ext p e, s => match lstAt p s with
    | none => .bad
    | some _ => (opd e (ev Γ e) s).bind fun y s1 => (match rdO e y s1, lstAt p s1 with
    | some (.lst _ ys), some xs => if xs.length + ys.length ≤ most then .ok .non (sset s1 p (some (.lst true (xs ++ ys)))) else .bad
    | _, _ => .bad)
  | .rng1 a, s => (opd a (ev Γ a) s).bind fun x s1 => lift (rdO a x s1) s1
  | .rng2 a b, s => (opd a (ev Γ a) s).bind fun x s1 => (opd b (ev Γ b) s1).bind fun y s2 => (match rdO a x s2, rdO b y s2 with
    | some x, some y => .ok (.tup [x, y]) s2
    | _, _ => .bad)
  | .enum a, s => ev Γ a s
  | .lc el t it cs own, s => (itemsR it (ev Γ it) s).bind fun xs s1 =>
      (compLoop own (fun x s2 => match bindT t x s2 with
        | none => .bad
        | some s3 => (tests Γ cs s3).bind fun c s4 => if c = true then (ev Γ el s4).bind fun d s5 => .ok [frz d] s5 else .ok [] s4) xs s1).bind fun ys s2 => if ys.length ≤ most then .ok (.lst true ys) (back own s1 s2) else .bad
  | .lc2 el t it cs t2 it2 cs2 own own1, s => (itemsR it (ev Γ it) s).bind fun xs s1 =>
      (compLoop own (fun x s2 => match bindT t x s2 with
        | none => .bad
        | some s3 => (tests Γ cs s3).bind fun c s4 => if c = true then (itemsR it2 (ev Γ it2) s4).bind fun ys s5 =>
            compLoop own1 (fun y s6 => match bindT t2 y s6 with
              | none => .bad
              | some s7 => (tests Γ cs2 s7).bind fun c s8 => if c = true then (ev Γ el s8).bind fun d s9 => .ok [frz d] s9 else .ok [] s8) ys s5
          else .ok [] s4) xs s1).bind fun ys s2 => if ys.length ≤ most then .ok (.lst true ys) (back own s1 s2) else .bad
  | .dc tk k v t it cs own, s => (itemsR it (ev Γ it) s).bind fun xs s1 =>
      (compLoop own (fun x s2 => match bindT t x s2 with
        | none => .bad
        | some s3 => (tests Γ cs s3).bind fun c s4 => if c = true then (ev Γ k s4).bind fun d s5 => (ev Γ v s5).bind fun e s6 => .ok [.tup [frz d, frz e]] s6 else .ok [] s4) xs s1).bind fun ys s2 =>
          (match dputAll tk ys [] with
            | some kvs => .ok (.dct true tk kvs) (back own s1 s2)
            | none => .bad)
/-- items of a display: copies -/
def evs (Γ : FT) : Es → Env → R (List D)
  | .nil, s => .ok [] s
  | .cons e r, s => (ev Γ e s).bind fun d s1 => (evs Γ r s1).bind fun ds s2 => .ok (frz d :: ds) s2
/-- arguments of a built-in -/
def evOps (Γ : FT) : Es → Env → R (List (Option D))
  | .nil, s => .ok [] s
  | .cons e r, s => (opd e (ev Γ e) s).bind fun d s1 => (evOps Γ r s1).bind fun ds s2 => .ok (d :: ds) s2
/-- arguments of a def -/
def evArgs (Γ : FT) : Es → Env → R (List (Option D))
  | .nil, s => .ok [] s
  | .cons e r, s => (argOf e (ev Γ e) s).bind fun d s1 => (evArgs Γ r s1).bind fun ds s2 => .ok (d :: ds) s2
def evT (Γ : FT) : T → Env → R Bool
  | .not e, s => (evT Γ e s).bind fun t s1 => .ok (!t) s1
  | .and a b, s => (evT Γ a s).bind fun t s1 => if t = true then evT Γ b s1 else .ok false s1
  | .or a b, s => (evT Γ a s).bind fun t s1 => if t = true then .ok true s1 else evT Γ b s1
  | .v e, s => (opd e (ev Γ e) s).bind fun x s1 => (match rdO e x s1 with
    | some d => lift (truth d) s1
    | none => .bad)
def tests (Γ : FT) : Ts → Env → R Bool
  | .nil, s => .ok true s
  | .cons e r, s => (evT Γ e s).bind fun t s1 => if t = true then tests Γ r s1 else .ok false s1
end

/-! ### statements -/
def forLoop (step : D → Env → R F) : List D → Env → R F
  | [], s => .ok .next s
  | x :: r, s => (step x s).bind fun f s1 => (match f with
    | .next => forLoop step r s1
    | .cnt => forLoop step r s1
    | .brk => .ok .next s1
    | .ret d => .ok (.ret d) s1)
def whileLoop (c : Env → R Bool) (b : Env → R F) : Nat → Env → R F
  | 0, _ => .bad
  | n + 1, s => (c s).bind fun t s1 => if t = true then (b s1).bind fun f s2 => (match f with
    | .next => whileLoop c b n s2
    | .cnt => whileLoop c b n s2
    | .brk => .ok .next s2
    | .ret d => .ok (.ret d) s2) else .ok .next s1
def fuelW : Nat := 2 ^ 200
/-- p[i] = v -/
def sidxD (p : Nat) (i v : D) (s : Env) : Option Env := match sget s p, i with
  | some (.lst true xs), .int i => if ixOf xs.length i < xs.length then some (sset s p (some (.lst true (xs.set (ixOf xs.length i) v)))) else none
  | some (.dct true t kvs), k => if keyOk t k = true ∧ kvs.length < most then some (sset s p (some (.dct true t (dput kvs k v)))) else none
  | _, _ => none
mutual
def exec (Γ : FT) : S → Env → R F
  | .set i e, s => (ev Γ e s).bind fun d s1 => .ok .next (sset s1 i (some (frz d)))
  | .seto i e, s => (ev Γ e s).bind fun d s1 => .ok .next (sset s1 i (some d))
  | .unp is e, s => (opd e (ev Γ e) s).bind fun x s1 => (match rdO e x s1 with
    | some (.tup ds) => (lift (setAll is ds s1) s1).bind fun s2 _ => .ok .next s2
    | _ => .bad)
  | .par is es, s => (evs Γ es s).bind fun ds s1 => (lift (setAll is ds s1) s1).bind fun s2 _ => .ok .next s2
  | .sidx p i e, s => (ev Γ e s).bind fun d s1 => (match sget s1 p with
    | none => .bad
    | some _ => (ev Γ i s1).bind fun k s2 => (lift (sidxD p (frz k) (frz d) s2) s2).bind fun s3 _ => .ok .next s3)
  | .swp p i j a b, s => (ev Γ a s).bind fun x s1 => (ev Γ b s1).bind fun y s2 => (ev Γ i s2).bind fun k s3 => (lift (sidxD p (frz k) (frz x) s3) s3).bind fun s4 _ =>
      (ev Γ j s4).bind fun l s5 => (lift (sidxD p (frz l) (frz y) s5) s5).bind fun s6 _ => .ok .next s6
  | .ex e, s => (ev Γ e s).bind fun _ s1 => .ok .next s1
  | .ret e, s => (ev Γ e s).bind fun d s1 => .ok (.ret (frz d)) s1
  | .reto (.var i), s => (match sget s i with
    | some d => .ok (.ret d) (sset s i none)
    | none => .bad)
  | .reto e, s => (ev Γ e s).bind fun d s1 => .ok (.ret d) s1
  | .retN, s => .ok (.ret .non) s
  | .ite c a b, s => (evT Γ c s).bind fun t s1 => if t = true then execs Γ a s1 else execs Γ b s1
  | .forr t it b, s => (itemsR it (ev Γ it) s).bind fun xs s1 => forLoop (fun x s2 => match bindT t x s2 with
    | some s3 => execs Γ b s3
    | none => .bad) xs s1
  | .whl c b, s => whileLoop (evT Γ c) (execs Γ b) fuelW s
  | .brk, s => .ok .brk s
  | .cnt, s => .ok .cnt s
  | .pass, s => .ok .next s
  | .bad, _ => .bad
  | .raise c keep as, s => (evs Γ as s).bind fun ds s1 => .exc ⟨c, if keep = true then ds.head? else none⟩ s1
def execs (Γ : FT) : Ss → Env → R F
  | .nil, s => .ok .next s
  | .cons a r, s => (exec Γ a s).bind fun f s1 => (match f with
    | .next => execs Γ r s1
    | f => .ok f s1)
end

/-! ### defs -/
structure FDef where
  np : Nat
  ns : Nat
  dfl : List D
  mp : List Nat
  body : Ss
def outsOf (s : Env) : List Nat → Option (List D)
  | [] => some []
  | i :: r => (sget s i).bind fun d => (outsOf s r).map (d :: ·)
/-- a def run on all its arguments -/
def callB (Γ : FT) (fd : FDef) (ds : List D) : CR :=
    match execs Γ fd.body (ds.map some ++ List.replicate (fd.ns - fd.np) none) with
    | .ok f s => (match f, outsOf s fd.mp with
      | .next, some os => .ok .non os
      | .ret d, some os => .ok d os
      | _, _ => .bad)
    | .exc x s => (match outsOf s fd.mp with
      | some os => .exc x os
      | none => .bad)
    | .bad => .bad
def callF (Γ : FT) (fd : FDef) (ds : List D) : CR :=
  if ds.length ≤ fd.np ∧ fd.np ≤ ds.length + fd.dfl.length then callB Γ fd (ds ++ fd.dfl.drop (ds.length + fd.dfl.length - fd.np))
  else .bad
abbrev Prog := Nat → Option FDef
def run (P : Prog) : Nat → FT
  | 0 => fun _ _ => .bad
  | n + 1 => fun f ds => match P f with
    | some fd => callF (run P n) fd ds
    | none => .bad
end OM


set_option autoImplicit false
set_option linter.all false
set_option maxRecDepth 100000
/-! S1: what stands for plain data in the abstract heap. -/
namespace OM
open PySem PySem.Spec PyProof.Rows L2

abbrev Frag := PySem.W.Frag
def keyK : D → Option Key
  | .int i => some (.inl i)
  | .str x => some (.inr x)
  | _ => none
def keyKs : List D → Option (List Key)
  | [] => some []
  | d :: r => (keyK d).bind fun k => (keyKs r).map (k :: ·)
def keyT : D → Option (List Key)
  | .tup xs => keyKs xs
  | _ => none

mutual
/-- frozen data: v stands for it in F -/
def dat (K : Frag) (F : Hp) : D → V → Prop
  | .non, v => v = .non
  | .bl b, v => v = .bl b
  | .int i, v => v = .int i
  | .str x, v => v = .str x
  | .tup xs, v => ∃ a vs, v = .ref a ∧ F a = some (.tup vs) ∧ datL K F xs vs
  | .lst o xs, v => o = false ∧ ∃ a vs, v = .ref a ∧ F a = some (.lst vs) ∧ datL K F xs vs
  | .dct o t kvs, v => o = false ∧ ∃ a, v = .ref a ∧ ((t = false ∧ ∃ l, F a = some (.dK l) ∧ datK K F kvs l) ∨ (t = true ∧ ∃ l, F a = some (.dT l) ∧ datT K F kvs l))
  | .ins _ _ _, _ => False
  | .scr ns, v => ∃ a, v = .ref a ∧ SqL K F a (ns.map V.int)
def datL (K : Frag) (F : Hp) : List D → List V → Prop
  | [], vs => vs = []
  | d :: r, vs => ∃ v t, vs = v :: t ∧ dat K F d v ∧ datL K F r t
def datK (K : Frag) (F : Hp) : List (D × D) → List (Key × V) → Prop
  | [], l => l = []
  | (k, d) :: r, l => ∃ q v t, l = (q, v) :: t ∧ keyK k = some q ∧ dat K F d v ∧ datK K F r t
def datT (K : Frag) (F : Hp) : List (D × D) → List (List Key × V) → Prop
  | [], l => l = []
  | (k, d) :: r, l => ∃ q v t, l = (q, v) :: t ∧ keyT k = some q ∧ dat K F d v ∧ datT K F r t
end

theorem sqT_mono {K : Frag} {F F' : Hp} {a : Addr} {vs : List V} (h : Same F F') : SqT K F a vs → SqT K F' a vs
  | .inl (.inl e) => .inl (.inl (h _ _ e))
  | .inl (.inr ⟨o, e⟩) => .inl (.inr ⟨o, h _ _ e⟩)
  | .inr q => .inr q
theorem sqL_mono {K : Frag} {F F' : Hp} {a : Addr} {vs : List V} (h : Same F F') : SqL K F a vs → SqL K F' a vs
  | .inl (.inl e) => .inl (.inl (h _ _ e))
  | .inl (.inr ⟨o, e⟩) => .inl (.inr ⟨o, h _ _ e⟩)
  | .inr q => .inr q

section
variable {K : Frag} {F F' : Hp} (h : Same F F')
include h
mutual
theorem dat_mono : ∀ (d : D) (v : V), dat K F d v → dat K F' d v
  | .non, _, q => q
  | .bl _, _, q => q
  | .int _, _, q => q
  | .str _, _, q => q
  | .tup xs, v, q => by
    simp only [dat] at q ⊢
    obtain ⟨a, vs, e, s, l⟩ := q
    exact ⟨a, vs, e, h _ _ s, datL_mono xs vs l⟩
  | .lst o xs, v, q => by
    simp only [dat] at q ⊢
    obtain ⟨eo, a, vs, e, s, l⟩ := q
    exact ⟨eo, a, vs, e, h _ _ s, datL_mono xs vs l⟩
  | .dct o t kvs, v, q => by
    simp only [dat] at q ⊢
    obtain ⟨eo, a, e, s⟩ := q
    refine ⟨eo, a, e, ?_⟩
    rcases s with ⟨et, l, x, y⟩ | ⟨et, l, x, y⟩
    · exact .inl ⟨et, l, h _ _ x, datK_mono kvs l y⟩
    · exact .inr ⟨et, l, h _ _ x, datT_mono kvs l y⟩
  | .ins _ _ _, _, q => by simp only [dat] at q
  | .scr ns, v, q => by
    simp only [dat] at q ⊢
    obtain ⟨a, e, s⟩ := q
    exact ⟨a, e, sqL_mono h s⟩
theorem datL_mono : ∀ (ds : List D) (vs : List V), datL K F ds vs → datL K F' ds vs
  | [], vs, q => by simpa only [datL] using q
  | d :: r, vs, q => by
    simp only [datL] at q ⊢
    obtain ⟨v, t, e, x, y⟩ := q
    exact ⟨v, t, e, dat_mono d v x, datL_mono r t y⟩
theorem datK_mono : ∀ (ds : List (D × D)) (vs : List (Key × V)), datK K F ds vs → datK K F' ds vs
  | [], vs, q => by simpa only [datK] using q
  | (k, d) :: r, vs, q => by
    simp only [datK] at q ⊢
    obtain ⟨k', v, t, e, ek, x, y⟩ := q
    exact ⟨k', v, t, e, ek, dat_mono d v x, datK_mono r t y⟩
theorem datT_mono : ∀ (ds : List (D × D)) (vs : List (List Key × V)), datT K F ds vs → datT K F' ds vs
  | [], vs, q => by simpa only [datT] using q
  | (k, d) :: r, vs, q => by
    simp only [datT] at q ⊢
    obtain ⟨k', v, t, e, ek, x, y⟩ := q
    exact ⟨k', v, t, e, ek, dat_mono d v x, datT_mono r t y⟩
end
end

/-- data that may be owned: A the objects that are its own -/
def rep (K : Frag) (F H : Hp) : D → V → List Addr → Prop
  | .lst true xs, v, A => ∃ a vs, v = .ref a ∧ A = [a] ∧ H a = some (.lst vs) ∧ datL K F xs vs
  | .dct true t kvs, v, A => ∃ a, v = .ref a ∧ A = [a] ∧ ((t = false ∧ ∃ l, H a = some (.dK l) ∧ datK K F kvs l) ∨ (t = true ∧ ∃ l, H a = some (.dT l) ∧ datT K F kvs l))
  | d, v, A => A = [] ∧ dat K F d v

theorem rep_of_dat {K : Frag} {F H : Hp} {d : D} {v : V} (h : dat K F d v) : rep K F H d v [] := by
  cases d with
  | lst o xs => cases o with
    | true => simp [dat] at h
    | false => exact ⟨rfl, h⟩
  | dct o t xs => cases o with
    | true => simp [dat] at h
    | false => exact ⟨rfl, h⟩
  | _ => exact ⟨rfl, h⟩
theorem rep_mono {K : Frag} {F H F' H' : Hp} {d : D} {v : V} {A : List Addr} (hF : Same F F') (hH : ∀ a ∈ A, H' a = H a) (h : rep K F H d v A) : rep K F' H' d v A := by
  cases d with
  | lst o xs => cases o with
    | true =>
      obtain ⟨a, vs, e, eA, x, y⟩ := h
      exact ⟨a, vs, e, eA, by rw [hH a (by rw [eA]; simp), x], datL_mono hF _ _ y⟩
    | false => exact ⟨h.1, dat_mono hF _ _ h.2⟩
  | dct o t xs => cases o with
    | true =>
      obtain ⟨a, e, eA, x⟩ := h
      refine ⟨a, e, eA, ?_⟩
      rw [hH a (by rw [eA]; simp)]
      rcases x with ⟨et, l, x, y⟩ | ⟨et, l, x, y⟩
      · exact .inl ⟨et, l, x, datK_mono hF _ _ y⟩
      · exact .inr ⟨et, l, x, datT_mono hF _ _ y⟩
    | false => exact ⟨h.1, dat_mono hF _ _ h.2⟩
  | _ => exact ⟨h.1, dat_mono hF _ _ h.2⟩

/-- the parts: F frozen, O owned -/
structure Wf (F H : Hp) (O : List Addr) : Prop where
  nd : O.Nodup
  fh : Same F H
  of : ∀ a ∈ O, F a = none
  oh : ∀ a ∈ O, H a ≠ none
/-- what may happen to the heap -/
structure Ext (F H : Hp) (O : List Addr) (F' H' : Hp) (O' : List Addr) : Prop where
  fm : Same F F'
  keep : ∀ a o, H a = some o → a ∉ O → H' a = some o
  fnew : ∀ a, F' a ≠ none → F a ≠ none ∨ a ∈ O ∨ H a = none
  onew : ∀ a ∈ O', a ∈ O ∨ H a = none
theorem Ext.refl {F H : Hp} {O : List Addr} : Ext F H O F H O := ⟨Same.refl _, fun _ _ e _ => e, fun _ h => .inl h, fun _ h => .inl h⟩
theorem Ext.trans {F H F1 H1 F2 H2 : Hp} {O O1 O2 : List Addr} (a : Ext F H O F1 H1 O1) (b : Ext F1 H1 O1 F2 H2 O2) : Ext F H O F2 H2 O2 where
  fm := a.fm.trans b.fm
  keep := fun c o e n => b.keep c o (a.keep c o e n) fun z => by
    rcases a.onew c z with q | q
    · exact n q
    · rw [e] at q; cases q
  fnew := fun c z => by
    rcases b.fnew c z with q | q | q
    · exact a.fnew c q
    · exact .inr (a.onew c q)
    · by_cases hc : c ∈ O
      · exact .inr (.inl hc)
      · cases e : H c with
        | none => exact .inr (.inr rfl)
        | some o => rw [a.keep c o e hc] at q; cases q
  onew := fun c z => by
    rcases b.onew c z with q | q
    · exact a.onew c q
    · by_cases hc : c ∈ O
      · exact .inl hc
      · cases e : H c with
        | none => exact .inr rfl
        | some o => rw [a.keep c o e hc] at q; cases q
theorem Ext.sub {F H F1 H1 : Hp} {O O1 O2 : List Addr} (a : Ext F H O F1 H1 O1) (h : ∀ c ∈ O2, c ∈ O1) : Ext F H O F1 H1 O2 := ⟨a.fm, a.keep, a.fnew, fun c z => a.onew c (h c z)⟩

/-- the names' values -/
def erep (K : Frag) (F H : Hp) : Env → L2.St → List Addr → Prop
  | [], σ, O => σ = [] ∧ O = []
  | none :: e, σ, O => ∃ x r, σ = x :: r ∧ erep K F H e r O
  | some d :: e, σ, O => ∃ v r A O', σ = some v :: r ∧ O = A ++ O' ∧ rep K F H d v A ∧ erep K F H e r O'
theorem erep_mono {K : Frag} {F H F' H' : Hp} (hF : Same F F') : ∀ {s : Env} {σ : L2.St} {O : List Addr}, (∀ a ∈ O, H' a = H a) → erep K F H s σ O → erep K F' H' s σ O
  | [], _, _, _, ⟨h1, h2⟩ => ⟨h1, h2⟩
  | none :: e, _, _, hH, ⟨x, r, e1, h⟩ => ⟨x, r, e1, erep_mono hF hH h⟩
  | some d :: e, _, _, hH, ⟨v, r, A, O', e1, e2, h1, h2⟩ => ⟨v, r, A, O', e1, e2, rep_mono hF (fun a z => hH a (by rw [e2]; exact List.mem_append_left _ z)) h1, erep_mono hF (fun a z => hH a (by rw [e2]; exact List.mem_append_right _ z)) h2⟩
theorem erep_len {K : Frag} {F H : Hp} : ∀ {s : Env} {σ : L2.St} {O : List Addr}, erep K F H s σ O → σ.length = s.length
  | [], _, _, ⟨e, _⟩ => by rw [e]; rfl
  | none :: e, _, _, ⟨x, r, e1, h⟩ => by rw [e1]; simp [erep_len h]
  | some d :: e, _, _, ⟨v, r, A, O', e1, e2, h1, h2⟩ => by rw [e1]; simp [erep_len h2]
/-- a name is read: its own objects are among those of all -/
theorem erep_get {K : Frag} {F H : Hp} : ∀ {s : Env} {σ : L2.St} {O : List Addr} {i : Nat} {d : D}, erep K F H s σ O → sget s i = some d → ∃ v A, σ[i]? = some (some v) ∧ rep K F H d v A ∧ ∀ a ∈ A, a ∈ O
  | [], _, _, i, d, _, e => by cases i <;> cases e
  | none :: s, _, _, 0, d, _, e => by cases e
  | none :: s, _, _, i + 1, d, ⟨x, r, e1, h⟩, e => by
    obtain ⟨v, A, q1, q2, q3⟩ := erep_get (i := i) h e
    exact ⟨v, A, by rw [e1]; exact q1, q2, q3⟩
  | some d0 :: s, _, _, 0, d, ⟨v, r, A, O', e1, e2, h1, h2⟩, e => by
    cases e
    exact ⟨v, A, by rw [e1]; rfl, h1, fun a z => by rw [e2]; exact List.mem_append_left _ z⟩
  | some d0 :: s, _, _, i + 1, d, ⟨v, r, A, O', e1, e2, h1, h2⟩, e => by
    obtain ⟨v', A', q1, q2, q3⟩ := erep_get (i := i) h2 e
    exact ⟨v', A', by rw [e1]; exact q1, q2, fun a z => by rw [e2]; exact List.mem_append_right _ (q3 a z)⟩
/-- a name's value is taken out -/
theorem erep_take {K : Frag} {F H : Hp} : ∀ {s : Env} {σ : L2.St} {O : List Addr} {i : Nat} {d : D}, erep K F H s σ O → sget s i = some d → ∃ v A O', σ[i]? = some (some v) ∧ rep K F H d v A ∧ O.Perm (A ++ O') ∧ erep K F H (sset s i none) σ O'
  | [], _, _, i, d, _, e => by cases i <;> cases e
  | none :: s, _, _, 0, d, _, e => by cases e
  | none :: s, _, _, i + 1, d, ⟨x, r, e1, h⟩, e => by
    obtain ⟨v, A, O', q1, q2, q3, q4⟩ := erep_take (i := i) h e
    exact ⟨v, A, O', by rw [e1]; exact q1, q2, q3, ⟨x, r, e1, q4⟩⟩
  | some d0 :: s, _, _, 0, d, ⟨v, r, A, O', e1, e2, h1, h2⟩, e => by
    cases e
    exact ⟨v, A, O', by rw [e1]; rfl, h1, by rw [e2], ⟨some v, r, e1, h2⟩⟩
  | some d0 :: s, _, _, i + 1, d, ⟨v, r, A, O', e1, e2, h1, h2⟩, e => by
    obtain ⟨v', A', O2, q1, q2, q3, q4⟩ := erep_take (i := i) h2 e
    refine ⟨v', A', A ++ O2, by rw [e1]; exact q1, q2, ?_, ⟨v, r, A, O2, e1, rfl, h1, q4⟩⟩
    rw [e2]
    refine (List.Perm.append_left A q3).trans ?_
    rw [← List.append_assoc, ← List.append_assoc]
    exact List.Perm.append_right O2 List.perm_append_comm
/-- a value is put at an empty name, or at any that owns nothing -/
theorem erep_put {K : Frag} {F H : Hp} {d : D} {v : V} {A : List Addr} (h1 : rep K F H d v A) : ∀ {s : Env} {σ : L2.St} {O : List Addr} {i : Nat}, erep K F H (sset s i none) σ O → i < s.length → ∃ O', (A ++ O).Perm O' ∧ erep K F H (sset s i (some d)) (σ.set i (some v)) O'
  | [], _, _, i, _, e => by cases e
  | x :: s, _, O, 0, ⟨y, r, e1, h⟩, _ => ⟨A ++ O, .refl _, v, r, A, O, by rw [e1]; rfl, rfl, h1, h⟩
  | none :: s, _, O, i + 1, ⟨y, r, e1, h⟩, hi => by
    obtain ⟨O', q1, q2⟩ := erep_put (i := i) h1 h (Nat.lt_of_succ_lt_succ hi)
    exact ⟨O', q1, y, r.set i (some v), by rw [e1]; rfl, q2⟩
  | some d0 :: s, _, O, i + 1, ⟨w, r, B, O1, e1, e2, h2, h3⟩, hi => by
    obtain ⟨O', q1, q2⟩ := erep_put (i := i) h1 h3 (Nat.lt_of_succ_lt_succ hi)
    refine ⟨B ++ O', ?_, w, r.set i (some v), B, O', by rw [e1]; rfl, rfl, h2, q2⟩
    rw [e2]
    refine List.Perm.trans ?_ (List.Perm.append_left B q1)
    rw [← List.append_assoc, ← List.append_assoc]
    exact List.Perm.append_right O1 List.perm_append_comm
/-- a name's value is forgotten -/
theorem erep_drop {K : Frag} {F H : Hp} : ∀ {s : Env} {σ : L2.St} {O : List Addr} (i : Nat), erep K F H s σ O → ∃ O', (∀ a ∈ O', a ∈ O) ∧ (O.Nodup → O'.Nodup) ∧ erep K F H (sset s i none) σ O'
  | [], _, O, i, h => ⟨O, fun _ z => z, fun z => z, h⟩
  | none :: s, _, O, 0, h => ⟨O, fun _ z => z, fun z => z, h⟩
  | none :: s, _, O, i + 1, ⟨x, r, e1, h⟩ => by
    obtain ⟨O', q1, q2, q3⟩ := erep_drop i h
    exact ⟨O', q1, q2, x, r, e1, q3⟩
  | some d0 :: s, _, O, 0, ⟨v, r, A, O', e1, e2, h1, h2⟩ => ⟨O', fun a z => by rw [e2]; exact List.mem_append_right _ z, fun z => by rw [e2] at z; exact (List.nodup_append.mp z).2.1, some v, r, e1, h2⟩
  | some d0 :: s, _, O, i + 1, ⟨v, r, A, O', e1, e2, h1, h2⟩ => by
    obtain ⟨O2, q1, q2, q3⟩ := erep_drop i h2
    refine ⟨A ++ O2, fun a z => ?_, fun z => ?_, v, r, A, O2, e1, rfl, h1, q3⟩
    · rw [e2]
      rcases List.mem_append.mp z with z | z
      · exact List.mem_append_left _ z
      · exact List.mem_append_right _ (q1 a z)
    · rw [e2] at z
      obtain ⟨n1, n2, n3⟩ := List.nodup_append.mp z
      exact List.nodup_append.mpr ⟨n1, q2 n2, fun a ha b hb => n3 a ha b (q1 b hb)⟩
/-- the abstract slots of a name that is none in the data may be any -/
theorem erep_slot {K : Frag} {F H : Hp} {x : Option V} : ∀ {s : Env} {σ : L2.St} {O : List Addr} {i : Nat}, erep K F H (sset s i none) σ O → erep K F H (sset s i none) (σ.set i x) O
  | [], _, _, i, h => by obtain ⟨e, q⟩ := h; rw [e]; exact ⟨rfl, q⟩
  | y :: s, _, _, 0, ⟨z, r, e1, h⟩ => ⟨x, r, by rw [e1]; rfl, h⟩
  | none :: s, _, _, i + 1, ⟨z, r, e1, h⟩ => ⟨z, r.set i x, by rw [e1]; rfl, erep_slot (i := i) h⟩
  | some d0 :: s, _, _, i + 1, ⟨v, r, A, O', e1, e2, h1, h2⟩ => ⟨v, r.set i x, A, O', by rw [e1]; rfl, e2, h1, erep_slot (i := i) h2⟩

theorem Wf.perm {F H : Hp} {O O' : List Addr} (w : Wf F H O) (p : O.Perm O') : Wf F H O' := ⟨p.nodup_iff.mp w.nd, w.fh, fun a z => w.of a (p.mem_iff.mpr z), fun a z => w.oh a (p.mem_iff.mpr z)⟩
theorem Wf.sub {F H : Hp} {O O' : List Addr} (w : Wf F H O) (n : O'.Nodup) (h : ∀ a ∈ O', a ∈ O) : Wf F H O' := ⟨n, w.fh, fun a z => w.of a (h a z), fun a z => w.oh a (h a z)⟩
theorem Wf.right {F H : Hp} {A O : List Addr} (w : Wf F H (A ++ O)) : Wf F H O := w.sub (List.nodup_append.mp w.nd).2.1 fun _ z => List.mem_append_right _ z
theorem Ext.perm {F H F' H' : Hp} {O O1 O2 : List Addr} (a : Ext F H O F' H' O1) (p : O1.Perm O2) : Ext F H O F' H' O2 := a.sub fun c z => p.mem_iff.mpr z

/-- what is owned is frozen -/
def grow (F H : Hp) (A : List Addr) : Hp := fun a => if a ∈ A then H a else F a
theorem grow_same {F H : Hp} {A : List Addr} (n : ∀ a ∈ A, F a = none) : Same F (grow F H A) := fun a o e => by
  unfold grow
  by_cases h : a ∈ A
  · rw [n a h] at e; cases e
  · rw [if_neg h]; exact e
theorem grow_fh {F H : Hp} {A : List Addr} (s : Same F H) : Same (grow F H A) H := fun a o e => by
  unfold grow at e
  by_cases h : a ∈ A
  · rw [if_pos h] at e; exact e
  · rw [if_neg h] at e; exact s a o e
theorem frz_dat {K : Frag} {F H F' : Hp} {d : D} {v : V} {A : List Addr} (hF : Same F F') (hA : ∀ a ∈ A, F' a = H a) (h : rep K F H d v A) : dat K F' (frz d) v := by
  cases d with
  | lst o xs => cases o with
    | true =>
      obtain ⟨a, vs, e, eA, x, y⟩ := h
      simp only [frz, dat, true_and]
      exact ⟨a, vs, e, (by rw [hA a (by rw [eA]; simp), x]), datL_mono hF _ _ y⟩
    | false =>
      have q := dat_mono hF _ _ h.2
      simpa only [frz] using q
  | dct o t xs => cases o with
    | true =>
      obtain ⟨a, e, eA, x⟩ := h
      simp only [frz, dat, true_and]
      refine ⟨a, e, ?_⟩
      rw [hA a (by rw [eA]; simp)]
      rcases x with ⟨et, l, x, y⟩ | ⟨et, l, x, y⟩
      · exact .inl ⟨et, l, x, datK_mono hF _ _ y⟩
      · exact .inr ⟨et, l, x, datT_mono hF _ _ y⟩
    | false =>
      have q := dat_mono hF _ _ h.2
      simpa only [frz] using q
  | ins o c fs => obtain ⟨_, q⟩ := h; simp [dat] at q
  | _ =>
    have q := dat_mono hF _ _ h.2
    simpa only [frz] using q
theorem frz_of_not_own {d : D} (h : isOwn d = false) {K : Frag} {F : Hp} {v : V} (q : dat K F d v) : frz d = d := by
  cases d with
  | lst o xs => cases o <;> first | rfl | cases h
  | dct o t xs => cases o <;> first | rfl | cases h
  | ins o c fs => simp [dat] at q
  | _ => rfl
theorem rep_nil {K : Frag} {F H : Hp} {d : D} {v : V} {A : List Addr} (h : isOwn d = false) (q : rep K F H d v A) : A = [] ∧ dat K F d v := by
  cases d with
  | lst o xs => cases o <;> first | exact q | cases h
  | dct o t xs => cases o <;> first | exact q | cases h
  | _ => exact q
end OM


set_option autoImplicit false
set_option linter.all false
set_option maxRecDepth 100000
/-! S2: operations by values. -/
namespace OM
open PySem PySem.Spec PyProof.Rows L2

/-- a value made of what stands: A its own objects, new -/
structure Made (K : Frag) (F H : Hp) (d : D) (v : V) (A : List Addr) (F' H' : Hp) : Prop where
  sf : Same F F'
  sh : Same H H'
  fh : Same F' H'
  fnew : ∀ a, F' a ≠ none → F a ≠ none ∨ H a = none
  anew : ∀ a ∈ A, H a = none
  ath : ∀ a ∈ A, H' a ≠ none
  nd : A.Nodup
  af : ∀ a ∈ A, F' a = none
  r : rep K F' H' d v A
theorem same_upd {H : Hp} {p : Addr} {o : HO} (h : H p = none) : Same H (upd H p o) := fun b x e => by
  rw [upd_ne (ne_of_none e h)]
  exact e
theorem same_none {F H : Hp} {p : Addr} (s : Same F H) (h : H p = none) : F p = none := by
  cases e : F p with
  | none => rfl
  | some o => rw [s p o e] at h; cases h
section
variable {K : Frag} {F H : Hp}
theorem Made.val {d : D} {v : V} (s : Same F H) (h : dat K F d v) : Made K F H d v [] F H := ⟨Same.refl _, Same.refl _, s, fun _ z => .inl z, (fun _ z => nomatch z), (fun _ z => nomatch z), List.nodup_nil, (fun _ z => nomatch z), rep_of_dat h⟩
theorem Made.own {d : D} {p : Addr} {o : HO} (s : Same F H) (hp : H p = none) (h : rep K F (upd H p o) d (.ref p) [p]) : Made K F H d (.ref p) [p] F (upd H p o) where
  sf := Same.refl _
  sh := same_upd hp
  fh := s.trans (same_upd hp)
  fnew := fun _ z => .inl z
  anew := fun a z => by rw [List.mem_singleton.mp z]; exact hp
  ath := fun a z => by rw [List.mem_singleton.mp z, upd_same]; exact fun q => nomatch q
  nd := by simp
  af := fun a z => by rw [List.mem_singleton.mp z]; exact same_none s hp
  r := h
theorem Made.lst {xs : List D} {vs : List V} {p : Addr} (s : Same F H) (hp : H p = none) (h : datL K F xs vs) : Made K F H (.lst true xs) (.ref p) [p] F (upd H p (.lst vs)) :=
  Made.own s hp ⟨p, vs, rfl, rfl, upd_same, h⟩
theorem Made.dK {p : Addr} {kvs : List (D × D)} {l : List (Key × V)} (s : Same F H) (hp : H p = none) (h : datK K F kvs l) : Made K F H (.dct true false kvs) (.ref p) [p] F (upd H p (.dK l)) :=
  Made.own s hp ⟨p, rfl, rfl, .inl ⟨rfl, l, upd_same, h⟩⟩
theorem Made.dT {p : Addr} {kvs : List (D × D)} {l : List (List Key × V)} (s : Same F H) (hp : H p = none) (h : datT K F kvs l) : Made K F H (.dct true true kvs) (.ref p) [p] F (upd H p (.dT l)) :=
  Made.own s hp ⟨p, rfl, rfl, .inr ⟨rfl, l, upd_same, h⟩⟩
theorem Made.tup {xs : List D} {vs : List V} {p : Addr} (s : Same F H) (hp : H p = none) (h : datL K F xs vs) : Made K F H (.tup xs) (.ref p) [] (upd F p (.tup vs)) (upd H p (.tup vs)) := by
  have hf := same_none s hp
  refine ⟨same_upd hf, same_upd hp, fun a o e => ?_, fun a z => ?_, (fun _ z => nomatch z), (fun _ z => nomatch z), List.nodup_nil, (fun _ z => nomatch z), rep_of_dat ?_⟩
  · by_cases ha : a = p
    · subst ha; rw [upd_same] at e ⊢; exact e
    · rw [upd_ne ha] at e ⊢; exact s a o e
  · by_cases ha : a = p
    · rw [ha]; exact .inr hp
    · rw [upd_ne ha] at z; exact .inl z
  · simp only [dat]
    exact ⟨p, vs, rfl, upd_same, datL_mono (same_upd hf) _ _ h⟩
theorem Made.two {d e : D} {v u : V} {A : List Addr} {F1 H1 F2 H2 : Hp} (a : Made K F H d v [] F1 H1) (b : Made K F1 H1 e u A F2 H2) : Made K F H e u A F2 H2 where
  sf := a.sf.trans b.sf
  sh := a.sh.trans b.sh
  fh := b.fh
  fnew := fun c z => by
    rcases b.fnew c z with q | q
    · exact a.fnew c q
    · exact .inr (a.sh.free q)
  anew := fun c z => a.sh.free (b.anew c z)
  ath := b.ath
  nd := b.nd
  af := b.af
  r := b.r
theorem Made.ext {d : D} {v : V} {A O : List Addr} {F1 H1 : Hp} (m : Made K F H d v A F1 H1) : Ext F H O F1 H1 (A ++ O) where
  fm := m.sf
  keep := fun a o e _ => m.sh a o e
  fnew := fun a z => (m.fnew a z).elim .inl fun q => .inr (.inr q)
  onew := fun a z => (List.mem_append.mp z).elim (fun q => .inr (m.anew a q)) .inl
theorem Made.wf {d : D} {v : V} {A O : List Addr} {F1 H1 : Hp} (m : Made K F H d v A F1 H1) (w : Wf F H O) : Wf F1 H1 (A ++ O) where
  nd := List.nodup_append.mpr ⟨m.nd, w.nd, fun a ha b hb e => w.oh b hb (by rw [← e]; exact m.anew a ha)⟩
  fh := m.fh
  of := fun a z => by
    rcases List.mem_append.mp z with q | q
    · exact m.af a q
    · cases e : F1 a with
      | none => rfl
      | some o =>
        rcases m.fnew a (by rw [e]; exact fun z => nomatch z) with z | z
        · exact absurd (w.of a q) z
        · exact absurd z (w.oh a q)
  oh := fun a z => by
    rcases List.mem_append.mp z with q | q
    · exact m.ath a q
    · cases e : H a with
      | none => exact absurd e (w.oh a q)
      | some o => rw [m.sh a o e]; exact fun z => nomatch z
theorem Made.env {d : D} {v : V} {A O : List Addr} {F1 H1 : Hp} {s : Env} {σ : L2.St} (m : Made K F H d v A F1 H1) (w : Wf F H O) (e : erep K F H s σ O) : erep K F1 H1 s σ O :=
  erep_mono m.sf (fun a z => by
    cases q : H a with
    | none => exact absurd q (w.oh a z)
    | some o => exact m.sh a o q) e
end

/-! ### what may be read -/
def sees (K : Frag) (F H : Hp) : D → V → Prop
  | .tup xs, v => ∃ a vs, v = .ref a ∧ H a = some (.tup vs) ∧ datL K F xs vs
  | .lst _ xs, v => ∃ a vs, v = .ref a ∧ H a = some (.lst vs) ∧ datL K F xs vs
  | .dct _ t kvs, v => ∃ a, v = .ref a ∧ ((t = false ∧ ∃ l, H a = some (.dK l) ∧ datK K F kvs l) ∨ (t = true ∧ ∃ l, H a = some (.dT l) ∧ datT K F kvs l))
  | d, v => dat K F d v
theorem sees_of_dat {K : Frag} {F H : Hp} {d : D} {v : V} (s : Same F H) (h : dat K F d v) : sees K F H d v := by
  cases d with
  | tup xs =>
    simp only [dat] at h
    obtain ⟨a, vs, e, x, y⟩ := h
    exact ⟨a, vs, e, s _ _ x, y⟩
  | lst o xs =>
    simp only [dat] at h
    obtain ⟨_, a, vs, e, x, y⟩ := h
    exact ⟨a, vs, e, s _ _ x, y⟩
  | dct o t kvs =>
    simp only [dat] at h
    obtain ⟨_, a, e, x⟩ := h
    refine ⟨a, e, ?_⟩
    rcases x with ⟨et, l, x, y⟩ | ⟨et, l, x, y⟩
    · exact .inl ⟨et, l, s _ _ x, y⟩
    · exact .inr ⟨et, l, s _ _ x, y⟩
  | _ => exact h
theorem sees_of_rep {K : Frag} {F H : Hp} {d : D} {v : V} {A : List Addr} (s : Same F H) (h : rep K F H d v A) : sees K F H d v := by
  cases d with
  | lst o xs => cases o with
    | true => obtain ⟨a, vs, e, _, x, y⟩ := h; exact ⟨a, vs, e, x, y⟩
    | false => exact sees_of_dat s h.2
  | dct o t kvs => cases o with
    | true => obtain ⟨a, e, _, x⟩ := h; exact ⟨a, e, x⟩
    | false => exact sees_of_dat s h.2
  | _ => exact sees_of_dat s h.2
section
variable {K : Frag} {F H : Hp} {v : V}
theorem sees_non : sees K F H .non v ↔ v = .non := by simp [sees, dat]
theorem sees_bl {b : Bool} : sees K F H (.bl b) v ↔ v = .bl b := by simp [sees, dat]
theorem sees_int {i : Int} : sees K F H (.int i) v ↔ v = .int i := by simp [sees, dat]
theorem sees_str {x : Str} : sees K F H (.str x) v ↔ v = .str x := by simp [sees, dat]
end
section
variable {K : Frag} {F : Hp}
theorem datL_len : ∀ {ds : List D} {vs : List V}, datL K F ds vs → ds.length = vs.length
  | [], vs, h => by simp only [datL] at h; rw [h]; rfl
  | d :: r, vs, h => by
    simp only [datL] at h
    obtain ⟨v, t, e, _, y⟩ := h
    rw [e, List.length_cons, List.length_cons, datL_len y]
theorem datL_get : ∀ {ds : List D} {vs : List V} {i : Nat} {d : D}, datL K F ds vs → ds[i]? = some d → ∃ v, vs[i]? = some v ∧ dat K F d v
  | [], _, i, d, _, e => by simp at e
  | x :: r, vs, 0, d, h, e => by
    simp only [datL] at h
    obtain ⟨v, t, e1, h1, _⟩ := h
    simp at e
    subst e
    exact ⟨v, by rw [e1]; rfl, h1⟩
  | x :: r, vs, i + 1, d, h, e => by
    simp only [datL] at h
    obtain ⟨v, t, e1, _, h2⟩ := h
    obtain ⟨w, q1, q2⟩ := datL_get (i := i) h2 (by simpa using e)
    exact ⟨w, by rw [e1]; simpa using q1, q2⟩
theorem datL_get' : ∀ {ds : List D} {vs : List V} {i : Nat} {v : V}, datL K F ds vs → vs[i]? = some v → ∃ d, ds[i]? = some d ∧ dat K F d v
  | [], vs, i, v, h, e => by simp only [datL] at h; rw [h] at e; simp at e
  | x :: r, vs, 0, v, h, e => by
    simp only [datL] at h
    obtain ⟨w, t, e1, h1, _⟩ := h
    rw [e1] at e
    simp at e
    subst e
    exact ⟨x, rfl, h1⟩
  | x :: r, vs, i + 1, v, h, e => by
    simp only [datL] at h
    obtain ⟨w, t, e1, _, h2⟩ := h
    rw [e1] at e
    obtain ⟨d, q1, q2⟩ := datL_get' (i := i) h2 (by simpa using e)
    exact ⟨d, by simpa using q1, q2⟩
theorem datL_app : ∀ {ds es : List D} {vs us : List V}, datL K F ds vs → datL K F es us → datL K F (ds ++ es) (vs ++ us)
  | [], es, vs, us, h, q => by simp only [datL] at h; rw [h]; exact q
  | d :: r, es, vs, us, h, q => by
    simp only [datL, List.cons_append] at h ⊢
    obtain ⟨v, t, e, x, y⟩ := h
    exact ⟨v, t ++ us, by rw [e]; rfl, x, datL_app y q⟩
theorem datL_drop : ∀ {ds : List D} {vs : List V} (n : Nat), datL K F ds vs → datL K F (ds.drop n) (vs.drop n)
  | ds, vs, 0, h => h
  | [], vs, n + 1, h => by simp only [datL] at h; rw [h]; simp [datL]
  | d :: r, vs, n + 1, h => by
    simp only [datL] at h
    obtain ⟨v, t, e, x, y⟩ := h
    rw [e]
    exact datL_drop n y
theorem datL_take : ∀ {ds : List D} {vs : List V} (n : Nat), datL K F ds vs → datL K F (ds.take n) (vs.take n)
  | ds, vs, 0, h => by simp [datL]
  | [], vs, n + 1, h => by simp only [datL] at h; rw [h]; simp [datL]
  | d :: r, vs, n + 1, h => by
    simp only [datL] at h
    obtain ⟨v, t, e, x, y⟩ := h
    rw [e]
    simp only [List.take_succ_cons, datL]
    exact ⟨v, t.take n, rfl, x, datL_take n y⟩
theorem datL_rev {ds : List D} {vs : List V} (h : datL K F ds vs) : datL K F ds.reverse vs.reverse := by
  induction ds generalizing vs with
  | nil => simp only [datL] at h; rw [h]; simp [datL]
  | cons d r ih =>
    simp only [datL] at h
    obtain ⟨v, t, e, x, y⟩ := h
    rw [e, List.reverse_cons, List.reverse_cons]
    exact datL_app (ih y) (by simp only [datL]; exact ⟨v, [], rfl, x, rfl⟩)
theorem datL_set : ∀ {ds : List D} {vs : List V} {d : D} {v : V} (i : Nat), datL K F ds vs → dat K F d v → datL K F (ds.set i d) (vs.set i v)
  | [], vs, d, v, i, h, _ => by simp only [datL] at h; rw [h]; simp [datL]
  | x :: r, vs, d, v, 0, h, q => by
    simp only [datL] at h
    obtain ⟨w, t, e, _, y⟩ := h
    rw [e]
    simp only [List.set_cons_zero, datL]
    exact ⟨v, t, rfl, q, y⟩
  | x :: r, vs, d, v, i + 1, h, q => by
    simp only [datL] at h
    obtain ⟨w, t, e, z, y⟩ := h
    rw [e]
    simp only [List.set_cons_succ, datL]
    exact ⟨w, t.set i v, rfl, z, datL_set i y q⟩
theorem datL_erase : ∀ {ds : List D} {vs : List V} (i : Nat), datL K F ds vs → datL K F (ds.eraseIdx i) (vs.eraseIdx i)
  | [], vs, i, h => by simp only [datL] at h; rw [h]; simp [datL]
  | x :: r, vs, 0, h => by
    simp only [datL] at h
    obtain ⟨w, t, e, _, y⟩ := h
    rw [e]
    exact y
  | x :: r, vs, i + 1, h => by
    simp only [datL] at h
    obtain ⟨w, t, e, z, y⟩ := h
    rw [e]
    simp only [List.eraseIdx_cons_succ, datL]
    exact ⟨w, t.eraseIdx i, rfl, z, datL_erase i y⟩
theorem datL_rep {ds : List D} {vs : List V} (h : datL K F ds vs) : ∀ n : Nat, datL K F (List.replicate n ds).flatten (List.replicate n vs).flatten
  | 0 => by simp [datL]
  | n + 1 => by
    rw [List.replicate_succ, List.replicate_succ, List.flatten_cons, List.flatten_cons]
    exact datL_app h (datL_rep h n)
theorem datL_map {α : Type} {f : α → D} {g : α → V} (h : ∀ x, dat K F (f x) (g x)) : ∀ l : List α, datL K F (l.map f) (l.map g)
  | [] => by simp [datL]
  | x :: r => by simp only [List.map_cons, datL]; exact ⟨g x, r.map g, rfl, h x, datL_map h r⟩
theorem cut_eq {α : Type} (xs : List α) (lo hi : Option Int) : cut xs lo hi = (xs.drop (HT.sIx xs.length 0 lo)).take (HT.sIx xs.length xs.length hi - HT.sIx xs.length 0 lo) := by
  have e : ∀ (n d : Nat) (o : Option Int), sIx n d o = HT.sIx n d o := fun n d o => by cases o <;> rfl
  unfold cut
  rw [e, e]
theorem datL_cut {ds : List D} {vs : List V} (lo hi : Option Int) (h : datL K F ds vs) : datL K F (cut ds lo hi) (cutV vs lo hi) := by
  rw [cut_eq, datL_len h]
  exact datL_take _ (datL_drop _ h)
/-- a list of ints, of texts, of bools -/
theorem ints_of : ∀ {ds : List D} {vs : List V} {l : List Int}, datL K F ds vs → ints? ds = some l → vs = l.map V.int
  | [], vs, l, h, e => by simp only [datL] at h; simp [ints?] at e; rw [h, e]; rfl
  | d :: r, vs, l, h, e => by
    simp only [datL] at h
    obtain ⟨v, t, ev, x, y⟩ := h
    cases d with
    | int i =>
      simp only [ints?, Option.map_eq_some_iff] at e
      obtain ⟨l', e1, e2⟩ := e
      simp only [dat] at x
      rw [ev, ints_of y e1, x, ← e2]
      rfl
    | _ => simp [ints?] at e
theorem strs_of : ∀ {ds : List D} {vs : List V} {l : List Str}, datL K F ds vs → strs? ds = some l → vs = l.map V.str
  | [], vs, l, h, e => by simp only [datL] at h; simp [strs?] at e; rw [h, e]; rfl
  | d :: r, vs, l, h, e => by
    simp only [datL] at h
    obtain ⟨v, t, ev, x, y⟩ := h
    cases d with
    | str i =>
      simp only [strs?, Option.map_eq_some_iff] at e
      obtain ⟨l', e1, e2⟩ := e
      simp only [dat] at x
      rw [ev, strs_of y e1, x, ← e2]
      rfl
    | _ => simp [strs?] at e
theorem bools_of : ∀ {ds : List D} {vs : List V} {l : List Bool}, datL K F ds vs → bools? ds = some l → vs = l.map V.bl
  | [], vs, l, h, e => by simp only [datL] at h; simp [bools?] at e; rw [h, e]; rfl
  | d :: r, vs, l, h, e => by
    simp only [datL] at h
    obtain ⟨v, t, ev, x, y⟩ := h
    cases d with
    | bl i =>
      simp only [bools?, Option.map_eq_some_iff] at e
      obtain ⟨l', e1, e2⟩ := e
      simp only [dat] at x
      rw [ev, bools_of y e1, x, ← e2]
      rfl
    | _ => simp [bools?] at e
end

/-! ### as the library's data -/
mutual
def py : D → PyData
  | .bl b => .bool b
  | .int i => .int i
  | .str x => .str x
  | .tup xs => .tuple (pyL xs)
  | .lst _ xs => .list (pyL xs)
  | _ => .none
def pyL : List D → List PyData
  | [] => []
  | x :: r => py x :: pyL r
end
theorem pyL_map : ∀ xs : List D, pyL xs = xs.map py
  | [] => by simp [pyL]
  | x :: r => by simp [pyL, pyL_map r]
mutual
theorem py_plain : ∀ (n : Nat) (d : D), plain n d = true → (py d).plain = true
  | _, .non, _ => by simp [py, PyData.plain]
  | _, .bl _, _ => by simp [py, PyData.plain]
  | _, .int _, _ => by simp [py, PyData.plain]
  | _, .str _, _ => by simp [py, PyData.plain]
  | 0, .tup _, h => by simp [plain] at h
  | n + 1, .tup xs, h => by
    simp only [plain] at h
    simp only [py, PyData.plain]
    exact pyL_plain n xs h
  | 0, .lst _ _, h => by simp [plain] at h
  | n + 1, .lst _ xs, h => by
    simp only [plain] at h
    simp only [py, PyData.plain]
    exact pyL_plain n xs h
  | 0, .dct _ _ _, h => by simp [plain] at h
  | n + 1, .dct _ _ _, h => by simp [plain] at h
  | 0, .ins _ _ _, h => by simp [plain] at h
  | n + 1, .ins _ _ _, h => by simp [plain] at h
  | 0, .scr _, h => by simp [plain] at h
  | n + 1, .scr _, h => by simp [plain] at h
theorem pyL_plain : ∀ (n : Nat) (ds : List D), plainL n ds = true → PyData.plainAll (pyL ds) = true
  | _, [], _ => by simp [pyL, PyData.plainAll]
  | n, d :: r, h => by
    simp only [plainL, Bool.and_eq_true] at h
    simp only [pyL, PyData.plainAll, Bool.and_eq_true]
    exact ⟨py_plain n d h.1, pyL_plain n r h.2⟩
end
mutual
theorem py_depth : ∀ (n : Nat) (d : D), plain n d = true → (py d).depth ≤ n
  | _, .non, _ => by simp [py, PyData.depth]
  | _, .bl _, _ => by simp [py, PyData.depth]
  | _, .int _, _ => by simp [py, PyData.depth]
  | _, .str _, _ => by simp [py, PyData.depth]
  | 0, .tup _, h => by simp [plain] at h
  | n + 1, .tup xs, h => by
    simp only [plain] at h
    simp only [py, PyData.depth]
    exact Nat.succ_le_succ (pyL_depth n xs h)
  | 0, .lst _ _, h => by simp [plain] at h
  | n + 1, .lst _ xs, h => by
    simp only [plain] at h
    simp only [py, PyData.depth]
    exact Nat.succ_le_succ (pyL_depth n xs h)
  | 0, .dct _ _ _, h => by simp [plain] at h
  | n + 1, .dct _ _ _, h => by simp [plain] at h
  | 0, .ins _ _ _, h => by simp [plain] at h
  | n + 1, .ins _ _ _, h => by simp [plain] at h
  | 0, .scr _, h => by simp [plain] at h
  | n + 1, .scr _, h => by simp [plain] at h
theorem pyL_depth : ∀ (n : Nat) (ds : List D), plainL n ds = true → PyData.depthAll (pyL ds) ≤ n
  | _, [], _ => by simp [pyL, PyData.depthAll]
  | n, d :: r, h => by
    simp only [plainL, Bool.and_eq_true] at h
    simp only [pyL, PyData.depthAll]
    exact Nat.max_le.mpr ⟨py_depth n d h.1, pyL_depth n r h.2⟩
end
mutual
theorem deq_eqv : ∀ (a b : D), (∃ n, plain n a = true) → (∃ n, plain n b = true) → PyData.eqv (py a) (py b) = deq a b
  | .non, b, _, hb => by
    obtain ⟨n, hb⟩ := hb
    cases b <;> first | (simp [py, PyData.eqv, deq]; done) | (cases n <;> simp [plain] at hb)
  | .bl x, b, _, hb => by
    obtain ⟨n, hb⟩ := hb
    cases b <;> first | (simp [py, PyData.eqv, deq]; done) | (cases n <;> simp [plain] at hb)
  | .int x, b, _, hb => by
    obtain ⟨n, hb⟩ := hb
    cases b <;> first | (simp [py, PyData.eqv, deq]; done) | (cases n <;> simp [plain] at hb)
  | .str x, b, _, hb => by
    obtain ⟨n, hb⟩ := hb
    cases b <;> first | (simp [py, PyData.eqv, deq]; done) | (cases n <;> simp [plain] at hb)
  | .tup xs, b, ha, hb => by
    obtain ⟨n, hb⟩ := hb
    obtain ⟨m, ha⟩ := ha
    cases m with
    | zero => simp [plain] at ha
    | succ m =>
      cases b with
      | tup ys =>
        cases n with
        | zero => simp [plain] at hb
        | succ n =>
          simp only [plain] at ha hb
          simp only [py, PyData.eqv, deq]
          exact deqL_eqv xs ys ⟨m, ha⟩ ⟨n, hb⟩
      | _ => first | (simp [py, PyData.eqv, deq]; done) | (cases n <;> simp [plain] at hb)
  | .lst o xs, b, ha, hb => by
    obtain ⟨n, hb⟩ := hb
    obtain ⟨m, ha⟩ := ha
    cases m with
    | zero => simp [plain] at ha
    | succ m =>
      cases b with
      | lst o ys =>
        cases n with
        | zero => simp [plain] at hb
        | succ n =>
          simp only [plain] at ha hb
          simp only [py, PyData.eqv, deq]
          exact deqL_eqv xs ys ⟨m, ha⟩ ⟨n, hb⟩
      | _ => first | (simp [py, PyData.eqv, deq]; done) | (cases n <;> simp [plain] at hb)
  | .dct _ _ _, _, ha, _ => by obtain ⟨n, ha⟩ := ha; cases n <;> simp [plain] at ha
  | .ins _ _ _, _, ha, _ => by obtain ⟨n, ha⟩ := ha; cases n <;> simp [plain] at ha
  | .scr _, _, ha, _ => by obtain ⟨n, ha⟩ := ha; cases n <;> simp [plain] at ha
theorem deqL_eqv : ∀ (xs ys : List D), (∃ n, plainL n xs = true) → (∃ n, plainL n ys = true) → PyData.eqvAll (pyL xs) (pyL ys) = deqL xs ys
  | [], [], _, _ => by simp [pyL, PyData.eqvAll, deqL]
  | [], y :: ys, _, _ => by simp [pyL, PyData.eqvAll, deqL]
  | x :: xs, [], _, _ => by simp [pyL, PyData.eqvAll, deqL]
  | x :: xs, y :: ys, ha, hb => by
    obtain ⟨m, ha⟩ := ha
    obtain ⟨n, hb⟩ := hb
    simp only [plainL, Bool.and_eq_true] at ha hb
    simp only [pyL, PyData.eqvAll, deqL]
    rw [deq_eqv x y ⟨m, ha.1⟩ ⟨n, hb.1⟩, deqL_eqv xs ys ⟨m, ha.2⟩ ⟨n, hb.2⟩]
end
theorem eqv_deq {m n : Nat} {a b : D} (ha : plain m a = true) (hb : plain n b = true) : PyData.eqv (py a) (py b) = deq a b := deq_eqv a b ⟨m, ha⟩ ⟨n, hb⟩
end OM


set_option autoImplicit false
set_option linter.all false
set_option maxRecDepth 100000
namespace OM
open PySem PySem.Spec PyProof.Rows L2

section
variable {X : Cx} {pins : List (Addr × Obj)} {σ : L2.St} {H F : Hp} {s : Shared}
mutual
theorem reads_dat (I : Inv X pins σ H s) (hF : Same F H) : ∀ (d : D) (n : Nat) (v : V) (u : Value), plain n d = true → dat X.K F d v → RelV v u → ∃ as, Reads s.heap u (py d) as
  | .non, _, v, u, _, h, r => by
    simp only [dat] at h
    subst h
    cases r
    exact ⟨_, by simp only [py]; exact Reads.none⟩
  | .bl b, _, v, u, _, h, r => by
    simp only [dat] at h
    subst h
    cases r
    exact ⟨_, by simp only [py]; exact Reads.bool b⟩
  | .int i, _, v, u, _, h, r => by
    simp only [dat] at h
    subst h
    obtain ⟨t, rfl⟩ := r
    exact ⟨_, by simp only [py]; exact Reads.int i t⟩
  | .str i, _, v, u, _, h, r => by
    simp only [dat] at h
    subst h
    obtain ⟨t, rfl⟩ := r
    exact ⟨_, by simp only [py]; exact Reads.str i t⟩
  | .tup xs, n, v, u, p, h, r => by
    cases n with
    | zero => simp [plain] at p
    | succ n =>
      simp only [dat] at h
      simp only [plain] at p
      obtain ⟨a, vs, rfl, x, y⟩ := h
      cases r
      obtain ⟨its, rv, ⟨o, ho, hc, k, hd⟩, _⟩ := I.tuple (SqT.of (hF _ _ x))
      obtain ⟨as, q⟩ := readsL_dat I hF xs n vs its p y rv
      exact ⟨as, by simp only [py]; exact Reads.tuple ho hc hd (by simpa using q)⟩
  | .lst o xs, n, v, u, p, h, r => by
    cases n with
    | zero => simp [plain] at p
    | succ n =>
      simp only [dat] at h
      simp only [plain] at p
      obtain ⟨_, a, vs, rfl, x, y⟩ := h
      cases r
      obtain ⟨z, its, k, rv, hl, e⟩ := I.lstM (hF _ _ x)
      obtain ⟨as, q⟩ := readsL_dat I hF xs n vs its p y rv
      exact ⟨_, by simp only [py]; exact Reads.list e rfl rfl (by simpa using q)⟩
  | .dct _ _ _, n, v, u, p, h, r => by cases n <;> simp [plain] at p
  | .ins _ _ _, n, v, u, p, h, r => by cases n <;> simp [plain] at p
  | .scr _, n, v, u, p, h, r => by cases n <;> simp [plain] at p
theorem readsL_dat (I : Inv X pins σ H s) (hF : Same F H) : ∀ (ds : List D) (n : Nat) (vs : List V) (us : List Value), plainL n ds = true → datL X.K F ds vs → Vals vs us → ∃ as, ReadsAll s.heap us (pyL ds) as
  | [], _, vs, us, _, h, r => by
    simp only [datL] at h
    subst h
    cases r
    exact ⟨_, by simp only [pyL]; exact ReadsAll.nil⟩
  | d :: ds, n, vs, us, p, h, r => by
    simp only [datL] at h
    simp only [plainL, Bool.and_eq_true] at p
    obtain ⟨v, t, rfl, x, y⟩ := h
    cases r with
    | cons r1 r2 =>
      obtain ⟨as, q1⟩ := reads_dat I hF d n v _ p.1 x r1
      obtain ⟨bs, q2⟩ := readsL_dat I hF ds n t _ p.2 y r2
      exact ⟨_, by simp only [pyL]; exact ReadsAll.cons q1 q2⟩
end
theorem reads_of (I : Inv X pins σ H s) (hF : Same F H) {d : D} {n : Nat} {v : V} {u : Value} (p : plain n d = true) (h : sees X.K F H d v) (r : RelV v u) : ∃ as, Reads s.heap u (py d) as := by
  cases d with
  | tup xs =>
    cases n with
    | zero => simp [plain] at p
    | succ n =>
      simp only [plain] at p
      obtain ⟨a, vs, rfl, x, y⟩ := h
      cases r
      obtain ⟨its, rv, ⟨o, ho, hc, k, hd⟩, _⟩ := I.tuple (SqT.of x)
      obtain ⟨as, q⟩ := readsL_dat I hF xs n vs its p y rv
      exact ⟨as, by simp only [py]; exact Reads.tuple ho hc hd (by simpa using q)⟩
  | lst o xs =>
    cases n with
    | zero => simp [plain] at p
    | succ n =>
      simp only [plain] at p
      obtain ⟨a, vs, rfl, x, y⟩ := h
      cases r
      obtain ⟨z, its, k, rv, hl, e⟩ := I.lstM x
      obtain ⟨as, q⟩ := readsL_dat I hF xs n vs its p y rv
      exact ⟨_, by simp only [py]; exact Reads.list e rfl rfl (by simpa using q)⟩
  | dct o t kvs => cases n <;> simp [plain] at p
  | _ => exact reads_dat I hF _ n v u p h r

theorem units64 {k : Nat} {A : Around} (r : Room k A) : A.units + 64 < cLine := r.units

/-! ### the readings of the operations -/
/-- a value operation with a result -/
def rD2 (K : Frag) (f : D → D → Option D) : R2 := fun x y H Q => ∃ F a b d, Same F H ∧ sees K F H a x ∧ sees K F H b y ∧ f a b = some d ∧ ∀ v A F' H', Made K F H d v A F' H' → Q v H'
theorem fin_val {Q : VK} {F' : Hp} {d : D} {v : V} {u : Value} {s' : Shared} (I : Inv X pins σ H s') (hF : Same F H) (hd : dat X.K F d v) (r : RelV v u) (q : ∀ v A F' H', Made X.K F H d v A F' H' → Q v H') : EP X pins σ Q u s' :=
  ⟨v, H, I, r, q v [] F H (Made.val hF hd)⟩
end

section
variable {X : Cx}
theorem most_eq : most = sizeLine := rfl

theorem ok_add : OpR X (binaryOp .Add) (rD2 X.K (bop .add)) := by
  intro pins s σ H x y v u Q I rx ry ⟨F, a, b, d, hF, sa, sb, e, q⟩
  cases a <;> cases b <;> simp only [bop] at e <;> try (cases e; done)
  · -- ints
    cases e
    rw [sees_int] at sa sb
    exact op_add pins s σ H x y v u Q I rx ry ⟨_, _, sa, sb, q _ _ _ _ (Made.val hF rfl)⟩
  · -- texts
    rw [sees_str] at sa sb
    split at e
    · cases e
      rename_i h
      exact op_add_str pins s σ H x y v u Q I rx ry ⟨_, _, sa, sb, h, q _ _ _ _ (Made.val hF rfl)⟩
    · cases e
  · -- tuples
    rename_i xs ys
    cases xs with
    | nil => simp [bop] at e
    | cons x1 xs =>
      cases ys with
      | nil => simp [bop] at e
      | cons y1 ys =>
        simp only [bop] at e
        split at e
        · cases e
          rename_i h
          obtain ⟨p, vs, e1, h1, d1⟩ := sa
          obtain ⟨p2, us, e2, h2, d2⟩ := sb
          have l1 := datL_len d1
          have l2 := datL_len d2
          simp only [List.length_cons] at l1 l2
          refine op_catT pins s σ H x y v u Q I rx ry ⟨p, p2, vs, us, e1, e2, SqT.of h1, SqT.of h2, fun z => by rw [z] at l1; simp at l1, by rw [← most_eq]; omega, fun z => by rw [z] at l2; simp at l2, fun _ p3 hp3 => ?_⟩
          exact q _ _ _ _ (Made.tup hF hp3 (datL_app d1 d2))
        · cases e
  · -- lists
    split at e
    · cases e
      rename_i h
      obtain ⟨p, vs, e1, h1, d1⟩ := sa
      obtain ⟨p2, us, e2, h2, d2⟩ := sb
      refine op_cat pins s σ H x y v u Q I rx ry ⟨p, p2, vs, us, e1, e2, h1, h2, by rw [← datL_len d1, ← datL_len d2]; exact h, fun p3 hp3 => ?_⟩
      exact q _ _ _ _ (Made.lst hF hp3 (datL_app d1 d2))
    · cases e
theorem ok_sub : OpR X (binaryOp .Sub) (rD2 X.K (bop .sub)) := by
  intro pins s σ H x y v u Q I rx ry ⟨F, a, b, d, hF, sa, sb, e, q⟩
  cases a <;> cases b <;> simp only [bop] at e <;> try (cases e; done)
  cases e
  rw [sees_int] at sa sb
  exact op_sub pins s σ H x y v u Q I rx ry ⟨_, _, sa, sb, q _ _ _ _ (Made.val hF rfl)⟩
theorem mulOk_W {i j : Int} (h : mulOk i j = true) : CMulW i j := by
  have := of_decide_eq_true h
  unfold CMulW
  omega
theorem divOk_W {i j : Int} (h : divOk j = true) : CDivW i j := by
  unfold divOk at h
  rw [Bool.and_eq_true] at h
  have h1 := of_decide_eq_true h.1
  have h2 := of_decide_eq_true h.2
  exact ⟨h1, by omega⟩
theorem ok_mul : OpR X (binaryOp .Mult) (rD2 X.K (bop .mul)) := by
  intro pins s σ H x y v u Q I rx ry ⟨F, a, b, d, hF, sa, sb, e, q⟩
  cases a <;> cases b <;> simp only [bop] at e <;> try (cases e; done)
  · split at e
    · cases e
      rename_i h
      rw [sees_int] at sa sb
      exact op_mulW pins s σ H x y v u Q I rx ry ⟨_, _, sa, sb, mulOk_W h, q _ _ _ _ (Made.val hF rfl)⟩
    · cases e
  · split at e
    · cases e
      rename_i h
      obtain ⟨h1, h2, h3⟩ := h
      obtain ⟨p, vs, e1, h4, d1⟩ := sa
      rw [sees_int] at sb
      refine op_rep pins s σ H x y v u Q I rx ry ⟨p, _, vs, e1, sb, h4, by omega, by omega, by rw [← datL_len d1]; exact h3, fun p3 hp3 => ?_⟩
      exact q _ _ _ _ (Made.lst hF hp3 (datL_rep d1 _))
    · cases e
theorem ok_fdiv : OpR X (binaryOp .FloorDiv) (rD2 X.K (bop .fdiv)) := by
  intro pins s σ H x y v u Q I rx ry ⟨F, a, b, d, hF, sa, sb, e, q⟩
  cases a <;> cases b <;> simp only [bop] at e <;> try (cases e; done)
  split at e
  · cases e
    rename_i h
    rw [sees_int] at sa sb
    exact op_fdivW pins s σ H x y v u Q I rx ry ⟨_, _, sa, sb, divOk_W h, q _ _ _ _ (Made.val hF rfl)⟩
  · cases e
theorem ok_mod : OpR X (binaryOp .Mod) (rD2 X.K (bop .mod)) := by
  intro pins s σ H x y v u Q I rx ry ⟨F, a, b, d, hF, sa, sb, e, q⟩
  cases a <;> cases b <;> simp only [bop] at e <;> try (cases e; done)
  split at e
  · cases e
    rename_i h
    rw [sees_int] at sa sb
    exact op_mod pins s σ H x y v u Q I rx ry ⟨_, _, sa, sb, h, q _ _ _ _ (Made.val hF rfl)⟩
  · cases e
theorem ok_pow : OpR X (binaryOp .Pow) (rD2 X.K (bop .pow)) := by
  intro pins s σ H x y v u Q I rx ry ⟨F, a, b, d, hF, sa, sb, e, q⟩
  cases a <;> cases b <;> simp only [bop] at e <;> try (cases e; done)
  split at e
  · cases e
    rename_i h
    rw [sees_int] at sa sb
    exact op_pow pins s σ H x y v u Q I rx ry ⟨_, _, sa, sb, ⟨h.1, by omega, h.2.2⟩, q _ _ _ _ (Made.val hF rfl)⟩
  · cases e
def opB : Bop → Operator
  | .add => .Add | .sub => .Sub | .mul => .Mult | .fdiv => .FloorDiv | .mod => .Mod | .pow => .Pow
theorem ok_bop : ∀ op : Bop, OpR X (binaryOp (opB op)) (rD2 X.K (bop op))
  | .add => ok_add | .sub => ok_sub | .mul => ok_mul | .fdiv => ok_fdiv | .mod => ok_mod | .pow => ok_pow
end
end OM


set_option autoImplicit false
set_option linter.all false
set_option maxRecDepth 100000
namespace OM
open PySem PySem.Spec PyProof.Rows L2

/-! ### order -/
mutual
theorem py_alike : ∀ (a b : D) (m n : Nat), plain m a = true → plain n b = true → PySem.W.alike (py a) (py b) = alike a b
  | .non, b, m, n, _, hb => by cases b <;> first | (simp [py, PySem.W.alike, alike]; done) | (cases n <;> simp [plain] at hb)
  | .bl x, b, m, n, _, hb => by cases b <;> first | (simp [py, PySem.W.alike, alike]; done) | (cases n <;> simp [plain] at hb)
  | .int x, b, m, n, _, hb => by cases b <;> first | (simp [py, PySem.W.alike, alike]; done) | (cases n <;> simp [plain] at hb)
  | .str x, b, m, n, _, hb => by cases b <;> first | (simp [py, PySem.W.alike, alike]; done) | (cases n <;> simp [plain] at hb)
  | .tup xs, b, m, n, ha, hb => by
    cases m with
    | zero => simp [plain] at ha
    | succ m =>
      cases b with
      | tup ys =>
        cases n with
        | zero => simp [plain] at hb
        | succ n =>
          simp only [plain] at ha hb
          simp only [py, PySem.W.alike, alike]
          exact pyL_alike xs ys m n ha hb
      | _ => first | (simp [py, PySem.W.alike, alike]; done) | (cases n <;> simp [plain] at hb)
  | .lst o xs, b, m, n, ha, hb => by
    cases m with
    | zero => simp [plain] at ha
    | succ m =>
      cases b with
      | lst o ys =>
        cases n with
        | zero => simp [plain] at hb
        | succ n =>
          simp only [plain] at ha hb
          simp only [py, PySem.W.alike, alike]
          exact pyL_alike xs ys m n ha hb
      | _ => first | (simp [py, PySem.W.alike, alike]; done) | (cases n <;> simp [plain] at hb)
  | .dct _ _ _, _, m, _, ha, _ => by cases m <;> simp [plain] at ha
  | .ins _ _ _, _, m, _, ha, _ => by cases m <;> simp [plain] at ha
  | .scr _, _, m, _, ha, _ => by cases m <;> simp [plain] at ha
theorem pyL_alike : ∀ (xs ys : List D) (m n : Nat), plainL m xs = true → plainL n ys = true → PySem.W.alikeAll (pyL xs) (pyL ys) = alikeL xs ys
  | [], ys, _, _, _, _ => by cases ys <;> simp [pyL, PySem.W.alikeAll, alikeL]
  | x :: xs, [], _, _, _, _ => by simp [pyL, PySem.W.alikeAll, alikeL]
  | x :: xs, y :: ys, m, n, ha, hb => by
    simp only [plainL, Bool.and_eq_true] at ha hb
    simp only [pyL, PySem.W.alikeAll, alikeL]
    rw [py_alike x y m n ha.1 hb.1, pyL_alike xs ys m n ha.2 hb.2]
end
mutual
theorem py_lt : ∀ (a b : D) (m n : Nat), plain m a = true → plain n b = true → alike a b = true → a ≠ .non → PySem.W.dataLt (py a) (py b) = dlt a b
  | .non, b, m, n, _, _, _, h => absurd rfl h
  | .bl x, b, m, n, _, hb, hl, _ => by
    cases b <;> simp only [alike] at hl <;> try (cases hl; done)
    rename_i y
    simp only [py, dlt]
    rw [PySem.W.dataLt_bool]
    cases x <;> cases y <;> rfl
  | .int x, b, m, n, _, hb, hl, _ => by
    cases b <;> simp only [alike] at hl <;> try (cases hl; done)
    simp only [py, dlt]
    exact PySem.W.dataLt_int _ _
  | .str x, b, m, n, _, hb, hl, _ => by
    cases b <;> simp only [alike] at hl <;> try (cases hl; done)
    simp only [py, dlt]
    exact PySem.W.dataLt_str _ _
  | .tup xs, b, m, n, ha, hb, hl, _ => by
    cases b <;> simp only [alike] at hl <;> try (cases hl; done)
    cases m with
    | zero => simp [plain] at ha
    | succ m =>
      cases n with
      | zero => simp [plain] at hb
      | succ n =>
        simp only [plain] at ha hb
        simp only [py, dlt]
        rw [PySem.W.dataLt_tuple]
        exact pyL_lt xs _ m n ha hb hl
  | .lst o xs, b, m, n, ha, hb, hl, _ => by
    cases b <;> simp only [alike] at hl <;> try (cases hl; done)
    cases m with
    | zero => simp [plain] at ha
    | succ m =>
      cases n with
      | zero => simp [plain] at hb
      | succ n =>
        simp only [plain] at ha hb
        simp only [py, dlt]
        rw [PySem.W.dataLt_list]
        exact pyL_lt xs _ m n ha hb hl
  | .dct _ _ _, _, m, _, ha, _, _, _ => by cases m <;> simp [plain] at ha
  | .ins _ _ _, _, m, _, ha, _, _, _ => by cases m <;> simp [plain] at ha
  | .scr _, _, m, _, ha, _, _, _ => by cases m <;> simp [plain] at ha
theorem pyL_lt : ∀ (xs ys : List D) (m n : Nat), plainL m xs = true → plainL n ys = true → alikeL xs ys = true → PyProof.Rows.lexLt itemOrd (PySem.W.keyToksAll (pyL xs)) (PySem.W.keyToksAll (pyL ys)) = dltL xs ys
  | [], [], _, _, _, _, _ => by simp only [pyL, dltL]; rw [PySem.W.keyToksAll]; exact lex_irrefl _
  | x :: xs, [], _, _, _, _, _ => by
    simp only [pyL, dltL, PySem.W.toks_all_cons, PySem.W.keyToksAll]
    rw [PySem.W.lex_atom (by simp), PySem.W.lex_one]
    rfl
  | [], y :: ys, _, _, _, _, _ => by
    simp only [pyL, dltL, PySem.W.toks_all_cons, PySem.W.keyToksAll]
    rw [PySem.W.lex_atom (by simp), PySem.W.lex_one]
    rfl
  | x :: xs, y :: ys, m, n, ha, hb, hl => by
    simp only [plainL, alikeL, Bool.and_eq_true] at ha hb hl
    have al : PySem.W.alike (py x) (py y) = true := by rw [py_alike x y m n ha.1 hb.1]; exact hl.1
    simp only [pyL, dltL]
    rw [PySem.W.dataLt_cons al, eqv_deq ha.1 hb.1, pyL_lt xs ys m n ha.2 hb.2 hl.2]
    by_cases e : deq x y = true
    · rw [if_pos e, if_pos e]
    · rw [if_neg e, if_neg e]
      refine py_lt x y m n ha.1 hb.1 hl.1 fun z => ?_
      subst z
      cases y <;> simp only [alike] at hl <;> first | exact e rfl | (cases hl.1; done) | skip
end

section
variable {X : Cx}
/-- a comparison by data -/
def rDB (K : Frag) (f : D → D → Option Bool) : R2 := fun x y H Q => ∃ F a b k, Same F H ∧ sees K F H a x ∧ sees K F H b y ∧ f a b = some k ∧ Q (.bl k) H
theorem ok_eq {k : Nat} (hr : Room k X.A) : OpR X (compareOp .Eq) (rDB X.K (cop .eq)) := by
  intro pins s σ H x y v u Q I rx ry ⟨F, a, b, d, hF, sa, sb, e, q⟩
  simp only [cop] at e
  split at e
  · cases e
    rename_i h
    unfold eqOk at h
    rw [Bool.and_eq_true] at h
    obtain ⟨as, r1⟩ := reads_of I hF h.1 sa rx
    obtain ⟨bs, r2⟩ := reads_of I hF h.2 sb ry
    have hu := hr.units
    have h3 := py_depth 20 a h.1
    refine PySem.SeqAt.eq_plain r1 r2 (py_plain _ _ h.1) (py_plain _ _ h.2) (by omega) ⟨.bl _, H, I, rfl, ?_⟩
    rw [eqv_deq h.1 h.2]
    exact q
  · cases e
theorem ok_ne {k : Nat} (hr : Room k X.A) : OpR X (compareOp .NotEq) (rDB X.K (cop .ne)) := by
  intro pins s σ H x y v u Q I rx ry ⟨F, a, b, d, hF, sa, sb, e, q⟩
  simp only [cop] at e
  split at e
  · cases e
    rename_i h
    unfold eqOk at h
    rw [Bool.and_eq_true] at h
    obtain ⟨as, r1⟩ := reads_of I hF h.1 sa rx
    obtain ⟨bs, r2⟩ := reads_of I hF h.2 sb ry
    have hu := hr.units
    have h3 := py_depth 20 a h.1
    refine PySem.SeqAt.ne_plain r1 r2 (py_plain _ _ h.1) (py_plain _ _ h.2) (by omega) ⟨.bl _, H, I, rfl, ?_⟩
    rw [eqv_deq h.1 h.2]
    exact q
  · cases e
/-- what ltOp takes -/
theorem ltOp_some {a b : D} {k : Bool} (h : ltOp a b = some k) : plain 21 a = true ∧ plain 21 b = true ∧ alike a b = true ∧ a ≠ .non ∧ k = dlt a b := by
  cases a <;> cases b <;> simp only [ltOp] at h <;> try (cases h; done)
  · cases h
    exact ⟨rfl, rfl, rfl, (fun z => nomatch z), rfl⟩
  · cases h
    exact ⟨rfl, rfl, rfl, (fun z => nomatch z), rfl⟩
  · split at h
    · cases h
      rename_i h
      rw [Bool.and_eq_true, Bool.and_eq_true] at h
      exact ⟨h.1.1, h.1.2, h.2, (fun z => nomatch z), rfl⟩
    · cases h
mutual
theorem alike_comm : ∀ a b : D, alike a b = alike b a
  | .non, b => by cases b <;> rfl
  | .bl _, b => by cases b <;> rfl
  | .int _, b => by cases b <;> rfl
  | .str _, b => by cases b <;> rfl
  | .tup xs, b => by
    cases b <;> first | (simp only [alike]; exact alikeL_comm _ _) | rfl
  | .lst o xs, b => by
    cases b <;> first | (simp only [alike]; exact alikeL_comm _ _) | rfl
  | .dct _ _ _, b => by cases b <;> rfl
  | .ins _ _ _, b => by cases b <;> rfl
  | .scr _, b => by cases b <;> rfl
theorem alikeL_comm : ∀ xs ys : List D, alikeL xs ys = alikeL ys xs
  | [], [] => rfl
  | [], _ :: _ => by simp [alikeL]
  | _ :: _, [] => by simp [alikeL]
  | x :: xs, y :: ys => by simp only [alikeL]; rw [alike_comm x y, alikeL_comm xs ys]
end
theorem ok_lt {k : Nat} (hr : Room k X.A) : OpR X (compareOp .Lt) (rDB X.K (cop .lt)) := by
  intro pins s σ H x y v u Q I rx ry ⟨F, a, b, d, hF, sa, sb, e, q⟩
  obtain ⟨pa, pb, al, nn, rfl⟩ := ltOp_some (show ltOp a b = some d from e)
  obtain ⟨as, r1⟩ := reads_of I hF pa sa rx
  obtain ⟨bs, r2⟩ := reads_of I hF pb sb ry
  have hu := hr.units
  have h3 := py_depth 21 a pa
  refine PySem.W.lt_data r1 r2 (by rw [py_alike a b _ _ pa pb]; exact al) (fun z => nn ?_) (by omega) ⟨.bl _, H, I, rfl, by rw [py_lt a b _ _ pa pb al nn]; exact q⟩
  cases a <;> first | rfl | (simp [py] at z; done) | (simp [plain] at pa; done)
theorem ok_gt {k : Nat} (hr : Room k X.A) : OpR X (compareOp .Gt) (rDB X.K (cop .gt)) := by
  intro pins s σ H x y v u Q I rx ry ⟨F, a, b, d, hF, sa, sb, e, q⟩
  obtain ⟨pb, pa, al, nn, rfl⟩ := ltOp_some (show ltOp b a = some d from e)
  obtain ⟨as, r1⟩ := reads_of I hF pa sa rx
  obtain ⟨bs, r2⟩ := reads_of I hF pb sb ry
  have hu := hr.units
  have h3 := py_depth 21 a pa
  refine PySem.W.gt_data r1 r2 (by rw [py_alike a b _ _ pa pb, alike_comm]; exact al) (fun z => ?_) (by omega) ⟨.bl _, H, I, rfl, by rw [py_lt b a _ _ pb pa al nn]; exact q⟩
  cases a <;> first | (cases b <;> simp [alike] at al <;> exact nn rfl) | (simp [py] at z; done) | (simp [plain] at pa; done)
theorem ok_le {k : Nat} (hr : Room k X.A) : OpR X (compareOp .LtE) (rDB X.K (cop .le)) := by
  intro pins s σ H x y v u Q I rx ry ⟨F, a, b, d, hF, sa, sb, e, q⟩
  obtain ⟨d', e1, rfl⟩ := Option.map_eq_some_iff.mp (show (ltOp b a).map (!·) = some d from e)
  obtain ⟨pb, pa, al, nn, rfl⟩ := ltOp_some e1
  obtain ⟨as, r1⟩ := reads_of I hF pa sa rx
  obtain ⟨bs, r2⟩ := reads_of I hF pb sb ry
  have hu := hr.units
  have h3 := py_depth 21 a pa
  refine PySem.W.le_data r1 r2 (by rw [py_alike a b _ _ pa pb, alike_comm]; exact al) (fun z => ?_) (by omega) ⟨.bl _, H, I, rfl, by rw [py_lt b a _ _ pb pa al nn]; exact q⟩
  cases a <;> first | (cases b <;> simp [alike] at al <;> exact nn rfl) | (simp [py] at z; done) | (simp [plain] at pa; done)
theorem ok_ge {k : Nat} (hr : Room k X.A) : OpR X (compareOp .GtE) (rDB X.K (cop .ge)) := by
  intro pins s σ H x y v u Q I rx ry ⟨F, a, b, d, hF, sa, sb, e, q⟩
  obtain ⟨d', e1, rfl⟩ := Option.map_eq_some_iff.mp (show (ltOp a b).map (!·) = some d from e)
  obtain ⟨pa, pb, al, nn, rfl⟩ := ltOp_some e1
  obtain ⟨as, r1⟩ := reads_of I hF pa sa rx
  obtain ⟨bs, r2⟩ := reads_of I hF pb sb ry
  have hu := hr.units
  have h3 := py_depth 21 a pa
  refine PySem.W.ge_data r1 r2 (by rw [py_alike a b _ _ pa pb]; exact al) (fun z => nn ?_) (by omega) ⟨.bl _, H, I, rfl, by rw [py_lt a b _ _ pa pb al nn]; exact q⟩
  cases a <;> first | rfl | (simp [py] at z; done) | (simp [plain] at pa; done)
end

/-! ### dicts -/
theorem keyK_deq {a b : D} {p q : Key} (ha : keyK a = some p) (hb : keyK b = some q) : deq a b = decide (p = q) := by
  cases a <;> simp only [keyK] at ha <;> try (cases ha; done)
  · cases b <;> simp only [keyK] at hb <;> try (cases hb; done)
    · cases ha; cases hb; simp only [deq]; rw [key_ll]
    · cases ha; cases hb; simp only [deq]; rw [key_lr]
  · cases b <;> simp only [keyK] at hb <;> try (cases hb; done)
    · cases ha; cases hb; simp only [deq]; rw [key_rl]
    · cases ha; cases hb; simp only [deq]; rw [key_rr]; rename_i x y
      rw [Bool.eq_iff_iff]; simp
theorem keyKs_deq : ∀ {xs ys : List D} {p q : List Key}, keyKs xs = some p → keyKs ys = some q → deqL xs ys = decide (p = q)
  | [], ys, p, q, ha, hb => by
    simp only [keyKs] at ha
    cases ha
    cases ys with
    | nil => simp only [keyKs] at hb; cases hb; simp [deqL]
    | cons y ys =>
      simp only [keyKs, Option.bind_eq_some_iff, Option.map_eq_some_iff] at hb
      obtain ⟨k, _, r, _, e⟩ := hb
      rw [← e]
      simp [deqL]
  | x :: xs, ys, p, q, ha, hb => by
    simp only [keyKs, Option.bind_eq_some_iff, Option.map_eq_some_iff] at ha
    obtain ⟨k, e1, r, e2, e3⟩ := ha
    cases ys with
    | nil => simp only [keyKs] at hb; cases hb; rw [← e3]; simp [deqL]
    | cons y ys =>
      simp only [keyKs, Option.bind_eq_some_iff, Option.map_eq_some_iff] at hb
      obtain ⟨k', f1, r', f2, f3⟩ := hb
      simp only [deqL]
      rw [keyK_deq e1 f1, keyKs_deq e2 f2, ← e3, ← f3]
      rw [Bool.eq_iff_iff]
      simp
theorem keyT_deq {a b : D} {p q : List Key} (ha : keyT a = some p) (hb : keyT b = some q) : deq a b = decide (p = q) := by
  cases a <;> simp only [keyT] at ha <;> try (cases ha; done)
  cases b <;> simp only [keyT] at hb <;> try (cases hb; done)
  simp only [deq]
  exact keyKs_deq ha hb
theorem isK_key {d : D} (h : isK d = true) : ∃ k, keyK d = some k := by
  cases d <;> simp only [isK] at h <;> first | (cases h; done) | exact ⟨_, rfl⟩
theorem isT_key {d : D} (h : isT d = true) : ∃ k, keyT d = some k := by
  cases d <;> simp only [isT] at h <;> try (cases h; done)
  rename_i xs
  simp only [keyT]
  induction xs with
  | nil => exact ⟨[], rfl⟩
  | cons x r ih =>
    rw [List.all_cons, Bool.and_eq_true] at h
    obtain ⟨k, e⟩ := isK_key h.1
    obtain ⟨ks, es⟩ := ih h.2
    exact ⟨k :: ks, by simp only [keyKs, e, es]; rfl⟩
section
variable {K : Frag} {F H : Hp}
/-- a key's value -/
theorem keyK_sees {d : D} {k : Key} {v : V} (e : keyK d = some k) (h : sees K F H d v) : v = kV k := by
  cases d <;> simp only [keyK] at e <;> try (cases e; done)
  · cases e; rw [sees_int] at h; exact h
  · cases e; rw [sees_str] at h; exact h
theorem keyKs_dat : ∀ {ds : List D} {vs : List V} {ks : List Key}, keyKs ds = some ks → datL K F ds vs → vs = ks.map kV
  | [], vs, ks, e, h => by simp only [keyKs] at e; cases e; simp only [datL] at h; rw [h]; rfl
  | d :: r, vs, ks, e, h => by
    simp only [keyKs, Option.bind_eq_some_iff, Option.map_eq_some_iff] at e
    obtain ⟨k, e1, t, e2, e3⟩ := e
    simp only [datL] at h
    obtain ⟨v, u, ev, x, y⟩ := h
    have q : v = kV k := by
      cases d <;> simp only [keyK] at e1 <;> try (cases e1; done)
      · cases e1; simp only [dat] at x; exact x
      · cases e1; simp only [dat] at x; exact x
    rw [ev, ← e3, q, keyKs_dat e2 y]
    rfl
theorem keyT_sees {d : D} {k : List Key} {v : V} (e : keyT d = some k) (h : sees K F H d v) : ∃ b, v = .ref b ∧ H b = some (.tup (k.map kV)) := by
  cases d <;> simp only [keyT] at e <;> try (cases e; done)
  obtain ⟨a, vs, e1, h1, h2⟩ := h
  exact ⟨a, e1, by rw [h1, keyKs_dat e h2]⟩
theorem datK_get : ∀ {kvs : List (D × D)} {l : List (Key × V)} {d : D} {k : Key}, datK K F kvs l → keyK d = some k → (dget kvs d = none ∧ valV l k = none) ∨ ∃ e v, dget kvs d = some e ∧ valV l k = some v ∧ dat K F e v
  | [], l, d, k, h, e => by simp only [datK] at h; rw [h]; exact .inl ⟨rfl, rfl⟩
  | (k0, d0) :: r, l, d, k, h, e => by
    simp only [datK] at h
    obtain ⟨q, v, t, el, ek, hd, hr⟩ := h
    have hq := keyK_deq ek e
    by_cases c : q = k
    · refine .inr ⟨d0, v, ?_, by rw [el, valV_pos (p := (q, v)) c], hd⟩
      unfold dget
      rw [List.find?_cons_of_pos (by rw [hq, decide_eq_true c])]
      rfl
    · have e1 : dget ((k0, d0) :: r) d = dget r d := by
        unfold dget
        rw [List.find?_cons_of_neg (by rw [hq, decide_eq_false c]; exact Bool.false_ne_true)]
      rw [e1, el, valV_neg (p := (q, v)) c]
      exact datK_get hr e
theorem datT_get : ∀ {kvs : List (D × D)} {l : List (List Key × V)} {d : D} {k : List Key}, datT K F kvs l → keyT d = some k → (dget kvs d = none ∧ valV l k = none) ∨ ∃ e v, dget kvs d = some e ∧ valV l k = some v ∧ dat K F e v
  | [], l, d, k, h, e => by simp only [datT] at h; rw [h]; exact .inl ⟨rfl, rfl⟩
  | (k0, d0) :: r, l, d, k, h, e => by
    simp only [datT] at h
    obtain ⟨q, v, t, el, ek, hd, hr⟩ := h
    have hq := keyT_deq ek e
    by_cases c : q = k
    · refine .inr ⟨d0, v, ?_, by rw [el, valV_pos (p := (q, v)) c], hd⟩
      unfold dget
      rw [List.find?_cons_of_pos (by rw [hq, decide_eq_true c])]
      rfl
    · have e1 : dget ((k0, d0) :: r) d = dget r d := by
        unfold dget
        rw [List.find?_cons_of_neg (by rw [hq, decide_eq_false c]; exact Bool.false_ne_true)]
      rw [e1, el, valV_neg (p := (q, v)) c]
      exact datT_get hr e
theorem datK_len : ∀ {kvs : List (D × D)} {l : List (Key × V)}, datK K F kvs l → kvs.length = l.length
  | [], l, h => by simp only [datK] at h; rw [h]; rfl
  | (k0, d0) :: r, l, h => by
    simp only [datK] at h
    obtain ⟨q, v, t, el, ek, hd, hr⟩ := h
    rw [el, List.length_cons, List.length_cons, datK_len hr]
theorem datT_len : ∀ {kvs : List (D × D)} {l : List (List Key × V)}, datT K F kvs l → kvs.length = l.length
  | [], l, h => by simp only [datT] at h; rw [h]; rfl
  | (k0, d0) :: r, l, h => by
    simp only [datT] at h
    obtain ⟨q, v, t, el, ek, hd, hr⟩ := h
    rw [el, List.length_cons, List.length_cons, datT_len hr]
theorem datK_any : ∀ {kvs : List (D × D)} {l : List (Key × V)} {d : D} {k : Key}, datK K F kvs l → keyK d = some k → (kvs.any fun kv => deq kv.1 d) = l.any fun kv => decide (kv.1 = k)
  | [], l, d, k, h, e => by simp only [datK] at h; rw [h]; rfl
  | (k0, d0) :: r, l, d, k, h, e => by
    simp only [datK] at h
    obtain ⟨q, v, t, el, ek, hd, hr⟩ := h
    rw [el, List.any_cons, List.any_cons, keyK_deq ek e, datK_any hr e]
theorem datT_any : ∀ {kvs : List (D × D)} {l : List (List Key × V)} {d : D} {k : List Key}, datT K F kvs l → keyT d = some k → (kvs.any fun kv => deq kv.1 d) = l.any fun kv => decide (kv.1 = k)
  | [], l, d, k, h, e => by simp only [datT] at h; rw [h]; rfl
  | (k0, d0) :: r, l, d, k, h, e => by
    simp only [datT] at h
    obtain ⟨q, v, t, el, ek, hd, hr⟩ := h
    rw [el, List.any_cons, List.any_cons, keyT_deq ek e, datT_any hr e]
theorem datK_repl : ∀ {kvs : List (D × D)} {l : List (Key × V)} {d e : D} {k : Key} {v : V}, datK K F kvs l → keyK d = some k → dat K F e v →
    datK K F (kvs.map fun kv => if deq kv.1 d = true then (kv.1, e) else kv) (l.map fun kv => if kv.1 = k then (kv.1, v) else kv)
  | [], l, d, e, k, v, h, _, _ => by simp only [datK] at h; rw [h]; simp [datK]
  | (k0, d0) :: r, l, d, e, k, v, h, ek, hv => by
    simp only [datK] at h
    obtain ⟨q, w, t, el, ek0, hd, hr⟩ := h
    have hq := keyK_deq ek0 ek
    rw [el, List.map_cons, List.map_cons]
    by_cases c : q = k
    · rw [if_pos (show deq (k0, d0).1 d = true by rw [hq, decide_eq_true c]), if_pos (show (q, w).1 = k from c)]
      simp only [datK]
      exact ⟨q, v, _, rfl, ek0, hv, datK_repl hr ek hv⟩
    · rw [if_neg (show ¬ deq (k0, d0).1 d = true by rw [hq, decide_eq_false c]; exact Bool.false_ne_true), if_neg (show ¬ (q, w).1 = k from c)]
      simp only [datK]
      exact ⟨q, w, _, rfl, ek0, hd, datK_repl hr ek hv⟩
theorem datT_repl : ∀ {kvs : List (D × D)} {l : List (List Key × V)} {d e : D} {k : List Key} {v : V}, datT K F kvs l → keyT d = some k → dat K F e v →
    datT K F (kvs.map fun kv => if deq kv.1 d = true then (kv.1, e) else kv) (l.map fun kv => if kv.1 = k then (kv.1, v) else kv)
  | [], l, d, e, k, v, h, _, _ => by simp only [datT] at h; rw [h]; simp [datT]
  | (k0, d0) :: r, l, d, e, k, v, h, ek, hv => by
    simp only [datT] at h
    obtain ⟨q, w, t, el, ek0, hd, hr⟩ := h
    have hq := keyT_deq ek0 ek
    rw [el, List.map_cons, List.map_cons]
    by_cases c : q = k
    · rw [if_pos (show deq (k0, d0).1 d = true by rw [hq, decide_eq_true c]), if_pos (show (q, w).1 = k from c)]
      simp only [datT]
      exact ⟨q, v, _, rfl, ek0, hv, datT_repl hr ek hv⟩
    · rw [if_neg (show ¬ deq (k0, d0).1 d = true by rw [hq, decide_eq_false c]; exact Bool.false_ne_true), if_neg (show ¬ (q, w).1 = k from c)]
      simp only [datT]
      exact ⟨q, w, _, rfl, ek0, hd, datT_repl hr ek hv⟩
theorem datK_app : ∀ {kvs : List (D × D)} {l : List (Key × V)} {d e : D} {k : Key} {v : V}, datK K F kvs l → keyK d = some k → dat K F e v → datK K F (kvs ++ [(d, e)]) (l ++ [(k, v)])
  | [], l, d, e, k, v, h, ek, hv => by simp only [datK] at h; rw [h]; simp only [List.nil_append, datK]; exact ⟨k, v, [], rfl, ek, hv, rfl⟩
  | (k0, d0) :: r, l, d, e, k, v, h, ek, hv => by
    simp only [datK, List.cons_append] at h ⊢
    obtain ⟨q, w, t, el, ek0, hd, hr⟩ := h
    exact ⟨q, w, t ++ [(k, v)], by rw [el]; rfl, ek0, hd, datK_app hr ek hv⟩
theorem datT_app : ∀ {kvs : List (D × D)} {l : List (List Key × V)} {d e : D} {k : List Key} {v : V}, datT K F kvs l → keyT d = some k → dat K F e v → datT K F (kvs ++ [(d, e)]) (l ++ [(k, v)])
  | [], l, d, e, k, v, h, ek, hv => by simp only [datT] at h; rw [h]; simp only [List.nil_append, datT]; exact ⟨k, v, [], rfl, ek, hv, rfl⟩
  | (k0, d0) :: r, l, d, e, k, v, h, ek, hv => by
    simp only [datT, List.cons_append] at h ⊢
    obtain ⟨q, w, t, el, ek0, hd, hr⟩ := h
    exact ⟨q, w, t ++ [(k, v)], by rw [el]; rfl, ek0, hd, datT_app hr ek hv⟩
theorem datK_put {kvs : List (D × D)} {l : List (Key × V)} {d e : D} {k : Key} {v : V} (h : datK K F kvs l) (ek : keyK d = some k) (hv : dat K F e v) : datK K F (dput kvs d e) (putK l k v) := by
  unfold dput putK
  rw [datK_any h ek]
  split
  · exact datK_repl h ek hv
  · exact datK_app h ek hv
theorem datT_put {kvs : List (D × D)} {l : List (List Key × V)} {d e : D} {k : List Key} {v : V} (h : datT K F kvs l) (ek : keyT d = some k) (hv : dat K F e v) : datT K F (dput kvs d e) (putK l k v) := by
  unfold dput putK
  rw [datT_any h ek]
  split
  · exact datT_repl h ek hv
  · exact datT_app h ek hv
/-- a look into a dict -/
theorem dct_get {o t : Bool} {kvs : List (D × D)} {k : D} {x y : V} (hd : sees K F H (.dct o t kvs) x) (hk : sees K F H k y) (ok : keyOk t k = true) :
    ∃ a r, x = .ref a ∧ DGet H a y r ∧ ((dget kvs k = none ∧ r = none) ∨ ∃ e v, dget kvs k = some e ∧ r = some v ∧ dat K F e v) := by
  obtain ⟨a, e1, h⟩ := hd
  rcases h with ⟨et, l, h1, h2⟩ | ⟨et, l, h1, h2⟩
  · subst et
    obtain ⟨q, eq⟩ := isK_key (show isK k = true from ok)
    refine ⟨a, valV l q, e1, ?_, datK_get h2 eq⟩
    rw [keyK_sees eq hk]
    exact DGet.k h1
  · subst et
    obtain ⟨q, eq⟩ := isT_key (show isT k = true from ok)
    obtain ⟨b, eb, hb⟩ := keyT_sees eq hk
    refine ⟨a, valV l q, e1, ?_, datT_get h2 eq⟩
    rw [eb]
    exact DGet.t h1 hb
end
end OM


set_option autoImplicit false
set_option linter.all false
set_option maxRecDepth 100000
namespace OM
open PySem PySem.Spec PyProof.Rows L2

theorem cps_len (x : Str) : (cps x).length = x.length := by simp [cps, Str.length]
theorem strOf_cps (x : Str) : strOf (cps x) = x := TL.mk_tl x
theorem cps_strOf (l : List Nat) : cps (strOf l) = l := rfl
theorem any_py {n m : Nat} {x : D} (hx : plain n x = true) : ∀ ys : List D, plainL m ys = true → ((pyL ys).any fun y => PyData.eqv y (py x)) = memD x ys
  | [], _ => by simp [pyL, memD]
  | y :: ys, h => by
    simp only [plainL, Bool.and_eq_true] at h
    have ih := any_py hx ys h.2
    simp only [memD] at ih ⊢
    simp only [pyL, List.any_cons]
    rw [eqv_deq h.1 hx, ih]

section
variable {X : Cx}
theorem in_cases {a b : D} {k : Bool} (h : inOp a b = some k) :
    (∃ c y, a = .str (strOf [c]) ∧ b = .str y ∧ k = decide (c ∈ cps y)) ∨
    (∃ ys, (b = .tup ys ∨ ∃ o, b = .lst o ys) ∧ plain 20 a = true ∧ plainL 20 ys = true ∧ k = memD a ys) ∨
    (∃ o t kvs, b = .dct o t kvs ∧ keyOk t a = true ∧ k = (dget kvs a).isSome) := by
  cases b with
  | str y =>
    cases a <;> simp only [inOp] at h <;> try (cases h; done)
    rename_i x
    split at h
    · rename_i c e
      cases h
      refine .inl ⟨c, y, ?_, rfl, rfl⟩
      rw [← e, strOf_cps]
    · cases h
  | lst o ys =>
    have h2 : (if plain 20 a && plainL 20 ys then some (memD a ys) else none) = some k := by
      cases a <;> exact h
    split at h2
    · rename_i c
      cases h2
      rw [Bool.and_eq_true] at c
      exact .inr (.inl ⟨ys, .inr ⟨o, rfl⟩, c.1, c.2, rfl⟩)
    · cases h2
  | tup ys =>
    have h2 : (if plain 20 a && plainL 20 ys then some (memD a ys) else none) = some k := by
      cases a <;> exact h
    split at h2
    · rename_i c
      cases h2
      rw [Bool.and_eq_true] at c
      exact .inr (.inl ⟨ys, .inl rfl, c.1, c.2, rfl⟩)
    · cases h2
  | dct o t kvs =>
    have h2 : (if keyOk t a = true then some (dget kvs a).isSome else none) = some k := by
      cases a <;> exact h
    split at h2
    · rename_i c
      cases h2
      exact .inr (.inr ⟨o, t, kvs, rfl, c, rfl⟩)
    · cases h2
  | _ => cases a <;> cases h
theorem ok_inn {k : Nat} (hr : Room k X.A) : OpR X (compareOp .In) (rDB X.K (cop .inn)) := by
  intro pins s σ H x y v u Q I rx ry ⟨F, a, b, d, hF, sa, sb, e, q⟩
  have hu := hr.units
  rcases in_cases (show inOp a b = some d from e) with ⟨c, z, rfl, rfl, rfl⟩ | ⟨ys, hb, pa, pb, rfl⟩ | ⟨o, t, kvs, rfl, ko, rfl⟩
  · rw [sees_str] at sa sb
    exact op_in_sign pins s σ H x y v u Q I rx ry ⟨c, z, sa, sb, q⟩
  · obtain ⟨as, r1⟩ := reads_of I hF pa sa rx
    have h3 := py_depth 20 a pa
    rcases hb with rfl | ⟨o, rfl⟩
    · obtain ⟨bs, r2⟩ := reads_of (n := 21) I hF (show plain 21 (.tup ys) = true from pb) sb ry
      simp only [py] at r2
      refine PySem.SeqAt.in_tuple_data r2 r1 (pyL_plain _ _ pb) (py_plain _ _ pa) (by omega) ⟨.bl _, H, I, rfl, ?_⟩
      rw [any_py pa ys pb]
      exact q
    · obtain ⟨bs, r2⟩ := reads_of (n := 21) I hF (show plain 21 (.lst o ys) = true from pb) sb ry
      simp only [py] at r2
      refine PySem.SeqAt.in_list_data r2 r1 (pyL_plain _ _ pb) (py_plain _ _ pa) (by omega) ⟨.bl _, H, I, rfl, ?_⟩
      rw [any_py pa ys pb]
      exact q
  · obtain ⟨p, r, ep, g, hg⟩ := dct_get sb sa ko
    subst ep
    obtain rfl : u = Value.ref p := ry
    refine d_in (by omega) I g rx fun s' I' => ⟨.bl r.isSome, H, I', rfl, ?_⟩
    rcases hg with ⟨e1, e2⟩ | ⟨_, _, e1, e2, _⟩
    · rw [e2]; rw [e1] at q; exact q
    · rw [e2]; rw [e1] at q; exact q
theorem ok_nin {k : Nat} (hr : Room k X.A) : OpR X (compareOp .NotIn) (rDB X.K (cop .nin)) := by
  intro pins s σ H x y v u Q I rx ry ⟨F, a, b, d, hF, sa, sb, e, q⟩
  have hu := hr.units
  obtain ⟨d', e1, rfl⟩ := Option.map_eq_some_iff.mp (show (inOp a b).map (!·) = some d from e)
  rcases in_cases e1 with ⟨c, z, rfl, rfl, rfl⟩ | ⟨ys, hb, pa, pb, rfl⟩ | ⟨o, t, kvs, rfl, ko, rfl⟩
  · rw [sees_str] at sa sb
    exact op_notIn_sign pins s σ H x y v u Q I rx ry ⟨c, z, sa, sb, q⟩
  · obtain ⟨as, r1⟩ := reads_of I hF pa sa rx
    have h3 := py_depth 20 a pa
    rcases hb with rfl | ⟨o, rfl⟩
    · obtain ⟨bs, r2⟩ := reads_of (n := 21) I hF (show plain 21 (.tup ys) = true from pb) sb ry
      simp only [py] at r2
      refine PySem.SeqAt.notIn_tuple_data r2 r1 (pyL_plain _ _ pb) (py_plain _ _ pa) (by omega) ⟨.bl _, H, I, rfl, ?_⟩
      rw [any_py pa ys pb]
      exact q
    · obtain ⟨bs, r2⟩ := reads_of (n := 21) I hF (show plain 21 (.lst o ys) = true from pb) sb ry
      simp only [py] at r2
      refine PySem.SeqAt.notIn_list_data r2 r1 (pyL_plain _ _ pb) (py_plain _ _ pa) (by omega) ⟨.bl _, H, I, rfl, ?_⟩
      rw [any_py pa ys pb]
      exact q
  · obtain ⟨p, r, ep, g, hg⟩ := dct_get sb sa ko
    subst ep
    obtain rfl : u = Value.ref p := ry
    refine d_notIn (by omega) I g rx fun s' I' => ⟨.bl (!r.isSome), H, I', rfl, ?_⟩
    rcases hg with ⟨e1, e2⟩ | ⟨_, _, e1, e2, _⟩
    · rw [e2]; rw [e1] at q; exact q
    · rw [e2]; rw [e1] at q; exact q
theorem non_iff {K : Frag} {F H : Hp} {a : D} {v : V} (h : sees K F H a v) : isNon a = decide (v = .non) := by
  cases a with
  | non => rw [sees_non] at h; rw [h]; rfl
  | bl b => rw [sees_bl] at h; rw [h]; rfl
  | int b => rw [sees_int] at h; rw [h]; rfl
  | str b => rw [sees_str] at h; rw [h]; rfl
  | tup b => obtain ⟨_, _, e, _⟩ := h; rw [e]; rfl
  | lst o b => obtain ⟨_, _, e, _⟩ := h; rw [e]; rfl
  | dct o t b => obtain ⟨_, e, _⟩ := h; rw [e]; rfl
  | ins o c f => simp [sees, dat] at h
  | scr ns => simp only [sees, dat] at h; obtain ⟨_, e, _⟩ := h; rw [e]; rfl
theorem ok_is : OpR X (compareOp .Is) (rDB X.K (cop .is_)) := by
  intro pins s σ H x y v u Q I rx ry ⟨F, a, b, d, hF, sa, sb, e, q⟩
  cases b with
  | non =>
    have e2 : some (isNon a) = some d := by cases a <;> exact e
    cases e2
    rw [sees_non] at sb
    exact op_isN pins s σ H x y v u Q I rx ry ⟨sb, by rw [← non_iff sa]; exact q⟩
  | bl b =>
    cases a <;> simp only [cop] at e <;> try (cases e; done)
    cases e
    rw [sees_bl] at sa sb
    refine op_isBl pins s σ H x y v u Q I rx ry ⟨_, _, sa, sb, ?_⟩
    rw [← Bool.beq_eq_decide_eq]
    exact q
  | _ => cases a <;> cases e
theorem ok_isn : OpR X (compareOp .IsNot) (rDB X.K (cop .isn)) := by
  intro pins s σ H x y v u Q I rx ry ⟨F, a, b, d, hF, sa, sb, e, q⟩
  cases b with
  | non =>
    have e2 : some (!isNon a) = some d := by cases a <;> exact e
    cases e2
    rw [sees_non] at sb
    exact op_notN pins s σ H x y v u Q I rx ry ⟨sb, by rw [← non_iff sa]; exact q⟩
  | bl b =>
    cases a <;> simp only [cop] at e <;> try (cases e; done)
    cases e
    rw [sees_bl] at sa sb
    refine op_notBl pins s σ H x y v u Q I rx ry ⟨_, _, sa, sb, ?_⟩
    rw [← Bool.beq_eq_decide_eq]
    exact q
  | _ => cases a <;> cases e
def opC : Cop → CmpOp
  | .eq => .Eq | .ne => .NotEq | .lt => .Lt | .le => .LtE | .gt => .Gt | .ge => .GtE | .inn => .In | .nin => .NotIn | .is_ => .Is | .isn => .IsNot
theorem ok_cop {k : Nat} (hr : Room k X.A) : ∀ op : Cop, OpR X (compareOp (opC op)) (rDB X.K (cop op))
  | .eq => ok_eq hr | .ne => ok_ne hr | .lt => ok_lt hr | .le => ok_le hr | .gt => ok_gt hr | .ge => ok_ge hr | .inn => ok_inn hr | .nin => ok_nin hr | .is_ => ok_is | .isn => ok_isn

/-! ### truth -/
theorem truV_of {K : Frag} {F H : Hp} {d : D} {x : V} {k : Bool} (h : sees K F H d x) (e : truth d = some k) : TruV K x H k := by
  cases d with
  | non => rw [sees_non] at h; subst h; cases e; rfl
  | bl b => rw [sees_bl] at h; subst h; cases e; rfl
  | int b => rw [sees_int] at h; subst h; cases e; rfl
  | str b =>
    rw [sees_str] at h
    subst h
    simp only [truth] at e
    split at e
    · rename_i c
      cases e
      rw [cps_len] at c
      refine ⟨c, ?_⟩
      have l := cps_len b
      cases h : cps b with
      | nil => rw [h] at l; simp at l; simp [← l]
      | cons p q => rw [h] at l; simp at l; rw [← l]; simp; omega
    · cases e
  | tup xs =>
    obtain ⟨a, vs, rfl, h1, h2⟩ := h
    cases e
    refine .inr (.inl ⟨vs, SqT.of h1, ?_⟩)
    have l := datL_len h2
    cases xs <;> cases vs <;> first | rfl | simp at l
  | lst o xs =>
    obtain ⟨a, vs, rfl, h1, h2⟩ := h
    cases e
    refine .inl ⟨vs, SqL.of h1, ?_⟩
    have l := datL_len h2
    cases xs <;> cases vs <;> first | rfl | simp at l
  | dct o t kvs =>
    cases t with
    | true => simp [truth] at e
    | false =>
      obtain ⟨a, rfl, h⟩ := h
      cases e
      rcases h with ⟨_, l, h1, h2⟩ | ⟨z, _⟩
      · refine .inr (.inr ⟨l, h1, ?_⟩)
        have ll := datK_len h2
        cases kvs <;> cases l <;> first | rfl | simp at ll
      · cases z
  | ins o c f => simp [sees, dat] at h
  | scr ns => cases e

/-! ### subscripts -/
theorem atI_ix {α : Type} (xs : List α) (i : Int) : atI xs i = xs[ixOf xs.length i]? := by
  have hn : ∀ n, xs.length ≤ n → xs[n]? = none := fun n h => List.getElem?_eq_none h
  unfold atI
  by_cases h0 : 0 ≤ i
  · have e1 : ixOf xs.length i = i.toNat := by unfold ixOf; rw [if_neg (by omega)]
    rw [e1]
    by_cases h1 : i < (xs.length : Int)
    · rw [show ixN xs.length i = some i.toNat by unfold ixN; rw [if_pos h0, if_pos h1]]
      rfl
    · rw [show ixN xs.length i = none by unfold ixN; rw [if_pos h0, if_neg h1], hn _ (by omega)]
      rfl
  · by_cases h1 : -(xs.length : Int) ≤ i
    · rw [show ixN xs.length i = some (i + xs.length).toNat by unfold ixN; rw [if_neg h0, if_pos h1], show ixOf xs.length i = (i + xs.length).toNat by unfold ixOf; rw [if_pos (by omega), if_neg (by omega)]]
      rfl
    · rw [show ixN xs.length i = none by unfold ixN; rw [if_neg h0, if_neg h1], show ixOf xs.length i = xs.length by unfold ixOf; rw [if_pos (by omega), if_pos (by omega)], hn _ (Nat.le_refl _)]
      rfl
theorem ok_ix {k : Nat} (hr : Room k X.A) : IxR X (rD2 X.K ixOp) := by
  intro value slice pins s σ H x y v u Q I rx ry ⟨F, a, b, d, hF, sa, sb, e, q⟩ hs
  have hu := hr.units
  cases a with
  | tup xs =>
    cases b <;> simp only [ixOp] at e <;> try (cases e; done)
    obtain ⟨p, vs, e1, h1, h2⟩ := sa
    rw [sees_int] at sb
    obtain ⟨w, ew, hw⟩ := datL_get h2 e
    refine ix_tup value slice pins s σ H x y v u Q I rx ry ⟨p, vs, _, w, e1, sb, SqT.of h1, ?_, q _ _ _ _ (Made.val hF hw)⟩ hs
    rw [atI_ix, ← datL_len h2]
    exact ew
  | lst o xs =>
    cases b <;> simp only [ixOp] at e <;> try (cases e; done)
    obtain ⟨p, vs, e1, h1, h2⟩ := sa
    rw [sees_int] at sb
    obtain ⟨w, ew, hw⟩ := datL_get h2 e
    refine ix_list value slice pins s σ H x y v u Q I rx ry ⟨p, vs, _, w, e1, sb, SqL.of h1, ?_, q _ _ _ _ (Made.val hF hw)⟩ hs
    rw [atI_ix, ← datL_len h2]
    exact ew
  | str z =>
    cases b <;> simp only [ixOp] at e <;> try (cases e; done)
    split at e
    · rename_i hz
      rw [sees_str] at sa
      rw [sees_int] at sb
      obtain ⟨c, ec, rfl⟩ := Option.map_eq_some_iff.mp e
      refine ix_str value slice pins s σ H x y v u Q I rx ry ⟨z, _, c, sa, sb, by rw [← cps_len]; exact hz, ?_, q _ _ _ _ (Made.val hF rfl)⟩ hs
      rw [atI_ix]
      exact ec
    · cases e
  | dct o t kvs =>
    have e2 : (if keyOk t b = true then dget kvs b else none) = some d := by cases b <;> exact e
    split at e2
    · rename_i ko
      obtain ⟨p, r, ep, g, hg⟩ := dct_get sa sb ko
      subst ep
      obtain rfl : v = Value.ref p := rx
      rcases hg with ⟨e3, _⟩ | ⟨e', w, e3, e4, hw⟩
      · rw [e3] at e2; cases e2
      · rw [e3] at e2
        cases e2
        subst e4
        exact tail_any (dict_typeIs I g) PySem.F.slot_dict_getitem.lookup (d_getItem (by omega) I g ry fun w' s' I' rw' => ⟨w, H, I', rw', q _ _ _ _ (Made.val hF hw)⟩) hs
    · cases e2
  | _ => cases b <;> cases e

/-! ### slices -/
def rDS (K : Frag) : V → Option Int → Option Int → Hp → VK → Prop := fun x lo hi H Q => ∃ F a d, Same F H ∧ sees K F H a x ∧ slOp lo hi a = some d ∧ ∀ v A F' H', Made K F H d v A F' H' → Q v H'
theorem cutS_eq (z : Str) (lo hi : Option Int) : cutS z lo hi = strOf (cut (cps z) lo hi) := by
  rw [cut_eq, cps_len]
  first | rfl | (unfold cutS; rfl)
theorem ok_sl : SlR X (rDS X.K) := by
  intro pins s σ H x v vl vu lo hi sl Q I rx hs pl pu ⟨F, a, d, hF, sa, e, q⟩
  cases a with
  | tup xs =>
    simp only [slOp] at e
    split at e
    · cases e
    · rename_i c
      cases e
      obtain ⟨p, vs, e1, h1, h2⟩ := sa
      have l := datL_len h2
      refine sl_tup pins s σ H x v vl vu lo hi sl Q I rx hs pl pu ⟨p, vs, e1, SqT.of h1, ?_, fun p2 hp2 => q _ _ _ _ (Made.tup hF hp2 (datL_cut lo hi h2))⟩
      intro z
      apply c
      have e : ∀ (n d : Nat) (o : Option Int), sIx n d o = HT.sIx n d o := fun n d o => by cases o <;> rfl
      rw [e, e, l]
      exact z
  | lst o xs =>
    cases e
    obtain ⟨p, vs, e1, h1, h2⟩ := sa
    exact sl_list pins s σ H x v vl vu lo hi sl Q I rx hs pl pu ⟨p, vs, e1, SqL.of h1, fun p2 hp2 => q _ _ _ _ (Made.lst hF hp2 (datL_cut lo hi h2))⟩
  | str z =>
    simp only [slOp] at e
    split at e
    · rename_i c
      cases e
      rw [sees_str] at sa
      refine sl_str pins s σ H x v vl vu lo hi sl Q I rx hs pl pu ⟨z, sa, by rw [← cps_len]; exact c, ?_⟩
      rw [cutS_eq]
      exact q _ _ _ _ (Made.val hF rfl)
    · cases e
  | _ => cases e
end
end OM


set_option autoImplicit false
set_option linter.all false
set_option maxRecDepth 100000
namespace OM
open PySem PySem.Spec PyProof.Rows L2

def seesL (K : Frag) (F H : Hp) : List D → List V → Prop
  | [], vs => vs = []
  | d :: r, vs => ∃ v t, vs = v :: t ∧ sees K F H d v ∧ seesL K F H r t
theorem seesL1 {K : Frag} {F H : Hp} {d : D} {vs : List V} (h : seesL K F H [d] vs) : ∃ v, vs = [v] ∧ sees K F H d v := by
  obtain ⟨v, t, e, x, y⟩ := h
  have y : t = [] := y
  exact ⟨v, by rw [e, y], x⟩
theorem seesL2 {K : Frag} {F H : Hp} {d e : D} {vs : List V} (h : seesL K F H [d, e] vs) : ∃ v u, vs = [v, u] ∧ sees K F H d v ∧ sees K F H e u := by
  obtain ⟨v, t, e1, x, y⟩ := h
  obtain ⟨u, e2, z⟩ := seesL1 y
  exact ⟨v, u, by rw [e1, e2], x, z⟩
theorem seesL3 {K : Frag} {F H : Hp} {d e f : D} {vs : List V} (h : seesL K F H [d, e, f] vs) : ∃ v u w, vs = [v, u, w] ∧ sees K F H d v ∧ sees K F H e u ∧ sees K F H f w := by
  obtain ⟨v, t, e1, x, y⟩ := h
  obtain ⟨u, w, e2, z1, z2⟩ := seesL2 y
  exact ⟨v, u, w, by rw [e1, e2], x, z1, z2⟩
/-- what a built-in asks and gives -/
def rBn (K : Frag) (f : Bn) : List V → Hp → VK → Prop := fun vs H Q => ∃ F ds d, Same F H ∧ seesL K F H ds vs ∧ bn f ds = some d ∧ ∀ v A F' H', Made K F H d v A F' H' → Q v H'
/-- as a method: the first is the object -/
def rBm (K : Frag) (f : Bn) : V → List V → Hp → VK → Prop := fun x vs H Q => rBn K f (x :: vs) H Q

section
variable {X : Cx}
theorem ok_len : CallR X (.builtin "len") (rBn X.K .len) := by
  intro pins s σ H vs us Q I r ⟨F, ds, d, hF, sd, e, q⟩
  have e : b_len ds = some d := e
  unfold b_len at e
  split at e
  · cases e
    obtain ⟨v, rfl, p, ws, rfl, h1, h2⟩ := seesL1 sd
    exact call_len_seq pins s σ H _ us Q I r ⟨p, ws, rfl, .inl (SqL.of h1), by rw [← datL_len h2]; exact q _ _ _ _ (Made.val hF rfl)⟩
  · cases e
    obtain ⟨v, rfl, p, ws, rfl, h1, h2⟩ := seesL1 sd
    exact call_len_seq pins s σ H _ us Q I r ⟨p, ws, rfl, .inr (SqT.of h1), by rw [← datL_len h2]; exact q _ _ _ _ (Made.val hF rfl)⟩
  · split at e
    · rename_i c
      cases e
      obtain ⟨v, rfl, h⟩ := seesL1 sd
      rw [sees_str] at h
      subst h
      rw [cps_len] at c q
      exact call_len_str pins s σ H _ us Q I r ⟨_, rfl, c, q _ _ _ _ (Made.val hF rfl)⟩
    · cases e
  · cases e
    obtain ⟨v, rfl, p, rfl, h⟩ := seesL1 sd
    cases r with
    | cons r1 rr =>
      cases rr
      cases r1
      rcases h with ⟨_, l, h1, h2⟩ | ⟨z, l, h1, h2⟩
      · refine d_len I (.inl h1) fun t s' I' => ⟨.int l.length, H, I', ⟨t, rfl⟩, ?_⟩
        rw [← datK_len h2]
        exact q _ _ _ _ (Made.val hF rfl)
      · exact absurd z Bool.false_ne_true
  · cases e
theorem ok_list : CallR X (.type "list") (rBn X.K .list) := by
  intro pins s σ H vs us Q I r ⟨F, ds, d, hF, sd, e, q⟩
  have e : b_list ds = some d := e
  unfold b_list at e
  split at e
  · cases e
    obtain ⟨v, rfl, p, ws, rfl, h1, h2⟩ := seesL1 sd
    exact call_list_of pins s σ H _ us Q I r ⟨p, ws, rfl, .inl (SqL.of h1), fun l hl => q _ _ _ _ (Made.lst hF hl h2)⟩
  · cases e
    obtain ⟨v, rfl, p, ws, rfl, h1, h2⟩ := seesL1 sd
    exact call_list_of pins s σ H _ us Q I r ⟨p, ws, rfl, .inr (SqT.of h1), fun l hl => q _ _ _ _ (Made.lst hF hl h2)⟩
  · cases e
theorem ok_tuple : CallR X (.type "tuple") (rBn X.K .tuple) := by
  intro pins s σ H vs us Q I r ⟨F, ds, d, hF, sd, e, q⟩
  have e : b_tuple ds = some d := e
  unfold b_tuple at e
  split at e
  · cases e
    obtain ⟨v, rfl, p, ws, rfl, h1, h2⟩ := seesL1 sd
    exact call_tuple_of pins s σ H _ us Q I r ⟨p, ws, rfl, .inl ⟨SqL.of h1, fun l hl => q _ _ _ _ (Made.tup hF hl h2)⟩⟩
  · cases e
theorem ok_abs : CallR X (.builtin "abs") (rBn X.K .abs) := by
  intro pins s σ H vs us Q I r ⟨F, ds, d, hF, sd, e, q⟩
  have e : b_abs ds = some d := e
  unfold b_abs at e
  split at e
  · cases e
    obtain ⟨v, rfl, h⟩ := seesL1 sd
    rw [sees_int] at h
    subst h
    exact call_abs pins s σ H _ us Q I r ⟨_, rfl, q _ _ _ _ (Made.val hF rfl)⟩
  · cases e
theorem ok_min2 (hc : X.calm = true) : CallR X (.builtin "min") (rBn X.K .min2) := by
  intro pins s σ H vs us Q I r ⟨F, ds, d, hF, sd, e, q⟩
  have e : b_min2 ds = some d := e
  unfold b_min2 at e
  split at e
  · cases e
    obtain ⟨v, u, rfl, h, h'⟩ := seesL2 sd
    rw [sees_int] at h h'
    subst h h'
    exact call_min2 hc pins s σ H _ us Q I r ⟨_, _, rfl, q _ _ _ _ (Made.val hF rfl)⟩
  · cases e
theorem ok_max2 (hc : X.calm = true) : CallR X (.builtin "max") (rBn X.K .max2) := by
  intro pins s σ H vs us Q I r ⟨F, ds, d, hF, sd, e, q⟩
  have e : b_max2 ds = some d := e
  unfold b_max2 at e
  split at e
  · cases e
    obtain ⟨v, u, rfl, h, h'⟩ := seesL2 sd
    rw [sees_int] at h h'
    subst h h'
    exact call_max2 hc pins s σ H _ us Q I r ⟨_, _, rfl, q _ _ _ _ (Made.val hF rfl)⟩
  · cases e
theorem intOf_text {x : Str} {n : Int} (h : intOf (cps x) = some n) : PySem.intText? x = some n ∧ x.length ≤ 640 := by
  have dg : ∀ l : List Nat, l.all isFig = true → NumText.AllDigits l := fun l hl c hc => by
    have := List.all_eq_true.mp hl c hc
    unfold isFig at this
    rw [Bool.and_eq_true] at this
    exact ⟨of_decide_eq_true this.1, of_decide_eq_true this.2⟩
  have l := cps_len x
  unfold intOf at h
  split at h
  · rename_i r e
    split at h
    · rename_i c
      cases h
      rw [e] at l
      simp only [List.length_cons] at l
      exact ⟨PySem.intText_neg e (dg _ c.2.1) c.1 (by omega), by omega⟩
    · cases h
  · split at h
    · rename_i c
      cases h
      exact ⟨PySem.intText_digits (dg _ c.2.1) c.1 (by omega), by omega⟩
    · cases h
theorem ok_int : CallR X (.type "int") (rBn X.K .int) := by
  intro pins s σ H vs us Q I r ⟨F, ds, d, hF, sd, e, q⟩
  have e : b_int ds = some d := e
  unfold b_int at e
  split at e
  · cases e
    obtain ⟨v, rfl, h⟩ := seesL1 sd
    rw [sees_int] at h
    subst h
    exact call_int1 pins s σ H _ us Q I r (.inl ⟨_, rfl, q _ _ _ _ (Made.val hF rfl)⟩)
  · cases e
    obtain ⟨v, rfl, h⟩ := seesL1 sd
    rw [sees_bl] at h
    subst h
    exact call_int1 pins s σ H _ us Q I r (.inr ⟨_, rfl, q _ _ _ _ (Made.val hF rfl)⟩)
  · obtain ⟨n, hn, rfl⟩ := Option.map_eq_some_iff.mp e
    obtain ⟨v, rfl, h⟩ := seesL1 sd
    rw [sees_str] at h
    subst h
    obtain ⟨h1, h2⟩ := intOf_text hn
    exact call_int_str pins s σ H _ us Q I r ⟨_, n, rfl, h1, h2, q _ _ _ _ (Made.val hF rfl)⟩
  · cases e
theorem intText_eq (i : Int) : (Str.ofString (toString i)) = intText i := by
  unfold intText
  by_cases h : 0 ≤ i
  · rw [if_pos h]
    have e : i = ((i.toNat : Nat) : Int) := by omega
    apply TL.ext_tl
    conv => lhs; rw [e]
    exact PySem.W.KIN.signs_num i.toNat
  · rw [if_neg h]
    obtain ⟨n, rfl⟩ : ∃ n : Nat, i = Int.negSucc n := ⟨(-i).toNat - 1, by omega⟩
    apply TL.ext_tl
    rw [TL.tl_ofString]
    have e1 : (-(Int.negSucc n)).toNat = n + 1 := rfl
    rw [e1]
    have e2 : toString (Int.negSucc n) = "-" ++ toString (n + 1) := rfl
    rw [e2]
    have e3 : ("-" ++ toString (n + 1)).toList = '-' :: (toString (n + 1)).toList := by simp
    rw [e3, List.map_cons]
    have e4 := PySem.W.KIN.signs_num (n + 1)
    have e5 : (toString (n + 1)).toList.map Char.toNat = (Nat.toDigits 10 (n + 1)).map Char.toNat := by
      rw [← e4, ← TL.tl_ofString]
      rfl
    rw [e5]
    rfl
theorem ok_str : CallR X (.type "str") (rBn X.K .str) := by
  intro pins s σ H vs us Q I r ⟨F, ds, d, hF, sd, e, q⟩
  have e : b_str ds = some d := e
  unfold b_str at e
  split at e
  · split at e
    · rename_i c
      cases e
      obtain ⟨v, rfl, h⟩ := seesL1 sd
      rw [sees_int] at h
      subst h
      refine call_str_int pins s σ H _ us Q I r ⟨_, rfl, by omega, ?_⟩
      rw [intText_eq]
      exact q _ _ _ _ (Made.val hF rfl)
    · cases e
  · cases e
theorem ok_any (hc : X.calm = true) : CallR X (.builtin "any") (rBn X.K .any) := by
  intro pins s σ H vs us Q I r ⟨F, ds, d, hF, sd, e, q⟩
  have e : b_any ds = some d := e
  unfold b_any at e
  split at e
  · obtain ⟨l, hl, rfl⟩ := Option.map_eq_some_iff.mp e
    obtain ⟨v, rfl, p, ws, rfl, h1, h2⟩ := seesL1 sd
    have ew := bools_of h2 hl
    subst ew
    exact cr_any hc pins s σ H _ us Q I r ⟨p, l, rfl, SqL.of h1, q _ _ _ _ (Made.val hF rfl)⟩
  · cases e
theorem ok_all (hc : X.calm = true) : CallR X (.builtin "all") (rBn X.K .all) := by
  intro pins s σ H vs us Q I r ⟨F, ds, d, hF, sd, e, q⟩
  have e : b_all ds = some d := e
  unfold b_all at e
  split at e
  · obtain ⟨l, hl, rfl⟩ := Option.map_eq_some_iff.mp e
    obtain ⟨v, rfl, p, ws, rfl, h1, h2⟩ := seesL1 sd
    have ew := bools_of h2 hl
    subst ew
    exact cr_all hc pins s σ H _ us Q I r ⟨p, l, rfl, SqL.of h1, q _ _ _ _ (Made.val hF rfl)⟩
  · cases e
theorem ok_sum (hc : X.calm = true) : CallR X (.builtin "sum") (rBn X.K .sum) := by
  intro pins s σ H vs us Q I r ⟨F, ds, d, hF, sd, e, q⟩
  have e : b_sum ds = some d := e
  unfold b_sum at e
  split at e
  · obtain ⟨l, hl, rfl⟩ := Option.map_eq_some_iff.mp e
    obtain ⟨v, rfl, p, ws, rfl, h1, h2⟩ := seesL1 sd
    have ew := ints_of h2 hl
    subst ew
    exact cr_sum hc pins s σ H _ us Q I r ⟨p, l, rfl, SqL.of h1, q _ _ _ _ (Made.val hF rfl)⟩
  · cases e
/-- isinstance(x, T) -/
theorem ok_isa {T : String} {f : Bn} {g : D → Bool} {g' : PyData → Bool} (hg : ∀ d, g' (py d) = g d ∨ plain 20 d = false) (hb : ∀ ds d, bn f ds = some d → ∃ x, ds = [x] ∧ plain 20 x = true ∧ d = .bl (g x))
    (rule : ∀ {prog : Program} {w : World} {A : Around} {E : Value → Shared → Prop} {s : Shared} {v : Value} {d : PyData} {as : List Addr} {Q : Value → Shared → Prop}, Reads s.heap v d as → (∀ tk, s.toks ≤ tk → Q (.bool (g' d)) { s with toks := tk }) → wpAny (model prog w) A (call (.builtin "isinstance") [v, .type T]) Q E s) :
    CallR X (.builtin "isinstance") (fun vs H Q => ∃ v, vs = [v, .ty T] ∧ rBn X.K f [v] H Q) := by
  intro pins s σ H vs us Q I r ⟨v, e0, F, ds, d, hF, sd, e, q⟩
  subst e0
  cases r with
  | cons r1 rr =>
    cases rr with
    | cons r2 rr =>
      cases rr
      cases r2
      obtain ⟨x, rfl, hp, rfl⟩ := hb ds d e
      obtain ⟨v', ev, sx⟩ := seesL1 sd
      cases ev
      obtain ⟨as, rd⟩ := reads_of I hF hp sx r1
      refine rule rd fun tk _ => ⟨.bl (g x), H, I.tok _, ?_, q _ _ _ _ (Made.val hF rfl)⟩
      rcases hg x with e | e
      · rw [e]; rfl
      · rw [e] at hp; cases hp
theorem ok_isInt : CallR X (.builtin "isinstance") (fun vs H Q => ∃ v, vs = [v, .ty "int"] ∧ rBn X.K .isInt [v] H Q) :=
  ok_isa (g := isIntD) (g' := PyData.isInt) (fun d => by cases d <;> first | exact .inl rfl | exact .inr rfl) (fun ds d e => by
    have e : b_isInt ds = some d := e
    unfold b_isInt at e
    split at e <;> first | (cases e; done) | skip
    split at e <;> first | (cases e; done) | skip
    rename_i x c; cases e; exact ⟨_, rfl, c, rfl⟩) PySem.W.isinstance_int_data
theorem ok_isBool : CallR X (.builtin "isinstance") (fun vs H Q => ∃ v, vs = [v, .ty "bool"] ∧ rBn X.K .isBool [v] H Q) :=
  ok_isa (g := isBlD) (g' := PyData.isBool) (fun d => by cases d <;> first | exact .inl rfl | exact .inr rfl) (fun ds d e => by
    have e : b_isBool ds = some d := e
    unfold b_isBool at e
    split at e <;> first | (cases e; done) | skip
    split at e <;> first | (cases e; done) | skip
    rename_i x c; cases e; exact ⟨_, rfl, c, rfl⟩) PySem.W.isinstance_bool_data
theorem ok_isStr : CallR X (.builtin "isinstance") (fun vs H Q => ∃ v, vs = [v, .ty "str"] ∧ rBn X.K .isStr [v] H Q) :=
  ok_isa (g := isStrD) (g' := PyData.isStr) (fun d => by cases d <;> first | exact .inl rfl | exact .inr rfl) (fun ds d e => by
    have e : b_isStr ds = some d := e
    unfold b_isStr at e
    split at e <;> first | (cases e; done) | skip
    split at e <;> first | (cases e; done) | skip
    rename_i x c; cases e; exact ⟨_, rfl, c, rfl⟩) PySem.W.isinstance_str_data
theorem ok_isTuple : CallR X (.builtin "isinstance") (fun vs H Q => ∃ v, vs = [v, .ty "tuple"] ∧ rBn X.K .isTuple [v] H Q) :=
  ok_isa (g := isTup) (g' := PyData.isTuple) (fun d => by cases d <;> first | exact .inl rfl | exact .inr rfl) (fun ds d e => by
    have e : b_isTuple ds = some d := e
    unfold b_isTuple at e
    split at e <;> first | (cases e; done) | skip
    split at e <;> first | (cases e; done) | skip
    rename_i x c; cases e; exact ⟨_, rfl, c, rfl⟩) PySem.W.isinstance_tuple_data
theorem ok_isList : CallR X (.builtin "isinstance") (fun vs H Q => ∃ v, vs = [v, .ty "list"] ∧ rBn X.K .isList [v] H Q) :=
  ok_isa (g := isLstD) (g' := PyData.isList) (fun d => by cases d <;> first | exact .inl rfl | exact .inr rfl) (fun ds d e => by
    have e : b_isList ds = some d := e
    unfold b_isList at e
    split at e <;> first | (cases e; done) | skip
    split at e <;> first | (cases e; done) | skip
    rename_i x c; cases e; exact ⟨_, rfl, c, rfl⟩) PySem.W.isinstance_list_data

/-! ### methods -/
theorem par_eq (S : List Nat) : ∀ (l acc : List Nat), par S acc l = TL.par S acc l
  | [], _ => rfl
  | c :: r, acc => by
    show (if pre S (c :: r) = true then _ else _) = (if TL.pre S (c :: r) = true then _ else _)
    rw [par_eq S r]
    rfl
theorem spl_eq (S : List Nat) : ∀ (l : List Nat) (k : Nat) (acc : List Nat), spl S k acc l = TL.spl S k acc l
  | [], 0, _ => rfl
  | [], _ + 1, _ => rfl
  | c :: r, 0, acc => by
    show (if pre S (c :: r) = true then _ else _) = (if TL.pre S (c :: r) = true then _ else _)
    rw [spl_eq S r, spl_eq S r]
    rfl
  | c :: r, k + 1, acc => spl_eq S r k acc
theorem joinL_eq (S : List Nat) : ∀ l, joinL S l = TL.joinL S l
  | [] => rfl
  | [_] => rfl
  | x :: y :: r => by
    show x ++ (S ++ joinL S (y :: r)) = x ++ (S ++ TL.joinL S (y :: r))
    rw [joinL_eq S (y :: r)]
theorem ne_len {y : Str} (h : cps y ≠ []) : (y.length == 0) = false := by
  rw [← cps_len]
  cases e : cps y with
  | nil => exact absurd e h
  | cons a b => rfl
theorem ok_partition : MtR X "str.partition" (rBm X.K .partition) := by
  intro pins s σ H x xs v us Q I rx rs ⟨F, ds, d, hF, sd, e, q⟩
  have e : b_partition ds = some d := e
  unfold b_partition at e
  split at e
  · split at e
    · rename_i a b _ c
      obtain ⟨v1, u1, e1, h, h'⟩ := seesL2 sd
      rw [sees_str] at h h'
      subst h h'
      cases e1
      refine mt_partition pins s σ H _ _ v us Q I rx rs ⟨a, b, rfl, rfl, ne_len c.1, by rw [← cps_len]; exact c.2, fun p hp => ?_⟩
      have pp := TL.partition_par a b c.1
      have ep := par_eq (cps b) (cps a) []
      rw [pp]
      split at e
      · rename_i l r em
        cases e
        rw [em] at ep
        have ep2 : TL.par (TL.tl b) [] (TL.tl a) = some (l, r) := ep.symm
        rw [ep2]
        exact q _ _ _ _ (Made.tup hF hp (by simp only [datL, dat]; exact ⟨_, _, rfl, rfl, _, _, rfl, rfl, _, _, rfl, rfl, rfl⟩))
      · rename_i em
        cases e
        rw [em] at ep
        have ep2 : TL.par (TL.tl b) [] (TL.tl a) = none := ep.symm
        rw [ep2]
        exact q _ _ _ _ (Made.tup hF hp (by simp only [datL, dat]; exact ⟨_, _, rfl, rfl, _, _, rfl, rfl, _, _, rfl, rfl, rfl⟩))
    · cases e
  · cases e
theorem ok_split : MtR X "str.split" (rBm X.K .split) := by
  intro pins s σ H x xs v us Q I rx rs ⟨F, ds, d, hF, sd, e, q⟩
  have e : b_split ds = some d := e
  unfold b_split at e
  split at e
  · split at e
    · rename_i a b _ c
      cases e
      obtain ⟨v1, u1, e1, h, h'⟩ := seesL2 sd
      rw [sees_str] at h h'
      subst h h'
      cases e1
      refine mt_split pins s σ H _ _ v us Q I rx rs ⟨a, b, rfl, rfl, ne_len c.1, by rw [← cps_len]; exact c.2.2, fun p hp => ?_⟩
      have kk : b.cps.all (· < 256) = true := by
        have := c.2.1
        unfold ascii cps at this
        simpa using this
      have ss := TL.split_spl a b c.1 (TL.kind_ok kk)
      rw [show TL.tl b = cps b from rfl, show TL.tl a = cps a from rfl, ← spl_eq] at ss
      refine q _ _ _ _ (Made.lst hF hp ?_)
      rw [← ss, List.map_map]
      exact datL_map (f := (fun p => D.str (strOf p)) ∘ TL.tl) (g := V.str) (fun z => by
        show dat X.K F (.str (strOf (TL.tl z))) (.str z)
        rw [show strOf (TL.tl z) = z from strOf_cps z]
        rfl) _
    · cases e
  · cases e
theorem ok_join : MtR X "str.join" (rBm X.K .join) := by
  intro pins s σ H x xs v us Q I rx rs ⟨F, ds, d, hF, sd, e, q⟩
  have e : b_join ds = some d := e
  unfold b_join at e
  split at e
  · rename_i a o ys _
    obtain ⟨l, hl, e⟩ := Option.bind_eq_some_iff.mp e
    split at e
    · rename_i c
      cases e
      obtain ⟨v1, u1, e1, h, p, ws, rfl, h1, h2⟩ := seesL2 sd
      rw [sees_str] at h
      subst h
      cases e1
      have ew := strs_of h2 hl
      subst ew
      refine mt_join pins s σ H _ _ v us Q I rx rs ⟨a, p, l, rfl, rfl, .inl (SqL.of h1), ?_, ?_⟩
      · have e3 : (l.map fun y => (cps y).length) = l.map (·.length) := List.map_congr_left fun y _ => cps_len y
        rw [← cps_len, ← e3]
        exact c
      · rw [TL.join_eq]
        have e4 : Str.join a l = strOf (joinL (cps a) (l.map cps)) := by
          apply TL.ext_tl
          rw [TL.tl_join, ← joinL_eq]
          rfl
        rw [e4]
        exact q _ _ _ _ (Made.val hF rfl)
    · cases e
  · cases e
theorem ok_get1 {k : Nat} (hr : Room k X.A) : MtR X "dict.get" (rBm X.K .get1) := by
  intro pins s σ H x xs v us Q I rx rs ⟨F, ds, d, hF, sd, e, q⟩
  have hu := hr.units
  have e : b_get1 ds = some d := e
  unfold b_get1 at e
  split at e
  · split at e
    · rename_i ko
      cases e
      obtain ⟨v1, u1, e1, h, h'⟩ := seesL2 sd
      cases e1
      obtain ⟨p, r, ep, g, hg⟩ := dct_get h h' ko
      subst ep
      cases rs with
      | cons r1 rr =>
        cases rr
        obtain rfl : v = Value.ref p := rx
        refine d_get1 (by omega) I g r1 fun w' s' I' rw' => ⟨_, H, I', rw', ?_⟩
        rcases hg with ⟨e3, e4⟩ | ⟨e', w, e3, e4, hw⟩
        · rw [e4]; rw [e3] at q; exact q _ _ _ _ (Made.val hF rfl)
        · rw [e4]; rw [e3] at q; exact q _ _ _ _ (Made.val hF hw)
    · cases e
  · cases e
theorem dat_of_sees {K : Frag} {F H : Hp} {d : D} {v : V} (h : isOwn d = false → dat K F d v) (n : isOwn d = false) : dat K F d v := h n
end
end OM


set_option autoImplicit false
set_option linter.all false
set_option maxRecDepth 100000
/-! S3: results that the interpreter answers, as readings of the code. -/
namespace OM
open PySem PySem.Spec PyProof.Rows L2

abbrev XS := Hp → Exc → Value → Option Addr → Hp → Prop
structure Pt (K : Frag) (F : Hp) (O : List Addr) (s : Env) (σ : L2.St) (H : Hp) : Prop where
  wf : Wf F H O
  er : erep K F H s σ O
/-- an exception's wish -/
def qx (K : Frag) (Z : XS) (W : WX) (F H : Hp) (O : List Addr) (σ : L2.St) (x : Exc) (s1 : Env) : Prop :=
  ∀ cls dd O1 F1 H1, Ext F H O F1 H1 O1 → Pt K F1 O1 s1 σ H1 → Z F1 x cls dd H1 → W cls dd σ H1
def cov {α : Type} (K : Frag) (Z : XS) (W : WX) (F H : Hp) (O : List Addr) (σ : L2.St) (r : R α) (P : α → Env → Prop) : Prop := match r with
  | .ok a s1 => P a s1
  | .exc x s1 => qx K Z W F H O σ x s1
  | .bad => False
section
variable {K : Frag} {Z : XS} {W : WX} {F H : Hp} {O : List Addr} {σ : L2.St} {s : Env} {α β : Type}
theorem Ext.refl' {F H : Hp} {O : List Addr} : Ext F H O F H O := Ext.refl
theorem qx.ext {F1 H1 : Hp} {O1 : List Addr} {x : Exc} {s1 : Env} (h : qx K Z W F H O σ x s1) (e : Ext F H O F1 H1 O1) : qx K Z W F1 H1 O1 σ x s1 :=
  fun cls dd O2 F2 H2 e2 p z => h cls dd O2 F2 H2 (e.trans e2) p z
theorem cov.ext {F1 H1 : Hp} {O1 : List Addr} {r : R α} {P : α → Env → Prop} (h : cov K Z W F H O σ r P) (e : Ext F H O F1 H1 O1) : cov K Z W F1 H1 O1 σ r P := by
  cases r with
  | ok a s1 => exact h
  | exc x s1 => exact qx.ext h e
  | bad => exact h
theorem cov.imp {r : R α} {P P' : α → Env → Prop} (h : cov K Z W F H O σ r P) (i : ∀ a s1, P a s1 → P' a s1) : cov K Z W F H O σ r P' := by
  cases r with
  | ok a s1 => exact i _ _ h
  | exc x s1 => exact h
  | bad => exact h
theorem cov.bind {r : R α} {f : α → Env → R β} {P : β → Env → Prop} (h : cov K Z W F H O σ (r.bind f) P) : cov K Z W F H O σ r fun a s1 => cov K Z W F H O σ (f a s1) P := by
  cases r with
  | ok a s1 => exact h
  | exc x s1 => exact h
  | bad => exact h
theorem cov.lift {o : Option α} {s1 : Env} {P : α → Env → Prop} (h : cov K Z W F H O σ (lift o s1) P) : ∃ a, o = some a ∧ P a s1 := by
  cases o with
  | none => exact h.elim
  | some a => exact ⟨a, rfl, h⟩

/-- wanted of a value that may own; of a frozen one -/
abbrev wantE (K : Frag) (F H : Hp) (O : List Addr) (σ : L2.St) (Q : VK) (d : D) (s1 : Env) : Prop :=
  ∀ v A O1 F1 H1, Ext F H O F1 H1 (A ++ O1) → Wf F1 H1 (A ++ O1) → erep K F1 H1 s1 σ O1 → rep K F1 H1 d v A → Q v H1
abbrev wantF (K : Frag) (F H : Hp) (O : List Addr) (σ : L2.St) (Q : VK) (d : D) (s1 : Env) : Prop :=
  ∀ v O1 F1 H1, Ext F H O F1 H1 O1 → Pt K F1 O1 s1 σ H1 → dat K F1 (frz d) v → Q v H1
end
section
variable (K : Frag) (Z : XS) (W : WX)
def tE (f : Env → R D) : TE := fun σ H Q => ∃ F O s, Pt K F O s σ H ∧ cov K Z W F H O σ (f s) (wantE K F H O σ Q)
def tF (f : Env → R D) : TE := fun σ H Q => ∃ F O s, Pt K F O s σ H ∧ cov K Z W F H O σ (f s) (wantF K F H O σ Q)
def tO (e : E) (f : Env → R D) : TE := match e with
  | .var i => tVar i
  | _ => tF K Z W f
def tT (f : Env → R Bool) : TT := fun σ H Q => ∃ F O s, Pt K F O s σ H ∧ cov K Z W F H O σ (f s) fun b s1 => ∀ O1 F1 H1, Ext F H O F1 H1 O1 → Pt K F1 O1 s1 σ H1 → Q b H1
end
/-- a reading is weakened -/
theorem PE.imp {X : Cx} {e : Expr} {t u : TE} (h : PE X e t) (i : ∀ σ H Q, u σ H Q → t σ H Q) : PE X e u := ⟨fun pins s σ H Q I q => h.run pins s σ H Q I (i σ H Q q)⟩
theorem PT.imp {X : Cx} {e : Expr} {t u : TT} (h : PT X e t) (i : ∀ σ H Q, u σ H Q → t σ H Q) : PT X e u := ⟨fun pins s σ H Q I q => h.run pins s σ H Q I (i σ H Q q)⟩
theorem PW.imp {X : Cx} {e : Expr} {t u : TT} (h : PW X e t) (i : ∀ σ H Q, u σ H Q → t σ H Q) : PW X e u := ⟨fun wh pins s σ H Q I q => h.run wh pins s σ H Q I (i σ H Q q)⟩
theorem PA.imp {X : Cx} {e : List Expr} {t u : TA} (h : PA X e t) (i : ∀ σ H Q, u σ H Q → t σ H Q) : PA X e u := ⟨fun p pins s σ H Q I q => h.run p pins s σ H Q I (i σ H Q q)⟩
theorem PS.imp {X : Cx} {e : Stmt} {t u : TS} (h : PS X e t) (i : ∀ D σ H, u D σ H → t D σ H) : PS X e u := ⟨fun pins s σ H D I q => h.run pins s σ H D I (i D σ H q)⟩
theorem PSs.imp {X : Cx} {e : List Stmt} {t u : TS} (h : PSs X e t) (i : ∀ D σ H, u D σ H → t D σ H) : PSs X e u := ⟨fun pins s σ H D I q => h.run pins s σ H D I (i D σ H q)⟩
theorem PI.imp {X : Cx} {tg e : Expr} {t u : TI} (h : PI X tg e t) (i : ∀ σ H Q, u σ H Q → t σ H Q) : PI X tg e u := ⟨fun pins s σ H Q I q => h.run pins s σ H Q I (i σ H Q q)⟩

section
variable {K : Frag} {Z : XS} {W : WX} {F H : Hp} {O : List Addr} {σ : L2.St} {s : Env}
/-- a value that may own, frozen -/
theorem wantF_of {Q : VK} {d : D} {s1 : Env} (h : wantF K F H O σ Q d s1) : wantE K F H O σ Q d s1 := fun v A O1 F1 H1 e w r q => by
  obtain ⟨n1, n2, n3⟩ := List.nodup_append.mp w.nd
  have sf : Same F1 (grow F1 H1 A) := grow_same fun a z => w.of a (List.mem_append_left _ z)
  refine h v O1 (grow F1 H1 A) H1 ?_ ⟨⟨n2, grow_fh w.fh, fun a z => ?_, fun a z => w.oh a (List.mem_append_right _ z)⟩, erep_mono sf (fun _ _ => rfl) r⟩ (frz_dat sf (fun a z => by unfold grow; rw [if_pos z]) q)
  · refine ⟨e.fm.trans sf, e.keep, fun a z => ?_, fun a z => e.onew a (List.mem_append_right _ z)⟩
    by_cases ha : a ∈ A
    · exact .inr (e.onew a (List.mem_append_left _ ha))
    · unfold grow at z; rw [if_neg ha] at z
      exact e.fnew a z
  · unfold grow
    by_cases ha : a ∈ A
    · exact absurd rfl (n3 a ha a z)
    · rw [if_neg ha]; exact w.of a (List.mem_append_right _ z)
theorem tF_E {f : Env → R D} {Q : VK} (h : tF K Z W f σ H Q) : tE K Z W f σ H Q := by
  obtain ⟨F, O, s, p, h⟩ := h
  exact ⟨F, O, s, p, h.imp fun d s1 q => wantF_of q⟩
/-- what has been got for an operand -/
def held (K : Frag) (F : Hp) (σ : L2.St) (e : E) (o : Option D) (v : V) : Prop := match e with
  | .var i => σ[i]? = some (some v)
  | _ => ∃ d, o = some d ∧ dat K F d v
theorem held.mono {F1 : Hp} {e : E} {o : Option D} {v : V} (h : held K F σ e o v) (m : Same F F1) : held K F1 σ e o v := by
  cases e with
  | var i => exact h
  | _ => obtain ⟨d, e, q⟩ := h; exact ⟨d, e, dat_mono m _ _ q⟩
theorem Pt.get {i : Nat} {d : D} (p : Pt K F O s σ H) (e : sget s i = some d) : ∃ v A, σ[i]? = some (some v) ∧ rep K F H d v A ∧ ∀ a ∈ A, a ∈ O := erep_get p.er e
theorem held.sees {e : E} {o : Option D} {v : V} {d : D} (h : held K F σ e o v) (p : Pt K F O s σ H) (r : rdO e o s = some d) : sees K F H d v := by
  cases e with
  | var i =>
    obtain ⟨v', A, q1, q2, _⟩ := p.get r
    have h' : σ[i]? = some (some v) := h
    rw [h'] at q1
    cases q1
    exact sees_of_rep p.wf.fh q2
  | _ =>
    obtain ⟨d', e, q⟩ := h
    have r' : o = some d := r
    rw [e] at r'
    cases r'
    exact sees_of_dat p.wf.fh q
theorem use_O {e : E} {f : Env → R D} {Q : VK} (p : Pt K F O s σ H) (h : cov K Z W F H O σ (opd e f s) fun o s1 => ∀ v O1 F1 H1, Ext F H O F1 H1 O1 → Pt K F1 O1 s1 σ H1 → held K F1 σ e o v → Q v H1) : tO K Z W e f σ H Q := by
  cases e with
  | var i =>
    have h' : cov K Z W F H O σ (match sget s i with
      | some _ => R.ok (none : Option D) s
      | none => .bad) _ := h
    cases hs : sget s i with
    | none => rw [hs] at h'; exact h'.elim
    | some d =>
      rw [hs] at h'
      obtain ⟨v, A, q1, q2, _⟩ := p.get hs
      exact ⟨v, q1, h' v O F H Ext.refl p q1⟩
  | _ =>
    refine ⟨F, O, s, p, (cov.bind h).imp fun d s1 q v O1 F1 H1 e1 p1 hd => q v O1 F1 H1 e1 p1 ⟨_, rfl, hd⟩⟩
/-- the value of an operation is given back -/
theorem give {Q : VK} {d : D} {F1 H1 : Hp} {O1 : List Addr} {s1 : Env} (h : wantE K F H O σ Q d s1) (e : Ext F H O F1 H1 O1) (p : Pt K F1 O1 s1 σ H1) : ∀ v A F' H', Made K F1 H1 d v A F' H' → Q v H' :=
  fun v A F' H' m => h v A O1 F' H' (e.trans m.ext) (m.wf p.wf) (m.env p.wf p.er) m.r
theorem giveV {Q : VK} {d : D} {F1 H1 : Hp} {O1 : List Addr} {s1 : Env} (h : wantE K F H O σ Q d s1) (e : Ext F H O F1 H1 O1) (p : Pt K F1 O1 s1 σ H1) {v : V} (q : dat K F1 d v) : Q v H1 := give h e p v [] F1 H1 (Made.val p.wf.fh q)

/-! ### lists of operands -/
def tOs (K : Frag) (Z : XS) (W : WX) (Γ : FT) : Es → TA
  | .nil => tNil
  | .cons e r => tCons (tO K Z W e (ev Γ e)) (tOs K Z W Γ r)
def heldL (K : Frag) (F : Hp) (σ : L2.St) : Es → List (Option D) → List V → Prop
  | .nil, _, vs => vs = []
  | .cons e r, os, vs => ∃ o os' v t, os = o :: os' ∧ vs = v :: t ∧ held K F σ e o v ∧ heldL K F σ r os' t
theorem heldL.mono {F1 : Hp} : ∀ {es : Es} {os : List (Option D)} {vs : List V}, heldL K F σ es os vs → Same F F1 → heldL K F1 σ es os vs
  | .nil, _, _, h, _ => h
  | .cons e r, _, _, ⟨o, os', v, t, e1, e2, h1, h2⟩, m => ⟨o, os', v, t, e1, e2, h1.mono m, h2.mono m⟩
theorem heldL.sees : ∀ {es : Es} {os : List (Option D)} {vs : List V} {ds : List D}, heldL K F σ es os vs → Pt K F O s σ H → rdOs es os s = some ds → seesL K F H ds vs
  | .nil, _, _, ds, h, _, e => by cases e; exact h
  | .cons x r, _, _, ds, ⟨o, os', v, t, e1, e2, h1, h2⟩, p, e => by
    subst e1 e2
    simp only [rdOs] at e
    cases q1 : rdO x o s with
    | none => rw [q1] at e; cases e
    | some d =>
      rw [q1] at e
      simp only [Option.bind_some] at e
      cases q2 : rdOs r os' s with
      | none => rw [q2] at e; cases e
      | some dr =>
        rw [q2] at e
        cases e
        exact ⟨v, t, rfl, h1.sees p q1, h2.sees p q2⟩
theorem use_Os {Γ : FT} : ∀ {es : Es} {F H : Hp} {O : List Addr} {s : Env} {Q : List V → Hp → Prop}, Pt K F O s σ H → (cov K Z W F H O σ (evOps Γ es s) fun os s1 => ∀ vs O1 F1 H1, Ext F H O F1 H1 O1 → Pt K F1 O1 s1 σ H1 → heldL K F1 σ es os vs → Q vs H1) → tOs K Z W Γ es σ H Q
  | .nil, F, H, O, s, Q, p, h => (show _ from h) [] O F H Ext.refl p rfl
  | .cons e r, F, H, O, s, Q, p, h => by
    simp only [evOps] at h
    refine use_O p (cov.imp (cov.bind h) fun o s1 h1 v O1 F1 H1 e1 p1 q1 => ?_)
    refine use_Os p1 (cov.imp ((cov.bind h1).ext e1) fun os s2 h2 vs O2 F2 H2 e2 p2 q2 => ?_)
    exact (show _ from h2) (v :: vs) O2 F2 H2 (e1.trans e2) p2 ⟨o, os, v, vs, rfl, rfl, q1.mono e2.fm, q2⟩
/-- items: frozen values -/
def tFs (K : Frag) (Z : XS) (W : WX) (Γ : FT) : Es → TA
  | .nil => tNil
  | .cons e r => tCons (tF K Z W (ev Γ e)) (tFs K Z W Γ r)
theorem use_Fs {Γ : FT} : ∀ {es : Es} {F H : Hp} {O : List Addr} {s : Env} {Q : List V → Hp → Prop}, Pt K F O s σ H → (cov K Z W F H O σ (evs Γ es s) fun ds s1 => ∀ vs O1 F1 H1, Ext F H O F1 H1 O1 → Pt K F1 O1 s1 σ H1 → datL K F1 ds vs → Q vs H1) → tFs K Z W Γ es σ H Q
  | .nil, F, H, O, s, Q, p, h => (show _ from h) [] O F H Ext.refl p rfl
  | .cons e r, F, H, O, s, Q, p, h => by
    simp only [evs] at h
    refine ⟨F, O, s, p, cov.imp (cov.bind h) fun d s1 h1 v O1 F1 H1 e1 p1 q1 => ?_⟩
    refine use_Fs p1 (cov.imp ((cov.bind h1).ext e1) fun ds s2 h2 vs O2 F2 H2 e2 p2 q2 => ?_)
    exact (show _ from h2) (v :: vs) O2 F2 H2 (e1.trans e2) p2 (by simp only [datL]; exact ⟨v, vs, rfl, dat_mono e2.fm _ _ q1, q2⟩)
/-- a def's arguments: frozen, or a name handed on -/
def tA (K : Frag) (Z : XS) (W : WX) (e : E) (f : Env → R D) : TE := match e with
  | .mref i => tVar i
  | _ => tF K Z W f
def tAs (K : Frag) (Z : XS) (W : WX) (Γ : FT) : Es → TA
  | .nil => tNil
  | .cons e r => tCons (tA K Z W e (ev Γ e)) (tAs K Z W Γ r)
def heldA (K : Frag) (F : Hp) (σ : L2.St) (e : E) (o : Option D) (v : V) : Prop := match e with
  | .mref i => σ[i]? = some (some v)
  | _ => ∃ d, o = some d ∧ dat K F d v
theorem heldA.mono {F1 : Hp} {e : E} {o : Option D} {v : V} (h : heldA K F σ e o v) (m : Same F F1) : heldA K F1 σ e o v := by
  cases e with
  | mref i => exact h
  | _ => obtain ⟨d, e, q⟩ := h; exact ⟨d, e, dat_mono m _ _ q⟩
def heldAs (K : Frag) (F : Hp) (σ : L2.St) : Es → List (Option D) → List V → Prop
  | .nil, _, vs => vs = []
  | .cons e r, os, vs => ∃ o os' v t, os = o :: os' ∧ vs = v :: t ∧ heldA K F σ e o v ∧ heldAs K F σ r os' t
theorem use_A {e : E} {f : Env → R D} {Q : VK} (p : Pt K F O s σ H) (h : cov K Z W F H O σ (argOf e f s) fun o s1 => ∀ v O1 F1 H1, Ext F H O F1 H1 O1 → Pt K F1 O1 s1 σ H1 → heldA K F1 σ e o v → Q v H1) : tA K Z W e f σ H Q := by
  cases e with
  | mref i =>
    have h' : cov K Z W F H O σ (match sget s i with
      | some _ => R.ok (none : Option D) s
      | none => .bad) _ := h
    cases hs : sget s i with
    | none => rw [hs] at h'; exact h'.elim
    | some d =>
      rw [hs] at h'
      obtain ⟨v, A, q1, q2, _⟩ := p.get hs
      exact ⟨v, q1, h' v O F H Ext.refl p q1⟩
  | _ =>
    refine ⟨F, O, s, p, (cov.bind h).imp fun d s1 q v O1 F1 H1 e1 p1 hd => q v O1 F1 H1 e1 p1 ⟨_, rfl, hd⟩⟩
theorem use_As {Γ : FT} : ∀ {es : Es} {F H : Hp} {O : List Addr} {s : Env} {Q : List V → Hp → Prop}, Pt K F O s σ H → (cov K Z W F H O σ (evArgs Γ es s) fun os s1 => ∀ vs O1 F1 H1, Ext F H O F1 H1 O1 → Pt K F1 O1 s1 σ H1 → heldAs K F1 σ es os vs → Q vs H1) → tAs K Z W Γ es σ H Q
  | .nil, F, H, O, s, Q, p, h => (show _ from h) [] O F H Ext.refl p rfl
  | .cons e r, F, H, O, s, Q, p, h => by
    simp only [evArgs] at h
    refine use_A p (cov.imp (cov.bind h) fun o s1 h1 v O1 F1 H1 e1 p1 q1 => ?_)
    refine use_As p1 (cov.imp ((cov.bind h1).ext e1) fun os s2 h2 vs O2 F2 H2 e2 p2 q2 => ?_)
    exact (show _ from h2) (v :: vs) O2 F2 H2 (e1.trans e2) p2 ⟨o, os, v, vs, rfl, rfl, q1.mono e2.fm, q2⟩
end
end OM


set_option autoImplicit false
set_option linter.all false
set_option maxRecDepth 100000
/-! S4: the forms of expressions, one by one. -/
namespace OM
open PySem PySem.Spec PyProof.Rows L2
section
variable {K : Frag} {Z : XS} {W : WX} {F H : Hp} {O : List Addr} {σ : L2.St} {s : Env}
theorem wantE.ext {Q : VK} {d : D} {s1 : Env} {F1 H1 : Hp} {O1 : List Addr} (h : wantE K F H O σ Q d s1) (e : Ext F H O F1 H1 O1) : wantE K F1 H1 O1 σ Q d s1 := fun v A O2 F2 H2 e2 w r q => h v A O2 F2 H2 (e.trans e2) w r q
/-- the name's value is frozen -/
theorem Pt.freeze {i : Nat} {d : D} (p : Pt K F O s σ H) (e : sget s i = some d) : ∃ v O1 F1, σ[i]? = some (some v) ∧ Ext F H O F1 H O1 ∧ Pt K F1 O1 (sset s i (some (frz d))) σ H ∧ dat K F1 (frz d) v := by
  obtain ⟨v, A, O', q1, q2, q3, q4⟩ := erep_take p.er e
  have w := p.wf.perm q3
  obtain ⟨n1, n2, n3⟩ := List.nodup_append.mp w.nd
  have sf : Same F (grow F H A) := grow_same fun a z => w.of a (List.mem_append_left _ z)
  have hd : dat K (grow F H A) (frz d) v := frz_dat sf (fun a z => by unfold grow; rw [if_pos z]) q2
  have hi : i < s.length := by
    rcases Nat.lt_or_ge i s.length with h | h
    · exact h
    · exfalso
      have : sget s i = none := by
        clear e q1 q2 q3 q4 hd sf n1 n2 n3 w p
        induction s generalizing i with
        | nil => cases i <;> rfl
        | cons x r ih => cases i with
          | zero => simp at h
          | succ i => exact ih (by simpa using h)
      rw [this] at e; cases e
  have er1 := erep_mono (F' := grow F H A) (H' := H) sf (fun _ _ => rfl) q4
  obtain ⟨O2, r1, r2⟩ := erep_put (rep_of_dat (H := H) hd) er1 hi
  have es : σ.set i (some v) = σ := by
    apply List.ext_getElem?
    intro j
    by_cases hj : i = j
    · subst hj
      rw [List.getElem?_set_self' , q1]
      rfl
    · rw [List.getElem?_set_ne hj]
  rw [es] at r2
  have r1' : O'.Perm O2 := by simpa using r1
  refine ⟨v, O2, grow F H A, q1, ⟨sf, fun a o z _ => z, fun a z => ?_, fun a z => .inl (q3.mem_iff.mpr (List.mem_append_right _ (r1'.mem_iff.mpr z)))⟩, ⟨⟨r1'.nodup_iff.mp n2, grow_fh w.fh, fun a z => ?_, fun a z => w.oh a (List.mem_append_right _ (r1'.mem_iff.mpr z))⟩, r2⟩, hd⟩
  · by_cases ha : a ∈ A
    · exact .inr (.inl (q3.mem_iff.mpr (List.mem_append_left _ ha)))
    · unfold grow at z; rw [if_neg ha] at z; exact .inl z
  · have z' := r1'.mem_iff.mpr z
    unfold grow
    by_cases ha : a ∈ A
    · exact absurd rfl (n3 a ha a z')
    · rw [if_neg ha]; exact w.of a (List.mem_append_right _ z')
theorem tVar_E {i : Nat} {Q : VK} (h : tE K Z W (copyV i) σ H Q) : tVar i σ H Q := by
  obtain ⟨F, O, s, p, h⟩ := h
  unfold copyV at h
  cases hs : sget s i with
  | none => rw [hs] at h; exact h.elim
  | some d =>
    rw [hs] at h
    simp only [] at h
    split at h
    · obtain ⟨v, O1, F1, q1, q2, q3, q4⟩ := p.freeze hs
      exact ⟨v, q1, (show wantE K F H O σ Q _ _ from h) v [] O1 F1 H q2 q3.wf q3.er (rep_of_dat q4)⟩
    · rename_i ho
      obtain ⟨v, A, q1, q2, _⟩ := p.get hs
      obtain ⟨e, q⟩ := rep_nil (by simpa using ho) q2
      exact ⟨v, q1, (show wantE K F H O σ Q _ _ from h) v [] O F H Ext.refl p.wf p.er (rep_of_dat q)⟩
end

section
variable {X : Cx} {Z : XS} {W : WX} {Γ : FT} {a b c : E} {x y z : Expr} {pos : Pos}
abbrev PV (X : Cx) (Z : XS) (W : WX) (Γ : FT) (e : E) (x : Expr) : Prop := PE X x (tE X.K Z W (ev Γ e))
abbrev PO' (X : Cx) (Z : XS) (W : WX) (Γ : FT) (e : E) (x : Expr) : Prop := PE X x (tO X.K Z W e (ev Γ e))
theorem s_F {f : Env → R D} (h : PE X x (tE X.K Z W f)) : PE X x (tF X.K Z W f) := PE.imp h fun _ _ _ q => tF_E q
theorem s_cst {d : D} {v : V} (h : ∀ F, dat X.K F d v) (hx : PE X x (tC v)) : PV X Z W Γ (.cst d) x := PE.imp hx fun σ H Q h' => by
  obtain ⟨F, O, s, p, q⟩ := h'
  simp only [ev] at q
  exact giveV (show wantE X.K F H O σ Q _ _ from q) Ext.refl p (h F)
theorem s_glob {g : Nat} {d : D} {v : V} (h : ∀ F, dat X.K F d v) (hx : PE X x (tC v)) : PV X Z W Γ (.glob g d) x := PE.imp hx fun σ H Q h' => by
  obtain ⟨F, O, s, p, q⟩ := h'
  simp only [ev] at q
  exact giveV (show wantE X.K F H O σ Q _ _ from q) Ext.refl p (h F)
theorem s_bin {op : Bop} (ha : PO' X Z W Γ a x) (hb : PO' X Z W Γ b y) : PV X Z W Γ (.bin op a b) (.BinOp x (opB op) y pos) := PE.imp (pe_op (ok_bop op) ha hb) fun σ H Q h => by
  obtain ⟨F, O, s, p, h⟩ := h
  simp only [ev] at h
  refine use_O p (cov.imp (cov.bind h) fun o s1 h1 v O1 F1 H1 e1 p1 q1 => use_O p1 (cov.imp ((cov.bind h1).ext e1) fun o2 s2 h2 w O2 F2 H2 e2 p2 q2 => ?_))
  split at h2
  · rename_i d1 d2 r1 r2
    obtain ⟨d, e, h3⟩ := cov.lift h2
    exact ⟨F2, _, _, d, p2.wf.fh, (q1.mono e2.fm).sees p2 r1, q2.sees p2 r2, e, give h3 (e1.trans e2) p2⟩
  · exact h2.elim
theorem s_neg (ha : PO' X Z W Γ a x) : PV X Z W Γ (.neg a) (.UnaryOp .USub x pos) := PE.imp (pe_un un_neg ha) fun σ H Q h => by
  obtain ⟨F, O, s, p, h⟩ := h
  simp only [ev] at h
  refine use_O p (cov.imp (cov.bind h) fun o s1 h1 v O1 F1 H1 e1 p1 q1 => ?_)
  split at h1
  · rename_i i r1
    have := q1.sees p1 r1
    rw [sees_int] at this
    exact ⟨i, this, giveV (show wantE X.K F H O σ Q _ _ from h1) e1 p1 (d := .int (-i)) rfl⟩
  · exact h1.elim
theorem s_cmp {k : Nat} {op : Cop} (hr : Room k X.A) (hm : behindInMarks (opC op) y = false) (ha : PO' X Z W Γ a x) (hb : PO' X Z W Γ b y) : PV X Z W Γ (.cmp op a b) (.Compare x [opC op] [y] pos) := PE.imp (pe_cmpR (ok_cop hr op) ha hb hm) fun σ H Q h => by
  obtain ⟨F, O, s, p, h⟩ := h
  simp only [ev] at h
  refine use_O p (cov.imp (cov.bind h) fun o s1 h1 v O1 F1 H1 e1 p1 q1 => use_O p1 (cov.imp ((cov.bind h1).ext e1) fun o2 s2 h2 w O2 F2 H2 e2 p2 q2 => ?_))
  split at h2
  · rename_i d1 d2 r1 r2
    obtain ⟨d, e, h3⟩ := cov.lift h2
    obtain ⟨k, e', rfl⟩ := Option.map_eq_some_iff.mp e
    exact ⟨F2, _, _, k, p2.wf.fh, (q1.mono e2.fm).sees p2 r1, q2.sees p2 r2, e', giveV h3 (e1.trans e2) p2 (d := .bl k) rfl⟩
  · exact h2.elim
/-- the test of a comparison -/
theorem s_cmpT {k : Nat} {op : Cop} (hr : Room k X.A) (hm : behindInMarks (opC op) y = false) (ha : PO' X Z W Γ a x) (hb : PO' X Z W Γ b y) : PT X (.Compare x [opC op] [y] pos) (tT X.K Z W (evT Γ (.v (.cmp op a b)))) := PT.imp (pt_cmpR (ok_cop hr op) ha hb hm) fun σ H Q h => by
  obtain ⟨F, O, s, p, h⟩ := h
  simp only [evT, opd, ev] at h
  have h := cov.bind (cov.bind h)
  refine use_O p (cov.imp (cov.bind h) fun o s1 h1 v O1 F1 H1 e1 p1 q1 => use_O p1 (cov.imp ((cov.bind h1).ext e1) fun o2 s2 h2 w O2 F2 H2 e2 p2 q2 => ?_))
  split at h2
  · rename_i d1 d2 r1 r2
    obtain ⟨d, e, h3⟩ := cov.lift h2
    obtain ⟨k, e', rfl⟩ := Option.map_eq_some_iff.mp e
    exact ⟨F2, _, _, k, p2.wf.fh, (q1.mono e2.fm).sees p2 r1, q2.sees p2 r2, e', k, rfl, (show ∀ O1 F1 H1, Ext F H O F1 H1 O1 → Pt X.K F1 O1 s2 σ H1 → Q k H1 from h3) _ _ _ (e1.trans e2) p2⟩
  · exact h2.elim
theorem s_cmp2 {k : Nat} {o1 o2 : Cop} (hr : Room k X.A) (hm : lastMarks [opC o1, opC o2] [y, z] = false) (ha : PO' X Z W Γ a x) (hb : PO' X Z W Γ b y) (hc : PO' X Z W Γ c z) : PV X Z W Γ (.cmp2 o1 o2 a b c) (.Compare x [opC o1, opC o2] [y, z] pos) :=
  PE.imp (pe_chain (ok_cop hr o1) (ok_cop hr o2) ha hb hc hm) fun σ H Q h => by
  obtain ⟨F, O, s, p, h⟩ := h
  simp only [ev] at h
  refine use_O p (cov.imp (cov.bind h) fun o s1 h1 v O1 F1 H1 e1 p1 q1 => use_O p1 (cov.imp ((cov.bind h1).ext e1) fun o2 s2 h2 w O2 F2 H2 e2 p2 q2 => ?_))
  split at h2
  · rename_i d1 d2 r1 r2
    split at h2
    · rename_i e
      refine ⟨F2, _, _, true, p2.wf.fh, (q1.mono e2.fm).sees p2 r1, q2.sees p2 r2, e, true, rfl, ?_⟩
      rw [if_pos rfl]
      refine use_O p2 (cov.imp ((cov.bind h2).ext (e1.trans e2)) fun o3 s3 h3 u O3 F3 H3 e3 p3 q3 => ?_)
      split at h3
      · rename_i d3 d4 r3 r4
        obtain ⟨d, e, h4⟩ := cov.lift h3
        obtain ⟨k, e', rfl⟩ := Option.map_eq_some_iff.mp e
        exact ⟨F3, _, _, k, p3.wf.fh, (q2.mono e3.fm).sees p3 r3, q3.sees p3 r4, e', giveV h4 ((e1.trans e2).trans e3) p3 (d := .bl k) rfl⟩
      · exact h3.elim
    · rename_i e
      refine ⟨F2, _, _, false, p2.wf.fh, (q1.mono e2.fm).sees p2 r1, q2.sees p2 r2, e, false, rfl, ?_⟩
      rw [if_neg (by decide)]
      exact giveV (show wantE X.K F H O σ Q _ _ from h2) (e1.trans e2) p2 (d := .bl false) rfl
    · exact h2.elim
  · exact h2.elim
theorem s_cmp2T {k : Nat} {o1 o2 : Cop} (hr : Room k X.A) (hm : lastMarks [opC o1, opC o2] [y, z] = false) (ha : PO' X Z W Γ a x) (hb : PO' X Z W Γ b y) (hc : PO' X Z W Γ c z) : PT X (.Compare x [opC o1, opC o2] [y, z] pos) (tT X.K Z W (evT Γ (.v (.cmp2 o1 o2 a b c)))) :=
  PT.imp (pt_chain (ok_cop hr o1) (ok_cop hr o2) ha hb hc hm) fun σ H Q h => by
  obtain ⟨F, O, s, p, h⟩ := h
  simp only [evT, opd, ev] at h
  have h := cov.bind (cov.bind h)
  refine use_O p (cov.imp (cov.bind h) fun o s1 h1 v O1 F1 H1 e1 p1 q1 => use_O p1 (cov.imp ((cov.bind h1).ext e1) fun o2 s2 h2 w O2 F2 H2 e2 p2 q2 => ?_))
  split at h2
  · rename_i d1 d2 r1 r2
    split at h2
    · rename_i e
      refine ⟨F2, _, _, true, p2.wf.fh, (q1.mono e2.fm).sees p2 r1, q2.sees p2 r2, e, true, rfl, ?_⟩
      rw [if_pos rfl]
      refine use_O p2 (cov.imp ((cov.bind h2).ext (e1.trans e2)) fun o3 s3 h3 u O3 F3 H3 e3 p3 q3 => ?_)
      split at h3
      · rename_i d3 d4 r3 r4
        obtain ⟨d, e, h4⟩ := cov.lift h3
        obtain ⟨k, e', rfl⟩ := Option.map_eq_some_iff.mp e
        exact ⟨F3, _, _, k, p3.wf.fh, (q2.mono e3.fm).sees p3 r3, q3.sees p3 r4, e', k, rfl, (show ∀ O1 F1 H1, Ext F H O F1 H1 O1 → Pt X.K F1 O1 s3 σ H1 → Q k H1 from h4) _ _ _ ((e1.trans e2).trans e3) p3⟩
      · exact h3.elim
    · rename_i e
      refine ⟨F2, _, _, false, p2.wf.fh, (q1.mono e2.fm).sees p2 r1, q2.sees p2 r2, e, false, rfl, ?_⟩
      rw [if_neg (by decide)]
      exact ⟨false, rfl, (show ∀ O1 F1 H1, Ext F H O F1 H1 O1 → Pt X.K F1 O1 s2 σ H1 → Q false H1 from h2) _ _ _ (e1.trans e2) p2⟩
    · exact h2.elim
  · exact h2.elim
/-- a value's truth, of a form whose test is its value's -/
theorem s_truth (ha : PO' X Z W Γ a x) (he : ∀ whole, isTrue x X.env whole = (do let v ← whole; standAt x.pos; holding [v] (truthy v))) : PT X x (tT X.K Z W (evT Γ (.v a))) := PT.imp (pt_truth ha he) fun σ H Q h => by
  obtain ⟨F, O, s, p, h⟩ := h
  simp only [evT] at h
  refine use_O p (cov.imp (cov.bind h) fun o s1 h1 v O1 F1 H1 e1 p1 q1 => ?_)
  split at h1
  · rename_i d r
    obtain ⟨k, e, h2⟩ := cov.lift h1
    exact ⟨k, truV_of (q1.sees p1 r) e, h2 _ _ _ e1 p1⟩
  · exact h1.elim
theorem s_not (ha : PO' X Z W Γ a x) : PV X Z W Γ (.not (.v a)) (.UnaryOp .Not x pos) := PE.imp (pe_notT ha) fun σ H Q h => by
  obtain ⟨F, O, s, p, h⟩ := h
  simp only [ev, evT] at h
  have h := cov.bind h
  refine use_O p (cov.imp (cov.bind h) fun o s1 h1 v O1 F1 H1 e1 p1 q1 => ?_)
  split at h1
  · rename_i d r
    obtain ⟨k, e, h2⟩ := cov.lift h1
    exact ⟨k, truV_of (q1.sees p1 r) e, giveV (show wantE X.K F H O σ Q _ _ from h2) e1 p1 (d := .bl (!k)) rfl⟩
  · exact h1.elim
theorem bl_rep {F H : Hp} {b : Bool} {v : V} {A : List Addr} (h : rep X.K F H (.bl b) v A) : A = [] ∧ v = .bl b := h
theorem s_and {r : List Expr} (ha : PV X Z W Γ a x) (hb : PV X Z W Γ b (.BoolOp .And (y :: r) pos)) : PV X Z W Γ (.and a b) (.BoolOp .And (x :: y :: r) pos) := PE.imp (pe_and ha hb) fun σ H Q h => by
  obtain ⟨F, O, s, p, h⟩ := h
  simp only [ev] at h
  refine ⟨F, O, s, p, cov.imp (cov.bind h) fun d s1 h1 v A O1 F1 H1 e1 w1 r1 q1 => ?_⟩
  split at h1
  · obtain ⟨eA, ev⟩ := bl_rep q1
    subst eA ev
    refine ⟨true, rfl, ?_⟩
    rw [if_pos rfl]
    exact ⟨F1, O1, s1, ⟨w1, r1⟩, (h1.ext e1).imp fun d s2 q => wantE.ext q e1⟩
  · obtain ⟨eA, ev⟩ := bl_rep q1
    subst eA ev
    refine ⟨false, rfl, ?_⟩
    rw [if_neg (by decide)]
    exact giveV (show wantE X.K F H O σ Q _ _ from h1) e1 ⟨w1, r1⟩ (d := .bl false) rfl
  · exact h1.elim
theorem s_or {r : List Expr} (ha : PV X Z W Γ a x) (hb : PV X Z W Γ b (.BoolOp .Or (y :: r) pos)) : PV X Z W Γ (.or a b) (.BoolOp .Or (x :: y :: r) pos) := PE.imp (pe_or ha hb) fun σ H Q h => by
  obtain ⟨F, O, s, p, h⟩ := h
  simp only [ev] at h
  refine ⟨F, O, s, p, cov.imp (cov.bind h) fun d s1 h1 v A O1 F1 H1 e1 w1 r1 q1 => ?_⟩
  split at h1
  · obtain ⟨eA, ev⟩ := bl_rep q1
    subst eA ev
    refine ⟨false, rfl, ?_⟩
    rw [if_neg (by decide)]
    exact ⟨F1, O1, s1, ⟨w1, r1⟩, (h1.ext e1).imp fun d s2 q => wantE.ext q e1⟩
  · obtain ⟨eA, ev⟩ := bl_rep q1
    subst eA ev
    refine ⟨true, rfl, ?_⟩
    rw [if_pos rfl]
    exact giveV (show wantE X.K F H O σ Q _ _ from h1) e1 ⟨w1, r1⟩ (d := .bl true) rfl
  · exact h1.elim
theorem s_ite {t : T} (hc : PT X z (tT X.K Z W (evT Γ t))) (ha : PV X Z W Γ a x) (hb : PV X Z W Γ b y) : PV X Z W Γ (.ite t a b) (.IfExp z x y pos) := PE.imp (pe_ifExp hc ha hb) fun σ H Q h => by
  obtain ⟨F, O, s, p, h⟩ := h
  simp only [ev] at h
  refine ⟨F, O, s, p, cov.imp (cov.bind h) fun d s1 h1 O1 F1 H1 e1 p1 => ?_⟩
  cases d with
  | true =>
    rw [if_pos rfl] at h1 ⊢
    exact ⟨F1, O1, s1, p1, (h1.ext e1).imp fun d s2 q => wantE.ext q e1⟩
  | false =>
    rw [if_neg (by decide)] at h1 ⊢
    exact ⟨F1, O1, s1, p1, (h1.ext e1).imp fun d s2 q => wantE.ext q e1⟩
theorem s_ix {k : Nat} (hr : Room k X.A) (hs : PlainIx y) (ha : PO' X Z W Γ a x) (hb : PO' X Z W Γ b y) : PV X Z W Γ (.ix a b) (.Subscript x y pos) := PE.imp (pe_ix (ok_ix hr) ha hb hs) fun σ H Q h => by
  obtain ⟨F, O, s, p, h⟩ := h
  simp only [ev] at h
  refine use_O p (cov.imp (cov.bind h) fun o s1 h1 v O1 F1 H1 e1 p1 q1 => use_O p1 (cov.imp ((cov.bind h1).ext e1) fun o2 s2 h2 w O2 F2 H2 e2 p2 q2 => ?_))
  split at h2
  · rename_i d1 d2 r1 r2
    obtain ⟨d, e, h3⟩ := cov.lift h2
    exact ⟨F2, _, _, d, p2.wf.fh, (q1.mono e2.fm).sees p2 r1, q2.sees p2 r2, e, give h3 (e1.trans e2) p2⟩
  · exact h2.elim
theorem s_slL {p2 : Pos} (ha : PO' X Z W Γ a x) (hb : PO' X Z W Γ b y) : PV X Z W Γ (.slL a b) (.Subscript x (.Slice (some y) none none p2) pos) := PE.imp (pe_slice ok_sl ha (po_some hb) po_none) fun σ H Q h => by
  obtain ⟨F, O, s, p, h⟩ := h
  simp only [ev] at h
  refine use_O p (cov.imp (cov.bind h) fun o s1 h1 v O1 F1 H1 e1 p1 q1 => use_O p1 (cov.imp ((cov.bind h1).ext e1) fun o2 s2 h2 w O2 F2 H2 e2 p2 q2 => ?_))
  split at h2
  · rename_i d1 l r1 r2
    obtain ⟨d, e, h3⟩ := cov.lift h2
    have hw := q2.sees p2 r2
    rw [sees_int] at hw
    exact ⟨l, hw, F2, _, d, p2.wf.fh, (q1.mono e2.fm).sees p2 r1, e, give h3 (e1.trans e2) p2⟩
  · exact h2.elim
theorem s_slH {p2 : Pos} (ha : PO' X Z W Γ a x) (hb : PO' X Z W Γ b y) : PV X Z W Γ (.slH a b) (.Subscript x (.Slice none (some y) none p2) pos) := PE.imp (pe_slice ok_sl ha po_none (po_some hb)) fun σ H Q h => by
  obtain ⟨F, O, s, p, h⟩ := h
  simp only [ev] at h
  refine use_O p (cov.imp (cov.bind h) fun o s1 h1 v O1 F1 H1 e1 p1 q1 => use_O p1 (cov.imp ((cov.bind h1).ext e1) fun o2 s2 h2 w O2 F2 H2 e2 p2 q2 => ?_))
  split at h2
  · rename_i d1 l r1 r2
    obtain ⟨d, e, h3⟩ := cov.lift h2
    have hw := q2.sees p2 r2
    rw [sees_int] at hw
    exact ⟨l, hw, F2, _, d, p2.wf.fh, (q1.mono e2.fm).sees p2 r1, e, give h3 (e1.trans e2) p2⟩
  · exact h2.elim
theorem s_slB {p2 : Pos} (ha : PO' X Z W Γ a x) (hb : PO' X Z W Γ b y) (hc : PO' X Z W Γ c z) : PV X Z W Γ (.slB a b c) (.Subscript x (.Slice (some y) (some z) none p2) pos) := PE.imp (pe_slice ok_sl ha (po_some hb) (po_some hc)) fun σ H Q h => by
  obtain ⟨F, O, s, p, h⟩ := h
  simp only [ev] at h
  refine use_O p (cov.imp (cov.bind h) fun o s1 h1 v O1 F1 H1 e1 p1 q1 => use_O p1 (cov.imp ((cov.bind h1).ext e1) fun o2 s2 h2 w O2 F2 H2 e2 p2 q2 => ?_))
  split at h2
  · rename_i l r2
    have hw := q2.sees p2 r2
    rw [sees_int] at hw
    refine ⟨l, hw, use_O p2 (cov.imp ((cov.bind h2).ext (e1.trans e2)) fun o3 s3 h3 u O3 F3 H3 e3 p3 q3 => ?_)⟩
    split at h3
    · rename_i d1 l2 r1 r3
      obtain ⟨d, e, h4⟩ := cov.lift h3
      have hu := q3.sees p3 r3
      rw [sees_int] at hu
      exact ⟨l2, hu, F3, _, d, p3.wf.fh, (q1.mono (e2.fm.trans e3.fm)).sees p3 r1, e, give h4 ((e1.trans e2).trans e3) p3⟩
    · exact h3.elim
  · exact h2.elim
theorem s_slR {k : Nat} {p1 p2 p3 : Pos} (ha : PO' X Z W Γ a x) : PV X Z W Γ (.slR a) (.Subscript x (.Slice none none (some (.UnaryOp .USub (.Constant (.int 1) k p1) p2)) p3) pos) := PE.imp (pe_revL ha) fun σ H Q h => by
  obtain ⟨F, O, s, p, h⟩ := h
  simp only [ev] at h
  refine use_O p (cov.imp (cov.bind h) fun o s1 h1 v O1 F1 H1 e1 p1 q1 => ?_)
  split at h1
  · rename_i d ow xs r
    obtain ⟨b, vs, eb, hb, hl⟩ := q1.sees p1 r
    exact ⟨b, vs, eb, .inl (.inl hb), fun q hq => give (show wantE X.K F H O σ Q _ _ from h1) e1 p1 _ _ _ _ (Made.lst p1.wf.fh hq (datL_rev hl))⟩
  · exact h1.elim
theorem s_tup {es : Es} {xs : List Expr} {k : Nat} (hl : ∀ ds s s1, evs Γ es s = .ok ds s1 → ds.length ≤ sizeLine) (h : PA X xs (tFs X.K Z W Γ es)) : PV X Z W Γ (.tup es) (.Tuple xs k pos) := PE.imp (pe_tup h) fun σ H Q h => by
  obtain ⟨F, O, s, p, h⟩ := h
  simp only [ev] at h
  have h := cov.bind h
  cases he : evs Γ es s with
  | bad => rw [he] at h; exact h.elim
  | exc x s1 =>
    refine use_Fs p ?_
    rw [he] at h ⊢
    exact h
  | ok ds s1 =>
    refine use_Fs p ?_
    rw [he] at h ⊢
    intro vs O1 F1 H1 e1 p1 q1
    refine ⟨by rw [← datL_len q1]; exact hl _ _ _ he, fun q hq => give (show wantE X.K F H O σ Q _ _ from h) e1 p1 _ _ _ _ (Made.tup p1.wf.fh hq q1)⟩
theorem s_lst {es : Es} {xs : List Expr} (hl : ∀ ds s s1, evs Γ es s = .ok ds s1 → ds.length ≤ sizeLine) (h : PA X xs (tFs X.K Z W Γ es)) : PV X Z W Γ (.lst es) (.List xs pos) := PE.imp (pe_lst h) fun σ H Q h => by
  obtain ⟨F, O, s, p, h⟩ := h
  simp only [ev] at h
  have h := cov.bind h
  cases he : evs Γ es s with
  | bad => rw [he] at h; exact h.elim
  | exc x s1 =>
    refine use_Fs p ?_
    rw [he] at h ⊢
    exact h
  | ok ds s1 =>
    refine use_Fs p ?_
    rw [he] at h ⊢
    intro vs O1 F1 H1 e1 p1 q1
    refine ⟨by rw [← datL_len q1]; exact hl _ _ _ he, fun q hq => give (show wantE X.K F H O σ Q _ _ from h) e1 p1 _ _ _ _ (Made.lst p1.wf.fh hq q1)⟩
theorem s_dnewK : PV X Z W Γ (.dnew false) (.Dict [] [] pos) := PE.imp pe_dnewK fun σ H Q h => by
  obtain ⟨F, O, s, p, h⟩ := h
  simp only [ev] at h
  exact fun q hq => give (show wantE X.K F H O σ Q _ _ from h) Ext.refl p _ _ _ _ (Made.dK p.wf.fh hq (by simp [datK]))
theorem s_dnewT : PV X Z W Γ (.dnew true) (.Dict [] [] pos) := PE.imp pe_dnewT fun σ H Q h => by
  obtain ⟨F, O, s, p, h⟩ := h
  simp only [ev] at h
  exact fun q hq => give (show wantE X.K F H O σ Q _ _ from h) Ext.refl p _ _ _ _ (Made.dT p.wf.fh hq (by simp [datT]))
/-- a built-in called by values -/
theorem use_bn {f : Bn} {es : Es} {σ : L2.St} {H : Hp} {Q : VK} (h : tE X.K Z W (ev Γ (.b f es)) σ H Q) : tCB (rBn X.K f) (tOs X.K Z W Γ es) σ H Q := by
  obtain ⟨F, O, s, p, h⟩ := h
  simp only [ev] at h
  refine use_Os p (cov.imp (cov.bind h) fun os s1 h1 vs O1 F1 H1 e1 p1 q1 => ?_)
  split at h1
  · rename_i ds r
    obtain ⟨d, e, h2⟩ := cov.lift h1
    exact ⟨F1, ds, d, p1.wf.fh, q1.sees p1 r, e, give h2 e1 p1⟩
  · exact h1.elim
end
/-! ### what a name owns is changed in place -/
section
variable {K : Frag} {F H : Hp} {O : List Addr} {s : Env} {σ : L2.St}
theorem sget_lt : ∀ {s : Env} {i : Nat} {d : D}, sget s i = some d → i < s.length
  | [], i, d, e => by cases i <;> cases e
  | _ :: _, 0, _, _ => Nat.zero_lt_succ _
  | _ :: r, i + 1, d, e => Nat.succ_lt_succ (sget_lt (s := r) e)
theorem set_same {σ : L2.St} {i : Nat} {v : V} (h : σ[i]? = some (some v)) : σ.set i (some v) = σ := by
  apply List.ext_getElem?
  intro j
  by_cases hj : i = j
  · subst hj
    rw [List.getElem?_set_self', h]
    rfl
  · rw [List.getElem?_set_ne hj]
theorem sset_sset : ∀ (s : Env) (i : Nat) (a b : Option D), sset (sset s i a) i b = sset s i b
  | [], _, _, _ => rfl
  | _ :: _, 0, _, _ => rfl
  | x :: r, i + 1, a, b => by simp only [sset]; rw [sset_sset r i a b]
/-- the object of a name that owns is rewritten -/
theorem Pt.rewrite {i : Nat} {d d' : D} {a : Addr} {o : HO} (p : Pt K F O s σ H) (e : sget s i = some d) (v : V) (hv : σ[i]? = some (some v)) (hown : ∀ A, rep K F H d v A → A = [a]) (hd : rep K F (upd H a o) d' v [a]) :
    ∃ O', Ext F H O F (upd H a o) O' ∧ Pt K F O' (sset s i (some d')) σ (upd H a o) := by
  obtain ⟨v', A, O1, q1, q2, q3, q4⟩ := erep_take p.er e
  rw [hv] at q1; cases q1
  have eA := hown A q2
  subst eA
  have w := p.wf.perm q3
  obtain ⟨n1, n2, n3⟩ := List.nodup_append.mp w.nd
  have ha : F a = none := w.of a (List.mem_append_left _ (List.mem_singleton.mpr rfl))
  have er1 : erep K F (upd H a o) (sset s i none) σ O1 := erep_mono (Same.refl _) (fun b z => upd_ne fun eb => n3 a (List.mem_singleton.mpr rfl) b z eb.symm) q4
  obtain ⟨O2, r1, r2⟩ := erep_put hd er1 (sget_lt e)
  rw [set_same hv] at r2
  have pm : O.Perm O2 := q3.trans r1
  refine ⟨O2, ⟨Same.refl _, fun b ob z nb => ?_, fun b z => .inl z, fun b z => .inl (pm.mem_iff.mpr z)⟩, ⟨⟨pm.nodup_iff.mp p.wf.nd, fun b ob z => ?_, fun b z => p.wf.of b (pm.mem_iff.mpr z), fun b z => ?_⟩, r2⟩⟩
  · rw [upd_ne]
    · exact z
    · intro eb; exact nb (by rw [eb]; exact q3.mem_iff.mpr (List.mem_append_left _ (List.mem_singleton.mpr rfl)))
  · rw [upd_ne]
    · exact p.wf.fh b ob z
    · intro eb; rw [eb, ha] at z; cases z
  · by_cases eb : b = a
    · rw [eb, upd_same]; simp
    · rw [upd_ne eb]; exact p.wf.oh b (pm.mem_iff.mpr z)
theorem Pt.lstAt {i : Nat} {xs : List D} (p : Pt K F O s σ H) (e : lstAt i s = some xs) : ∃ a vs, σ[i]? = some (some (.ref a)) ∧ H a = some (.lst vs) ∧ datL K F xs vs ∧
    ∀ ys us, datL K F ys us → ∃ O', Ext F H O F (upd H a (.lst us)) O' ∧ Pt K F O' (sset s i (some (.lst true ys))) σ (upd H a (.lst us)) := by
  unfold OM.lstAt at e
  split at e
  · rename_i xs' hs
    cases e
    obtain ⟨v, A, q1, q2, _⟩ := p.get hs
    obtain ⟨a, vs, ev, eA, h1, h2⟩ := q2
    subst ev
    exact ⟨a, vs, q1, h1, h2, fun ys us hu => p.rewrite hs _ q1 (fun A' ⟨a', vs', e1, e2, _⟩ => by cases e1; exact e2) ⟨a, us, rfl, rfl, upd_same, hu⟩⟩
  · cases e
theorem seqIx {n : Nat} {i : Int} (h : ixOf n i < n) : seqIndex? i n = some (ixOf n i) ∧ -(2 ^ 63) ≤ i ∨ ¬ n ≤ 2 ^ 62 := by
  unfold seqIndex?
  unfold ixOf at h ⊢
  simp only []
  by_cases hn : n ≤ 2 ^ 62
  · left
    by_cases h0 : i < 0
    · rw [if_pos h0] at h ⊢
      by_cases h1 : i + n < 0
      · rw [if_pos h1] at h; omega
      · rw [if_neg h1] at h ⊢
        rw [if_pos h0, if_pos (by simp; omega)]
        exact ⟨rfl, by omega⟩
    · rw [if_neg h0] at h ⊢
      rw [if_neg h0, if_pos (by simp; omega)]
      exact ⟨rfl, by omega⟩
  · exact .inr hn
end
section
variable {X : Cx} {Z : XS} {W : WX} {Γ : FT} {p : Nat} {e : E} {x o : Expr} {apos cpos : Pos}
theorem list_ty {K : Frag} {H : Hp} {a : Addr} {vs : List V} (h : H a = some (.lst vs)) : tyV K "list" (.ref a) H := .inl ⟨rfl, vs, .inl (.inl h)⟩
theorem s_app (hN : PE X o (tVar p)) (hb : attributeBase o "append" X.env (eval o X.env) = eval o X.env) (hl : (apos.endLine == cpos.line) = true) (hs : starEach [x] X.env = (false, eval x X.env) :: starEach [] X.env)
    (hx : PV X Z W Γ e x) : PV X Z W Γ (.app p e) (.Call (.Attribute o "append" apos) [x] [] cpos) :=
  PE.imp (pe_bm F.plainAttrs_list F.slot_list_append F.type_list_append (fun pins s σ H x xs v us Q => mt_append pins s σ H x xs v us Q) hN (pa_cons (s_F hx) pa_nil hs) hb (by rw [hs]; rfl) hl hs rfl) fun σ H Q h => by
  obtain ⟨F, O, s, pt, h⟩ := h
  simp only [ev] at h
  split at h
  · exact h.elim
  · rename_i xs hp
    obtain ⟨a, vs, q1, q2, q3, q4⟩ := pt.lstAt hp
    refine ⟨.ref a, q1, list_ty q2, F, O, s, pt, cov.imp (cov.bind h) fun d s1 h1 v O1 F1 H1 e1 p1 hd => ?_⟩
    split at h1
    · rename_i xs1 hp1
      obtain ⟨a1, vs1, r1, r2, r3, r4⟩ := p1.lstAt hp1
      rw [q1] at r1; cases r1
      split at h1
      · rename_i hlen
        obtain ⟨O2, e2, p2⟩ := r4 (xs1 ++ [frz d]) (vs1 ++ [v]) (datL_app r3 (by simp only [datL]; exact ⟨v, [], rfl, hd, rfl⟩))
        exact ⟨a, vs1, v, rfl, rfl, r2, by rw [← datL_len r3]; exact hlen, giveV (show wantE X.K F H O σ Q _ _ from h1) (e1.trans e2) p2 (d := .non) rfl⟩
      · exact h1.elim
    · exact h1.elim
theorem s_ext (hN : PE X o (tVar p)) (hb : attributeBase o "extend" X.env (eval o X.env) = eval o X.env) (hl : (apos.endLine == cpos.line) = true) (hs : starEach [x] X.env = (false, eval x X.env) :: starEach [] X.env)
    (hx : PO' X Z W Γ e x) : PV X Z W Γ (.ext p e) (.Call (.Attribute o "extend" apos) [x] [] cpos) :=
  PE.imp (pe_bm F.plainAttrs_list F.slot_list_extend F.type_list_extend (fun pins s σ H x xs v us Q => mt_extend pins s σ H x xs v us Q) hN (pa_cons hx pa_nil hs) hb (by rw [hs]; rfl) hl hs rfl) fun σ H Q h => by
  obtain ⟨F, O, s, pt, h⟩ := h
  simp only [ev] at h
  split at h
  · exact h.elim
  · rename_i xs hp
    obtain ⟨a, vs, q1, q2, q3, q4⟩ := pt.lstAt hp
    refine ⟨.ref a, q1, list_ty q2, use_O pt (cov.imp (cov.bind h) fun d s1 h1 v O1 F1 H1 e1 p1 hd => ?_)⟩
    split at h1
    · rename_i ow ys xs1 hy hp1
      obtain ⟨a1, vs1, r1, r2, r3, r4⟩ := p1.lstAt hp1
      rw [q1] at r1; cases r1
      obtain ⟨b, us, eb, hb, hu⟩ := hd.sees p1 hy
      split at h1
      · rename_i hlen
        obtain ⟨O2, e2, p2⟩ := r4 (xs1 ++ ys) (vs1 ++ us) (datL_app r3 hu)
        exact ⟨a, b, vs1, us, rfl, by rw [eb], r2, hb, by rw [← datL_len r3, ← datL_len hu]; exact hlen, giveV (show wantE X.K F H O σ Q _ _ from h1) (e1.trans e2) p2 (d := .non) rfl⟩
      · exact h1.elim
    · exact h1.elim
theorem s_pop (hN : PE X o (tVar p)) (hb : attributeBase o "pop" X.env (eval o X.env) = eval o X.env) (hl : (apos.endLine == cpos.line) = true) : PV X Z W Γ (.pop p) (.Call (.Attribute o "pop" apos) [] [] cpos) :=
  PE.imp (pe_bm0 F.plainAttrs_list F.slot_list_pop F.type_list_pop (fun pins s σ H x xs v us Q => mt_pop pins s σ H x xs v us Q) hN hb hl) fun σ H Q h => by
  obtain ⟨F, O, s, pt, h⟩ := h
  simp only [ev] at h
  split at h
  · rename_i xs hp
    obtain ⟨a, vs, q1, q2, q3, q4⟩ := pt.lstAt hp
    split at h
    · rename_i d hd
      rw [List.getLast?_eq_getElem?] at hd
      obtain ⟨v, hv, hdv⟩ := datL_get q3 hd
      rw [datL_len q3] at hv
      have e1 : xs.dropLast = xs.take (xs.length - 1) := by rw [List.dropLast_eq_take]
      have e2 : vs.dropLast = vs.take (xs.length - 1) := by rw [List.dropLast_eq_take, datL_len q3]
      obtain ⟨O2, x2, p2⟩ := q4 xs.dropLast vs.dropLast (by rw [e1, e2]; exact datL_take _ q3)
      exact ⟨.ref a, q1, list_ty q2, a, vs, v, rfl, rfl, q2, hv, giveV (show wantE X.K F H O σ Q _ _ from h) x2 p2 hdv⟩
    · exact h.elim
  · exact h.elim
theorem s_popAt (hN : PE X o (tVar p)) (hb : attributeBase o "pop" X.env (eval o X.env) = eval o X.env) (hl : (apos.endLine == cpos.line) = true) (hs : starEach [x] X.env = (false, eval x X.env) :: starEach [] X.env)
    (hx : PO' X Z W Γ e x) : PV X Z W Γ (.popAt p e) (.Call (.Attribute o "pop" apos) [x] [] cpos) := by
  refine PE.imp (pe_bm F.plainAttrs_list F.slot_list_pop F.type_list_pop (fun pins s σ H x xs v us Q => mt_popAt pins s σ H x xs v us Q) hN (pa_cons hx pa_nil hs) hb (by rw [hs]; rfl) hl hs rfl) fun σ H Q h => ?_
  obtain ⟨F, O, s, pt, h⟩ := h
  simp only [ev] at h
  split at h
  · exact h.elim
  · rename_i xs hp
    obtain ⟨a, vs, q1, q2, q3, q4⟩ := pt.lstAt hp
    refine ⟨.ref a, q1, list_ty q2, use_O pt (cov.imp (cov.bind h) fun d s1 h1 v O1 F1 H1 e1 p1 hd => ?_)⟩
    split at h1
    · rename_i i xs1 hy hp1
      obtain ⟨a1, vs1, r1, r2, r3, r4⟩ := p1.lstAt hp1
      rw [q1] at r1; cases r1
      have hv := hd.sees p1 hy
      rw [sees_int] at hv
      split at h1
      · rename_i hm
        split at h1
        · rename_i dx hx1
          obtain ⟨y, hy1, hdy⟩ := datL_get r3 hx1
          have hlt : ixOf xs1.length i < xs1.length := by
            rcases Nat.lt_or_ge (ixOf xs1.length i) xs1.length with h | h
            · exact h
            · rw [List.getElem?_eq_none h] at hx1; cases hx1
          obtain ⟨O2, e2, p2⟩ := r4 (xs1.eraseIdx (ixOf xs1.length i)) (vs1.eraseIdx (ixOf xs1.length i)) (datL_erase _ r3)
          have hn : xs1.length ≤ 2 ^ 62 := Nat.le_trans hm (by decide)
          rcases seqIx (i := i) hlt with ⟨k1, k2⟩ | k
          · refine ⟨a, vs1, i, _, y, rfl, by rw [hv], r2, k2, ?_, by rw [← datL_len r3]; exact k1, hy1, giveV (show wantE X.K F H O σ Q _ _ from h1) (e1.trans e2) p2 hdy⟩
            unfold ixOf at hlt
            split at hlt <;> omega
          · exact absurd hn k
        · exact h1.elim
      · exact h1.elim
    · exact h1.elim
end
end OM


set_option autoImplicit false
set_option linter.all false
set_option maxRecDepth 100000
/-! S5: calls of the program's own defs. -/
namespace OM
open PySem PySem.Spec PyProof.Rows L2

/-- the promise of a def: φ answers as the interpreter does -/
def spF (K : Frag) (Z : XS) (fd : FDef) (φ : List D → CR) : Sp := fun vs H Q E => vs.length = fd.np ∧ ∃ F O ds, Wf F H O ∧ erep K F H (ds.map some) (vs.map some) O ∧ match φ ds with
  | .ok d outs => ∀ v A O1 F1 H1, Ext F H O F1 H1 (A ++ O1) → Wf F1 H1 (A ++ O1) → rep K F1 H1 d v A → erep K F1 H1 (outs.map some) (fd.mp.map fun i => vs[i]?) O1 → Q v H1
  | .exc x outs => ∀ cls dd O1 F1 H1, Ext F H O F1 H1 O1 → Wf F1 H1 O1 → erep K F1 H1 (outs.map some) (fd.mp.map fun i => vs[i]?) O1 → Z F1 x cls dd H1 → E cls dd H1
  | .bad => False

section
variable {K : Frag} {F H F1 H1 : Hp} {O O' O1 : List Addr}
theorem frame (w : Wf F H (O ++ O')) (e : Ext F H O F1 H1 O1) (w1 : Wf F1 H1 O1) : Wf F1 H1 (O1 ++ O') ∧ Ext F H (O ++ O') F1 H1 (O1 ++ O') ∧ ∀ a ∈ O', H1 a = H a := by
  obtain ⟨n1, n2, n3⟩ := List.nodup_append.mp w.nd
  have hk : ∀ a ∈ O', H1 a = H a := fun a z => by
    cases h : H a with
    | none => exact absurd h (w.oh a (List.mem_append_right _ z))
    | some o => exact e.keep a o h fun y => n3 a y a z rfl
  refine ⟨⟨List.nodup_append.mpr ⟨w1.nd, n2, fun a ha b hb eb => ?_⟩, w1.fh, fun a z => ?_, fun a z => ?_⟩, ⟨e.fm, fun a o h na => e.keep a o h fun y => na (List.mem_append_left _ y), fun a z => ?_, fun a z => ?_⟩, hk⟩
  · subst eb
    rcases e.onew a ha with y | y
    · exact n3 a y a hb rfl
    · exact w.oh a (List.mem_append_right _ hb) y
  · rcases List.mem_append.mp z with z | z
    · exact w1.of a z
    · cases h : F1 a with
      | none => rfl
      | some o =>
        rcases e.fnew a (by rw [h]; simp) with y | y | y
        · exact absurd (w.of a (List.mem_append_right _ z)) y
        · exact absurd rfl (n3 a y a z)
        · exact absurd y (w.oh a (List.mem_append_right _ z))
  · rcases List.mem_append.mp z with z | z
    · exact w1.oh a z
    · rw [hk a z]; exact w.oh a (List.mem_append_right _ z)
  · rcases e.fnew a z with y | y | y
    · exact .inl y
    · exact .inr (.inl (List.mem_append_left _ y))
    · exact .inr (.inr y)
  · rcases List.mem_append.mp z with z | z
    · rcases e.onew a z with y | y
      · exact .inl (List.mem_append_left _ y)
      · exact .inr y
    · exact .inl (List.mem_append_right _ z)
end

theorem sget_sset : ∀ (s : Env) (i j : Nat) (d : Option D), i ≠ j → sget (sset s i d) j = sget s j
  | [], _, _, _, _ => rfl
  | _ :: _, 0, 0, _, h => absurd rfl h
  | _ :: _, 0, _ + 1, _, _ => rfl
  | _ :: _, _ + 1, 0, _, _ => rfl
  | _ :: r, i + 1, j + 1, d, h => sget_sset r i j d fun e => h (by rw [e])
theorem sset_comm : ∀ (s : Env) (i j : Nat) (a b : Option D), i ≠ j → sset (sset s i a) j b = sset (sset s j b) i a
  | [], _, _, _, _, _ => rfl
  | _ :: _, 0, 0, _, _, h => absurd rfl h
  | _ :: _, 0, _ + 1, _, _, _ => rfl
  | _ :: _, _ + 1, 0, _, _, _ => rfl
  | x :: r, i + 1, j + 1, a, b, h => by simp only [sset]; rw [sset_comm r i j a b fun e => h (by rw [e])]
theorem sset_len : ∀ (s : Env) (i : Nat) (d : Option D), (sset s i d).length = s.length
  | [], _, _ => rfl
  | _ :: _, 0, _ => rfl
  | _ :: r, i + 1, d => by simp only [sset, List.length_cons]; rw [sset_len r i d]
/-- the slots of the names handed on are taken out -/
def clr (s : Env) : List Nat → Env
  | [] => s
  | i :: r => clr (sset s i none) r
theorem clr_len : ∀ (is : List Nat) (s : Env), (clr s is).length = s.length
  | [], _ => rfl
  | i :: r, s => by simp only [clr]; rw [clr_len r, sset_len]
theorem clr_sset : ∀ (is : List Nat) (s : Env) (i : Nat) (d : Option D), i ∉ is → clr (sset s i d) is = sset (clr s is) i d
  | [], _, _, _, _ => rfl
  | j :: r, s, i, d, h => by
    simp only [List.mem_cons, not_or] at h
    simp only [clr]
    rw [sset_comm s i j d none h.1, clr_sset r _ i d h.2]
theorem argD_sset : ∀ (es : Es) (os : List (Option D)) (s : Env) (i : Nat) (d : Option D), i ∉ mrefs es → argD es os (sset s i d) = argD es os s
  | .nil, _, _, _, _, _ => by simp only [argD]
  | .cons e r, [], s, i, d, h => by cases e <;> simp only [argD]
  | .cons e r, o :: os, s, i, d, h => by
    cases e with
    | mref j =>
      simp only [mrefs, List.mem_cons, not_or] at h
      simp only [argD]
      rw [sget_sset s i j d h.1, argD_sset r os s i d h.2]
    | _ =>
      cases o with
      | none => simp only [argD]
      | some x =>
        simp only [argD]
        rw [argD_sset r os s i d (by simpa [mrefs] using h)]
section
variable {K : Frag} {F H : Hp} {σ : L2.St}
theorem take_args : ∀ {es : Es} {os : List (Option D)} {vs : List V} {ds : List D} {s : Env} {O : List Addr}, heldAs K F σ es os vs → erep K F H s σ O → argD es os s = some ds → (mrefs es).Nodup →
    ∃ Oa Or, O.Perm (Oa ++ Or) ∧ erep K F H (ds.map some) (vs.map some) Oa ∧ erep K F H (clr s (mrefs es)) σ Or
  | .nil, os, vs, ds, s, O, h, er, e, _ => by
    simp only [argD] at e
    cases e
    rw [show vs = [] from h]
    exact ⟨[], O, List.Perm.refl _, ⟨rfl, rfl⟩, er⟩
  | .cons x r, os, vs, ds, s, O, h, er, e, hn => by
    obtain ⟨o, os', v, t, e1, e2, h1, h2⟩ := h
    subst e1 e2
    have copy : (∃ d, o = some d ∧ dat K F d v) → (argD (.cons x r) (o :: os') s = o.bind fun d => (argD r os' s).map (d :: ·)) → mrefs (.cons x r) = mrefs r → ∃ Oa Or, O.Perm (Oa ++ Or) ∧ erep K F H (ds.map some) ((v :: t).map some) Oa ∧ erep K F H (clr s (mrefs (.cons x r))) σ Or := by
      rintro ⟨d, eo, hd⟩ ea em
      rw [ea, eo, Option.bind_some] at e
      obtain ⟨dr, er2, ed⟩ := Option.map_eq_some_iff.mp e
      subst ed
      rw [em] at hn ⊢
      obtain ⟨Oa, Or, q1, q2, q3⟩ := take_args h2 er er2 hn
      exact ⟨Oa, Or, q1, ⟨v, _, [], Oa, rfl, rfl, rep_of_dat hd, q2⟩, q3⟩
    cases x with
    | mref i =>
      simp only [argD] at e
      cases hs : sget s i with
      | none => rw [hs] at e; cases e
      | some d =>
        rw [hs, Option.bind_some] at e
        obtain ⟨dr, er2, ed⟩ := Option.map_eq_some_iff.mp e
        subst ed
        simp only [mrefs, List.nodup_cons] at hn
        obtain ⟨v', A, O', q1, q2, q3, q4⟩ := erep_take er hs
        rw [show σ[i]? = some (some v) from h1] at q1
        cases q1
        rw [← argD_sset r os' s i none hn.1] at er2
        obtain ⟨Oa, Or, r1, r2, r3⟩ := take_args h2 q4 er2 hn.2
        refine ⟨A ++ Oa, Or, ?_, ⟨v, _, A, Oa, rfl, rfl, q2, r2⟩, r3⟩
        rw [List.append_assoc]
        exact q3.trans (List.Perm.append_left A r1)
    | _ => exact copy h1 (by cases o <;> simp only [argD, Option.bind_none, Option.bind_some]) rfl
theorem put_outs : ∀ {ms : List Nat} {outs : List D} {s s2 : Env} {O1 Or : List Addr}, erep K F H (outs.map some) (ms.map fun i => σ[i]?.join) O1 → (∀ i ∈ ms, ∃ v, σ[i]? = some (some v)) → erep K F H (clr s ms) σ Or → setOuts ms outs s = some s2 → ms.Nodup →
    ∃ O2, (O1 ++ Or).Perm O2 ∧ erep K F H s2 σ O2
  | [], [], s, s2, O1, Or, ho, _, er, e, _ => by
    simp only [setOuts] at e
    cases e
    obtain ⟨_, e1⟩ := ho
    rw [e1]
    exact ⟨Or, List.Perm.refl _, er⟩
  | [], _ :: _, _, _, _, _, _, _, _, e, _ => by simp only [setOuts] at e; cases e
  | _ :: _, [], _, _, _, _, _, _, _, e, _ => by simp only [setOuts] at e; cases e
  | i :: is, d :: ds, s, s2, O1, Or, ho, hv, er, e, hn => by
    simp only [setOuts] at e
    obtain ⟨v, r, A, O', e1, e2, h1, h2⟩ := ho
    obtain ⟨w, hw⟩ := hv i List.mem_cons_self
    have e1' : σ[i]?.join = some v := (List.cons.inj e1).1
    rw [hw] at e1'
    have evw : w = v := by simpa using e1'
    subst evw
    have hr : is.map (fun i => σ[i]?.join) = r := (List.cons.inj e1).2
    simp only [List.nodup_cons] at hn
    simp only [clr] at er
    rw [clr_sset is s i none hn.1] at er
    have hi : i < (clr s is).length := by
      have q := erep_len er
      rw [sset_len] at q
      rw [← q]
      rcases Nat.lt_or_ge i σ.length with h | h
      · exact h
      · rw [List.getElem?_eq_none h] at hw; cases hw
    obtain ⟨O3, p3, r3⟩ := erep_put h1 er hi
    rw [set_same hw, ← clr_sset is s i (some d) hn.1] at r3
    obtain ⟨O2, p2, r2⟩ := put_outs (by rw [hr]; exact h2) (fun j hj => hv j (List.mem_cons_of_mem _ hj)) r3 e hn.2
    refine ⟨O2, List.Perm.trans ?_ p2, r2⟩
    rw [e2]
    refine List.Perm.trans ?_ (List.Perm.append_left O' p3)
    rw [← List.append_assoc]
    exact List.Perm.append_right Or List.perm_append_comm
end
/-- the places of the names handed on -/
def mrefPos : Es → Nat → List Nat
  | .nil, _ => []
  | .cons (.mref _) r, k => k :: mrefPos r (k + 1)
  | .cons _ r, k => mrefPos r (k + 1)
theorem mref_vals {K : Frag} {F : Hp} {σ : L2.St} : ∀ {es : Es} {os : List (Option D)} {vs : List V} (us : List V), heldAs K F σ es os vs →
    ((mrefPos es us.length).map fun i => (us ++ vs)[i]?) = ((mrefs es).map fun i => σ[i]?.join) ∧ ∀ i ∈ mrefs es, ∃ v, σ[i]? = some (some v)
  | .nil, _, _, us, _ => ⟨rfl, fun _ h => nomatch h⟩
  | .cons x r, os, vs, us, h => by
    obtain ⟨o, os', v, t, e1, e2, h1, h2⟩ := h
    subst e1 e2
    obtain ⟨q1, q2⟩ := mref_vals (us ++ [v]) h2
    rw [List.length_append, List.length_singleton, List.append_assoc, List.singleton_append] at q1
    cases x with
    | mref i =>
      have h1 : σ[i]? = some (some v) := h1
      simp only [mrefPos, mrefs, List.map_cons]
      refine ⟨?_, fun j hj => ?_⟩
      · rw [q1, h1]
        simp
      · rcases List.mem_cons.mp hj with e | hj
        · rw [e]; exact ⟨v, h1⟩
        · exact q2 j hj
    | _ => exact ⟨q1, q2⟩
/-- what is known of a def at level n -/
def FnG (X : Cx) (Z : XS) (n : Nat) (nm : Str) (fd : FDef) (φ : List D → CR) : Prop := ∃ (f : Addr) (fdd : FuncData) (ps : List Str), X.mg nm = some (.ref f) ∧ PySem.W.keepIn X.K (.ref f) = true ∧
  FnOk X.prog X.w X.K X.mg X.base (L2.CX X.prog X.w) n f fdd ps (spF X.K Z fd φ) ∧
  ∀ m, m ≤ fd.np → fd.np ≤ m + fd.dfl.length → ∃ dvs ds, Binds X.K fdd ps ds ∧ Vals dvs ds ∧ ∀ F, datL X.K F (fd.dfl.drop (m + fd.dfl.length - fd.np)) dvs
theorem datL_erep {K : Frag} {F H : Hp} : ∀ {ds : List D} {vs : List V}, datL K F ds vs → erep K F H (ds.map some) (vs.map some) []
  | [], vs, h => by simp only [datL] at h; rw [h]; exact ⟨rfl, rfl⟩
  | d :: r, vs, h => by
    simp only [datL] at h
    obtain ⟨v, t, e, h1, h2⟩ := h
    rw [e]
    exact ⟨v, t.map some, [], [], rfl, rfl, rep_of_dat h1, datL_erep h2⟩
theorem erep_app {K : Frag} {F H : Hp} : ∀ {s : Env} {σ : L2.St} {O : List Addr} {s' : Env} {σ' : L2.St} {O' : List Addr}, erep K F H s σ O → erep K F H s' σ' O' → erep K F H (s ++ s') (σ ++ σ') (O ++ O')
  | [], σ, O, s', σ', O', ⟨e1, e2⟩, h => by rw [e1, e2]; exact h
  | none :: r, σ, O, s', σ', O', ⟨x, t, e, h1⟩, h => by rw [e]; exact ⟨x, t ++ σ', rfl, erep_app h1 h⟩
  | some d :: r, σ, O, s', σ', O', ⟨v, t, A, Oi, e1, e2, h1, h2⟩, h => by
    rw [e1, e2]
    exact ⟨v, t ++ σ', A, Oi ++ O', rfl, by rw [List.append_assoc], h1, erep_app h2 h⟩
theorem heldAs_len {K : Frag} {F : Hp} {σ : L2.St} : ∀ {es : Es} {os : List (Option D)} {vs : List V} {s : Env} {ds : List D}, heldAs K F σ es os vs → argD es os s = some ds → ds.length = vs.length
  | .nil, _, vs, s, ds, h, e => by simp only [argD] at e; cases e; rw [show vs = [] from h]; rfl
  | .cons x r, os, vs, s, ds, h, e => by
    obtain ⟨o, os', v, t, e1, e2, h1, h2⟩ := h
    subst e1 e2
    have : ∃ d dr, argD r os' s = some dr ∧ ds = d :: dr := by
      cases x with
      | mref i =>
        simp only [argD] at e
        cases hs : sget s i with
        | none => rw [hs] at e; cases e
        | some d => rw [hs, Option.bind_some] at e; obtain ⟨dr, q1, q2⟩ := Option.map_eq_some_iff.mp e; exact ⟨d, dr, q1, q2.symm⟩
      | _ =>
        obtain ⟨d, eo, _⟩ := h1
        subst eo
        simp only [argD] at e
        obtain ⟨dr, q1, q2⟩ := Option.map_eq_some_iff.mp e; exact ⟨d, dr, q1, q2.symm⟩
    obtain ⟨d, dr, q1, q2⟩ := this
    rw [q2, List.length_cons, List.length_cons, heldAs_len h2 q1]
section
variable {X : Cx} {Z : XS} {W : WX} {Γ : FT} {n f : Nat} {fd : FDef} {φ : List D → CR} {nm : Str} {x : Expr} {xs : List Expr} {es : Es} {p pos : Pos}
theorem s_call (tk : Takes X W) (hr : Room n X.A) (G : FnG X Z n nm fd φ) (hΓ : ∀ ds, Γ f ds = if ds.length ≤ fd.np ∧ fd.np ≤ ds.length + fd.dfl.length then φ (ds ++ fd.dfl.drop (ds.length + fd.dfl.length - fd.np)) else .bad)
    (hg : Gl X nm) (hmp : mrefPos es 0 = fd.mp) (hl : (x :: xs).length ≤ fd.np ∧ fd.np ≤ (x :: xs).length + fd.dfl.length) (hle : ∀ os vs F σ, heldAs X.K F σ es os vs → vs.length = (x :: xs).length) (hdb : (nm == ("__debug__" : Str)) = false)
    (he : starEach (x :: xs) X.env = (false, eval x X.env) :: starEach xs X.env) (hpl : (backTo pos (starEach xs X.env)).any (·.1) = false) (ha : PA X (x :: xs) (tAs X.K Z W Γ es)) : PV X Z W Γ (.call f es) (.Call (.Name nm p) (x :: xs) [] pos) := by
  obtain ⟨fa, fdd, ps, g1, g2, g3, g4⟩ := G
  obtain ⟨dvs, dus, b1, b2, b3⟩ := g4 _ hl.1 hl.2
  refine PE.imp (pe_callSD g3 hr hg g1 g2 b1 b2 (fun σ => passAt tk σ) ha hdb he hpl) fun σ H Q h => ?_
  obtain ⟨F, O, s, pt, h⟩ := h
  simp only [ev] at h
  refine use_As pt (cov.imp (cov.bind h) fun os s1 h1 vs O1 F1 H1 e1 p1 q1 => ?_)
  have hvl : vs.length = (x :: xs).length := hle _ _ _ _ q1
  split at h1
  · rename_i ds hds
    split at h1
    · rename_i hn
      obtain ⟨Oa, Or, w1, w2, w3⟩ := take_args q1 p1.er hds hn
      have hdl := heldAs_len q1 hds
      rw [hΓ, if_pos (by rw [hdl, hvl]; exact hl)] at h1
      have wf1 := p1.wf.perm w1
      have b3 := b3 F1
      rw [← hvl, ← hdl] at b3
      have wfa : Wf F1 H1 Oa := wf1.sub (List.nodup_append.mp wf1.nd).1 fun _ z => List.mem_append_left _ z
      have era : erep X.K F1 H1 ((ds ++ fd.dfl.drop (ds.length + fd.dfl.length - fd.np)).map some) ((vs ++ dvs).map some) Oa := by
        rw [List.map_append, List.map_append]
        have := erep_app w2 (datL_erep (H := H1) b3)
        rw [List.append_nil] at this
        exact this
      obtain ⟨mv1, mv2⟩ := mref_vals [] q1
      rw [List.length_nil, List.nil_append, hmp] at mv1
      have hlen : (vs ++ dvs).length = fd.np := by
        rw [List.length_append, ← datL_len b3, List.length_drop, hdl, hvl]
        omega
      have mv3 : (fd.mp.map fun i => (vs ++ dvs)[i]?) = ((mrefs es).map fun i => σ[i]?.join) := by
        rw [← mv1]
        apply List.map_congr_left
        intro i hi
        rw [List.getElem?_append_left]
        have : ∀ (es : Es) (os : List (Option D)) (vs us : List V), heldAs X.K F1 σ es os vs → ∀ i ∈ mrefPos es us.length, i < us.length + vs.length := by
          intro es
          induction es using Es.rec (motive_1 := fun _ => True) (motive_3 := fun _ => True) (motive_4 := fun _ => True) with
          | nil => intro os vs us _ i hi; simp [mrefPos] at hi
          | cons e r _ ih =>
            intro os vs us h i hi
            obtain ⟨o, os', v, t, e1, e2, h1, h2⟩ := h
            subst e1 e2
            have ih := ih os' t (us ++ [v]) h2 i
            rw [List.length_append, List.length_singleton] at ih
            rw [List.length_cons]
            cases e <;> simp only [mrefPos] at hi
            all_goals first
              | (have := ih hi; omega)
              | (rcases List.mem_cons.mp hi with e | hi
                 · omega
                 · have := ih hi; omega)
          | _ => trivial
        have q := this es os vs [] q1 i (by rw [List.length_nil, hmp]; exact hi)
        simpa using q
      refine ⟨hlen, F1, Oa, _, wfa, era, ?_⟩
      cases hφ : φ (ds ++ fd.dfl.drop (ds.length + fd.dfl.length - fd.np)) with
      | bad => rw [hφ] at h1; exact h1.elim
      | ok d outs =>
        rw [hφ] at h1
        simp only [fromCR] at h1
        split at h1
        · rename_i s2 hs2
          intro v A O2 F2 H2 e2 w4 r4 r5
          obtain ⟨f1, f2, f3⟩ := frame wf1 e2 w4
          rw [mv3] at r5
          obtain ⟨O3, pm, er3⟩ := put_outs r5 mv2 (erep_mono e2.fm f3 w3) hs2 hn
          have pm2 : (A ++ O2 ++ Or).Perm (A ++ O3) := by
            rw [List.append_assoc]
            exact List.Perm.append_left A pm
          have x2 : Ext F1 H1 O1 F2 H2 (A ++ O3) := by
            have := (f2.perm pm2)
            exact ⟨this.fm, fun a o h na => this.keep a o h fun y => na (w1.mem_iff.mpr y), fun a z => (this.fnew a z).imp_right (_root_.Or.imp_left fun y => w1.mem_iff.mpr y), fun a z => (this.onew a z).imp_left fun y => w1.mem_iff.mpr y⟩
          exact (show wantE X.K F H O σ Q _ _ from h1) v A O3 F2 H2 (e1.trans x2) (f1.perm pm2) er3 r4
        · exact h1.elim
      | exc ex outs =>
        rw [hφ] at h1
        simp only [fromCR] at h1
        split at h1
        · rename_i s2 hs2
          intro cls dd O2 F2 H2 e2 w4 r5 hz
          obtain ⟨f1, f2, f3⟩ := frame wf1 e2 w4
          rw [mv3] at r5
          obtain ⟨O3, pm, er3⟩ := put_outs r5 mv2 (erep_mono e2.fm f3 w3) hs2 hn
          have x2 : Ext F1 H1 O1 F2 H2 O3 := by
            have := (f2.perm pm)
            exact ⟨this.fm, fun a o h na => this.keep a o h fun y => na (w1.mem_iff.mpr y), fun a z => (this.fnew a z).imp_right (_root_.Or.imp_left fun y => w1.mem_iff.mpr y), fun a z => (this.onew a z).imp_left fun y => w1.mem_iff.mpr y⟩
          exact (show qx X.K Z W F H O σ ex s2 from h1) cls dd O3 F2 H2 (e1.trans x2) ⟨f1.perm pm, er3⟩ hz
        · exact h1.elim
    · exact h1.elim
  · exact h1.elim
end
end OM


set_option autoImplicit false
set_option linter.all false
set_option maxRecDepth 100000
/-! S6: what is walked, targets, comprehensions. -/
namespace OM
open PySem PySem.Spec PyProof.Rows L2

/-- the iterator J hands on the data ds, whatever grows meanwhile -/
def walks (K : Frag) (J : It) (F : Hp) (ds : List D) : Prop := ∀ F' H', Same F F' → Same F' H' → ∀ i,
  (∀ d, ds[i]? = some d → J.go i H' ∧ ∀ x H'', J.yld i H' x H'' → ∃ F'', Made K F' H' d x [] F'' H'') ∧ (ds.length ≤ i → J.stop i H')
def tI (K : Frag) (Z : XS) (W : WX) (it : E) (f : Env → R D) : TI := fun σ H Q => ∃ F O s, Pt K F O s σ H ∧ cov K Z W F H O σ (itemsR it f s) fun ds s1 => ∀ J O1 F1 H1, Ext F H O F1 H1 O1 → Pt K F1 O1 s1 σ H1 → walks K J F1 ds → Q J H1
section
variable {K : Frag} {F : Hp}
theorem walks_list {a : Addr} {ds : List D} {vs : List V} (hs : ∀ F', Same F F' → ∀ H', Same F' H' → SqL K H' a vs) (huq : ∀ F' H', Same F F' → Same F' H' → True) (h : datL K F ds vs) : walks K (Itl K a) F ds := fun F' H' m1 m2 i => by
  refine ⟨fun d hd => ?_, fun hl => ⟨vs, hs F' m1 H' m2, by rw [← datL_len h]; exact hl⟩⟩
  obtain ⟨v, hv, hdv⟩ := datL_get h hd
  refine ⟨⟨vs, v, hs F' m1 H' m2, hv⟩, fun x H'' ⟨e1, e2⟩ => ?_⟩
  have e3 := e2 vs (hs F' m1 H' m2)
  rw [hv] at e3
  cases e3
  rw [e1]
  exact ⟨F', Made.val m2 (dat_mono m1 _ _ hdv)⟩
theorem walks_tup {a : Addr} {ds : List D} {vs : List V} (hs : ∀ F', Same F F' → ∀ H', Same F' H' → SqT K H' a vs) (h : datL K F ds vs) : walks K (Itt K a) F ds := fun F' H' m1 m2 i => by
  refine ⟨fun d hd => ?_, fun hl => ⟨vs, hs F' m1 H' m2, by rw [← datL_len h]; exact hl⟩⟩
  obtain ⟨v, hv, hdv⟩ := datL_get h hd
  refine ⟨⟨vs, v, hs F' m1 H' m2, hv⟩, fun x H'' ⟨e1, e2⟩ => ?_⟩
  have e3 := e2 vs (hs F' m1 H' m2)
  rw [hv] at e3
  cases e3
  rw [e1]
  exact ⟨F', Made.val m2 (dat_mono m1 _ _ hdv)⟩
theorem walks_enum {a : Addr} {ds : List D} {vs : List V} (hs : ∀ F', Same F F' → ∀ H', Same F' H' → SqL K H' a vs) (h : datL K F ds vs) : walks K (Ite K a) F (enumL 0 ds) := fun F' H' m1 m2 i => by
  have hlen : ∀ (n : Nat) (l : List D), (enumL n l).length = l.length := by
    intro n l
    induction l generalizing n with
    | nil => rfl
    | cons x r ih => simp [enumL, ih]
  have hget : ∀ (n : Nat) (l : List D) (j : Nat), (enumL n l)[j]? = (l[j]?).map fun d => D.tup [.int (n + j : Nat), d] := by
    intro n l
    induction l generalizing n with
    | nil => intro j; simp [enumL]
    | cons x r ih =>
      intro j
      cases j with
      | zero => simp [enumL]
      | succ j =>
        simp only [enumL, List.getElem?_cons_succ, ih]
        congr 1
        funext d
        congr 4
        omega
  refine ⟨fun d hd => ?_, fun hl => ⟨vs, hs F' m1 H' m2, by rw [← datL_len h]; rw [hlen] at hl; exact hl⟩⟩
  rw [hget] at hd
  obtain ⟨d', hd', e⟩ := Option.map_eq_some_iff.mp hd
  subst e
  obtain ⟨v, hv, hdv⟩ := datL_get h hd'
  refine ⟨⟨vs, v, hs F' m1 H' m2, hv⟩, fun x H'' ⟨T, y, e0, hT, e1, e2⟩ => ?_⟩
  have e3 := e2 vs (hs F' m1 H' m2)
  rw [hv] at e3
  cases e3
  subst e0 e1
  refine ⟨_, Made.tup m2 hT ?_⟩
  simp only [datL]
  exact ⟨_, _, rfl, by simp [dat], _, [], rfl, dat_mono m1 _ _ hdv, rfl⟩
theorem walks_str {x : Str} : walks K (Its x) F ((cps x).map fun c => .str (strOf [c])) := fun F' H' m1 m2 i => by
  refine ⟨fun d hd => ?_, fun hl => by show x.cps.size ≤ i; simpa [cps] using hl⟩
  rw [List.getElem?_map] at hd
  obtain ⟨c, hc, e⟩ := Option.map_eq_some_iff.mp hd
  subst e
  have hi : i < x.cps.size := by
    rcases Nat.lt_or_ge i x.cps.size with h | h
    · exact h
    · rw [List.getElem?_eq_none (by simpa [cps] using h)] at hc; cases hc
  refine ⟨hi, fun y H'' ⟨e1, c', hc', e2⟩ => ?_⟩
  have : (cps x)[i]? = x.cps[i]? := by simp [cps]
  rw [this, hc'] at hc
  cases hc
  rw [e1, e2]
  exact ⟨F', Made.val m2 rfl⟩
theorem walks_range {a : Int} {n : Nat} {ds : List D} (hd : ds = (List.range n).map fun (k : Nat) => D.int (a + (k : Int))) : walks K (Itr a n) F ds := fun F' H' m1 m2 i => by
  subst hd
  refine ⟨fun d hd => ?_, fun hl => by show n ≤ i; simpa using hl⟩
  rw [List.getElem?_map] at hd
  obtain ⟨c, hc, e⟩ := Option.map_eq_some_iff.mp hd
  subst e
  have hi : i < n := by
    rcases Nat.lt_or_ge i n with h | h
    · exact h
    · rw [List.getElem?_eq_none (by simpa using h)] at hc; cases hc
  rw [List.getElem?_range hi] at hc
  cases hc
  refine ⟨hi, fun y H'' ⟨e1, e2⟩ => ?_⟩
  rw [e1, e2]
  exact ⟨F', Made.val m2 rfl⟩
end
section
variable {X : Cx} {Z : XS} {W : WX} {Γ : FT} {tg x y : Expr} {a b : E} {p pos : Pos}
/-- any value that may be walked -/
theorem s_walk {it : E} {f : Env → R D} (hit : ∀ s, itemsR it f s = (f s).bind fun d s1 => lift (itemsOf (frz d)) s1) (hx : PE X x (tE X.K Z W f)) : PI X tg x (tI X.K Z W it f) := by
  refine ⟨fun pins s0 σ H R I h => ?_⟩
  obtain ⟨F, O, s, p, h⟩ := h
  rw [hit] at h
  have h := cov.bind h
  cases hf : f s with
  | bad => rw [hf] at h; exact h.elim
  | exc ex s1 => exact (pi_list (s_F hx)).run pins s0 σ H R I ⟨F, O, s, p, by rw [hf] at h ⊢; exact h⟩
  | ok d s1 =>
    rw [hf] at h
    obtain ⟨ds, e, h⟩ := cov.lift (show cov _ _ _ _ _ _ _ _ _ from h)
    cases hd : frz d with
    | lst o xs =>
      rw [hd] at e; cases e
      refine (pi_list (s_F hx)).run pins s0 σ H R I ⟨F, O, s, p, ?_⟩
      rw [hf]
      intro v O1 F1 H1 e1 p1 q1
      rw [hd] at q1
      simp only [dat] at q1
      obtain ⟨_, a, vs, ev, ha, hl⟩ := q1
      exact ⟨a, ev, ⟨vs, .inl (.inl (p1.wf.fh _ _ ha))⟩, h _ O1 F1 H1 e1 p1 (walks_list (fun F' m H' m2 => .inl (.inl (m2 _ _ (m _ _ ha)))) (fun _ _ _ _ => trivial) hl)⟩
    | tup xs =>
      rw [hd] at e; cases e
      refine (pi_tup (s_F hx)).run pins s0 σ H R I ⟨F, O, s, p, ?_⟩
      rw [hf]
      intro v O1 F1 H1 e1 p1 q1
      rw [hd] at q1
      simp only [dat] at q1
      obtain ⟨a, vs, ev, ha, hl⟩ := q1
      exact ⟨a, ev, ⟨vs, .inl (.inl (p1.wf.fh _ _ ha))⟩, h _ O1 F1 H1 e1 p1 (walks_tup (fun F' m H' m2 => .inl (.inl (m2 _ _ (m _ _ ha)))) hl)⟩
    | str z =>
      rw [hd] at e; cases e
      refine (pi_str (s_F hx)).run pins s0 σ H R I ⟨F, O, s, p, ?_⟩
      rw [hf]
      intro v O1 F1 H1 e1 p1 q1
      rw [hd] at q1
      exact ⟨z, q1, h _ O1 F1 H1 e1 p1 walks_str⟩
    | scr ns =>
      rw [hd] at e; cases e
      refine (pi_list (s_F hx)).run pins s0 σ H R I ⟨F, O, s, p, ?_⟩
      rw [hf]
      intro v O1 F1 H1 e1 p1 q1
      rw [hd] at q1
      simp only [dat] at q1
      obtain ⟨a, ev, ha⟩ := q1
      refine ⟨a, ev, ⟨_, sqL_mono p1.wf.fh ha⟩, h _ O1 F1 H1 e1 p1 (walks_list (fun F' m H' m2 => sqL_mono m2 (sqL_mono m ha)) (fun _ _ _ _ => trivial) (datL_map (f := D.int) (g := V.int) (fun _ => by simp [dat]) ns))⟩
    | _ => rw [hd] at e; cases e
theorem s_rng1 (hg : Gl X "range") (hm : X.mg "range" = none) (hs : starEach [x] X.env = [(false, eval x X.env)]) (hx : PO' X Z W Γ a x) : PI X tg (.Call (.Name "range" p) [x] [] pos) (tI X.K Z W (.rng1 a) (ev Γ (.rng1 a))) :=
  PI.imp (pi_range1 hg hm (pa_cons hx pa_nil hs) hs) fun σ H Y h => by
  obtain ⟨F, O, s, pt, h⟩ := h
  simp only [itemsR, ev] at h
  have h := cov.bind (cov.bind h)
  refine use_O pt (h.imp fun o s1 h1 v O1 F1 H1 e1 p1 q1 => ?_)
  obtain ⟨d, r, h2⟩ := cov.lift h1
  split at h2
  · rename_i n
    split at h2
    · rename_i hn
      unfold rngOk at hn
      simp only [Bool.and_eq_true, decide_eq_true_eq] at hn
      have hv := q1.sees p1 r
      rw [sees_int] at hv
      exact ⟨n, by rw [hv], by omega, by omega, h2 _ _ _ _ e1 p1 (walks_range (by unfold rangeL; simp))⟩
    · exact h2.elim
  · exact h2.elim
theorem s_rng2 (hg : Gl X "range") (hm : X.mg "range" = none) (hs : starEach [x, y] X.env = [(false, eval x X.env), (false, eval y X.env)]) (hs2 : starEach [y] X.env = [(false, eval y X.env)]) (hx : PO' X Z W Γ a x) (hy : PO' X Z W Γ b y) : PI X tg (.Call (.Name "range" p) [x, y] [] pos) (tI X.K Z W (.rng2 a b) (ev Γ (.rng2 a b))) :=
  PI.imp (pi_range2 hg hm (pa_cons hx (pa_cons hy pa_nil hs2) (by rw [hs, hs2])) hs hs2) fun σ H Y h => by
  obtain ⟨F, O, s, pt, h⟩ := h
  simp only [itemsR, ev] at h
  have h := cov.bind (cov.bind h)
  refine use_O pt (h.imp fun o s1 h1 v O1 F1 H1 e1 p1 q1 => use_O p1 (((cov.bind h1).ext e1).imp fun o2 s2 h2 w O2 F2 H2 e2 p2 q2 => ?_))
  split at h2
  · rename_i d1 d2 r1 r2
    have h2 := cov.lift (o := match d1, d2 with
      | .int a, .int b => if rngOk a b = true then some (rangeL a b) else none
      | _, _ => none) (s1 := s2) (P := fun ds s1 => ∀ (J : It) (O1 : List Addr) (F1 H1 : Hp), Ext F H O F1 H1 O1 → Pt X.K F1 O1 s1 σ H1 → walks X.K J F1 ds → Y J H1) (K := X.K) (Z := Z) (W := W) (F := F) (H := H) (O := O) (σ := σ) (by
        cases d1 with
        | int a => cases d2 with
          | int b =>
            have h2 : cov X.K Z W F H O σ (if rngOk a b = true then R.ok (rangeL a b) s2 else .bad) _ := h2
            show cov _ _ _ _ _ _ _ (lift (if rngOk a b = true then some (rangeL a b) else none) s2) _
            split at h2
            · rename_i hn
              rw [if_pos hn]
              exact h2
            · exact h2.elim
          | _ => exact (show False from h2).elim
        | _ => exact (show False from h2).elim)
    obtain ⟨ds, e, h3⟩ := h2
    split at e
    · rename_i a b
      split at e
      · rename_i hn
        cases e
        unfold rngOk at hn
        simp only [Bool.and_eq_true, decide_eq_true_eq] at hn
        have hv := (q1.mono e2.fm).sees p2 r1
        rw [sees_int] at hv
        have hw := q2.sees p2 r2
        rw [sees_int] at hw
        exact ⟨a, b, by rw [hv, hw], by omega, h3 _ _ _ _ (e1.trans e2) p2 (walks_range (by unfold rangeL; rfl))⟩
      · cases e
    · cases e
  · exact h2.elim
theorem s_enum {elts : List Expr} {kk : Nat} {tpos : Pos} (hg : Gl X "enumerate") (hm : X.mg "enumerate" = none) (hs : starEach [x] X.env = [(false, eval x X.env)]) (hx : PE X x (tE X.K Z W (ev Γ a))) : PI X (.Tuple elts kk tpos) (.Call (.Name "enumerate" p) [x] [] pos) (tI X.K Z W (.enum a) (ev Γ (.enum a))) :=
  PI.imp (pi_enum hg hm (pa_cons (s_F hx) pa_nil hs) hs) fun σ H Y h => by
  obtain ⟨F, O, s, pt, h⟩ := h
  simp only [itemsR, ev] at h
  refine ⟨F, O, s, pt, (cov.bind h).imp fun d s1 h1 v O1 F1 H1 e1 p1 q1 => ?_⟩
  split at h1
  · rename_i o xs
    simp only [frz, dat] at q1
    obtain ⟨_, a', vs, ev, ha, hl⟩ := q1
    exact ⟨a', vs, by rw [ev], .inl (.inl (p1.wf.fh _ _ ha)), h1 _ _ _ _ e1 p1 (walks_enum (fun F' m H' m2 => .inl (.inl (m2 _ _ (m _ _ ha)))) hl)⟩
  · exact h1.elim
end

/-! ### targets -/
def gNames : List Nat → TGs
  | [] => gNil
  | i :: r => gCons (gName i) (gNames r)
def tG (K : Frag) : Tg → TG
  | .nm i => gName i
  | .tp is => gTup K is.length (gNames is)
section
variable {K : Frag} {F H : Hp} {O : List Addr} {s : Env} {σ : L2.St}
theorem sset_ge : ∀ {s : Env} {i : Nat} {d : Option D}, s.length ≤ i → sset s i d = s
  | [], _, _, _ => rfl
  | _ :: _, 0, _, h => by simp at h
  | x :: r, i + 1, d, h => by simp only [sset]; rw [sset_ge (s := r) (by simpa using h)]
theorem Pt.put {i : Nat} {d : D} {v : V} (p : Pt K F O s σ H) (h : dat K F d v) : ∃ O', Ext F H O F H O' ∧ Pt K F O' (sset s i (some d)) (σ.set i (some v)) H := by
  rcases Nat.lt_or_ge i s.length with hi | hi
  · obtain ⟨O1, q1, q2, q3⟩ := erep_drop i p.er
    obtain ⟨O2, r1, r2⟩ := erep_put (rep_of_dat (H := H) h) q3 hi
    rw [List.nil_append] at r1
    have hs : ∀ a ∈ O2, a ∈ O := fun a z => q1 a (r1.mem_iff.mpr z)
    exact ⟨O2, Ext.refl.sub hs, p.wf.sub (r1.nodup_iff.mp (q2 p.wf.nd)) hs, r2⟩
  · rw [sset_ge hi, List.set_eq_of_length_le (by rw [erep_len p.er]; exact hi)]
    exact ⟨O, Ext.refl, p⟩
theorem use_names : ∀ {is : List Nat} {ds : List D} {vs : List V} {F H : Hp} {O : List Addr} {s s2 : Env} {σ : L2.St} {Q : L2.St → Hp → Prop}, Pt K F O s σ H → datL K F ds vs → setAll is ds s = some s2 →
    (∀ σ2 O2, Ext F H O F H O2 → Pt K F O2 s2 σ2 H → σ2.length = σ.length → (∀ i, i ∉ is → σ2[i]? = σ[i]?) → Q σ2 H) → gNames is vs σ H Q
  | [], [], vs, F, H, O, s, s2, σ, Q, p, hd, e, k => by
    simp only [setAll] at e
    cases e
    simp only [datL] at hd
    exact ⟨hd, k σ O Ext.refl p rfl fun _ _ => rfl⟩
  | [], _ :: _, _, _, _, _, _, _, _, _, _, _, e, _ => by simp only [setAll] at e; cases e
  | _ :: _, [], _, _, _, _, _, _, _, _, _, _, e, _ => by simp only [setAll] at e; cases e
  | i :: is, d :: ds, vs, F, H, O, s, s2, σ, Q, p, hd, e, k => by
    simp only [setAll] at e
    simp only [datL] at hd
    obtain ⟨v, t, ev, h1, h2⟩ := hd
    obtain ⟨O1, x1, p1⟩ := p.put (i := i) h1
    refine ⟨v, t, ev, use_names p1 h2 e fun σ2 O2 x2 p2 hl hk => k σ2 O2 (x1.trans x2) p2 (by rw [hl, List.length_set]) fun j hj => ?_⟩
    simp only [List.mem_cons, not_or] at hj
    rw [hk j hj.2, List.getElem?_set_ne (Ne.symm hj.1)]
def tgs : Tg → List Nat
  | .nm i => [i]
  | .tp is => is
theorem setAll_len : ∀ {is : List Nat} {ds : List D} {s s2 : Env}, setAll is ds s = some s2 → ds.length = is.length
  | [], [], _, _, _ => rfl
  | [], _ :: _, _, _, e => by simp only [setAll] at e; cases e
  | _ :: _, [], _, _, e => by simp only [setAll] at e; cases e
  | _ :: is, _ :: ds, s, s2, e => by simp only [setAll] at e; simp [setAll_len e]
theorem use_tg {t : Tg} {d : D} {v : V} {s2 : Env} {Q : L2.St → Hp → Prop} (p : Pt K F O s σ H) (hd : dat K F d v) (e : bindT t d s = some s2) (k : ∀ σ2 O2, Ext F H O F H O2 → Pt K F O2 s2 σ2 H → σ2.length = σ.length → (∀ i, i ∉ tgs t → σ2[i]? = σ[i]?) → Q σ2 H) : tG K t v σ H Q := by
  cases t with
  | nm i =>
    simp only [bindT] at e
    cases e
    obtain ⟨O1, x1, p1⟩ := p.put (i := i) hd
    exact k _ O1 x1 p1 (by rw [List.length_set]) fun j hj => List.getElem?_set_ne (by intro e; exact hj (by simp [tgs, e]))
  | tp is =>
    cases d with
    | tup ds =>
      simp only [bindT] at e
      simp only [dat] at hd
      obtain ⟨a, vs, ev, ha, hl⟩ := hd
      exact ⟨a, vs, ev, .inl (.inl (p.wf.fh _ _ ha)), by rw [← datL_len hl]; exact setAll_len e, use_names p hl e k⟩
    | _ => simp only [bindT] at e; cases e
end

/-! ### blocks -/
section
variable {K : Frag} {F H : Hp} {O : List Addr} {s : Env} {σ : L2.St}
theorem erep_agree : ∀ {s : Env} {σ σ' : L2.St} {O : List Addr}, erep K F H s σ O → σ'.length = σ.length → (∀ i d, sget s i = some d → σ'[i]? = σ[i]?) → erep K F H s σ' O
  | [], σ, σ', O, ⟨e1, e2⟩, hl, _ => ⟨by rw [e1] at hl; exact List.length_eq_zero_iff.mp (by simpa using hl), e2⟩
  | none :: r, σ, σ', O, ⟨x, t, e, h⟩, hl, ha => by
    rw [e] at hl ha
    match σ', hl with
    | y :: t', hl =>
      exact ⟨y, t', rfl, erep_agree h (by simpa using hl) fun i d q => by simpa using ha (i + 1) d q⟩
  | some d0 :: r, σ, σ', O, ⟨v, t, A, O', e, e2, h1, h2⟩, hl, ha => by
    rw [e] at hl ha
    match σ', hl with
    | y :: t', hl =>
      have := ha 0 d0 rfl
      simp at this
      subst this
      exact ⟨v, t', A, O', rfl, e2, h1, erep_agree h2 (by simpa using hl) fun i d q => by simpa using ha (i + 1) d q⟩
theorem sget_none : ∀ (s : Env) (i : Nat), sget (sset s i none) i = none
  | [], i => by cases i <;> rfl
  | _ :: _, 0 => rfl
  | _ :: r, i + 1 => sget_none r i
theorem sget_wipe : ∀ {vs : List Nat} {s : Env} {i : Nat}, i ∈ vs → sget (wipeE s vs) i = none
  | [], _, _, h => nomatch h
  | v :: vs, s, i, h => by
    simp only [wipeE]
    by_cases e : v = i
    · subst e
      exact sget_none _ _
    · rw [sget_sset _ _ _ _ e]
      exact sget_wipe (by rcases List.mem_cons.mp h with z | z; exact absurd z.symm e; exact z)
theorem erep_wipe : ∀ (vs : List Nat) {s : Env} {σ : L2.St} {O : List Addr}, erep K F H s σ O → ∃ O', (∀ a ∈ O', a ∈ O) ∧ (O.Nodup → O'.Nodup) ∧ erep K F H (wipeE s vs) σ O'
  | [], s, σ, O, h => ⟨O, fun _ z => z, fun z => z, h⟩
  | v :: vs, s, σ, O, h => by
    obtain ⟨O1, q1, q2, q3⟩ := erep_wipe vs h
    obtain ⟨O2, r1, r2, r3⟩ := erep_drop v q3
    exact ⟨O2, fun a z => q1 a (r1 a z), fun z => r2 (q2 z), r3⟩
/-- at a block's start: its own names are empty -/
theorem Pt.wipe (p : Pt K F O s σ H) (vs : List Nat) {σ' : L2.St} (hl : σ'.length = σ.length) (ha : ∀ i, i ∉ vs → σ'[i]? = σ[i]?) : ∃ O', Ext F H O F H O' ∧ Pt K F O' (wipeE s vs) σ' H := by
  obtain ⟨O1, q1, q2, q3⟩ := erep_wipe vs p.er
  refine ⟨O1, Ext.refl.sub q1, p.wf.sub (q2 p.wf.nd) q1, erep_agree q3 hl fun i d e => ha i fun hi => ?_⟩
  rw [sget_wipe hi] at e; cases e
theorem back_ok {s0 : Env} {O0 : List Addr} {F0 H0 : Hp} (p0 : Pt K F0 O0 s0 σ H0) (m : Same F0 F) : ∀ (l : List Nat) {s : Env} {O : List Addr}, Pt K F O s σ H → ∃ O', Ext F H O F H O' ∧ Pt K F O' (l.foldl (back1 s0) s) σ H
  | [], s, O, p => ⟨O, Ext.refl, p⟩
  | i :: r, s, O, p => by
    simp only [List.foldl_cons]
    have step : ∃ O', Ext F H O F H O' ∧ Pt K F O' (back1 s0 s i) σ H := by
      unfold back1
      cases e : sget s0 i with
      | none => exact ⟨O, Ext.refl, p⟩
      | some d =>
        simp only []
        by_cases ho : isOwn d = true
        · rw [if_pos ho]; exact ⟨O, Ext.refl, p⟩
        · rw [if_neg ho]
          obtain ⟨v, A, q1, q2, _⟩ := p0.get e
          obtain ⟨_, hd⟩ := rep_nil (by simpa using ho) q2
          obtain ⟨O', x, p'⟩ := p.put (i := i) (dat_mono m _ _ hd)
          rw [set_same q1] at p'
          exact ⟨O', x, p'⟩
    obtain ⟨O1, x1, p1⟩ := step
    obtain ⟨O2, x2, p2⟩ := back_ok p0 m r p1
    exact ⟨O2, x1.trans x2, p2⟩
theorem Pt.agree {σ' : L2.St} (p : Pt K F O s σ H) (hl : σ'.length = σ.length) (ha : ∀ i d, sget s i = some d → σ'[i]? = σ[i]?) : Pt K F O s σ' H := ⟨p.wf, erep_agree p.er hl ha⟩
end
end OM


set_option autoImplicit false
set_option linter.all false
set_option maxRecDepth 100000
/-! S7: list comprehensions. -/
namespace OM
open PySem PySem.Spec PyProof.Rows L2
theorem compLoop_exc {own : List Nat} {step : D → Env → R (List D)} : ∀ {ds : List D} {s : Env} {x : Exc} {s1 : Env}, compLoop own step ds s ≠ .exc x s1
  | [], s, x, s1, h => by simp only [compLoop] at h; cases h
  | d :: r, s, x, s1, h => by
    simp only [compLoop] at h
    split at h
    · split at h
      · cases h
      · cases h
    · cases h
theorem wipe_in : ∀ {vs : List Nat} {σ : L2.St} {i : Nat}, i ∈ vs → (wipe σ vs)[i]? = if i < σ.length then some none else none
  | [], _, _, h => nomatch h
  | v :: vs, σ, i, h => by
    unfold wipe
    by_cases e : v = i
    · subst e
      rw [List.getElem?_set_self', ]
      by_cases hl : v < σ.length
      · rw [if_pos hl, List.getElem?_eq_getElem (by rw [wipe_length]; exact hl)]; rfl
      · rw [if_neg hl, List.getElem?_eq_none (by rw [wipe_length]; omega)]; rfl
    · rw [List.getElem?_set_ne e]
      exact wipe_in (by rcases List.mem_cons.mp h with z | z; exact absurd z.symm e; exact z)
theorem wipe_eq {vs : List Nat} {σ σ2 : L2.St} (hl : σ2.length = σ.length) (h : ∀ i, i ∉ vs → σ2[i]? = σ[i]?) : wipe σ2 vs = wipe σ vs := by
  apply List.ext_getElem?
  intro i
  by_cases hi : i ∈ vs
  · rw [wipe_in hi, wipe_in hi, hl]
  · rw [wipe_out hi, wipe_out hi, h i hi]

/-- within a loop that fills the list at D -/
structure LI (K : Frag) (Fb Hb : Hp) (Ob : List Addr) (Fw : Hp) (D : Addr) (acc : List OM.D) (F' : Hp) (O' : List Addr) (s' : Env) (σ' : L2.St) (H : Hp) : Prop where
  ext : Ext Fb Hb Ob F' H O'
  hb : Hb D = none
  pt : Pt K F' O' s' σ' H
  fw : Same Fw F'
  fd : F' D = none
  od : D ∉ O'
  at_ : ∃ us, H D = some (.lst us) ∧ datL K F' acc us
section
variable {K : Frag} {Fb Hb Fw F' H : Hp} {Ob O' : List Addr} {D : Addr} {acc : List OM.D} {s' : Env} {σ' : L2.St}
/-- a step away from D -/
theorem LI.go (l : LI K Fb Hb Ob Fw D acc F' O' s' σ' H) {F2 H2 : Hp} {O2 : List Addr} {s2 : Env} {σ2 : L2.St} (e : Ext F' H O' F2 H2 O2) (p : Pt K F2 O2 s2 σ2 H2) : LI K Fb Hb Ob Fw D acc F2 O2 s2 σ2 H2 := by
  obtain ⟨us, h1, h2⟩ := l.at_
  refine ⟨l.ext.trans e, l.hb, p, l.fw.trans e.fm, ?_, fun z => ?_, us, e.keep _ _ h1 l.od, datL_mono e.fm _ _ h2⟩
  · cases h : F2 D with
    | none => rfl
    | some o =>
      rcases e.fnew D (by rw [h]; simp) with y | y | y
      · exact absurd l.fd y
      · exact absurd y l.od
      · rw [h1] at y; cases y
  · rcases e.onew D z with y | y
    · exact l.od y
    · rw [h1] at y; cases y
/-- an item is appended at D -/
theorem LI.add (l : LI K Fb Hb Ob Fw D acc F' O' s' σ' H) {d : OM.D} {v : V} (hd : dat K F' d v) : ∃ us, H D = some (.lst us) ∧ us.length = acc.length ∧ LI K Fb Hb Ob Fw D (acc ++ [d]) F' O' s' σ' (upd H D (.lst (us ++ [v]))) := by
  obtain ⟨us, h1, h2⟩ := l.at_
  refine ⟨us, h1, (datL_len h2).symm, ⟨⟨l.ext.fm, fun a o h n => ?_, l.ext.fnew, l.ext.onew⟩, l.hb, ⟨⟨l.pt.wf.nd, fun a o h => ?_, l.pt.wf.of, fun a z => ?_⟩, erep_mono (Same.refl _) (fun a z => upd_ne fun e => l.od (by rw [← e]; exact z)) l.pt.er⟩, l.fw, l.fd, l.od, us ++ [v], upd_same, datL_app h2 (by simp only [datL]; exact ⟨v, [], rfl, hd, rfl⟩)⟩⟩
  · rw [upd_ne (by intro e; rw [e, l.hb] at h; cases h)]
    exact l.ext.keep a o h n
  · rw [upd_ne (by intro e; rw [e, l.fd] at h; cases h)]
    exact l.pt.wf.fh a o h
  · rw [upd_ne (by intro e; exact l.od (by rw [← e]; exact z))]
    exact l.pt.wf.oh a z
theorem loop_core {J : It} {vs : List Nat} {σ : L2.St} {ds ys : List OM.D} {step : OM.D → Env → R (List OM.D)} {s1 se : Env} {Qend : Hp → Prop} {B : V → Hp → (Hp → Prop) → Prop} {acc0 : List OM.D} {F1 H1 : Hp} {O1 : List Addr}
    (wk : walks K J Fw ds) (hrun : compLoop vs step ds s1 = .ok ys se) (h0 : LI K Fb Hb Ob Fw D acc0 F1 O1 (wipeE s1 vs) (wipe σ vs) H1)
    (hbody : ∀ d x o s s4 acc F' O' H' (Nx : Hp → Prop), step d (wipeE s vs) = .ok o s4 → LI K Fb Hb Ob Fw D acc F' O' (wipeE s vs) (wipe σ vs) H' → dat K F' d x → acc.length + o.length ≤ acc0.length + ys.length →
      (∀ H'' F'' O'', LI K Fb Hb Ob Fw D (acc ++ o) F'' O'' (wipeE s4 vs) (wipe σ vs) H'' → Nx H'') → B x H' Nx)
    (hend : ∀ F' O' H, LI K Fb Hb Ob Fw D (acc0 ++ ys) F' O' (wipeE se vs) (wipe σ vs) H → Qend H) :
    ∃ W : Nat → Nat → Hp → Prop, (∃ m, W 0 m H1) ∧ ∀ i m H, W i m H →
      (J.stop i H ∧ Qend H) ∨ (J.go i H ∧ ∃ Nx : Hp → Prop, (∀ H', Nx H' → ∃ m', m' < m ∧ W (i + 1) m' H') ∧ ∀ x H', J.yld i H x H' → B x H' Nx) := by
  refine ⟨fun i m H => m = ds.length - i ∧ i ≤ ds.length ∧ ∃ acc rest F' O' s', LI K Fb Hb Ob Fw D acc F' O' (wipeE s' vs) (wipe σ vs) H ∧ compLoop vs step (ds.drop i) s' = .ok rest se ∧ acc ++ rest = acc0 ++ ys,
    ⟨ds.length, by simp, Nat.zero_le _, acc0, ys, F1, O1, s1, h0, by rw [List.drop_zero]; exact hrun, rfl⟩, ?_⟩
  rintro i m H ⟨rfl, hi, acc, rest, F', O', s', l, hr, hys⟩
  by_cases hlt : i < ds.length
  · right
    have hd : ds[i]? = some ds[i] := List.getElem?_eq_getElem hlt
    obtain ⟨w1, w2⟩ := (wk F' H l.fw l.pt.wf.fh i).1 _ hd
    rw [List.drop_eq_getElem_cons hlt] at hr
    simp only [compLoop] at hr
    split at hr
    · rename_i o s4 hst
      split at hr
      · rename_i ys' s5 hrest
        cases hr
        refine ⟨w1, fun H'' => ∃ F'' O'', LI K Fb Hb Ob Fw D (acc ++ o) F'' O'' (wipeE s4 vs) (wipe σ vs) H'', fun H'' ⟨F'', O'', l2⟩ => ⟨ds.length - (i + 1), by omega, rfl, hlt, acc ++ o, ys', F'', O'', s4, l2, hrest, by rw [List.append_assoc]; exact hys⟩, fun x H' y => ?_⟩
        obtain ⟨F2, mk⟩ := w2 x H' y
        have hlen : acc.length + o.length ≤ acc0.length + ys.length := by
          have := congrArg List.length hys
          simp only [List.length_append] at this
          omega
        refine hbody ds[i] x o s' s4 acc F2 O' H' _ hst (l.go (mk.ext (O := O')) ⟨mk.wf l.pt.wf, mk.env l.pt.wf l.pt.er⟩) (rep_nil (A := []) ?_ mk.r).2 hlen fun H'' F'' O'' q => ⟨F'', O'', q⟩
        have := mk.r
        cases hdd : ds[i] with
        | lst ow xs => cases ow with
          | false => rfl
          | true => rw [hdd] at this; obtain ⟨a, _, _, e, _⟩ := this; cases e
        | dct ow t xs => cases ow with
          | false => rfl
          | true => rw [hdd] at this; obtain ⟨a, _, e, _⟩ := this; cases e
        | ins ow c fs => rw [hdd] at this; obtain ⟨_, e⟩ := this; simp [dat] at e
        | _ => rfl
      · cases hr
    · cases hr
  · left
    have e : i = ds.length := by omega
    subst e
    rw [List.drop_length] at hr
    simp only [compLoop] at hr
    cases hr
    rw [List.append_nil] at hys
    subst hys
    exact ⟨(wk F' H l.fw l.pt.wf.fh _).2 (Nat.le_refl _), hend F' O' H l⟩
end
abbrev W0 : WX := fun _ _ _ _ => False
abbrev stepE (Γ : FT) (t : Tg) (cs : Ts) (k : Env → R (List D)) (x : D) (s2 : Env) : R (List D) := match bindT t x s2 with
  | none => .bad
  | some s3 => (tests Γ cs s3).bind fun c s4 => if c = true then k s4 else .ok [] s4
section
variable {X : Cx} {Z : XS} {W : WX} {Γ : FT}
/-- a block begins: D is laid -/
theorem LI.start {K : Frag} {F1 H1 : Hp} {O1 : List Addr} {s1 : Env} {σ : L2.St} {D : Addr} (p : Pt K F1 O1 s1 σ H1) (hD : H1 D = none) (vs : List Nat) : ∃ O', LI K F1 H1 O1 F1 D [] F1 O' (wipeE s1 vs) (wipe σ vs) (upd H1 D (.lst [])) := by
  obtain ⟨O', x, p2⟩ := p.wipe vs (σ' := wipe σ vs) (wipe_length _ _) fun i hi => wipe_out hi
  have fd : F1 D = none := same_none p.wf.fh hD
  have od : D ∉ O' := fun z => p2.wf.oh D z hD
  refine ⟨O', ⟨⟨x.fm, fun a o h n => ?_, x.fnew, x.onew⟩, hD, ⟨⟨p2.wf.nd, fun a o h => ?_, p2.wf.of, fun a z => ?_⟩, erep_mono (Same.refl _) (fun a z => upd_ne fun e => od (by rw [← e]; exact z)) p2.er⟩, Same.refl _, fd, od, [], upd_same, by simp [datL]⟩⟩
  · rw [upd_ne (by intro e; rw [e, hD] at h; cases h)]; exact h
  · rw [upd_ne (by intro e; rw [e, fd] at h; cases h)]; exact p2.wf.fh a o h
  · rw [upd_ne (by intro e; exact od (by rw [← e]; exact z))]; exact p2.wf.oh a z
/-- .. and ends -/
theorem LI.stop {K : Frag} {F H F1 H1 F' H' : Hp} {O O1 O' : List Addr} {s1 se : Env} {σ : L2.St} {Q : VK} {D : Addr} {ys : List OM.D} {vs : List Nat} (hw : wantE K F H O σ Q (.lst true ys) (back vs s1 se)) (e1 : Ext F H O F1 H1 O1) (p1 : Pt K F1 O1 s1 σ H1)
    (l : LI K F1 H1 O1 F1 D ys F' O' (wipeE se vs) (wipe σ vs) H') : Q (.ref D) H' := by
  have p2 : Pt K F' O' (wipeE se vs) σ H' := l.pt.agree (wipe_length _ _).symm fun i d e => by
    rw [wipe_out]
    intro hi
    rw [sget_wipe hi] at e; cases e
  obtain ⟨O2, x2, p3⟩ := back_ok p1 l.ext.fm vs p2
  have l2 := l.go x2 p3
  obtain ⟨us, h1, h2⟩ := l2.at_
  refine hw (.ref D) [D] O2 F' H' (e1.trans ⟨l2.ext.fm, l2.ext.keep, l2.ext.fnew, fun a z => ?_⟩) ⟨?_, l2.pt.wf.fh, fun a z => ?_, fun a z => ?_⟩ p3.er ⟨D, us, rfl, rfl, h1, h2⟩
  · rcases List.mem_append.mp z with z | z
    · rw [List.mem_singleton.mp z]; exact .inr l2.hb
    · exact l2.ext.onew a z
  · exact List.nodup_append.mpr ⟨by simp, l2.pt.wf.nd, fun a ha b hb e => l2.od (by rw [← List.mem_singleton.mp ha, e]; exact hb)⟩
  · rcases List.mem_append.mp z with z | z
    · rw [List.mem_singleton.mp z]; exact l2.fd
    · exact l2.pt.wf.of a z
  · rcases List.mem_append.mp z with z | z
    · rw [List.mem_singleton.mp z, h1]; simp
    · exact l2.pt.wf.oh a z
/-- one turn: the target, the tests, the element -/
theorem turn_lc {K : Frag} {Fb Hb Fw F' H' : Hp} {Ob O' : List Addr} {D : Addr} {acc o : List OM.D} {s4 s : Env} {σ : L2.St} {vs : List Nat} {d : OM.D} {x : V} {t : Tg} {cs : Ts} {el : E} {Nx : Hp → Prop} {n : Nat}
    (htg : ∀ i ∈ tgs t, i ∈ vs) (hst : stepE Γ t cs (fun s4 => (ev Γ el s4).bind fun d s5 => .ok [frz d] s5) d (wipeE s vs) = .ok o s4) (l : LI K Fb Hb Ob Fw D acc F' O' (wipeE s vs) (wipe σ vs) H') (hd : dat K F' d x) (hn : acc.length + o.length ≤ n) (hm : n ≤ most)
    (hx : ∀ H'' F'' O'', LI K Fb Hb Ob Fw D (acc ++ o) F'' O'' (wipeE s4 vs) (wipe σ vs) H'' → Nx H'') :
    tG K t x (wipe σ vs) H' fun σ2 H2 => wipe σ2 vs = wipe σ vs ∧ tT K Z W0 (tests Γ cs) σ2 H2 fun b H3 => if b = true then tF K Z W0 (ev Γ el) σ2 H3 fun y H4 => ∃ acc, H4 D = some (.lst acc) ∧ acc.length < sizeLine ∧ Nx (upd H4 D (.lst (acc ++ [y]))) else Nx H3 := by
  unfold stepE at hst
  cases hb : bindT t d (wipeE s vs) with
  | none => rw [hb] at hst; cases hst
  | some s3 =>
    rw [hb] at hst
    simp only [] at hst
    refine use_tg l.pt hd hb fun σ2 O2 x2 p2 hl hk => ?_
    have l2 := l.go x2 p2
    have hw : wipe σ2 vs = wipe σ vs := by
      rw [wipe_eq (σ := wipe σ vs) hl fun i hi => hk i fun z => hi (htg i z)]
      exact wipe_eq (wipe_length _ _) fun i hi => wipe_out hi
    have hagree : ∀ i, i ∉ vs → (wipe σ vs)[i]? = σ2[i]? := fun i hi => (hk i fun z => hi (htg i z)).symm
    refine ⟨hw, F', O2, s3, p2, ?_⟩
    have hc : cov K Z W0 F' H' O2 σ2 ((tests Γ cs s3).bind fun c s4 => if c = true then (ev Γ el s4).bind fun d s5 => R.ok [frz d] s5 else .ok [] s4) fun a s' => a = o ∧ s' = s4 := by
      rw [hst]; exact ⟨rfl, rfl⟩
    refine (cov.bind hc).imp fun b s5 h5 O3 F3 H3 e3 p3 => ?_
    have l3 := l2.go e3 p3
    show (if b = true then _ else _)
    cases b with
    | false =>
      rw [if_neg (by decide)] at h5 ⊢
      obtain ⟨eo, es⟩ : [] = o ∧ s5 = s4 := h5
      subst eo es
      obtain ⟨O4, x4, p4⟩ := p3.wipe vs (σ' := wipe σ vs) hl.symm hagree
      rw [List.append_nil] at hx
      exact hx _ _ _ (l3.go x4 p4)
    | true =>
      rw [if_pos rfl] at h5 ⊢
      refine ⟨F3, O3, s5, p3, ((cov.bind h5).ext e3).imp fun d5 s6 h6 v O5 F5 H5 e5 p5 q5 => ?_⟩
      obtain ⟨eo, es⟩ : [frz d5] = o ∧ s6 = s4 := h6
      subst eo es
      obtain ⟨O6, x6, p6⟩ := p5.wipe vs (σ' := wipe σ vs) hl.symm hagree
      have l6 := (l3.go e5 p5).go x6 p6
      obtain ⟨us, h1, h2, h3⟩ := l6.add q5
      refine ⟨us, h1, ?_, hx _ _ _ h3⟩
      rw [List.length_singleton] at hn
      have : most = sizeLine := most_eq
      omega
theorem s_lc {elt tg iter : Expr} {ifs : List Expr} {scope : Scope} {own : List (Str × Nat)} {pos : Pos} {el it : E} {t : Tg} {cs : Ts} {vs : List Nat} (hc : X.calm = true) (hN : X.N.Nodup) (hi : PI X tg iter (tI X.K Z W it (ev Γ it))) (ok : BlkOk X.N X.env.scope scope own) (hv : own.map (·.2) = vs) (htg : ∀ i ∈ tgs t, i ∈ vs)
    (hg : ∀ (s : Shared) (H : Hp) (C : Addr) (cl : List (Str × Addr)) (fp : List Addr), PG (X.blk s H scope (compEnvC scope cl C X.env) fp) tg (tG X.K t)) (ht : ∀ (s : Shared) (H : Hp) (C : Addr) (cl : List (Str × Addr)) (fp : List Addr), PTs (X.blk s H scope (compEnvC scope cl C X.env) fp) ifs (tT X.K Z W0 (tests Γ cs)))
    (he : ∀ (s : Shared) (H : Hp) (C : Addr) (cl : List (Str × Addr)) (fp : List Addr), PE (X.blk s H scope (compEnvC scope cl C X.env) fp) elt (tF X.K Z W0 (ev Γ el))) (hs : ∀ x, foldedSetIterable iter X.env x = pure x) :
    PV X Z W Γ (.lc el t it cs vs) (.ListComp elt [⟨tg, iter, ifs, 0⟩] scope pos) ∧ ∀ σ H Q, tE X.K Z W (ev Γ (.lc el t it cs vs)) σ H Q → tLc (tI X.K Z W it (ev Γ it)) (tG X.K t) (tT X.K Z W0 (tests Γ cs)) (tF X.K Z W0 (ev Γ el)) (own.map (·.2)) σ H Q := by
  have key : ∀ σ H Q, tE X.K Z W (ev Γ (.lc el t it cs vs)) σ H Q → tLc (tI X.K Z W it (ev Γ it)) (tG X.K t) (tT X.K Z W0 (tests Γ cs)) (tF X.K Z W0 (ev Γ el)) (own.map (·.2)) σ H Q := fun σ H Q h => by
    obtain ⟨F, O, s, p, h⟩ := h
    simp only [ev] at h
    refine ⟨F, O, s, p, (cov.bind h).imp fun ds s1 h1 J O1 F1 H1 e1 p1 wk D hD => ?_⟩
    have h1 : cov X.K Z W F H O σ (compLoop vs (stepE Γ t cs fun s4 => (ev Γ el s4).bind fun d s5 => .ok [frz d] s5) ds s1) _ := cov.bind h1
    rw [hv]
    cases hr : compLoop vs (stepE Γ t cs fun s4 => (ev Γ el s4).bind fun d s5 => .ok [frz d] s5) ds s1 with
    | bad => rw [hr] at h1; exact h1.elim
    | exc x s2 => exact absurd hr compLoop_exc
    | ok ys se =>
      rw [hr] at h1
      have h1 : cov X.K Z W F H O σ (if ys.length ≤ most then R.ok (.lst true ys) (back vs s1 se) else .bad) (wantE X.K F H O σ Q) := h1
      split at h1
      · rename_i hlen
        obtain ⟨O', l0⟩ := LI.start p1 hD vs
        refine loop_core (B := fun x H' Nx => tG X.K t x (wipe σ vs) H' fun σ2 H2 => wipe σ2 vs = wipe σ vs ∧ tT X.K Z W0 (tests Γ cs) σ2 H2 fun b H3 => if b = true then tF X.K Z W0 (ev Γ el) σ2 H3 fun y H4 => ∃ acc, H4 D = some (.lst acc) ∧ acc.length < sizeLine ∧ Nx (upd H4 D (.lst (acc ++ [y]))) else Nx H3) wk hr l0 (fun d x o s s4 acc F' O' H' Nx hst l hd hn hx => ?_) fun F' O' H' l => ?_
        · rw [List.length_nil, Nat.zero_add] at hn
          exact turn_lc htg hst l hd hn hlen hx
        · rw [List.nil_append] at l
          exact LI.stop h1 e1 p1 l
      · exact h1.elim
  exact ⟨PE.imp (pe_lc hc hN hi ok hg ht he hs) key, key⟩
end
end OM


set_option autoImplicit false
set_option linter.all false
set_option maxRecDepth 100000
/-! S8: the forms against the program's text. -/
namespace OM
open PySem PySem.Spec PyProof.Rows L2

structure Tab where
  nms : List Str
  P : Prog
  frs : List Str
  gls : List (Str × D)
def visB (sc : Scope) (n : Str) : Bool := match sc.names.lookup n with
  | some .local => true
  | some .cell => true
  | some .free => true
  | _ => false
def glB (sc : Scope) (n : Str) : Bool := match sc.names.lookup n with
  | some .globalImplicit => true
  | _ => false
def stoB (so : Scope) (n : Str) : Bool := match so.names.lookup n with
  | some .local => true
  | some .cell => true
  | _ => false
def sEq (a b : Str) : Bool := decide (a = b)
def nIs (N : List Str) (i : Nat) (n : Str) : Bool := match N[i]? with
  | some m => sEq m n
  | none => false
def nmB (N : List Str) (sc : Scope) (i : Nat) (x : Expr) : Bool := match x with
  | .Name n _ => nIs N i n && visB sc n
  | _ => false
def cstB (d : D) (c : Const) : Bool := match d, c with
  | .non, .none => true
  | .bl a, .bool b => a == b
  | .int i, .int j => decide (i = j)
  | .str x, .str y => sEq x y
  | _, _ => false
def bopB (op : Bop) (o : Operator) : Bool := match op, o with
  | .add, .Add => true | .sub, .Sub => true | .mul, .Mult => true | .fdiv, .FloorDiv => true | .mod, .Mod => true | .pow, .Pow => true
  | _, _ => false
def copB (op : Cop) (o : CmpOp) : Bool := match op, o with
  | .eq, .Eq => true | .ne, .NotEq => true | .lt, .Lt => true | .le, .LtE => true | .gt, .Gt => true | .ge, .GtE => true
  | .inn, .In => true | .nin, .NotIn => true | .is_, .Is => true | .isn, .IsNot => true
  | _, _ => false
theorem bopB_eq {op : Bop} {o : Operator} (h : bopB op o = true) : o = opB op := by cases op <;> cases o <;> first | rfl | cases h
theorem copB_eq {op : Cop} {o : CmpOp} (h : copB op o = true) : o = opC op := by cases op <;> cases o <;> first | rfl | cases h
def notSet (x : Expr) : Bool := match x with
  | .Set .. => false
  | _ => true
def notSlice (x : Expr) : Bool := match x with
  | .Slice .. => false
  | _ => true
def notStar (x : Expr) : Bool := match x with
  | .Starred .. => false
  | _ => true
def notCall (x : Expr) : Bool := match x with
  | .Call .. => false
  | _ => true
/-- forms whose test is their value's -/
def truB (x : Expr) : Bool := match x with
  | .UnaryOp .. => false
  | .BoolOp .. => false
  | .IfExp .. => false
  | .Compare .. => false
  | _ => true
/-- a form with a value -/
def isV (e : E) : Bool := match e with
  | .mref _ => false
  | .rng1 _ => false
  | .rng2 _ _ => false
  | .enum _ => false
  | _ => true
def isVs : Es → Bool
  | .nil => true
  | .cons e r => isV e && isVs r
def isA (e : E) : Bool := match e with
  | .rng1 _ => false
  | .rng2 _ _ => false
  | .enum _ => false
  | _ => true
def isAs : Es → Bool
  | .nil => true
  | .cons e r => isA e && isAs r
def itOk (it : E) (tg : Expr) : Bool := match it with
  | .mref _ => false
  | .enum _ => (match tg with
    | .Tuple .. => true
    | _ => false)
  | _ => true
/-- built-ins called by name: a type?, the name -/
def bnC (f : Bn) : Option (Bool × String) := match f with
  | .len => some (false, "len")
  | .list => some (true, "list")
  | .tuple => some (true, "tuple")
  | .abs => some (false, "abs")
  | .min2 => some (false, "min")
  | .max2 => some (false, "max")
  | .int => some (true, "int")
  | .str => some (true, "str")
  | .any => some (false, "any")
  | .all => some (false, "all")
  | .sum => some (false, "sum")
  | _ => none
/-- isinstance of a type -/
def bnI (f : Bn) : Option String := match f with
  | .isInt => some "int"
  | .isBool => some "bool"
  | .isStr => some "str"
  | .isTuple => some "tuple"
  | .isList => some "list"
  | _ => none
/-- methods: the type, the name, the built-in -/
def bnM (f : Bn) : Option (String × String × String) := match f with
  | .split => some ("str", "split", "str.split")
  | .join => some ("str", "join", "str.join")
  | .partition => some ("str", "partition", "str.partition")
  | .get1 => some ("dict", "get", "dict.get")
  | _ => none
def ownN (N : List Str) (own : List Nat) : List (Str × Nat) := own.map fun i => (N.getD i ⟨#[]⟩, i)
def tgL (N : List Str) (so : Scope) : List Nat → List Expr → Bool
  | [], [] => true
  | i :: is, .Name n _ :: xs => nIs N i n && stoB so n && tgL N so is xs
  | _, _ => false
def tgB (N : List Str) (so : Scope) (t : Tg) (x : Expr) : Bool := match t, x with
  | .nm i, .Name n _ => nIs N i n && stoB so n
  | .tp is, .Tuple xs _ _ => tgL N so is xs
  | _, _ => false
def esLen : Es → Nat
  | .nil => 0
  | .cons _ r => esLen r + 1
def has (l : List Str) (x : Str) : Bool := l.any fun y => sEq y x

/-- the keys of a display: constants -/
def chkK : List D → List (Option Expr) → Bool
  | [], [] => true
  | d :: r, some (.Constant c _ _) :: t => isK d && cstB d c && chkK r t
  | _, _ => false
section
variable (B : Tab) (N : List Str)
mutual
def chkE (sc so : Scope) : E → Expr → Bool
  | .var i, x => nmB N sc i x
  | .mref i, x => nmB N sc i x
  | .cst d, x => (match x with
    | .Constant c _ _ => cstB d c
    | _ => false)
  | .glob g d, x => (match x with
    | .Name n _ => (match B.gls[g]? with
      | some (m, d') => sEq m n && glB sc n && (match d, d' with
        | .int i, .int j => decide (i = j)
        | .str a, .str b => sEq a b
        | _, _ => false)
      | none => false)
    | _ => false)
  | .tup es, x => (match x with
    | .Tuple xs _ _ => isVs es && decide (esLen es ≤ 1000) && chkEs sc so es xs
    | _ => false)
  | .lst es, x => (match x with
    | .List xs _ => isVs es && decide (esLen es ≤ 1000) && chkEs sc so es xs
    | _ => false)
  | .dnew _, x => (match x with
    | .Dict [] [] _ => true
    | _ => false)
  | .dsp ks vs, x => (match x with
    | .Dict keys values _ => isVs vs && chkK ks keys && decide (keys.length = values.length) && !keys.isEmpty && decide (keys.length ≤ 15) && chkEs sc so vs values
    | _ => false)
  | .neg e, x => (match x with
    | .UnaryOp .USub y _ => isV e && chkE sc so e y
    | _ => false)
  | .not c, x => (match c, x with
    | .v e, .UnaryOp .Not y _ => isV e && chkN sc so c y
    | _, _ => false)
  | .bin op a b, x => (match x with
    | .BinOp y o z _ => bopB op o && isV a && isV b && chkE sc so a y && chkE sc so b z
    | _ => false)
  | .cmp op a b, x => (match x with
    | .Compare y [o] [z] _ => copB op o && notSet z && isV a && isV b && chkE sc so a y && chkE sc so b z
    | _ => false)
  | .cmp2 o1 o2 a b c, x => (match x with
    | .Compare y [p, q] [z, w] _ => copB o1 p && copB o2 q && notSet w && isV a && isV b && isV c && chkE sc so a y && chkE sc so b z && chkE sc so c w
    | _ => false)
  | .and a b, x => (match x with
    | .BoolOp .And (y :: z :: r) p => isV a && isV b && chkE sc so a y && (match r with
      | [] => chkE sc so b z
      | _ :: _ => chkE sc so b (.BoolOp .And (z :: r) p))
    | _ => false)
  | .or a b, x => (match x with
    | .BoolOp .Or (y :: z :: r) p => isV a && isV b && chkE sc so a y && (match r with
      | [] => chkE sc so b z
      | _ :: _ => chkE sc so b (.BoolOp .Or (z :: r) p))
    | _ => false)
  | .ite c a b, x => (match x with
    | .IfExp t y z _ => isV a && isV b && chkT sc so c t && chkE sc so a y && chkE sc so b z
    | _ => false)
  | .ix a i, x => (match x with
    | .Subscript y z _ => notSlice z && isV a && isV i && chkE sc so a y && chkE sc so i z
    | _ => false)
  | .slL a i, x => (match x with
    | .Subscript y (.Slice (some z) none none _) _ => isV a && isV i && chkE sc so a y && chkE sc so i z
    | _ => false)
  | .slH a i, x => (match x with
    | .Subscript y (.Slice none (some z) none _) _ => isV a && isV i && chkE sc so a y && chkE sc so i z
    | _ => false)
  | .slB a i j, x => (match x with
    | .Subscript y (.Slice (some z) (some w) none _) _ => isV a && isV i && isV j && chkE sc so a y && chkE sc so i z && chkE sc so j w
    | _ => false)
  | .slR a, x => (match x with
    | .Subscript y (.Slice none none (some (.UnaryOp .USub (.Constant (.int i) _ _) _)) _) _ => decide (i = 1) && isV a && chkE sc so a y
    | _ => false)
  | .call f es, x => (match x with
    | .Call (.Name n _) (y :: ys) [] _ => (match B.nms[f]?, B.P f with
      | some m, some fd => sEq m n && glB sc n && isAs es && (mrefPos es 0 == fd.mp) && decide (esLen es ≤ fd.np) && decide (fd.np ≤ esLen es + fd.dfl.length) && chkEs sc so es (y :: ys)
      | _, _ => false)
    | _ => false)
  | .b f es, x => (match x with
    | .Call (.Name n _) (y :: ys) [] _ => (match bnC f with
      | some (_, id) => sEq (Str.ofString id) n && glB sc n && has B.frs n && isVs es && chkEs sc so es (y :: ys)
      | none => (match bnI f, ys with
        | some ty, [.Name m _] => sEq (Str.ofString "isinstance") n && glB sc n && has B.frs n && sEq (Str.ofString ty) m && glB sc m && has B.frs m && isVs es && notStar y && chkEs sc so es [y]
        | _, _ => false))
    | _ => false)
  | .m f a es, x => (match x with
    | .Call (.Attribute o n apos) (y :: ys) [] cpos => (match bnM f with
      | some (_, nm, _) => sEq (Str.ofString nm) n && (apos.endLine == cpos.line) && notCall o && isV a && isVs es && decide (esLen es < 30) && chkE sc so a o && chkEs sc so es (y :: ys)
      | none => false)
    | _ => false)
  | .pop p, x => (match x with
    | .Call (.Attribute o n apos) [] [] cpos => nmB N sc p o && sEq "pop" n && (apos.endLine == cpos.line)
    | _ => false)
  | .popAt p e, x => (match x with
    | .Call (.Attribute o n apos) [y] [] cpos => nmB N sc p o && sEq "pop" n && (apos.endLine == cpos.line) && notStar y && isV e && chkE sc so e y
    | _ => false)
  | .app p e, x => (match x with
    | .Call (.Attribute o n apos) [y] [] cpos => nmB N sc p o && sEq "append" n && (apos.endLine == cpos.line) && notStar y && isV e && chkE sc so e y
    | _ => false)
  | .ext p e, x => (match x with
    | .Call (.Attribute o n apos) [y] [] cpos => nmB N sc p o && sEq "extend" n && (apos.endLine == cpos.line) && notStar y && isV e && chkE sc so e y
    | _ => false)
  | .rng1 a, x => (match x with
    | .Call (.Name n _) [y] [] _ => sEq "range" n && glB sc n && has B.frs n && notStar y && isV a && chkE sc so a y
    | _ => false)
  | .rng2 a b, x => (match x with
    | .Call (.Name n _) [y, z] [] _ => sEq "range" n && glB sc n && has B.frs n && notStar y && notStar z && isV a && isV b && chkE sc so a y && chkE sc so b z
    | _ => false)
  | .enum a, x => (match x with
    | .Call (.Name n _) [y] [] _ => sEq "enumerate" n && glB sc n && has B.frs n && notStar y && isV a && chkE sc so a y
    | _ => false)
  | .lc el t it cs own, x => (match x with
    | .ListComp elt [⟨tg, iter, ifs, .ofNat 0⟩] scope _ => itOk it tg && notSet iter && blkC N sc scope (ownN N own) && tgB N scope t tg && ((tgs t).all fun i => own.contains i) && isV el && chkE sc so it iter && chkTs (relS scope sc) scope cs ifs && chkE (relS scope sc) scope el elt
    | _ => false)
  | _, _ => false
def chkEs (sc so : Scope) : Es → List Expr → Bool
  | .nil, xs => (match xs with
    | [] => true
    | _ => false)
  | .cons e r, xs => (match xs with
    | x :: t => notStar x && chkE sc so e x && chkEs sc so r t
    | [] => false)
def chkT (sc so : Scope) : T → Expr → Bool
  | .not c, x => (match x with
    | .UnaryOp .Not y _ => chkT sc so c y
    | _ => false)
  | .and a b, x => (match x with
    | .BoolOp .And (y :: z :: r) p => chkT sc so a y && (match r with
      | [] => chkT sc so b z
      | _ :: _ => chkT sc so b (.BoolOp .And (z :: r) p))
    | _ => false)
  | .or a b, x => (match x with
    | .BoolOp .Or (y :: z :: r) p => chkT sc so a y && (match r with
      | [] => chkT sc so b z
      | _ :: _ => chkT sc so b (.BoolOp .Or (z :: r) p))
    | _ => false)
  | .v e, x => (match x with
    | .Compare .. => isV e && (match e with
      | .cmp .. => true
      | .cmp2 .. => true
      | _ => false) && chkE sc so e x
    | _ => truB x && isV e && chkE sc so e x)
/-- the operand of a not that is a value -/
def chkN (sc so : Scope) : T → Expr → Bool
  | .v e, x => chkE sc so e x
  | _, _ => false
def chkTs (sc so : Scope) : Ts → List Expr → Bool
  | .nil, xs => (match xs with
    | [] => true
    | _ => false)
  | .cons c r, xs => (match r, xs with
    | .nil, [x] => chkT sc so c x
    | _, _ => false)
end
end
end OM


set_option autoImplicit false
set_option linter.all false
set_option maxRecDepth 100000
/-! S9: what the check says is so: expressions. -/
namespace OM
open PySem PySem.Spec PyProof.Rows L2

structure Good (B : Tab) (N : List Str) (Z : XS) (Γ : FT) (n : Nat) (X : Cx) (W : WX) (sc so : Scope) : Prop where
  tk : Takes X W
  room : Room n X.A
  calm : X.calm = true
  nN : X.N = N
  nd : N.Nodup
  dbg : ∀ x ∈ N, (x == ("__debug__" : Str)) = false ∧ (x == ("__classdict__" : Str)) = false
  sc_ : X.env.scope = sc
  sto : ∀ x, stoB so x = true → Loc X.env.scope x ∧ (X.fn x = true ∨ X.env.scope.names.lookup x = some .local)
  free : ∀ x ∈ B.frs, X.mg x = none
  funs : ∀ f fd nm, B.P f = some fd → B.nms[f]? = some nm → (nm == ("__debug__" : Str)) = false ∧ ∃ φ, FnG X Z n nm fd φ ∧ ∀ ds, Γ f ds = if ds.length ≤ fd.np ∧ fd.np ≤ ds.length + fd.dfl.length then φ (ds ++ fd.dfl.drop (ds.length + fd.dfl.length - fd.np)) else .bad
  glb : ∀ (g : Nat) nm d, B.gls[g]? = some (nm, d) → (nm == ("__debug__" : Str)) = false ∧ ∃ u v, X.mg nm = some u ∧ RelV v u ∧ ∀ F, dat X.K F d v
theorem Good.blk {B : Tab} {N : List Str} {Z : XS} {Γ : FT} {n : Nat} {X : Cx} {W : WX} {sc so : Scope} (g : Good B N Z Γ n X W sc so) (s : Shared) (H : Hp) (scope : Scope) (C : Addr) (cl : List (Str × Addr)) (fp : List Addr) :
    Good B N Z Γ n (X.blk s H scope (compEnvC scope cl C X.env) fp) W0 (relS scope sc) scope where
  tk := takes0
  room := g.room
  calm := g.calm
  nN := g.nN
  nd := g.nd
  dbg := g.dbg
  sc_ := by rw [← g.sc_]; rfl
  sto := fun x hx => by
    unfold stoB at hx
    split at hx
    · rename_i h
      have := lookup_relS_keep (sc := X.env.scope) (by decide) h
      exact ⟨.inl this, .inr this⟩
    · rename_i h
      have := lookup_relS_keep (sc := X.env.scope) (by decide) h
      refine ⟨.inr this, .inl ?_⟩
      show (scope.names.lookup x == some .cell) = true
      rw [h]; rfl
    · cases hx
  free := g.free
  funs := g.funs
  glb := g.glb
/-- what a form is good for -/
def Snd (Z : XS) (Γ : FT) (X : Cx) (W : WX) (e : E) (x : Expr) : Prop := match e with
  | .var i => PE X x (tVar i)
  | .mref i => PE X x (tVar i)
  | .rng1 a => ∀ tg, PI X tg x (tI X.K Z W (.rng1 a) (ev Γ (.rng1 a)))
  | .rng2 a b => ∀ tg, PI X tg x (tI X.K Z W (.rng2 a b) (ev Γ (.rng2 a b)))
  | .enum a => ∀ es k p, PI X (.Tuple es k p) x (tI X.K Z W (.enum a) (ev Γ (.enum a)))
  | .lc el t it cs vs => PV X Z W Γ (.lc el t it cs vs) x ∧ True
  | e => PV X Z W Γ e x
section
variable {Z : XS} {Γ : FT} {X : Cx} {W : WX} {e : E} {x : Expr}
theorem Snd.v (h : Snd Z Γ X W e x) (hv : isV e = true) : PV X Z W Γ e x := by
  cases e with
  | var i => exact PE.imp h fun σ H Q q => tVar_E (by simpa only [ev] using q)
  | mref i => cases hv
  | rng1 a => cases hv
  | rng2 a b => cases hv
  | enum a => cases hv
  | lc => exact h.1
  | _ => exact h
theorem Snd.o (h : Snd Z Γ X W e x) (hv : isV e = true) : PO' X Z W Γ e x := by
  cases e with
  | var i => exact h
  | mref i => cases hv
  | rng1 a => cases hv
  | rng2 a b => cases hv
  | enum a => cases hv
  | lc => exact s_F h.1
  | _ => exact s_F h
theorem Snd.a (h : Snd Z Γ X W e x) (hv : itOk e (.Tuple [] 0 ⟨0, 0, 0, 0⟩) = true ∧ isV e = true ∨ ∃ i, e = .mref i) : PE X x (tA X.K Z W e (ev Γ e)) := by
  cases e with
  | mref i => exact h
  | rng1 a => rcases hv with ⟨_, h⟩ | ⟨i, h⟩ <;> cases h
  | rng2 a b => rcases hv with ⟨_, h⟩ | ⟨i, h⟩ <;> cases h
  | enum a => rcases hv with ⟨_, h⟩ | ⟨i, h⟩ <;> cases h
  | var i => exact s_F (Snd.v (e := .var i) h rfl)
  | lc => exact s_F h.1
  | _ => exact s_F h
theorem Snd.i (h : Snd Z Γ X W e x) {tg : Expr} (hv : itOk e tg = true) : PI X tg x (tI X.K Z W e (ev Γ e)) := by
  cases e with
  | mref i => cases hv
  | rng1 a => exact h tg
  | rng2 a b => exact h tg
  | enum a => cases tg <;> first | exact h _ _ _ | cases hv
  | var i => exact s_walk (fun s => rfl) (Snd.v (e := .var i) h rfl)
  | lc => exact s_walk (fun s => rfl) h.1
  | _ => exact s_walk (fun s => rfl) h
end

/-! ### side conditions by form -/
theorem star_ne {x : Expr} {r : List Expr} {env : PySem.Env} (h : notStar x = true) : starEach (x :: r) env = (false, eval x env) :: starEach r env := by
  cases x <;> first | rfl | cases h
theorem sEq_eq {a b : Str} (h : sEq a b = true) : a = b := of_decide_eq_true h
theorem has_mem {l : List Str} {x : Str} (h : has l x = true) : x ∈ l := by
  unfold has at h
  obtain ⟨y, hy, e⟩ := List.any_eq_true.mp h
  rw [← sEq_eq e]; exact hy
theorem glB_gl {X : Cx} {sc : Scope} {n : Str} (hs : X.env.scope = sc) (h : glB sc n = true) : Gl X n := by
  unfold glB at h
  split at h
  · rename_i e
    show X.env.scope.names.lookup n = _
    rw [hs]; exact e
  · cases h
theorem visB_vis {sc : Scope} {n : Str} (h : visB sc n = true) : Vis sc n := by
  unfold visB at h
  split at h
  · rename_i e; exact .inl e
  · rename_i e; exact .inr (.inl e)
  · rename_i e; exact .inr (.inr e)
  · cases h
theorem nIs_eq {N : List Str} {i : Nat} {n : Str} (h : nIs N i n = true) : N[i]? = some n := by
  unfold nIs at h
  split at h
  · rename_i m e; rw [e, sEq_eq h]
  · cases h
theorem slice_ne {x : Expr} (h : notSlice x = true) : PlainIx x := by
  cases x <;> first | (intro o i; rfl) | cases h
theorem marks_ne {op : CmpOp} {x : Expr} (h : notSet x = true) : behindInMarks op x = false := by
  cases x <;> first | rfl | cases h
theorem fold_ne {x : Expr} {env : PySem.Env} (h : notSet x = true) : ∀ v, foldedSetIterable x env v = pure v := by
  cases x <;> first | (intro v; rfl) | cases h
theorem base_ne {x : Expr} {m : Str} {env : PySem.Env} {w : Sem Value} (h : notCall x = true) : attributeBase x m env w = w := by
  cases x <;> first | rfl | cases h
theorem truB_dflt {x : Expr} {env : PySem.Env} (h : truB x = true) : ∀ whole, PySem.isTrue x env whole = (do let v ← whole; standAt x.pos; holding [v] (truthy v)) := by
  cases x <;> first | (intro w; rfl) | cases h
theorem str_hash {a : String} : Str.ofString a = (a : Str) := rfl

section
variable {B : Tab} {N : List Str} {Z : XS} {Γ : FT} {n : Nat} {X : Cx} {W : WX} {sc so : Scope}
theorem Good.name (g : Good B N Z Γ n X W sc so) {i : Nat} {x : Expr} (h : nmB N sc i x = true) : PE X x (tVar i) := by
  unfold nmB at h
  split at h
  · rename_i m p
    simp only [Bool.and_eq_true] at h
    have e := nIs_eq h.1
    obtain ⟨d1, d2⟩ := g.dbg m (List.mem_of_getElem? e)
    exact pe_var (by rw [g.nN]; exact e) (by rw [g.sc_]; exact visB_vis h.2) d1 d2
  · cases h
theorem name_notCall {i : Nat} {x : Expr} (h : nmB N sc i x = true) : notCall x = true := by
  unfold nmB at h
  split at h
  · rfl
  · cases h
theorem Good.target (g : Good B N Z Γ n X W sc so) {i : Nat} {m : Str} {p : Pos} (h : (nIs N i m && stoB so m) = true) : PG X (.Name m p) (gName i) := by
  simp only [Bool.and_eq_true] at h
  obtain ⟨q1, q2⟩ := g.sto m h.2
  exact pg_name (by rw [g.nN]; exact g.nd) (by rw [g.nN]; exact nIs_eq h.1) q1 q2
theorem Good.targets (g : Good B N Z Γ n X W sc so) : ∀ {is : List Nat} {xs : List Expr}, tgL N so is xs = true → PGs X xs (gNames is) ∧ (assignEach xs X.env).length = is.length ∧ (assignEach xs X.env).findIdx? (·.1) = none
  | [], [], _ => ⟨pgs_nil, rfl, rfl⟩
  | [], _ :: _, h => by simp [tgL] at h
  | _ :: _, [], h => by simp [tgL] at h
  | i :: is, .Name m p :: xs, h => by
    simp only [tgL, Bool.and_eq_true] at h
    obtain ⟨q1, q2, q3⟩ := g.targets h.2
    refine ⟨pgs_cons (g.target (by simp only [Bool.and_eq_true]; exact h.1)) q1 rfl, ?_, ?_⟩
    · show ((false, assign (.Name m p) X.env) :: assignEach xs X.env).length = _
      rw [List.length_cons, q2, List.length_cons]
    · show ((false, assign (.Name m p) X.env) :: assignEach xs X.env).findIdx? (·.1) = none
      rw [List.findIdx?_cons]
      simp [q3]
theorem Good.tg (g : Good B N Z Γ n X W sc so) {t : Tg} {x : Expr} (h : tgB N so t x = true) : PG X x (tG X.K t) := by
  unfold tgB at h
  split at h
  · exact g.target h
  · obtain ⟨q1, q2, q3⟩ := g.targets h
    exact pg_tup g.calm q1 q2 q3
  · cases h
theorem cst_ok {d : D} {c : Const} {j : Nat} {p : Pos} (h : cstB d c = true) : ∃ v, (∀ F, dat X.K F d v) ∧ PE X (.Constant c j p) (tC v) := by
  unfold cstB at h
  split at h
  · exact ⟨.non, fun _ => rfl, pe_non⟩
  · rename_i a b
    rw [← (beq_iff_eq.mp h)]
    exact ⟨.bl a, fun _ => rfl, pe_bl⟩
  · rename_i a b
    rw [← of_decide_eq_true h]
    exact ⟨.int a, fun _ => rfl, pe_int⟩
  · rename_i a b
    rw [← sEq_eq h]
    exact ⟨.str a, fun _ => rfl, pe_str⟩
  · cases h
/-- the table of built-ins -/
theorem bnC_ok (hc : X.calm = true) {f : Bn} {t : Bool} {id : String} (h : bnC f = some (t, id)) : CallR X (if t = true then .type id else .builtin id) (rBn X.K f) ∧ bootBuiltins (Str.ofString id) = some (if t = true then .type id else .builtin id) ∧ (Str.ofString id) ≠ ("__name__" : Str) ∧ ((Str.ofString id) == ("__debug__" : Str)) = false := by
  cases f <;> simp only [bnC, Option.some.injEq, Prod.mk.injEq, reduceCtorEq] at h <;> obtain ⟨rfl, rfl⟩ := h
  · exact ⟨ok_len, by decide +kernel, by decide +kernel, by decide +kernel⟩
  · exact ⟨ok_list, by decide +kernel, by decide +kernel, by decide +kernel⟩
  · exact ⟨ok_tuple, by decide +kernel, by decide +kernel, by decide +kernel⟩
  · exact ⟨ok_sum hc, by decide +kernel, by decide +kernel, by decide +kernel⟩
  · exact ⟨ok_max2 hc, by decide +kernel, by decide +kernel, by decide +kernel⟩
  · exact ⟨ok_min2 hc, by decide +kernel, by decide +kernel, by decide +kernel⟩
  · exact ⟨ok_abs, by decide +kernel, by decide +kernel, by decide +kernel⟩
  · exact ⟨ok_int, by decide +kernel, by decide +kernel, by decide +kernel⟩
  · exact ⟨ok_str, by decide +kernel, by decide +kernel, by decide +kernel⟩
  · exact ⟨ok_any hc, by decide +kernel, by decide +kernel, by decide +kernel⟩
  · exact ⟨ok_all hc, by decide +kernel, by decide +kernel, by decide +kernel⟩
theorem bnI_ok {f : Bn} {ty : String} (h : bnI f = some ty) : CallR X (.builtin "isinstance") (fun vs H Q => ∃ v, vs = [v, .ty ty] ∧ rBn X.K f [v] H Q) ∧ bootBuiltins (Str.ofString ty) = some (.type ty) ∧ (Str.ofString ty) ≠ ("__name__" : Str) ∧ ((Str.ofString ty) == ("__debug__" : Str)) = false := by
  cases f <;> simp only [bnI, Option.some.injEq, reduceCtorEq] at h <;> subst h
  · exact ⟨ok_isInt, by decide +kernel, by decide +kernel, by decide +kernel⟩
  · exact ⟨ok_isBool, by decide +kernel, by decide +kernel, by decide +kernel⟩
  · exact ⟨ok_isStr, by decide +kernel, by decide +kernel, by decide +kernel⟩
  · exact ⟨ok_isTuple, by decide +kernel, by decide +kernel, by decide +kernel⟩
  · exact ⟨ok_isList, by decide +kernel, by decide +kernel, by decide +kernel⟩
theorem bnM_ok (hr : Room n X.A) {f : Bn} {T nm id : String} (h : bnM f = some (T, nm, id)) : PlainAttrs T ∧ Slot T (Str.ofString nm) id ∧ typeOf (.builtin id) = pure (.type "method_descriptor") ∧ MtR X id (rBm X.K f) ∧ ∀ F H d v, mOk f d = true → sees X.K F H d v → tyV X.K T v H := by
  cases f <;> simp only [bnM, Option.some.injEq, Prod.mk.injEq, reduceCtorEq] at h <;> obtain ⟨rfl, rfl, rfl⟩ := h
  · refine ⟨F.plainAttrs_str, F.slot_str_split, F.type_str_split, ok_split, fun F H d v hm hs => ?_⟩
    cases d <;> first | (cases hm; done) | (rw [sees_str] at hs; subst hs; rfl)
  · refine ⟨F.plainAttrs_str, F.slot_str_join, F.type_str_join, ok_join, fun F H d v hm hs => ?_⟩
    cases d <;> first | (cases hm; done) | (rw [sees_str] at hs; subst hs; rfl)
  · refine ⟨F.plainAttrs_str, F.slot_str_partition, F.type_str_partition, ok_partition, fun F H d v hm hs => ?_⟩
    cases d <;> first | (cases hm; done) | (rw [sees_str] at hs; subst hs; rfl)
  · refine ⟨F.plainAttrs_dict, F.slot_dict_get, F.type_dict_get, ok_get1 hr, fun F H d v hm hs => ?_⟩
    cases d <;> first | cases hm | skip
    obtain ⟨a, e, q⟩ := hs
    rw [e]
    exact .inr (.inr (.inl ⟨rfl, q.imp (fun ⟨_, l, h, _⟩ => ⟨l, h⟩) fun ⟨_, l, h, _⟩ => ⟨l, h⟩⟩))
end
end OM


set_option autoImplicit false
set_option linter.all false
set_option maxRecDepth 100000
set_option maxHeartbeats 1000000
/-! S10: what the check says is so: the induction over expressions. -/
namespace OM
open PySem PySem.Spec PyProof.Rows L2

section
variable {Z : XS} {Γ : FT} {X : Cx} {W : WX} {a : E} {es : Es} {f : Bn}
theorem use_m {K : Frag} {T : String} {σ : L2.St} {H : Hp} {Q : VK} (ty : ∀ F H d v, mOk f d = true → sees K F H d v → tyV K T v H) (h : tE K Z W (ev Γ (.m f a es)) σ H Q) : tBM K T (rBm K f) (tO K Z W a (ev Γ a)) (tOs K Z W Γ es) σ H Q := by
  obtain ⟨F, O, s, p, h⟩ := h
  simp only [ev] at h
  refine use_O p (cov.imp (cov.bind h) fun o s1 h1 v O1 F1 H1 e1 p1 q1 => ?_)
  split at h1
  · rename_i d r
    split at h1
    · rename_i hm
      refine ⟨ty _ _ _ _ hm (q1.sees p1 r), use_Os p1 (cov.imp ((cov.bind h1).ext e1) fun os s2 h2 vs O2 F2 H2 e2 p2 q2 => ?_)⟩
      split at h2
      · rename_i x ds r1 r2
        obtain ⟨d, e, h3⟩ := cov.lift h2
        exact ⟨F2, x :: ds, d, p2.wf.fh, ⟨v, vs, rfl, (q1.mono e2.fm).sees p2 r1, q2.sees p2 r2⟩, e, give h3 (e1.trans e2) p2⟩
      · exact h2.elim
    · exact h1.elim
  · exact h1.elim
end
theorem evs_len {Γ : FT} : ∀ {es : Es} {ds : List D} {s s1 : Env}, evs Γ es s = .ok ds s1 → ds.length = esLen es
  | .nil, ds, s, s1, h => by simp only [evs] at h; cases h; rfl
  | .cons e r, ds, s, s1, h => by
    simp only [evs] at h
    cases h1 : ev Γ e s with
    | bad => rw [h1] at h; cases h
    | exc x s2 => rw [h1] at h; cases h
    | ok d s2 =>
      rw [h1] at h
      have h : ((evs Γ r s2).bind fun ds s3 => R.ok (frz d :: ds) s3) = .ok ds s1 := h
      cases h2 : evs Γ r s2 with
      | bad => rw [h2] at h; cases h
      | exc x s3 => rw [h2] at h; cases h
      | ok ds' s3 =>
        rw [h2] at h
        cases h
        rw [List.length_cons, evs_len h2]; rfl
/-- lists of forms -/
inductive SndL (Z : XS) (Γ : FT) (X : Cx) (W : WX) : Es → List Expr → Prop where
  | nil : SndL Z Γ X W .nil []
  | cons {e : E} {r : Es} {x : Expr} {t : List Expr} : notStar x = true → Snd Z Γ X W e x → SndL Z Γ X W r t → SndL Z Γ X W (.cons e r) (x :: t)
section
variable {Z : XS} {Γ : FT} {X : Cx} {W : WX}
theorem SndL.os {es : Es} {xs : List Expr} (h : SndL Z Γ X W es xs) : isVs es = true → PA X xs (tOs X.K Z W Γ es) := by
  induction h with
  | nil => exact fun _ => pa_nil
  | cons h1 h2 h3 ih =>
    intro hv
    simp only [isVs, Bool.and_eq_true] at hv
    exact pa_cons (h2.o hv.1) (ih hv.2) (star_ne h1)
theorem SndL.fs {es : Es} {xs : List Expr} (h : SndL Z Γ X W es xs) : isVs es = true → PA X xs (tFs X.K Z W Γ es) := by
  induction h with
  | nil => exact fun _ => pa_nil
  | cons h1 h2 h3 ih =>
    intro hv
    simp only [isVs, Bool.and_eq_true] at hv
    exact pa_cons (s_F (h2.v hv.1)) (ih hv.2) (star_ne h1)
theorem Snd.a' {e : E} {x : Expr} (h : Snd Z Γ X W e x) (hv : isA e = true) : PE X x (tA X.K Z W e (ev Γ e)) := by
  cases e with
  | mref i => exact h
  | rng1 a => cases hv
  | rng2 a b => cases hv
  | enum a => cases hv
  | var i => exact s_F (Snd.v (e := .var i) h rfl)
  | lc => exact s_F h.1
  | _ => exact s_F h
theorem SndL.as {es : Es} {xs : List Expr} (h : SndL Z Γ X W es xs) : isAs es = true → PA X xs (tAs X.K Z W Γ es) := by
  induction h with
  | nil => exact fun _ => pa_nil
  | cons h1 h2 h3 ih =>
    intro hv
    simp only [isAs, Bool.and_eq_true] at hv
    exact pa_cons (h2.a' hv.1) (ih hv.2) (star_ne h1)
theorem SndL.len {es : Es} {xs : List Expr} (h : SndL Z Γ X W es xs) : xs.length = esLen es := by
  induction h with
  | nil => rfl
  | cons h1 h2 h3 ih => rw [List.length_cons, ih]; rfl
theorem SndL.plain {es : Es} {xs : List Expr} (h : SndL Z Γ X W es xs) (pos : Pos) (env : PySem.Env) : (backTo pos (starEach xs env)).any (·.1) = false := by
  induction h with
  | nil => rfl
  | cons h1 h2 h3 ih =>
    rw [star_ne h1]
    show (((false, _) :: backTo pos (starEach _ env)) : List (Bool × Sem Value)).any (·.1) = false
    rw [List.any_cons]
    simpa using ih
theorem SndL.few {es : Es} {xs : List Expr} (h : SndL Z Γ X W es xs) (hl : esLen es < 30) (pos : Pos) (env : PySem.Env) : ((backTo pos (starEach xs env)).all (fun x => !x.1) && (backToKw pos (keywordEach [] env)).all (fun x => x.1.isSome)
      && decide (xs.length + ([] : List Keyword).length + (if ([] : List Keyword).isEmpty then 0 else 1) < 30)) = true := by
  have h1 : (backTo pos (starEach xs env)).all (fun x => !x.1) = true := by
    have := h.plain pos env
    rw [List.any_eq_false] at this
    rw [List.all_eq_true]
    intro x hx
    have q := this x hx
    simpa using q
  rw [h1, h.len]
  show (true && true && decide (esLen es + 0 + 0 < 30)) = true
  simp [hl]
theorem SndL.held_len : ∀ {es : Es} {os : List (Option D)} {vs : List V} {K : Frag} {F : Hp} {σ : L2.St}, heldAs K F σ es os vs → vs.length = esLen es
  | .nil, os, vs, K, F, σ, h => by rw [show vs = [] from h]; rfl
  | .cons e r, os, vs, K, F, σ, h => by
    obtain ⟨o, os', v, t, e1, e2, h1, h2⟩ := h
    rw [e2, List.length_cons, SndL.held_len h2]; rfl
/-- tests -/
structure SndT (Z : XS) (Γ : FT) (X : Cx) (W : WX) (c : T) (x : Expr) : Prop where
  pt : PT X x (tT X.K Z W (evT Γ c))
  pw : ∀ op ys p, x = .BoolOp op ys p → PW X x (tT X.K Z W (evT Γ c))
theorem t_imp {f : Env → R Bool} {F H : Hp} {O : List Addr} {s : Env} {σ : L2.St} {K : Frag} {Q : Bool → Hp → Prop} (p : Pt K F O s σ H) (h : cov K Z W F H O σ (f s) fun b s1 => ∀ O1 F1 H1, Ext F H O F1 H1 O1 → Pt K F1 O1 s1 σ H1 → Q b H1) : tT K Z W f σ H Q := ⟨F, O, s, p, h⟩
theorem t_not {c : T} {x : Expr} {pos : Pos} (h : PT X x (tT X.K Z W (evT Γ c))) : PT X (.UnaryOp .Not x pos) (tT X.K Z W (evT Γ (.not c))) := PT.imp (pt_not h) fun σ H Q h => by
  obtain ⟨F, O, s, p, h⟩ := h
  simp only [evT] at h
  exact ⟨F, O, s, p, (cov.bind h).imp fun b s1 h1 => h1⟩
theorem t_and {a b : T} {K : Frag} {σ : L2.St} {H : Hp} {Q : Bool → Hp → Prop} (h : tT K Z W (evT Γ (.and a b)) σ H Q) : tAnd (tT K Z W (evT Γ a)) (tT K Z W (evT Γ b)) σ H Q := by
  obtain ⟨F, O, s, p, h⟩ := h
  simp only [evT] at h
  refine ⟨F, O, s, p, (cov.bind h).imp fun d s1 h1 O1 F1 H1 e1 p1 => ?_⟩
  cases d with
  | true =>
    simp only [if_true] at h1 ⊢
    exact ⟨F1, O1, s1, p1, (h1.ext e1).imp fun c s2 q O2 F2 H2 e2 p2 => q O2 F2 H2 (e1.trans e2) p2⟩
  | false => exact (show ∀ O1 F1 H1, Ext F H O F1 H1 O1 → Pt K F1 O1 s1 σ H1 → Q false H1 from h1) O1 F1 H1 e1 p1
theorem t_or {a b : T} {K : Frag} {σ : L2.St} {H : Hp} {Q : Bool → Hp → Prop} (h : tT K Z W (evT Γ (.or a b)) σ H Q) : tOr (tT K Z W (evT Γ a)) (tT K Z W (evT Γ b)) σ H Q := by
  obtain ⟨F, O, s, p, h⟩ := h
  simp only [evT] at h
  refine ⟨F, O, s, p, (cov.bind h).imp fun d s1 h1 O1 F1 H1 e1 p1 => ?_⟩
  cases d with
  | false =>
    have h1 : cov K Z W F H O σ (evT Γ b s1) _ := h1
    show (if false = true then Q true H1 else tT K Z W (evT Γ b) σ H1 Q)
    rw [if_neg (by decide)]
    exact ⟨F1, O1, s1, p1, (h1.ext e1).imp fun c s2 q O2 F2 H2 e2 p2 => q O2 F2 H2 (e1.trans e2) p2⟩
  | true => exact (show ∀ O1 F1 H1, Ext F H O F1 H1 O1 → Pt K F1 O1 s1 σ H1 → Q true H1 from h1) O1 F1 H1 e1 p1
theorem PTs.imp {e : List Expr} {t u : TT} (h : PTs X e t) (i : ∀ σ H Q, u σ H Q → t σ H Q) : PTs X e u := ⟨fun pins s σ H Q I q => h.run pins s σ H Q I (i σ H Q q)⟩
end
/-! ### dict displays -/
section
variable {Z : XS} {Γ : FT} {X : Cx} {W : WX}
def keysK : List D → Option (List Key)
  | [] => some []
  | d :: r => (keyK d).bind fun k => (keysK r).map (k :: ·)
def dspT (K : Frag) (Z : XS) (W : WX) (Γ : FT) : List Key → Es → List (TE × TE)
  | k :: ks, .cons e r => (tC (kV k), tF K Z W (ev Γ e)) :: dspT K Z W Γ ks r
  | _, _ => []
theorem pe_cst {d : D} {c : Const} {k : Key} {j : Nat} {p : Pos} (h : cstB d c = true) (e : keyK d = some k) : PE X (.Constant c j p) (tC (kV k)) := by
  unfold cstB at h
  split at h
  · cases e
  · cases e
  · cases e; rw [← of_decide_eq_true h]; exact pe_int
  · cases e; rw [← sEq_eq h]; exact pe_str
  · cases h
theorem pps_of {pos : Pos} : ∀ {ks : List D} {keys : List (Option Expr)} {vs : Es} {values : List Expr}, isVs vs = true → chkK ks keys = true → keys.length = values.length → SndL Z Γ X W vs values →
    ∃ kk, keysK ks = some kk ∧ PPs X pos keys values (dspT X.K Z W Γ kk vs) ∧ keys.all (·.isSome) = true ∧ kk.length = esLen vs ∧ ks.length = kk.length
  | [], [], vs, values, hv, hk, hl, hs => by
    cases hs with
    | nil => exact ⟨[], rfl, pps_nil, rfl, rfl, rfl⟩
    | cons _ _ _ => simp at hl
  | [], _ :: _, _, _, _, hk, _, _ => by simp [chkK] at hk
  | d :: r, [], _, _, _, hk, _, _ => by simp [chkK] at hk
  | d :: r, none :: t, _, _, _, hk, _, _ => by simp [chkK] at hk
  | d :: r, some x :: t, vs, values, hv, hk, hl, hs => by
    cases hs with
    | nil => simp at hl
    | cons h1 h2 h3 =>
      cases x with
      | Constant c j p =>
        simp only [chkK, Bool.and_eq_true] at hk
        obtain ⟨⟨k1, k2⟩, k3⟩ := hk
        simp only [isVs, Bool.and_eq_true] at hv
        obtain ⟨kk, e1, e2, e3, e4, e5⟩ := pps_of (pos := pos) hv.2 k3 (by simpa using hl) h3
        obtain ⟨k, ek⟩ := isK_key k1
        exact ⟨k :: kk, by simp only [keysK, ek, Option.bind_some, e1, Option.map_some], pps_cons (pe_cst k2 ek) (s_F (h2.v hv.1)) e2, by simp [e3], by rw [List.length_cons, e4]; rfl, by simp [e5]⟩
      | _ => simp [chkK] at hk
theorem use_pairs {K : Frag} {σ : L2.St} : ∀ {kk : List Key} {es : Es} {F H : Hp} {O : List Addr} {s : Env} {Q : List (V × V) → Hp → Prop}, kk.length = esLen es → Pt K F O s σ H →
    (cov K Z W F H O σ (evs Γ es s) fun ds s1 => ∀ vs O1 F1 H1, Ext F H O F1 H1 O1 → Pt K F1 O1 s1 σ H1 → datL K F1 ds vs → Q ((kk.map kV).zip vs) H1) → tPairs (dspT K Z W Γ kk es) σ H Q
  | [], .nil, F, H, O, s, Q, hl, p, h => (show _ from h) [] O F H Ext.refl p rfl
  | [], .cons _ _, _, _, _, _, _, hl, _, _ => by simp [esLen] at hl
  | _ :: _, .nil, _, _, _, _, _, hl, _, _ => by simp [esLen] at hl
  | k :: kk, .cons e r, F, H, O, s, Q, hl, p, h => by
    simp only [evs] at h
    refine ⟨F, O, s, p, cov.imp (cov.bind h) fun d s1 h1 v O1 F1 H1 e1 p1 q1 => ?_⟩
    refine use_pairs (by simpa [esLen] using hl) p1 (cov.imp ((cov.bind h1).ext e1) fun ds s2 h2 vs O2 F2 H2 e2 p2 q2 => ?_)
    exact (show _ from h2) (v :: vs) O2 F2 H2 (e1.trans e2) p2 (by simp only [datL]; exact ⟨v, vs, rfl, dat_mono e2.fm _ _ q1, q2⟩)
theorem zip_dat {K : Frag} {F : Hp} : ∀ {ks : List D} {ds : List D} {l : List (D × D)} {kk : List Key} {vs : List V}, zipD ks ds = some l → keysK ks = some kk → datL K F ds vs →
    (kk.map kV).zip vs = (kk.zip vs).map (fun kv => (kV kv.1, kv.2)) ∧ (kk.zip vs).length = ks.length ∧ ∀ (a : List (D × D)) (b : List (Key × V)), datK K F a b → datK K F (l.foldl (fun a kv => dput a kv.1 kv.2) a) ((kk.zip vs).foldl (fun acc kv => putK acc kv.1 kv.2) b)
  | [], [], l, kk, vs, hz, hk, hd => by
    simp only [zipD] at hz; cases hz
    simp only [keysK] at hk; cases hk
    simp only [datL] at hd; subst hd
    exact ⟨rfl, rfl, fun a b h => h⟩
  | [], _ :: _, _, _, _, hz, _, _ => by simp only [zipD] at hz; cases hz
  | _ :: _, [], _, _, _, hz, _, _ => by simp only [zipD] at hz; cases hz
  | k :: ks, d :: ds, l, kk, vs, hz, hk, hd => by
    simp only [zipD] at hz
    obtain ⟨l', hl', el⟩ := Option.map_eq_some_iff.mp hz
    subst el
    simp only [keysK] at hk
    cases hkk : keyK k with
    | none => rw [hkk] at hk; cases hk
    | some q =>
      rw [hkk, Option.bind_some] at hk
      obtain ⟨kk', hk', ek⟩ := Option.map_eq_some_iff.mp hk
      subst ek
      simp only [datL] at hd
      obtain ⟨v, t, ev, h1, h2⟩ := hd
      subst ev
      obtain ⟨i1, i2, i3⟩ := zip_dat hl' hk' h2
      refine ⟨by simp only [List.map_cons, List.zip_cons_cons, i1], by simp only [List.zip_cons_cons, List.length_cons, i2], fun a b h => ?_⟩
      simp only [List.zip_cons_cons, List.foldl_cons]
      exact i3 _ _ (datK_put h hkk h1)
theorem s_dsp {ks : List D} {vs : Es} {keys : List (Option Expr)} {values : List Expr} {pos : Pos} (hv : isVs vs = true) (hk : chkK ks keys = true) (hl : keys.length = values.length) (h0 : keys ≠ []) (h15 : keys.length ≤ 15) (hs : SndL Z Γ X W vs values) :
    PV X Z W Γ (.dsp ks vs) (.Dict keys values pos) := by
  obtain ⟨kk, e1, e2, e3, e4, e5⟩ := pps_of (pos := pos) hv hk hl hs
  refine PE.imp (pe_disp e2 e3 hl h0 h15) fun σ H Q h p hp => ?_
  obtain ⟨F, O, s, pt, h⟩ := h
  simp only [ev] at h
  have fp : F p = none := same_none pt.wf.fh hp
  have op : p ∉ O := fun z => pt.wf.oh p z hp
  have pt2 : Pt X.K F O s σ (upd H p (.dK [])) := ⟨⟨pt.wf.nd, fun a o z => by rw [upd_ne (by intro e; rw [e, fp] at z; cases z)]; exact pt.wf.fh a o z, pt.wf.of, fun a z => by rw [upd_ne (by intro e; exact op (by rw [← e]; exact z))]; exact pt.wf.oh a z⟩, erep_mono (Same.refl _) (fun a z => upd_ne fun e => op (by rw [← e]; exact z)) pt.er⟩
  have hc : cov X.K Z W F (upd H p (.dK [])) O σ (evs Γ vs s) fun ds s1 => cov X.K Z W F H O σ (lift ((zipD ks ds).map fun l => .dct true false (l.foldl (fun a kv => dput a kv.1 kv.2) [])) s1) (wantE X.K F H O σ Q) := by
    have h := cov.bind h
    cases hr : evs Γ vs s with
    | ok ds s1 => rw [hr] at h; exact h
    | bad => rw [hr] at h; exact h.elim
    | exc x s1 =>
      rw [hr] at h
      intro cls dd O1 F1 H1 e p1 z
      refine (show qx X.K Z W F H O σ x s1 from h) cls dd O1 F1 H1 ⟨e.fm, fun a o q n => e.keep a o (by rw [upd_ne (by intro e; rw [e, hp] at q; cases q)]; exact q) n, fun a q => (e.fnew a q).imp_right (_root_.Or.imp_right fun y => ?_), fun a q => (e.onew a q).imp_right fun y => ?_⟩ p1 z
      · by_cases ea : a = p
        · rw [ea]; exact hp
        · rw [upd_ne ea] at y; exact y
      · by_cases ea : a = p
        · rw [ea]; exact hp
        · rw [upd_ne ea] at y; exact y
  refine use_pairs e4 pt2 (hc.imp fun ds s1 h1 us O1 F1 H1 x1 p1 q1 => ?_)
  obtain ⟨d, ed, h2⟩ := cov.lift h1
  obtain ⟨l, hz, ed⟩ := Option.map_eq_some_iff.mp ed
  subst ed
  obtain ⟨i1, i2, i3⟩ := zip_dat hz e1 q1
  have hp1 : H1 p = some (.dK []) := x1.keep p _ upd_same op
  have fp1 : F1 p = none := by
    cases hf : F1 p with
    | none => rfl
    | some o =>
      rcases x1.fnew p (by rw [hf]; simp) with y | y | y
      · exact absurd fp y
      · exact absurd y op
      · rw [upd_same] at y; cases y
  have op1 : p ∉ O1 := fun z => by
    rcases x1.onew p z with y | y
    · exact op y
    · rw [upd_same] at y; cases y
  have hkl : keys.length = ks.length := by
    have : ∀ (ks : List D) (keys : List (Option Expr)), chkK ks keys = true → keys.length = ks.length := by
      intro ks
      induction ks with
      | nil => intro keys h; cases keys <;> simp [chkK] at h ⊢
      | cons d r ih =>
        intro keys h
        cases keys with
        | nil => simp [chkK] at h
        | cons x t =>
          cases x with
          | none => simp [chkK] at h
          | some y =>
            cases y <;> simp [chkK] at h
            simp [ih _ h.2]
    exact this ks keys hk
  refine ⟨hp1, kk.zip us, i1, by rw [i2, ← hkl]; exact h15, h2 (.ref p) [p] O1 F1 _ ⟨x1.fm, fun a o q n => ?_, fun a q => (x1.fnew a q).imp_right (_root_.Or.imp_right fun y => ?_), fun a q => ?_⟩ ⟨List.nodup_append.mpr ⟨by simp, p1.wf.nd, fun a ha b hb e => op1 (by rw [← List.mem_singleton.mp ha, e]; exact hb)⟩, fun a o q => ?_, fun a q => ?_, fun a q => ?_⟩
    (erep_mono (Same.refl _) (fun a z => upd_ne fun e => op1 (by rw [← e]; exact z)) p1.er) ⟨p, rfl, rfl, .inl ⟨rfl, _, upd_same, i3 [] [] (by simp [datK])⟩⟩⟩
  · rw [upd_ne (by intro e; rw [e, hp] at q; cases q)]
    exact x1.keep a o (by rw [upd_ne (by intro e; rw [e, hp] at q; cases q)]; exact q) n
  · by_cases ea : a = p
    · rw [ea]; exact hp
    · rw [upd_ne ea] at y; exact y
  · rcases List.mem_append.mp q with y | y
    · rw [List.mem_singleton.mp y]; exact .inr hp
    · refine (x1.onew a y).imp_right fun y => ?_
      by_cases ea : a = p
      · rw [ea]; exact hp
      · rw [upd_ne ea] at y; exact y
  · rw [upd_ne (by intro e; rw [e, fp1] at q; cases q)]
    exact p1.wf.fh a o q
  · rcases List.mem_append.mp q with y | y
    · rw [List.mem_singleton.mp y]; exact fp1
    · exact p1.wf.of a y
  · rcases List.mem_append.mp q with y | y
    · rw [List.mem_singleton.mp y, upd_same]; simp
    · by_cases ea : a = p
      · rw [ea, upd_same]; simp
      · rw [upd_ne ea]; exact p1.wf.oh a y
end
end OM


set_option autoImplicit false
set_option linter.all false
set_option maxRecDepth 100000
set_option maxHeartbeats 4000000
namespace OM
open PySem PySem.Spec PyProof.Rows L2
section
variable {B : Tab} {N : List Str} {Z : XS} {Γ : FT} {n : Nat}
theorem ok_call {X : Cx} {W : WX} {sc so : Scope} (g : Good B N Z Γ n X W sc so) {f : Nat} {es : Es} {nm : Str} {p : Pos} {y : Expr} {ys : List Expr} {pos : Pos} {m : Str} {fd : FDef} (h1 : B.nms[f]? = some m) (h2 : B.P f = some fd) (h3 : (sEq m nm && glB sc nm && isAs es && (mrefPos es 0 == fd.mp) && decide (esLen es ≤ fd.np) && decide (fd.np ≤ esLen es + fd.dfl.length)) = true)
    (h4 : SndL Z Γ X W es (y :: ys)) : PV X Z W Γ (.call f es) (.Call (.Name nm p) (y :: ys) [] pos) := by
  simp only [Bool.and_eq_true, decide_eq_true_eq, beq_iff_eq] at h3
  obtain ⟨⟨⟨⟨⟨q1, q2⟩, q3⟩, q4⟩, q5⟩, q6⟩ := h3
  have e := sEq_eq q1
  subst e
  obtain ⟨d1, φ, G, hΓ⟩ := g.funs f fd m h2 h1
  have hl := h4.len
  have pa := h4.as q3
  cases h4 with
  | cons s1 s2 s3 =>
    exact s_call g.tk g.room G hΓ (glB_gl g.sc_ q2) q4 (by rw [hl]; exact ⟨q5, q6⟩) (fun os vs F σ hh => by rw [hl]; exact SndL.held_len hh) d1 (star_ne s1) (SndL.plain s3 _ _) pa
theorem ok_b {X : Cx} {W : WX} {sc so : Scope} (g : Good B N Z Γ n X W sc so) {f : Bn} {es : Es} {nm : Str} {p : Pos} {y : Expr} {ys : List Expr} {pos : Pos} {t : Bool} {id : String} (h1 : bnC f = some (t, id)) (h3 : (sEq (Str.ofString id) nm && glB sc nm && has B.frs nm && isVs es) = true)
    (h4 : SndL Z Γ X W es (y :: ys)) : PV X Z W Γ (.b f es) (.Call (.Name nm p) (y :: ys) [] pos) := by
  simp only [Bool.and_eq_true] at h3
  obtain ⟨⟨⟨q1, q2⟩, q3⟩, q4⟩ := h3
  have e := sEq_eq q1
  subst e
  obtain ⟨c1, c2, c3, c4⟩ := bnC_ok g.calm h1
  have pa := h4.os q4
  cases h4 with
  | cons s1 s2 s3 =>
    cases t with
    | true => exact PE.imp (pe_callTy c1 (glB_gl g.sc_ q2) (g.free _ (has_mem q3)) c2 pa c3 c4 (star_ne s1) (SndL.plain s3 _ _)) fun σ H Q q => use_bn q
    | false => exact PE.imp (pe_callB c1 (glB_gl g.sc_ q2) (g.free _ (has_mem q3)) c2 pa c3 c4 (star_ne s1) (SndL.plain s3 _ _)) fun σ H Q q => use_bn q
theorem ok_isi {X : Cx} {W : WX} {sc so : Scope} (g : Good B N Z Γ n X W sc so) {f : Bn} {es : Es} {nm m : Str} {p p2 : Pos} {y : Expr} {pos : Pos} {ty : String} (h1 : bnI f = some ty) (h3 : (sEq (Str.ofString "isinstance") nm && glB sc nm && has B.frs nm && sEq (Str.ofString ty) m && glB sc m && has B.frs m && isVs es && notStar y) = true)
    (h4 : SndL Z Γ X W es [y]) : PV X Z W Γ (.b f es) (.Call (.Name nm p) [y, .Name m p2] [] pos) := by
  simp only [Bool.and_eq_true] at h3
  obtain ⟨⟨⟨⟨⟨⟨⟨q1, q2⟩, q3⟩, q4⟩, q5⟩, q6⟩, q7⟩, q8⟩ := h3
  have e := sEq_eq q1
  subst e
  have e := sEq_eq q4
  subst e
  obtain ⟨c1, c2, c3, c4⟩ := bnI_ok (X := X) h1
  cases h4 with
  | cons s1 s2 s3 =>
    cases s3
    rename_i e
    simp only [isVs, Bool.and_eq_true] at q7
    have pa : PA X [y, .Name (Str.ofString ty) p2] (tCons (tO X.K Z W e (ev Γ e)) (tCons (tC (.ty ty)) tNil)) :=
      pa_cons (s2.o q7.1) (pa_cons (pe_bltn (glB_gl g.sc_ q5) (g.free _ (has_mem q6)) c2 rfl c3 c4) pa_nil rfl) (star_ne s1)
    refine PE.imp (pe_callB c1 (glB_gl g.sc_ q2) (g.free _ (has_mem q3)) (by decide +kernel) pa (by decide +kernel) (by decide +kernel) (star_ne s1) rfl) fun σ H Q h => ?_
    obtain ⟨F, O, s, pt, h⟩ := h
    simp only [ev, evOps] at h
    have h := cov.bind (cov.bind h)
    refine use_O pt (h.imp fun o s1 h1 v O1 F1 H1 e1 p1 q1 => ?_)
    have h1 : cov X.K Z W F H O σ (match rdOs (.cons e .nil) [o] s1 with
      | some ds => lift (bn f ds) s1
      | none => .bad) (wantE X.K F H O σ Q) := h1
    simp only [rdOs, Option.map_some] at h1
    cases hr : rdO e o s1 with
    | none => rw [hr] at h1; exact h1.elim
    | some d =>
      rw [hr] at h1
      obtain ⟨d2, e2, h3⟩ := cov.lift (show cov _ _ _ _ _ _ _ (lift (bn f [d]) s1) _ from h1)
      exact ⟨v, rfl, F1, [d], d2, p1.wf.fh, ⟨v, [], rfl, q1.sees p1 hr, rfl⟩, e2, give h3 e1 p1⟩
theorem ok_m {X : Cx} {W : WX} {sc so : Scope} (g : Good B N Z Γ n X W sc so) {f : Bn} {a : E} {es : Es} {nm : Str} {o y : Expr} {ys : List Expr} {apos cpos : Pos} {Tn nn id : String} (h1 : bnM f = some (Tn, nn, id)) (h3 : (sEq (Str.ofString nn) nm && (apos.endLine == cpos.line) && notCall o && isV a && isVs es && decide (esLen es < 30)) = true)
    (ho : Snd Z Γ X W a o) (h4 : SndL Z Γ X W es (y :: ys)) : PV X Z W Γ (.m f a es) (.Call (.Attribute o nm apos) (y :: ys) [] cpos) := by
  simp only [Bool.and_eq_true, decide_eq_true_eq] at h3
  obtain ⟨⟨⟨⟨⟨q1, q2⟩, q3⟩, q4⟩, q5⟩, q6⟩ := h3
  have e := sEq_eq q1
  subst e
  obtain ⟨c1, c2, c3, c4, c5⟩ := bnM_ok g.room h1
  have pa := h4.os q5
  have few := h4.few q6 cpos X.env
  cases h4 with
  | cons s1 s2 s3 =>
    exact PE.imp (pe_bm c1 c2 c3 c4 (ho.o q4) pa (base_ne q3) few q2 (star_ne s1) (SndL.plain s3 _ _)) fun σ H Q q => use_m c5 q

theorem and_tail {X : Cx} {W : WX} {b : E} {z : Expr} {r : List Expr} {p : Pos} {f : Expr → Bool} (h : (match r with
      | [] => f z
      | _ :: _ => f (.BoolOp .And (z :: r) p)) = true) (hv : isV b = true) (ok : ∀ x, f x = true → Snd Z Γ X W b x) : PV X Z W Γ b (.BoolOp .And (z :: r) p) := by
  cases r with
  | nil => exact pe_one ((ok _ h).v hv)
  | cons _ _ => exact (ok _ h).v hv
theorem or_tail {X : Cx} {W : WX} {b : E} {z : Expr} {r : List Expr} {p : Pos} {f : Expr → Bool} (h : (match r with
      | [] => f z
      | _ :: _ => f (.BoolOp .Or (z :: r) p)) = true) (hv : isV b = true) (ok : ∀ x, f x = true → Snd Z Γ X W b x) : PV X Z W Γ b (.BoolOp .Or (z :: r) p) := by
  cases r with
  | nil => exact pe_one ((ok _ h).v hv)
  | cons _ _ => exact (ok _ h).v hv
theorem andT_tail {X : Cx} {W : WX} {b : OM.T} {z : Expr} {r : List Expr} {p : Pos} {f : Expr → Bool} (h : (match r with
      | [] => f z
      | _ :: _ => f (.BoolOp .And (z :: r) p)) = true) (ok : ∀ x, f x = true → SndT Z Γ X W b x) : PW X (.BoolOp .And (z :: r) p) (tT X.K Z W (evT Γ b)) := by
  cases r with
  | nil => exact pw_and1 (ok _ h).pt
  | cons _ _ => exact (ok _ h).pw _ _ _ rfl
theorem orT_tail {X : Cx} {W : WX} {b : OM.T} {z : Expr} {r : List Expr} {p : Pos} {f : Expr → Bool} (h : (match r with
      | [] => f z
      | _ :: _ => f (.BoolOp .Or (z :: r) p)) = true) (ok : ∀ x, f x = true → SndT Z Γ X W b x) : PW X (.BoolOp .Or (z :: r) p) (tT X.K Z W (evT Γ b)) := by
  cases r with
  | nil => exact pw_or1 (ok _ h).pt
  | cons _ _ => exact (ok _ h).pw _ _ _ rfl

mutual
theorem okE : ∀ (e : E) {X : Cx} {W : WX} {sc so : Scope} {x : Expr}, Good B N Z Γ n X W sc so → chkE B N sc so e x = true → Snd Z Γ X W e x
  | .var i, X, W, sc, so, x, g, h => g.name (by simpa only [chkE] using h)
  | .mref i, X, W, sc, so, x, g, h => g.name (by simpa only [chkE] using h)
  | .cst d, X, W, sc, so, x, g, h => by
    simp only [chkE] at h
    split at h
    · obtain ⟨v, h1, h2⟩ := cst_ok (X := X) h
      exact s_cst h1 h2
    · cases h
  | .glob k d, X, W, sc, so, x, g, h => by
    simp only [chkE] at h
    split at h
    · rename_i nm p
      split at h
      · rename_i m d' hg
        simp only [Bool.and_eq_true] at h
        obtain ⟨⟨q1, q2⟩, q3⟩ := h
        have e := sEq_eq q1
        subst e
        obtain ⟨d1, u, v, g1, g2, g3⟩ := g.glb k m d' hg
        have ed : d = d' := by
          split at q3
          · rw [of_decide_eq_true q3]
          · rw [sEq_eq q3]
          · cases q3
        subst ed
        exact s_glob g3 (pe_glob (glB_gl g.sc_ q2) g1 g2 d1)
      · cases h
    · cases h
  | .tup es, X, W, sc, so, x, g, h => by
    simp only [chkE] at h
    split at h
    · simp only [Bool.and_eq_true, decide_eq_true_eq] at h
      exact s_tup (fun ds s s1 e => by rw [evs_len e]; exact Nat.le_trans h.1.2 (by decide)) ((okEs es g h.2).fs h.1.1)
    · cases h
  | .lst es, X, W, sc, so, x, g, h => by
    simp only [chkE] at h
    split at h
    · simp only [Bool.and_eq_true, decide_eq_true_eq] at h
      exact s_lst (fun ds s s1 e => by rw [evs_len e]; exact Nat.le_trans h.1.2 (by decide)) ((okEs es g h.2).fs h.1.1)
    · cases h
  | .dnew t, X, W, sc, so, x, g, h => by
    simp only [chkE] at h
    split at h
    · cases t with
      | false => exact s_dnewK
      | true => exact s_dnewT
    · cases h
  | .dsp ks vs, X, W, sc, so, x, g, h => by
    simp only [chkE] at h
    split at h
    · simp only [Bool.and_eq_true, decide_eq_true_eq, Bool.not_eq_true'] at h
      obtain ⟨⟨⟨⟨⟨q1, q2⟩, q3⟩, q4⟩, q5⟩, q6⟩ := h
      exact s_dsp q1 q2 q3 (by intro e; rw [e] at q4; cases q4) q5 (okEs vs g q6)
    · cases h
  | .neg e, X, W, sc, so, x, g, h => by
    simp only [chkE] at h
    split at h
    · simp only [Bool.and_eq_true] at h
      exact s_neg ((okE e g h.2).o h.1)
    · cases h
  | .not c, X, W, sc, so, x, g, h => by
    simp only [chkE] at h
    split at h
    · rename_i c' e y p
      simp only [Bool.and_eq_true] at h
      exact s_not ((okN (.v e) g h.2 e rfl).o h.1)
    · cases h
  | .bin op a b, X, W, sc, so, x, g, h => by
    simp only [chkE] at h
    split at h
    · simp only [Bool.and_eq_true] at h
      obtain ⟨⟨⟨⟨q1, q2⟩, q3⟩, q4⟩, q5⟩ := h
      rw [bopB_eq q1]
      exact s_bin ((okE a g q4).o q2) ((okE b g q5).o q3)
    · cases h
  | .cmp op a b, X, W, sc, so, x, g, h => by
    simp only [chkE] at h
    split at h
    · simp only [Bool.and_eq_true] at h
      obtain ⟨⟨⟨⟨⟨q1, q0⟩, q2⟩, q3⟩, q4⟩, q5⟩ := h
      rw [copB_eq q1]
      exact s_cmp g.room (marks_ne q0) ((okE a g q4).o q2) ((okE b g q5).o q3)
    · cases h
  | .cmp2 o1 o2 a b c, X, W, sc, so, x, g, h => by
    simp only [chkE] at h
    split at h
    · simp only [Bool.and_eq_true] at h
      obtain ⟨⟨⟨⟨⟨⟨⟨⟨q1, q2⟩, q3⟩, q4⟩, q5⟩, q6⟩, q7⟩, q8⟩, q9⟩ := h
      rw [copB_eq q1, copB_eq q2]
      exact s_cmp2 g.room (marks_ne q3) ((okE a g q7).o q4) ((okE b g q8).o q5) ((okE c g q9).o q6)
    · cases h
  | .and a b, X, W, sc, so, x, g, h => by
    simp only [chkE] at h
    split at h
    · simp only [Bool.and_eq_true] at h
      obtain ⟨⟨⟨q1, q2⟩, q3⟩, q4⟩ := h
      exact s_and ((okE a g q3).v q1) (and_tail (f := fun z => chkE B N sc so b z) q4 q2 fun x hx => okE b g hx)
    · cases h
  | .or a b, X, W, sc, so, x, g, h => by
    simp only [chkE] at h
    split at h
    · simp only [Bool.and_eq_true] at h
      obtain ⟨⟨⟨q1, q2⟩, q3⟩, q4⟩ := h
      exact s_or ((okE a g q3).v q1) (or_tail (f := fun z => chkE B N sc so b z) q4 q2 fun x hx => okE b g hx)
    · cases h
  | .ite c a b, X, W, sc, so, x, g, h => by
    simp only [chkE] at h
    split at h
    · simp only [Bool.and_eq_true] at h
      obtain ⟨⟨⟨⟨q1, q2⟩, q3⟩, q4⟩, q5⟩ := h
      exact s_ite (okT c g q3).pt ((okE a g q4).v q1) ((okE b g q5).v q2)
    · cases h
  | .ix a i, X, W, sc, so, x, g, h => by
    simp only [chkE] at h
    split at h
    · simp only [Bool.and_eq_true] at h
      obtain ⟨⟨⟨⟨q1, q2⟩, q3⟩, q4⟩, q5⟩ := h
      exact s_ix g.room (slice_ne q1) ((okE a g q4).o q2) ((okE i g q5).o q3)
    · cases h
  | .slL a i, X, W, sc, so, x, g, h => by
    simp only [chkE] at h
    split at h
    · simp only [Bool.and_eq_true] at h
      obtain ⟨⟨⟨q2, q3⟩, q4⟩, q5⟩ := h
      exact s_slL ((okE a g q4).o q2) ((okE i g q5).o q3)
    · cases h
  | .slH a i, X, W, sc, so, x, g, h => by
    simp only [chkE] at h
    split at h
    · simp only [Bool.and_eq_true] at h
      obtain ⟨⟨⟨q2, q3⟩, q4⟩, q5⟩ := h
      exact s_slH ((okE a g q4).o q2) ((okE i g q5).o q3)
    · cases h
  | .slB a i j, X, W, sc, so, x, g, h => by
    simp only [chkE] at h
    split at h
    · simp only [Bool.and_eq_true] at h
      obtain ⟨⟨⟨⟨⟨q1, q2⟩, q3⟩, q4⟩, q5⟩, q6⟩ := h
      exact s_slB ((okE a g q4).o q1) ((okE i g q5).o q2) ((okE j g q6).o q3)
    · cases h
  | .slR a, X, W, sc, so, x, g, h => by
    simp only [chkE] at h
    split at h
    · simp only [Bool.and_eq_true, decide_eq_true_eq] at h
      obtain ⟨⟨q1, q2⟩, q3⟩ := h
      subst q1
      exact s_slR ((okE a g q3).o q2)
    · cases h
  | .call f es, X, W, sc, so, x, g, h => by
    simp only [chkE] at h
    split at h
    · split at h
      · rename_i m fd h1 h2
        rw [Bool.and_eq_true] at h
        exact ok_call g h1 h2 h.1 (okEs es g h.2)
      · cases h
    · cases h
  | .b f es, X, W, sc, so, x, g, h => by
    simp only [chkE] at h
    split at h
    · split at h
      · rename_i t id h1
        rw [Bool.and_eq_true] at h
        exact ok_b g h1 h.1 (okEs es g h.2)
      · split at h
        · rename_i h1
          rw [Bool.and_eq_true] at h
          exact ok_isi g h1 h.1 (okEs es g h.2)
        · cases h
    · cases h
  | .m f a es, X, W, sc, so, x, g, h => by
    simp only [chkE] at h
    split at h
    · split at h
      · rename_i h1
        rw [Bool.and_eq_true, Bool.and_eq_true] at h
        exact ok_m g h1 h.1.1 (okE a g h.1.2) (okEs es g h.2)
      · cases h
    · cases h
  | .pop p, X, W, sc, so, x, g, h => by
    simp only [chkE] at h
    split at h
    · simp only [Bool.and_eq_true] at h
      obtain ⟨⟨q1, q2⟩, q3⟩ := h
      have e := sEq_eq q2
      subst e
      exact s_pop (g.name q1) (base_ne (name_notCall q1)) q3
    · cases h
  | .popAt p e, X, W, sc, so, x, g, h => by
    simp only [chkE] at h
    split at h
    · simp only [Bool.and_eq_true] at h
      obtain ⟨⟨⟨⟨⟨q1, q2⟩, q3⟩, q4⟩, q5⟩, q6⟩ := h
      have e := sEq_eq q2
      subst e
      exact s_popAt (g.name q1) (base_ne (name_notCall q1)) q3 (star_ne q4) ((okE e g q6).o q5)
    · cases h
  | .app p e, X, W, sc, so, x, g, h => by
    simp only [chkE] at h
    split at h
    · simp only [Bool.and_eq_true] at h
      obtain ⟨⟨⟨⟨⟨q1, q2⟩, q3⟩, q4⟩, q5⟩, q6⟩ := h
      have e := sEq_eq q2
      subst e
      exact s_app (g.name q1) (base_ne (name_notCall q1)) q3 (star_ne q4) ((okE e g q6).v q5)
    · cases h
  | .ext p e, X, W, sc, so, x, g, h => by
    simp only [chkE] at h
    split at h
    · simp only [Bool.and_eq_true] at h
      obtain ⟨⟨⟨⟨⟨q1, q2⟩, q3⟩, q4⟩, q5⟩, q6⟩ := h
      have e := sEq_eq q2
      subst e
      exact s_ext (g.name q1) (base_ne (name_notCall q1)) q3 (star_ne q4) ((okE e g q6).o q5)
    · cases h
  | .rng1 a, X, W, sc, so, x, g, h => by
    simp only [chkE] at h
    split at h
    · simp only [Bool.and_eq_true] at h
      obtain ⟨⟨⟨⟨⟨q1, q2⟩, q3⟩, q4⟩, q5⟩, q6⟩ := h
      have e := sEq_eq q1
      subst e
      exact fun tg => s_rng1 (glB_gl g.sc_ q2) (g.free _ (has_mem q3)) (star_ne q4) ((okE a g q6).o q5)
    · cases h
  | .rng2 a b, X, W, sc, so, x, g, h => by
    simp only [chkE] at h
    split at h
    · simp only [Bool.and_eq_true] at h
      obtain ⟨⟨⟨⟨⟨⟨⟨⟨q1, q2⟩, q3⟩, q4⟩, q5⟩, q6⟩, q7⟩, q8⟩, q9⟩ := h
      have e := sEq_eq q1
      subst e
      exact fun tg => s_rng2 (glB_gl g.sc_ q2) (g.free _ (has_mem q3)) (by rw [star_ne q4, star_ne q5]; rfl) (star_ne q5) ((okE a g q8).o q6) ((okE b g q9).o q7)
    · cases h
  | .enum a, X, W, sc, so, x, g, h => by
    simp only [chkE] at h
    split at h
    · simp only [Bool.and_eq_true] at h
      obtain ⟨⟨⟨⟨⟨q1, q2⟩, q3⟩, q4⟩, q5⟩, q6⟩ := h
      have e := sEq_eq q1
      subst e
      exact fun es k p => s_enum (glB_gl g.sc_ q2) (g.free _ (has_mem q3)) (star_ne q4) ((okE a g q6).v q5)
    · cases h
  | .lc el t it cs own, X, W, sc, so, x, g, h => by
    simp only [chkE] at h
    split at h
    · rename_i elt tg iter ifs scope pos
      simp only [Bool.and_eq_true, List.all_eq_true] at h
      obtain ⟨⟨⟨⟨⟨⟨⟨⟨q1, q2⟩, q3⟩, q4⟩, q5⟩, q6⟩, q7⟩, q8⟩, q9⟩ := h
      refine ⟨(s_lc (own := ownN N own) g.calm (by rw [g.nN]; exact g.nd) ((okE it g q7).i q1) (blkOk_by (by rw [g.nN, g.sc_]; exact q3)) ?_ (fun i hi => by simpa using q5 i hi)
        (fun s H C cl fp => (g.blk s H scope C cl fp).tg q4) (fun s H C cl fp => okTs cs (g.blk s H scope C cl fp) q8) (fun s H C cl fp => s_F ((okE el (g.blk s H scope C cl fp) q9).v q6)) (fold_ne q2)).1, trivial⟩
      unfold ownN
      rw [List.map_map]
      exact List.map_id own
    · cases h
  | .lc2 _ _ _ _ _ _ _ _ _, X, W, sc, so, x, g, h => by simp only [chkE] at h; cases h
  | .dc _ _ _ _ _ _ _, X, W, sc, so, x, g, h => by simp only [chkE] at h; cases h
theorem okEs : ∀ (es : Es) {X : Cx} {W : WX} {sc so : Scope} {xs : List Expr}, Good B N Z Γ n X W sc so → chkEs B N sc so es xs = true → SndL Z Γ X W es xs
  | .nil, X, W, sc, so, xs, g, h => by
    simp only [chkEs] at h
    split at h
    · exact .nil
    · cases h
  | .cons e r, X, W, sc, so, xs, g, h => by
    simp only [chkEs] at h
    split at h
    · simp only [Bool.and_eq_true] at h
      exact .cons h.1.1 (okE e g h.1.2) (okEs r g h.2)
    · cases h
theorem okT : ∀ (c : OM.T) {X : Cx} {W : WX} {sc so : Scope} {x : Expr}, Good B N Z Γ n X W sc so → chkT B N sc so c x = true → SndT Z Γ X W c x
  | .not c, X, W, sc, so, x, g, h => by
    simp only [chkT] at h
    split at h
    · exact ⟨t_not (okT c g h).pt, fun op ys p e => nomatch e⟩
    · cases h
  | .and a b, X, W, sc, so, x, g, h => by
    simp only [chkT] at h
    split at h
    · rename_i y z r p
      simp only [Bool.and_eq_true] at h
      have pw : PW X (.BoolOp .And (y :: z :: r) p) (tT X.K Z W (evT Γ (.and a b))) := PW.imp (pw_and (okT a g h.1).pt (andT_tail (f := fun z => chkT B N sc so b z) h.2 fun x hx => okT b g hx)) fun σ H Q q => t_and q
      exact ⟨pw.pt, fun op ys p' e => pw⟩
    · cases h
  | .or a b, X, W, sc, so, x, g, h => by
    simp only [chkT] at h
    split at h
    · rename_i y z r p
      simp only [Bool.and_eq_true] at h
      have pw : PW X (.BoolOp .Or (y :: z :: r) p) (tT X.K Z W (evT Γ (.or a b))) := PW.imp (pw_or (okT a g h.1).pt (orT_tail (f := fun z => chkT B N sc so b z) h.2 fun x hx => okT b g hx)) fun σ H Q q => t_or q
      exact ⟨pw.pt, fun op ys p' e => pw⟩
    · cases h
  | .v e, X, W, sc, so, x, g, h => by
    simp only [chkT] at h
    split at h
    · simp only [Bool.and_eq_true] at h
      obtain ⟨⟨q1, q2⟩, q3⟩ := h
      cases e with
      | cmp op a b =>
        simp only [chkE] at q3
        split at q3
        · simp only [Bool.and_eq_true] at q3
          obtain ⟨⟨⟨⟨⟨q1, q0⟩, q2⟩, q3⟩, q4⟩, q5⟩ := q3
          rename_i heq
          rw [heq, copB_eq q1]
          exact ⟨s_cmpT g.room (marks_ne q0) ((okE a g q4).o q2) ((okE b g q5).o q3), fun op ys p e => nomatch e⟩
        · cases q3
      | cmp2 o1 o2 a b c =>
        simp only [chkE] at q3
        split at q3
        · simp only [Bool.and_eq_true] at q3
          obtain ⟨⟨⟨⟨⟨⟨⟨⟨q1, q2⟩, q3⟩, q4⟩, q5⟩, q6⟩, q7⟩, q8⟩, q9⟩ := q3
          rename_i heq
          rw [heq, copB_eq q1, copB_eq q2]
          exact ⟨s_cmp2T g.room (marks_ne q3) ((okE a g q7).o q4) ((okE b g q8).o q5) ((okE c g q9).o q6), fun op ys p e => nomatch e⟩
        · cases q3
      | _ => cases q2
    · simp only [Bool.and_eq_true] at h
      exact ⟨s_truth ((okE e g h.2).o h.1.2) (truB_dflt h.1.1), fun op ys p e => by subst e; cases h.1.1⟩
theorem okN : ∀ (c : OM.T) {X : Cx} {W : WX} {sc so : Scope} {x : Expr}, Good B N Z Γ n X W sc so → chkN B N sc so c x = true → ∀ e, c = .v e → Snd Z Γ X W e x
  | .v e, X, W, sc, so, x, g, h, e', he => by
    cases he
    simp only [chkN] at h
    exact okE e g h
  | .not _, X, W, sc, so, x, g, h, e', he => nomatch he
  | .and _ _, X, W, sc, so, x, g, h, e', he => nomatch he
  | .or _ _, X, W, sc, so, x, g, h, e', he => nomatch he
theorem okTs : ∀ (cs : Ts) {X : Cx} {W : WX} {sc so : Scope} {xs : List Expr}, Good B N Z Γ n X W sc so → chkTs B N sc so cs xs = true → PTs X xs (tT X.K Z W (tests Γ cs))
  | .nil, X, W, sc, so, xs, g, h => by
    simp only [chkTs] at h
    split at h
    · refine PTs.imp pts_nil fun σ H Q h => ?_
      obtain ⟨F, O, s, p, h⟩ := h
      simp only [tests] at h
      exact (show ∀ O1 F1 H1, Ext F H O F1 H1 O1 → Pt X.K F1 O1 s σ H1 → Q true H1 from h) O F H Ext.refl p
    · cases h
  | .cons c r, X, W, sc, so, xs, g, h => by
    simp only [chkTs] at h
    split at h
    · refine PTs.imp (pts_one (okT c g h).pt) fun σ H Q h => ?_
      obtain ⟨F, O, s, p, h⟩ := h
      simp only [tests] at h
      refine ⟨F, O, s, p, (cov.bind h).imp fun b s1 h1 O1 F1 H1 e1 p1 => ?_⟩
      cases b with
      | true => exact (show ∀ O1 F1 H1, Ext F H O F1 H1 O1 → Pt X.K F1 O1 s1 σ H1 → Q true H1 from h1) O1 F1 H1 e1 p1
      | false => exact (show ∀ O1 F1 H1, Ext F H O F1 H1 O1 → Pt X.K F1 O1 s1 σ H1 → Q false H1 from h1) O1 F1 H1 e1 p1
    · cases h
end
end
end OM


set_option autoImplicit false
set_option linter.all false
set_option maxRecDepth 100000
set_option maxHeartbeats 1000000
/-! S12: statements, one by one. -/
namespace OM
open PySem PySem.Spec PyProof.Rows L2

def pin (mp : List Nat) (σ σ1 : L2.St) : Prop := σ1.length = σ.length ∧ ∀ i ∈ mp, σ1[i]? = σ[i]?
theorem pin.refl {mp : List Nat} {σ : L2.St} : pin mp σ σ := ⟨rfl, fun _ _ => rfl⟩
theorem pin.trans {mp : List Nat} {σ σ1 σ2 : L2.St} (a : pin mp σ σ1) (b : pin mp σ1 σ2) : pin mp σ σ2 := ⟨b.1.trans a.1, fun i h => (b.2 i h).trans (a.2 i h)⟩
theorem pin.set {mp : List Nat} {σ : L2.St} {i : Nat} {v : Option V} (h : i ∉ mp) : pin mp σ (σ.set i v) := ⟨by rw [List.length_set], fun j hj => List.getElem?_set_ne fun e => h (by rw [e]; exact hj)⟩
abbrev wantS (K : Frag) (F H : Hp) (O : List Addr) (mp : List Nat) (σ : L2.St) (k : L2.St → Hp → Prop) (s1 : Env) : Prop := ∀ σ1 O1 F1 H1, Ext F H O F1 H1 O1 → Pt K F1 O1 s1 σ1 H1 → pin mp σ σ1 → k σ1 H1
def endS (K : Frag) (F H : Hp) (O : List Addr) (mp : List Nat) (σ : L2.St) (D : Ends) (f : OM.F) (s1 : Env) : Prop := match f with
  | .next => wantS K F H O mp σ D.nx s1
  | .brk => wantS K F H O mp σ D.bk s1
  | .cnt => wantS K F H O mp σ D.ct s1
  | .ret d => ∀ v A σ1 O1 F1 H1, Ext F H O F1 H1 (A ++ O1) → Wf F1 H1 (A ++ O1) → erep K F1 H1 s1 σ1 O1 → pin mp σ σ1 → rep K F1 H1 d v A → D.rt v H1
def qxS (K : Frag) (Z : XS) (W : WX) (F H : Hp) (O : List Addr) (mp : List Nat) (σ : L2.St) (x : Exc) (s1 : Env) : Prop := ∀ cls dd σ1 O1 F1 H1, Ext F H O F1 H1 O1 → Pt K F1 O1 s1 σ1 H1 → pin mp σ σ1 → Z F1 x cls dd H1 → W cls dd σ1 H1
def covS (K : Frag) (Z : XS) (W : WX) (F H : Hp) (O : List Addr) (mp : List Nat) (σ : L2.St) (D : Ends) (r : R OM.F) : Prop := match r with
  | .ok f s1 => endS K F H O mp σ D f s1
  | .exc x s1 => qxS K Z W F H O mp σ x s1
  | .bad => False
def tS (K : Frag) (Z : XS) (W : WX) (mp : List Nat) (f : Env → R OM.F) : TS := fun D σ H => ∃ F O s, Pt K F O s σ H ∧ covS K Z W F H O mp σ D (f s)
section
variable {K : Frag} {Z : XS} {W : WX} {F H F1 H1 : Hp} {O O1 : List Addr} {mp : List Nat} {σ σ1 : L2.St} {D D' : Ends}
theorem wantS.go {k : L2.St → Hp → Prop} {s1 : Env} (h : wantS K F H O mp σ k s1) (e : Ext F H O F1 H1 O1) (p : pin mp σ σ1) : wantS K F1 H1 O1 mp σ1 k s1 := fun σ2 O2 F2 H2 e2 q p2 => h σ2 O2 F2 H2 (e.trans e2) q (p.trans p2)
theorem endS.go {f : OM.F} {s1 : Env} (h : endS K F H O mp σ D f s1) (e : Ext F H O F1 H1 O1) (p : pin mp σ σ1) : endS K F1 H1 O1 mp σ1 D f s1 := by
  cases f with
  | next => exact wantS.go h e p
  | brk => exact wantS.go h e p
  | cnt => exact wantS.go h e p
  | ret d => exact fun v A σ2 O2 F2 H2 e2 w r p2 q => h v A σ2 O2 F2 H2 (e.trans e2) w r (p.trans p2) q
theorem covS.go {r : R OM.F} (h : covS K Z W F H O mp σ D r) (e : Ext F H O F1 H1 O1) (p : pin mp σ σ1) : covS K Z W F1 H1 O1 mp σ1 D r := by
  cases r with
  | ok f s1 => exact endS.go h e p
  | exc x s1 => exact fun cls dd σ2 O2 F2 H2 e2 q p2 z => h cls dd σ2 O2 F2 H2 (e.trans e2) q (p.trans p2) z
  | bad => exact h
theorem covS.ext {r : R OM.F} (h : covS K Z W F H O mp σ D r) (e : Ext F H O F1 H1 O1) : covS K Z W F1 H1 O1 mp σ D r := h.go e pin.refl
theorem covS.bindE {α : Type} {r : R α} {f : α → Env → R OM.F} (h : covS K Z W F H O mp σ D (r.bind f)) : cov K Z W F H O σ r fun a s1 => covS K Z W F H O mp σ D (f a s1) := by
  cases r with
  | ok a s1 => exact h
  | exc x s1 => exact fun cls dd O2 F2 H2 e2 q z => h cls dd σ O2 F2 H2 e2 q pin.refl z
  | bad => exact h
theorem covS.bindS {r : R OM.F} {k : OM.F → Env → R OM.F} (h : covS K Z W F H O mp σ D (r.bind k)) (i : ∀ f s1, covS K Z W F H O mp σ D (k f s1) → endS K F H O mp σ D' f s1) : covS K Z W F H O mp σ D' r := by
  cases r with
  | ok a s1 => exact i _ _ h
  | exc x s1 => exact h
  | bad => exact h
/-- a value that owns is put at a name -/
theorem Pt.putO {i : Nat} {d : OM.D} {v : V} {A : List Addr} {s : Env} (w : Wf F H (A ++ O)) (er : erep K F H s σ O) (h : rep K F H d v A) : ∃ O', Ext F H (A ++ O) F H O' ∧ Pt K F O' (sset s i (some d)) (σ.set i (some v)) H := by
  rcases Nat.lt_or_ge i s.length with hi | hi
  · obtain ⟨O1, q1, q2, q3⟩ := erep_drop i er
    obtain ⟨O2, r1, r2⟩ := erep_put h q3 hi
    obtain ⟨n1, n2, n3⟩ := List.nodup_append.mp w.nd
    have hs : ∀ a ∈ O2, a ∈ A ++ O := fun a z => by
      rcases List.mem_append.mp (r1.mem_iff.mpr z) with y | y
      · exact List.mem_append_left _ y
      · exact List.mem_append_right _ (q1 a y)
    exact ⟨O2, Ext.refl.sub hs, w.sub (r1.nodup_iff.mp (List.nodup_append.mpr ⟨n1, q2 n2, fun a ha b hb => n3 a ha b (q1 b hb)⟩)) hs, r2⟩
  · rw [sset_ge hi, List.set_eq_of_length_le (by rw [erep_len er]; exact hi)]
    exact ⟨O, Ext.refl.sub fun a z => List.mem_append_right _ z, w.right, er⟩
end
section
variable {X : Cx} {Z : XS} {W : WX} {Γ : FT} {mp : List Nat} {pos : Pos} {x : Expr} {e : E}
abbrev PN (X : Cx) (Z : XS) (W : WX) (Γ : FT) (mp : List Nat) (a : S) (st : Stmt) : Prop := PS X st (tS X.K Z W mp (exec Γ a))
abbrev PNs (X : Cx) (Z : XS) (W : WX) (Γ : FT) (mp : List Nat) (a : Ss) (st : List Stmt) : Prop := PSs X st (tS X.K Z W mp (execs Γ a))
theorem n_bad {st : Stmt} : PN X Z W Γ mp .bad st := PS.imp ps_never fun D σ H h => by
  obtain ⟨F, O, s, p, h⟩ := h
  exact h
theorem use_set {i : Nat} (hi : i ∉ mp) {D : Ends} {σ : L2.St} {H : Hp} (h : tS X.K Z W mp (exec Γ (.set i e)) D σ H) : tAsg (tF X.K Z W (ev Γ e)) (gName i) D σ H := by
  obtain ⟨F, O, s, p, h⟩ := h
  simp only [exec] at h
  refine ⟨F, O, s, p, (covS.bindE h).imp fun d s1 h1 v O1 F1 H1 e1 p1 q1 => ?_⟩
  obtain ⟨O2, x2, p2⟩ := p1.put (i := i) q1
  exact (show wantS X.K F H O mp σ D.nx _ from h1) _ O2 F1 H1 (e1.trans x2) p2 (pin.set hi)
theorem use_seto {i : Nat} (hi : i ∉ mp) {D : Ends} {σ : L2.St} {H : Hp} (h : tS X.K Z W mp (exec Γ (.seto i e)) D σ H) : tAsg (tE X.K Z W (ev Γ e)) (gName i) D σ H := by
  obtain ⟨F, O, s, p, h⟩ := h
  simp only [exec] at h
  refine ⟨F, O, s, p, (covS.bindE h).imp fun d s1 h1 v A O1 F1 H1 e1 w1 r1 q1 => ?_⟩
  obtain ⟨O2, x2, p2⟩ := Pt.putO (i := i) w1 r1 q1
  exact (show wantS X.K F H O mp σ D.nx _ from h1) _ O2 F1 H1 (e1.trans x2) p2 (pin.set hi)
theorem n_ex (hs : swapsWith x none pos.line X.env = pure false) (h : PV X Z W Γ e x) : PN X Z W Γ mp (.ex e) (.Expr x pos) := PS.imp (ps_expr (s_F h) hs) fun D σ H h => by
  obtain ⟨F, O, s, p, h⟩ := h
  simp only [exec] at h
  exact ⟨F, O, s, p, (covS.bindE h).imp fun d s1 h1 v O1 F1 H1 e1 p1 q1 => (show wantS X.K F H O mp σ D.nx _ from h1) σ O1 F1 H1 e1 p1 pin.refl⟩
theorem n_doc {y : Str} {j : Nat} {p' : Pos} : PN X Z W Γ mp .pass (.Expr (.Constant (.str y) j p') pos) := PS.imp ps_doc fun D σ H h => by
  obtain ⟨F, O, s, p, h⟩ := h
  exact (show wantS X.K F H O mp σ D.nx _ from h) σ O F H Ext.refl p pin.refl
theorem n_ret (h : PV X Z W Γ e x) : PN X Z W Γ mp (.ret e) (.Return (some x) pos) := PS.imp (ps_ret (s_F h)) fun D σ H h => by
  obtain ⟨F, O, s, p, h⟩ := h
  simp only [exec] at h
  exact ⟨F, O, s, p, (covS.bindE h).imp fun d s1 h1 v O1 F1 H1 e1 p1 q1 => h1 v [] σ O1 F1 H1 e1 p1.wf p1.er pin.refl (rep_of_dat q1)⟩
theorem n_reto (hne : ∀ i, e ≠ .var i) (h : PV X Z W Γ e x) : PN X Z W Γ mp (.reto e) (.Return (some x) pos) := PS.imp (ps_ret h) fun D σ H h => by
  obtain ⟨F, O, s, p, h⟩ := h
  have h : covS X.K Z W F H O mp σ D ((ev Γ e s).bind fun d s1 => .ok (.ret d) s1) := by
    cases e <;> first | exact h | exact absurd rfl (hne _)
  exact ⟨F, O, s, p, (covS.bindE h).imp fun d s1 h1 v A O1 F1 H1 e1 w1 r1 q1 => h1 v A σ O1 F1 H1 e1 w1 r1 pin.refl q1⟩
theorem n_retv {i : Nat} (h : PE X x (tVar i)) : PN X Z W Γ mp (.reto (.var i)) (.Return (some x) pos) := PS.imp (ps_ret h) fun D σ H h => by
  obtain ⟨F, O, s, p, h⟩ := h
  simp only [exec] at h
  cases hs : sget s i with
  | none => rw [hs] at h; exact h.elim
  | some d =>
    rw [hs] at h
    obtain ⟨v, A, O', q1, q2, q3, q4⟩ := erep_take p.er hs
    exact ⟨v, q1, (show endS X.K F H O mp σ D (.ret d) _ from h) v A σ O' F H (Ext.refl.perm q3) (p.wf.perm q3) q4 pin.refl q2⟩
theorem n_retN : PN X Z W Γ mp .retN (.Return none pos) := PS.imp ps_retN fun D σ H h => by
  obtain ⟨F, O, s, p, h⟩ := h
  exact (show endS X.K F H O mp σ D (.ret .non) s from h) .non [] σ O F H Ext.refl p.wf p.er pin.refl (rep_of_dat (by simp [dat]))
theorem n_pass : PN X Z W Γ mp .pass (.Pass pos) := PS.imp ps_pass fun D σ H h => by
  obtain ⟨F, O, s, p, h⟩ := h
  exact (show wantS X.K F H O mp σ D.nx _ from h) σ O F H Ext.refl p pin.refl
theorem n_brk : PN X Z W Γ mp .brk (.Break pos) := PS.imp ps_break fun D σ H h => by
  obtain ⟨F, O, s, p, h⟩ := h
  exact (show wantS X.K F H O mp σ D.bk _ from h) σ O F H Ext.refl p pin.refl
theorem n_cnt : PN X Z W Γ mp .cnt (.Continue pos) := PS.imp ps_continue fun D σ H h => by
  obtain ⟨F, O, s, p, h⟩ := h
  exact (show wantS X.K F H O mp σ D.ct _ from h) σ O F H Ext.refl p pin.refl
theorem n_if {c : OM.T} {a b : Ss} {t u : List Stmt} (hc : PT X x (tT X.K Z W (evT Γ c))) (ha : PNs X Z W Γ mp a t) (hb : PNs X Z W Γ mp b u) : PN X Z W Γ mp (.ite c a b) (.If x t u pos) := PS.imp (ps_if hc ha hb) fun D σ H h => by
  obtain ⟨F, O, s, p, h⟩ := h
  simp only [exec] at h
  refine ⟨F, O, s, p, (covS.bindE h).imp fun d s1 h1 O1 F1 H1 e1 p1 => ?_⟩
  cases d with
  | true => exact ⟨F1, O1, s1, p1, (show covS _ _ _ _ _ _ _ _ _ (execs Γ a s1) from h1).ext e1⟩
  | false => exact ⟨F1, O1, s1, p1, (show covS _ _ _ _ _ _ _ _ _ (execs Γ b s1) from h1).ext e1⟩
theorem n_nil : PNs X Z W Γ mp .nil [] := PSs.imp pss_nil fun D σ H h => by
  obtain ⟨F, O, s, p, h⟩ := h
  exact (show wantS X.K F H O mp σ D.nx _ from h) σ O F H Ext.refl p pin.refl
theorem n_cons {a : S} {r : Ss} {st : Stmt} {rest : List Stmt} (ha : PN X Z W Γ mp a st) (hb : PNs X Z W Γ mp r rest) : PNs X Z W Γ mp (.cons a r) (st :: rest) := PSs.imp (pss_cons ha hb) fun D σ H h => by
  obtain ⟨F, O, s, p, h⟩ := h
  simp only [execs] at h
  refine ⟨F, O, s, p, covS.bindS h fun f s1 h1 => ?_⟩
  cases f with
  | next => exact fun σ1 O1 F1 H1 e1 p1 q1 => ⟨F1, O1, s1, p1, covS.go h1 e1 q1⟩
  | brk => exact h1
  | cnt => exact h1
  | ret d => exact h1
theorem n_for {t : Tg} {it : E} {b : Ss} {tg iter : Expr} {body : List Stmt} (hp : PassesOwn (model X.prog X.w) X.A X.env X.xe) (hc : X.calm = true) (htg : ∀ i ∈ tgs t, i ∉ mp) (hi : PI X tg iter (tI X.K Z W it (ev Γ it))) (hg : PG X tg (tG X.K t)) (hb : PNs X Z W Γ mp b body)
    (hs : ∀ x, foldedSetIterable iter X.env x = pure x) : PN X Z W Γ mp (.forr t it b) (.For tg iter body [] pos) := PS.imp (ps_for hp hc hi hg hb hs) fun D σ H h => by
  obtain ⟨F, O, s, p, h⟩ := h
  simp only [exec] at h
  refine ⟨F, O, s, p, (covS.bindE h).imp fun ds s1 h1 J O1 F1 H1 e1 p1 wk => ?_⟩
  have h1 := covS.ext h1 e1
  generalize hstep : (fun (x : OM.D) (s2 : Env) => match bindT t x s2 with
    | some s3 => execs Γ b s3
    | none => R.bad) = step at h1
  refine ⟨fun i m σ' H' => m = ds.length - i ∧ i ≤ ds.length ∧ ∃ F' O' s', Same F1 F' ∧ Pt X.K F' O' s' σ' H' ∧ covS X.K Z W F' H' O' mp σ' D (forLoop step (ds.drop i) s'), ⟨ds.length, by simp, Nat.zero_le _, F1, O1, s1, Same.refl _, p1, by rw [List.drop_zero]; exact h1⟩, ?_⟩
  rintro i m σ' H' ⟨rfl, hi, F', O', s', sf, p', hc'⟩
  by_cases hlt : i < ds.length
  · right
    obtain ⟨w1, w2⟩ := (wk F' H' sf p'.wf.fh i).1 _ (List.getElem?_eq_getElem hlt)
    rw [List.drop_eq_getElem_cons hlt] at hc'
    simp only [forLoop] at hc'
    refine ⟨w1, fun σ2 H2 => ∃ F2 O2 s2, Same F1 F2 ∧ Pt X.K F2 O2 s2 σ2 H2 ∧ covS X.K Z W F2 H2 O2 mp σ2 D (forLoop step (ds.drop (i + 1)) s2), fun σ2 H2 ⟨F2, O2, s2, q1, q2, q3⟩ => ⟨ds.length - (i + 1), by omega, rfl, hlt, F2, O2, s2, q1, q2, q3⟩, fun x H2 y => ?_⟩
    obtain ⟨F2, mk⟩ := w2 x H2 y
    have eA : dat X.K F2 ds[i] x := by
      have := mk.r
      cases hdd : ds[i] with
      | lst ow xs => cases ow with
        | false => rw [hdd] at this; exact this.2
        | true => rw [hdd] at this; obtain ⟨a, _, _, e, _⟩ := this; cases e
      | dct ow t xs => cases ow with
        | false => rw [hdd] at this; exact this.2
        | true => rw [hdd] at this; obtain ⟨a, _, e, _⟩ := this; cases e
      | ins ow c fs => rw [hdd] at this; exact this.2
      | _ => rw [hdd] at this; exact this.2
    have p2 : Pt X.K F2 O' s' σ' H2 := ⟨mk.wf p'.wf, mk.env p'.wf p'.er⟩
    have e2 : Ext F' H' O' F2 H2 O' := mk.ext (O := O')
    cases hb : bindT t ds[i] s' with
    | none =>
      rw [← hstep] at hc'
      simp only [hb] at hc'
      exact hc'.elim
    | some s3 =>
      have hst : step ds[i] s' = execs Γ b s3 := by rw [← hstep]; simp only [hb]
      rw [hst] at hc'
      refine use_tg p2 eA hb fun σ3 O3 x3 p3 hl hk => ⟨F2, O3, s3, p3, ?_⟩
      have hpin : pin mp σ' σ3 := ⟨hl, fun j hj => hk j fun z => htg j z hj⟩
      have hc3 := covS.go hc' (e2.trans x3) hpin
      refine covS.bindS hc3 fun f s4 h4 => ?_
      have nxt : covS X.K Z W F2 H2 O3 mp σ3 D (forLoop step (ds.drop (i + 1)) s4) → wantS X.K F2 H2 O3 mp σ3 (fun σ2 H2 => ∃ F2 O2 s2, Same F1 F2 ∧ Pt X.K F2 O2 s2 σ2 H2 ∧ covS X.K Z W F2 H2 O2 mp σ2 D (forLoop step (ds.drop (i + 1)) s2)) s4 :=
        fun h5 σ5 O5 F5 H5 e5 p5 q5 => ⟨F5, O5, s4, (sf.trans mk.sf).trans e5.fm, p5, covS.go h5 e5 q5⟩
      cases f with
      | next => exact nxt h4
      | cnt => exact nxt h4
      | brk => exact h4
      | ret d => exact h4
  · left
    have e : i = ds.length := by omega
    subst e
    rw [List.drop_length] at hc'
    exact ⟨(wk F' H' sf p'.wf.fh _).2 (Nat.le_refl _), (show wantS X.K F' H' O' mp σ' D.nx s' from hc') σ' O' F' H' Ext.refl p' pin.refl⟩
theorem n_while {c : OM.T} {b : Ss} {body : List Stmt} (hp : PassesOwn (model X.prog X.w) X.A X.env X.xe) (hc : PT X x (tT X.K Z W (evT Γ c))) (hb : PNs X Z W Γ mp b body) : PN X Z W Γ mp (.whl c b) (.While x body [] pos) := PS.imp (ps_while hp hc hb) fun D σ H h => by
  obtain ⟨F, O, s, p, h⟩ := h
  simp only [exec] at h
  refine ⟨fun m σ' H' => ∃ F' O' s', Pt X.K F' O' s' σ' H' ∧ covS X.K Z W F' H' O' mp σ' D (whileLoop (evT Γ c) (execs Γ b) m s'), ⟨fuelW, F, O, s, p, h⟩, ?_⟩
  rintro m σ' H' ⟨F', O', s', p', h'⟩
  cases m with
  | zero => exact h'.elim
  | succ m =>
    simp only [whileLoop] at h'
    refine ⟨F', O', s', p', (covS.bindE h').imp fun t s1 h1 O1 F1 H1 e1 p1 => ?_⟩
    cases t with
    | false => exact (show wantS X.K F' H' O' mp σ' D.nx s1 from h1) σ' O1 F1 H1 e1 p1 pin.refl
    | true =>
      rw [if_pos rfl] at h1 ⊢
      refine ⟨fun σ2 H2 => ∃ F2 O2 s2, Pt X.K F2 O2 s2 σ2 H2 ∧ covS X.K Z W F2 H2 O2 mp σ2 D (whileLoop (evT Γ c) (execs Γ b) m s2), fun σ2 H2 q => ⟨m, Nat.lt_succ_self m, q⟩, F1, O1, s1, p1, covS.bindS (h1.ext e1) fun f s4 h4 => ?_⟩
      have nxt : covS X.K Z W F1 H1 O1 mp σ' D (whileLoop (evT Γ c) (execs Γ b) m s4) → wantS X.K F1 H1 O1 mp σ' (fun σ2 H2 => ∃ F2 O2 s2, Pt X.K F2 O2 s2 σ2 H2 ∧ covS X.K Z W F2 H2 O2 mp σ2 D (whileLoop (evT Γ c) (execs Γ b) m s2)) s4 :=
        fun h5 σ5 O5 F5 H5 e5 p5 q5 => ⟨F5, O5, s4, p5, covS.go h5 e5 q5⟩
      cases f with
      | next => exact nxt h4
      | cnt => exact nxt h4
      | brk => exact h4
      | ret d => exact h4
theorem n_unp {is : List Nat} {tg : Expr} (hi : ∀ i ∈ is, i ∉ mp) (hg : PG X tg (tG X.K (.tp is))) (hx : PO' X Z W Γ e x) (hs : swapsWithSole [tg] x pos.line X.env = pure false) (hw : swappedStores [tg] x X.env = pure none) (ha : (assignEach [tg] X.env).map (·.2) = [assign tg X.env]) : PN X Z W Γ mp (.unp is e) (.Assign [tg] x pos) :=
  PS.imp (ps_asg hx hg hs hw ha) fun D σ H h => by
  obtain ⟨F, O, s, p, h⟩ := h
  simp only [exec] at h
  refine use_O p ((covS.bindE h).imp fun o s1 h1 v O1 F1 H1 e1 p1 q1 => ?_)
  split at h1
  · rename_i ds hr
    have h1 := covS.bindE h1
    obtain ⟨s2, hs2, h2⟩ := cov.lift h1
    obtain ⟨a, vs, ev, hv, hl⟩ := q1.sees p1 hr
    refine ⟨a, vs, ev, .inl (.inl hv), by rw [← datL_len hl]; exact setAll_len hs2, use_names p1 hl hs2 fun σ2 O2 x2 p2 hlen hk => ?_⟩
    exact (show wantS X.K F H O mp σ D.nx s2 from h2) σ2 O2 F1 H1 (e1.trans x2) p2 ⟨hlen, fun j hj => hk j fun z => hi j z hj⟩
  · exact h1.elim
theorem n_par {i j : Nat} {es : Es} {st : Stmt} {xs : List Expr} (hi : i ∉ mp) (hj : j ∉ mp) (hps : PS X st (tPar i j (tFs X.K Z W Γ es))) : PN X Z W Γ mp (.par [i, j] es) st := PS.imp hps fun D σ H h => by
  obtain ⟨F, O, s, p, h⟩ := h
  simp only [exec] at h
  refine use_Fs p ((covS.bindE h).imp fun ds s1 h1 vs O1 F1 H1 e1 p1 q1 => ?_)
  obtain ⟨s2, hs2, h2⟩ := cov.lift (covS.bindE h1)
  match ds, hs2, q1 with
  | [a, b], hs2, q1 =>
    simp only [datL] at q1
    obtain ⟨v, t, ev, hv, w, t2, et, hw, et2⟩ := q1
    subst ev et et2
    simp only [setAll] at hs2
    cases hs2
    obtain ⟨O2, x2, p2⟩ := p1.put (i := i) hv
    obtain ⟨O3, x3, p3⟩ := p2.put (i := j) hw
    exact ⟨v, w, rfl, (show wantS X.K F H O mp σ D.nx _ from h2) _ O3 F1 H1 ((e1.trans x2).trans x3) p3 ((pin.set hi).trans (pin.set hj))⟩
  | [], hs2, _ => simp only [setAll] at hs2; cases hs2
  | [_], hs2, _ => simp only [setAll] at hs2; cases hs2
  | _ :: _ :: _ :: _, hs2, _ => simp only [setAll] at hs2; cases hs2
theorem n_par3 {i j l : Nat} {es : Es} {st : Stmt} (hi : i ∉ mp) (hj : j ∉ mp) (hl : l ∉ mp) (hps : PS X st (tPar3 i j l (tFs X.K Z W Γ es))) : PN X Z W Γ mp (.par [i, j, l] es) st := PS.imp hps fun D σ H h => by
  obtain ⟨F, O, s, p, h⟩ := h
  simp only [exec] at h
  refine use_Fs p ((covS.bindE h).imp fun ds s1 h1 vs O1 F1 H1 e1 p1 q1 => ?_)
  obtain ⟨s2, hs2, h2⟩ := cov.lift (covS.bindE h1)
  match ds, hs2, q1 with
  | [a, b, c], hs2, q1 =>
    simp only [datL] at q1
    obtain ⟨v, t, ev, hv, w, t2, et, hw, u, t3, et3, hu, e3⟩ := q1
    subst ev et et3 e3
    simp only [setAll] at hs2
    cases hs2
    obtain ⟨O2, x2, p2⟩ := p1.put (i := i) hv
    obtain ⟨O3, x3, p3⟩ := p2.put (i := j) hw
    obtain ⟨O4, x4, p4⟩ := p3.put (i := l) hu
    exact ⟨v, w, u, rfl, (show wantS X.K F H O mp σ D.nx _ from h2) _ O4 F1 H1 (((e1.trans x2).trans x3).trans x4) p4 (((pin.set hi).trans (pin.set hj)).trans (pin.set hl))⟩
  | [], hs2, _ => simp only [setAll] at hs2; cases hs2
  | [_], hs2, _ => simp only [setAll] at hs2; cases hs2
  | [_, _], hs2, _ => simp only [setAll] at hs2; cases hs2
  | _ :: _ :: _ :: _ :: _, hs2, _ => simp only [setAll] at hs2; cases hs2
end
end OM


set_option autoImplicit false
set_option linter.all false
set_option maxRecDepth 100000
set_option maxHeartbeats 2000000
/-! S13: statements against the program's text. -/
namespace OM
open PySem PySem.Spec PyProof.Rows L2

/-! ### o[i] = v -/
theorem set_any {X : Cx} (hu : X.A.units + 1 < cLine) : PSet X fun o i v H Q => rSetL o i v H Q ∨ rSetD o i v H Q := by
  intro pins s σ H o i v ov iv u Q I r1 r2 r3 h
  rcases h with h | h
  · exact set_list pins s σ H o i v ov iv u Q I r1 r2 r3 h
  · exact set_dict hu pins s σ H o i v ov iv u Q I r1 r2 r3 h
theorem ixN_ix {n : Nat} {i : Int} (h : ixOf n i < n) : ixN n i = some (ixOf n i) := by
  unfold ixN
  unfold ixOf at h ⊢
  by_cases h0 : i < 0
  · rw [if_pos h0] at h ⊢
    rw [if_neg (by omega)]
    by_cases h1 : i + n < 0
    · rw [if_pos h1] at h; omega
    · rw [if_neg h1] at h ⊢
      rw [if_pos (by omega)]
  · rw [if_neg h0] at h ⊢
    rw [if_pos (by omega), if_pos (by omega)]
section
variable {X : Cx} {Z : XS} {W : WX} {Γ : FT} {mp : List Nat} {pos : Pos} {x : Expr} {e i : E} {p : Nat}
theorem n_sidx {o y : Expr} {p2 : Pos} (hu : X.A.units + 1 < cLine) (ho : PE X o (tVar p)) (hy : PV X Z W Γ i y) (hx : PV X Z W Γ e x) (hsl : notSlice y = true) (hs : swapsWithSole [.Subscript o y p2] x pos.line X.env = pure false) : PN X Z W Γ mp (.sidx p i e) (.Assign [.Subscript o y p2] x pos) :=
  PS.imp (ps_asg (s_F hx) (pg_sub ho (s_F hy) (set_any hu) (by cases y <;> first | (intro v; rfl) | cases hsl)) hs (by cases x <;> rfl) rfl) fun D σ H h => by
  obtain ⟨F, O, s, pt, h⟩ := h
  simp only [exec] at h
  refine ⟨F, O, s, pt, (covS.bindE h).imp fun d s1 h1 v O1 F1 H1 e1 p1 q1 => ?_⟩
  cases hp : sget s1 p with
  | none => rw [hp] at h1; exact h1.elim
  | some dp =>
    rw [hp] at h1
    obtain ⟨vp, Ap, z1, z2, _⟩ := p1.get hp
    refine ⟨vp, z1, F1, O1, s1, p1, ((covS.bindE h1).ext e1).imp fun k s2 h2 w O2 F2 H2 e2 p2 q2 => ?_⟩
    obtain ⟨s3, hs3, h3⟩ := cov.lift (covS.bindE h2)
    have hfin := fun F' H' O' (x' : Ext F2 H2 O2 F' H' O') (p' : Pt X.K F' O' s3 σ H') => (show wantS X.K F H O mp σ D.nx s3 from h3) σ O' F' H' ((e1.trans e2).trans x') p' pin.refl
    have q1' := dat_mono e2.fm _ _ q1
    unfold sidxD at hs3
    split at hs3
    · rename_i xs j hg hk
      split at hs3
      · rename_i hlt
        cases hs3
        obtain ⟨v', A, y1, y2, _⟩ := p2.get hg
        rw [z1] at y1; cases y1
        obtain ⟨a, vs, ev, eA, ha, hl⟩ := y2
        subst ev
        rw [hk] at q2
        have hw : w = .int j := q2
        obtain ⟨O3, x3, p3⟩ := p2.rewrite (d' := .lst true (xs.set (ixOf xs.length j) (frz d))) (o := .lst (vs.set (ixOf xs.length j) v)) hg _ z1 (fun A' ⟨a', vs', e1, e2, _⟩ => by cases e1; exact e2) ⟨a, _, rfl, rfl, upd_same, datL_set _ hl q1'⟩
        exact .inl ⟨a, vs, j, ixOf xs.length j, rfl, hw, ha, by rw [← datL_len hl]; exact ixN_ix hlt, hfin _ _ _ x3 p3⟩
      · cases hs3
    · rename_i k' t kvs hg
      split at hs3
      · rename_i hc
        cases hs3
        obtain ⟨v', A, y1, y2, _⟩ := p2.get hg
        rw [z1] at y1; cases y1
        obtain ⟨a, ev, eA, hh⟩ := y2
        subst ev
        have own1 : ∀ A', rep X.K F2 H2 (.dct true t kvs) (.ref a) A' → A' = [a] := fun A' ⟨a', e1, e2, _⟩ => by cases e1; exact e2
        rcases hh with ⟨et, l, ha, hl⟩ | ⟨et, l, ha, hl⟩
        · subst et
          obtain ⟨kk, hkk⟩ := isK_key (show isK (frz k) = true from hc.1)
          have hw := keyK_sees hkk (sees_of_dat p2.wf.fh q2)
          obtain ⟨O3, x3, p3⟩ := p2.rewrite (d' := .dct true false (dput kvs (frz k) (frz d))) (o := .dK (putK l kk v)) hg _ z1 own1 ⟨a, rfl, rfl, .inl ⟨rfl, _, upd_same, datK_put hl hkk q1'⟩⟩
          exact .inr ⟨a, _, rfl, .inl ⟨l, kk, ha, hw, by rw [← datK_len hl]; exact hc.2, rfl⟩, hfin _ _ _ x3 p3⟩
        · subst et
          obtain ⟨kk, hkk⟩ := isT_key (show isT (frz k) = true from hc.1)
          obtain ⟨b, hw, hb⟩ := keyT_sees hkk (sees_of_dat p2.wf.fh q2)
          obtain ⟨O3, x3, p3⟩ := p2.rewrite (d' := .dct true true (dput kvs (frz k) (frz d))) (o := .dT (putK l kk v)) hg _ z1 own1 ⟨a, rfl, rfl, .inr ⟨rfl, _, upd_same, datT_put hl hkk q1'⟩⟩
          exact .inr ⟨a, _, rfl, .inr ⟨l, kk, b, ha, hw, hb, by rw [← datT_len hl]; exact hc.2, rfl⟩, hfin _ _ _ x3 p3⟩
      · cases hs3
    · cases hs3
end

/-! ### the check -/
def notComp (x : Expr) : Bool := match x with
  | .ListComp .. => false
  | .SetComp .. => false
  | .DictComp .. => false
  | _ => true
def notTup (x : Expr) : Bool := match x with
  | .Tuple .. => false
  | .List .. => false
  | _ => true
/-- [..] is stored at the local name y of its line: by the exchanged stores -/
def swB (sc : Scope) (y : Str) (py : Pos) (scope : Scope) (pos : Pos) : Bool := (match sc.names.lookup y with
  | some .local => true
  | _ => false) && (py.line == pos.line) && !(scope.names.any fun (n, k) => n == y && (k == .local || k == .cell))
def fnB (sc : Scope) : Bool := match sc.kind with
  | .function => true
  | _ => false
def locB (sc : Scope) (n : Str) : Bool := match sc.names.lookup n with
  | some .local => true
  | _ => false
def constB (x : Expr) : Bool := constantsAlone 8 x
section
variable (B : Tab) (N : List Str) (mp : List Nat)
/-- name = value -/
def chkSet (sc : Scope) (i : Nat) (e : E) (n : Str) (p : Pos) (x : Expr) : Bool := nIs N i n && stoB sc n && !(mp.contains i) && isV e && chkE B N sc sc e x && (match x with
  | .ListComp _ [_] _ _ => (match e with
    | .lc .. => true
    | _ => false)
  | _ => notComp x)
mutual
def chkS (sc : Scope) : S → Stmt → Bool
  | .bad, _ => true
  | .set i e, st => (match st with
    | .Assign [.Name n p] x _ => chkSet B N mp sc i e n p x
    | _ => false)
  | .seto i e, st => (match st with
    | .Assign [.Name n p] x _ => chkSet B N mp sc i e n p x
    | _ => false)
  | .unp is e, st => (match st with
    | .Assign [.Tuple xs k q] x _ => tgB N sc (.tp is) (.Tuple xs k q) && (is.all fun i => !(mp.contains i)) && isV e && notComp x && notTup x && chkE B N sc sc e x
    | _ => false)
  | .par is es, st => (match st with
    | .Assign [.Tuple ts _ _] (.Tuple vs _ _) _ => (match is, ts, vs with
      | [i, j], [.Name n p, .Name m q], [a, b] => nIs N i n && nIs N j m && !(mp.contains i) && !(mp.contains j) && locB sc n && locB sc m && !(sEq n m) && (p.line == q.line) && isVs es && !(constB a && constB b) && chkEs B N sc sc es [a, b]
      | [i, j, l], [.Name n p, .Name m q, .Name o r], [a, b, c] => nIs N i n && nIs N j m && nIs N l o && !(mp.contains i) && !(mp.contains j) && !(mp.contains l) && locB sc n && locB sc m && locB sc o && !(sEq n m) && !(sEq n o) && !(sEq m o) && (p.line == q.line) && (p.line == r.line) && isVs es && !(constB a && constB b && constB c) && chkEs B N sc sc es [a, b, c]
      | _, _, _ => false)
    | _ => false)
  | .sidx p i e, st => (match st with
    | .Assign [.Subscript o y _] x _ => nmB N sc p o && notSlice y && notComp x && isV i && isV e && chkE B N sc sc i y && chkE B N sc sc e x
    | _ => false)
  | .ex e, st => (match st with
    | .Expr x _ => notComp x && isV e && chkE B N sc sc e x
    | _ => false)
  | .ret e, st => (match st with
    | .Return (some x) _ => isV e && chkE B N sc sc e x
    | _ => false)
  | .reto e, st => (match st with
    | .Return (some x) _ => isV e && chkE B N sc sc e x
    | _ => false)
  | .retN, st => (match st with
    | .Return none _ => true
    | _ => false)
  | .ite c a b, st => (match st with
    | .If x t u _ => chkT B N sc sc c x && chkSs sc a t && chkSs sc b u
    | _ => false)
  | .forr t it b, st => (match st with
    | .For tg iter body [] _ => itOk it tg && notSet iter && ((tgs t).all fun i => !(mp.contains i)) && tgB N sc t tg && chkE B N sc sc it iter && chkSs sc b body
    | _ => false)
  | .whl c b, st => (match st with
    | .While x body [] _ => chkT B N sc sc c x && chkSs sc b body
    | _ => false)
  | .brk, st => (match st with
    | .Break _ => true
    | _ => false)
  | .cnt, st => (match st with
    | .Continue _ => true
    | _ => false)
  | .pass, st => (match st with
    | .Pass _ => true
    | .Expr (.Constant (.str _) _ _) _ => true
    | _ => false)
  | _, _ => false
def chkSs (sc : Scope) : Ss → List Stmt → Bool
  | .nil, st => (match st with
    | [] => true
    | _ => false)
  | .cons a r, st => (match st with
    | x :: t => chkS sc a x && chkSs sc r t
    | [] => false)
end
end

/-! ### side conditions -/
theorem swaps_name {x : Expr} {t : Expr} {l : Nat} {env : PySem.Env} (h : notComp x = true) : swapsWith x (some t) l env = pure false := by
  cases x <;> first | rfl | cases h
theorem swaps_none {x : Expr} {l : Nat} {env : PySem.Env} (h : notComp x = true) : swapsWith x none l env = pure false := by
  cases x <;> first | rfl | cases h
theorem swaps_tup {x : Expr} {xs : List Expr} {k : Nat} {p : Pos} {l : Nat} {env : PySem.Env} (h : notComp x = true) : swapsWithSole [.Tuple xs k p] x l env = pure false := by
  cases x <;> first | rfl | cases h
theorem swaps_sub {x o y : Expr} {p : Pos} {l : Nat} {env : PySem.Env} (h : notComp x = true) : swapsWithSole [.Subscript o y p] x l env = pure false := by
  cases x <;> first | rfl | cases h
theorem stores_none {x : Expr} {xs : List Expr} {k : Nat} {p : Pos} {env : PySem.Env} (h : notTup x = true) : swappedStores [.Tuple xs k p] x env = pure none := by
  cases x <;> first | rfl | cases h
theorem sw_any {elt : Expr} {gs : List Comprehension} {scope : Scope} {pos py : Pos} {y : Str} {l : Nat} {env : PySem.Env} (hk : env.scope.kind = .function) : swapsWith (.ListComp elt gs scope pos) (some (.Name y py)) l env = pure (swB env.scope y py scope pos) := by
  have hb : env.blockKind = .function := by unfold Env.blockKind; rw [hk]; rfl
  unfold swapsWith swB
  simp only [hb, Env.kindOf, Expr.pos]
  show (pure (_ : Bool) : Sem Bool) = pure (_ : Bool)
  congr 1
  cases h : env.scope.names.lookup y with
  | none => rfl
  | some k => cases k <;> rfl
theorem contains_not {mp : List Nat} {i : Nat} (h : (!mp.contains i) = true) : i ∉ mp := by simpa using h
theorem locB_eq {sc : Scope} {n : Str} (h : locB sc n = true) : sc.names.lookup n = some .local := by
  unfold locB at h
  split at h
  · assumption
  · cases h
end OM


set_option autoImplicit false
set_option linter.all false
set_option maxRecDepth 100000
set_option maxHeartbeats 2000000
/-! S14: what the check says is so: statements. -/
namespace OM
open PySem PySem.Spec PyProof.Rows L2

theorem folded_const : ∀ (n : Nat) (x : Expr), foldedForSure n x = true → constantsAlone n x = true
  | n, x, h => by
    induction n generalizing x with
    | zero =>
      cases x with
      | Constant => rfl
      | UnaryOp op e p => cases e <;> first | (simp only [constantsAlone]; done) | (simp only [foldedForSure] at h; cases h)
      | Tuple => simp only [foldedForSure] at h; cases h
      | _ => simp only [foldedForSure] at h; cases h
    | succ n ih =>
      cases x with
      | Constant => rfl
      | UnaryOp op e p =>
        cases e with
        | Constant c j q => simp only [constantsAlone]
        | _ => simp only [foldedForSure] at h; cases h
      | Tuple es k p =>
        simp only [foldedForSure] at h
        simp only [constantsAlone]
        rw [List.all_eq_true] at h ⊢
        exact fun y hy => ih y (h y hy)
      | _ => simp only [foldedForSure] at h; cases h
theorem star_of {x : Expr} (h : notStar x = true) : (match x with | .Starred .. => true | _ => false) = false := by
  cases x <;> first | rfl | cases h
theorem swp2 {x y : Str} {px py pt pt2 : Pos} {kt k2 : Nat} {a b : Expr} {env : PySem.Env} (hk : env.scope.kind = .function) (hx : env.scope.names.lookup x = some .local) (hy : env.scope.names.lookup y = some .local) (hn : x ≠ y) (hl : (px.line == py.line) = true) (ha : notStar a = true) (hb : notStar b = true)
    (hc : (constB a && constB b) = false) : swappedStores [.Tuple [.Name x px, .Name y py] kt pt] (.Tuple [a, b] k2 pt2) env = pure (some [x, y]) := by
  have hbk : env.blockKind = .function := by unfold Env.blockKind; rw [hk]; rfl
  have hf : (foldedForSure 8 a && foldedForSure 8 b) = false := by
    cases h1 : foldedForSure 8 a with
    | false => rfl
    | true =>
      cases h2 : foldedForSure 8 b with
      | false => rfl
      | true =>
        unfold constB at hc
        rw [folded_const 8 a h1, folded_const 8 b h2] at hc
        cases hc
  have hl' : py.line = px.line := (beq_iff_eq.mp hl).symm
  have hn' : (y == x) = false := by simpa using fun e => hn e.symm
  have hn2 : (x == y) = false := by simpa using hn
  unfold constB at hc
  unfold swappedStores
  simp only [List.length_cons, List.length_nil, hbk, List.any_cons, List.any_nil, star_of ha, star_of hb, List.filterMap_cons, List.filterMap_nil, Env.kindOf, hx, hy, Expr.pos, List.head?_cons, Option.map_some, Option.getD_some, hl', List.all_cons, List.all_nil, hf, hc, Bool.and_true, Bool.or_false]
  simp [hn', hn2, List.eraseDups, List.eraseDupsBy, List.eraseDupsBy.loop]
  intro h
  rcases h with h | h
  · cases a <;> first | (cases h; done) | (cases ha; done)
  · cases b <;> first | (cases h; done) | (cases hb; done)
theorem swp3 {x y z : Str} {px py pz pt pt2 : Pos} {kt k2 : Nat} {a b c : Expr} {env : PySem.Env} (hk : env.scope.kind = .function) (hx : env.scope.names.lookup x = some .local) (hy : env.scope.names.lookup y = some .local) (hz : env.scope.names.lookup z = some .local) (hn : x ≠ y) (hm : x ≠ z) (hq : y ≠ z) (hl : (px.line == py.line) = true) (hl2 : (px.line == pz.line) = true) (ha : notStar a = true) (hb : notStar b = true) (hcs : notStar c = true)
    (hc : (constB a && constB b && constB c) = false) : swappedStores [.Tuple [.Name x px, .Name y py, .Name z pz] kt pt] (.Tuple [a, b, c] k2 pt2) env = pure (some [x, y, z]) := by
  have hbk : env.blockKind = .function := by unfold Env.blockKind; rw [hk]; rfl
  have hf : (foldedForSure 8 a && (foldedForSure 8 b && foldedForSure 8 c)) = false := by
    cases h1 : foldedForSure 8 a with
    | false => rfl
    | true =>
      cases h2 : foldedForSure 8 b with
      | false => rfl
      | true =>
        cases h3 : foldedForSure 8 c with
        | false => rfl
        | true =>
          unfold constB at hc
          rw [folded_const 8 a h1, folded_const 8 b h2, folded_const 8 c h3] at hc
          cases hc
  have hl' : py.line = px.line := (beq_iff_eq.mp hl).symm
  have hl2' : pz.line = px.line := (beq_iff_eq.mp hl2).symm
  have hn' : (y == x) = false := by simpa using fun e => hn e.symm
  have hm' : (z == x) = false := by simpa using fun e => hm e.symm
  have hq' : (z == y) = false := by simpa using fun e => hq e.symm
  have hn2 : (x == y) = false := by simpa using hn
  have hm2 : (x == z) = false := by simpa using hm
  have hq2 : (y == z) = false := by simpa using hq
  unfold constB at hc
  rw [Bool.and_assoc] at hc
  unfold swappedStores
  simp only [List.length_cons, List.length_nil, hbk, List.any_cons, List.any_nil, List.filterMap_cons, List.filterMap_nil, Env.kindOf, hx, hy, hz, Expr.pos, List.head?_cons, Option.map_some, Option.getD_some, hl', hl2', List.all_cons, List.all_nil, hf, hc, Bool.and_true, Bool.or_false]
  simp [hn', hn2, hm', hm2, hq', hq2, List.eraseDups, List.eraseDupsBy, List.eraseDupsBy.loop]
  intro h
  rcases h with h | h | h
  · cases a <;> first | (cases h; done) | (cases ha; done)
  · cases b <;> first | (cases h; done) | (cases hb; done)
  · cases c <;> first | (cases h; done) | (cases hcs; done)

section
variable {B : Tab} {N : List Str} {Z : XS} {Γ : FT} {n : Nat} {X : Cx} {W : WX} {sc : Scope} {mp : List Nat}
structure GoodS (B : Tab) (N : List Str) (Z : XS) (Γ : FT) (n : Nat) (X : Cx) (W : WX) (sc : Scope) : Prop extends Good B N Z Γ n X W sc sc where
  hp : PassesOwn (model X.prog X.w) X.A X.env X.xe
  kf : sc.kind = .function
/-- the exchanged stores of a comprehension -/
theorem set_lc (g : GoodS B N Z Γ n X W sc) {el it : E} {t : Tg} {cs : Ts} {vs : List Nat} {i : Nat} {nm : Str} {py pos spos : Pos} {elt : Expr} {gs : List Comprehension} {scope : Scope} (hi : nIs N i nm = true) (hl : locB sc nm = true) (hsw : swB sc nm py scope pos = true)
    (h : chkE B N sc sc (.lc el t it cs vs) (.ListComp elt gs scope pos) = true) : PS X (.Assign [.Name nm py] (.ListComp elt gs scope pos) spos) (tAsg (tE X.K Z W (ev Γ (.lc el t it cs vs))) (gName i)) := by
  simp only [chkE] at h
  split at h
  · rename_i e1
    cases e1
    simp only [Bool.and_eq_true, List.all_eq_true] at h
    obtain ⟨⟨⟨⟨⟨⟨⟨⟨q1, q2⟩, q3⟩, q4⟩, q5⟩, q6⟩, q7⟩, q8⟩, q9⟩ := h
    have own1 : (ownN N vs).map (·.2) = vs := by
      unfold ownN
      rw [List.map_map]
      exact List.map_id vs
    have hbk := blkOk_by (N := X.N) (sc := X.env.scope) (by rw [g.nN, g.sc_]; exact q3)
    have pi := (okE it g.toGood q7).i q1
    have key := (s_lc (own := ownN N vs) (pos := pos) g.calm (by rw [g.nN]; exact g.nd) pi hbk own1 (fun i hi => by simpa using q5 i hi)
        (fun s H C cl fp => (g.toGood.blk s H scope C cl fp).tg q4) (fun s H C cl fp => okTs cs (g.toGood.blk s H scope C cl fp) q8) (fun s H C cl fp => s_F ((okE el (g.toGood.blk s H scope C cl fp) q9).v q6)) (fold_ne q2)).2
    refine PS.imp (ps_setLc (i := i) g.calm (by rw [g.nN]; exact g.nd) (by rw [g.nN]; exact nIs_eq hi) (by rw [g.sc_]; exact locB_eq hl) ?_ pi hbk
      (fun s H C cl fp => (g.toGood.blk s H scope C cl fp).tg q4) (fun s H C cl fp => okTs cs (g.toGood.blk s H scope C cl fp) q8) (fun s H C cl fp => s_F ((okE el (g.toGood.blk s H scope C cl fp) q9).v q6)) (fold_ne q2)) fun D σ H q => key σ H _ q
    rw [sw_any (by rw [g.sc_]; exact g.kf), g.sc_, hsw]
  · cases h
/-- name = e -/
theorem ok_set (g : GoodS B N Z Γ n X W sc) {i : Nat} {e : E} {nm : Str} {p pos : Pos} {x : Expr} (h : chkSet B N mp sc i e nm p x = true) : PS X (.Assign [.Name nm p] x pos) (tAsg (tE X.K Z W (ev Γ e)) (gName i)) ∧ i ∉ mp := by
  unfold chkSet at h
  simp only [Bool.and_eq_true] at h
  obtain ⟨⟨⟨⟨⟨q1, q2⟩, q3⟩, q4⟩, q5⟩, q6⟩ := h
  obtain ⟨s1, s2⟩ := g.sto nm q2
  refine ⟨?_, contains_not q3⟩
  have gen : ∀ hs : swapsWith x (some (.Name nm p)) pos.line X.env = pure false, PS X (.Assign [.Name nm p] x pos) (tAsg (tE X.K Z W (ev Γ e)) (gName i)) := fun hs =>
    ps_set (by rw [g.nN]; exact g.nd) (by rw [g.nN]; exact nIs_eq q1) s1 ((okE e g.toGood q5).v q4) hs s2
  cases x with
  | ListComp elt gs scope lp =>
    have hlc : ∃ el t it cs vs, e = .lc el t it cs vs := by
      split at q6
      · split at q6
        · exact ⟨_, _, _, _, _, rfl⟩
        · cases q6
      · cases q6
    obtain ⟨el, t, it, cs, vs, rfl⟩ := hlc
    cases hsw : swB sc nm p scope lp with
    | true =>
      refine set_lc g q1 ?_ hsw q5
      unfold swB at hsw
      simp only [Bool.and_eq_true] at hsw
      exact hsw.1.1
    | false => exact gen (by rw [sw_any (by rw [g.sc_]; exact g.kf), g.sc_, hsw])
  | _ => exact gen (swaps_name q6)
mutual
theorem okS : ∀ (a : S) {st : Stmt}, GoodS B N Z Γ n X W sc → chkS B N mp sc a st = true → PN X Z W Γ mp a st
  | .bad, st, g, h => n_bad
  | .set i e, st, g, h => by
    simp only [chkS] at h
    split at h
    · obtain ⟨h1, h2⟩ := ok_set g h
      refine PS.imp h1 fun D σ H q => ?_
      have := use_set h2 q
      exact tF_E this
    · cases h
  | .seto i e, st, g, h => by
    simp only [chkS] at h
    split at h
    · obtain ⟨h1, h2⟩ := ok_set g h
      exact PS.imp h1 fun D σ H q => use_seto h2 q
    · cases h
  | .unp is e, st, g, h => by
    simp only [chkS] at h
    split at h
    · simp only [Bool.and_eq_true, List.all_eq_true] at h
      obtain ⟨⟨⟨⟨⟨q1, q2⟩, q3⟩, q4⟩, q5⟩, q6⟩ := h
      exact n_unp (fun i hi => contains_not (q2 i hi)) (g.tg q1) ((okE e g.toGood q6).o q3) (swaps_tup q4) (stores_none q5) rfl
    · cases h
  | .par is es, st, g, h => by
    simp only [chkS] at h
    split at h
    · split at h
      · simp only [Bool.and_eq_true, Bool.not_eq_true'] at h
        obtain ⟨⟨⟨⟨⟨⟨⟨⟨⟨⟨q1, q2⟩, q3⟩, q4⟩, q5⟩, q6⟩, q7⟩, q8⟩, q9⟩, q10⟩, q11⟩ := h
        have sl := okEs es g.toGood q11
        have pa := sl.fs q9
        cases sl with
        | cons s1 s2 s3 =>
          cases s3 with
          | cons s4 s5 s6 =>
            have hne : ∀ {a b : Str}, sEq a b = false → a ≠ b := fun h => of_decide_eq_false h
            have apart : ∀ {i j : Nat} {a b : Str}, nIs N i a = true → nIs N j b = true → a ≠ b → i ≠ j := fun x1 x2 x3 e => by
              have e1 := nIs_eq x1
              have e2 := nIs_eq x2
              rw [e, e2] at e1
              exact x3 (Option.some.inj e1).symm
            exact n_par (xs := []) (by simpa using q3) (by simpa using q4) (ps_par g.calm (by rw [g.nN]; exact g.nd) (by rw [g.nN]; exact nIs_eq q1) (by rw [g.nN]; exact nIs_eq q2) (apart q1 q2 (hne q7)) (by rw [g.sc_]; exact locB_eq q5) (by rw [g.sc_]; exact locB_eq q6) pa
              (swp2 (by rw [g.sc_]; exact g.kf) (by rw [g.sc_]; exact locB_eq q5) (by rw [g.sc_]; exact locB_eq q6) (hne q7) q8 s1 s4 q10))
      · simp only [Bool.and_eq_true, Bool.not_eq_true'] at h
        obtain ⟨⟨⟨⟨⟨⟨⟨⟨⟨⟨⟨⟨⟨⟨⟨⟨q1, q2⟩, q3⟩, r1⟩, r2⟩, r3⟩, l1⟩, l2⟩, l3⟩, e1⟩, e2⟩, e3⟩, p1⟩, p2⟩, q9⟩, q10⟩, q11⟩ := h
        have sl := okEs es g.toGood q11
        have pa := sl.fs q9
        cases sl with
        | cons s1 s2 s3 =>
          cases s3 with
          | cons s4 s5 s6 =>
            cases s6 with
            | cons s7 s8 s9 =>
              have hne : ∀ {a b : Str}, sEq a b = false → a ≠ b := fun h => of_decide_eq_false h
              have apart : ∀ {i j : Nat} {a b : Str}, nIs N i a = true → nIs N j b = true → a ≠ b → i ≠ j := fun x1 x2 x3 e => by
                have e1 := nIs_eq x1
                have e2 := nIs_eq x2
                rw [e, e2] at e1
                exact x3 (Option.some.inj e1).symm
              exact n_par3 (by simpa using r1) (by simpa using r2) (by simpa using r3) (ps_par3 g.calm (by rw [g.nN]; exact g.nd) (by rw [g.nN]; exact nIs_eq q1) (by rw [g.nN]; exact nIs_eq q2) (by rw [g.nN]; exact nIs_eq q3) (apart q1 q2 (hne e1)) (apart q1 q3 (hne e2)) (apart q2 q3 (hne e3))
                (by rw [g.sc_]; exact locB_eq l1) (by rw [g.sc_]; exact locB_eq l2) (by rw [g.sc_]; exact locB_eq l3) pa
                (swp3 (by rw [g.sc_]; exact g.kf) (by rw [g.sc_]; exact locB_eq l1) (by rw [g.sc_]; exact locB_eq l2) (by rw [g.sc_]; exact locB_eq l3) (hne e1) (hne e2) (hne e3) p1 p2 s1 s4 s7 q10))
      · cases h
    · cases h
  | .sidx p i e, st, g, h => by
    simp only [chkS] at h
    split at h
    · simp only [Bool.and_eq_true] at h
      obtain ⟨⟨⟨⟨⟨⟨q1, q2⟩, q3⟩, q4⟩, q5⟩, q6⟩, q7⟩ := h
      exact n_sidx (by have := g.room.units; omega) (g.name q1) ((okE i g.toGood q6).v q4) ((okE e g.toGood q7).v q5) q2 (swaps_sub q3)
    · cases h
  | .swp _ _ _ _ _, st, g, h => by simp only [chkS] at h; cases h
  | .ex e, st, g, h => by
    simp only [chkS] at h
    split at h
    · simp only [Bool.and_eq_true] at h
      exact n_ex (swaps_none h.1.1) ((okE e g.toGood h.2).v h.1.2)
    · cases h
  | .ret e, st, g, h => by
    simp only [chkS] at h
    split at h
    · simp only [Bool.and_eq_true] at h
      exact n_ret ((okE e g.toGood h.2).v h.1)
    · cases h
  | .reto e, st, g, h => by
    simp only [chkS] at h
    split at h
    · simp only [Bool.and_eq_true] at h
      have hs := okE e g.toGood h.2
      by_cases hv : ∃ i, e = .var i
      · obtain ⟨i, rfl⟩ := hv
        exact n_retv hs
      · exact n_reto (fun i e => hv ⟨i, e⟩) (hs.v h.1)
    · cases h
  | .retN, st, g, h => by
    simp only [chkS] at h
    split at h
    · exact n_retN
    · cases h
  | .ite c a b, st, g, h => by
    simp only [chkS] at h
    split at h
    · simp only [Bool.and_eq_true] at h
      exact n_if (okT c g.toGood h.1.1).pt (okSs a g h.1.2) (okSs b g h.2)
    · cases h
  | .forr t it b, st, g, h => by
    simp only [chkS] at h
    split at h
    · simp only [Bool.and_eq_true, List.all_eq_true] at h
      obtain ⟨⟨⟨⟨⟨q1, q2⟩, q3⟩, q4⟩, q5⟩, q6⟩ := h
      exact n_for g.hp g.calm (fun i hi => contains_not (q3 i hi)) ((okE it g.toGood q5).i q1) (g.tg q4) (okSs b g q6) (fold_ne q2)
    · cases h
  | .whl c b, st, g, h => by
    simp only [chkS] at h
    split at h
    · simp only [Bool.and_eq_true] at h
      exact n_while g.hp (okT c g.toGood h.1).pt (okSs b g h.2)
    · cases h
  | .brk, st, g, h => by
    simp only [chkS] at h
    split at h
    · exact n_brk
    · cases h
  | .cnt, st, g, h => by
    simp only [chkS] at h
    split at h
    · exact n_cnt
    · cases h
  | .pass, st, g, h => by
    simp only [chkS] at h
    split at h
    · exact n_pass
    · exact n_doc
    · cases h
  | .raise _ _ _, st, g, h => by simp only [chkS] at h; cases h
theorem okSs : ∀ (a : Ss) {st : List Stmt}, GoodS B N Z Γ n X W sc → chkSs B N mp sc a st = true → PNs X Z W Γ mp a st
  | .nil, st, g, h => by
    simp only [chkSs] at h
    split at h
    · exact n_nil
    · cases h
  | .cons a r, st, g, h => by
    simp only [chkSs] at h
    split at h
    · simp only [Bool.and_eq_true] at h
      exact n_cons (okS a g h.1) (okSs r g h.2)
    · cases h
end
end
end OM


set_option autoImplicit false
set_option linter.all false
set_option maxRecDepth 100000
set_option maxHeartbeats 1000000
/-! S15: defs, the program. -/
namespace OM
open PySem PySem.Spec PyProof.Rows L2

def FnG0 (Pm : Program) (w : World) (K : Frag) (mg : Str → Option Value) (base : Heap) (Z : XS) (n : Nat) (nm : Str) (fd : FDef) (φ : List D → CR) : Prop := ∃ (f : Addr) (fdd : FuncData) (ps : List Str), mg nm = some (.ref f) ∧ PySem.W.keepIn K (.ref f) = true ∧
  FnOk Pm w K mg base (L2.CX Pm w) n f fdd ps (spF K Z fd φ) ∧
  ∀ m, m ≤ fd.np → fd.np ≤ m + fd.dfl.length → ∃ dvs ds, Binds K fdd ps ds ∧ Vals dvs ds ∧ ∀ F, datL K F (fd.dfl.drop (m + fd.dfl.length - fd.np)) dvs
def runB (P : Prog) : Nat → FDef → List D → CR
  | 0 => fun _ _ => .bad
  | n + 1 => fun fd => callB (run P n) fd
theorem run_eq {P : Prog} {f : Nat} {fd : FDef} (h : P f = some fd) : ∀ (n : Nat) (ds : List D), run P n f ds = if ds.length ≤ fd.np ∧ fd.np ≤ ds.length + fd.dfl.length then runB P n fd (ds ++ fd.dfl.drop (ds.length + fd.dfl.length - fd.np)) else .bad
  | 0, ds => by simp only [run, runB]; split <;> rfl
  | n + 1, ds => by
    simp only [run, h, callF]
    rfl
theorem outsOf_sset : ∀ (is : List Nat) (s : Env) (i : Nat) (d : Option D), i ∉ is → outsOf (sset s i d) is = outsOf s is
  | [], _, _, _, _ => rfl
  | j :: r, s, i, d, h => by
    simp only [List.mem_cons, not_or] at h
    simp only [outsOf]
    rw [sget_sset s i j d h.1, outsOf_sset r s i d h.2]
theorem take_outs {K : Frag} {F H : Hp} {σ : L2.St} : ∀ {is : List Nat} {os : List D} {s : Env} {O : List Addr}, erep K F H s σ O → outsOf s is = some os → is.Nodup → ∃ Oa Or, O.Perm (Oa ++ Or) ∧ erep K F H (os.map some) (is.map fun i => σ[i]?.join) Oa
  | [], os, s, O, er, e, _ => by
    simp only [outsOf] at e
    cases e
    exact ⟨[], O, List.Perm.refl _, rfl, rfl⟩
  | i :: r, os, s, O, er, e, hn => by
    simp only [List.nodup_cons] at hn
    simp only [outsOf] at e
    cases hs : sget s i with
    | none => rw [hs] at e; cases e
    | some d =>
      rw [hs, Option.bind_some] at e
      obtain ⟨os', e2, eo⟩ := Option.map_eq_some_iff.mp e
      subst eo
      obtain ⟨v, A, O', q1, q2, q3, q4⟩ := erep_take er hs
      rw [← outsOf_sset r s i none hn.1] at e2
      obtain ⟨Oa, Or, p1, p2⟩ := take_outs q4 e2 hn.2
      refine ⟨A ++ Oa, Or, ?_, v, _, A, Oa, ?_, rfl, q2, p2⟩
      · rw [List.append_assoc]; exact q3.trans (List.Perm.append_left A p1)
      · simp only [List.map_cons, q1]; rfl
/-- a def of the text is at hand -/
structure DefOk (B : Tab) (Pm : Program) (w : World) (K : Frag) (mg : Str → Option Value) (base : Heap) (nm : Str) (fd : FDef) : Prop where
  ex : ∃ (f : Addr) (fdd : FuncData) (N ps : List Str) (qual : Str) (params : Arguments) (body : List Stmt) (scope : Scope) (dvs : List V),
    mg nm = some (.ref f) ∧ FunD K nm qual params body scope dvs [] f fdd ∧ FnScope N ps scope ∧ ps.length = fd.np ∧ N.length = fd.ns ∧ (fd.mp.Nodup ∧ ∀ i ∈ fd.mp, i < fd.np) ∧ (∀ x ∈ N, (x == ("__debug__" : Str)) = false ∧ (x == ("__classdict__" : Str)) = false) ∧
    chkSs B N fd.mp scope fd.body body = true ∧ ∀ m, m ≤ fd.np → fd.np ≤ m + fd.dfl.length → ∃ dvs ds, Binds K fdd ps ds ∧ Vals dvs ds ∧ ∀ F, datL K F (fd.dfl.drop (m + fd.dfl.length - fd.np)) dvs
theorem erep_none {K : Frag} {F H : Hp} : ∀ n : Nat, erep K F H (List.replicate n none) (List.replicate n none) []
  | 0 => ⟨rfl, rfl⟩
  | n + 1 => ⟨none, List.replicate n none, rfl, erep_none n⟩
theorem erep_all {K : Frag} {F H : Hp} : ∀ {ds : List D} {σ : L2.St} {O : List Addr}, erep K F H (ds.map some) σ O → ds.length = σ.length
  | [], _, _, ⟨e, _⟩ => by rw [e]; rfl
  | _ :: _, _, _, ⟨v, r, A, O', e, _, _, h⟩ => by rw [e, List.length_cons, List.length_cons, erep_all h]
theorem body_run {B : Tab} {Pm : Program} {w : World} {K : Frag} {mg : Str → Option Value} {base : Heap} {Z : XS} {n : Nat} {nm : Str} {fd : FDef}
    (free : ∀ x ∈ B.frs, mg x = none) (glb : ∀ (g : Nat) nm d, B.gls[g]? = some (nm, d) → (nm == ("__debug__" : Str)) = false ∧ ∃ u v, mg nm = some u ∧ RelV v u ∧ ∀ F, dat K F d v)
    (dbg : ∀ nm ∈ B.nms, (nm == ("__debug__" : Str)) = false)
    (ih : ∀ f fd nm, B.P f = some fd → B.nms[f]? = some nm → FnG0 Pm w K mg base Z n nm fd (runB B.P n fd))
    {f : Addr} {fdd : FuncData} {N ps : List Str} {qual : Str} {params : Arguments} {body : List Stmt} {scope : Scope} {dvs : List V}
    (F : FunD K nm qual params body scope dvs [] f fdd) (S : FnScope N ps scope) (h2 : ps.length = fd.np) (h3 : N.length = fd.ns) (hm : fd.mp.Nodup ∧ ∀ i ∈ fd.mp, i < fd.np) (h5 : ∀ x ∈ N, (x == ("__debug__" : Str)) = false ∧ (x == ("__classdict__" : Str)) = false)
    (h6 : chkSs B N fd.mp scope fd.body body = true) : FnOk Pm w K mg base (L2.CX Pm w) (n + 1) f fdd ps (spF K Z fd (callB (run B.P n) fd)) := by
  obtain ⟨h4, h4'⟩ := hm
  refine F.ok S (fun vs H Q E h => h.1.trans h2.symm) fun cdv A outer s H vs Q E hr hsp => ?_
  have g : GoodS B N Z (run B.P n) n (cxOf (L2.CX Pm w) Pm w K mg base N qual scope f cdv A outer s H E) (fun cls dd _ H => E cls dd H) scope := {
    tk := takes_of (E₁ := fun e' s'' => L2.CX Pm w outer H s E e' s'') rfl rfl rfl rfl
    room := hr
    calm := rfl
    nN := rfl
    nd := S.nd
    dbg := h5
    sc_ := rfl
    sto := fun x hx => by
      unfold stoB at hx
      split at hx
      · rename_i e; exact ⟨.inl e, .inl rfl⟩
      · rename_i e; exact ⟨.inr e, .inl rfl⟩
      · cases hx
    free := free
    funs := fun f fd nm e1 e2 => ⟨dbg nm (List.mem_of_getElem? e2), runB B.P n fd, ih f fd nm e1 e2, run_eq e1 n⟩
    glb := glb
    hp := passes_of rfl
    kf := S.kind }
  refine ⟨tS K Z (fun cls dd _ H => E cls dd H) fd.mp (execs (run B.P n) fd.body), okSs fd.body g h6, ?_⟩
  obtain ⟨hl, F0, O, ds, wf, er, hφ⟩ := hsp
  have hdl : ds.length = vs.length := by have := erep_all er; rw [List.length_map] at this; exact this
  have er0 : erep K F0 H (ds.map some ++ List.replicate (fd.ns - fd.np) none) (L2.start N vs) O := by
    unfold L2.start
    have := erep_app er (erep_none (K := K) (F := F0) (H := H) (fd.ns - fd.np))
    rw [List.append_nil] at this
    rw [h3, hl]
    exact this
  refine ⟨F0, O, _, ⟨wf, er0⟩, ?_⟩
  have hst : ∀ i ∈ fd.mp, (L2.start N vs)[i]? = vs[i]?.map some := fun i hi => by
    have := h4' i hi
    unfold L2.start
    rw [List.getElem?_append_left (by rw [List.length_map, hl]; exact this), List.getElem?_map]
  have outs : ∀ {σ1 : L2.St} {s1 : Env} {O1 : List Addr} {F1 H1 : Hp} {os : List D}, erep K F1 H1 s1 σ1 O1 → pin fd.mp (L2.start N vs) σ1 → outsOf s1 fd.mp = some os → ∃ Oa Or, O1.Perm (Oa ++ Or) ∧ erep K F1 H1 (os.map some) (fd.mp.map fun i => vs[i]?) Oa := fun er1 hp ho => by
    obtain ⟨Oa, Or, p1, p2⟩ := take_outs er1 ho h4
    refine ⟨Oa, Or, p1, ?_⟩
    have : (fd.mp.map fun i => vs[i]?) = fd.mp.map fun i => (_ : L2.St)[i]?.join := List.map_congr_left fun i hi => by
      rw [hp.2 i hi, hst i hi]
      cases vs[i]? <;> rfl
    rw [this]
    exact p2
  have hφ : match callB (run B.P n) fd ds with
    | .ok d outs => ∀ v A O1 F1 H1, Ext F0 H O F1 H1 (A ++ O1) → Wf F1 H1 (A ++ O1) → rep K F1 H1 d v A → erep K F1 H1 (outs.map some) (fd.mp.map fun i => vs[i]?) O1 → Q v H1
    | .exc x outs => ∀ cls dd O1 F1 H1, Ext F0 H O F1 H1 O1 → Wf F1 H1 O1 → erep K F1 H1 (outs.map some) (fd.mp.map fun i => vs[i]?) O1 → Z F1 x cls dd H1 → E cls dd H1
    | .bad => False := hφ
  unfold callB at hφ
  cases hr : execs (run B.P n) fd.body (ds.map some ++ List.replicate (fd.ns - fd.np) none) with
  | bad => rw [hr] at hφ; exact hφ.elim
  | exc x s1 =>
    rw [hr] at hφ
    simp only [] at hφ
    cases ho : outsOf s1 fd.mp with
    | none => rw [ho] at hφ; exact hφ.elim
    | some os =>
      rw [ho] at hφ
      intro cls dd σ1 O1 F1 H1 e1 p1 hp z
      obtain ⟨Oa, Or, q1, q2⟩ := outs p1.er hp ho
      have w1 := p1.wf.perm q1
      exact hφ cls dd Oa F1 H1 ((e1.perm q1).sub fun c z => List.mem_append_left _ z) (w1.sub (List.nodup_append.mp w1.nd).1 fun c z => List.mem_append_left _ z) q2 z
  | ok fl s1 =>
    rw [hr] at hφ
    simp only [] at hφ
    have fin : ∀ {d : D} {v : V} {A O1 : List Addr} {σ1 : L2.St} {F1 H1 : Hp} {os : List D}, outsOf s1 fd.mp = some os → (∀ v A O1 F1 H1, Ext F0 H O F1 H1 (A ++ O1) → Wf F1 H1 (A ++ O1) → rep K F1 H1 d v A → erep K F1 H1 (os.map some) (fd.mp.map fun i => vs[i]?) O1 → Q v H1) →
        Ext F0 H O F1 H1 (A ++ O1) → Wf F1 H1 (A ++ O1) → erep K F1 H1 s1 σ1 O1 → pin fd.mp (L2.start N vs) σ1 → rep K F1 H1 d v A → Q v H1 := fun {d v A O1 σ1 F1 H1 os} ho hq e1 w1 r1 hp q => by
      obtain ⟨Oa, Or, q1, q2⟩ := outs r1 hp ho
      have pm : (A ++ O1).Perm ((A ++ Oa) ++ Or) := by rw [List.append_assoc]; exact List.Perm.append_left A q1
      have w2 := w1.perm pm
      exact hq v A Oa F1 H1 ((e1.perm pm).sub fun c z => List.mem_append_left _ z) (w2.sub (List.nodup_append.mp w2.nd).1 fun c z => List.mem_append_left _ z) q q2
    cases ho : outsOf s1 fd.mp with
    | none => cases fl <;> (rw [ho] at hφ; exact (show False from hφ).elim)
    | some os =>
      rw [ho] at hφ
      cases fl with
      | brk => exact (show False from hφ).elim
      | cnt => exact (show False from hφ).elim
      | next => exact fun σ1 O1 F1 H1 e1 p1 hp => fin (A := []) ho hφ e1 p1.wf p1.er hp (rep_of_dat (by simp [dat]))
      | ret d => exact fun v A σ1 O1 F1 H1 e1 w1 r1 hp q => fin ho hφ e1 w1 r1 hp q
theorem body_ok {B : Tab} {Pm : Program} {w : World} {K : Frag} {mg : Str → Option Value} {base : Heap} {Z : XS} {n : Nat} {nm : Str} {fd : FDef}
    (free : ∀ x ∈ B.frs, mg x = none) (glb : ∀ (g : Nat) nm d, B.gls[g]? = some (nm, d) → (nm == ("__debug__" : Str)) = false ∧ ∃ u v, mg nm = some u ∧ RelV v u ∧ ∀ F, dat K F d v)
    (dbg : ∀ nm ∈ B.nms, (nm == ("__debug__" : Str)) = false)
    (ih : ∀ f fd nm, B.P f = some fd → B.nms[f]? = some nm → FnG0 Pm w K mg base Z n nm fd (runB B.P n fd)) (d : DefOk B Pm w K mg base nm fd) : FnG0 Pm w K mg base Z (n + 1) nm fd (runB B.P (n + 1) fd) := by
  obtain ⟨f, fdd, N, ps, qual, params, body, scope, dvs, h1, F, S, h2, h3, h4, h5, h6, h7⟩ := d.ex
  exact ⟨f, fdd, ps, h1, F.kp, body_run free glb dbg ih F S h2 h3 h4 h5 h6, h7⟩
theorem prog_ok {B : Tab} {Pm : Program} {w : World} {K : Frag} {mg : Str → Option Value} {base : Heap} {Z : XS}
    (free : ∀ x ∈ B.frs, mg x = none) (glb : ∀ (g : Nat) nm d, B.gls[g]? = some (nm, d) → (nm == ("__debug__" : Str)) = false ∧ ∃ u v, mg nm = some u ∧ RelV v u ∧ ∀ F, dat K F d v)
    (dbg : ∀ nm ∈ B.nms, (nm == ("__debug__" : Str)) = false) (all : ∀ f fd nm, B.P f = some fd → B.nms[f]? = some nm → DefOk B Pm w K mg base nm fd) :
    ∀ (n : Nat) f fd nm, B.P f = some fd → B.nms[f]? = some nm → FnG0 Pm w K mg base Z n nm fd (runB B.P n fd)
  | 0, f, fd, nm, e1, e2 => by
    obtain ⟨f, fdd, N, ps, qual, params, body, scope, dvs, h1, F, S, h2, h3, h4, h5, h6, h7⟩ := (all f fd nm e1 e2).ex
    exact ⟨f, fdd, ps, h1, F.kp, ⟨fun vs H Q E h => h.1.trans h2.symm, fun A outer s H args us vs Q E hr e0 hb r hsp => by
      obtain ⟨_, _, _, _, _, _, z⟩ := hsp
      exact z.elim⟩, h7⟩
  | n + 1, f, fd, nm, e1, e2 => body_ok free glb dbg (prog_ok free glb dbg all n) (all f fd nm e1 e2)
/-- the law's own promise -/
theorem law_sp {K : Frag} {Z : XS} {fd : FDef} {φ : List D → CR} {H : Hp} {a : Addr} {ns : List Int} {E : XK} (h1 : fd.np = 1) (h : ∃ outs, φ [.scr ns] = .ok (.bl true) outs) (hS : SqL K H a (ns.map V.int)) : spF K Z fd φ [.ref a] H (fun v _ => v = .bl true) E := by
  obtain ⟨outs, e⟩ := h
  refine ⟨h1.symm, H, [], [.scr ns], ⟨List.nodup_nil, Same.refl _, fun _ z => (nomatch z), fun _ z => (nomatch z)⟩, ⟨.ref a, [], [], [], rfl, rfl, ⟨rfl, by simp only [dat]; exact ⟨a, rfl, hS⟩⟩, rfl, rfl⟩, ?_⟩
  rw [e]
  exact fun v A O1 F1 H1 _ _ q _ => q.2
theorem noCX {P : Program} {w : World} {o : List PySem.Env} {H : Hp} {s : Shared} {e : Value} {s' : Shared} (c : L2.CX P w o H s (fun _ _ _ => False) e s') : False := by
  obtain ⟨a, B, H', cls, d, _, _, _, _, _, _, _, z⟩ := c
  exact z
theorem walk_w {l : PySem.W.OpenLaw} {n k : Nat} {q : Program} {loose : List Str} {XP : (Str → Option Value) → Heap → Prop} {YP : World → Heap → Prop} {d : DefRec} {x : Str}
    (hn : l.most = some n) (hn2 : n ≤ sizeLine) (hdf : d.params.defaults = []) (hr : Room k callerA)
    (F : ∀ (w : World) (mg : Str → Option Value) (fa : Addr) (h : Heap), YP w h → h.Ns mainGlobals mg → mg d.name = some (.ref fa) →
      ∃ (K : PySem.W.Frag) (fd : FuncData) (sp : Sp), K.In h ∧ (∀ (s : Shared) (u : Value), BindsTo s fd ⟨[u], []⟩ [(x, u)]) ∧
        (∀ (H : Hp) (a : Addr) (ns : List Int), ns.length ≤ n → Only H → SqL K H a (ns.map V.int) → sp [.ref a] H (fun v _ => v = .bl true) fun _ _ _ => False) ∧
        ∀ base : Heap, K.In base → base.Ns mainGlobals mg → FnOk l.prog w K mg base (L2.CX l.prog w) k fa fd [x] sp) :
    PySem.W.WalkO q loose XP YP l.row.toRowW d [] (fun f vs => PySem.call f vs) := by
  refine Att.attach_call hn hdf fun w s₀ s₁ mg mb fa o pm cd doc a vs ns G Y ho hd hcd hmg hobj hints hlen hg => ?_
  obtain ⟨K, fd, sp, KX, hb, hsp, hF⟩ := F w mg fa _ Y G.T.g hmg
  exact law_call KX G.T.g G.T.b G.T.builtins G.T.nolimit hg hobj hints (Nat.le_trans hlen hn2) hr hF hb (fun H hO hS => hsp H a ns hlen hO hS) fun H e s' => noCX
end OM


set_option autoImplicit false
namespace OM
open PySem
abbrev f_common : Nat := 0
abbrev f_part : Nat := 1
abbrev f_is_part : Nat := 2
abbrev f_whole : Nat := 3
abbrev f_plus : Nat := 4
abbrev f_minus : Nat := 5
abbrev f_times : Nat := 6
abbrev f_over : Nat := 7
abbrev f_is_less : Nat := 8
abbrev f_least : Nat := 9
abbrev f_greatest : Nat := 10
abbrev f_total : Nat := 11
abbrev f_floor_of : Nat := 12
abbrev f_ceiling_of : Nat := 13
abbrev f_told_part : Nat := 14
abbrev f__figures : Nat := 15
abbrev f_read_part : Nat := 16
abbrev f__law_draws : Nat := 17
abbrev f__law_box : Nat := 18
abbrev f__law_next : Nat := 19
abbrev f__law_some : Nat := 20
abbrev f_law : Nat := 21
/-- common: 0 one 1 other -/
def d_common : FDef := { np := 2, ns := 2, dfl := [], mp := [], body := (.cons (.whl (.v (.cmp .gt (.var 1) (.cst (.int 0)))) (.cons (.par [0, 1] (.cons (.var 1) (.cons (.bin .mod (.var 0) (.var 1)) .nil)))
  .nil))
  (.cons (.ret (.var 0))
  .nil)) }
/-- part: 0 above 1 below 2 shared -/
def d_part : FDef := { np := 2, ns := 3, dfl := [], mp := [], body := (.cons (.ite (.or (.v (.b .isBool (.cons (.var 0) .nil))) (.not (.v (.b .isInt (.cons (.var 0) .nil))))) (.cons .bad
  .nil) .nil)
  (.cons (.ite (.or (.v (.b .isBool (.cons (.var 1) .nil))) (.or (.not (.v (.b .isInt (.cons (.var 1) .nil)))) (.v (.cmp .lt (.var 1) (.cst (.int 1)))))) (.cons .bad
  .nil) .nil)
  (.cons (.set 2 (.call f_common (.cons (.b .abs (.cons (.var 0) .nil)) (.cons (.var 1) .nil))))
  (.cons (.ret (.tup (.cons (.bin .fdiv (.var 0) (.var 2)) (.cons (.bin .fdiv (.var 1) (.var 2)) .nil))))
  .nil)))) }
/-- is_part: 0 value 1 one -/
def d_is_part : FDef := { np := 1, ns := 2, dfl := [], mp := [], body := (.cons (.ite (.or (.not (.v (.b .isTuple (.cons (.var 0) .nil)))) (.v (.cmp .ne (.b .len (.cons (.var 0) .nil)) (.cst (.int 2))))) (.cons (.ret (.cst (.bl false)))
  .nil) .nil)
  (.cons (.ite (.v (.lc (.var 1) (.nm 1) (.var 0) (.cons (.or (.v (.b .isBool (.cons (.var 1) .nil))) (.not (.v (.b .isInt (.cons (.var 1) .nil))))) .nil) [1])) (.cons (.ret (.cst (.bl false)))
  .nil) .nil)
  (.cons (.ret (.and (.cmp .ge (.ix (.var 0) (.cst (.int 1))) (.cst (.int 1))) (.cmp .eq (.call f_common (.cons (.b .abs (.cons (.ix (.var 0) (.cst (.int 0))) .nil)) (.cons (.ix (.var 0) (.cst (.int 1))) .nil))) (.cst (.int 1)))))
  .nil))) }
/-- whole: 0 number -/
def d_whole : FDef := { np := 1, ns := 1, dfl := [], mp := [], body := (.cons (.ret (.call f_part (.cons (.var 0) (.cons (.cst (.int 1)) .nil))))
  .nil) }
/-- plus: 0 one 1 other -/
def d_plus : FDef := { np := 2, ns := 2, dfl := [], mp := [], body := (.cons (.ret (.call f_part (.cons (.bin .add (.bin .mul (.ix (.var 0) (.cst (.int 0))) (.ix (.var 1) (.cst (.int 1)))) (.bin .mul (.ix (.var 1) (.cst (.int 0))) (.ix (.var 0) (.cst (.int 1))))) (.cons (.bin .mul (.ix (.var 0) (.cst (.int 1))) (.ix (.var 1) (.cst (.int 1)))) .nil))))
  .nil) }
/-- minus: 0 one 1 other -/
def d_minus : FDef := { np := 2, ns := 2, dfl := [], mp := [], body := (.cons (.ret (.call f_part (.cons (.bin .sub (.bin .mul (.ix (.var 0) (.cst (.int 0))) (.ix (.var 1) (.cst (.int 1)))) (.bin .mul (.ix (.var 1) (.cst (.int 0))) (.ix (.var 0) (.cst (.int 1))))) (.cons (.bin .mul (.ix (.var 0) (.cst (.int 1))) (.ix (.var 1) (.cst (.int 1)))) .nil))))
  .nil) }
/-- times: 0 one 1 other -/
def d_times : FDef := { np := 2, ns := 2, dfl := [], mp := [], body := (.cons (.ret (.call f_part (.cons (.bin .mul (.ix (.var 0) (.cst (.int 0))) (.ix (.var 1) (.cst (.int 0)))) (.cons (.bin .mul (.ix (.var 0) (.cst (.int 1))) (.ix (.var 1) (.cst (.int 1)))) .nil))))
  .nil) }
/-- over: 0 one 1 other -/
def d_over : FDef := { np := 2, ns := 2, dfl := [], mp := [], body := (.cons (.ite (.v (.cmp .eq (.ix (.var 1) (.cst (.int 0))) (.cst (.int 0)))) (.cons .bad
  .nil) .nil)
  (.cons (.ite (.v (.cmp .lt (.ix (.var 1) (.cst (.int 0))) (.cst (.int 0)))) (.cons (.ret (.call f_part (.cons (.bin .mul (.neg (.ix (.var 0) (.cst (.int 0)))) (.ix (.var 1) (.cst (.int 1)))) (.cons (.bin .mul (.neg (.ix (.var 0) (.cst (.int 1)))) (.ix (.var 1) (.cst (.int 0)))) .nil))))
  .nil) .nil)
  (.cons (.ret (.call f_part (.cons (.bin .mul (.ix (.var 0) (.cst (.int 0))) (.ix (.var 1) (.cst (.int 1)))) (.cons (.bin .mul (.ix (.var 0) (.cst (.int 1))) (.ix (.var 1) (.cst (.int 0)))) .nil))))
  .nil))) }
/-- is_less: 0 one 1 other -/
def d_is_less : FDef := { np := 2, ns := 2, dfl := [], mp := [], body := (.cons (.ret (.cmp .lt (.bin .mul (.ix (.var 0) (.cst (.int 0))) (.ix (.var 1) (.cst (.int 1)))) (.bin .mul (.ix (.var 1) (.cst (.int 0))) (.ix (.var 0) (.cst (.int 1))))))
  .nil) }
/-- least: 0 values 1 found 2 value -/
def d_least : FDef := { np := 1, ns := 3, dfl := [], mp := [], body := (.cons (.set 1 (.ix (.var 0) (.cst (.int 0))))
  (.cons (.forr (.nm 2) (.var 0) (.cons (.ite (.v (.call f_is_less (.cons (.var 2) (.cons (.var 1) .nil)))) (.cons (.set 1 (.var 2))
  .nil) .nil)
  .nil))
  (.cons (.ret (.var 1))
  .nil))) }
/-- greatest: 0 values 1 found 2 value -/
def d_greatest : FDef := { np := 1, ns := 3, dfl := [], mp := [], body := (.cons (.set 1 (.ix (.var 0) (.cst (.int 0))))
  (.cons (.forr (.nm 2) (.var 0) (.cons (.ite (.v (.call f_is_less (.cons (.var 1) (.cons (.var 2) .nil)))) (.cons (.set 1 (.var 2))
  .nil) .nil)
  .nil))
  (.cons (.ret (.var 1))
  .nil))) }
/-- total: 0 values 1 found 2 value -/
def d_total : FDef := { np := 1, ns := 3, dfl := [], mp := [], body := (.cons (.set 1 (.tup (.cons (.cst (.int 0)) (.cons (.cst (.int 1)) .nil))))
  (.cons (.forr (.nm 2) (.var 0) (.cons (.set 1 (.call f_plus (.cons (.var 1) (.cons (.var 2) .nil))))
  .nil))
  (.cons (.ret (.var 1))
  .nil))) }
/-- floor_of: 0 value -/
def d_floor_of : FDef := { np := 1, ns := 1, dfl := [], mp := [], body := (.cons (.ret (.bin .fdiv (.ix (.var 0) (.cst (.int 0))) (.ix (.var 0) (.cst (.int 1)))))
  .nil) }
/-- ceiling_of: 0 value -/
def d_ceiling_of : FDef := { np := 1, ns := 1, dfl := [], mp := [], body := (.cons (.ret (.neg (.bin .fdiv (.neg (.ix (.var 0) (.cst (.int 0)))) (.ix (.var 0) (.cst (.int 1))))))
  .nil) }
/-- told_part: 0 value -/
def d_told_part : FDef := { np := 1, ns := 1, dfl := [], mp := [], body := (.cons (.ret (.ite (.v (.cmp .eq (.ix (.var 0) (.cst (.int 1))) (.cst (.int 1)))) (.b .str (.cons (.ix (.var 0) (.cst (.int 0))) .nil)) (.bin .add (.bin .add (.b .str (.cons (.ix (.var 0) (.cst (.int 0))) .nil)) (.cst (.str "/"))) (.b .str (.cons (.ix (.var 0) (.cst (.int 1))) .nil)))))
  .nil) }
/-- _figures: 0 word 1 figures 2 sign -/
def d__figures : FDef := { np := 1, ns := 3, dfl := [], mp := [], body := (.cons (.set 1 (.ite (.v (.cmp .eq (.slH (.var 0) (.cst (.int 1))) (.cst (.str "-")))) (.slL (.var 0) (.cst (.int 1))) (.var 0)))
  (.cons (.ite (.or (.not (.v (.cmp2 .le .le (.cst (.int 1)) (.b .len (.cons (.var 1) .nil)) (.cst (.int 18))))) (.v (.lc (.var 2) (.nm 2) (.var 1) (.cons (.v (.cmp .nin (.var 2) (.glob 0 (.str "0123456789")))) .nil) [2]))) (.cons .bad
  .nil) .nil)
  (.cons (.ite (.or (.and (.v (.cmp .gt (.b .len (.cons (.var 1) .nil)) (.cst (.int 1)))) (.v (.cmp .eq (.ix (.var 1) (.cst (.int 0))) (.cst (.str "0"))))) (.v (.cmp .eq (.var 0) (.cst (.str "-0"))))) (.cons .bad
  .nil) .nil)
  (.cons (.ret (.b .int (.cons (.var 0) .nil)))
  .nil)))) }
/-- read_part: 0 word 1 above 2 line 3 below 4 number 5 divisor -/
def d_read_part : FDef := { np := 1, ns := 6, dfl := [], mp := [], body := (.cons (.unp [1, 2, 3] (.m .partition (.var 0) (.cons (.cst (.str "/")) .nil)))
  (.cons (.set 4 (.call f__figures (.cons (.var 1) .nil)))
  (.cons (.ite (.v (.cmp .eq (.var 2) (.cst (.str "")))) (.cons (.ret (.tup (.cons (.var 4) (.cons (.cst (.int 1)) .nil))))
  .nil) .nil)
  (.cons (.set 5 (.call f__figures (.cons (.var 3) .nil)))
  (.cons (.ite (.or (.v (.cmp .lt (.var 5) (.cst (.int 2)))) (.v (.cmp .ne (.call f_part (.cons (.var 4) (.cons (.var 5) .nil))) (.tup (.cons (.var 4) (.cons (.var 5) .nil)))))) (.cons .bad
  .nil) .nil)
  (.cons (.ret (.tup (.cons (.var 4) (.cons (.var 5) .nil))))
  .nil)))))) }
/-- _law_draws: 0 seed 1 modulus 2 size_of 3 number 4 row 5 k 6 stirred -/
def d__law_draws : FDef := { np := 3, ns := 7, dfl := [], mp := [], body := (.cons (.set 3 (.var 0))
  (.cons (.ite (.v (.cmp .lt (.var 3) (.cst (.int 0)))) (.cons (.set 3 (.bin .sub (.bin .sub (.cst (.int 0)) (.cst (.int 1))) (.var 3)))
  .nil) .nil)
  (.cons (.seto 4 (.lst .nil))
  (.cons (.ite (.v (.cmp .ge (.var 3) (.bin .pow (.cst (.int 10)) (.cst (.int 18))))) (.cons (.forr (.nm 5) (.rng1 (.var 2)) (.cons (.ex (.app 4 (.bin .mod (.b .int (.cons (.var 3) .nil)) (.var 1))))
  (.cons (.set 3 (.bin .fdiv (.var 3) (.var 1)))
  .nil)))
  (.cons (.ret (.var 4))
  .nil)) .nil)
  (.cons (.forr (.nm 5) (.rng1 (.var 2)) (.cons (.set 6 (.bin .mod (.b .int (.cons (.bin .mul (.bin .add (.bin .add (.var 3) (.bin .mul (.cst (.int 7)) (.var 5))) (.cst (.int 1))) (.cst (.int 48271))) .nil)) (.cst (.int 2147483647))))
  (.cons (.set 6 (.bin .mod (.b .int (.cons (.bin .add (.bin .mul (.var 6) (.cst (.int 69621))) (.bin .mul (.cst (.int 31)) (.var 5))) .nil)) (.cst (.int 2147483629))))
  (.cons (.ex (.app 4 (.bin .mod (.b .int (.cons (.bin .fdiv (.var 6) (.cst (.int 7))) .nil)) (.var 1))))
  .nil))))
  (.cons (.ret (.var 4))
  .nil)))))) }
/-- _law_box: 0 script 1 row 2 seed -/
def d__law_box : FDef := { np := 1, ns := 3, dfl := [], mp := [], body := (.cons (.set 1 (.lst .nil))
  (.cons (.forr (.nm 2) (.var 0) (.cons (.set 1 (.bin .add (.var 1) (.call f__law_draws (.cons (.var 2) (.cons (.cst (.int 1000003)) (.cons (.cst (.int 6)) .nil))))))
  .nil))
  (.cons (.ite (.v (.cmp .eq (.b .len (.cons (.var 1) .nil)) (.cst (.int 0)))) (.cons (.set 1 (.lst (.cons (.cst (.int 11)) (.cons (.cst (.int 5)) (.cons (.cst (.int 2)) (.cons (.cst (.int 7)) (.cons (.cst (.int 31)) (.cons (.cst (.int 101)) (.cons (.cst (.int 997)) .nil)))))))))
  .nil) .nil)
  (.cons (.reto (.dsp [(.str "row"), (.str "at")] (.cons (.var 1) (.cons (.cst (.int 0)) .nil))))
  .nil)))) }
/-- _law_next: 0 pool 1 modulus 2 at 3 number -/
def d__law_next : FDef := { np := 2, ns := 4, dfl := [], mp := [0], body := (.cons (.set 2 (.ix (.var 0) (.cst (.str "at"))))
  (.cons (.sidx 0 (.cst (.str "at")) (.bin .add (.var 2) (.cst (.int 1))))
  (.cons (.set 3 (.ix (.ix (.var 0) (.cst (.str "row"))) (.bin .mod (.var 2) (.b .len (.cons (.ix (.var 0) (.cst (.str "row"))) .nil)))))
  (.cons (.ret (.bin .mod (.b .int (.cons (.bin .add (.var 3) (.bin .mul (.cst (.int 7919)) (.bin .fdiv (.var 2) (.b .len (.cons (.ix (.var 0) (.cst (.str "row"))) .nil))))) .nil)) (.var 1)))
  .nil)))) }
/-- _law_some: 0 pool 1 values 2 many 3 left 4 k -/
def d__law_some : FDef := { np := 3, ns := 5, dfl := [], mp := [0], body := (.cons (.seto 3 (.b .list (.cons (.var 1) .nil)))
  (.cons (.ret (.lc (.popAt 3 (.call f__law_next (.cons (.mref 0) (.cons (.b .len (.cons (.var 3) .nil)) .nil)))) (.nm 4) (.rng1 (.b .min2 (.cons (.var 2) (.cons (.b .len (.cons (.var 1) .nil)) .nil)))) .nil [4]))
  .nil)) }
/-- law: 0 script 1 box 2 step 3 rows 4 mixed 5 one 6 two 7 low 8 high 9 a 10 b 11 k 12 shared 13 value -/
def d_law : FDef := { np := 1, ns := 14, dfl := [], mp := [], body := (.cons (.seto 1 (.call f__law_box (.cons (.var 0) .nil)))
  (.cons (.forr (.nm 2) (.rng1 (.cst (.int 9))) (.cons (.set 3 (.lc (.call f_part (.cons (.bin .sub (.call f__law_next (.cons (.mref 1) (.cons (.cst (.int 4001)) .nil))) (.cst (.int 2000))) (.cons (.bin .add (.cst (.int 1)) (.call f__law_next (.cons (.mref 1) (.cons (.cst (.int 400)) .nil)))) .nil))) (.nm 11) (.rng1 (.bin .add (.cst (.int 1)) (.call f__law_next (.cons (.mref 1) (.cons (.cst (.int 7)) .nil))))) .nil [11]))
  (.cons (.set 4 (.call f__law_some (.cons (.mref 1) (.cons (.var 3) (.cons (.b .len (.cons (.var 3) .nil)) .nil)))))
  (.cons (.ite (.or (.v (.cmp .ne (.call f_total (.cons (.var 4) .nil)) (.call f_total (.cons (.var 3) .nil)))) (.or (.v (.cmp .ne (.call f_least (.cons (.var 4) .nil)) (.call f_least (.cons (.var 3) .nil)))) (.or (.v (.cmp .ne (.call f_greatest (.cons (.var 4) .nil)) (.call f_greatest (.cons (.var 3) .nil)))) (.v (.b .any (.cons (.lc (.cmp .isn (.call f_is_part (.cons (.var 13) .nil)) (.cst (.bl true))) (.nm 13) (.var 3) .nil [13]) .nil)))))) (.cons (.ret (.cst (.bl false)))
  .nil) .nil)
  (.cons (.par [5, 6] (.cons (.ix (.var 3) (.cst (.int 0))) (.cons (.ix (.var 4) (.cst (.int 0))) .nil)))
  (.cons (.ite (.or (.v (.cmp .ne (.call f_plus (.cons (.var 5) (.cons (.var 6) .nil))) (.call f_plus (.cons (.var 6) (.cons (.var 5) .nil))))) (.or (.v (.cmp .ne (.call f_times (.cons (.var 5) (.cons (.var 6) .nil))) (.call f_times (.cons (.var 6) (.cons (.var 5) .nil))))) (.or (.v (.cmp .ne (.call f_minus (.cons (.var 5) (.cons (.var 6) .nil))) (.call f_times (.cons (.call f_minus (.cons (.var 6) (.cons (.var 5) .nil))) (.cons (.tup (.cons (.bin .sub (.cst (.int 0)) (.cst (.int 1))) (.cons (.cst (.int 1)) .nil))) .nil))))) (.v (.cmp .ne (.call f_plus (.cons (.var 5) (.cons (.call f_minus (.cons (.var 6) (.cons (.var 5) .nil))) .nil))) (.var 6)))))) (.cons (.ret (.cst (.bl false)))
  .nil) .nil)
  (.cons (.ite (.and (.v (.cmp .ne (.ix (.var 6) (.cst (.int 0))) (.cst (.int 0)))) (.or (.v (.cmp .ne (.call f_over (.cons (.call f_times (.cons (.var 5) (.cons (.var 6) .nil))) (.cons (.var 6) .nil))) (.var 5))) (.or (.v (.cmp .ne (.call f_times (.cons (.call f_over (.cons (.var 5) (.cons (.var 6) .nil))) (.cons (.var 6) .nil))) (.var 5))) (.v (.cmp .ne (.call f_over (.cons (.var 6) (.cons (.var 6) .nil))) (.tup (.cons (.cst (.int 1)) (.cons (.cst (.int 1)) .nil)))))))) (.cons (.ret (.cst (.bl false)))
  .nil) .nil)
  (.cons (.ite (.or (.v (.cmp .ne (.call f_is_less (.cons (.var 5) (.cons (.var 6) .nil))) (.cmp .lt (.ix (.call f_minus (.cons (.var 5) (.cons (.var 6) .nil))) (.cst (.int 0))) (.cst (.int 0))))) (.or (.and (.v (.call f_is_less (.cons (.var 5) (.cons (.var 6) .nil)))) (.v (.call f_is_less (.cons (.var 6) (.cons (.var 5) .nil))))) (.and (.not (.v (.call f_is_less (.cons (.var 5) (.cons (.var 6) .nil))))) (.and (.not (.v (.call f_is_less (.cons (.var 6) (.cons (.var 5) .nil))))) (.v (.cmp .ne (.var 5) (.var 6))))))) (.cons (.ret (.cst (.bl false)))
  .nil) .nil)
  (.cons (.par [7, 8] (.cons (.call f_floor_of (.cons (.var 5) .nil)) (.cons (.call f_ceiling_of (.cons (.var 5) .nil)) .nil)))
  (.cons (.ite (.or (.v (.call f_is_less (.cons (.var 5) (.cons (.call f_whole (.cons (.var 7) .nil)) .nil)))) (.or (.v (.call f_is_less (.cons (.call f_whole (.cons (.var 8) .nil)) (.cons (.var 5) .nil)))) (.or (.not (.v (.call f_is_less (.cons (.var 5) (.cons (.call f_whole (.cons (.bin .add (.var 7) (.cst (.int 1))) .nil)) .nil))))) (.or (.not (.v (.call f_is_less (.cons (.call f_whole (.cons (.bin .sub (.var 8) (.cst (.int 1))) .nil)) (.cons (.var 5) .nil))))) (.v (.cmp .ne (.cmp .eq (.var 7) (.var 8)) (.cmp .eq (.ix (.var 5) (.cst (.int 1))) (.cst (.int 1))))))))) (.cons (.ret (.cst (.bl false)))
  .nil) .nil)
  (.cons (.ite (.or (.v (.cmp .ne (.call f_floor_of (.cons (.call f_times (.cons (.var 5) (.cons (.tup (.cons (.bin .sub (.cst (.int 0)) (.cst (.int 1))) (.cons (.cst (.int 1)) .nil))) .nil))) .nil)) (.bin .sub (.cst (.int 0)) (.var 8)))) (.v (.cmp .ne (.call f_ceiling_of (.cons (.call f_plus (.cons (.var 5) (.cons (.call f_whole (.cons (.cst (.int 3)) .nil)) .nil))) .nil)) (.bin .add (.var 8) (.cst (.int 3)))))) (.cons (.ret (.cst (.bl false)))
  .nil) .nil)
  (.cons (.ite (.or (.v (.b .any (.cons (.lc (.cmp .ne (.call f_read_part (.cons (.call f_told_part (.cons (.var 13) .nil)) .nil)) (.var 13)) (.nm 13) (.var 3) .nil [13]) .nil))) (.v (.cmp .ne (.call f_told_part (.cons (.call f_whole (.cons (.var 7) .nil)) .nil)) (.b .str (.cons (.var 7) .nil))))) (.cons (.ret (.cst (.bl false)))
  .nil) .nil)
  (.cons (.par [9, 10, 11] (.cons (.bin .add (.cst (.int 1)) (.call f__law_next (.cons (.mref 1) (.cons (.cst (.int 3000)) .nil)))) (.cons (.bin .add (.cst (.int 1)) (.call f__law_next (.cons (.mref 1) (.cons (.cst (.int 3000)) .nil)))) (.cons (.bin .add (.cst (.int 1)) (.call f__law_next (.cons (.mref 1) (.cons (.cst (.int 40)) .nil)))) .nil))))
  (.cons (.set 12 (.call f_common (.cons (.var 9) (.cons (.var 10) .nil))))
  (.cons (.ite (.or (.v (.cmp .ne (.bin .mul (.bin .fdiv (.var 9) (.var 12)) (.var 12)) (.var 9))) (.or (.v (.cmp .ne (.bin .mul (.bin .fdiv (.var 10) (.var 12)) (.var 12)) (.var 10))) (.v (.cmp .ne (.call f_common (.cons (.bin .fdiv (.var 9) (.var 12)) (.cons (.bin .fdiv (.var 10) (.var 12)) .nil))) (.cst (.int 1)))))) (.cons (.ret (.cst (.bl false)))
  .nil) .nil)
  (.cons (.ite (.or (.v (.cmp .ne (.call f_common (.cons (.bin .mul (.var 9) (.var 11)) (.cons (.bin .mul (.var 10) (.var 11)) .nil))) (.bin .mul (.var 12) (.var 11)))) (.or (.v (.cmp .ne (.call f_common (.cons (.var 10) (.cons (.var 9) .nil))) (.var 12))) (.or (.v (.cmp .ne (.call f_common (.cons (.var 9) (.cons (.cst (.int 0)) .nil))) (.var 9))) (.v (.cmp .ne (.call f_common (.cons (.cst (.int 0)) (.cons (.var 9) .nil))) (.var 9)))))) (.cons (.ret (.cst (.bl false)))
  .nil) .nil)
  (.cons (.ite (.or (.v (.cmp .ne (.call f_part (.cons (.bin .mul (.var 9) (.var 11)) (.cons (.bin .mul (.var 10) (.var 11)) .nil))) (.call f_part (.cons (.var 9) (.cons (.var 10) .nil))))) (.or (.v (.cmp .ne (.call f_part (.cons (.var 9) (.cons (.var 10) .nil))) (.tup (.cons (.bin .fdiv (.var 9) (.var 12)) (.cons (.bin .fdiv (.var 10) (.var 12)) .nil))))) (.or (.v (.cmp .ne (.call f_part (.cons (.bin .sub (.cst (.int 0)) (.var 9)) (.cons (.var 10) .nil))) (.tup (.cons (.bin .sub (.cst (.int 0)) (.bin .fdiv (.var 9) (.var 12))) (.cons (.bin .fdiv (.var 10) (.var 12)) .nil))))) (.v (.cmp .ne (.call f_part (.cons (.cst (.int 0)) (.cons (.var 10) .nil))) (.tup (.cons (.cst (.int 0)) (.cons (.cst (.int 1)) .nil)))))))) (.cons (.ret (.cst (.bl false)))
  .nil) .nil)
  (.cons (.ite (.or (.v (.cmp .ne (.call f_times (.cons (.call f_part (.cons (.var 9) (.cons (.var 10) .nil))) (.cons (.call f_part (.cons (.var 10) (.cons (.var 9) .nil))) .nil))) (.tup (.cons (.cst (.int 1)) (.cons (.cst (.int 1)) .nil))))) (.or (.v (.cmp .ne (.call f_over (.cons (.call f_part (.cons (.var 9) (.cons (.var 10) .nil))) (.cons (.call f_part (.cons (.bin .sub (.cst (.int 0)) (.var 9)) (.cons (.var 10) .nil))) .nil))) (.tup (.cons (.bin .sub (.cst (.int 0)) (.cst (.int 1))) (.cons (.cst (.int 1)) .nil))))) (.v (.cmp .isn (.call f_is_part (.cons (.tup (.cons (.bin .mul (.var 9) (.cst (.int 2))) (.cons (.bin .mul (.var 10) (.cst (.int 2))) .nil))) .nil)) (.cst (.bl false)))))) (.cons (.ret (.cst (.bl false)))
  .nil) .nil)
  .nil))))))))))))))))))
  (.cons (.ret (.cmp .eq (.call f_total (.cons (.lst (.cons (.tup (.cons (.cst (.int 1)) (.cons (.cst (.int 2)) .nil))) (.cons (.tup (.cons (.cst (.int 1)) (.cons (.cst (.int 3)) .nil))) (.cons (.tup (.cons (.cst (.int 1)) (.cons (.cst (.int 6)) .nil))) .nil)))) .nil)) (.tup (.cons (.cst (.int 1)) (.cons (.cst (.int 1)) .nil)))))
  .nil))) }
def PG : Prog := fun n => ([d_common, d_part, d_is_part, d_whole, d_plus, d_minus, d_times, d_over, d_is_less, d_least, d_greatest, d_total, d_floor_of, d_ceiling_of, d_told_part, d__figures, d_read_part, d__law_draws, d__law_box, d__law_next, d__law_some, d_law] : List FDef)[n]?
end OM


set_option autoImplicit false
set_option linter.all false
/-! X1: the interpreter's steps, for simp. -/
namespace OM
open PySem
abbrev I (i : Int) : D := .int i
section
variable (Γ : FT) (s : Env)
@[simp] theorem bind_ok {α β : Type} (a : α) (s : Env) (f : α → Env → R β) : (R.ok a s).bind f = f a s := rfl
@[simp] theorem bind_bad {α β : Type} (f : α → Env → R β) : (R.bad : R α).bind f = .bad := rfl
@[simp] theorem lift_some {α : Type} (a : α) (s : Env) : lift (some a) s = .ok a s := rfl
@[simp] theorem x_sget0 (x : Option D) (r : Env) : sget (x :: r) 0 = x := rfl
@[simp] theorem x_sget (x : Option D) (r : Env) (n : Nat) : sget (x :: r) (n + 1) = sget r n := rfl
@[simp] theorem x_sset0 (x : Option D) (r : Env) (d : Option D) : sset (x :: r) 0 d = d :: r := rfl
@[simp] theorem x_sset (x : Option D) (r : Env) (n : Nat) (d : Option D) : sset (x :: r) (n + 1) d = x :: sset r n d := rfl
@[simp] theorem x_own_int (i : Int) : isOwn (.int i) = false := rfl
@[simp] theorem x_own_str (i : Str) : isOwn (.str i) = false := rfl
@[simp] theorem x_own_bl (i : Bool) : isOwn (.bl i) = false := rfl
@[simp] theorem x_own_non : isOwn .non = false := rfl
@[simp] theorem x_own_tup (i : List D) : isOwn (.tup i) = false := rfl
@[simp] theorem x_own_lst (o : Bool) (i : List D) : isOwn (.lst o i) = o := rfl
@[simp] theorem x_own_dct (o t : Bool) (i : List (D × D)) : isOwn (.dct o t i) = o := rfl
@[simp] theorem x_own_scr (i : List Int) : isOwn (.scr i) = false := rfl
@[simp] theorem x_frz_int (i : Int) : frz (.int i) = .int i := by simp [frz]
@[simp] theorem x_frz_str (i : Str) : frz (.str i) = .str i := by simp [frz]
@[simp] theorem x_frz_bl (i : Bool) : frz (.bl i) = .bl i := by simp [frz]
@[simp] theorem x_frz_non : frz .non = .non := by simp [frz]
@[simp] theorem x_frz_tup (i : List D) : frz (.tup i) = .tup i := by simp [frz]
@[simp] theorem x_frz_lst (o : Bool) (i : List D) : frz (.lst o i) = .lst false i := by simp [frz]
@[simp] theorem x_frz_dct (o t : Bool) (i : List (D × D)) : frz (.dct o t i) = .dct false t i := by simp [frz]
@[simp] theorem x_frz_scr (i : List Int) : frz (.scr i) = .scr i := by simp [frz]
@[simp] theorem x_copy (i : Nat) : copyV i s = match sget s i with
  | some d => if isOwn d = true then .ok (frz d) (sset s i (some (frz d))) else .ok d s
  | none => .bad := rfl
@[simp] theorem x_var (i : Nat) : ev Γ (.var i) s = copyV i s := rfl
@[simp] theorem x_cst (d : D) : ev Γ (.cst d) s = .ok d s := rfl
@[simp] theorem x_glob (g : Nat) (d : D) : ev Γ (.glob g d) s = .ok d s := rfl
@[simp] theorem x_tup (es : Es) : ev Γ (.tup es) s = (evs Γ es s).bind fun ds s1 => .ok (.tup ds) s1 := rfl
@[simp] theorem x_lst (es : Es) : ev Γ (.lst es) s = (evs Γ es s).bind fun ds s1 => .ok (.lst true ds) s1 := rfl
@[simp] theorem x_dnew (t : Bool) : ev Γ (.dnew t) s = .ok (.dct true t []) s := rfl
@[simp] theorem x_dsp (ks : List D) (vs : Es) : ev Γ (.dsp ks vs) s = (evs Γ vs s).bind fun vs s2 => lift ((zipD ks vs).map fun l => .dct true false (l.foldl (fun a kv => dput a kv.1 kv.2) [])) s2 := rfl
@[simp] theorem x_neg (e : E) : ev Γ (.neg e) s = (opd e (ev Γ e) s).bind fun x s1 => (match rdO e x s1 with
    | some (.int i) => .ok (.int (-i)) s1
    | _ => .bad) := rfl
@[simp] theorem x_not (e : T) : ev Γ (.not e) s = (evT Γ e s).bind fun t s1 => .ok (.bl (!t)) s1 := rfl
@[simp] theorem x_bin (op : Bop) (a b : E) : ev Γ (.bin op a b) s = (opd a (ev Γ a) s).bind fun x s1 => (opd b (ev Γ b) s1).bind fun y s2 => (match rdO a x s2, rdO b y s2 with
    | some x, some y => lift (bop op x y) s2
    | _, _ => .bad) := rfl
@[simp] theorem x_cmp (op : Cop) (a b : E) : ev Γ (.cmp op a b) s = (opd a (ev Γ a) s).bind fun x s1 => (opd b (ev Γ b) s1).bind fun y s2 => (match rdO a x s2, rdO b y s2 with
    | some x, some y => lift ((cop op x y).map .bl) s2
    | _, _ => .bad) := rfl
@[simp] theorem x_cmp2 (o1 o2 : Cop) (a b c : E) : ev Γ (.cmp2 o1 o2 a b c) s = (opd a (ev Γ a) s).bind fun x s1 => (opd b (ev Γ b) s1).bind fun y s2 => (match rdO a x s2, rdO b y s2 with
    | some x, some y' => (match cop o1 x y' with
      | some true => (opd c (ev Γ c) s2).bind fun z s3 => (match rdO b y s3, rdO c z s3 with
        | some y, some z => lift ((cop o2 y z).map .bl) s3
        | _, _ => .bad)
      | some false => .ok (.bl false) s2
      | none => .bad)
    | _, _ => .bad) := rfl
@[simp] theorem x_and (a b : E) : ev Γ (.and a b) s = (ev Γ a s).bind fun x s1 => (match x with
    | .bl true => ev Γ b s1
    | .bl false => .ok (.bl false) s1
    | _ => .bad) := rfl
@[simp] theorem x_or (a b : E) : ev Γ (.or a b) s = (ev Γ a s).bind fun x s1 => (match x with
    | .bl false => ev Γ b s1
    | .bl true => .ok (.bl true) s1
    | _ => .bad) := rfl
@[simp] theorem x_ite (c : T) (a b : E) : ev Γ (.ite c a b) s = (evT Γ c s).bind fun t s1 => if t = true then ev Γ a s1 else ev Γ b s1 := rfl
@[simp] theorem x_ix (a i : E) : ev Γ (.ix a i) s = (opd a (ev Γ a) s).bind fun x s1 => (opd i (ev Γ i) s1).bind fun y s2 => (match rdO a x s2, rdO i y s2 with
    | some x, some y => lift (ixOp x y) s2
    | _, _ => .bad) := rfl
@[simp] theorem x_slL (a lo : E) : ev Γ (.slL a lo) s = (opd a (ev Γ a) s).bind fun x s1 => (opd lo (ev Γ lo) s1).bind fun y s2 => (match rdO a x s2, rdO lo y s2 with
    | some x, some (.int l) => lift (slOp (some l) none x) s2
    | _, _ => .bad) := rfl
@[simp] theorem x_slH (a hi : E) : ev Γ (.slH a hi) s = (opd a (ev Γ a) s).bind fun x s1 => (opd hi (ev Γ hi) s1).bind fun y s2 => (match rdO a x s2, rdO hi y s2 with
    | some x, some (.int l) => lift (slOp none (some l) x) s2
    | _, _ => .bad) := rfl
@[simp] theorem x_call (f : Nat) (as : Es) : ev Γ (.call f as) s = (evArgs Γ as s).bind fun os s1 => (match argD as os s1 with
    | some ds => if (mrefs as).Nodup then fromCR (mrefs as) s1 (Γ f ds) else .bad
    | none => .bad) := rfl
@[simp] theorem x_b (f : Bn) (as : Es) : ev Γ (.b f as) s = (evOps Γ as s).bind fun os s1 => (match rdOs as os s1 with
    | some ds => lift (bn f ds) s1
    | none => .bad) := rfl
@[simp] theorem x_m (f : Bn) (a : E) (as : Es) : ev Γ (.m f a as) s = (opd a (ev Γ a) s).bind fun x s1 => (match rdO a x s1 with
    | some d => if mOk f d = true then (evOps Γ as s1).bind fun os s2 => (match rdO a x s2, rdOs as os s2 with
      | some x, some ds => lift (bn f (x :: ds)) s2
      | _, _ => .bad) else .bad
    | none => .bad) := rfl
@[simp] theorem x_app (p : Nat) (e : E) : ev Γ (.app p e) s = match lstAt p s with
    | none => .bad
    | some _ => (ev Γ e s).bind fun d s1 => (match lstAt p s1 with
    | some xs => if xs.length < most then .ok .non (sset s1 p (some (.lst true (xs ++ [frz d])))) else .bad
    | none => .bad) := rfl
@[simp] theorem x_popAt (p : Nat) (i : E) : ev Γ (.popAt p i) s = match lstAt p s with
    | none => .bad
    | some _ => (opd i (ev Γ i) s).bind fun y s1 => (match rdO i y s1, lstAt p s1 with
    | some (.int i), some xs => if xs.length ≤ most then (match xs[ixOf xs.length i]? with
      | some x => .ok x (sset s1 p (some (.lst true (xs.eraseIdx (ixOf xs.length i)))))
      | none => .bad) else .bad
    | _, _ => .bad) := rfl
@[simp] theorem x_rng1 (a : E) : ev Γ (.rng1 a) s = (opd a (ev Γ a) s).bind fun x s1 => lift (rdO a x s1) s1 := rfl
@[simp] theorem x_rng2 (a b : E) : ev Γ (.rng2 a b) s = (opd a (ev Γ a) s).bind fun x s1 => (opd b (ev Γ b) s1).bind fun y s2 => (match rdO a x s2, rdO b y s2 with
    | some x, some y => .ok (.tup [x, y]) s2
    | _, _ => .bad) := rfl
abbrev stepLc (Γ : FT) (t : Tg) (cs : Ts) (el : E) (x : D) (s2 : Env) : R (List D) := match bindT t x s2 with
        | none => .bad
        | some s3 => (tests Γ cs s3).bind fun c s4 => if c = true then (ev Γ el s4).bind fun d s5 => .ok [frz d] s5 else .ok [] s4
theorem x_lc (el : E) (t : Tg) (it : E) (cs : Ts) (own : List Nat) : ev Γ (.lc el t it cs own) s = (itemsR it (ev Γ it) s).bind fun xs s1 =>
      (compLoop own (stepLc Γ t cs el) xs s1).bind fun ys s2 => if ys.length ≤ most then .ok (.lst true ys) (back own s1 s2) else .bad := rfl
@[simp] theorem x_evs0 : evs Γ .nil s = .ok [] s := rfl
@[simp] theorem x_evs (e : E) (r : Es) : evs Γ (.cons e r) s = (ev Γ e s).bind fun d s1 => (evs Γ r s1).bind fun ds s2 => .ok (frz d :: ds) s2 := rfl
@[simp] theorem x_ops0 : evOps Γ .nil s = .ok [] s := rfl
@[simp] theorem x_ops (e : E) (r : Es) : evOps Γ (.cons e r) s = (opd e (ev Γ e) s).bind fun d s1 => (evOps Γ r s1).bind fun ds s2 => .ok (d :: ds) s2 := rfl
@[simp] theorem x_args0 : evArgs Γ .nil s = .ok [] s := rfl
@[simp] theorem x_args (e : E) (r : Es) : evArgs Γ (.cons e r) s = (argOf e (ev Γ e) s).bind fun d s1 => (evArgs Γ r s1).bind fun ds s2 => .ok (d :: ds) s2 := rfl
@[simp] theorem x_Tnot (e : T) : evT Γ (.not e) s = (evT Γ e s).bind fun t s1 => .ok (!t) s1 := rfl
@[simp] theorem x_Tand (a b : T) : evT Γ (.and a b) s = (evT Γ a s).bind fun t s1 => if t = true then evT Γ b s1 else .ok false s1 := rfl
@[simp] theorem x_Tor (a b : T) : evT Γ (.or a b) s = (evT Γ a s).bind fun t s1 => if t = true then .ok true s1 else evT Γ b s1 := rfl
@[simp] theorem x_Tv (e : E) : evT Γ (.v e) s = (opd e (ev Γ e) s).bind fun x s1 => (match rdO e x s1 with
    | some d => lift (truth d) s1
    | none => .bad) := rfl
@[simp] theorem x_ts0 : tests Γ .nil s = .ok true s := rfl
@[simp] theorem x_ts (e : T) (r : Ts) : tests Γ (.cons e r) s = (evT Γ e s).bind fun t s1 => if t = true then tests Γ r s1 else .ok false s1 := rfl
/-- operands -/
@[simp] theorem x_opd_var (i : Nat) (f : Env → R D) : opd (.var i) f s = match sget s i with
    | some _ => .ok none s
    | none => .bad := rfl
def isVar (e : E) : Bool := match e with
  | .var _ => true
  | _ => false
theorem x_opd {e : E} (h : isVar e = false) (f : Env → R D) : opd e f s = (f s).bind fun d s1 => .ok (some (frz d)) s1 := by
  cases e <;> first | rfl | cases h
theorem x_rd {e : E} (h : isVar e = false) (o : Option D) : rdO e o s = o := by
  cases e <;> first | rfl | cases h
@[simp] theorem x_rd_var (i : Nat) (o : Option D) : rdO (.var i) o s = sget s i := rfl
@[simp] theorem x_rds0 (os : List (Option D)) : rdOs .nil os s = some [] := by cases os <;> rfl
@[simp] theorem x_rds (e : E) (r : Es) (o : Option D) (os : List (Option D)) : rdOs (.cons e r) (o :: os) s = (rdO e o s).bind fun d => (rdOs r os s).map (d :: ·) := rfl
@[simp] theorem x_arg_mref (i : Nat) (f : Env → R D) : argOf (.mref i) f s = match sget s i with
    | some _ => .ok none s
    | none => .bad := rfl
def isMref (e : E) : Bool := match e with
  | .mref _ => true
  | _ => false
theorem x_arg {e : E} (h : isMref e = false) (f : Env → R D) : argOf e f s = (f s).bind fun d s1 => .ok (some (frz d)) s1 := by
  cases e <;> first | rfl | cases h
@[simp] theorem x_argD0 (os : List (Option D)) : argD .nil os s = some [] := by cases os <;> simp [argD]
@[simp] theorem x_argD_mref (i : Nat) (r : Es) (o : Option D) (os : List (Option D)) : argD (.cons (.mref i) r) (o :: os) s = (sget s i).bind fun d => (argD r os s).map (d :: ·) := by simp [argD]
theorem x_argD {e : E} (h : isMref e = false) (r : Es) (d : D) (os : List (Option D)) : argD (.cons e r) (some d :: os) s = (argD r os s).map (d :: ·) := by
  cases e <;> first | rfl | cases h | simp [argD]
/-- statements -/
@[simp] theorem x_set (i : Nat) (e : E) : exec Γ (.set i e) s = (ev Γ e s).bind fun d s1 => .ok .next (sset s1 i (some (frz d))) := rfl
@[simp] theorem x_seto (i : Nat) (e : E) : exec Γ (.seto i e) s = (ev Γ e s).bind fun d s1 => .ok .next (sset s1 i (some d)) := rfl
@[simp] theorem x_unp (is : List Nat) (e : E) : exec Γ (.unp is e) s = (opd e (ev Γ e) s).bind fun x s1 => (match rdO e x s1 with
    | some (.tup ds) => (lift (setAll is ds s1) s1).bind fun s2 _ => .ok .next s2
    | _ => .bad) := rfl
@[simp] theorem x_par (is : List Nat) (es : Es) : exec Γ (.par is es) s = (evs Γ es s).bind fun ds s1 => (lift (setAll is ds s1) s1).bind fun s2 _ => .ok .next s2 := rfl
@[simp] theorem x_sidx (p : Nat) (i e : E) : exec Γ (.sidx p i e) s = (ev Γ e s).bind fun d s1 => (match sget s1 p with
    | none => .bad
    | some _ => (ev Γ i s1).bind fun k s2 => (lift (sidxD p (frz k) (frz d) s2) s2).bind fun s3 _ => .ok .next s3) := rfl
@[simp] theorem x_ex (e : E) : exec Γ (.ex e) s = (ev Γ e s).bind fun _ s1 => .ok .next s1 := rfl
@[simp] theorem x_ret (e : E) : exec Γ (.ret e) s = (ev Γ e s).bind fun d s1 => .ok (.ret (frz d)) s1 := rfl
@[simp] theorem x_reto_var (i : Nat) : exec Γ (.reto (.var i)) s = (match sget s i with
    | some d => .ok (.ret d) (sset s i none)
    | none => .bad) := rfl
theorem x_reto {e : E} (h : isVar e = false) : exec Γ (.reto e) s = (ev Γ e s).bind fun d s1 => .ok (.ret d) s1 := by
  cases e <;> first | rfl | cases h
@[simp] theorem x_retN : exec Γ .retN s = .ok (.ret .non) s := rfl
@[simp] theorem x_if (c : T) (a b : Ss) : exec Γ (.ite c a b) s = (evT Γ c s).bind fun t s1 => if t = true then execs Γ a s1 else execs Γ b s1 := rfl
abbrev stepFor (Γ : FT) (t : Tg) (b : Ss) (x : D) (s2 : Env) : R F := match bindT t x s2 with
    | some s3 => execs Γ b s3
    | none => .bad
theorem x_for (t : Tg) (it : E) (b : Ss) : exec Γ (.forr t it b) s = (itemsR it (ev Γ it) s).bind fun xs s1 => forLoop (stepFor Γ t b) xs s1 := rfl
theorem x_whl (c : T) (b : Ss) : exec Γ (.whl c b) s = whileLoop (evT Γ c) (execs Γ b) fuelW s := rfl
@[simp] theorem x_brk : exec Γ .brk s = .ok .brk s := rfl
@[simp] theorem x_cnt : exec Γ .cnt s = .ok .cnt s := rfl
@[simp] theorem x_pass : exec Γ .pass s = .ok .next s := rfl
@[simp] theorem x_bad : exec Γ .bad s = .bad := rfl
@[simp] theorem x_nil : execs Γ .nil s = .ok .next s := rfl
@[simp] theorem x_cons (a : S) (r : Ss) : execs Γ (.cons a r) s = (exec Γ a s).bind fun f s1 => (match f with
    | .next => execs Γ r s1
    | f => .ok f s1) := rfl
@[simp] theorem x_outs0 : outsOf s [] = some [] := rfl
@[simp] theorem x_outs (i : Nat) (r : List Nat) : outsOf s (i :: r) = (sget s i).bind fun d => (outsOf s r).map (d :: ·) := rfl
@[simp] theorem x_from (ms : List Nat) (d : D) (outs : List D) : fromCR ms s (.ok d outs) = (match setOuts ms outs s with
    | some s1 => .ok d s1
    | none => .bad) := rfl
@[simp] theorem x_so0 : setOuts [] [] s = some s := rfl
@[simp] theorem x_so (i : Nat) (is : List Nat) (d : D) (ds : List D) : setOuts (i :: is) (d :: ds) s = setOuts is ds (sset s i (some d)) := rfl
@[simp] theorem x_sa0 : setAll [] [] s = some s := rfl
@[simp] theorem x_sa (i : Nat) (is : List Nat) (d : D) (ds : List D) : setAll (i :: is) (d :: ds) s = setAll is ds (sset s i (some d)) := rfl
@[simp] theorem x_bt (i : Nat) (d : D) : bindT (.nm i) d s = some (sset s i (some d)) := rfl
@[simp] theorem x_btt (is : List Nat) (ds : List D) : bindT (.tp is) (.tup ds) s = setAll is ds s := rfl
end
@[simp] theorem xo_cst (d : D) (f : Env → R D) (s : Env) : opd (.cst d) f s = (f s).bind fun d s1 => .ok (some (frz d)) s1 := rfl
@[simp] theorem xr_cst (d : D) (o : Option D) (s : Env) : rdO (.cst d) o s = o := rfl
@[simp] theorem xa_cst (d : D) (f : Env → R D) (s : Env) : argOf (.cst d) f s = (f s).bind fun d s1 => .ok (some (frz d)) s1 := rfl
@[simp] theorem xd_cst (d : D) (r : Es) (dv : D) (os : List (Option D)) (s : Env) : argD (.cons (.cst d) r) (some dv :: os) s = (argD r os s).map (dv :: ·) := by simp [argD]
@[simp] theorem xm_cst (d : D) (r : Es) : mrefs (.cons (.cst d) r) = mrefs r := rfl
@[simp] theorem xt_cst (d : D) (Γ : FT) (s : Env) : exec Γ (.reto (.cst d)) s = (ev Γ (.cst d) s).bind fun d s1 => .ok (.ret d) s1 := rfl
@[simp] theorem xo_glob (g : Nat) (d : D) (f : Env → R D) (s : Env) : opd (.glob g d) f s = (f s).bind fun d s1 => .ok (some (frz d)) s1 := rfl
@[simp] theorem xr_glob (g : Nat) (d : D) (o : Option D) (s : Env) : rdO (.glob g d) o s = o := rfl
@[simp] theorem xa_glob (g : Nat) (d : D) (f : Env → R D) (s : Env) : argOf (.glob g d) f s = (f s).bind fun d s1 => .ok (some (frz d)) s1 := rfl
@[simp] theorem xd_glob (g : Nat) (d : D) (r : Es) (dv : D) (os : List (Option D)) (s : Env) : argD (.cons (.glob g d) r) (some dv :: os) s = (argD r os s).map (dv :: ·) := by simp [argD]
@[simp] theorem xm_glob (g : Nat) (d : D) (r : Es) : mrefs (.cons (.glob g d) r) = mrefs r := rfl
@[simp] theorem xt_glob (g : Nat) (d : D) (Γ : FT) (s : Env) : exec Γ (.reto (.glob g d)) s = (ev Γ (.glob g d) s).bind fun d s1 => .ok (.ret d) s1 := rfl
@[simp] theorem xo_tup (es : Es) (f : Env → R D) (s : Env) : opd (.tup es) f s = (f s).bind fun d s1 => .ok (some (frz d)) s1 := rfl
@[simp] theorem xr_tup (es : Es) (o : Option D) (s : Env) : rdO (.tup es) o s = o := rfl
@[simp] theorem xa_tup (es : Es) (f : Env → R D) (s : Env) : argOf (.tup es) f s = (f s).bind fun d s1 => .ok (some (frz d)) s1 := rfl
@[simp] theorem xd_tup (es : Es) (r : Es) (dv : D) (os : List (Option D)) (s : Env) : argD (.cons (.tup es) r) (some dv :: os) s = (argD r os s).map (dv :: ·) := by simp [argD]
@[simp] theorem xm_tup (es : Es) (r : Es) : mrefs (.cons (.tup es) r) = mrefs r := rfl
@[simp] theorem xt_tup (es : Es) (Γ : FT) (s : Env) : exec Γ (.reto (.tup es)) s = (ev Γ (.tup es) s).bind fun d s1 => .ok (.ret d) s1 := rfl
@[simp] theorem xo_lst (es : Es) (f : Env → R D) (s : Env) : opd (.lst es) f s = (f s).bind fun d s1 => .ok (some (frz d)) s1 := rfl
@[simp] theorem xr_lst (es : Es) (o : Option D) (s : Env) : rdO (.lst es) o s = o := rfl
@[simp] theorem xa_lst (es : Es) (f : Env → R D) (s : Env) : argOf (.lst es) f s = (f s).bind fun d s1 => .ok (some (frz d)) s1 := rfl
@[simp] theorem xd_lst (es : Es) (r : Es) (dv : D) (os : List (Option D)) (s : Env) : argD (.cons (.lst es) r) (some dv :: os) s = (argD r os s).map (dv :: ·) := by simp [argD]
@[simp] theorem xm_lst (es : Es) (r : Es) : mrefs (.cons (.lst es) r) = mrefs r := rfl
@[simp] theorem xt_lst (es : Es) (Γ : FT) (s : Env) : exec Γ (.reto (.lst es)) s = (ev Γ (.lst es) s).bind fun d s1 => .ok (.ret d) s1 := rfl
@[simp] theorem xo_dnew (t : Bool) (f : Env → R D) (s : Env) : opd (.dnew t) f s = (f s).bind fun d s1 => .ok (some (frz d)) s1 := rfl
@[simp] theorem xr_dnew (t : Bool) (o : Option D) (s : Env) : rdO (.dnew t) o s = o := rfl
@[simp] theorem xa_dnew (t : Bool) (f : Env → R D) (s : Env) : argOf (.dnew t) f s = (f s).bind fun d s1 => .ok (some (frz d)) s1 := rfl
@[simp] theorem xd_dnew (t : Bool) (r : Es) (dv : D) (os : List (Option D)) (s : Env) : argD (.cons (.dnew t) r) (some dv :: os) s = (argD r os s).map (dv :: ·) := by simp [argD]
@[simp] theorem xm_dnew (t : Bool) (r : Es) : mrefs (.cons (.dnew t) r) = mrefs r := rfl
@[simp] theorem xt_dnew (t : Bool) (Γ : FT) (s : Env) : exec Γ (.reto (.dnew t)) s = (ev Γ (.dnew t) s).bind fun d s1 => .ok (.ret d) s1 := rfl
@[simp] theorem xo_dsp (ks : List D) (vs : Es) (f : Env → R D) (s : Env) : opd (.dsp ks vs) f s = (f s).bind fun d s1 => .ok (some (frz d)) s1 := rfl
@[simp] theorem xr_dsp (ks : List D) (vs : Es) (o : Option D) (s : Env) : rdO (.dsp ks vs) o s = o := rfl
@[simp] theorem xa_dsp (ks : List D) (vs : Es) (f : Env → R D) (s : Env) : argOf (.dsp ks vs) f s = (f s).bind fun d s1 => .ok (some (frz d)) s1 := rfl
@[simp] theorem xd_dsp (ks : List D) (vs : Es) (r : Es) (dv : D) (os : List (Option D)) (s : Env) : argD (.cons (.dsp ks vs) r) (some dv :: os) s = (argD r os s).map (dv :: ·) := by simp [argD]
@[simp] theorem xm_dsp (ks : List D) (vs : Es) (r : Es) : mrefs (.cons (.dsp ks vs) r) = mrefs r := rfl
@[simp] theorem xt_dsp (ks : List D) (vs : Es) (Γ : FT) (s : Env) : exec Γ (.reto (.dsp ks vs)) s = (ev Γ (.dsp ks vs) s).bind fun d s1 => .ok (.ret d) s1 := rfl
@[simp] theorem xo_neg (e : E) (f : Env → R D) (s : Env) : opd (.neg e) f s = (f s).bind fun d s1 => .ok (some (frz d)) s1 := rfl
@[simp] theorem xr_neg (e : E) (o : Option D) (s : Env) : rdO (.neg e) o s = o := rfl
@[simp] theorem xa_neg (e : E) (f : Env → R D) (s : Env) : argOf (.neg e) f s = (f s).bind fun d s1 => .ok (some (frz d)) s1 := rfl
@[simp] theorem xd_neg (e : E) (r : Es) (dv : D) (os : List (Option D)) (s : Env) : argD (.cons (.neg e) r) (some dv :: os) s = (argD r os s).map (dv :: ·) := by simp [argD]
@[simp] theorem xm_neg (e : E) (r : Es) : mrefs (.cons (.neg e) r) = mrefs r := rfl
@[simp] theorem xt_neg (e : E) (Γ : FT) (s : Env) : exec Γ (.reto (.neg e)) s = (ev Γ (.neg e) s).bind fun d s1 => .ok (.ret d) s1 := rfl
@[simp] theorem xo_not (c : T) (f : Env → R D) (s : Env) : opd (.not c) f s = (f s).bind fun d s1 => .ok (some (frz d)) s1 := rfl
@[simp] theorem xr_not (c : T) (o : Option D) (s : Env) : rdO (.not c) o s = o := rfl
@[simp] theorem xa_not (c : T) (f : Env → R D) (s : Env) : argOf (.not c) f s = (f s).bind fun d s1 => .ok (some (frz d)) s1 := rfl
@[simp] theorem xd_not (c : T) (r : Es) (dv : D) (os : List (Option D)) (s : Env) : argD (.cons (.not c) r) (some dv :: os) s = (argD r os s).map (dv :: ·) := by simp [argD]
@[simp] theorem xm_not (c : T) (r : Es) : mrefs (.cons (.not c) r) = mrefs r := rfl
@[simp] theorem xt_not (c : T) (Γ : FT) (s : Env) : exec Γ (.reto (.not c)) s = (ev Γ (.not c) s).bind fun d s1 => .ok (.ret d) s1 := rfl
@[simp] theorem xo_bin (op : Bop) (a b : E) (f : Env → R D) (s : Env) : opd (.bin op a b) f s = (f s).bind fun d s1 => .ok (some (frz d)) s1 := rfl
@[simp] theorem xr_bin (op : Bop) (a b : E) (o : Option D) (s : Env) : rdO (.bin op a b) o s = o := rfl
@[simp] theorem xa_bin (op : Bop) (a b : E) (f : Env → R D) (s : Env) : argOf (.bin op a b) f s = (f s).bind fun d s1 => .ok (some (frz d)) s1 := rfl
@[simp] theorem xd_bin (op : Bop) (a b : E) (r : Es) (dv : D) (os : List (Option D)) (s : Env) : argD (.cons (.bin op a b) r) (some dv :: os) s = (argD r os s).map (dv :: ·) := by simp [argD]
@[simp] theorem xm_bin (op : Bop) (a b : E) (r : Es) : mrefs (.cons (.bin op a b) r) = mrefs r := rfl
@[simp] theorem xt_bin (op : Bop) (a b : E) (Γ : FT) (s : Env) : exec Γ (.reto (.bin op a b)) s = (ev Γ (.bin op a b) s).bind fun d s1 => .ok (.ret d) s1 := rfl
@[simp] theorem xo_cmp (op : Cop) (a b : E) (f : Env → R D) (s : Env) : opd (.cmp op a b) f s = (f s).bind fun d s1 => .ok (some (frz d)) s1 := rfl
@[simp] theorem xr_cmp (op : Cop) (a b : E) (o : Option D) (s : Env) : rdO (.cmp op a b) o s = o := rfl
@[simp] theorem xa_cmp (op : Cop) (a b : E) (f : Env → R D) (s : Env) : argOf (.cmp op a b) f s = (f s).bind fun d s1 => .ok (some (frz d)) s1 := rfl
@[simp] theorem xd_cmp (op : Cop) (a b : E) (r : Es) (dv : D) (os : List (Option D)) (s : Env) : argD (.cons (.cmp op a b) r) (some dv :: os) s = (argD r os s).map (dv :: ·) := by simp [argD]
@[simp] theorem xm_cmp (op : Cop) (a b : E) (r : Es) : mrefs (.cons (.cmp op a b) r) = mrefs r := rfl
@[simp] theorem xt_cmp (op : Cop) (a b : E) (Γ : FT) (s : Env) : exec Γ (.reto (.cmp op a b)) s = (ev Γ (.cmp op a b) s).bind fun d s1 => .ok (.ret d) s1 := rfl
@[simp] theorem xo_cmp2 (o1 o2 : Cop) (a b c : E) (f : Env → R D) (s : Env) : opd (.cmp2 o1 o2 a b c) f s = (f s).bind fun d s1 => .ok (some (frz d)) s1 := rfl
@[simp] theorem xr_cmp2 (o1 o2 : Cop) (a b c : E) (o : Option D) (s : Env) : rdO (.cmp2 o1 o2 a b c) o s = o := rfl
@[simp] theorem xa_cmp2 (o1 o2 : Cop) (a b c : E) (f : Env → R D) (s : Env) : argOf (.cmp2 o1 o2 a b c) f s = (f s).bind fun d s1 => .ok (some (frz d)) s1 := rfl
@[simp] theorem xd_cmp2 (o1 o2 : Cop) (a b c : E) (r : Es) (dv : D) (os : List (Option D)) (s : Env) : argD (.cons (.cmp2 o1 o2 a b c) r) (some dv :: os) s = (argD r os s).map (dv :: ·) := by simp [argD]
@[simp] theorem xm_cmp2 (o1 o2 : Cop) (a b c : E) (r : Es) : mrefs (.cons (.cmp2 o1 o2 a b c) r) = mrefs r := rfl
@[simp] theorem xt_cmp2 (o1 o2 : Cop) (a b c : E) (Γ : FT) (s : Env) : exec Γ (.reto (.cmp2 o1 o2 a b c)) s = (ev Γ (.cmp2 o1 o2 a b c) s).bind fun d s1 => .ok (.ret d) s1 := rfl
@[simp] theorem xo_and (a b : E) (f : Env → R D) (s : Env) : opd (.and a b) f s = (f s).bind fun d s1 => .ok (some (frz d)) s1 := rfl
@[simp] theorem xr_and (a b : E) (o : Option D) (s : Env) : rdO (.and a b) o s = o := rfl
@[simp] theorem xa_and (a b : E) (f : Env → R D) (s : Env) : argOf (.and a b) f s = (f s).bind fun d s1 => .ok (some (frz d)) s1 := rfl
@[simp] theorem xd_and (a b : E) (r : Es) (dv : D) (os : List (Option D)) (s : Env) : argD (.cons (.and a b) r) (some dv :: os) s = (argD r os s).map (dv :: ·) := by simp [argD]
@[simp] theorem xm_and (a b : E) (r : Es) : mrefs (.cons (.and a b) r) = mrefs r := rfl
@[simp] theorem xt_and (a b : E) (Γ : FT) (s : Env) : exec Γ (.reto (.and a b)) s = (ev Γ (.and a b) s).bind fun d s1 => .ok (.ret d) s1 := rfl
@[simp] theorem xo_or (a b : E) (f : Env → R D) (s : Env) : opd (.or a b) f s = (f s).bind fun d s1 => .ok (some (frz d)) s1 := rfl
@[simp] theorem xr_or (a b : E) (o : Option D) (s : Env) : rdO (.or a b) o s = o := rfl
@[simp] theorem xa_or (a b : E) (f : Env → R D) (s : Env) : argOf (.or a b) f s = (f s).bind fun d s1 => .ok (some (frz d)) s1 := rfl
@[simp] theorem xd_or (a b : E) (r : Es) (dv : D) (os : List (Option D)) (s : Env) : argD (.cons (.or a b) r) (some dv :: os) s = (argD r os s).map (dv :: ·) := by simp [argD]
@[simp] theorem xm_or (a b : E) (r : Es) : mrefs (.cons (.or a b) r) = mrefs r := rfl
@[simp] theorem xt_or (a b : E) (Γ : FT) (s : Env) : exec Γ (.reto (.or a b)) s = (ev Γ (.or a b) s).bind fun d s1 => .ok (.ret d) s1 := rfl
@[simp] theorem xo_ite (c : T) (a b : E) (f : Env → R D) (s : Env) : opd (.ite c a b) f s = (f s).bind fun d s1 => .ok (some (frz d)) s1 := rfl
@[simp] theorem xr_ite (c : T) (a b : E) (o : Option D) (s : Env) : rdO (.ite c a b) o s = o := rfl
@[simp] theorem xa_ite (c : T) (a b : E) (f : Env → R D) (s : Env) : argOf (.ite c a b) f s = (f s).bind fun d s1 => .ok (some (frz d)) s1 := rfl
@[simp] theorem xd_ite (c : T) (a b : E) (r : Es) (dv : D) (os : List (Option D)) (s : Env) : argD (.cons (.ite c a b) r) (some dv :: os) s = (argD r os s).map (dv :: ·) := by simp [argD]
@[simp] theorem xm_ite (c : T) (a b : E) (r : Es) : mrefs (.cons (.ite c a b) r) = mrefs r := rfl
@[simp] theorem xt_ite (c : T) (a b : E) (Γ : FT) (s : Env) : exec Γ (.reto (.ite c a b)) s = (ev Γ (.ite c a b) s).bind fun d s1 => .ok (.ret d) s1 := rfl
@[simp] theorem xo_ix (a i : E) (f : Env → R D) (s : Env) : opd (.ix a i) f s = (f s).bind fun d s1 => .ok (some (frz d)) s1 := rfl
@[simp] theorem xr_ix (a i : E) (o : Option D) (s : Env) : rdO (.ix a i) o s = o := rfl
@[simp] theorem xa_ix (a i : E) (f : Env → R D) (s : Env) : argOf (.ix a i) f s = (f s).bind fun d s1 => .ok (some (frz d)) s1 := rfl
@[simp] theorem xd_ix (a i : E) (r : Es) (dv : D) (os : List (Option D)) (s : Env) : argD (.cons (.ix a i) r) (some dv :: os) s = (argD r os s).map (dv :: ·) := by simp [argD]
@[simp] theorem xm_ix (a i : E) (r : Es) : mrefs (.cons (.ix a i) r) = mrefs r := rfl
@[simp] theorem xt_ix (a i : E) (Γ : FT) (s : Env) : exec Γ (.reto (.ix a i)) s = (ev Γ (.ix a i) s).bind fun d s1 => .ok (.ret d) s1 := rfl
@[simp] theorem xo_slL (a lo : E) (f : Env → R D) (s : Env) : opd (.slL a lo) f s = (f s).bind fun d s1 => .ok (some (frz d)) s1 := rfl
@[simp] theorem xr_slL (a lo : E) (o : Option D) (s : Env) : rdO (.slL a lo) o s = o := rfl
@[simp] theorem xa_slL (a lo : E) (f : Env → R D) (s : Env) : argOf (.slL a lo) f s = (f s).bind fun d s1 => .ok (some (frz d)) s1 := rfl
@[simp] theorem xd_slL (a lo : E) (r : Es) (dv : D) (os : List (Option D)) (s : Env) : argD (.cons (.slL a lo) r) (some dv :: os) s = (argD r os s).map (dv :: ·) := by simp [argD]
@[simp] theorem xm_slL (a lo : E) (r : Es) : mrefs (.cons (.slL a lo) r) = mrefs r := rfl
@[simp] theorem xt_slL (a lo : E) (Γ : FT) (s : Env) : exec Γ (.reto (.slL a lo)) s = (ev Γ (.slL a lo) s).bind fun d s1 => .ok (.ret d) s1 := rfl
@[simp] theorem xo_slH (a hi : E) (f : Env → R D) (s : Env) : opd (.slH a hi) f s = (f s).bind fun d s1 => .ok (some (frz d)) s1 := rfl
@[simp] theorem xr_slH (a hi : E) (o : Option D) (s : Env) : rdO (.slH a hi) o s = o := rfl
@[simp] theorem xa_slH (a hi : E) (f : Env → R D) (s : Env) : argOf (.slH a hi) f s = (f s).bind fun d s1 => .ok (some (frz d)) s1 := rfl
@[simp] theorem xd_slH (a hi : E) (r : Es) (dv : D) (os : List (Option D)) (s : Env) : argD (.cons (.slH a hi) r) (some dv :: os) s = (argD r os s).map (dv :: ·) := by simp [argD]
@[simp] theorem xm_slH (a hi : E) (r : Es) : mrefs (.cons (.slH a hi) r) = mrefs r := rfl
@[simp] theorem xt_slH (a hi : E) (Γ : FT) (s : Env) : exec Γ (.reto (.slH a hi)) s = (ev Γ (.slH a hi) s).bind fun d s1 => .ok (.ret d) s1 := rfl
@[simp] theorem xo_slB (a lo hi : E) (f : Env → R D) (s : Env) : opd (.slB a lo hi) f s = (f s).bind fun d s1 => .ok (some (frz d)) s1 := rfl
@[simp] theorem xr_slB (a lo hi : E) (o : Option D) (s : Env) : rdO (.slB a lo hi) o s = o := rfl
@[simp] theorem xa_slB (a lo hi : E) (f : Env → R D) (s : Env) : argOf (.slB a lo hi) f s = (f s).bind fun d s1 => .ok (some (frz d)) s1 := rfl
@[simp] theorem xd_slB (a lo hi : E) (r : Es) (dv : D) (os : List (Option D)) (s : Env) : argD (.cons (.slB a lo hi) r) (some dv :: os) s = (argD r os s).map (dv :: ·) := by simp [argD]
@[simp] theorem xm_slB (a lo hi : E) (r : Es) : mrefs (.cons (.slB a lo hi) r) = mrefs r := rfl
@[simp] theorem xt_slB (a lo hi : E) (Γ : FT) (s : Env) : exec Γ (.reto (.slB a lo hi)) s = (ev Γ (.slB a lo hi) s).bind fun d s1 => .ok (.ret d) s1 := rfl
@[simp] theorem xo_slR (a : E) (f : Env → R D) (s : Env) : opd (.slR a) f s = (f s).bind fun d s1 => .ok (some (frz d)) s1 := rfl
@[simp] theorem xr_slR (a : E) (o : Option D) (s : Env) : rdO (.slR a) o s = o := rfl
@[simp] theorem xa_slR (a : E) (f : Env → R D) (s : Env) : argOf (.slR a) f s = (f s).bind fun d s1 => .ok (some (frz d)) s1 := rfl
@[simp] theorem xd_slR (a : E) (r : Es) (dv : D) (os : List (Option D)) (s : Env) : argD (.cons (.slR a) r) (some dv :: os) s = (argD r os s).map (dv :: ·) := by simp [argD]
@[simp] theorem xm_slR (a : E) (r : Es) : mrefs (.cons (.slR a) r) = mrefs r := rfl
@[simp] theorem xt_slR (a : E) (Γ : FT) (s : Env) : exec Γ (.reto (.slR a)) s = (ev Γ (.slR a) s).bind fun d s1 => .ok (.ret d) s1 := rfl
@[simp] theorem xo_call (g : Nat) (as : Es) (f : Env → R D) (s : Env) : opd (.call g as) f s = (f s).bind fun d s1 => .ok (some (frz d)) s1 := rfl
@[simp] theorem xr_call (g : Nat) (as : Es) (o : Option D) (s : Env) : rdO (.call g as) o s = o := rfl
@[simp] theorem xa_call (g : Nat) (as : Es) (f : Env → R D) (s : Env) : argOf (.call g as) f s = (f s).bind fun d s1 => .ok (some (frz d)) s1 := rfl
@[simp] theorem xd_call (g : Nat) (as : Es) (r : Es) (dv : D) (os : List (Option D)) (s : Env) : argD (.cons (.call g as) r) (some dv :: os) s = (argD r os s).map (dv :: ·) := by simp [argD]
@[simp] theorem xm_call (g : Nat) (as : Es) (r : Es) : mrefs (.cons (.call g as) r) = mrefs r := rfl
@[simp] theorem xt_call (g : Nat) (as : Es) (Γ : FT) (s : Env) : exec Γ (.reto (.call g as)) s = (ev Γ (.call g as) s).bind fun d s1 => .ok (.ret d) s1 := rfl
@[simp] theorem xo_b (g : Bn) (as : Es) (f : Env → R D) (s : Env) : opd (.b g as) f s = (f s).bind fun d s1 => .ok (some (frz d)) s1 := rfl
@[simp] theorem xr_b (g : Bn) (as : Es) (o : Option D) (s : Env) : rdO (.b g as) o s = o := rfl
@[simp] theorem xa_b (g : Bn) (as : Es) (f : Env → R D) (s : Env) : argOf (.b g as) f s = (f s).bind fun d s1 => .ok (some (frz d)) s1 := rfl
@[simp] theorem xd_b (g : Bn) (as : Es) (r : Es) (dv : D) (os : List (Option D)) (s : Env) : argD (.cons (.b g as) r) (some dv :: os) s = (argD r os s).map (dv :: ·) := by simp [argD]
@[simp] theorem xm_b (g : Bn) (as : Es) (r : Es) : mrefs (.cons (.b g as) r) = mrefs r := rfl
@[simp] theorem xt_b (g : Bn) (as : Es) (Γ : FT) (s : Env) : exec Γ (.reto (.b g as)) s = (ev Γ (.b g as) s).bind fun d s1 => .ok (.ret d) s1 := rfl
@[simp] theorem xo_m (g : Bn) (a : E) (as : Es) (f : Env → R D) (s : Env) : opd (.m g a as) f s = (f s).bind fun d s1 => .ok (some (frz d)) s1 := rfl
@[simp] theorem xr_m (g : Bn) (a : E) (as : Es) (o : Option D) (s : Env) : rdO (.m g a as) o s = o := rfl
@[simp] theorem xa_m (g : Bn) (a : E) (as : Es) (f : Env → R D) (s : Env) : argOf (.m g a as) f s = (f s).bind fun d s1 => .ok (some (frz d)) s1 := rfl
@[simp] theorem xd_m (g : Bn) (a : E) (as : Es) (r : Es) (dv : D) (os : List (Option D)) (s : Env) : argD (.cons (.m g a as) r) (some dv :: os) s = (argD r os s).map (dv :: ·) := by simp [argD]
@[simp] theorem xm_m (g : Bn) (a : E) (as : Es) (r : Es) : mrefs (.cons (.m g a as) r) = mrefs r := rfl
@[simp] theorem xt_m (g : Bn) (a : E) (as : Es) (Γ : FT) (s : Env) : exec Γ (.reto (.m g a as)) s = (ev Γ (.m g a as) s).bind fun d s1 => .ok (.ret d) s1 := rfl
@[simp] theorem xo_pop (p : Nat) (f : Env → R D) (s : Env) : opd (.pop p) f s = (f s).bind fun d s1 => .ok (some (frz d)) s1 := rfl
@[simp] theorem xr_pop (p : Nat) (o : Option D) (s : Env) : rdO (.pop p) o s = o := rfl
@[simp] theorem xa_pop (p : Nat) (f : Env → R D) (s : Env) : argOf (.pop p) f s = (f s).bind fun d s1 => .ok (some (frz d)) s1 := rfl
@[simp] theorem xd_pop (p : Nat) (r : Es) (dv : D) (os : List (Option D)) (s : Env) : argD (.cons (.pop p) r) (some dv :: os) s = (argD r os s).map (dv :: ·) := by simp [argD]
@[simp] theorem xm_pop (p : Nat) (r : Es) : mrefs (.cons (.pop p) r) = mrefs r := rfl
@[simp] theorem xt_pop (p : Nat) (Γ : FT) (s : Env) : exec Γ (.reto (.pop p)) s = (ev Γ (.pop p) s).bind fun d s1 => .ok (.ret d) s1 := rfl
@[simp] theorem xo_popAt (p : Nat) (i : E) (f : Env → R D) (s : Env) : opd (.popAt p i) f s = (f s).bind fun d s1 => .ok (some (frz d)) s1 := rfl
@[simp] theorem xr_popAt (p : Nat) (i : E) (o : Option D) (s : Env) : rdO (.popAt p i) o s = o := rfl
@[simp] theorem xa_popAt (p : Nat) (i : E) (f : Env → R D) (s : Env) : argOf (.popAt p i) f s = (f s).bind fun d s1 => .ok (some (frz d)) s1 := rfl
@[simp] theorem xd_popAt (p : Nat) (i : E) (r : Es) (dv : D) (os : List (Option D)) (s : Env) : argD (.cons (.popAt p i) r) (some dv :: os) s = (argD r os s).map (dv :: ·) := by simp [argD]
@[simp] theorem xm_popAt (p : Nat) (i : E) (r : Es) : mrefs (.cons (.popAt p i) r) = mrefs r := rfl
@[simp] theorem xt_popAt (p : Nat) (i : E) (Γ : FT) (s : Env) : exec Γ (.reto (.popAt p i)) s = (ev Γ (.popAt p i) s).bind fun d s1 => .ok (.ret d) s1 := rfl
@[simp] theorem xo_app (p : Nat) (e : E) (f : Env → R D) (s : Env) : opd (.app p e) f s = (f s).bind fun d s1 => .ok (some (frz d)) s1 := rfl
@[simp] theorem xr_app (p : Nat) (e : E) (o : Option D) (s : Env) : rdO (.app p e) o s = o := rfl
@[simp] theorem xa_app (p : Nat) (e : E) (f : Env → R D) (s : Env) : argOf (.app p e) f s = (f s).bind fun d s1 => .ok (some (frz d)) s1 := rfl
@[simp] theorem xd_app (p : Nat) (e : E) (r : Es) (dv : D) (os : List (Option D)) (s : Env) : argD (.cons (.app p e) r) (some dv :: os) s = (argD r os s).map (dv :: ·) := by simp [argD]
@[simp] theorem xm_app (p : Nat) (e : E) (r : Es) : mrefs (.cons (.app p e) r) = mrefs r := rfl
@[simp] theorem xt_app (p : Nat) (e : E) (Γ : FT) (s : Env) : exec Γ (.reto (.app p e)) s = (ev Γ (.app p e) s).bind fun d s1 => .ok (.ret d) s1 := rfl
@[simp] theorem xo_ext (p : Nat) (e : E) (f : Env → R D) (s : Env) : opd (.ext p e) f s = (f s).bind fun d s1 => .ok (some (frz d)) s1 := rfl
@[simp] theorem xr_ext (p : Nat) (e : E) (o : Option D) (s : Env) : rdO (.ext p e) o s = o := rfl
@[simp] theorem xa_ext (p : Nat) (e : E) (f : Env → R D) (s : Env) : argOf (.ext p e) f s = (f s).bind fun d s1 => .ok (some (frz d)) s1 := rfl
@[simp] theorem xd_ext (p : Nat) (e : E) (r : Es) (dv : D) (os : List (Option D)) (s : Env) : argD (.cons (.ext p e) r) (some dv :: os) s = (argD r os s).map (dv :: ·) := by simp [argD]
@[simp] theorem xm_ext (p : Nat) (e : E) (r : Es) : mrefs (.cons (.ext p e) r) = mrefs r := rfl
@[simp] theorem xt_ext (p : Nat) (e : E) (Γ : FT) (s : Env) : exec Γ (.reto (.ext p e)) s = (ev Γ (.ext p e) s).bind fun d s1 => .ok (.ret d) s1 := rfl
@[simp] theorem xo_lc (el : E) (t : Tg) (it : E) (cs : Ts) (own : List Nat) (f : Env → R D) (s : Env) : opd (.lc el t it cs own) f s = (f s).bind fun d s1 => .ok (some (frz d)) s1 := rfl
@[simp] theorem xr_lc (el : E) (t : Tg) (it : E) (cs : Ts) (own : List Nat) (o : Option D) (s : Env) : rdO (.lc el t it cs own) o s = o := rfl
@[simp] theorem xa_lc (el : E) (t : Tg) (it : E) (cs : Ts) (own : List Nat) (f : Env → R D) (s : Env) : argOf (.lc el t it cs own) f s = (f s).bind fun d s1 => .ok (some (frz d)) s1 := rfl
@[simp] theorem xd_lc (el : E) (t : Tg) (it : E) (cs : Ts) (own : List Nat) (r : Es) (dv : D) (os : List (Option D)) (s : Env) : argD (.cons (.lc el t it cs own) r) (some dv :: os) s = (argD r os s).map (dv :: ·) := by simp [argD]
@[simp] theorem xm_lc (el : E) (t : Tg) (it : E) (cs : Ts) (own : List Nat) (r : Es) : mrefs (.cons (.lc el t it cs own) r) = mrefs r := rfl
@[simp] theorem xt_lc (el : E) (t : Tg) (it : E) (cs : Ts) (own : List Nat) (Γ : FT) (s : Env) : exec Γ (.reto (.lc el t it cs own)) s = (ev Γ (.lc el t it cs own) s).bind fun d s1 => .ok (.ret d) s1 := rfl
@[simp] theorem xo_lc2 (el : E) (t : Tg) (it : E) (cs : Ts) (t2 : Tg) (it2 : E) (cs2 : Ts) (own own1 : List Nat) (f : Env → R D) (s : Env) : opd (.lc2 el t it cs t2 it2 cs2 own own1) f s = (f s).bind fun d s1 => .ok (some (frz d)) s1 := rfl
@[simp] theorem xr_lc2 (el : E) (t : Tg) (it : E) (cs : Ts) (t2 : Tg) (it2 : E) (cs2 : Ts) (own own1 : List Nat) (o : Option D) (s : Env) : rdO (.lc2 el t it cs t2 it2 cs2 own own1) o s = o := rfl
@[simp] theorem xa_lc2 (el : E) (t : Tg) (it : E) (cs : Ts) (t2 : Tg) (it2 : E) (cs2 : Ts) (own own1 : List Nat) (f : Env → R D) (s : Env) : argOf (.lc2 el t it cs t2 it2 cs2 own own1) f s = (f s).bind fun d s1 => .ok (some (frz d)) s1 := rfl
@[simp] theorem xd_lc2 (el : E) (t : Tg) (it : E) (cs : Ts) (t2 : Tg) (it2 : E) (cs2 : Ts) (own own1 : List Nat) (r : Es) (dv : D) (os : List (Option D)) (s : Env) : argD (.cons (.lc2 el t it cs t2 it2 cs2 own own1) r) (some dv :: os) s = (argD r os s).map (dv :: ·) := by simp [argD]
@[simp] theorem xm_lc2 (el : E) (t : Tg) (it : E) (cs : Ts) (t2 : Tg) (it2 : E) (cs2 : Ts) (own own1 : List Nat) (r : Es) : mrefs (.cons (.lc2 el t it cs t2 it2 cs2 own own1) r) = mrefs r := rfl
@[simp] theorem xt_lc2 (el : E) (t : Tg) (it : E) (cs : Ts) (t2 : Tg) (it2 : E) (cs2 : Ts) (own own1 : List Nat) (Γ : FT) (s : Env) : exec Γ (.reto (.lc2 el t it cs t2 it2 cs2 own own1)) s = (ev Γ (.lc2 el t it cs t2 it2 cs2 own own1) s).bind fun d s1 => .ok (.ret d) s1 := rfl
@[simp] theorem xo_dc (t : Bool) (k v : E) (tg : Tg) (it : E) (cs : Ts) (own : List Nat) (f : Env → R D) (s : Env) : opd (.dc t k v tg it cs own) f s = (f s).bind fun d s1 => .ok (some (frz d)) s1 := rfl
@[simp] theorem xr_dc (t : Bool) (k v : E) (tg : Tg) (it : E) (cs : Ts) (own : List Nat) (o : Option D) (s : Env) : rdO (.dc t k v tg it cs own) o s = o := rfl
@[simp] theorem xa_dc (t : Bool) (k v : E) (tg : Tg) (it : E) (cs : Ts) (own : List Nat) (f : Env → R D) (s : Env) : argOf (.dc t k v tg it cs own) f s = (f s).bind fun d s1 => .ok (some (frz d)) s1 := rfl
@[simp] theorem xd_dc (t : Bool) (k v : E) (tg : Tg) (it : E) (cs : Ts) (own : List Nat) (r : Es) (dv : D) (os : List (Option D)) (s : Env) : argD (.cons (.dc t k v tg it cs own) r) (some dv :: os) s = (argD r os s).map (dv :: ·) := by simp [argD]
@[simp] theorem xm_dc (t : Bool) (k v : E) (tg : Tg) (it : E) (cs : Ts) (own : List Nat) (r : Es) : mrefs (.cons (.dc t k v tg it cs own) r) = mrefs r := rfl
@[simp] theorem xt_dc (t : Bool) (k v : E) (tg : Tg) (it : E) (cs : Ts) (own : List Nat) (Γ : FT) (s : Env) : exec Γ (.reto (.dc t k v tg it cs own)) s = (ev Γ (.dc t k v tg it cs own) s).bind fun d s1 => .ok (.ret d) s1 := rfl
@[simp] theorem xa_var (i : Nat) (f : Env → R D) (s : Env) : argOf (.var i) f s = (f s).bind fun d s1 => .ok (some (frz d)) s1 := rfl
@[simp] theorem xd_var (i : Nat) (r : Es) (dv : D) (os : List (Option D)) (s : Env) : argD (.cons (.var i) r) (some dv :: os) s = (argD r os s).map (dv :: ·) := by simp [argD]
@[simp] theorem xm_var (i : Nat) (r : Es) : mrefs (.cons (.var i) r) = mrefs r := rfl
@[simp] theorem xm_mref (i : Nat) (r : Es) : mrefs (.cons (.mref i) r) = i :: mrefs r := rfl
@[simp] theorem xm_nil : mrefs .nil = [] := rfl
/-! loops -/
theorem whl_step {c : Env → R Bool} {b : Env → R F} {n : Nat} {s s1 s2 : Env} (h1 : c s = .ok true s1) (h2 : b s1 = .ok .next s2) : whileLoop c b (n + 1) s = whileLoop c b n s2 := by
  simp only [whileLoop, h1, bind_ok, if_true, h2]
theorem whl_stop {c : Env → R Bool} {b : Env → R F} {n : Nat} {s s1 : Env} (h1 : c s = .ok false s1) : whileLoop c b (n + 1) s = .ok .next s1 := by
  simp only [whileLoop, h1, bind_ok, Bool.false_eq_true, if_false]
theorem for_nil {step : D → Env → R F} {s : Env} : forLoop step [] s = .ok .next s := rfl
theorem for_step {step : D → Env → R F} {x : D} {r : List D} {s s1 : Env} (h : step x s = .ok .next s1) : forLoop step (x :: r) s = forLoop step r s1 := by
  simp only [forLoop, h, bind_ok]
/-- a loop that carries: inv by the data left -/
theorem for_inv {step : D → Env → R F} (P : List D → Env → Prop) (Q : Env → Prop) (hs : ∀ x r s, P (x :: r) s → ∃ s1, step x s = .ok .next s1 ∧ P r s1) (he : ∀ s, P [] s → Q s) : ∀ (ds : List D) (s : Env), P ds s → ∃ s1, forLoop step ds s = .ok .next s1 ∧ Q s1
  | [], s, h => ⟨s, rfl, he s h⟩
  | x :: r, s, h => by
    obtain ⟨s1, e, h1⟩ := hs x r s h
    obtain ⟨s2, e2, h2⟩ := for_inv P Q hs he r s1 h1
    exact ⟨s2, by rw [for_step e, e2], h2⟩
theorem comp_step {own : List Nat} {step : D → Env → R (List D)} {x : D} {r : List D} {s s1 s2 : Env} {o ys : List D} (h : step x (wipeE s own) = .ok o s1) (h2 : compLoop own step r s1 = .ok ys s2) : compLoop own step (x :: r) s = .ok (o ++ ys) s2 := by
  simp only [compLoop, h, h2]
theorem comp_inv {own : List Nat} {step : D → Env → R (List D)} (P : List D → List D → Env → Prop) (hs : ∀ x r acc s, P (x :: r) acc s → ∃ o s1, step x (wipeE s own) = .ok o s1 ∧ P r (acc ++ o) s1) : ∀ (ds : List D) (acc : List D) (s : Env), P ds acc s → ∃ ys s1, compLoop own step ds s = .ok ys s1 ∧ P [] (acc ++ ys) s1
  | [], acc, s, h => ⟨[], s, rfl, by rw [List.append_nil]; exact h⟩
  | x :: r, acc, s, h => by
    obtain ⟨o, s1, e, h1⟩ := hs x r acc s h
    obtain ⟨ys, s2, e2, h2⟩ := comp_inv P hs r (acc ++ o) s1 h1
    exact ⟨o ++ ys, s2, comp_step e e2, by rw [← List.append_assoc]; exact h2⟩
theorem call_run {P : Prog} {f n : Nat} {fd : FDef} {ds : List D} (h : P f = some fd) (h1 : ds.length = fd.np) (h2 : fd.dfl = []) : run P (n + 1) f ds = callB (run P n) fd ds := by
  simp only [run, h, callF, h1, h2]
  simp
theorem ex_next {Γ : FT} {a : S} {r : Ss} {s s1 : Env} (h : exec Γ a s = .ok .next s1) : execs Γ (.cons a r) s = execs Γ r s1 := by
  rw [x_cons, h]; rfl
theorem ex_ret {Γ : FT} {a : S} {r : Ss} {s s1 : Env} {d : D} (h : exec Γ a s = .ok (.ret d) s1) : execs Γ (.cons a r) s = .ok (.ret d) s1 := by
  rw [x_cons, h]; rfl
theorem callB_ret {Γ : FT} {fd : FDef} {ds : List D} {d : D} {s : Env} {os : List D} (h : execs Γ fd.body (ds.map some ++ List.replicate (fd.ns - fd.np) none) = .ok (.ret d) s) (h2 : outsOf s fd.mp = some os) : callB Γ fd ds = .ok d os := by
  unfold callB
  simp only [h, h2]
theorem items_rng {Γ : FT} {e : E} {s : Env} {n : Int} (hv : isVar e = false) (h : ev Γ e s = .ok (I n) s) (hok : rngOk 0 n = true) : itemsR (.rng1 e) (ev Γ (.rng1 e)) s = .ok (rangeL 0 n) s := by
  simp only [itemsR, x_rng1, x_opd _ hv, h, bind_ok, x_rd _ hv, x_frz_int, lift_some, hok, if_true]
theorem items_rng' {Γ : FT} {e : E} {s s1 : Env} {n : Int} (hv : isVar e = false) (h : ev Γ e s = .ok (I n) s1) (hok : rngOk 0 n = true) : itemsR (.rng1 e) (ev Γ (.rng1 e)) s = .ok (rangeL 0 n) s1 := by
  simp only [itemsR, x_rng1, x_opd _ hv, h, bind_ok, x_rd _ hv, x_frz_int, lift_some, hok, if_true]
end OM


set_option autoImplicit false
set_option linter.all false
/-! X2: figures. -/
namespace OM
open PySem
def digs (n : Nat) : List Nat := (Nat.toDigits 10 n).map Char.toNat
theorem dig_char : ∀ d : Nat, d < 10 → (Nat.digitChar d).toNat = 48 + d := by decide
theorem digs_lt {n : Nat} (h : n < 10) : digs n = [48 + n] := by
  unfold digs
  rw [Nat.toDigits_eq_if (by decide), if_pos h]
  simp [dig_char n h]
theorem digs_ge {n : Nat} (h : 10 ≤ n) : digs n = digs (n / 10) ++ [48 + n % 10] := by
  unfold digs
  rw [Nat.toDigits_eq_if (by decide), if_neg (by omega)]
  simp [dig_char (n % 10) (Nat.mod_lt _ (by decide))]
theorem figs_app (l : List Nat) (c : Nat) : figs (l ++ [c]) = figs l * 10 + (c - 48) := by
  unfold figs
  rw [List.foldl_append]
  rfl
theorem digs_all (n : Nat) : digs n ≠ [] ∧ (digs n).all isFig = true ∧ figs (digs n) = n ∧ (1 ≤ n → (digs n).head? ≠ some 48) := by
  induction n using Nat.strongRecOn with
  | _ n ih =>
    rcases Nat.lt_or_ge n 10 with h | h
    · rw [digs_lt h]
      refine ⟨by simp, by simp [isFig]; omega, by simp [figs], fun h1 => by simp; omega⟩
    · obtain ⟨h1, h2, h3, h4⟩ := ih (n / 10) (by omega)
      rw [digs_ge h]
      refine ⟨by simp, by rw [List.all_append, h2]; simp [isFig]; omega, by rw [figs_app, h3]; omega, fun _ => ?_⟩
      cases hd : digs (n / 10) with
      | nil => exact absurd hd h1
      | cons a r =>
        have := h4 (by omega)
        rw [hd] at this
        simpa using this
theorem digs_len {n k : Nat} (hk : 0 < k) (h : n < 10 ^ k) : (digs n).length ≤ k := by
  unfold digs
  rw [List.length_map]
  exact (Nat.length_toDigits_le_iff (by decide) hk).mpr h
theorem cps_strOf' (l : List Nat) : cps (strOf l) = l := rfl
theorem strOf_cps' (x : Str) : strOf (cps x) = x := by cases x; simp [strOf, cps]
theorem strOf_inj {a b : List Nat} : strOf a = strOf b ↔ a = b := ⟨fun h => by have := congrArg cps h; exact this, fun h => by rw [h]⟩
theorem strOf_beq (a b : List Nat) : (strOf a == strOf b) = decide (a = b) := by
  rw [Bool.eq_iff_iff]
  simp [strOf_inj]
theorem strOf_app (a b : List Nat) : strOf a ++ strOf b = strOf (a ++ b) := by
  show (⟨a.toArray ++ b.toArray⟩ : Str) = ⟨(a ++ b).toArray⟩
  simp
theorem intText_nat (n : Nat) : intText (n : Int) = strOf (digs n) := by
  unfold intText digs
  rw [if_pos (by omega)]
  rfl
theorem intText_neg (n : Nat) (h : 1 ≤ n) : intText (-(n : Int)) = strOf (45 :: digs n) := by
  unfold intText digs
  rw [if_neg (by omega)]
  simp
theorem intOf_digs {n : Nat} (h : (digs n).length ≤ 600) : intOf (digs n) = some (n : Int) := by
  obtain ⟨h1, h2, h3, _⟩ := digs_all n
  unfold intOf
  split
  · rename_i r e
    exfalso
    rw [e] at h2
    simp [isFig] at h2
  · rw [if_pos ⟨h1, h2, h⟩, h3]
theorem intOf_neg {n : Nat} (h : (digs n).length ≤ 600) : intOf (45 :: digs n) = some (-(n : Int)) := by
  obtain ⟨h1, h2, h3, _⟩ := digs_all n
  show (if _ then _ else _) = _
  rw [if_pos ⟨h1, h2, h⟩, h3]
/-- cut at a sign that the front lacks -/
theorem par_at {c : Nat} : ∀ (l acc r : List Nat), c ∉ l → par [c] acc (l ++ c :: r) = some (acc ++ l, r)
  | [], acc, r, _ => by simp [par, pre]
  | x :: l, acc, r, h => by
    simp only [List.mem_cons, not_or] at h
    have hx : ¬ x = c := fun e => h.1 e.symm
    simp only [List.cons_append, par]
    rw [if_neg (by simp [pre, hx])]
    rw [par_at l (acc ++ [x]) r h.2]
    simp
theorem par_not {c : Nat} : ∀ (l acc : List Nat), c ∉ l → par [c] acc l = none
  | [], acc, _ => rfl
  | x :: l, acc, h => by
    simp only [List.mem_cons, not_or] at h
    have hx : ¬ x = c := fun e => h.1 e.symm
    simp only [par]
    rw [if_neg (by simp [pre, hx])]
    exact par_not l _ h.2
end OM


set_option autoImplicit false
set_option linter.all false
/-! AL: fractions in lowest terms. -/
namespace OM
abbrev Fr := Int × Int
def red (a b : Int) : Fr := (a / (Int.gcd a b : Int), b / (Int.gcd a b : Int))
structure Ok (x : Fr) : Prop where
  pos : 1 ≤ x.2
  cop : Int.gcd x.1 x.2 = 1
theorem gpos {a b : Int} (hb : 1 ≤ b) : 0 < Int.gcd a b := Int.gcd_pos_of_ne_zero_right a (by omega)
theorem red_fst {a b : Int} : (Int.gcd a b : Int) * (red a b).1 = a := Int.mul_ediv_cancel' (Int.gcd_dvd_left ..)
theorem red_snd {a b : Int} : (Int.gcd a b : Int) * (red a b).2 = b := Int.mul_ediv_cancel' (Int.gcd_dvd_right ..)
theorem red_ok {a b : Int} (hb : 1 ≤ b) : Ok (red a b) := by
  have g := gpos (a := a) hb
  refine ⟨?_, Int.gcd_ediv_gcd_ediv_gcd g⟩
  have h := red_snd (a := a) (b := b)
  have : 0 < (red a b).2 := by
    by_cases h1 : 0 < (red a b).2
    · exact h1
    · exfalso
      have : 0 ≤ (Int.gcd a b : Int) * (-(red a b).2) := Int.mul_nonneg (by omega) (by omega)
      rw [Int.mul_neg] at this
      omega
  omega
theorem red_cross {a b : Int} : (red a b).1 * b = a * (red a b).2 := by
  have h1 := red_fst (a := a) (b := b)
  have h2 := red_snd (a := a) (b := b)
  generalize (Int.gcd a b : Int) = g at h1 h2
  generalize red a b = x at h1 h2 ⊢
  grind
theorem red_le {a b : Int} (hb : 1 ≤ b) : (red a b).2 ≤ b := by
  have := (red_ok (a := a) hb).pos
  exact Int.le_of_dvd (by omega) ⟨(Int.gcd a b : Int), by rw [Int.mul_comm]; exact red_snd.symm⟩
theorem red_abs {a b : Int} : (red a b).1.natAbs ≤ a.natAbs := by
  show (a / (Int.gcd a b : Int)).natAbs ≤ _
  by_cases h : a = 0
  · subst h; simp
  · have hd : (Int.gcd a b : Int) ∣ a := Int.gcd_dvd_left ..
    rw [Int.natAbs_ediv_of_dvd hd]
    exact Nat.div_le_self ..
theorem uniq {x y : Fr} (hx : Ok x) (hy : Ok y) (h : x.1 * y.2 = y.1 * x.2) : x = y := by
  have px := hx.pos
  have py := hy.pos
  have dv : ∀ {x y : Fr}, Ok x → x.1 * y.2 = y.1 * x.2 → x.2 ∣ y.2 := fun {x y} hx h => by
    refine Int.natAbs_dvd_natAbs.mp (Nat.Coprime.dvd_of_dvd_mul_left (m := x.1.natAbs) ?_ ⟨y.1.natAbs, ?_⟩)
    · have := hx.cop
      unfold Int.gcd at this
      show Nat.gcd _ _ = 1
      rw [Nat.gcd_comm]; exact this
    · rw [← Int.natAbs_mul, h, Int.natAbs_mul, Nat.mul_comm]
  have d1 := dv hx h
  have d2 := dv hy h.symm
  have e : x.2 = y.2 := Int.le_antisymm (Int.le_of_dvd (by omega) d1) (Int.le_of_dvd (by omega) d2)
  have e1 : x.1 = y.1 := by
    rw [e] at h
    exact Int.eq_of_mul_eq_mul_right (by omega) h
  exact Prod.ext e1 e
theorem red_self {x : Fr} (hx : Ok x) : red x.1 x.2 = x := by
  unfold red
  rw [hx.cop]
  simp
theorem red_eq {a b c d : Int} (hb : 1 ≤ b) (hd : 1 ≤ d) (h : a * d = c * b) : red a b = red c d := by
  refine uniq (red_ok hb) (red_ok hd) ?_
  have h1 := red_cross (a := a) (b := b)
  have h2 := red_cross (a := c) (b := d)
  generalize red a b = x at h1 ⊢
  generalize red c d = y at h2 ⊢
  have : b * d * (x.1 * y.2) = b * d * (y.1 * x.2) := by grind
  exact Int.eq_of_mul_eq_mul_left (by have := Int.mul_pos (show 0 < b by omega) (show 0 < d by omega); omega) this
theorem mul_pos1 {a b : Int} (ha : 1 ≤ a) (hb : 1 ≤ b) : 1 ≤ a * b := by
  have := Int.mul_pos (show 0 < a by omega) (show 0 < b by omega); omega
def pls (x y : Fr) : Fr := red (x.1 * y.2 + y.1 * x.2) (x.2 * y.2)
def mns (x y : Fr) : Fr := red (x.1 * y.2 - y.1 * x.2) (x.2 * y.2)
def tms (x y : Fr) : Fr := red (x.1 * y.1) (x.2 * y.2)
def ovr (x y : Fr) : Fr := if y.1 < 0 then red (-x.1 * y.2) (-x.2 * y.1) else red (x.1 * y.2) (x.2 * y.1)
theorem pls_ok {x y : Fr} (hx : Ok x) (hy : Ok y) : Ok (pls x y) := red_ok (mul_pos1 hx.pos hy.pos)
theorem mns_ok {x y : Fr} (hx : Ok x) (hy : Ok y) : Ok (mns x y) := red_ok (mul_pos1 hx.pos hy.pos)
theorem tms_ok {x y : Fr} (hx : Ok x) (hy : Ok y) : Ok (tms x y) := red_ok (mul_pos1 hx.pos hy.pos)
theorem ovr_ok {x y : Fr} (hx : Ok x) (hy : Ok y) (h : y.1 ≠ 0) : Ok (ovr x y) := by
  have := hx.pos
  unfold ovr
  split
  · refine red_ok ?_
    rw [Int.neg_mul, ← Int.mul_neg]
    exact mul_pos1 hx.pos (by omega)
  · exact red_ok (mul_pos1 hx.pos (by omega))
theorem pls_cross (x y : Fr) : (pls x y).1 * (x.2 * y.2) = (x.1 * y.2 + y.1 * x.2) * (pls x y).2 := red_cross
theorem mns_cross (x y : Fr) : (mns x y).1 * (x.2 * y.2) = (x.1 * y.2 - y.1 * x.2) * (mns x y).2 := red_cross
theorem tms_cross (x y : Fr) : (tms x y).1 * (x.2 * y.2) = (x.1 * y.1) * (tms x y).2 := red_cross
theorem ovr_cross (x y : Fr) : (ovr x y).1 * (x.2 * y.1) = (x.1 * y.2) * (ovr x y).2 := by
  unfold ovr
  split
  · have := red_cross (a := -x.1 * y.2) (b := -x.2 * y.1)
    generalize red (-x.1 * y.2) (-x.2 * y.1) = z at this ⊢
    grind
  · exact red_cross
theorem can {k a b : Int} (h : 1 ≤ k) (e : k * a = k * b) : a = b := Int.eq_of_mul_eq_mul_left (by omega) e
theorem pls_comm (x y : Fr) : pls x y = pls y x := by
  unfold pls
  rw [Int.add_comm, Int.mul_comm x.2]
theorem tms_comm (x y : Fr) : tms x y = tms y x := by
  unfold tms
  rw [Int.mul_comm x.1, Int.mul_comm x.2]
theorem pls_right {x a b : Fr} (hx : Ok x) (ha : Ok a) (hb : Ok b) : pls (pls x a) b = pls (pls x b) a := by
  have h1 := pls_ok hx ha
  have h2 := pls_ok hx hb
  refine uniq (pls_ok h1 hb) (pls_ok h2 ha) ?_
  have c1 := pls_cross x a
  have c2 := pls_cross x b
  have c3 := pls_cross (pls x a) b
  have c4 := pls_cross (pls x b) a
  have p1 := h1.pos
  have p2 := h2.pos
  have px := hx.pos
  have pa := ha.pos
  have pb := hb.pos
  generalize pls (pls x a) b = u at *
  generalize pls (pls x b) a = v at *
  generalize pls x a = s at *
  generalize pls x b = t at *
  have e1 : u.1 * (x.2 * a.2 * b.2) = (x.1 * a.2 * b.2 + a.1 * x.2 * b.2 + b.1 * x.2 * a.2) * u.2 := can p1 (by grind)
  have e2 : v.1 * (x.2 * a.2 * b.2) = (x.1 * a.2 * b.2 + a.1 * x.2 * b.2 + b.1 * x.2 * a.2) * v.2 := can p2 (by grind)
  exact can (mul_pos1 (mul_pos1 px pa) pb) (by grind)
/-- sums in any order -/
theorem fold_perm {f : Fr → Fr → Fr} (hok : ∀ {x y}, Ok x → Ok y → Ok (f x y)) (hr : ∀ {x a b}, Ok x → Ok a → Ok b → f (f x a) b = f (f x b) a) {l l' : List Fr} (p : l.Perm l') : ∀ {x : Fr}, Ok x → (∀ y ∈ l, Ok y) → l.foldl f x = l'.foldl f x := by
  induction p with
  | nil => intro x _ _; rfl
  | cons a _ ih =>
    intro x hx h
    simp only [List.foldl_cons]
    exact ih (hok hx (h a List.mem_cons_self)) fun y hy => h y (List.mem_cons_of_mem _ hy)
  | swap a b l =>
    intro x hx h
    simp only [List.foldl_cons]
    rw [hr hx (h b List.mem_cons_self) (h a (by simp))]
  | trans p q ih1 ih2 =>
    intro x hx h
    rw [ih1 hx h, ih2 hx fun y hy => h y (p.mem_iff.mpr hy)]
/-- the order -/
def le (x y : Fr) : Prop := x.1 * y.2 ≤ y.1 * x.2
theorem le_total {x y : Fr} (h : ¬ x.1 * y.2 < y.1 * x.2) : le y x := by unfold le; omega
theorem le_trans {x y z : Fr} (hx : Ok x) (hy : Ok y) (hz : Ok z) (h1 : le x y) (h2 : le y z) : le x z := by
  unfold le at *
  have p1 := hx.pos
  have p2 := hy.pos
  have p3 := hz.pos
  have a1 : x.1 * y.2 * z.2 ≤ y.1 * x.2 * z.2 := Int.mul_le_mul_of_nonneg_right h1 (by omega)
  have a2 : y.1 * z.2 * x.2 ≤ z.1 * y.2 * x.2 := Int.mul_le_mul_of_nonneg_right h2 (by omega)
  have a3 : y.2 * (x.1 * z.2) ≤ y.2 * (z.1 * x.2) := by grind
  exact Int.le_of_mul_le_mul_left a3 (by omega)
def lst1 (l : List Fr) (x : Fr) : Fr := l.foldl (fun m y => if y.1 * m.2 < m.1 * y.2 then y else m) x
def gst1 (l : List Fr) (x : Fr) : Fr := l.foldl (fun m y => if m.1 * y.2 < y.1 * m.2 then y else m) x
theorem lst1_ok : ∀ {l : List Fr} {x : Fr}, Ok x → (∀ y ∈ l, Ok y) → (lst1 l x = x ∨ lst1 l x ∈ l) ∧ le (lst1 l x) x ∧ ∀ y ∈ l, le (lst1 l x) y
  | [], x, hx, h => ⟨.inl rfl, by show x.1 * x.2 ≤ x.1 * x.2; omega, fun _ h => nomatch h⟩
  | a :: l, x, hx, h => by
    have ha := h a List.mem_cons_self
    have hl : ∀ y ∈ l, Ok y := fun y hy => h y (List.mem_cons_of_mem _ hy)
    have e : lst1 (a :: l) x = lst1 l (if a.1 * x.2 < x.1 * a.2 then a else x) := rfl
    rw [e]
    split
    · rename_i hlt
      obtain ⟨h1, h2, h3⟩ := lst1_ok ha hl
      have ok1 : Ok (lst1 l a) := by rcases h1 with z | z; rw [z]; exact ha; exact hl _ z
      refine ⟨.inr (by rcases h1 with z | z; rw [z]; exact List.mem_cons_self; exact List.mem_cons_of_mem _ z), le_trans ok1 ha hx h2 (by unfold le; omega), fun y hy => ?_⟩
      rcases List.mem_cons.mp hy with z | z
      · rw [z]; exact h2
      · exact h3 y z
    · rename_i hlt
      obtain ⟨h1, h2, h3⟩ := lst1_ok hx hl
      have ok1 : Ok (lst1 l x) := by rcases h1 with z | z; rw [z]; exact hx; exact hl _ z
      refine ⟨by rcases h1 with z | z; exact .inl z; exact .inr (List.mem_cons_of_mem _ z), h2, fun y hy => ?_⟩
      rcases List.mem_cons.mp hy with z | z
      · rw [z]; exact le_trans ok1 hx ha h2 (le_total hlt)
      · exact h3 y z
theorem gst1_ok : ∀ {l : List Fr} {x : Fr}, Ok x → (∀ y ∈ l, Ok y) → (gst1 l x = x ∨ gst1 l x ∈ l) ∧ le x (gst1 l x) ∧ ∀ y ∈ l, le y (gst1 l x)
  | [], x, hx, h => ⟨.inl rfl, by show x.1 * x.2 ≤ x.1 * x.2; omega, fun _ h => nomatch h⟩
  | a :: l, x, hx, h => by
    have ha := h a List.mem_cons_self
    have hl : ∀ y ∈ l, Ok y := fun y hy => h y (List.mem_cons_of_mem _ hy)
    have e : gst1 (a :: l) x = gst1 l (if x.1 * a.2 < a.1 * x.2 then a else x) := rfl
    rw [e]
    split
    · rename_i hlt
      obtain ⟨h1, h2, h3⟩ := gst1_ok ha hl
      have ok1 : Ok (gst1 l a) := by rcases h1 with z | z; rw [z]; exact ha; exact hl _ z
      refine ⟨.inr (by rcases h1 with z | z; rw [z]; exact List.mem_cons_self; exact List.mem_cons_of_mem _ z), le_trans hx ha ok1 (by unfold le; omega) h2, fun y hy => ?_⟩
      rcases List.mem_cons.mp hy with z | z
      · rw [z]; exact h2
      · exact h3 y z
    · rename_i hlt
      obtain ⟨h1, h2, h3⟩ := gst1_ok hx hl
      have ok1 : Ok (gst1 l x) := by rcases h1 with z | z; rw [z]; exact hx; exact hl _ z
      refine ⟨by rcases h1 with z | z; exact .inl z; exact .inr (List.mem_cons_of_mem _ z), h2, fun y hy => ?_⟩
      rcases List.mem_cons.mp hy with z | z
      · rw [z]; exact le_trans ha hx ok1 (by unfold le; omega) h2
      · exact h3 y z
theorem ends_perm {l l' : List Fr} {x x' : Fr} (p : l.Perm l') (hx : x ∈ l) (hx' : x' ∈ l') (h : ∀ y ∈ l, Ok y) : lst1 l x = lst1 l' x' ∧ gst1 l x = gst1 l' x' := by
  have h' : ∀ y ∈ l', Ok y := fun y hy => h y (p.mem_iff.mpr hy)
  obtain ⟨a1, a2, a3⟩ := lst1_ok (h x hx) h
  obtain ⟨b1, b2, b3⟩ := lst1_ok (h' x' hx') h'
  obtain ⟨c1, c2, c3⟩ := gst1_ok (h x hx) h
  obtain ⟨d1, d2, d3⟩ := gst1_ok (h' x' hx') h'
  have ma : lst1 l x ∈ l := by rcases a1 with z | z; rw [z]; exact hx; exact z
  have mb : lst1 l' x' ∈ l' := by rcases b1 with z | z; rw [z]; exact hx'; exact z
  have mc : gst1 l x ∈ l := by rcases c1 with z | z; rw [z]; exact hx; exact z
  have md : gst1 l' x' ∈ l' := by rcases d1 with z | z; rw [z]; exact hx'; exact z
  refine ⟨uniq (h _ ma) (h' _ mb) ?_, uniq (h _ mc) (h' _ md) ?_⟩
  · have e1 := a3 _ (p.mem_iff.mpr mb)
    have e2 := b3 _ (p.mem_iff.mp ma)
    unfold le at e1 e2
    omega
  · have e1 := c3 _ (p.mem_iff.mpr md)
    have e2 := d3 _ (p.mem_iff.mp mc)
    unfold le at e1 e2
    omega
/-! the laws of one pair -/
theorem min_neg {x y : Fr} (hx : Ok x) (hy : Ok y) : mns x y = tms (mns y x) (-1, 1) := by
  have h1 := mns_ok hy hx
  refine uniq (mns_ok hx hy) (red_ok (mul_pos1 h1.pos (by decide))) ?_
  have c1 := mns_cross x y
  have c2 := mns_cross y x
  have c3 := tms_cross (mns y x) (-1, 1)
  have p1 := h1.pos
  have px := hx.pos
  have py := hy.pos
  generalize tms (mns y x) (-1, 1) = u at *
  generalize mns x y = v at *
  generalize mns y x = w at *
  simp only [Int.mul_one, Int.mul_neg] at c3
  have e1 : u.1 * (x.2 * y.2) = (x.1 * y.2 - y.1 * x.2) * u.2 := can p1 (by grind)
  exact can (mul_pos1 px py) (by grind)
theorem pls_min {x y : Fr} (hx : Ok x) (hy : Ok y) : pls x (mns y x) = y := by
  have h1 := mns_ok hy hx
  refine uniq (pls_ok hx h1) hy ?_
  have c1 := mns_cross y x
  have c2 := pls_cross x (mns y x)
  have p1 := h1.pos
  have px := hx.pos
  have py := hy.pos
  generalize pls x (mns y x) = u at *
  generalize mns y x = w at *
  exact can (mul_pos1 (mul_pos1 px px) p1) (by grind)
theorem ovr_tms {x y : Fr} (hx : Ok x) (hy : Ok y) (h : y.1 ≠ 0) : ovr (tms x y) y = x := by
  have h1 := tms_ok hx hy
  refine uniq (ovr_ok h1 hy h) hx ?_
  have c1 := tms_cross x y
  have c2 := ovr_cross (tms x y) y
  have p1 := h1.pos
  have px := hx.pos
  have py := hy.pos
  generalize ovr (tms x y) y = u at *
  generalize tms x y = w at *
  have e : y.1 * (y.2 * w.2 * (u.1 * x.2)) = y.1 * (y.2 * w.2 * (x.1 * u.2)) := by grind
  exact can (mul_pos1 py p1) (Int.eq_of_mul_eq_mul_left h e)
theorem tms_ovr {x y : Fr} (hx : Ok x) (hy : Ok y) (h : y.1 ≠ 0) : tms (ovr x y) y = x := by
  have h1 := ovr_ok hx hy h
  refine uniq (tms_ok h1 hy) hx ?_
  have c1 := ovr_cross x y
  have c2 := tms_cross (ovr x y) y
  have p1 := h1.pos
  have px := hx.pos
  have py := hy.pos
  generalize tms (ovr x y) y = u at *
  generalize ovr x y = w at *
  exact can (mul_pos1 p1 py) (by grind)
theorem ovr_self {y : Fr} (hy : Ok y) (h : y.1 ≠ 0) : ovr y y = (1, 1) := by
  refine uniq (ovr_ok hy hy h) ⟨by decide, by decide⟩ ?_
  have c1 := ovr_cross y y
  have p1 := hy.pos
  generalize ovr y y = u at *
  simp only [Int.mul_one, Int.one_mul]
  have e : y.1 * (y.2 * u.1) = y.1 * (y.2 * u.2) := by grind
  exact can p1 (Int.eq_of_mul_eq_mul_left h e)
theorem min_sign {x y : Fr} (hx : Ok x) (hy : Ok y) : decide (x.1 * y.2 < y.1 * x.2) = decide ((mns x y).1 < 0) := by
  have h1 := mns_ok hx hy
  have c1 := mns_cross x y
  have p1 := h1.pos
  have pp := mul_pos1 hx.pos hy.pos
  generalize mns x y = u at *
  generalize x.2 * y.2 = q at *
  rw [decide_eq_decide]
  constructor
  · intro h
    by_cases hu : u.1 < 0
    · exact hu
    · have a : 0 ≤ u.1 * q := Int.mul_nonneg (by omega) (by omega)
      have b : 0 < (y.1 * x.2 - x.1 * y.2) * u.2 := Int.mul_pos (by omega) (by omega)
      grind
  · intro h
    by_cases hu : x.1 * y.2 < y.1 * x.2
    · exact hu
    · have a : 0 < (-u.1) * q := Int.mul_pos (by omega) (by omega)
      have b : 0 ≤ (x.1 * y.2 - y.1 * x.2) * u.2 := Int.mul_nonneg (by omega) (by omega)
      grind
end OM


set_option autoImplicit false
set_option linter.all false
set_option maxRecDepth 10000
namespace OM
open PySem
/-! ### common -/
abbrev cCommon : T := .v (.cmp .gt (.var 1) (.cst (.int 0)))
abbrev bCommon : Ss := .cons (.par [0, 1] (.cons (.var 1) (.cons (.bin .mod (.var 0) (.var 1)) .nil))) .nil
theorem c_common (Γ : FT) (a b : Int) : evT Γ cCommon [some (I a), some (I b)] = .ok (decide (0 < b)) [some (I a), some (I b)] := by
  simp [cop, ltOp, truth]
theorem b_common (Γ : FT) (a b : Int) (h : 0 < b) : execs Γ bCommon [some (I a), some (I b)] = .ok .next [some (I b), some (I (a % b))] := by
  simp [bop, h]
theorem w_common (Γ : FT) : ∀ (k a b m : Nat), b < 2 ^ k → 2 * k + 1 ≤ m →
    whileLoop (evT Γ cCommon) (execs Γ bCommon) m [some (I a), some (I b)] = .ok .next [some (I (Nat.gcd a b)), some (I 0)] := by
  have step : ∀ (a b m : Nat), 0 < b → whileLoop (evT Γ cCommon) (execs Γ bCommon) (m + 1) [some (I a), some (I b)] =
      whileLoop (evT Γ cCommon) (execs Γ bCommon) m [some (I b), some (I (a % b : Nat))] := by
    intro a b m hb
    have h1 : (0 : Int) < (b : Int) := by omega
    exact whl_step (by rw [c_common, decide_eq_true h1]) (b_common Γ a b h1)
  have stop : ∀ (a m : Nat), whileLoop (evT Γ cCommon) (execs Γ bCommon) (m + 1) [some (I a), some (I (0 : Nat))] = .ok .next [some (I a), some (I 0)] := by
    intro a m
    exact whl_stop (by rw [c_common]; rfl)
  intro k
  induction k with
  | zero =>
    intro a b m hb hm
    have : b = 0 := by simpa using hb
    subst this
    obtain ⟨m, rfl⟩ : ∃ j, m = j + 1 := ⟨m - 1, by omega⟩
    rw [stop]; simp
  | succ k ih =>
    intro a b m hb hm
    obtain ⟨m, rfl⟩ : ∃ j, m = j + 2 := ⟨m - 2, by omega⟩
    rcases Nat.eq_zero_or_pos b with h0 | h0
    · subst h0; rw [stop]; simp
    · rw [step a b (m + 1) h0]
      rcases Nat.eq_zero_or_pos (a % b) with h1 | h1
      · rw [h1, stop, Nat.gcd_comm, Nat.gcd_rec, h1]; simp
      · rw [step b (a % b) m h1, ih]
        · rw [Nat.gcd_comm a b, Nat.gcd_rec b a, Nat.gcd_rec (a % b) b, Nat.gcd_comm]
        · have e1 : b % (a % b) < a % b := Nat.mod_lt _ h1
          have e2 : a % b < b := Nat.mod_lt _ h0
          have e3 := Nat.div_add_mod b (a % b)
          have e4 : 1 ≤ b / (a % b) := Nat.div_pos (Nat.le_of_lt e2) h1
          have e5 : (a % b) ≤ (a % b) * (b / (a % b)) := Nat.le_mul_of_pos_right _ e4
          rw [Nat.pow_succ] at hb
          omega
        · omega
def Bd : Nat := 2 ^ 99
abbrev G (a b : Int) : Int := (Int.gcd a b : Int)
theorem s_common (n : Nat) (a b : Int) (ha : 0 ≤ a) (h0 : 0 ≤ b) (hb : b < Bd) : run PG (n + 1) f_common [I a, I b] = .ok (I (G a b)) [] := by
  obtain ⟨a, rfl⟩ := Int.eq_ofNat_of_zero_le ha
  obtain ⟨b, rfl⟩ := Int.eq_ofNat_of_zero_le h0
  rw [call_run (fd := d_common) rfl rfl rfl]
  have hw := w_common (run PG n) 99 a b fuelW (by unfold Bd at hb; exact_mod_cast hb) (by decide)
  simp only [callB, d_common, x_cons, x_whl, List.map_cons, List.map_nil, List.cons_append, List.nil_append]
  simp only [Nat.sub_self, List.replicate_zero]
  rw [hw]
  simp [G, Int.gcd]
/-! ### part -/
theorem gcd_abs (a b : Int) : G (if a < 0 then -a else a) b = G a b := by
  unfold G
  split
  · rw [Int.neg_gcd]
  · rfl
theorem gcd_pos (a b : Int) (hb : 1 ≤ b) : 1 ≤ G a b := by
  have : 0 < Int.gcd a b := Int.gcd_pos_of_ne_zero_right a (by omega)
  unfold G
  omega
theorem gcd_le (a b : Int) (hb : 1 ≤ b) : G a b ≤ b := by
  exact Int.le_of_dvd (by omega) (Int.gcd_dvd_right ..)
theorem log_small {a : Int} (h : 0 ≤ a) (hb : a < Bd) : a.natAbs.log2 < 100 := by
  by_cases h0 : a.natAbs = 0
  · rw [h0]; decide
  · rw [Nat.log2_lt h0]
    unfold Bd at hb
    have : (2 : Nat) ^ 99 < 2 ^ 100 := by decide
    omega
theorem div_ok {a : Int} (h : 1 ≤ a) (hb : a < Bd) : divOk a = true := by
  unfold divOk
  have := log_small (by omega) hb
  simp; omega
abbrev pr (a b : Int) : D := .tup [.int a, .int b]
theorem s_part (n : Nat) (a b : Int) (h0 : 1 ≤ b) (hb : b < Bd) : run PG (n + 2) f_part [I a, I b] = .ok (pr (a / G a b) (b / G a b)) [] := by
  rw [call_run (fd := d_part) rfl rfl rfl]
  have g1 := gcd_pos a b h0
  have g2 := gcd_le a b h0
  have hc : run PG (n + 1) 0 [D.int (if a < 0 then -a else a), D.int b] = .ok (I (G a b)) [] := by
    have := s_common n (if a < 0 then -a else a) b (by split <;> omega) (by omega) hb
    rw [gcd_abs] at this
    exact this
  have hd := div_ok g1 (by omega)
  have nb : ¬ b < 1 := by omega
  simp [callB, d_part, bn, b_isBool, b_isInt, isBlD, isIntD, plain, cop, ltOp, truth, nb, b_abs, hc, bop, hd]
abbrev fd (x : Fr) : D := pr x.1 x.2
theorem s_part' (n : Nat) (a b : Int) (h0 : 1 ≤ b) (hb : b < Bd) : run PG (n + 2) f_part [I a, I b] = .ok (fd (red a b)) [] := s_part n a b h0 hb
abbrev Sm (a : Int) : Prop := a.natAbs < 2 ^ 200
theorem log_sm {a : Int} (h : Sm a) : a.natAbs.log2 < 200 := by
  by_cases h0 : a.natAbs = 0
  · rw [h0]; decide
  · rw [Nat.log2_lt h0]; exact h
theorem mul_ok {a b : Int} (ha : Sm a) (hb : Sm b) : mulOk a b = true := by
  unfold mulOk
  have := log_sm ha
  have := log_sm hb
  simp; omega
theorem sm_bd {a : Int} (h0 : 1 ≤ a) (h : a < Bd) : Sm a := by
  unfold Bd at h
  have : (2 : Nat) ^ 99 < 2 ^ 200 := by decide
  show a.natAbs < 2 ^ 200
  omega
/-- two that may be worked with -/
structure Two (x y : Fr) : Prop where
  px : 1 ≤ x.2
  py : 1 ≤ y.2
  sx : Sm x.1
  sy : Sm y.1
  pr : x.2 * y.2 < Bd
theorem Two.x2 {x y : Fr} (t : Two x y) : Sm x.2 := by
  refine sm_bd t.px (Int.lt_of_le_of_lt ?_ t.pr)
  have := Int.mul_le_mul_of_nonneg_left t.py (show 0 ≤ x.2 by have := t.px; omega)
  omega
theorem Two.y2 {x y : Fr} (t : Two x y) : Sm y.2 := by
  refine sm_bd t.py (Int.lt_of_le_of_lt ?_ t.pr)
  have := Int.mul_le_mul_of_nonneg_right t.px (show 0 ≤ y.2 by have := t.py; omega)
  omega
@[simp] theorem ix0 (a b : D) : ixOp (.tup [a, b]) (.int 0) = some a := rfl
@[simp] theorem ix1 (a b : D) : ixOp (.tup [a, b]) (.int 1) = some b := rfl
@[simp] theorem bop_add (a b : Int) : bop .add (.int a) (.int b) = some (.int (a + b)) := rfl
@[simp] theorem bop_sub (a b : Int) : bop .sub (.int a) (.int b) = some (.int (a - b)) := rfl
theorem bop_mul {a b : Int} (h : mulOk a b = true) : bop .mul (.int a) (.int b) = some (.int (a * b)) := by simp [bop, h]
theorem s_plus (n : Nat) {x y : Fr} (t : Two x y) : run PG (n + 3) f_plus [fd x, fd y] = .ok (fd (pls x y)) [] := by
  rw [call_run (fd := d_plus) rfl rfl rfl]
  have := s_part' n (x.1 * y.2 + y.1 * x.2) (x.2 * y.2) (mul_pos1 t.px t.py) t.pr
  simp [callB, d_plus, bop_mul (mul_ok t.sx t.y2), bop_mul (mul_ok t.sy t.x2), bop_mul (mul_ok t.x2 t.y2), this, pls]
theorem s_minus (n : Nat) {x y : Fr} (t : Two x y) : run PG (n + 3) f_minus [fd x, fd y] = .ok (fd (mns x y)) [] := by
  rw [call_run (fd := d_minus) rfl rfl rfl]
  have := s_part' n (x.1 * y.2 - y.1 * x.2) (x.2 * y.2) (mul_pos1 t.px t.py) t.pr
  simp [callB, d_minus, bop_mul (mul_ok t.sx t.y2), bop_mul (mul_ok t.sy t.x2), bop_mul (mul_ok t.x2 t.y2), this, mns]
theorem s_times (n : Nat) {x y : Fr} (t : Two x y) : run PG (n + 3) f_times [fd x, fd y] = .ok (fd (tms x y)) [] := by
  rw [call_run (fd := d_times) rfl rfl rfl]
  have := s_part' n (x.1 * y.1) (x.2 * y.2) (mul_pos1 t.px t.py) t.pr
  simp [callB, d_times, bop_mul (mul_ok t.sx t.sy), bop_mul (mul_ok t.x2 t.y2), this, tms]
theorem sm_neg {a : Int} (h : Sm a) : Sm (-a) := by show (-a).natAbs < _; rw [Int.natAbs_neg]; exact h
theorem s_over (n : Nat) {x y : Fr} (t : Two x y) (h : y.1 ≠ 0) (hb : x.2 * y.1.natAbs < Bd) : run PG (n + 3) f_over [fd x, fd y] = .ok (fd (ovr x y)) [] := by
  rw [call_run (fd := d_over) rfl rfl rfl]
  by_cases hn : y.1 < 0
  · have e : -x.2 * y.1 = x.2 * y.1.natAbs := by
      rw [Int.neg_mul, ← Int.mul_neg]
      congr 1; omega
    have := s_part' n (-x.1 * y.2) (-x.2 * y.1) (by rw [e]; exact mul_pos1 t.px (by omega)) (by rw [e]; exact hb)
    have nz : ¬ y.1 = 0 := h
    simp [callB, d_over, cop, deq, eqOk, plain, ltOp, truth, nz, hn, bop_mul (mul_ok (sm_neg t.sx) t.y2), bop_mul (mul_ok (sm_neg t.x2) t.sy), this, ovr]
  · have e : x.2 * y.1 = x.2 * y.1.natAbs := by
      congr 1; omega
    have := s_part' n (x.1 * y.2) (x.2 * y.1) (by rw [e]; exact mul_pos1 t.px (by omega)) (by rw [e]; exact hb)
    have nz : ¬ y.1 = 0 := h
    simp [callB, d_over, cop, deq, eqOk, plain, ltOp, truth, nz, hn, bop_mul (mul_ok t.sx t.y2), bop_mul (mul_ok t.x2 t.sy), this, ovr]
theorem s_less (n : Nat) {x y : Fr} (t : Two x y) : run PG (n + 1) f_is_less [fd x, fd y] = .ok (.bl (decide (x.1 * y.2 < y.1 * x.2))) [] := by
  rw [call_run (fd := d_is_less) rfl rfl rfl]
  simp [callB, d_is_less, cop, ltOp, bop_mul (mul_ok t.sx t.y2), bop_mul (mul_ok t.sy t.x2)]
theorem s_whole (n : Nat) (a : Int) : run PG (n + 3) f_whole [I a] = .ok (pr a 1) [] := by
  rw [call_run (fd := d_whole) rfl rfl rfl]
  have := s_part n a 1 (by decide) (by decide)
  have g : G a 1 = 1 := by unfold G; simp
  rw [g] at this
  simp at this
  simp [callB, d_whole, this]
theorem s_floor (n : Nat) {x : Fr} (p : 1 ≤ x.2) (hb : x.2 < Bd) : run PG (n + 1) f_floor_of [fd x] = .ok (I (x.1 / x.2)) [] := by
  rw [call_run (fd := d_floor_of) rfl rfl rfl]
  simp [callB, d_floor_of, bop, div_ok p hb]
theorem s_ceil (n : Nat) {x : Fr} (p : 1 ≤ x.2) (hb : x.2 < Bd) : run PG (n + 1) f_ceiling_of [fd x] = .ok (I (-(-x.1 / x.2))) [] := by
  rw [call_run (fd := d_ceiling_of) rfl rfl rfl]
  simp [callB, d_ceiling_of, bop, div_ok p hb]
theorem s_ispart (n : Nat) {a b : Int} (h0 : 1 ≤ b) (hb : b < Bd) : run PG (n + 2) f_is_part [pr a b] = .ok (.bl (decide (G a b = 1))) [] := by
  rw [call_run (fd := d_is_part) rfl rfl rfl]
  have hc : run PG (n + 1) 0 [D.int (if a < 0 then -a else a), D.int b] = .ok (I (G a b)) [] := by
    have := s_common n (if a < 0 then -a else a) b (by split <;> omega) (by omega) hb
    rw [gcd_abs] at this
    exact this
  have nb : ¬ b < 1 := by omega
  simp [callB, d_is_part, bn, b_isTuple, b_len, isTup, plain, plainL, cop, ltOp, deq, eqOk, truth, x_lc, itemsR, itemsOf, compLoop, wipeE, back, back1, stepLc, b_isBool, b_isInt, isBlD, isIntD, nb, b_abs, hc, most]
  rfl
end OM


set_option autoImplicit false
set_option linter.all false
set_option maxRecDepth 10000
namespace OM
open PySem
abbrev fds (l : List Fr) : List D := l.map fd
/-! ### least, greatest, total -/
theorem l_least (n : Nat) (L : D) : ∀ (l : List Fr) (m : Fr) (z : Option D), (∀ y ∈ l, Two y m) → (∀ x ∈ l, ∀ y ∈ l, Two x y) →
    ∃ z', forLoop (stepFor (run PG (n + 1)) (.nm 2) (.cons (.ite (.v (.call f_is_less (.cons (.var 2) (.cons (.var 1) .nil)))) (.cons (.set 1 (.var 2)) .nil) .nil) .nil)) (fds l) [some L, some (fd m), z] = .ok .next [some L, some (fd (lst1 l m)), z']
  | [], m, z, _, _ => ⟨z, rfl⟩
  | y :: l, m, z, h1, h2 => by
    have hs := s_less n (h1 y List.mem_cons_self)
    by_cases hlt : y.1 * m.2 < m.1 * y.2
    · obtain ⟨z', e⟩ := l_least n L l y (some (fd y)) (fun x hx => h2 x (List.mem_cons_of_mem _ hx) y List.mem_cons_self) fun a ha b hb => h2 a (List.mem_cons_of_mem _ ha) b (List.mem_cons_of_mem _ hb)
      refine ⟨z', ?_⟩
      have el : lst1 (y :: l) m = lst1 l y := by unfold lst1; rw [List.foldl_cons, if_pos hlt]
      rw [el, ← e]
      refine for_step (x := fd y) ?_
      simp [stepFor, hs, hlt, truth]
    · obtain ⟨z', e⟩ := l_least n L l m (some (fd y)) (fun x hx => h1 x (List.mem_cons_of_mem _ hx)) fun a ha b hb => h2 a (List.mem_cons_of_mem _ ha) b (List.mem_cons_of_mem _ hb)
      refine ⟨z', ?_⟩
      have el : lst1 (y :: l) m = lst1 l m := by unfold lst1; rw [List.foldl_cons, if_neg hlt]
      rw [el, ← e]
      refine for_step (x := fd y) ?_
      simp [stepFor, hs, hlt, truth]
theorem l_greatest (n : Nat) (L : D) : ∀ (l : List Fr) (m : Fr) (z : Option D), (∀ y ∈ l, Two m y) → (∀ x ∈ l, ∀ y ∈ l, Two x y) →
    ∃ z', forLoop (stepFor (run PG (n + 1)) (.nm 2) (.cons (.ite (.v (.call f_is_less (.cons (.var 1) (.cons (.var 2) .nil)))) (.cons (.set 1 (.var 2)) .nil) .nil) .nil)) (fds l) [some L, some (fd m), z] = .ok .next [some L, some (fd (gst1 l m)), z']
  | [], m, z, _, _ => ⟨z, rfl⟩
  | y :: l, m, z, h1, h2 => by
    have hs := s_less n (h1 y List.mem_cons_self)
    by_cases hlt : m.1 * y.2 < y.1 * m.2
    · obtain ⟨z', e⟩ := l_greatest n L l y (some (fd y)) (fun x hx => h2 y List.mem_cons_self x (List.mem_cons_of_mem _ hx)) fun a ha b hb => h2 a (List.mem_cons_of_mem _ ha) b (List.mem_cons_of_mem _ hb)
      refine ⟨z', ?_⟩
      have el : gst1 (y :: l) m = gst1 l y := by unfold gst1; rw [List.foldl_cons, if_pos hlt]
      rw [el, ← e]
      refine for_step (x := fd y) ?_
      simp [stepFor, hs, hlt, truth]
    · obtain ⟨z', e⟩ := l_greatest n L l m (some (fd y)) (fun x hx => h1 x (List.mem_cons_of_mem _ hx)) fun a ha b hb => h2 a (List.mem_cons_of_mem _ ha) b (List.mem_cons_of_mem _ hb)
      refine ⟨z', ?_⟩
      have el : gst1 (y :: l) m = gst1 l m := by unfold gst1; rw [List.foldl_cons, if_neg hlt]
      rw [el, ← e]
      refine for_step (x := fd y) ?_
      simp [stepFor, hs, hlt, truth]
theorem s_least (n : Nat) {x : Fr} {l : List Fr} (h : ∀ a ∈ x :: l, ∀ b ∈ x :: l, Two a b) : run PG (n + 2) f_least [.lst false (fds (x :: l))] = .ok (fd (lst1 (x :: l) x)) [] := by
  rw [call_run (fd := d_least) rfl rfl rfl]
  obtain ⟨z', e⟩ := l_least n (.lst false (fds (x :: l))) (x :: l) x none (fun y hy => h y hy x List.mem_cons_self) h
  have i0 : ixOp (.lst false (fds (x :: l))) (.int 0) = some (fd x) := rfl
  simp only [callB, d_least]
  simp only [List.map_cons, List.map_nil] at e i0 ⊢
  simp [x_for, itemsR, itemsOf, i0, e]
theorem s_greatest (n : Nat) {x : Fr} {l : List Fr} (h : ∀ a ∈ x :: l, ∀ b ∈ x :: l, Two a b) : run PG (n + 2) f_greatest [.lst false (fds (x :: l))] = .ok (fd (gst1 (x :: l) x)) [] := by
  rw [call_run (fd := d_greatest) rfl rfl rfl]
  obtain ⟨z', e⟩ := l_greatest n (.lst false (fds (x :: l))) (x :: l) x none (fun y hy => h x List.mem_cons_self y hy) h
  have i0 : ixOp (.lst false (fds (x :: l))) (.int 0) = some (fd x) := rfl
  simp only [callB, d_greatest]
  simp only [List.map_cons, List.map_nil] at e i0 ⊢
  simp [x_for, itemsR, itemsOf, i0, e]
def Sums : Fr → List Fr → Prop
  | _, [] => True
  | acc, y :: r => Two acc y ∧ Sums (pls acc y) r
theorem l_total (n : Nat) (L : D) : ∀ (l : List Fr) (m : Fr) (z : Option D), Sums m l →
    ∃ z', forLoop (stepFor (run PG (n + 3)) (.nm 2) (.cons (.set 1 (.call f_plus (.cons (.var 1) (.cons (.var 2) .nil)))) .nil)) (fds l) [some L, some (fd m), z] = .ok .next [some L, some (fd (l.foldl pls m)), z']
  | [], m, z, _ => ⟨z, rfl⟩
  | y :: l, m, z, h => by
    obtain ⟨z', e⟩ := l_total n L l (pls m y) (some (fd y)) h.2
    refine ⟨z', ?_⟩
    rw [List.foldl_cons, ← e]
    refine for_step (x := fd y) ?_
    simp [stepFor, s_plus n h.1]
theorem s_total (n : Nat) {l : List Fr} (h : Sums (0, 1) l) : run PG (n + 4) f_total [.lst false (fds l)] = .ok (fd (l.foldl pls (0, 1))) [] := by
  rw [call_run (fd := d_total) rfl rfl rfl]
  obtain ⟨z', e⟩ := l_total n (.lst false (fds l)) l (0, 1) none h
  simp only [callB, d_total]
  simp [x_for, itemsR, itemsOf, e]
/-- rows as drawn -/
structure Row (x : Fr) : Prop where
  ok : Ok x
  n : x.1.natAbs ≤ 2000
  d : x.2 ≤ 400
theorem Row.two {x y : Fr} (a : Row x) (b : Row y) : Two x y := by
  have := a.n; have := b.n; have := a.d; have := b.d; have := a.ok.pos; have := b.ok.pos
  have h1 : x.2 * y.2 ≤ 400 * 400 := Int.mul_le_mul a.d b.d (by omega) (by decide)
  have h2 : (2000 : Nat) < 2 ^ 200 := by decide
  exact ⟨a.ok.pos, b.ok.pos, show x.1.natAbs < 2 ^ 200 by omega, show y.1.natAbs < 2 ^ 200 by omega, Int.lt_of_le_of_lt h1 (by decide)⟩
theorem abs_mul_le {a b : Int} {A C : Nat} (ha : a.natAbs ≤ A) (hb : b.natAbs ≤ C) : (a * b).natAbs ≤ A * C := by
  rw [Int.natAbs_mul]; exact Nat.mul_le_mul ha hb
theorem sums_row : ∀ (l : List Fr) (m : Fr) (j : Nat), j + l.length ≤ 8 → 1 ≤ m.2 → m.2.natAbs ≤ 400 ^ j → m.1.natAbs ≤ 2000 * j * 400 ^ j → (∀ y ∈ l, Row y) → Sums m l
  | [], _, _, _, _, _, _, _ => trivial
  | y :: l, m, j, hj, p, h1, h2, hr => by
    have ry := hr y List.mem_cons_self
    have py := ry.ok.pos
    simp only [List.length_cons] at hj
    have q1 : y.2.natAbs ≤ 400 := by have := ry.d; omega
    have p2 : (m.2 * y.2).natAbs ≤ 400 ^ j * 400 := abs_mul_le h1 q1
    have p3 : 400 ^ j * 400 = 400 ^ (j + 1) := (Nat.pow_succ ..).symm
    have big : 400 ^ (j + 1) ≤ 400 ^ 8 := Nat.pow_le_pow_right (by decide) (by omega)
    have big2 : 2000 * j * 400 ^ j ≤ 2000 * 8 * 400 ^ 8 := Nat.mul_le_mul (by omega) (Nat.pow_le_pow_right (by decide) (by omega))
    have c1 : (400 : Nat) ^ 8 < 2 ^ 99 := by decide
    have c2 : 2000 * 8 * (400 : Nat) ^ 8 < 2 ^ 200 := by decide
    have c3 : (2000 : Nat) < 2 ^ 200 := by decide
    have pp : 1 ≤ m.2 * y.2 := mul_pos1 p py
    have hn := ry.n
    refine ⟨⟨p, py, show m.1.natAbs < 2 ^ 200 by omega, show y.1.natAbs < 2 ^ 200 by omega, ?_⟩, sums_row l (pls m y) (j + 1) (by omega) (red_ok pp).pos ?_ ?_ fun z hz => hr z (List.mem_cons_of_mem _ hz)⟩
    · unfold Bd; omega
    · have := red_le (a := m.1 * y.2 + y.1 * m.2) pp
      have p5 := (red_ok (a := m.1 * y.2 + y.1 * m.2) pp).pos
      show (red (m.1 * y.2 + y.1 * m.2) (m.2 * y.2)).2.natAbs ≤ _
      omega
    · have := red_abs (a := m.1 * y.2 + y.1 * m.2) (b := m.2 * y.2)
      have a1 : (m.1 * y.2).natAbs ≤ 2000 * j * 400 ^ j * 400 := abs_mul_le h2 q1
      have a2 : (y.1 * m.2).natAbs ≤ 2000 * 400 ^ j := abs_mul_le hn h1
      have a3 : (m.1 * y.2 + y.1 * m.2).natAbs ≤ (m.1 * y.2).natAbs + (y.1 * m.2).natAbs := Int.natAbs_add_le ..
      show (red (m.1 * y.2 + y.1 * m.2) (m.2 * y.2)).1.natAbs ≤ _
      have a4 : 2000 * j * 400 ^ j * 400 + 2000 * 400 ^ j ≤ 2000 * (j + 1) * 400 ^ (j + 1) := by
        rw [← p3]
        generalize 400 ^ j = q
        have : 2000 * (j + 1) * (q * 400) = 2000 * j * q * 400 + 2000 * (q * 400) := by grind
        omega
      omega
end OM


set_option autoImplicit false
set_option linter.all false
set_option maxRecDepth 10000
namespace OM
open PySem
/-! ### the box -/
abbrev ins (l : List Int) : List D := l.map D.int
abbrev bx (row : List Int) (k : Int) : D := .dct true false [(.str "row", .lst false (ins row)), (.str "at", .int k)]
theorem bx_at (o : Bool) (row : List Int) (k : Int) : ixOp (.dct o false [(.str "row", .lst false (ins row)), (.str "at", .int k)]) (.str "at") = some (.int k) := by rfl
theorem bx_row (o : Bool) (row : List Int) (k : Int) : ixOp (.dct o false [(.str "row", .lst false (ins row)), (.str "at", .int k)]) (.str "row") = some (.lst false (ins row)) := by rfl
theorem bx_put (row : List Int) (k j : Int) : dput [(.str "row", .lst false (ins row)), (.str "at", .int k)] (.str "at") (.int j) = [(.str "row", .lst false (ins row)), (.str "at", .int j)] := by rfl
theorem s_next (n : Nat) {row : List Int} {k m : Int} (hm : 1 ≤ m) (h0 : 0 ≤ k) (hk : k < 100000) (hr : row ≠ []) (hl : row.length ≤ 1000) :
    ∃ v, 0 ≤ v ∧ v < m ∧ run PG (n + 1) f__law_next [bx row k, I m] = .ok (I v) [bx row (k + 1)] := by
  have hp : 0 < row.length := List.length_pos_iff.mpr hr
  have hix : ixOf row.length (k % row.length) < row.length := by
    have := Int.emod_lt_of_pos k (show (0 : Int) < row.length by omega)
    have := Int.emod_nonneg k (show (row.length : Int) ≠ 0 by omega)
    unfold ixOf
    rw [if_neg (by omega)]
    omega
  have hget : ixOp (.lst false (ins row)) (.int (k % row.length)) = some (.int (row[ixOf row.length (k % row.length)])) := by
    show (ins row)[ixOf (ins row).length (k % row.length)]? = _
    simp only [ins, List.length_map, List.getElem?_map, List.getElem?_eq_getElem hix, Option.map_some]
  generalize hv : row[ixOf row.length (k % row.length)] = r at hget
  refine ⟨(r + 7919 * (k / row.length)) % m, Int.emod_nonneg _ (by omega), Int.emod_lt_of_pos _ (by omega), ?_⟩
  rw [call_run (fd := d__law_next) rfl rfl rfl]
  have hd : divOk (row.length : Int) = true := div_ok (by omega) (by have : (1000 : Int) < Bd := by decide
                                                                     omega)
  have hq : mulOk 7919 (k / row.length) = true := by
    refine mul_ok (by decide) ?_
    have h1 : k / row.length ≤ k := Int.ediv_le_self _ h0
    have h2 : 0 ≤ k / (row.length : Int) := Int.ediv_nonneg h0 (by omega)
    have h3 : (100000 : Nat) < 2 ^ 200 := by decide
    show Int.natAbs _ < _
    omega
  have hm' : 0 < m := by omega
  have hp' : (0 : Int) < row.length := by omega
  simp only [callB, d__law_next]
  simp [bx_at, bx_row, sidxD, keyOk, isK, bx_put, most, bn, b_len, bop, hp', hget, hd, hq, hm', b_int, hp]
/-! ### draws -/
theorem l_draw1 (Γ : FT) (a b c : Option D) (m : Int) (hm : 1 ≤ m) (hmb : m < Bd) : ∀ (ds : List Int) (number : Int) (xs : List Int) (z w : Option D), xs.length + ds.length ≤ 1000 →
    ∃ number' ys z', forLoop (stepFor Γ (.nm 5) (.cons (.ex (.app 4 (.bin .mod (.b .int (.cons (.var 3) .nil)) (.var 1)))) (.cons (.set 3 (.bin .fdiv (.var 3) (.var 1))) .nil))) (ins ds) [a, some (I m), c, some (I number), some (.lst true (ins xs)), z, w] =
      .ok .next [a, some (I m), c, some (I number'), some (.lst true (ins (xs ++ ys))), z', w] ∧ ys.length = ds.length
  | [], number, xs, z, w, _ => ⟨number, [], z, by rw [List.append_nil]; exact ⟨rfl, rfl⟩⟩
  | d :: ds, number, xs, z, w, hl => by
    simp only [List.length_cons] at hl
    obtain ⟨n', ys, z', e, hy⟩ := l_draw1 Γ a b c m hm hmb ds (number / m) (xs ++ [number % m]) (some (I d)) w (by simp; omega)
    refine ⟨n', (number % m) :: ys, z', ?_, by simp [hy]⟩
    have ea : xs ++ (number % m) :: ys = (xs ++ [number % m]) ++ ys := by simp
    rw [ea, ← e]
    have hm' : 0 < m := by omega
    have hlt : xs.length < 16777216 := by omega
    refine for_step (x := I d) ?_
    simp [stepFor, lstAt, bn, b_int, bop, hm', div_ok hm hmb, most, hlt]
theorem l_draw2 (Γ : FT) (a c : Option D) (m : Int) (hm : 1 ≤ m) (number : Int) (h0 : 0 ≤ number) (h1 : number < 10 ^ 18) : ∀ (ds : List Int) (xs : List Int) (z w : Option D), xs.length + ds.length ≤ 1000 → (∀ d ∈ ds, 0 ≤ d ∧ d < 100) →
    ∃ ys z' w', forLoop (stepFor Γ (.nm 5) (.cons (.set 6 (.bin .mod (.b .int (.cons (.bin .mul (.bin .add (.bin .add (.var 3) (.bin .mul (.cst (.int 7)) (.var 5))) (.cst (.int 1))) (.cst (.int 48271))) .nil)) (.cst (.int 2147483647))))
  (.cons (.set 6 (.bin .mod (.b .int (.cons (.bin .add (.bin .mul (.var 6) (.cst (.int 69621))) (.bin .mul (.cst (.int 31)) (.var 5))) .nil)) (.cst (.int 2147483629))))
  (.cons (.ex (.app 4 (.bin .mod (.b .int (.cons (.bin .fdiv (.var 6) (.cst (.int 7))) .nil)) (.var 1))))
  .nil)))) (ins ds) [a, some (I m), c, some (I number), some (.lst true (ins xs)), z, w] =
      .ok .next [a, some (I m), c, some (I number), some (.lst true (ins (xs ++ ys))), z', w'] ∧ ys.length = ds.length
  | [], xs, z, w, _, _ => ⟨[], z, w, by rw [List.append_nil]; exact ⟨rfl, rfl⟩⟩
  | d :: ds, xs, z, w, hl, hd => by
    simp only [List.length_cons] at hl
    obtain ⟨d0, d1⟩ := hd d List.mem_cons_self
    let s1 := ((number + 7 * d + 1) * 48271) % 2147483647
    let s2 := (s1 * 69621 + 31 * d) % 2147483629
    obtain ⟨ys, z', w', e, hy⟩ := l_draw2 Γ a c m hm number h0 h1 ds (xs ++ [s2 / 7 % m]) (some (I d)) (some (I s2)) (by simp; omega) fun x hx => hd x (List.mem_cons_of_mem _ hx)
    refine ⟨(s2 / 7 % m) :: ys, z', w', ?_, by simp [hy]⟩
    have ea : xs ++ (s2 / 7 % m) :: ys = (xs ++ [s2 / 7 % m]) ++ ys := by simp
    rw [ea, ← e]
    have hm' : 0 < m := by omega
    have hlt : xs.length < 16777216 := by omega
    have big : (10 : Nat) ^ 30 < 2 ^ 200 := by decide
    have sm : ∀ x : Int, 0 ≤ x → x < 10 ^ 30 → Sm x := fun x h h2 => by show x.natAbs < _; omega
    have m1 : mulOk 7 d = true := mul_ok (sm _ (by decide) (by decide)) (sm _ d0 (by omega))
    have m2 : mulOk (number + 7 * d + 1) 48271 = true := mul_ok (sm _ (by omega) (by omega)) (sm _ (by decide) (by decide))
    have hs1 : 0 ≤ s1 ∧ s1 < 2147483647 := ⟨Int.emod_nonneg _ (by decide), Int.emod_lt_of_pos _ (by decide)⟩
    have m3 : mulOk s1 69621 = true := mul_ok (sm _ (by omega) (by omega)) (sm _ (by decide) (by decide))
    have m4 : mulOk 31 d = true := mul_ok (sm _ (by decide) (by decide)) (sm _ d0 (by omega))
    have dv : divOk 7 = true := by decide
    refine for_step (x := I d) ?_
    simp only [s1] at m3
    simp [stepFor, lstAt, bn, b_int, bop, hm', most, hlt, m1, m2, m3, m4, dv, s1, s2]
theorem s_draws (n : Nat) (seed : Int) : ∃ ys : List Int, ys.length = 6 ∧ run PG (n + 1) f__law_draws [I seed, I 1000003, I 6] = .ok (.lst false (ins ys)) [] := by
  rw [call_run (fd := d__law_draws) rfl rfl rfl]
  generalize hnum : (if seed < 0 then 0 - 1 - seed else seed) = number
  have h0 : 0 ≤ number := by rw [← hnum]; split <;> omega
  have hr : rangeL 0 6 = ins [0, 1, 2, 3, 4, 5] := by rfl
  have hok : rngOk 0 6 = true := by decide
  have p18 : bop .pow (.int 10) (.int 18) = some (.int (10 ^ 18)) := by rfl
  have e3 : exec (run PG n) (.ite (.v (.cmp .lt (.var 3) (.cst (.int 0)))) (.cons (.set 3 (.bin .sub (.bin .sub (.cst (.int 0)) (.cst (.int 1))) (.var 3))) .nil) .nil) [some (I seed), some (I 1000003), some (I 6), some (I seed), none, none, none] = .ok .next [some (I seed), some (I 1000003), some (I 6), some (I number), none, none, none] := by
    rw [← hnum]
    by_cases h : seed < 0 <;> simp [cop, ltOp, truth, h]
  have e1 : exec (run PG n) (.set 3 (.var 0)) [some (I seed), some (I 1000003), some (I 6), none, none, none, none] = .ok .next [some (I seed), some (I 1000003), some (I 6), some (I seed), none, none, none] := by simp
  have e4 : exec (run PG n) (.seto 4 (.lst .nil)) [some (I seed), some (I 1000003), some (I 6), some (I number), none, none, none] = .ok .next [some (I seed), some (I 1000003), some (I 6), some (I number), some (.lst true (ins [])), none, none] := by simp
  by_cases hb : number < 10 ^ 18
  · obtain ⟨ys, z', w', e, hy⟩ := l_draw2 (run PG n) (some (I seed)) (some (I 6)) 1000003 (by decide) number h0 hb [0, 1, 2, 3, 4, 5] [] none none (by decide) (by decide)
    refine ⟨ys, hy, callB_ret (os := []) ((ex_next e1).trans ((ex_next e3).trans ((ex_next e4).trans ((ex_next (s1 := [some (I seed), some (I 1000003), some (I 6), some (I number), some (.lst true (ins [])), none, none]) ?_).trans ((ex_next (Eq.trans ?_ e)).trans (ex_ret (s1 := [some (I seed), some (I 1000003), some (I 6), some (I number), some (.lst false (ins ys)), z', w']) ?_)))))) rfl⟩
    · simp [p18, cop, ltOp, truth, hb]
      intro h
      exact absurd h (by omega)
    · simp [x_for, itemsR, hok, hr]
    · simp
  · obtain ⟨n', ys, z', e, hy⟩ := l_draw1 (run PG n) (some (I seed)) none (some (I 6)) 1000003 (by decide) (by decide) [0, 1, 2, 3, 4, 5] number [] none none (by decide)
    refine ⟨ys, hy, callB_ret (os := []) ((ex_next e1).trans ((ex_next e3).trans ((ex_next e4).trans (ex_ret (s1 := [some (I seed), some (I 1000003), some (I 6), some (I n'), some (.lst false (ins ys)), z', none]) ?_)))) rfl⟩
    have eb : execs (run PG n) (.cons (.forr (.nm 5) (.rng1 (.var 2)) (.cons (.ex (.app 4 (.bin .mod (.b .int (.cons (.var 3) .nil)) (.var 1)))) (.cons (.set 3 (.bin .fdiv (.var 3) (.var 1))) .nil))) (.cons (.ret (.var 4)) .nil)) [some (I seed), some (I 1000003), some (I 6), some (I number), some (.lst true (ins [])), none, none] = .ok (.ret (.lst false (ins ys))) [some (I seed), some (I 1000003), some (I 6), some (I n'), some (.lst false (ins ys)), z', none] := by
      refine (ex_next (Eq.trans ?_ e)).trans (ex_ret ?_)
      · simp [x_for, itemsR, hok, hr]
      · simp
    rw [x_if]
    have hc : evT (run PG n) (.v (.cmp .ge (.var 3) (.bin .pow (.cst (.int 10)) (.cst (.int 18))))) [some (I seed), some (I 1000003), some (I 6), some (I number), some (.lst true (ins [])), none, none] = .ok true [some (I seed), some (I 1000003), some (I 6), some (I number), some (.lst true (ins [])), none, none] := by
      simp [p18, cop, ltOp, truth, hb]
      omega
    rw [hc, bind_ok, if_pos rfl]
    exact eb
/-! ### the box made -/
theorem ins_app (a b : List Int) : ins (a ++ b) = ins a ++ ins b := by simp
theorem l_box (n : Nat) (sc : D) : ∀ (ds : List Int) (xs : List Int) (z : Option D), xs.length + 6 * ds.length ≤ 1000 →
    ∃ ys z', forLoop (stepFor (run PG (n + 1)) (.nm 2) (.cons (.set 1 (.bin .add (.var 1) (.call f__law_draws (.cons (.var 2) (.cons (.cst (.int 1000003)) (.cons (.cst (.int 6)) .nil)))))) .nil)) (ins ds) [some sc, some (.lst false (ins xs)), z] = .ok .next [some sc, some (.lst false (ins (xs ++ ys))), z'] ∧ ys.length = 6 * ds.length
  | [], xs, z, _ => ⟨[], z, by rw [List.append_nil]; exact ⟨rfl, rfl⟩⟩
  | d :: ds, xs, z, hl => by
    simp only [List.length_cons] at hl
    obtain ⟨us, hu, e1⟩ := s_draws n d
    obtain ⟨ys, z', e, hy⟩ := l_box n sc ds (xs ++ us) (some (I d)) (by simp; omega)
    refine ⟨us ++ ys, z', ?_, by simp [hu, hy]; omega⟩
    rw [← List.append_assoc, ← e]
    have hm : xs.length + us.length ≤ 16777216 := by omega
    refine for_step (x := I d) ?_
    simp [stepFor, e1, bop, most, hm]
theorem s_box (n : Nat) (ns : List Int) (hl : ns.length ≤ 63) : ∃ row : List Int, row ≠ [] ∧ row.length ≤ 1000 ∧ run PG (n + 2) f__law_box [.scr ns] = .ok (bx row 0) [] := by
  rw [call_run (fd := d__law_box) rfl rfl rfl]
  obtain ⟨ys, z', e, hy⟩ := l_box n (.scr ns) ns [] none (by simp; omega)
  have e1 : exec (run PG (n + 1)) (.set 1 (.lst .nil)) [some (.scr ns), none, none] = .ok .next [some (.scr ns), some (.lst false (ins [])), none] := by simp
  have e2 : exec (run PG (n + 1)) (.forr (.nm 2) (.var 0) (.cons (.set 1 (.bin .add (.var 1) (.call f__law_draws (.cons (.var 2) (.cons (.cst (.int 1000003)) (.cons (.cst (.int 6)) .nil)))))) .nil)) [some (.scr ns), some (.lst false (ins [])), none] = .ok .next [some (.scr ns), some (.lst false (ins ys)), z'] := by
    refine Eq.trans ?_ e
    simp [x_for, itemsR, itemsOf]
  have e4 : ∀ row : List Int, exec (run PG (n + 1)) (.reto (.dsp [(.str "row"), (.str "at")] (.cons (.var 1) (.cons (.cst (.int 0)) .nil)))) [some (.scr ns), some (.lst false (ins row)), z'] = .ok (.ret (bx row 0)) [some (.scr ns), some (.lst false (ins row)), z'] := by
    intro row
    simp [zipD]
    rfl
  by_cases h : ys = []
  · subst h
    refine ⟨[11, 5, 2, 7, 31, 101, 997], by decide, by decide, callB_ret (os := []) ((ex_next e1).trans ((ex_next e2).trans ((ex_next (s1 := [some (.scr ns), some (.lst false (ins [11, 5, 2, 7, 31, 101, 997])), z']) ?_).trans (ex_ret (e4 _))))) rfl⟩
    simp [cop, deq, eqOk, plain, truth, bn, b_len]
  · refine ⟨ys, h, by omega, callB_ret (os := []) ((ex_next e1).trans ((ex_next e2).trans ((ex_next (s1 := [some (.scr ns), some (.lst false (ins ys)), z']) ?_).trans (ex_ret (e4 _))))) rfl⟩
    simp [cop, deq, eqOk, plain, truth, bn, b_len, h]
/-! ### some: all of them, in another order -/
theorem perm_erase {α : Type} : ∀ (l : List α) (i : Nat) (x : α), l[i]? = some x → (x :: l.eraseIdx i).Perm l
  | [], i, x, h => by simp at h
  | a :: l, 0, x, h => by simp at h; subst h; exact List.Perm.refl _
  | a :: l, i + 1, x, h => by
    have := perm_erase l i x (by simpa using h)
    simp only [List.eraseIdx_cons_succ]
    exact (List.Perm.swap a x _).trans (List.Perm.cons a this)
theorem map_erase {α β : Type} (f : α → β) : ∀ (l : List α) (i : Nat), (l.map f).eraseIdx i = (l.eraseIdx i).map f
  | [], _ => rfl
  | _ :: _, 0 => rfl
  | a :: l, i + 1 => by simp only [List.map_cons, List.eraseIdx_cons_succ]; rw [map_erase f l i]
theorem l_some (n : Nat) {row : List Int} (hr : row ≠ []) (hl : row.length ≤ 1000) (V M : Option D) : ∀ (ds : List D) (left : List Fr) (k : Int) (z : Option D), ds.length = left.length → left.length ≤ 1000 → 0 ≤ k → k + left.length < 100000 →
    ∃ ys z', compLoop [4] (stepLc (run PG (n + 1)) (.nm 4) .nil (.popAt 3 (.call f__law_next (.cons (.mref 0) (.cons (.b .len (.cons (.var 3) .nil)) .nil))))) ds [some (bx row k), V, M, some (.lst true (fds left)), z] = .ok (fds ys) [some (bx row (k + left.length)), V, M, some (.lst true []), z'] ∧ ys.Perm left
  | [], left, k, z, h, _, _, _ => by
    have : left = [] := by simpa using h.symm
    subst this
    exact ⟨[], z, by simp [compLoop], List.Perm.refl _⟩
  | d :: ds, left, k, z, h, hn, h0, hk => by
    simp only [List.length_cons] at h
    obtain ⟨v, v0, v1, e1⟩ := s_next n (row := row) (k := k) (m := left.length) (by omega) h0 (by omega) hr hl
    have hi : ixOf left.length v = v.toNat := by unfold ixOf; rw [if_neg (by omega)]
    have hv : v.toNat < left.length := by omega
    have hg : left[v.toNat]? = some left[v.toNat] := List.getElem?_eq_getElem hv
    have he : (left.eraseIdx v.toNat).length = left.length - 1 := by rw [List.length_eraseIdx, if_pos hv]
    obtain ⟨ys, z', e, hp⟩ := l_some n hr hl V M ds (left.eraseIdx v.toNat) (k + 1) (some d) (by omega) (by omega) (by omega) (by omega)
    refine ⟨left[v.toNat] :: ys, z', ?_, (hp.cons _).trans (perm_erase left _ _ hg)⟩
    have hmm : left.length ≤ 16777216 := by omega
    have ek : k + 1 + ((left.eraseIdx v.toNat).length : Int) = k + left.length := by omega
    rw [ek] at e
    have hga : (fds left)[v.toNat]? = some (fd left[v.toNat]) := by simp [fds, hg]
    have hea : (fds left).eraseIdx v.toNat = fds (left.eraseIdx v.toNat) := map_erase _ _ _
    refine comp_step (o := [fd left[v.toNat]]) ?_ e
    simp only [fds] at hga hea ⊢
    simp [stepLc, wipeE, lstAt, bn, b_len, e1, hi, hmm, hga, hea, most]
theorem s_some (n : Nat) {row : List Int} (hr : row ≠ []) (hl : row.length ≤ 1000) {k : Int} {vs : List Fr} (h0 : 0 ≤ k) (hn : vs.length ≤ 1000) (hk : k + vs.length < 100000) :
    ∃ ys, ys.Perm vs ∧ run PG (n + 2) f__law_some [bx row k, .lst false (fds vs), I vs.length] = .ok (.lst false (fds ys)) [bx row (k + vs.length)] := by
  rw [call_run (fd := d__law_some) rfl rfl rfl]
  obtain ⟨ys, z', e, hp⟩ := l_some n hr hl (some (.lst false (fds vs))) (some (I vs.length)) (rangeL 0 vs.length) vs k none (by simp [rangeL]) hn h0 hk
  have e1 : exec (run PG (n + 1)) (.seto 3 (.b .list (.cons (.var 1) .nil))) [some (bx row k), some (.lst false (fds vs)), some (I vs.length), none, none] = .ok .next [some (bx row k), some (.lst false (fds vs)), some (I vs.length), some (.lst true (fds vs)), none] := by
    simp [bn, b_list]
  have hok : rngOk 0 vs.length = true := by unfold rngOk; simp; omega
  have hm : ys.length ≤ 16777216 := by rw [hp.length_eq]; omega
  have hmn : minI vs.length vs.length = (vs.length : Int) := by unfold minI; simp
  refine ⟨ys, hp, callB_ret (s := [some (bx row (k + vs.length)), some (.lst false (fds vs)), some (I vs.length), some (.lst true []), none]) ((ex_next e1).trans (ex_ret ?_)) rfl⟩
  have i1 : itemsR (.rng1 (.b .min2 (.cons (.var 2) (.cons (.b .len (.cons (.var 1) .nil)) .nil)))) (ev (run PG (n + 1)) (.rng1 (.b .min2 (.cons (.var 2) (.cons (.b .len (.cons (.var 1) .nil)) .nil))))) [some (bx row k), some (.lst false (fds vs)), some (I vs.length), some (.lst true (fds vs)), none] = .ok (rangeL 0 vs.length) [some (bx row k), some (.lst false (fds vs)), some (I vs.length), some (.lst true (fds vs)), none] :=
    items_rng rfl (by simp [bn, b_min2, b_len, hmn]) hok
  rw [x_ret, x_lc, i1, bind_ok, e, bind_ok, if_pos (by simpa [most] using hm)]
  simp [back, back1, wipeE]
end OM


set_option autoImplicit false
set_option linter.all false
set_option maxRecDepth 10000
namespace OM
open PySem
/-! ### texts -/
theorem lit_minus : ("-" : Str) = strOf [45] := by rfl
theorem lit_zero : ("0" : Str) = strOf [48] := by rfl
theorem lit_mz : ("-0" : Str) = strOf [45, 48] := by rfl
theorem lit_slash : ("/" : Str) = strOf [47] := by rfl
theorem lit_empty : ("" : Str) = strOf [] := by rfl
theorem lit_figs : ("0123456789" : Str) = strOf [48, 49, 50, 51, 52, 53, 54, 55, 56, 57] := by rfl
/-- no sign of figures is lacking -/
theorem l_figs (Γ : FT) (a b : Option D) : ∀ (l : List Nat), l.all isFig = true → ∀ (z : Option D), ∃ z', compLoop [2] (stepLc Γ (.nm 2) (.cons (.v (.cmp .nin (.var 2) (.glob 0 (.str "0123456789")))) .nil) (.var 2)) (l.map fun c => .str (strOf [c])) [a, b, z] = .ok [] [a, b, z']
  | [], _, z => ⟨z, rfl⟩
  | c :: l, h, z => by
    simp only [List.all_cons, Bool.and_eq_true] at h
    obtain ⟨z', e⟩ := l_figs Γ a b l h.2 (some (.str (strOf [c])))
    refine ⟨z', comp_step (o := []) ?_ e⟩
    have hc : c ∈ [48, 49, 50, 51, 52, 53, 54, 55, 56, 57] := by
      have := h.1
      unfold isFig at this
      simp at this ⊢
      omega
    have hop : cop .nin (.str (strOf [c])) (.str "0123456789") = some false := by
      rw [lit_figs]
      have hd : decide (c ∈ cps (strOf [48, 49, 50, 51, 52, 53, 54, 55, 56, 57])) = true := decide_eq_true hc
      show (some (decide (c ∈ cps (strOf [48, 49, 50, 51, 52, 53, 54, 55, 56, 57])))).map (!·) = some false
      rw [hd]
      rfl
    simp [stepLc, wipeE, hop, truth]
theorem fig_word (n : Nat) (w l : List Nat) (i : Int) (hw : (w = l ∧ ∀ c r, l = c :: r → c ≠ 45) ∨ w = 45 :: l) (hne : l ≠ []) (hlen : l.length ≤ 18) (hf : l.all isFig = true) (hz : 1 < l.length → l.head? ≠ some 48) (hmz : w ≠ [45, 48]) (hi : intOf w = some i) :
    run PG (n + 1) f__figures [.str (strOf w)] = .ok (I i) [] := by
  rw [call_run (fd := d__figures) rfl rfl rfl]
  have hwl : w.length ≤ 19 := by rcases hw with ⟨e, _⟩ | e <;> simp [e] <;> omega
  have e1 : exec (run PG n) (.set 1 (.ite (.v (.cmp .eq (.slH (.var 0) (.cst (.int 1))) (.cst (.str "-")))) (.slL (.var 0) (.cst (.int 1))) (.var 0))) [some (.str (strOf w)), none, none] = .ok .next [some (.str (strOf w)), some (.str (strOf l)), none] := by
    have m1 : w.length ≤ 16777216 := by omega
    rcases hw with ⟨e, hc⟩ | e
    · subst e
      cases w with
      | nil => exact absurd rfl hne
      | cons c r =>
        have := hc c r rfl
        have ht : (cut (c :: r) none (some 1)) = [c] := by simp [cut, sIx]
        have hq : ¬ strOf [c] = strOf [45] := by rw [strOf_inj]; simpa using this
        simp [slOp, cps_strOf', most, m1, ht, cop, eqOk, plain, deq, lit_minus, hq, truth]
        simp at m1
        simp [m1, ht, cop, eqOk, plain, deq, hq, truth]
    · subst e
      have ht : (cut (45 :: l) none (some 1)) = [45] := by simp [cut, sIx]
      have hs : (cut (45 :: l) (some 1) none) = l := by simp [cut, sIx]
      simp at m1
      simp [slOp, cps_strOf', most, m1, ht, hs, cop, eqOk, plain, deq, lit_minus, truth]
  obtain ⟨z', e2⟩ := l_figs (run PG n) (some (.str (strOf w))) (some (.str (strOf l))) l hf none
  have hl0 : 0 < l.length := List.length_pos_iff.mpr hne
  have m2 : l.length ≤ 16777216 := by omega
  have blen : bn .len [.str (strOf l)] = some (.int l.length) := by simp [bn, b_len, cps_strOf', most, m2]
  have s2 : exec (run PG n) (.ite (.or (.not (.v (.cmp2 .le .le (.cst (.int 1)) (.b .len (.cons (.var 1) .nil)) (.cst (.int 18))))) (.v (.lc (.var 2) (.nm 2) (.var 1) (.cons (.v (.cmp .nin (.var 2) (.glob 0 (.str "0123456789")))) .nil) [2]))) (.cons .bad .nil) .nil) [some (.str (strOf w)), some (.str (strOf l)), none] = .ok .next [some (.str (strOf w)), some (.str (strOf l)), none] := by
    have c1 : cop .le (.int 1) (.int l.length) = some true := by simp [cop, ltOp]; omega
    have c2 : cop .le (.int l.length) (.int 18) = some true := by simp [cop, ltOp]; omega
    have hlc : ev (run PG n) (.lc (.var 2) (.nm 2) (.var 1) (.cons (.v (.cmp .nin (.var 2) (.glob 0 (.str "0123456789")))) .nil) [2]) [some (.str (strOf w)), some (.str (strOf l)), none] = .ok (.lst true []) [some (.str (strOf w)), some (.str (strOf l)), none] := by
      rw [x_lc]
      have it : itemsR (.var 1) (ev (run PG n) (.var 1)) [some (.str (strOf w)), some (.str (strOf l)), none] = .ok (l.map fun c => .str (strOf [c])) [some (.str (strOf w)), some (.str (strOf l)), none] := by
        simp [itemsR, itemsOf, cps_strOf']
      rw [it, bind_ok, e2, bind_ok]
      simp [back, back1, wipeE]
    simp [blen, c1, c2, hlc, truth]
  have s3 : exec (run PG n) (.ite (.or (.and (.v (.cmp .gt (.b .len (.cons (.var 1) .nil)) (.cst (.int 1)))) (.v (.cmp .eq (.ix (.var 1) (.cst (.int 0))) (.cst (.str "0"))))) (.v (.cmp .eq (.var 0) (.cst (.str "-0"))))) (.cons .bad .nil) .nil) [some (.str (strOf w)), some (.str (strOf l)), none] = .ok .next [some (.str (strOf w)), some (.str (strOf l)), none] := by
    have q : cop .eq (.str (strOf w)) (.str "-0") = some false := by
      have : ¬ strOf w = strOf [45, 48] := by rw [strOf_inj]; exact hmz
      rw [lit_mz]
      simp [cop, eqOk, plain, deq, this]
    by_cases h1 : 1 < l.length
    · have h2 := hz h1
      cases l with
      | nil => exact absurd rfl hne
      | cons c r =>
        have hc : ¬ c = 48 := by simpa using h2
        have g : cop .gt (.int (c :: r).length) (.int 1) = some true := by simp [cop, ltOp]; simp at h1; omega
        have ix : ixOp (.str (strOf (c :: r))) (.int 0) = some (.str (strOf [c])) := by
          exact (if_pos (show (cps (strOf (c :: r))).length ≤ most from m2)).trans rfl
        have q2 : cop .eq (.str (strOf [c])) (.str "0") = some false := by
          have : ¬ strOf [c] = strOf [48] := by rw [strOf_inj]; simpa using hc
          rw [lit_zero]
          simp [cop, eqOk, plain, deq, this]
        simp [blen, g, ix, q, q2, truth]
        try (simp at g blen; simp [blen, g, ix, q, q2, truth])
    · have g : cop .gt (.int l.length) (.int 1) = some false := by simp [cop, ltOp]; omega
      simp [blen, g, q, truth]
  have s4 : exec (run PG n) (.ret (.b .int (.cons (.var 0) .nil))) [some (.str (strOf w)), some (.str (strOf l)), none] = .ok (.ret (I i)) [some (.str (strOf w)), some (.str (strOf l)), none] := by
    simp [bn, b_int, cps_strOf', hi]
  exact callB_ret (os := []) ((ex_next e1).trans ((ex_next s2).trans ((ex_next s3).trans (ex_ret s4)))) rfl
/-- an int's text -/
def txt (i : Int) : List Nat := cps (intText i)
theorem txt_of (i : Int) : intText i = strOf (txt i) := (strOf_cps' _).symm
theorem fig_text (n : Nat) {i : Int} (h : i.natAbs < 10 ^ 18) : run PG (n + 1) f__figures [.str (strOf (txt i))] = .ok (I i) [] ∧ 47 ∉ txt i ∧ (txt i).length ≤ 19 := by
  obtain ⟨d1, d2, d3, d4⟩ := digs_all i.natAbs
  have hl := digs_len (k := 18) (by decide) h
  have no47 : 47 ∉ digs i.natAbs := fun hm => by
    have := List.all_eq_true.mp d2 47 hm
    simp [isFig] at this
  have hz : 1 < (digs i.natAbs).length → (digs i.natAbs).head? ≠ some 48 := fun h1 => by
    rcases Nat.eq_zero_or_pos i.natAbs with z | z
    · rw [z, digs_lt (by decide)] at h1; simp at h1
    · exact d4 z
  have hcase : i = (i.natAbs : Int) ∨ (i = -(i.natAbs : Int) ∧ 1 ≤ i.natAbs) := by omega
  rcases hcase with e | ⟨e, z⟩
  · have et : txt i = digs i.natAbs := by
      unfold txt; rw [e, intText_nat]; simp; rfl
    rw [et]
    refine ⟨fig_word n _ (digs i.natAbs) i (.inl ⟨rfl, fun c r hc => ?_⟩) d1 hl d2 hz ?_ ?_, no47, by omega⟩
    · have := List.all_eq_true.mp d2 c (by rw [hc]; exact List.mem_cons_self)
      intro e2; subst e2; simp [isFig] at this
    · intro e2; rw [e2] at d2; simp [isFig] at d2
    · rw [intOf_digs (by omega), ← e]
  · have et : txt i = 45 :: digs i.natAbs := by
      unfold txt
      have : intText i = intText (-(i.natAbs : Int)) := by rw [← e]
      rw [this, intText_neg _ z]
      rfl
    rw [et]
    refine ⟨fig_word n _ (digs i.natAbs) i (.inr rfl) d1 hl d2 hz ?_ ?_, by simp [no47], by simp; omega⟩
    · intro e2
      have e3 : digs i.natAbs = [48] := by simpa using e2
      have := d4 z
      rw [e3] at this; simp at this
    · rw [intOf_neg (by omega), ← e]
theorem b_str_ok {i : Int} (h : Sm i) : bn .str [.int i] = some (.str (strOf (txt i))) := by
  show (if i.natAbs.log2 < 1900 then some (D.str (intText i)) else none) = _
  rw [if_pos (by have := log_sm h; omega), txt_of]
def told (x : Fr) : List Nat := if x.2 = 1 then txt x.1 else txt x.1 ++ 47 :: txt x.2
theorem s_told (n : Nat) {x : Fr} (h1 : x.1.natAbs < 10 ^ 18) (h2 : x.2.natAbs < 10 ^ 18) : run PG (n + 1) f_told_part [fd x] = .ok (.str (strOf (told x))) [] := by
  have c : (10 : Nat) ^ 18 < 2 ^ 200 := by decide
  have b1 := b_str_ok (i := x.1) (show x.1.natAbs < 2 ^ 200 by omega)
  have b2 := b_str_ok (i := x.2) (show x.2.natAbs < 2 ^ 200 by omega)
  have l1 := (fig_text 0 h1).2.2
  have l2 := (fig_text 0 h2).2.2
  rw [call_run (fd := d_told_part) rfl rfl rfl]
  have ln : ∀ l : List Nat, (strOf l).length = l.length := fun l => by simp [strOf, Str.length]
  by_cases h : x.2 = 1
  · have e : told x = txt x.1 := by unfold told; rw [if_pos h]
    rw [e]
    simp [callB, d_told_part, cop, eqOk, plain, deq, h, truth, b1]
  · have e : told x = txt x.1 ++ 47 :: txt x.2 := by unfold told; rw [if_neg h]
    have a1 : bop .add (.str (strOf (txt x.1))) (.str "/") = some (.str (strOf (txt x.1 ++ [47]))) := by
      rw [lit_slash]
      show (if (strOf (txt x.1)).length + (strOf [47]).length ≤ most then some (D.str (strOf (txt x.1) ++ strOf [47])) else none) = _
      rw [if_pos (by rw [ln, ln]; show _ ≤ 16777216; simp; omega), strOf_app]
    have a2 : bop .add (.str (strOf (txt x.1 ++ [47]))) (.str (strOf (txt x.2))) = some (.str (strOf (txt x.1 ++ 47 :: txt x.2))) := by
      show (if (strOf (txt x.1 ++ [47])).length + (strOf (txt x.2)).length ≤ most then some (D.str (strOf (txt x.1 ++ [47]) ++ strOf (txt x.2))) else none) = _
      rw [if_pos (by rw [ln, ln]; show _ ≤ 16777216; simp; omega), strOf_app]
      simp
    rw [e]
    simp [callB, d_told_part, cop, eqOk, plain, deq, h, truth, b1, b2, a1, a2]
theorem s_read (n : Nat) {x : Fr} (ok : Ok x) (h1 : x.1.natAbs < 10 ^ 18) (h2 : x.2.natAbs < 10 ^ 18) : run PG (n + 3) f_read_part [.str (strOf (told x))] = .ok (fd x) [] := by
  obtain ⟨f1, n1, l1⟩ := fig_text (n + 1) h1
  obtain ⟨f2, n2, l2⟩ := fig_text (n + 1) h2
  rw [call_run (fd := d_read_part) rfl rfl rfl]
  have nd : ¬ strOf [47] = strOf [] := by rw [strOf_inj]; decide
  by_cases h : x.2 = 1
  · have e : told x = txt x.1 := by unfold told; rw [if_pos h]
    rw [e]
    have bp : bn .partition [.str (strOf (txt x.1)), .str "/"] = some (.tup [.str (strOf (txt x.1)), .str (strOf []), .str (strOf [])]) := by
      rw [lit_slash]
      show (if _ then (match par [47] [] (txt x.1) with
        | some (a, b) => some (D.tup [.str (strOf a), .str (strOf [47]), .str (strOf b)])
        | none => some (.tup [.str (strOf (txt x.1)), .str (strOf []), .str (strOf [])])) else none) = _
      rw [if_pos ⟨by rw [cps_strOf']; decide, by rw [cps_strOf']; show _ ≤ 16777216; omega⟩, par_not _ _ n1]
    have q : cop .eq (.str (strOf [])) (.str "") = some true := by rw [lit_empty]; simp [cop, eqOk, plain, deq]
    have ex : (1 : Int) = x.2 := h.symm
    simp [callB, d_read_part, mOk, bp, f1, q, truth, h]
  · have e : told x = txt x.1 ++ 47 :: txt x.2 := by unfold told; rw [if_neg h]
    rw [e]
    have bp : bn .partition [.str (strOf (txt x.1 ++ 47 :: txt x.2)), .str "/"] = some (.tup [.str (strOf (txt x.1)), .str (strOf [47]), .str (strOf (txt x.2))]) := by
      rw [lit_slash]
      show (if _ then (match par [47] [] (txt x.1 ++ 47 :: txt x.2) with
        | some (a, b) => some (D.tup [.str (strOf a), .str (strOf [47]), .str (strOf b)])
        | none => some (.tup [.str (strOf (txt x.1 ++ 47 :: txt x.2)), .str (strOf []), .str (strOf [])])) else none) = _
      rw [if_pos ⟨by rw [cps_strOf']; decide, by rw [cps_strOf']; show _ ≤ 16777216; simp; omega⟩, par_at _ _ _ n1]
      simp
    have q : cop .eq (.str (strOf [47])) (.str "") = some false := by rw [lit_empty]; simp [cop, eqOk, plain, deq, nd]
    have hp := ok.pos
    have hb : x.2 < Bd := by unfold Bd; have : (10 : Nat) ^ 18 < 2 ^ 99 := by decide
                             omega
    have hpt := s_part' n x.1 x.2 hp hb
    rw [red_self ok] at hpt
    have c1 : cop .lt (.int x.2) (.int 2) = some false := by simp [cop, ltOp]; omega
    have c2 : cop .ne (.tup [.int x.1, .int x.2]) (.tup [.int x.1, .int x.2]) = some false := by simp [cop, eqOk, plain, plainL, deq, deqL]
    simp [callB, d_read_part, mOk, bp, f1, f2, q, truth, c1, hpt, c2]
end OM


set_option autoImplicit false
set_option linter.all false
set_option maxRecDepth 10000
set_option maxHeartbeats 1000000
namespace OM
open PySem
theorem seq {Γ : FT} {a : S} {r : Ss} {s s1 : Env} {P : Env → Prop} (h : exec Γ a s = .ok .next s1) (h2 : ∃ s2, execs Γ r s1 = .ok .next s2 ∧ P s2) : ∃ s2, execs Γ (.cons a r) s = .ok .next s2 ∧ P s2 := by
  obtain ⟨s2, e, p⟩ := h2
  exact ⟨s2, (ex_next h).trans e, p⟩
theorem seq_nil {Γ : FT} {s : Env} {P : Env → Prop} (h : P s) : ∃ s2, execs Γ .nil s = .ok .next s2 ∧ P s2 := ⟨s, rfl, h⟩
theorem bd_of {a : Int} (h : a < 100000000) : a < Bd := Int.lt_trans h (by decide)
theorem red_row {a b : Int} (h1 : 1 ≤ b) (h2 : b ≤ 400) (h3 : a.natAbs ≤ 2000) : Row (red a b) :=
  ⟨red_ok h1, Nat.le_trans red_abs h3, Int.le_trans (red_le h1) h2⟩
/-- the rows drawn -/
theorem l_rows {row : List Int} (hr : row ≠ []) (hl : row.length ≤ 1000) (s0 s2 s3 s4 s5 s6 s7 s8 s9 s10 s12 s13 : Option D) : ∀ (ds : List D) (k : Int) (z : Option D), 0 ≤ k → k + 2 * ds.length < 100000 →
    ∃ ys z', compLoop [11] (stepLc (run PG 13) (.nm 11) .nil (.call f_part (.cons (.bin .sub (.call f__law_next (.cons (.mref 1) (.cons (.cst (.int 4001)) .nil))) (.cst (.int 2000))) (.cons (.bin .add (.cst (.int 1)) (.call f__law_next (.cons (.mref 1) (.cons (.cst (.int 400)) .nil)))) .nil)))) ds
      [s0, some (bx row k), s2, s3, s4, s5, s6, s7, s8, s9, s10, z, s12, s13] = .ok (fds ys) [s0, some (bx row (k + 2 * ds.length)), s2, s3, s4, s5, s6, s7, s8, s9, s10, z', s12, s13] ∧ ys.length = ds.length ∧ ∀ y ∈ ys, Row y
  | [], k, z, _, _ => ⟨[], z, by simp [compLoop], rfl, fun _ h => nomatch h⟩
  | d :: ds, k, z, h0, hk => by
    simp only [List.length_cons] at hk
    obtain ⟨v, v0, v1, e1⟩ := s_next 12 (row := row) (k := k) (m := 4001) (by decide) h0 (by omega) hr hl
    obtain ⟨u, u0, u1, e2⟩ := s_next 12 (row := row) (k := k + 1) (m := 400) (by decide) (by omega) (by omega) hr hl
    obtain ⟨ys, z', e, hy, hw⟩ := l_rows hr hl s0 s2 s3 s4 s5 s6 s7 s8 s9 s10 s12 s13 ds (k + 1 + 1) (some d) (by omega) (by omega)
    have e3 : run PG 13 f_part [I (v - 2000), I (1 + u)] = _ := s_part' 11 (v - 2000) (1 + u) (by omega) (bd_of (by omega))
    refine ⟨red (v - 2000) (1 + u) :: ys, z', ?_, by simp [hy], fun y hyy => ?_⟩
    · have ek : k + 1 + 1 + 2 * (ds.length : Int) = k + 2 * ((d :: ds).length : Int) := by simp; omega
      rw [ek] at e
      refine comp_step (o := [fd (red (v - 2000) (1 + u))]) ?_ e
      simp [stepLc, wipeE, e1, e2, e3]
    · rcases List.mem_cons.mp hyy with z | z
      · rw [z]; exact red_row (by omega) (by omega) (by omega)
      · exact hw y z
/-- all are parts -/
theorem l_isp (s0 s1 s2 s3 s4 s5 s6 s7 s8 s9 s10 s11 s12 : Option D) : ∀ (l : List Fr) (z : Option D), (∀ y ∈ l, Row y) →
    ∃ z', compLoop [13] (stepLc (run PG 13) (.nm 13) .nil (.cmp .isn (.call f_is_part (.cons (.var 13) .nil)) (.cst (.bl true)))) (fds l) [s0, s1, s2, s3, s4, s5, s6, s7, s8, s9, s10, s11, s12, z] = .ok (l.map fun _ => .bl false) [s0, s1, s2, s3, s4, s5, s6, s7, s8, s9, s10, s11, s12, z']
  | [], z, _ => ⟨z, rfl⟩
  | y :: l, z, h => by
    have ry := h y List.mem_cons_self
    obtain ⟨z', e⟩ := l_isp s0 s1 s2 s3 s4 s5 s6 s7 s8 s9 s10 s11 s12 l (some (fd y)) fun a ha => h a (List.mem_cons_of_mem _ ha)
    have e1 : run PG 13 f_is_part [pr y.1 y.2] = _ := s_ispart 11 ry.ok.pos (bd_of (by have := ry.d; omega))
    have hg : G y.1 y.2 = 1 := by unfold G; rw [ry.ok.cop]; rfl
    rw [hg] at e1
    refine ⟨z', comp_step (o := [.bl false]) ?_ e⟩
    simp [stepLc, wipeE, e1, cop]
/-- all are read back -/
theorem l_read (s0 s1 s2 s3 s4 s5 s6 s7 s8 s9 s10 s11 s12 : Option D) : ∀ (l : List Fr) (z : Option D), (∀ y ∈ l, Row y) →
    ∃ z', compLoop [13] (stepLc (run PG 13) (.nm 13) .nil (.cmp .ne (.call f_read_part (.cons (.call f_told_part (.cons (.var 13) .nil)) .nil)) (.var 13))) (fds l) [s0, s1, s2, s3, s4, s5, s6, s7, s8, s9, s10, s11, s12, z] = .ok (l.map fun _ => .bl false) [s0, s1, s2, s3, s4, s5, s6, s7, s8, s9, s10, s11, s12, z']
  | [], z, _ => ⟨z, rfl⟩
  | y :: l, z, h => by
    have ry := h y List.mem_cons_self
    have hn := ry.n
    have hd := ry.d
    have hp := ry.ok.pos
    obtain ⟨z', e⟩ := l_read s0 s1 s2 s3 s4 s5 s6 s7 s8 s9 s10 s11 s12 l (some (fd y)) fun a ha => h a (List.mem_cons_of_mem _ ha)
    have e1 : run PG 13 f_told_part [fd y] = _ := s_told 12 (by omega) (by omega)
    have e2 : run PG 13 f_read_part [.str (strOf (told y))] = _ := s_read 10 ry.ok (by omega) (by omega)
    refine ⟨z', comp_step (o := [.bl false]) ?_ e⟩
    simp [stepLc, wipeE, e1, e2, cop, eqOk, plain, plainL, deq, deqL]
theorem any_no {l : List Fr} : bn .any [.lst false (l.map fun _ => .bl false)] = some (.bl false) := by
  have : bools? (l.map fun _ => D.bl false) = some (l.map fun _ => false) := by
    induction l with
    | nil => rfl
    | cons a l ih => simp [bools?, ih]
  show (bools? _).map _ = _
  rw [this]
  simp
theorem ne_no (a b : Int) : cop .ne (.tup [.int a, .int b]) (.tup [.int a, .int b]) = some false := by simp [cop, eqOk, plain, plainL, deq, deqL]
end OM


set_option autoImplicit false
set_option linter.all false
set_option maxRecDepth 10000
set_option maxHeartbeats 1000000
namespace OM
open PySem
section
variable {x : Fr}
theorem fl_le (ok : Ok x) : x.1 / x.2 * x.2 ≤ x.1 := Int.ediv_mul_le _ (by have := ok.pos; omega)
theorem fl_lt (ok : Ok x) : x.1 < (x.1 / x.2 + 1) * x.2 := by
  have := Int.lt_ediv_add_one_mul_self x.1 (show 0 < x.2 by have := ok.pos; omega)
  exact this
theorem ce_ge (ok : Ok x) : x.1 ≤ -(-x.1 / x.2) * x.2 := by
  have := Int.ediv_mul_le (-x.1) (show x.2 ≠ 0 by have := ok.pos; omega)
  rw [Int.neg_mul]
  omega
theorem ce_lt (ok : Ok x) : (-(-x.1 / x.2) - 1) * x.2 < x.1 := by
  have := Int.lt_ediv_add_one_mul_self (-x.1) (show 0 < x.2 by have := ok.pos; omega)
  have e : (-(-x.1 / x.2) - 1) * x.2 = -((-x.1 / x.2 + 1) * x.2) := by grind
  omega
theorem fl_ce (ok : Ok x) : (x.1 / x.2 == -(-x.1 / x.2)) = (x.2 == 1) := by
  have p := ok.pos
  rw [Bool.eq_iff_iff, beq_iff_eq, beq_iff_eq]
  constructor
  · intro h
    have h1 := fl_le ok
    have h2 := ce_ge ok
    rw [← h] at h2
    have hd : x.2 ∣ x.1 := ⟨x.1 / x.2, by rw [Int.mul_comm]; omega⟩
    have hc := ok.cop
    rw [Int.gcd_comm, Int.gcd_eq_natAbs_left hd] at hc
    omega
  · intro h
    rw [h]; simp
theorem tms_neg (ok : Ok x) : tms x (-1, 1) = (-x.1, x.2) := by
  refine uniq (tms_ok ok ⟨by decide, by decide⟩) ⟨ok.pos, by rw [Int.neg_gcd]; exact ok.cop⟩ ?_
  have c := tms_cross x (-1, 1)
  simp only [Int.mul_one, Int.mul_neg] at c ⊢
  exact c
theorem pls_int (ok : Ok x) (m : Int) : pls x (m, 1) = (x.1 + m * x.2, x.2) := by
  refine uniq (pls_ok ok ⟨Int.le_refl 1, by simp⟩) ⟨ok.pos, ?_⟩ ?_
  · have := ok.cop
    rw [Int.gcd_add_mul_right_left]
    exact this
  · have c := pls_cross x (m, 1)
    simp only [Int.mul_one] at c ⊢
    exact c
theorem ce_add (ok : Ok x) (m : Int) : -(-(x.1 + m * x.2) / x.2) = -(-x.1 / x.2) + m := by
  have p := ok.pos
  have e : -(x.1 + m * x.2) = -x.1 + (-m) * x.2 := by grind
  rw [e, Int.add_mul_ediv_right _ _ (by omega)]
  omega
end
section
variable {a b : Int} (ha : 1 ≤ a) (hb : 1 ≤ b)
include ha hb
theorem g_dvd : a / G a b * G a b = a ∧ b / G a b * G a b = b := ⟨Int.ediv_mul_cancel (Int.gcd_dvd_left ..), Int.ediv_mul_cancel (Int.gcd_dvd_right ..)⟩
theorem g_one : G (a / G a b) (b / G a b) = 1 := by
  unfold G
  rw [Int.gcd_ediv_gcd_ediv_gcd (gpos hb)]
  rfl
theorem g_mul {k : Int} (hk : 1 ≤ k) : G (a * k) (b * k) = G a b * k := by
  unfold G
  rw [Int.gcd_mul_right]
  push_cast
  rw [Int.natAbs_of_nonneg (by omega)]
theorem red_mul {k : Int} (hk : 1 ≤ k) : red (a * k) (b * k) = red a b := red_eq (mul_pos1 hb hk) hb (by grind)
theorem red_neg : red (-a) b = (-(a / G a b), b / G a b) := by
  unfold red
  rw [Int.neg_gcd, Int.neg_ediv_of_dvd (Int.gcd_dvd_left ..)]
theorem red_zero : red 0 b = (0, 1) := by
  refine uniq (red_ok hb) ⟨by decide, by decide⟩ ?_
  have := red_cross (a := 0) (b := b)
  generalize red 0 b = z at *
  have h2 : b * z.1 = b * 0 := by grind
  have := can hb h2
  simp [this]
theorem tms_inv : tms (red a b) (red b a) = (1, 1) := by
  have o1 := red_ok (a := a) hb
  have o2 := red_ok (a := b) ha
  refine uniq (tms_ok o1 o2) ⟨by decide, by decide⟩ ?_
  have c1 := red_cross (a := a) (b := b)
  have c2 := red_cross (a := b) (b := a)
  have c3 := tms_cross (red a b) (red b a)
  have p1 := o1.pos
  have p2 := o2.pos
  generalize red a b = u at *
  generalize red b a = v at *
  generalize tms u v = w at *
  exact can (mul_pos1 (mul_pos1 ha hb) (mul_pos1 p1 p2)) (by grind)
theorem red_ne : (red (-a) b).1 ≠ 0 := by
  rw [red_neg ha hb]
  have := (g_dvd ha hb).1
  intro h
  have h : -(a / G a b) = 0 := h
  have h2 : a / G a b = 0 := by omega
  rw [h2] at this
  omega
theorem ovr_inv : ovr (red a b) (red (-a) b) = (-1, 1) := by
  have o1 := red_ok (a := a) hb
  have o2 := red_ok (a := -a) hb
  have nz := red_ne ha hb
  refine uniq (ovr_ok o1 o2 nz) ⟨by decide, by decide⟩ ?_
  have c1 := red_cross (a := a) (b := b)
  have c2 := red_cross (a := -a) (b := b)
  have c3 := ovr_cross (red a b) (red (-a) b)
  have p1 := o1.pos
  have p2 := o2.pos
  generalize red a b = u at *
  generalize red (-a) b = v at *
  generalize ovr u v = w at *
  have e : v.1 * (b * u.2 * (w.1 * (1 : Int))) = v.1 * (b * u.2 * (-1 * w.2)) := by grind
  exact can (mul_pos1 hb p1) (Int.eq_of_mul_eq_mul_left nz e)
theorem g_two : ¬ G (a * 2) (b * 2) = 1 := by
  rw [g_mul ha hb (by decide)]
  have := gcd_pos a b hb
  omega
end
end OM


set_option autoImplicit false
set_option linter.all false
set_option maxRecDepth 10000
set_option maxHeartbeats 2000000
namespace OM
open PySem
def lawFor : Ss := match d_law.body with
  | .cons _ (.cons (.forr _ _ b) _) => b
  | _ => .nil
theorem ne_int (a : Int) : cop .ne (.int a) (.int a) = some false := by simp [cop, eqOk, plain, deq]
theorem truth_bl (b : Bool) : truth (.bl b) = some b := rfl
theorem ne_tup {a b c d : Int} (h1 : a = c) (h2 : b = d) : cop .ne (.tup [.int a, .int b]) (.tup [.int c, .int d]) = some false := by rw [h1, h2]; exact ne_no _ _
theorem back11 (c0 c1 c2 c3 c4 c5 c6 c7 c8 c9 c10 c11 c12 c13 d0 d1 d2 d3 d4 d5 d6 d7 d8 d9 d10 d11 d12 d13 : Option D) : ∃ z, back [11] [c0, c1, c2, c3, c4, c5, c6, c7, c8, c9, c10, c11, c12, c13] [d0, d1, d2, d3, d4, d5, d6, d7, d8, d9, d10, d11, d12, d13] = [d0, d1, d2, d3, d4, d5, d6, d7, d8, d9, d10, z, d12, d13] := by
  cases c11 with
  | none => exact ⟨none, by simp [back, back1, wipeE]⟩
  | some d =>
    cases h : isOwn d with
    | true => exact ⟨none, by simp [back, back1, wipeE, h]⟩
    | false => exact ⟨some d, by simp [back, back1, wipeE, h]⟩
theorem back13 (c0 c1 c2 c3 c4 c5 c6 c7 c8 c9 c10 c11 c12 c13 d0 d1 d2 d3 d4 d5 d6 d7 d8 d9 d10 d11 d12 d13 : Option D) : ∃ z, back [13] [c0, c1, c2, c3, c4, c5, c6, c7, c8, c9, c10, c11, c12, c13] [d0, d1, d2, d3, d4, d5, d6, d7, d8, d9, d10, d11, d12, d13] = [d0, d1, d2, d3, d4, d5, d6, d7, d8, d9, d10, d11, d12, z] := by
  cases c13 with
  | none => exact ⟨none, by simp [back, back1, wipeE]⟩
  | some d =>
    cases h : isOwn d with
    | true => exact ⟨none, by simp [back, back1, wipeE, h]⟩
    | false => exact ⟨some d, by simp [back, back1, wipeE, h]⟩
/-- one turn of the law -/
theorem law_turn {row : List Int} (hr : row ≠ []) (hl : row.length ≤ 1000) (s0 s3 s4 s5 s6 s7 s8 s9 s10 s11 s12 s13 : Option D) (t : D) (k : Int) (h0 : 0 ≤ k) (hk : k + 40 < 10000) :
    ∃ s2, execs (run PG 13) lawFor [s0, some (bx row k), some t, s3, s4, s5, s6, s7, s8, s9, s10, s11, s12, s13] = .ok .next s2 ∧ ∃ j, k ≤ j ∧ j ≤ k + 40 ∧ ∃ a2 a3 a4 a5 a6 a7 a8 a9 a10 a11 a12 a13, s2 = [s0, some (bx row j), a2, a3, a4, a5, a6, a7, a8, a9, a10, a11, a12, a13] := by
  show ∃ s2, execs (run PG 13) (.cons _ (.cons _ (.cons _ (.cons _ _)))) _ = _ ∧ _
  -- the rows
  obtain ⟨v, v0, v1, e1⟩ := s_next 12 (row := row) (k := k) (m := 7) (by decide) h0 (by omega) hr hl
  obtain ⟨ys, z', e2, hy, hrow⟩ := l_rows hr hl s0 (some t) s3 s4 s5 s6 s7 s8 s9 s10 s12 s13 (rangeL 0 (1 + v)) (k + 1) s11 (by omega) (by simp [rangeL]; omega)
  have hylen : ys.length = (1 + v).toNat := by rw [hy]; simp [rangeL]
  have hrl : ((rangeL 0 (1 + v)).length : Int) = 1 + v := by simp [rangeL]; omega
  rw [hrl] at e2
  obtain ⟨zb, hzb⟩ := back11 s0 (some (bx row (k + 1))) (some t) s3 s4 s5 s6 s7 s8 s9 s10 s11 s12 s13 s0 (some (bx row (k + 1 + 2 * (1 + v)))) (some t) s3 s4 s5 s6 s7 s8 s9 s10 z' s12 s13
  have hys : (fds ys).length ≤ most := by rw [List.length_map, hylen]; show _ ≤ 16777216; omega
  have n1 : ys ≠ [] := by intro e; rw [e] at hylen; simp at hylen; omega
  obtain ⟨x, l, rfl⟩ := List.exists_cons_of_ne_nil n1
  have hok : rngOk 0 (1 + v) = true := by unfold rngOk; simp; omega
  refine seq (s1 := [s0, some (bx row (k + 1 + 2 * (1 + v))), some t, some (.lst false (fds (x :: l))), s4, s5, s6, s7, s8, s9, s10, zb, s12, s13]) ?_ ?_
  · rw [x_set, x_lc, items_rng' rfl (s1 := [s0, some (bx row (k + 1)), some t, s3, s4, s5, s6, s7, s8, s9, s10, s11, s12, s13]) (n := 1 + v) (by simp [e1]) hok, bind_ok, e2, bind_ok, if_pos hys, bind_ok, hzb]
    simp
  generalize hK : k + 1 + 2 * (1 + v) = k1
  have hk1 : k + 3 ≤ k1 ∧ k1 ≤ k + 15 := by omega
  -- mixed
  have hlen : ((x :: l).length : Int) = 1 + v := by rw [hylen]; omega
  obtain ⟨ms, hp, e3⟩ := s_some 11 (k := k1) (vs := x :: l) hr hl (by omega) (by omega) (by omega)
  rw [hlen] at e3
  generalize hK2 : k1 + (1 + v) = k2 at e3
  have hk2 : k1 ≤ k2 ∧ k2 ≤ k1 + 7 := by omega
  have n2 : ms ≠ [] := by intro e; rw [e] at hp; exact absurd hp.length_eq (by simp)
  obtain ⟨y, m, rfl⟩ := List.exists_cons_of_ne_nil n2
  have hrow2 : ∀ z ∈ y :: m, Row z := fun z hz => hrow z (hp.mem_iff.mp hz)
  refine seq (s1 := [s0, some (bx row k2), some t, some (.lst false (fds (x :: l))), some (.lst false (fds (y :: m))), s5, s6, s7, s8, s9, s10, zb, s12, s13]) ?_ ?_
  · have bl : bn .len [.lst false (fds (x :: l))] = some (.int (1 + v)) := by rw [← hlen]; simp [bn, b_len]
    have e3 : run PG 13 f__law_some _ = _ := e3
    generalize fds (x :: l) = A at *
    generalize fds (y :: m) = C at *
    simp [bl, e3]
  -- the sums and ends agree
  have ox : Ok x := (hrow x List.mem_cons_self).ok
  have oy : Ok y := (hrow2 y List.mem_cons_self).ok
  have okl : ∀ z ∈ x :: l, Ok z := fun z hz => (hrow z hz).ok
  have okm : ∀ z ∈ y :: m, Ok z := fun z hz => (hrow2 z hz).ok
  have tl : (x :: l).length ≤ 8 := by omega
  have tm : (y :: m).length ≤ 8 := by rw [hp.length_eq]; exact tl
  have T1 : run PG 13 f_total [.lst false (fds (x :: l))] = _ := s_total 9 (sums_row (x :: l) (0, 1) 0 (by omega) (by decide) (by decide) (by decide) hrow)
  have T2 : run PG 13 f_total [.lst false (fds (y :: m))] = _ := s_total 9 (sums_row (y :: m) (0, 1) 0 (by omega) (by decide) (by decide) (by decide) hrow2)
  rw [fold_perm (f := pls) (fun a b => pls_ok a b) (fun a b c => pls_right a b c) hp ⟨by decide, by decide⟩ okm] at T2
  obtain ⟨q1, q2⟩ := ends_perm hp List.mem_cons_self List.mem_cons_self okm
  have L1 : run PG 13 f_least [.lst false (fds (x :: l))] = _ := s_least 11 fun a ha b hb => (hrow a ha).two (hrow b hb)
  have L2 : run PG 13 f_least [.lst false (fds (y :: m))] = _ := s_least 11 fun a ha b hb => (hrow2 a ha).two (hrow2 b hb)
  have G1 : run PG 13 f_greatest [.lst false (fds (x :: l))] = _ := s_greatest 11 fun a ha b hb => (hrow a ha).two (hrow b hb)
  have G2 : run PG 13 f_greatest [.lst false (fds (y :: m))] = _ := s_greatest 11 fun a ha b hb => (hrow2 a ha).two (hrow2 b hb)
  rw [q1] at L2
  rw [q2] at G2
  obtain ⟨zc, e4⟩ := l_isp s0 (some (bx row k2)) (some t) (some (.lst false (fds (x :: l)))) (some (.lst false (fds (y :: m)))) s5 s6 s7 s8 s9 s10 zb s12 (x :: l) s13 hrow
  obtain ⟨zd, hzd⟩ := back13 s0 (some (bx row k2)) (some t) (some (.lst false (fds (x :: l)))) (some (.lst false (fds (y :: m)))) s5 s6 s7 s8 s9 s10 zb s12 s13 s0 (some (bx row k2)) (some t) (some (.lst false (fds (x :: l)))) (some (.lst false (fds (y :: m)))) s5 s6 s7 s8 s9 s10 zb s12 zc
  refine seq (s1 := [s0, some (bx row k2), some t, some (.lst false (fds (x :: l))), some (.lst false (fds (y :: m))), s5, s6, s7, s8, s9, s10, zb, s12, zd]) ?_ ?_
  · have hlm : ((x :: l).map fun _ => D.bl false).length ≤ most := by rw [List.length_map]; show _ ≤ 16777216; omega
    have hc : ev (run PG 13) (.lc (.cmp .isn (.call f_is_part (.cons (.var 13) .nil)) (.cst (.bl true))) (.nm 13) (.var 3) .nil [13]) [s0, some (bx row k2), some t, some (.lst false (fds (x :: l))), some (.lst false (fds (y :: m))), s5, s6, s7, s8, s9, s10, zb, s12, s13] = .ok (.lst true ((x :: l).map fun _ => D.bl false)) [s0, some (bx row k2), some t, some (.lst false (fds (x :: l))), some (.lst false (fds (y :: m))), s5, s6, s7, s8, s9, s10, zb, s12, zd] := by
      have it : itemsR (.var 3) (ev (run PG 13) (.var 3)) [s0, some (bx row k2), some t, some (.lst false (fds (x :: l))), some (.lst false (fds (y :: m))), s5, s6, s7, s8, s9, s10, zb, s12, s13] = .ok (fds (x :: l)) [s0, some (bx row k2), some t, some (.lst false (fds (x :: l))), some (.lst false (fds (y :: m))), s5, s6, s7, s8, s9, s10, zb, s12, s13] := by
        simp [itemsR, itemsOf]
      rw [x_lc, it, bind_ok, e4, bind_ok, if_pos hlm, hzd]
    have ha := any_no (l := x :: l)
    generalize ((x :: l).map fun _ => D.bl false) = Z at *
    generalize (x :: l).foldl pls (0, 1) = T at *
    generalize lst1 (x :: l) x = U at *
    generalize gst1 (x :: l) x = V at *
    generalize fds (x :: l) = A at *
    generalize fds (y :: m) = C at *
    simp [T1, T2, L1, L2, G1, G2, ne_no, truth, hc, ha]
  -- one and two
  have rx := hrow x List.mem_cons_self
  have ry := hrow2 y List.mem_cons_self
  have xn := rx.n
  have xd := rx.d
  have xp := ox.pos
  have yn := ry.n
  have yd := ry.d
  have yp := oy.pos
  have i5 : ixOp (.lst false (fds (x :: l))) (.int 0) = some (fd x) := rfl
  have i6 : ixOp (.lst false (fds (y :: m))) (.int 0) = some (fd y) := rfl
  refine seq (s1 := [s0, some (bx row k2), some t, some (.lst false (fds (x :: l))), some (.lst false (fds (y :: m))), some (fd x), some (fd y), s7, s8, s9, s10, zb, s12, zd]) ?_ ?_
  · generalize fds (x :: l) = A at *
    generalize fds (y :: m) = C at *
    simp [i5, i6]
  have big : ∀ {a : Int} {n : Nat}, a.natAbs ≤ n → n < 10 ^ 30 → Sm a := fun {a n} h1 h2 => by
    have : (10 : Nat) ^ 30 < 2 ^ 200 := by decide
    show a.natAbs < 2 ^ 200
    omega
  have two : ∀ {p q : Fr}, 1 ≤ p.2 → p.2 ≤ 1000000 → p.1.natAbs ≤ 10 ^ 12 → 1 ≤ q.2 → q.2 ≤ 1000000 → q.1.natAbs ≤ 10 ^ 12 → Two p q := fun {p q} a1 a2 a3 b1 b2 b3 => by
    refine ⟨a1, b1, big a3 (by decide), big b3 (by decide), Int.lt_of_le_of_lt (Int.mul_le_mul a2 b2 (by omega) (by decide)) (by decide)⟩
  have txy := two (p := x) (q := y) xp (by omega) (by omega) yp (by omega) (by omega)
  have tyx := two (p := y) (q := x) yp (by omega) (by omega) xp (by omega) (by omega)
  have bd2 : ∀ {a b : Int}, a.natAbs ≤ 2000 → b.natAbs ≤ 2000 → (a * b).natAbs ≤ 2000 * 2000 := fun h1 h2 => abs_mul_le h1 h2
  have dxy : x.2 * y.2 ≤ 400 * 400 := Int.mul_le_mul xd yd (by omega) (by decide)
  have dyx : y.2 * x.2 ≤ 400 * 400 := Int.mul_le_mul yd xd (by omega) (by decide)
  have nx1 := bd2 (a := x.1) (b := y.2) xn (by omega)
  have ny1 := bd2 (a := y.1) (b := x.2) yn (by omega)
  have nxy := bd2 (a := x.1) (b := y.1) xn yn
  have pxy := mul_pos1 xp yp
  have pyx := mul_pos1 yp xp
  have mok := mns_ok oy ox
  have m2 : (mns y x).2 ≤ 160000 := Int.le_trans (red_le pyx) dyx
  have m1 : (mns y x).1.natAbs ≤ 8000000 := Nat.le_trans red_abs (by omega)
  have P1 : run PG 13 f_plus [fd x, fd y] = _ := s_plus 10 txy
  have P2 : run PG 13 f_plus [fd y, fd x] = _ := s_plus 10 tyx
  have X1 : run PG 13 f_times [fd x, fd y] = _ := s_times 10 txy
  have X2 : run PG 13 f_times [fd y, fd x] = _ := s_times 10 tyx
  have M1 : run PG 13 f_minus [fd x, fd y] = _ := s_minus 10 txy
  have M2 : run PG 13 f_minus [fd y, fd x] = _ := s_minus 10 tyx
  have X3 : run PG 13 f_times [fd (mns y x), pr (-1) 1] = _ := s_times 10 (x := mns y x) (y := (-1, 1)) (two mok.pos (by omega) (by omega) (by decide) (by decide) (by decide))
  have P3 : run PG 13 f_plus [fd x, fd (mns y x)] = _ := s_plus 10 (two xp (by omega) (by omega) mok.pos (by omega) (by omega))
  rw [pls_comm y x] at P2
  rw [tms_comm y x] at X2
  rw [min_neg ox oy] at M1
  rw [pls_min ox oy] at P3
  refine seq (s1 := [s0, some (bx row k2), some t, some (.lst false (fds (x :: l))), some (.lst false (fds (y :: m))), some (fd x), some (fd y), s7, s8, s9, s10, zb, s12, zd]) ?_ ?_
  · clear i5 i6
    generalize fds (x :: l) = A at *
    generalize fds (y :: m) = C at *
    generalize pls x y = u1 at *
    generalize tms x y = u2 at *
    generalize tms (mns y x) (-1, 1) = u3 at *
    generalize mns y x = u4 at *
    simp [P1, P2, X1, X2, M1, M2, X3, P3, ne_no, truth]
  -- over
  have tok := tms_ok ox oy
  have t2 : (tms x y).2 ≤ 160000 := Int.le_trans (red_le pxy) dxy
  have t1 : (tms x y).1.natAbs ≤ 4000000 := Nat.le_trans red_abs (by omega)
  refine seq (s1 := [s0, some (bx row k2), some t, some (.lst false (fds (x :: l))), some (.lst false (fds (y :: m))), some (fd x), some (fd y), s7, s8, s9, s10, zb, s12, zd]) ?_ ?_
  · by_cases hz : y.1 = 0
    · have c0 : cop .ne (.int y.1) (.int 0) = some false := by rw [hz]; exact ne_int 0
      clear i5 i6
      generalize fds (x :: l) = A at *
      generalize fds (y :: m) = C at *
      simp [c0, truth]
    · have c0 : cop .ne (.int y.1) (.int 0) = some true := by simp [cop, eqOk, plain, deq, hz]
      have bdm : ∀ {p : Fr}, 1 ≤ p.2 → p.2 ≤ 1000000 → p.2 * (y.1.natAbs : Int) < Bd := fun {p} a1 a2 =>
        Int.lt_of_le_of_lt (Int.mul_le_mul a2 (show (y.1.natAbs : Int) ≤ 2000 by omega) (by omega) (by decide)) (by decide)
      have ook := ovr_ok ox oy hz
      have O1 : run PG 13 f_over [fd (tms x y), fd y] = _ := s_over 10 (two tok.pos (by omega) (by omega) yp (by omega) (by omega)) hz (bdm tok.pos (by omega))
      have O2 : run PG 13 f_over [fd x, fd y] = _ := s_over 10 txy hz (bdm xp (by omega))
      have O3 : run PG 13 f_over [fd y, fd y] = _ := s_over 10 (ry.two ry) hz (bdm yp (by omega))
      rw [ovr_tms ox oy hz] at O1
      rw [ovr_self oy hz] at O3
      have o2 : (ovr x y).2 ≤ 1000000 := by
        unfold ovr
        have w : x.2 * (y.1.natAbs : Int) ≤ 400 * 2000 := Int.mul_le_mul xd (by omega) (by omega) (by decide)
        split
        · rename_i hn
          have e : -x.2 * y.1 = x.2 * y.1.natAbs := by
            rw [Int.neg_mul, ← Int.mul_neg]; congr 1; omega
          have := red_le (a := -x.1 * y.2) (b := -x.2 * y.1) (by rw [e]; exact mul_pos1 xp (by omega))
          omega
        · rename_i hn
          have e : x.2 * y.1 = x.2 * y.1.natAbs := by congr 1; omega
          have := red_le (a := x.1 * y.2) (b := x.2 * y.1) (by rw [e]; exact mul_pos1 xp (by omega))
          omega
      have o1 : (ovr x y).1.natAbs ≤ 4000000 := by
        unfold ovr
        split
        · refine Nat.le_trans red_abs ?_
          rw [Int.neg_mul, Int.natAbs_neg]; omega
        · exact Nat.le_trans red_abs (by omega)
      have X4 : run PG 13 f_times [fd (ovr x y), fd y] = _ := s_times 10 (two ook.pos o2 (by omega) yp (by omega) (by omega))
      rw [tms_ovr ox oy hz] at X4
      clear i5 i6
      generalize fds (x :: l) = A at *
      generalize fds (y :: m) = C at *
      generalize tms x y = u2 at *
      generalize ovr x y = u3 at *
      simp [c0, truth, X1, O1, O2, O3, X4, ne_no]
  -- the order
  have S1 : run PG 13 f_is_less [fd x, fd y] = _ := s_less 12 txy
  have S2 : run PG 13 f_is_less [fd y, fd x] = _ := s_less 12 tyx
  have M1' : run PG 13 f_minus [fd x, fd y] = _ := s_minus 10 txy
  have sg := min_sign ox oy
  refine seq (s1 := [s0, some (bx row k2), some t, some (.lst false (fds (x :: l))), some (.lst false (fds (y :: m))), some (fd x), some (fd y), s7, s8, s9, s10, zb, s12, zd]) ?_ ?_
  · have cb : ∀ b : Bool, cop .ne (.bl b) (.bl b) = some false := fun b => by simp [cop, eqOk, plain, deq]
    have clt : cop .lt (.int (mns x y).1) (.int 0) = some (decide ((mns x y).1 < 0)) := rfl
    rw [← sg] at clt
    clear i5 i6 M1
    generalize fds (x :: l) = A at *
    generalize fds (y :: m) = C at *
    generalize mns x y = u4 at *
    by_cases h1 : x.1 * y.2 < y.1 * x.2
    · have h2 : ¬ y.1 * x.2 < x.1 * y.2 := by omega
      rw [decide_eq_true h1] at S1 clt
      rw [decide_eq_false h2] at S2
      simp [S1, S2, M1', clt, cb, truth]
    · rw [decide_eq_false h1] at S1 clt
      by_cases h2 : y.1 * x.2 < x.1 * y.2
      · rw [decide_eq_true h2] at S2
        simp [S1, S2, M1', clt, cb, truth]
      · rw [decide_eq_false h2] at S2
        have exy : x = y := uniq ox oy (by omega)
        have cn : cop .ne (fd x) (fd y) = some false := by rw [exy]; exact ne_no _ _
        simp [S1, S2, M1', clt, cb, truth, cn]
  -- the floor and the ceiling
  have F1 : run PG 13 f_floor_of [fd x] = _ := s_floor 12 xp (bd_of (by omega))
  have F2 : run PG 13 f_ceiling_of [fd x] = _ := s_ceil 12 xp (bd_of (by omega))
  have f1 := fl_le ox
  have f2 := fl_lt ox
  have f3 := ce_ge ox
  have f4 := ce_lt ox
  have f5 := fl_ce ox
  have f6 := tms_neg ox
  have f7 := pls_int ox 3
  have f8 := ce_add ox 3
  have lowb : (x.1 / x.2).natAbs ≤ 2000 := by
    have a1 : x.1 / x.2 ≤ 2000 := Int.ediv_le_of_le_mul (by omega) (by
      have := Int.mul_le_mul_of_nonneg_left xp (show (0 : Int) ≤ 2000 by decide)
      omega)
    have a2 : -2000 ≤ x.1 / x.2 := Int.le_ediv_of_mul_le (by omega) (by
      have := Int.mul_le_mul_of_nonneg_left xp (show (0 : Int) ≤ 2000 by decide)
      omega)
    omega
  have highb : (-(-x.1 / x.2)).natAbs ≤ 2000 := by
    have a1 : -x.1 / x.2 ≤ 2000 := Int.ediv_le_of_le_mul (by omega) (by
      have := Int.mul_le_mul_of_nonneg_left xp (show (0 : Int) ≤ 2000 by decide)
      omega)
    have a2 : -2000 ≤ -x.1 / x.2 := Int.le_ediv_of_mul_le (by omega) (by
      have := Int.mul_le_mul_of_nonneg_left xp (show (0 : Int) ≤ 2000 by decide)
      omega)
    omega
  generalize hlow : x.1 / x.2 = low at *
  generalize hhigh : -(-x.1 / x.2) = high at *
  refine seq (s1 := [s0, some (bx row k2), some t, some (.lst false (fds (x :: l))), some (.lst false (fds (y :: m))), some (fd x), some (fd y), some (I low), some (I high), s9, s10, zb, s12, zd]) ?_ ?_
  · generalize fds (x :: l) = A at *
    generalize fds (y :: m) = C at *
    simp [F1, F2]
  have W : ∀ a : Int, run PG 13 f_whole [I a] = .ok (pr a 1) [] := fun a => s_whole 10 a
  have LL : ∀ a : Int, a.natAbs ≤ 10000 → run PG 13 f_is_less [fd x, pr a 1] = .ok (.bl (decide (x.1 * 1 < a * x.2))) [] := fun a h => s_less 12 (x := x) (y := (a, 1)) (two xp (by omega) (by omega) (Int.le_refl 1) (show (1 : Int) ≤ 1000000 by decide) (by show a.natAbs ≤ _; omega))
  have LR : ∀ a : Int, a.natAbs ≤ 10000 → run PG 13 f_is_less [pr a 1, fd x] = .ok (.bl (decide (a * x.2 < x.1 * 1))) [] := fun a h => s_less 12 (x := (a, 1)) (y := x) (two (Int.le_refl 1) (show (1 : Int) ≤ 1000000 by decide) (by show a.natAbs ≤ _; omega) xp (by omega) (by omega))
  refine seq (s1 := [s0, some (bx row k2), some t, some (.lst false (fds (x :: l))), some (.lst false (fds (y :: m))), some (fd x), some (fd y), some (I low), some (I high), s9, s10, zb, s12, zd]) ?_ ?_
  · have w1 := LL low (by omega)
    have w2 := LR high (by omega)
    have w3 := LL (low + 1) (by omega)
    have w4 := LR (high - 1) (by omega)
    rw [decide_eq_false (by omega)] at w1 w2
    rw [decide_eq_true (by omega)] at w3 w4
    have q1 : cop .eq (.int low) (.int high) = some (low == high) := by simp [cop, eqOk, plain, deq]
    have q2 : cop .eq (.int x.2) (.int 1) = some (x.2 == 1) := by simp [cop, eqOk, plain, deq]
    have cb : ∀ b : Bool, cop .ne (.bl b) (.bl b) = some false := fun b => by simp [cop, eqOk, plain, deq]
    rw [f5] at q1
    clear i5 i6
    generalize fds (x :: l) = A at *
    generalize fds (y :: m) = C at *
    simp [W, w1, w2, w3, w4, truth, q1, q2, cb]
  have XN : run PG 13 f_times [fd x, pr (-1) 1] = _ := s_times 10 (x := x) (y := (-1, 1)) (two xp (by omega) (by omega) (by decide) (by decide) (by decide))
  rw [f6] at XN
  have FN : run PG 13 f_floor_of [fd (-x.1, x.2)] = _ := s_floor 12 (x := (-x.1, x.2)) xp (bd_of (show x.2 < 100000000 by omega))
  have PN : run PG 13 f_plus [fd x, pr 3 1] = _ := s_plus 10 (x := x) (y := (3, 1)) (two xp (by omega) (by omega) (by decide) (by decide) (by decide))
  rw [f7] at PN
  have CN : run PG 13 f_ceiling_of [fd (x.1 + 3 * x.2, x.2)] = _ := s_ceil 12 (x := (x.1 + 3 * x.2, x.2)) xp (bd_of (show x.2 < 100000000 by omega))
  refine seq (s1 := [s0, some (bx row k2), some t, some (.lst false (fds (x :: l))), some (.lst false (fds (y :: m))), some (fd x), some (fd y), some (I low), some (I high), s9, s10, zb, s12, zd]) ?_ ?_
  · have FN : run PG 13 f_floor_of [pr (-x.1) x.2] = .ok (I (-high)) [] := by
      have : -x.1 / x.2 = -high := by omega
      rw [← this]; exact FN
    have CN : run PG 13 f_ceiling_of [pr (x.1 + 3 * x.2) x.2] = .ok (I (high + 3)) [] := by
      rw [← f8]; exact CN
    have q1 : cop .ne (.int (-high)) (.int (0 - high)) = some false := by rw [show 0 - high = -high by omega]; exact ne_int _
    have q2 := ne_int (high + 3)
    have q1' := ne_int (-high)
    clear i5 i6
    generalize fds (x :: l) = A at *
    generalize fds (y :: m) = C at *
    simp [W, XN, FN, PN, CN, truth, q1, q2, q1']
  -- texts
  obtain ⟨ze, e5⟩ := l_read s0 (some (bx row k2)) (some t) (some (.lst false (fds (x :: l)))) (some (.lst false (fds (y :: m)))) (some (fd x)) (some (fd y)) (some (I low)) (some (I high)) s9 s10 zb s12 (x :: l) zd hrow
  obtain ⟨zf, hzf⟩ := back13 s0 (some (bx row k2)) (some t) (some (.lst false (fds (x :: l)))) (some (.lst false (fds (y :: m)))) (some (fd x)) (some (fd y)) (some (I low)) (some (I high)) s9 s10 zb s12 zd s0 (some (bx row k2)) (some t) (some (.lst false (fds (x :: l)))) (some (.lst false (fds (y :: m)))) (some (fd x)) (some (fd y)) (some (I low)) (some (I high)) s9 s10 zb s12 ze
  refine seq (s1 := [s0, some (bx row k2), some t, some (.lst false (fds (x :: l))), some (.lst false (fds (y :: m))), some (fd x), some (fd y), some (I low), some (I high), s9, s10, zb, s12, zf]) ?_ ?_
  · have hlm : ((x :: l).map fun _ => D.bl false).length ≤ most := by rw [List.length_map]; show _ ≤ 16777216; omega
    have hc : ev (run PG 13) (.lc (.cmp .ne (.call f_read_part (.cons (.call f_told_part (.cons (.var 13) .nil)) .nil)) (.var 13)) (.nm 13) (.var 3) .nil [13]) [s0, some (bx row k2), some t, some (.lst false (fds (x :: l))), some (.lst false (fds (y :: m))), some (fd x), some (fd y), some (I low), some (I high), s9, s10, zb, s12, zd] = .ok (.lst true ((x :: l).map fun _ => D.bl false)) [s0, some (bx row k2), some t, some (.lst false (fds (x :: l))), some (.lst false (fds (y :: m))), some (fd x), some (fd y), some (I low), some (I high), s9, s10, zb, s12, zf] := by
      have it : itemsR (.var 3) (ev (run PG 13) (.var 3)) [s0, some (bx row k2), some t, some (.lst false (fds (x :: l))), some (.lst false (fds (y :: m))), some (fd x), some (fd y), some (I low), some (I high), s9, s10, zb, s12, zd] = .ok (fds (x :: l)) [s0, some (bx row k2), some t, some (.lst false (fds (x :: l))), some (.lst false (fds (y :: m))), some (fd x), some (fd y), some (I low), some (I high), s9, s10, zb, s12, zd] := by
        simp [itemsR, itemsOf]
      rw [x_lc, it, bind_ok, e5, bind_ok, if_pos hlm, hzf]
    have ha := any_no (l := x :: l)
    have td : run PG 13 f_told_part [pr low 1] = .ok (.str (strOf (txt low))) [] := by
      have := s_told 12 (x := (low, 1)) (show low.natAbs < 10 ^ 18 by omega) (show (1 : Int).natAbs < 10 ^ 18 by decide)
      have e : told (low, 1) = txt low := rfl
      rw [e] at this
      exact this
    have bs := b_str_ok (i := low) (show low.natAbs < 2 ^ 200 by have : (10 : Nat) ^ 30 < 2 ^ 200 := by decide
                                                                 omega)
    have cs : cop .ne (.str (strOf (txt low))) (.str (strOf (txt low))) = some false := by simp [cop, eqOk, plain, deq]
    clear i5 i6 T1 T2 L1 L2 G1 G2
    generalize ((x :: l).map fun _ => D.bl false) = Z at *
    generalize fds (x :: l) = A at *
    generalize fds (y :: m) = C at *
    generalize strOf (txt low) = tx at *
    simp [truth, hc, ha, W, td, bs, cs]
  -- a, b, k
  obtain ⟨va, a0, a1, e6⟩ := s_next 12 (row := row) (k := k2) (m := 3000) (by decide) (by omega) (by omega) hr hl
  obtain ⟨vb, b0, b1, e7⟩ := s_next 12 (row := row) (k := k2 + 1) (m := 3000) (by decide) (by omega) (by omega) hr hl
  obtain ⟨vk, c0, c1, e8⟩ := s_next 12 (row := row) (k := k2 + 1 + 1) (m := 40) (by decide) (by omega) (by omega) hr hl
  clear T1 T2 L1 L2 G1 G2 P1 P2 P3 X1 X2 X3 M1 M2 M1' S1 S2 F1 F2 XN FN PN CN LL LR i5 i6
  generalize hA : fds (x :: l) = A
  generalize hC : fds (y :: m) = C
  generalize fd x = X
  generalize fd y = Y
  refine seq (s1 := [s0, some (bx row (k2 + 1 + 1 + 1)), some t, some (.lst false A), some (.lst false C), some X, some Y, some (I low), some (I high), some (I (1 + va)), some (I (1 + vb)), some (I (1 + vk)), s12, zf]) ?_ ?_
  · simp [e6, e7, e8]
  generalize hj : k2 + 1 + 1 + 1 = k3
  have hk3 : k ≤ k3 ∧ k3 ≤ k + 40 := by omega
  generalize ha : 1 + va = a
  generalize hb : 1 + vb = b
  generalize hkk : 1 + vk = c
  have ra : 1 ≤ a ∧ a ≤ 3000 := by omega
  have rb : 1 ≤ b ∧ b ≤ 3000 := by omega
  have rc : 1 ≤ c ∧ c ≤ 40 := by omega
  obtain ⟨g1, g2⟩ := g_dvd ra.1 rb.1
  have g3 := g_one ra.1 rb.1
  have g4 := g_mul ra.1 rb.1 rc.1
  have gp := gcd_pos a b rb.1
  have gl := gcd_le a b rb.1
  have CM : ∀ p q : Int, 0 ≤ p → 0 ≤ q → q < 100000000 → run PG 13 f_common [I p, I q] = .ok (I (G p q)) [] := fun p q h1 h2 h3 => s_common 12 p q h1 h2 (bd_of h3)
  have K1 := CM a b (by omega) (by omega) (by omega)
  have PT : ∀ p q : Int, 1 ≤ q → q < 100000000 → run PG 13 f_part [I p, I q] = .ok (fd (red p q)) [] := fun p q h1 h2 => s_part' 11 p q h1 (bd_of h2)
  generalize hg : G a b = g at *
  have dv : divOk g = true := div_ok gp (bd_of (by omega))
  have sm : ∀ {p : Int}, p.natAbs ≤ 100000000 → Sm p := fun h => big h (by decide)
  refine seq (s1 := [s0, some (bx row k3), some t, some (.lst false A), some (.lst false C), some X, some Y, some (I low), some (I high), some (I a), some (I b), some (I c), some (I g), zf]) ?_ ?_
  · simp [K1]
  have ag : a / g ≤ a := Int.ediv_le_self _ (by omega)
  have ag0 : 0 ≤ a / g := Int.ediv_nonneg (by omega) (by omega)
  have bg : b / g ≤ b := Int.ediv_le_self _ (by omega)
  have bg0 : 0 ≤ b / g := Int.ediv_nonneg (by omega) (by omega)
  have dva : bop .fdiv (.int a) (.int g) = some (.int (a / g)) := by simp [bop, dv]
  have dvb : bop .fdiv (.int b) (.int g) = some (.int (b / g)) := by simp [bop, dv]
  have mag := bop_mul (mul_ok (a := a / g) (b := g) (sm (by omega)) (sm (by omega)))
  have mbg := bop_mul (mul_ok (a := b / g) (b := g) (sm (by omega)) (sm (by omega)))
  rw [g1] at mag
  rw [g2] at mbg
  have K2 := CM (a / g) (b / g) ag0 bg0 (by omega)
  rw [g3] at K2
  refine seq (s1 := [s0, some (bx row k3), some t, some (.lst false A), some (.lst false C), some X, some Y, some (I low), some (I high), some (I a), some (I b), some (I c), some (I g), zf]) ?_ ?_
  · simp [dva, dvb, mag, mbg, K2, ne_int, truth]
  have mac := bop_mul (mul_ok (a := a) (b := c) (sm (by omega)) (sm (by omega)))
  have mbc := bop_mul (mul_ok (a := b) (b := c) (sm (by omega)) (sm (by omega)))
  have mgc := bop_mul (mul_ok (a := g) (b := c) (sm (by omega)) (sm (by omega)))
  have acb : a * c ≤ 3000 * 40 := Int.mul_le_mul ra.2 rc.2 (by omega) (by decide)
  have bcb : b * c ≤ 3000 * 40 := Int.mul_le_mul rb.2 rc.2 (by omega) (by decide)
  have ac1 := mul_pos1 ra.1 rc.1
  have bc1 := mul_pos1 rb.1 rc.1
  have K3 := CM (a * c) (b * c) (by omega) (by omega) (by omega)
  rw [g4] at K3
  have K4 := CM b a (by omega) (by omega) (by omega)
  have hgc : G b a = g := by rw [← hg]; unfold G; rw [Int.gcd_comm]
  rw [hgc] at K4
  have K5 := CM a 0 (by omega) (by omega) (by omega)
  have K6 := CM 0 a (by omega) (by omega) (by omega)
  have g5 : G a 0 = a := by unfold G; rw [Int.gcd_zero_right]; omega
  have g6 : G 0 a = a := by unfold G; rw [Int.gcd_zero_left]; omega
  rw [g5] at K5
  rw [g6] at K6
  refine seq (s1 := [s0, some (bx row k3), some t, some (.lst false A), some (.lst false C), some X, some Y, some (I low), some (I high), some (I a), some (I b), some (I c), some (I g), zf]) ?_ ?_
  · simp [mac, mbc, mgc, K3, K4, K5, K6, ne_int, truth]
  have R1 := PT (a * c) (b * c) bc1 (by omega)
  have R2 := PT a b rb.1 (by omega)
  have R3 := PT (0 - a) b rb.1 (by omega)
  have R4 := PT 0 b rb.1 (by omega)
  have R5 := PT b a ra.1 (by omega)
  rw [red_mul ra.1 rb.1 rc.1] at R1
  have e0a : 0 - a = -a := by omega
  rw [e0a] at R3
  have rn := red_neg ra.1 rb.1
  have rz := red_zero ra.1 rb.1
  have rab : red a b = (a / g, b / g) := by unfold red; rw [← hg]
  rw [hg] at rn
  have ti := tms_inv ra.1 rb.1
  have oi := ovr_inv ra.1 rb.1
  have nz := red_ne ra.1 rb.1
  have ok1 := red_ok (a := a) rb.1
  have ok2 := red_ok (a := b) ra.1
  have ok3 := red_ok (a := -a) rb.1
  have r1a : (red a b).1.natAbs ≤ 3000 := Nat.le_trans red_abs (by omega)
  have r1b : (red a b).2 ≤ 3000 := Int.le_trans (red_le rb.1) rb.2
  have r2a : (red b a).1.natAbs ≤ 3000 := Nat.le_trans red_abs (by omega)
  have r2b : (red b a).2 ≤ 3000 := Int.le_trans (red_le ra.1) ra.2
  have r3a : (red (-a) b).1.natAbs ≤ 3000 := Nat.le_trans red_abs (by omega)
  have r3b : (red (-a) b).2 ≤ 3000 := Int.le_trans (red_le rb.1) rb.2
  have V1 : run PG 13 f_times [fd (red a b), fd (red b a)] = _ := s_times 10 (two ok1.pos (by omega) (by omega) ok2.pos (by omega) (by omega))
  have V2 : run PG 13 f_over [fd (red a b), fd (red (-a) b)] = _ := s_over 10 (two ok1.pos (by omega) (by omega) ok3.pos (by omega) (by omega)) nz
    (Int.lt_of_le_of_lt (Int.mul_le_mul r1b (show ((red (-a) b).1.natAbs : Int) ≤ 3000 by omega) (by omega) (by decide)) (by decide))
  rw [ti] at V1
  rw [oi] at V2
  refine seq (s1 := [s0, some (bx row k3), some t, some (.lst false A), some (.lst false C), some X, some Y, some (I low), some (I high), some (I a), some (I b), some (I c), some (I g), zf]) ?_ ?_
  · have n0 : bop .sub (.int 0) (.int a) = some (.int (-a)) := by simp [bop]
    have n1 : bop .sub (.int 0) (.int (a / g)) = some (.int (-(a / g))) := by simp [bop]
    rw [rab] at R1 R2
    rw [rn] at R3
    rw [rz] at R4
    simp [mac, mbc, R1, R2, R3, R4, dva, dvb, n0, n1, ne_no, truth]
  have mt1 := bop_mul (mul_ok (a := a) (b := 2) (sm (by omega)) (sm (by decide)))
  have mt2 := bop_mul (mul_ok (a := b) (b := 2) (sm (by omega)) (sm (by decide)))
  have IP : run PG 13 f_is_part [pr (a * 2) (b * 2)] = _ := s_ispart 11 (by omega) (bd_of (by omega))
  rw [decide_eq_false (g_two ra.1 rb.1)] at IP
  refine seq (s1 := [s0, some (bx row k3), some t, some (.lst false A), some (.lst false C), some X, some Y, some (I low), some (I high), some (I a), some (I b), some (I c), some (I g), zf]) ?_ ?_
  · have n0 : bop .sub (.int 0) (.int a) = some (.int (-a)) := by simp [bop]
    have ci : cop .isn (.bl false) (.bl false) = some false := rfl
    clear rab rn rz
    generalize red a b = u1 at *
    generalize red b a = u2 at *
    generalize red (-a) b = u3 at *
    simp [R2, R5, R3, V1, V2, IP, n0, mt1, mt2, ne_no, ci, truth]
  exact seq_nil ⟨k3, hk3.1, hk3.2, _, _, _, _, _, _, _, _, _, _, _, _, rfl⟩
end OM


set_option autoImplicit false
set_option linter.all false
set_option maxRecDepth 10000
set_option maxHeartbeats 1000000
namespace OM
open PySem
theorem law_end (s : Env) : exec (run PG 13) (.ret (.cmp .eq (.call f_total (.cons (.lst (.cons (.tup (.cons (.cst (.int 1)) (.cons (.cst (.int 2)) .nil))) (.cons (.tup (.cons (.cst (.int 1)) (.cons (.cst (.int 3)) .nil))) (.cons (.tup (.cons (.cst (.int 1)) (.cons (.cst (.int 6)) .nil))) .nil)))) .nil)) (.tup (.cons (.cst (.int 1)) (.cons (.cst (.int 1)) .nil))))) s = .ok (.ret (.bl true)) s := by
  have T : run PG 13 f_total [.lst false [pr 1 2, pr 1 3, pr 1 6]] = _ := s_total 9 (l := [(1, 2), (1, 3), (1, 6)]) (sums_row _ (0, 1) 0 (by decide) (by decide) (by decide) (by decide) (by
    intro z hz
    simp at hz
    rcases hz with rfl | rfl | rfl
    · exact ⟨⟨by decide, by decide⟩, by decide, by decide⟩
    · exact ⟨⟨by decide, by decide⟩, by decide, by decide⟩
    · exact ⟨⟨by decide, by decide⟩, by decide, by decide⟩))
  have e : ([(1, 2), (1, 3), (1, 6)] : List Fr).foldl pls (0, 1) = (1, 1) := by decide
  rw [e] at T
  have c : cop .eq (.tup [.int 1, .int 1]) (.tup [.int 1, .int 1]) = some true := by decide
  simp [T, c]
theorem law_plain (ns : List Int) (hl : ns.length ≤ 63) : ∃ outs, callB (run PG 13) d_law [.scr ns] = .ok (.bl true) outs := by
  obtain ⟨row, hr, hrl, eb⟩ := s_box 11 ns hl
  have e1 : exec (run PG 13) (.seto 1 (.call f__law_box (.cons (.var 0) .nil))) [some (.scr ns), none, none, none, none, none, none, none, none, none, none, none, none, none] = .ok .next [some (.scr ns), some (bx row 0), none, none, none, none, none, none, none, none, none, none, none, none] := by
    simp [eb]
  have hok : rngOk 0 9 = true := by decide
  have it : itemsR (.rng1 (.cst (.int 9))) (ev (run PG 13) (.rng1 (.cst (.int 9)))) [some (.scr ns), some (bx row 0), none, none, none, none, none, none, none, none, none, none, none, none] = .ok (rangeL 0 9) [some (.scr ns), some (bx row 0), none, none, none, none, none, none, none, none, none, none, none, none] := items_rng rfl rfl hok
  obtain ⟨s2, e2, _⟩ := for_inv (step := stepFor (run PG 13) (.nm 2) lawFor) (fun r s => ∃ k, 0 ≤ k ∧ k + 40 * (r.length : Int) ≤ 400 ∧ ∃ a2 a3 a4 a5 a6 a7 a8 a9 a10 a11 a12 a13, s = [some (.scr ns), some (bx row k), a2, a3, a4, a5, a6, a7, a8, a9, a10, a11, a12, a13]) (fun _ => True)
    (fun x r s h => by
      obtain ⟨k, k0, k1, a2, a3, a4, a5, a6, a7, a8, a9, a10, a11, a12, a13, rfl⟩ := h
      simp only [List.length_cons] at k1
      obtain ⟨s2, e, j, j0, j1, b2, b3, b4, b5, b6, b7, b8, b9, b10, b11, b12, b13, rfl⟩ := law_turn hr hrl (some (.scr ns)) a3 a4 a5 a6 a7 a8 a9 a10 a11 a12 a13 x k k0 (by omega)
      exact ⟨_, e, j, by omega, by omega, b2, b3, b4, b5, b6, b7, b8, b9, b10, b11, b12, b13, rfl⟩)
    (fun _ _ => trivial) (rangeL 0 9) [some (.scr ns), some (bx row 0), none, none, none, none, none, none, none, none, none, none, none, none] ⟨0, by decide, by decide, _, _, _, _, _, _, _, _, _, _, _, _, rfl⟩
  have e3 : exec (run PG 13) (.forr (.nm 2) (.rng1 (.cst (.int 9))) lawFor) [some (.scr ns), some (bx row 0), none, none, none, none, none, none, none, none, none, none, none, none] = .ok .next s2 := by
    rw [x_for, it, bind_ok]; exact e2
  exact ⟨[], callB_ret (fd := d_law) ((ex_next e1).trans ((ex_next e3).trans (ex_ret (law_end s2)))) rfl⟩
end OM

set_option maxHeartbeats 0
set_option maxRecDepth 100000
namespace OM
open PySem PySem.Spec PyProof.Rows L2
abbrev RW := PySem.Challenge.rw_onetiemore_k69_fractions_by_other_roads
def top (i : Nat) : Stmt := RW.prog.main.body.getD i (.Pass ⟨0, 0, 0, 0⟩)
def mkD (i : Nat) (n : Str) : He.DefD := ⟨(n, none), n, n, defArgs (top i), defBody (top i), defScope (top i), [], []⟩
def hfn : List He.DefD := [mkD 5 "common", mkD 6 "part", mkD 7 "is_part", mkD 8 "whole", mkD 9 "plus", mkD 10 "minus", mkD 11 "times", mkD 12 "over", mkD 13 "is_less", mkD 14 "least", mkD 15 "greatest", mkD 16 "total", mkD 17 "floor_of", mkD 18 "ceiling_of", mkD 19 "told_part", mkD 20 "_figures", mkD 21 "read_part", mkD 23 "_law_draws", mkD 24 "_law_box", mkD 25 "_law_next", mkD 26 "_law_some", mkD 27 "law"]
def hfa0 : List He.Fa := [.glo "common", .glo "part", .glo "is_part", .glo "whole", .glo "plus", .glo "minus", .glo "times", .glo "over", .glo "is_less", .glo "least", .glo "greatest", .glo "total", .glo "floor_of", .glo "ceiling_of", .glo "told_part", .glo "_figures", .glo "read_part", .glo "_law_draws", .glo "_law_box", .glo "_law_next", .glo "_law_some", .glo "law", .free "len", .free "range", .free "isinstance", .free "list", .free "int", .free "min", .free "str", .free "any"]
def hfa1 : List He.Fa := [.free "abs", .free "tuple", .free "bool", .str "FIGURES" "0123456789"]
def hfa : List He.Fa := hfa0 ++ hfa1
def hloose : List Str := ["TieError", "InvalidNumber", "FIGURES", "common", "part", "is_part", "whole", "plus", "minus", "times", "over", "is_less", "least", "greatest", "total", "floor_of", "ceiling_of", "told_part", "_figures", "read_part", "_law_draws", "_law_box", "_law_next", "_law_some"]
abbrev HR : PySem.W.OpenRow := PySem.W.OpenLaw.row RW
abbrev hkk : PySem.W.Hook := He.hookD 4 hfa hfn
def hob (s : PySem.W.SharedT) : He.AlD := He.obsDG 4 hfa hfn (HandSHeadRun.getT s)
theorem hob_eq (s : PySem.W.SharedT) : hob s = hkk.obs s.abs := He.obsDG_eq (HandSHeadRun.getT_eq s)
theorem hrun (w : World) : HandSHeadRun.RunEq HR (PySem.W.view HR.prog [27]) hkk hob 4000 hloose w := by
  intro os
  kernel_rfl
def tab : Tab := ⟨["common", "part", "is_part", "whole", "plus", "minus", "times", "over", "is_less", "least", "greatest", "total", "floor_of", "ceiling_of", "told_part", "_figures", "read_part", "_law_draws", "_law_box", "_law_next", "_law_some", "law"], PG, ["len", "range", "isinstance", "list", "int", "min", "str", "any", "abs", "tuple", "bool"], [("FIGURES", (.str "0123456789"))]⟩
section
variable {w : World} {K : PySem.W.Frag} {h : Heap} {mg : Str → Option Value}
theorem fs_common : FnScope ["one", "other"] ["one", "other"] (defScope (top 5)) := ⟨rfl, rfl, rfl, by decide +kernel, rfl, by decide +kernel, by decide +kernel⟩
theorem ck_common : chkSs tab ["one", "other"] d_common.mp (defScope (top 5)) d_common.body (defBody (top 5)) = true := by kernel_rfl
theorem do_common (X : K.In h) (G : h.Ns mainGlobals mg) (c : He.SaysD hfa hfn K) : DefOk tab RW.prog w K mg h "common" d_common := by
  obtain ⟨fdd, F⟩ := c.def_ 0 (d := mkD 5 "common") rfl
  exact ⟨_, fdd, ["one", "other"], ["one", "other"], _, _, _, _, _, He.glo_ok X G (c.fact 0 (f := .glo "common") rfl), F, fs_common, rfl, rfl, ⟨by decide, by decide⟩, by decide +kernel, ck_common,
    fun m h1 h2 => ⟨[], [], FunD.bindsN (ps := ["one", "other"]) F fun _ _ _ _ _ _ us hl => match us, hl with | [_, _], _ => rfl, .nil, fun F => by simp [d_common, datL]⟩⟩
theorem fs_part : FnScope ["above", "below", "shared"] ["above", "below"] (defScope (top 6)) := ⟨rfl, rfl, rfl, by decide +kernel, rfl, by decide +kernel, by decide +kernel⟩
theorem ck_part : chkSs tab ["above", "below", "shared"] d_part.mp (defScope (top 6)) d_part.body (defBody (top 6)) = true := by kernel_rfl
theorem do_part (X : K.In h) (G : h.Ns mainGlobals mg) (c : He.SaysD hfa hfn K) : DefOk tab RW.prog w K mg h "part" d_part := by
  obtain ⟨fdd, F⟩ := c.def_ 1 (d := mkD 6 "part") rfl
  exact ⟨_, fdd, ["above", "below", "shared"], ["above", "below"], _, _, _, _, _, He.glo_ok X G (c.fact 1 (f := .glo "part") rfl), F, fs_part, rfl, rfl, ⟨by decide, by decide⟩, by decide +kernel, ck_part,
    fun m h1 h2 => ⟨[], [], FunD.bindsN (ps := ["above", "below"]) F fun _ _ _ _ _ _ us hl => match us, hl with | [_, _], _ => rfl, .nil, fun F => by simp [d_part, datL]⟩⟩
theorem fs_is_part : FnScope ["value", "one"] ["value"] (defScope (top 7)) := ⟨rfl, rfl, rfl, by decide +kernel, rfl, by decide +kernel, by decide +kernel⟩
theorem ck_is_part : chkSs tab ["value", "one"] d_is_part.mp (defScope (top 7)) d_is_part.body (defBody (top 7)) = true := by kernel_rfl
theorem do_is_part (X : K.In h) (G : h.Ns mainGlobals mg) (c : He.SaysD hfa hfn K) : DefOk tab RW.prog w K mg h "is_part" d_is_part := by
  obtain ⟨fdd, F⟩ := c.def_ 2 (d := mkD 7 "is_part") rfl
  exact ⟨_, fdd, ["value", "one"], ["value"], _, _, _, _, _, He.glo_ok X G (c.fact 2 (f := .glo "is_part") rfl), F, fs_is_part, rfl, rfl, ⟨by decide, by decide⟩, by decide +kernel, ck_is_part,
    fun m h1 h2 => ⟨[], [], FunD.bindsN (ps := ["value"]) F fun _ _ _ _ _ _ us hl => match us, hl with | [_], _ => rfl, .nil, fun F => by simp [d_is_part, datL]⟩⟩
theorem fs_whole : FnScope ["number"] ["number"] (defScope (top 8)) := ⟨rfl, rfl, rfl, by decide +kernel, rfl, by decide +kernel, by decide +kernel⟩
theorem ck_whole : chkSs tab ["number"] d_whole.mp (defScope (top 8)) d_whole.body (defBody (top 8)) = true := by kernel_rfl
theorem do_whole (X : K.In h) (G : h.Ns mainGlobals mg) (c : He.SaysD hfa hfn K) : DefOk tab RW.prog w K mg h "whole" d_whole := by
  obtain ⟨fdd, F⟩ := c.def_ 3 (d := mkD 8 "whole") rfl
  exact ⟨_, fdd, ["number"], ["number"], _, _, _, _, _, He.glo_ok X G (c.fact 3 (f := .glo "whole") rfl), F, fs_whole, rfl, rfl, ⟨by decide, by decide⟩, by decide +kernel, ck_whole,
    fun m h1 h2 => ⟨[], [], FunD.bindsN (ps := ["number"]) F fun _ _ _ _ _ _ us hl => match us, hl with | [_], _ => rfl, .nil, fun F => by simp [d_whole, datL]⟩⟩
theorem fs_plus : FnScope ["one", "other"] ["one", "other"] (defScope (top 9)) := ⟨rfl, rfl, rfl, by decide +kernel, rfl, by decide +kernel, by decide +kernel⟩
theorem ck_plus : chkSs tab ["one", "other"] d_plus.mp (defScope (top 9)) d_plus.body (defBody (top 9)) = true := by kernel_rfl
theorem do_plus (X : K.In h) (G : h.Ns mainGlobals mg) (c : He.SaysD hfa hfn K) : DefOk tab RW.prog w K mg h "plus" d_plus := by
  obtain ⟨fdd, F⟩ := c.def_ 4 (d := mkD 9 "plus") rfl
  exact ⟨_, fdd, ["one", "other"], ["one", "other"], _, _, _, _, _, He.glo_ok X G (c.fact 4 (f := .glo "plus") rfl), F, fs_plus, rfl, rfl, ⟨by decide, by decide⟩, by decide +kernel, ck_plus,
    fun m h1 h2 => ⟨[], [], FunD.bindsN (ps := ["one", "other"]) F fun _ _ _ _ _ _ us hl => match us, hl with | [_, _], _ => rfl, .nil, fun F => by simp [d_plus, datL]⟩⟩
theorem fs_minus : FnScope ["one", "other"] ["one", "other"] (defScope (top 10)) := ⟨rfl, rfl, rfl, by decide +kernel, rfl, by decide +kernel, by decide +kernel⟩
theorem ck_minus : chkSs tab ["one", "other"] d_minus.mp (defScope (top 10)) d_minus.body (defBody (top 10)) = true := by kernel_rfl
theorem do_minus (X : K.In h) (G : h.Ns mainGlobals mg) (c : He.SaysD hfa hfn K) : DefOk tab RW.prog w K mg h "minus" d_minus := by
  obtain ⟨fdd, F⟩ := c.def_ 5 (d := mkD 10 "minus") rfl
  exact ⟨_, fdd, ["one", "other"], ["one", "other"], _, _, _, _, _, He.glo_ok X G (c.fact 5 (f := .glo "minus") rfl), F, fs_minus, rfl, rfl, ⟨by decide, by decide⟩, by decide +kernel, ck_minus,
    fun m h1 h2 => ⟨[], [], FunD.bindsN (ps := ["one", "other"]) F fun _ _ _ _ _ _ us hl => match us, hl with | [_, _], _ => rfl, .nil, fun F => by simp [d_minus, datL]⟩⟩
theorem fs_times : FnScope ["one", "other"] ["one", "other"] (defScope (top 11)) := ⟨rfl, rfl, rfl, by decide +kernel, rfl, by decide +kernel, by decide +kernel⟩
theorem ck_times : chkSs tab ["one", "other"] d_times.mp (defScope (top 11)) d_times.body (defBody (top 11)) = true := by kernel_rfl
theorem do_times (X : K.In h) (G : h.Ns mainGlobals mg) (c : He.SaysD hfa hfn K) : DefOk tab RW.prog w K mg h "times" d_times := by
  obtain ⟨fdd, F⟩ := c.def_ 6 (d := mkD 11 "times") rfl
  exact ⟨_, fdd, ["one", "other"], ["one", "other"], _, _, _, _, _, He.glo_ok X G (c.fact 6 (f := .glo "times") rfl), F, fs_times, rfl, rfl, ⟨by decide, by decide⟩, by decide +kernel, ck_times,
    fun m h1 h2 => ⟨[], [], FunD.bindsN (ps := ["one", "other"]) F fun _ _ _ _ _ _ us hl => match us, hl with | [_, _], _ => rfl, .nil, fun F => by simp [d_times, datL]⟩⟩
theorem fs_over : FnScope ["one", "other"] ["one", "other"] (defScope (top 12)) := ⟨rfl, rfl, rfl, by decide +kernel, rfl, by decide +kernel, by decide +kernel⟩
theorem ck_over : chkSs tab ["one", "other"] d_over.mp (defScope (top 12)) d_over.body (defBody (top 12)) = true := by kernel_rfl
theorem do_over (X : K.In h) (G : h.Ns mainGlobals mg) (c : He.SaysD hfa hfn K) : DefOk tab RW.prog w K mg h "over" d_over := by
  obtain ⟨fdd, F⟩ := c.def_ 7 (d := mkD 12 "over") rfl
  exact ⟨_, fdd, ["one", "other"], ["one", "other"], _, _, _, _, _, He.glo_ok X G (c.fact 7 (f := .glo "over") rfl), F, fs_over, rfl, rfl, ⟨by decide, by decide⟩, by decide +kernel, ck_over,
    fun m h1 h2 => ⟨[], [], FunD.bindsN (ps := ["one", "other"]) F fun _ _ _ _ _ _ us hl => match us, hl with | [_, _], _ => rfl, .nil, fun F => by simp [d_over, datL]⟩⟩
theorem fs_is_less : FnScope ["one", "other"] ["one", "other"] (defScope (top 13)) := ⟨rfl, rfl, rfl, by decide +kernel, rfl, by decide +kernel, by decide +kernel⟩
theorem ck_is_less : chkSs tab ["one", "other"] d_is_less.mp (defScope (top 13)) d_is_less.body (defBody (top 13)) = true := by kernel_rfl
theorem do_is_less (X : K.In h) (G : h.Ns mainGlobals mg) (c : He.SaysD hfa hfn K) : DefOk tab RW.prog w K mg h "is_less" d_is_less := by
  obtain ⟨fdd, F⟩ := c.def_ 8 (d := mkD 13 "is_less") rfl
  exact ⟨_, fdd, ["one", "other"], ["one", "other"], _, _, _, _, _, He.glo_ok X G (c.fact 8 (f := .glo "is_less") rfl), F, fs_is_less, rfl, rfl, ⟨by decide, by decide⟩, by decide +kernel, ck_is_less,
    fun m h1 h2 => ⟨[], [], FunD.bindsN (ps := ["one", "other"]) F fun _ _ _ _ _ _ us hl => match us, hl with | [_, _], _ => rfl, .nil, fun F => by simp [d_is_less, datL]⟩⟩
theorem fs_least : FnScope ["values", "found", "value"] ["values"] (defScope (top 14)) := ⟨rfl, rfl, rfl, by decide +kernel, rfl, by decide +kernel, by decide +kernel⟩
theorem ck_least : chkSs tab ["values", "found", "value"] d_least.mp (defScope (top 14)) d_least.body (defBody (top 14)) = true := by kernel_rfl
theorem do_least (X : K.In h) (G : h.Ns mainGlobals mg) (c : He.SaysD hfa hfn K) : DefOk tab RW.prog w K mg h "least" d_least := by
  obtain ⟨fdd, F⟩ := c.def_ 9 (d := mkD 14 "least") rfl
  exact ⟨_, fdd, ["values", "found", "value"], ["values"], _, _, _, _, _, He.glo_ok X G (c.fact 9 (f := .glo "least") rfl), F, fs_least, rfl, rfl, ⟨by decide, by decide⟩, by decide +kernel, ck_least,
    fun m h1 h2 => ⟨[], [], FunD.bindsN (ps := ["values"]) F fun _ _ _ _ _ _ us hl => match us, hl with | [_], _ => rfl, .nil, fun F => by simp [d_least, datL]⟩⟩
theorem fs_greatest : FnScope ["values", "found", "value"] ["values"] (defScope (top 15)) := ⟨rfl, rfl, rfl, by decide +kernel, rfl, by decide +kernel, by decide +kernel⟩
theorem ck_greatest : chkSs tab ["values", "found", "value"] d_greatest.mp (defScope (top 15)) d_greatest.body (defBody (top 15)) = true := by kernel_rfl
theorem do_greatest (X : K.In h) (G : h.Ns mainGlobals mg) (c : He.SaysD hfa hfn K) : DefOk tab RW.prog w K mg h "greatest" d_greatest := by
  obtain ⟨fdd, F⟩ := c.def_ 10 (d := mkD 15 "greatest") rfl
  exact ⟨_, fdd, ["values", "found", "value"], ["values"], _, _, _, _, _, He.glo_ok X G (c.fact 10 (f := .glo "greatest") rfl), F, fs_greatest, rfl, rfl, ⟨by decide, by decide⟩, by decide +kernel, ck_greatest,
    fun m h1 h2 => ⟨[], [], FunD.bindsN (ps := ["values"]) F fun _ _ _ _ _ _ us hl => match us, hl with | [_], _ => rfl, .nil, fun F => by simp [d_greatest, datL]⟩⟩
theorem fs_total : FnScope ["values", "found", "value"] ["values"] (defScope (top 16)) := ⟨rfl, rfl, rfl, by decide +kernel, rfl, by decide +kernel, by decide +kernel⟩
theorem ck_total : chkSs tab ["values", "found", "value"] d_total.mp (defScope (top 16)) d_total.body (defBody (top 16)) = true := by kernel_rfl
theorem do_total (X : K.In h) (G : h.Ns mainGlobals mg) (c : He.SaysD hfa hfn K) : DefOk tab RW.prog w K mg h "total" d_total := by
  obtain ⟨fdd, F⟩ := c.def_ 11 (d := mkD 16 "total") rfl
  exact ⟨_, fdd, ["values", "found", "value"], ["values"], _, _, _, _, _, He.glo_ok X G (c.fact 11 (f := .glo "total") rfl), F, fs_total, rfl, rfl, ⟨by decide, by decide⟩, by decide +kernel, ck_total,
    fun m h1 h2 => ⟨[], [], FunD.bindsN (ps := ["values"]) F fun _ _ _ _ _ _ us hl => match us, hl with | [_], _ => rfl, .nil, fun F => by simp [d_total, datL]⟩⟩
theorem fs_floor_of : FnScope ["value"] ["value"] (defScope (top 17)) := ⟨rfl, rfl, rfl, by decide +kernel, rfl, by decide +kernel, by decide +kernel⟩
theorem ck_floor_of : chkSs tab ["value"] d_floor_of.mp (defScope (top 17)) d_floor_of.body (defBody (top 17)) = true := by kernel_rfl
theorem do_floor_of (X : K.In h) (G : h.Ns mainGlobals mg) (c : He.SaysD hfa hfn K) : DefOk tab RW.prog w K mg h "floor_of" d_floor_of := by
  obtain ⟨fdd, F⟩ := c.def_ 12 (d := mkD 17 "floor_of") rfl
  exact ⟨_, fdd, ["value"], ["value"], _, _, _, _, _, He.glo_ok X G (c.fact 12 (f := .glo "floor_of") rfl), F, fs_floor_of, rfl, rfl, ⟨by decide, by decide⟩, by decide +kernel, ck_floor_of,
    fun m h1 h2 => ⟨[], [], FunD.bindsN (ps := ["value"]) F fun _ _ _ _ _ _ us hl => match us, hl with | [_], _ => rfl, .nil, fun F => by simp [d_floor_of, datL]⟩⟩
theorem fs_ceiling_of : FnScope ["value"] ["value"] (defScope (top 18)) := ⟨rfl, rfl, rfl, by decide +kernel, rfl, by decide +kernel, by decide +kernel⟩
theorem ck_ceiling_of : chkSs tab ["value"] d_ceiling_of.mp (defScope (top 18)) d_ceiling_of.body (defBody (top 18)) = true := by kernel_rfl
theorem do_ceiling_of (X : K.In h) (G : h.Ns mainGlobals mg) (c : He.SaysD hfa hfn K) : DefOk tab RW.prog w K mg h "ceiling_of" d_ceiling_of := by
  obtain ⟨fdd, F⟩ := c.def_ 13 (d := mkD 18 "ceiling_of") rfl
  exact ⟨_, fdd, ["value"], ["value"], _, _, _, _, _, He.glo_ok X G (c.fact 13 (f := .glo "ceiling_of") rfl), F, fs_ceiling_of, rfl, rfl, ⟨by decide, by decide⟩, by decide +kernel, ck_ceiling_of,
    fun m h1 h2 => ⟨[], [], FunD.bindsN (ps := ["value"]) F fun _ _ _ _ _ _ us hl => match us, hl with | [_], _ => rfl, .nil, fun F => by simp [d_ceiling_of, datL]⟩⟩
theorem fs_told_part : FnScope ["value"] ["value"] (defScope (top 19)) := ⟨rfl, rfl, rfl, by decide +kernel, rfl, by decide +kernel, by decide +kernel⟩
theorem ck_told_part : chkSs tab ["value"] d_told_part.mp (defScope (top 19)) d_told_part.body (defBody (top 19)) = true := by kernel_rfl
theorem do_told_part (X : K.In h) (G : h.Ns mainGlobals mg) (c : He.SaysD hfa hfn K) : DefOk tab RW.prog w K mg h "told_part" d_told_part := by
  obtain ⟨fdd, F⟩ := c.def_ 14 (d := mkD 19 "told_part") rfl
  exact ⟨_, fdd, ["value"], ["value"], _, _, _, _, _, He.glo_ok X G (c.fact 14 (f := .glo "told_part") rfl), F, fs_told_part, rfl, rfl, ⟨by decide, by decide⟩, by decide +kernel, ck_told_part,
    fun m h1 h2 => ⟨[], [], FunD.bindsN (ps := ["value"]) F fun _ _ _ _ _ _ us hl => match us, hl with | [_], _ => rfl, .nil, fun F => by simp [d_told_part, datL]⟩⟩
theorem fs__figures : FnScope ["word", "figures", "sign"] ["word"] (defScope (top 20)) := ⟨rfl, rfl, rfl, by decide +kernel, rfl, by decide +kernel, by decide +kernel⟩
theorem ck__figures : chkSs tab ["word", "figures", "sign"] d__figures.mp (defScope (top 20)) d__figures.body (defBody (top 20)) = true := by kernel_rfl
theorem do__figures (X : K.In h) (G : h.Ns mainGlobals mg) (c : He.SaysD hfa hfn K) : DefOk tab RW.prog w K mg h "_figures" d__figures := by
  obtain ⟨fdd, F⟩ := c.def_ 15 (d := mkD 20 "_figures") rfl
  exact ⟨_, fdd, ["word", "figures", "sign"], ["word"], _, _, _, _, _, He.glo_ok X G (c.fact 15 (f := .glo "_figures") rfl), F, fs__figures, rfl, rfl, ⟨by decide, by decide⟩, by decide +kernel, ck__figures,
    fun m h1 h2 => ⟨[], [], FunD.bindsN (ps := ["word"]) F fun _ _ _ _ _ _ us hl => match us, hl with | [_], _ => rfl, .nil, fun F => by simp [d__figures, datL]⟩⟩
theorem fs_read_part : FnScope ["word", "above", "line", "below", "number", "divisor"] ["word"] (defScope (top 21)) := ⟨rfl, rfl, rfl, by decide +kernel, rfl, by decide +kernel, by decide +kernel⟩
theorem ck_read_part : chkSs tab ["word", "above", "line", "below", "number", "divisor"] d_read_part.mp (defScope (top 21)) d_read_part.body (defBody (top 21)) = true := by kernel_rfl
theorem do_read_part (X : K.In h) (G : h.Ns mainGlobals mg) (c : He.SaysD hfa hfn K) : DefOk tab RW.prog w K mg h "read_part" d_read_part := by
  obtain ⟨fdd, F⟩ := c.def_ 16 (d := mkD 21 "read_part") rfl
  exact ⟨_, fdd, ["word", "above", "line", "below", "number", "divisor"], ["word"], _, _, _, _, _, He.glo_ok X G (c.fact 16 (f := .glo "read_part") rfl), F, fs_read_part, rfl, rfl, ⟨by decide, by decide⟩, by decide +kernel, ck_read_part,
    fun m h1 h2 => ⟨[], [], FunD.bindsN (ps := ["word"]) F fun _ _ _ _ _ _ us hl => match us, hl with | [_], _ => rfl, .nil, fun F => by simp [d_read_part, datL]⟩⟩
theorem fs__law_draws : FnScope ["seed", "modulus", "size_of", "number", "row", "k", "stirred"] ["seed", "modulus", "size_of"] (defScope (top 23)) := ⟨rfl, rfl, rfl, by decide +kernel, rfl, by decide +kernel, by decide +kernel⟩
theorem ck__law_draws : chkSs tab ["seed", "modulus", "size_of", "number", "row", "k", "stirred"] d__law_draws.mp (defScope (top 23)) d__law_draws.body (defBody (top 23)) = true := by kernel_rfl
theorem do__law_draws (X : K.In h) (G : h.Ns mainGlobals mg) (c : He.SaysD hfa hfn K) : DefOk tab RW.prog w K mg h "_law_draws" d__law_draws := by
  obtain ⟨fdd, F⟩ := c.def_ 17 (d := mkD 23 "_law_draws") rfl
  exact ⟨_, fdd, ["seed", "modulus", "size_of", "number", "row", "k", "stirred"], ["seed", "modulus", "size_of"], _, _, _, _, _, He.glo_ok X G (c.fact 17 (f := .glo "_law_draws") rfl), F, fs__law_draws, rfl, rfl, ⟨by decide, by decide⟩, by decide +kernel, ck__law_draws,
    fun m h1 h2 => ⟨[], [], FunD.bindsN (ps := ["seed", "modulus", "size_of"]) F fun _ _ _ _ _ _ us hl => match us, hl with | [_, _, _], _ => rfl, .nil, fun F => by simp [d__law_draws, datL]⟩⟩
theorem fs__law_box : FnScope ["script", "row", "seed"] ["script"] (defScope (top 24)) := ⟨rfl, rfl, rfl, by decide +kernel, rfl, by decide +kernel, by decide +kernel⟩
theorem ck__law_box : chkSs tab ["script", "row", "seed"] d__law_box.mp (defScope (top 24)) d__law_box.body (defBody (top 24)) = true := by kernel_rfl
theorem do__law_box (X : K.In h) (G : h.Ns mainGlobals mg) (c : He.SaysD hfa hfn K) : DefOk tab RW.prog w K mg h "_law_box" d__law_box := by
  obtain ⟨fdd, F⟩ := c.def_ 18 (d := mkD 24 "_law_box") rfl
  exact ⟨_, fdd, ["script", "row", "seed"], ["script"], _, _, _, _, _, He.glo_ok X G (c.fact 18 (f := .glo "_law_box") rfl), F, fs__law_box, rfl, rfl, ⟨by decide, by decide⟩, by decide +kernel, ck__law_box,
    fun m h1 h2 => ⟨[], [], FunD.bindsN (ps := ["script"]) F fun _ _ _ _ _ _ us hl => match us, hl with | [_], _ => rfl, .nil, fun F => by simp [d__law_box, datL]⟩⟩
theorem fs__law_next : FnScope ["pool", "modulus", "at", "number"] ["pool", "modulus"] (defScope (top 25)) := ⟨rfl, rfl, rfl, by decide +kernel, rfl, by decide +kernel, by decide +kernel⟩
theorem ck__law_next : chkSs tab ["pool", "modulus", "at", "number"] d__law_next.mp (defScope (top 25)) d__law_next.body (defBody (top 25)) = true := by kernel_rfl
theorem do__law_next (X : K.In h) (G : h.Ns mainGlobals mg) (c : He.SaysD hfa hfn K) : DefOk tab RW.prog w K mg h "_law_next" d__law_next := by
  obtain ⟨fdd, F⟩ := c.def_ 19 (d := mkD 25 "_law_next") rfl
  exact ⟨_, fdd, ["pool", "modulus", "at", "number"], ["pool", "modulus"], _, _, _, _, _, He.glo_ok X G (c.fact 19 (f := .glo "_law_next") rfl), F, fs__law_next, rfl, rfl, ⟨by decide, by decide⟩, by decide +kernel, ck__law_next,
    fun m h1 h2 => ⟨[], [], FunD.bindsN (ps := ["pool", "modulus"]) F fun _ _ _ _ _ _ us hl => match us, hl with | [_, _], _ => rfl, .nil, fun F => by simp [d__law_next, datL]⟩⟩
theorem fs__law_some : FnScope ["pool", "values", "many", "left", "k"] ["pool", "values", "many"] (defScope (top 26)) := ⟨rfl, rfl, rfl, by decide +kernel, rfl, by decide +kernel, by decide +kernel⟩
theorem ck__law_some : chkSs tab ["pool", "values", "many", "left", "k"] d__law_some.mp (defScope (top 26)) d__law_some.body (defBody (top 26)) = true := by kernel_rfl
theorem do__law_some (X : K.In h) (G : h.Ns mainGlobals mg) (c : He.SaysD hfa hfn K) : DefOk tab RW.prog w K mg h "_law_some" d__law_some := by
  obtain ⟨fdd, F⟩ := c.def_ 20 (d := mkD 26 "_law_some") rfl
  exact ⟨_, fdd, ["pool", "values", "many", "left", "k"], ["pool", "values", "many"], _, _, _, _, _, He.glo_ok X G (c.fact 20 (f := .glo "_law_some") rfl), F, fs__law_some, rfl, rfl, ⟨by decide, by decide⟩, by decide +kernel, ck__law_some,
    fun m h1 h2 => ⟨[], [], FunD.bindsN (ps := ["pool", "values", "many"]) F fun _ _ _ _ _ _ us hl => match us, hl with | [_, _, _], _ => rfl, .nil, fun F => by simp [d__law_some, datL]⟩⟩
theorem fs_law : FnScope ["script", "box", "step", "rows", "mixed", "one", "two", "low", "high", "a", "b", "k", "shared", "value"] ["script"] (defScope (top 27)) := ⟨rfl, rfl, rfl, by decide +kernel, rfl, by decide +kernel, by decide +kernel⟩
theorem ck_law : chkSs tab ["script", "box", "step", "rows", "mixed", "one", "two", "low", "high", "a", "b", "k", "shared", "value"] d_law.mp (defScope (top 27)) d_law.body (defBody (top 27)) = true := by kernel_rfl
theorem do_law (X : K.In h) (G : h.Ns mainGlobals mg) (c : He.SaysD hfa hfn K) : DefOk tab RW.prog w K mg h "law" d_law := by
  obtain ⟨fdd, F⟩ := c.def_ 21 (d := mkD 27 "law") rfl
  exact ⟨_, fdd, ["script", "box", "step", "rows", "mixed", "one", "two", "low", "high", "a", "b", "k", "shared", "value"], ["script"], _, _, _, _, _, He.glo_ok X G (c.fact 21 (f := .glo "law") rfl), F, fs_law, rfl, rfl, ⟨by decide, by decide⟩, by decide +kernel, ck_law,
    fun m h1 h2 => ⟨[], [], FunD.bindsN (ps := ["script"]) F fun _ _ _ _ _ _ us hl => match us, hl with | [_], _ => rfl, .nil, fun F => by simp [d_law, datL]⟩⟩
theorem all_ok (X : K.In h) (G : h.Ns mainGlobals mg) (c : He.SaysD hfa hfn K) : ∀ f fd nm, tab.P f = some fd → tab.nms[f]? = some nm → DefOk tab RW.prog w K mg h nm fd
  | 0, fd, nm, e1, e2 => by cases e1; cases e2; exact do_common X G c
  | 1, fd, nm, e1, e2 => by cases e1; cases e2; exact do_part X G c
  | 2, fd, nm, e1, e2 => by cases e1; cases e2; exact do_is_part X G c
  | 3, fd, nm, e1, e2 => by cases e1; cases e2; exact do_whole X G c
  | 4, fd, nm, e1, e2 => by cases e1; cases e2; exact do_plus X G c
  | 5, fd, nm, e1, e2 => by cases e1; cases e2; exact do_minus X G c
  | 6, fd, nm, e1, e2 => by cases e1; cases e2; exact do_times X G c
  | 7, fd, nm, e1, e2 => by cases e1; cases e2; exact do_over X G c
  | 8, fd, nm, e1, e2 => by cases e1; cases e2; exact do_is_less X G c
  | 9, fd, nm, e1, e2 => by cases e1; cases e2; exact do_least X G c
  | 10, fd, nm, e1, e2 => by cases e1; cases e2; exact do_greatest X G c
  | 11, fd, nm, e1, e2 => by cases e1; cases e2; exact do_total X G c
  | 12, fd, nm, e1, e2 => by cases e1; cases e2; exact do_floor_of X G c
  | 13, fd, nm, e1, e2 => by cases e1; cases e2; exact do_ceiling_of X G c
  | 14, fd, nm, e1, e2 => by cases e1; cases e2; exact do_told_part X G c
  | 15, fd, nm, e1, e2 => by cases e1; cases e2; exact do__figures X G c
  | 16, fd, nm, e1, e2 => by cases e1; cases e2; exact do_read_part X G c
  | 17, fd, nm, e1, e2 => by cases e1; cases e2; exact do__law_draws X G c
  | 18, fd, nm, e1, e2 => by cases e1; cases e2; exact do__law_box X G c
  | 19, fd, nm, e1, e2 => by cases e1; cases e2; exact do__law_next X G c
  | 20, fd, nm, e1, e2 => by cases e1; cases e2; exact do__law_some X G c
  | 21, fd, nm, e1, e2 => by cases e1; cases e2; exact do_law X G c
  | n + 22, fd, nm, e1, e2 => by simp [tab] at e2
theorem all_free (X : K.In h) (G : h.Ns mainGlobals mg) (c : He.SaysD hfa hfn K) : ∀ x ∈ tab.frs, mg x = none := by
  intro x hx
  simp only [tab, List.mem_cons, List.not_mem_nil, or_false] at hx
  rcases hx with rfl | rfl | rfl | rfl | rfl | rfl | rfl | rfl | rfl | rfl | rfl
  · exact He.free_ok X G (c.fact 22 (f := .free "len") rfl)
  · exact He.free_ok X G (c.fact 23 (f := .free "range") rfl)
  · exact He.free_ok X G (c.fact 24 (f := .free "isinstance") rfl)
  · exact He.free_ok X G (c.fact 25 (f := .free "list") rfl)
  · exact He.free_ok X G (c.fact 26 (f := .free "int") rfl)
  · exact He.free_ok X G (c.fact 27 (f := .free "min") rfl)
  · exact He.free_ok X G (c.fact 28 (f := .free "str") rfl)
  · exact He.free_ok X G (c.fact 29 (f := .free "any") rfl)
  · exact He.free_ok X G (c.fact 30 (f := .free "abs") rfl)
  · exact He.free_ok X G (c.fact 31 (f := .free "tuple") rfl)
  · exact He.free_ok X G (c.fact 32 (f := .free "bool") rfl)
theorem all_glb (X : K.In h) (G : h.Ns mainGlobals mg) (c : He.SaysD hfa hfn K) : ∀ (g : Nat) nm d, tab.gls[g]? = some (nm, d) → (nm == ("__debug__" : Str)) = false ∧ ∃ u v, mg nm = some u ∧ RelV v u ∧ ∀ F, dat K F d v
  | 0, nm, d, e => by
    cases e
    obtain ⟨t, ht⟩ := He.str_ok X G (c.fact 33 (f := .str "FIGURES" "0123456789") rfl)
    exact ⟨by decide +kernel, _, .str "0123456789", ht, ⟨t, rfl⟩, fun _ => rfl⟩
  | n + 1, nm, d, e => by simp [tab] at e
end
abbrev Z0 : XS := fun _ _ _ _ _ => False

theorem facts {w : World} {K : PySem.W.Frag} {h : Heap} {mg : Str → Option Value} {f : Addr} (X : K.In h) (G : h.Ns mainGlobals mg) (hm : mg ("law" : Str) = some (.ref f)) (c : He.SaysD hfa hfn K) :
    ∃ fd : FuncData, (∀ (s : Shared) (v : Value), BindsTo s fd ⟨[v], []⟩ [("script", v)]) ∧ ∀ base : Heap, K.In base → base.Ns mainGlobals mg → FnOk RW.prog w K mg base (L2.CX RW.prog w) 14 f fd ["script"] (spF K Z0 d_law (runB PG 14 d_law)) := by
  obtain ⟨fd, F⟩ := c.def_ 21 (d := mkD 27 "law") rfl
  have e := hm.symm.trans (He.glo_ok X G (c.fact 21 (f := .glo "law") rfl))
  cases e
  have b := FunD.bindsA (ps := ["script"]) F fun _ _ _ _ _ _ us hl => match us, hl with | [_], _ => rfl
  refine ⟨fd, fun s v => b s [v] rfl, fun base Xb Gb => ?_⟩
  have q := prog_ok (Z := Z0) (all_free Xb Gb c) (all_glb Xb Gb c) (by decide +kernel) (all_ok (w := w) Xb Gb c) 13
  exact body_run (B := tab) (all_free Xb Gb c) (all_glb Xb Gb c) (by decide +kernel) q F fs_law rfl rfl ⟨by decide, by decide⟩ (by decide +kernel) ck_law
end OM
open PySem PySem.W PySem.Calls PyProof.Rows
theorem PySem.Challenge.cw_onetiemore_k69_fractions_by_other_roads_holds : PySem.Challenge.rw_onetiemore_k69_fractions_by_other_roads.Holds := by
  w_on; o_law
  refine HandSHeadRun.head_any (r := OpenLaw.row PySem.Challenge.rw_onetiemore_k69_fractions_by_other_roads) (q := view (OpenLaw.row PySem.Challenge.rw_onetiemore_k69_fractions_by_other_roads).prog [27]) (H := OM.hkk) (ob := OM.hob) (M := 4000) (loose := OM.hloose) (d := HandSHeadRun.topDef (OpenLaw.row PySem.Challenge.rw_onetiemore_k69_fractions_by_other_roads).prog 27) (kwd := []) OM.hob_eq
    (by kernel_rfl) (fun s => by kernel_rfl) OM.hrun (by kernel_rfl) (by kernel_rfl) (by kernel_rfl) (by rfl) (by first | assumption | decide +kernel) (by decide +kernel) ⟨rfl, rfl, rfl, rfl, rfl, by decide +kernel⟩ ?hw ?hc
  case hw => w_witness2
  case hc =>
    refine OM.walk_w (l := PySem.Challenge.rw_onetiemore_k69_fractions_by_other_roads) (n := 63) (k := 14) (x := "script") rfl (by decide) (by kernel_rfl) ⟨rfl, by decide, by decide⟩ ?F
    intro w mg fa h Y G hmg0
    obtain ⟨K, KX, c⟩ := Y
    have hmg : mg ("law" : PySem.Str) = some (.ref fa) := by
      have e : (HandSHeadRun.topDef (OpenLaw.row PySem.Challenge.rw_onetiemore_k69_fractions_by_other_roads).prog 27).name = ("law" : PySem.Str) := by kernel_rfl
      rw [← e]
      exact hmg0
    obtain ⟨fd, hb, hF⟩ := OM.facts (w := w) KX G hmg c
    exact ⟨K, fd, OM.spF K OM.Z0 OM.d_law (OM.runB OM.PG 14 OM.d_law), KX, hb, fun H a ns hl ho hS => OM.law_sp rfl (OM.law_plain ns hl) hS, hF⟩

