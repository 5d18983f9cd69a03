import PyProof.Rows.All
import HandS.ForMost
import HandS.ExcOwn
import HandS.CallSlots
import HandS.TupAny
import HandS.Style
import KE.DataEq
import KE.DataCmp
import HandS.Base
import HandS.TupMul
import HandS.Lambda
import HandS.Flow
import KE.GoesEnum
import KE.GoesZip
import KE.GoesMore
import HandS.Walk
import HandS.WordsExc
import HandS.Small
import KE.KDictPairs
import KE.DataMinMax
import HandS.More
import KE.SortData
import KE.KTupSum
import KE.IntTextLaws
import HandS.Text
import KE.KSortTup
import HandS.StrMore
import HandS.IsInst
import HandS.Deep
import HandS.NoneIn
import HandS.ExcIs
import PyProof.StrLawsIn
import KE.KRevSl
import HandS.EndTab
import PyProof.Rows.Walk
import PySem.Challenge.RW_tapdeal_k02_whole_beats_of_counts
section
set_option Elab.async false
set_option linter.all false
/-! The data D, the little language (E, S) and its evaluator. -/
namespace TD
open PySem
abbrev Sx := List Nat
inductive Ky where | kI (n : Int) | kS (x : Sx)
  deriving DecidableEq
inductive D where
  | non | bl (b : Bool) | int (i : Int) | str (s : Sx)
  | tup (l : List D) | lst (l : List D) | dct (l : List (Ky × D)) | obj (n : Nat)

def sx (x : String) : Sx := x.toList.map Char.toNat

/-- a slot: empty, a value for good, a list or dict that may be changed -/
inductive Sl where | no | fz (d : D) | ow (d : D)
abbrev Env := List Sl
abbrev Ob := List Sl
abbrev Sto := List Ob

inductive R (α : Type) where
  | ok (a : α) (S : Sto) | xc (c : Nat) (S : Sto) | bad
def M (α : Type) := Sto → R α
@[reducible] def M.ret {α : Type} (a : α) : M α := fun S => .ok a S
def M.bad {α : Type} : M α := fun _ => .bad
def M.raise {α : Type} (c : Nat) : M α := fun S => .xc c S
def M.bind {α β : Type} (x : M α) (f : α → M β) : M β := fun S => match x S with
  | .ok a S' => f a S'
  | .xc c S' => .xc c S'
  | .bad => .bad
instance : Monad M where
  pure := M.ret
  bind := M.bind
def M.of {α : Type} : Option α → M α
  | some a => M.ret a
  | none => M.bad
/-- without an exception -/
def M.noX {α : Type} (x : M α) : M α := fun S => match x S with
  | .ok a S' => .ok a S'
  | _ => .bad
/-- ask -/
def M.ask (b : Bool) : M Unit := if b then M.ret () else M.bad

/-! ### what Python's operators say of data -/
/-- no dict, no object, no deeper than n -/
def D.okN : Nat → D → Bool
  | 0, .tup _ => false
  | 0, .lst _ => false
  | n + 1, .tup l => l.all (D.okN n)
  | n + 1, .lst l => l.all (D.okN n)
  | _, .dct _ => false
  | _, .obj _ => false
  | _, _ => true
def D.plain (d : D) : Bool := d.okN 30
def plains (l : List D) : Bool := l.all (D.okN 30)
def b2i (b : Bool) : Int := if b then 1 else 0
mutual
/-- x == y -/
def D.eqv : D → D → Bool
  | .non, .non => true
  | .bl a, .bl b => a == b
  | .bl a, .int b => b2i a == b
  | .int a, .bl b => a == b2i b
  | .int a, .int b => a == b
  | .str a, .str b => a == b
  | .tup a, .tup b => eqvs a b
  | .lst a, .lst b => eqvs a b
  | _, _ => false
def eqvs : List D → List D → Bool
  | [], [] => true
  | x :: xs, y :: ys => x.eqv y && eqvs xs ys
  | _, _ => false
end
mutual
/-- of one kind, place by place -/
def D.alike : D → D → Bool
  | .non, .non => true
  | .bl _, .bl _ => true
  | .int _, .int _ => true
  | .str _, .str _ => true
  | .tup a, .tup b => alikes a b
  | .lst a, .lst b => alikes a b
  | _, _ => false
def alikes : List D → List D → Bool
  | x :: xs, y :: ys => x.alike y && alikes xs ys
  | _, _ => true
end
mutual
/-- x < y, of alike ones -/
def D.lt : D → D → Bool
  | .bl a, .bl b => decide (b2i a < b2i b)
  | .int a, .int b => decide (a < b)
  | .str a, .str b => decide (a < b)
  | .tup a, .tup b => lts a b
  | .lst a, .lst b => lts a b
  | _, _ => false
def lts : List D → List D → Bool
  | [], [] => false
  | [], _ :: _ => true
  | _ :: _, [] => false
  | x :: xs, y :: ys => if x.eqv y then lts xs ys else x.lt y
end
def D.isTup : D → Bool
  | .tup _ => true
  | _ => false
def D.isObj : D → Bool
  | .obj _ => true
  | _ => false
def D.isNon : D → Bool
  | .non => true
  | _ => false
/-- every two alike -/
def allAlike (l : List D) : Bool := l.all fun x => l.all fun y => x.alike y
def maxLen : Nat := 16000000
def fits {α : Type} (l : List α) : Bool := decide (l.length ≤ maxLen)

def D.truthy : D → M Bool
  | .non => pure false
  | .bl b => pure b
  | .int i => pure (i != 0)
  | .str s => do M.ask (fits s); pure (!s.isEmpty)
  | .tup l => pure (!l.isEmpty)
  | .lst l => pure (!l.isEmpty)
  | _ => M.bad
inductive Op where | add | sub | mul | fdiv | mod
inductive Cm where | eq | ne | lt | le | gt | ge | isin | notin | is_ | isnt
inductive Ty where | int | bool | str | tuple

def wideOk (i j : Int) : Bool := (decide (i.natAbs < 2 ^ 64) || decide (j.natAbs < 2 ^ 64))
def rep {α : Type} (n : Int) (l : List α) : List α := (List.replicate n.toNat l).flatten

def Op.run : Op → D → D → M D
  | .add, .int a, .int b => pure (.int (a + b))
  | .add, .str a, .str b => do M.ask (fits (a ++ b)); pure (.str (a ++ b))
  | .add, .tup a, .tup b => do M.ask (fits (a ++ b)); pure (.tup (a ++ b))
  | .add, .lst a, .lst b => do M.ask (fits (a ++ b)); pure (.lst (a ++ b))
  | .sub, .int a, .int b => pure (.int (a - b))
  | .mul, .int a, .int b => do M.ask (wideOk a b); pure (.int (a * b))
  | .mul, .str a, .int n => do M.ask (decide (n ≤ 100000) && decide (-100000 ≤ n) && decide (a.length ≤ 100)); pure (.str (rep n a))
  | .mul, .tup a, .int n => do M.ask (decide (n ≤ 1000) && decide (2 ≤ n) && decide (a.length ≤ 1000) && !a.isEmpty); pure (.tup (rep n a))
  | .fdiv, .int a, .int b => do M.ask (decide (0 < b) && decide (b < 1073741824)); pure (.int (a / b))
  | .mod, .int a, .int b => do M.ask (decide (0 < b)); pure (.int (a % b))
  | _, _, _ => M.bad

/-- is t a part of s -/
def infixB : Sx → Sx → Bool
  | t, [] => t.isEmpty
  | t, c :: s => t.isPrefixOf (c :: s) || infixB t s
def Ky.ofD : D → Option Ky
  | .int i => some (.kI i)
  | .str s => some (.kS s)
  | _ => none
def Ky.toD : Ky → D
  | .kI i => .int i
  | .kS s => .str s
def lookK (k : Ky) (l : List (Ky × D)) : Option D := (l.find? fun p => decide (p.1 = k)).map (·.2)
def putK (k : Ky) (d : D) (l : List (Ky × D)) : List (Ky × D) :=
  if (l.any fun p => decide (p.1 = k)) = true then l.map (fun p => if p.1 = k then (p.1, d) else p) else l ++ [(k, d)]
def isIn (x : D) : D → M Bool
  | .lst l => do M.ask (x.plain && plains l); pure (l.any fun y => y.eqv x)
  | .tup l => do M.ask (x.plain && plains l); pure (l.any fun y => y.eqv x)
  | .str s => match x with
    | .str t => match t with
      | [c] => pure (s.elem c)
      | _ => M.bad
    | _ => M.bad
  | .dct l => match Ky.ofD x with
    | some k => pure (lookK k l).isSome
    | none => M.bad
  | _ => M.bad
def Cm.run : Cm → D → D → M Bool
  | .eq, a, b => do M.ask (a.plain && b.plain); pure (a.eqv b)
  | .ne, a, b => do M.ask (a.plain && b.plain); pure (!a.eqv b)
  | .lt, a, b => do M.ask (a.plain && b.plain && a.alike b && !a.isNon); pure (a.lt b)
  | .gt, a, b => do M.ask (a.plain && b.plain && a.alike b && !a.isNon); pure (b.lt a)
  | .le, a, b => do M.ask (a.plain && b.plain && a.alike b && !a.isNon); pure (!b.lt a)
  | .ge, a, b => do M.ask (a.plain && b.plain && a.alike b && !a.isNon); pure (!a.lt b)
  | .isin, a, b => isIn a b
  | .notin, a, b => do let r ← isIn a b; pure (!r)
  | .is_, a, .non => pure a.isNon
  | .is_, .bl a, .bl b => pure (a == b)
  | .is_, _, _ => M.bad
  | .isnt, a, .non => pure (!a.isNon)
  | .isnt, .bl a, .bl b => pure (a != b)
  | .isnt, _, _ => M.bad

/-- the place of index i in a row of n -/
def ixAt (n : Nat) (i : Int) : Option Nat := if 0 ≤ i then (if i < n then some i.toNat else none) else if -(n : Int) ≤ i then some (i + n).toNat else none
def getAt {α : Type} (l : List α) (i : Int) : Option α := (ixAt l.length i).bind fun j => l[j]?
/-- a slice's bound in a row of n -/
def slAt (n dflt : Nat) : D → Option Nat
  | .non => some dflt
  | .int i => some (if i < 0 then (i + n).toNat else min i.toNat n)
  | _ => none
def cut {α : Type} (l : List α) (lo hi : D) : Option (List α) := do
  let a ← slAt l.length 0 lo
  let b ← slAt l.length l.length hi
  pure ((l.drop a).take (b - a))
def D.item : D → D → M D
  | .lst l, .int i => M.of (getAt l i)
  | .tup l, .int i => M.of (getAt l i)
  | .str s, .int i => do M.ask (fits s); M.of ((getAt s i).map fun c => .str [c])
  | .dct l, k => M.of ((Ky.ofD k).bind fun k => lookK k l)
  | _, _ => M.bad
def D.slice : D → D → D → M D
  | .lst l, lo, hi => M.of ((cut l lo hi).map .lst)
  | .tup l, lo, hi => M.of ((cut l lo hi).map .tup)
  | .str l, lo, hi => do M.ask (fits l); M.of ((cut l lo hi).map .str)
  | _, _, _ => M.bad
def D.back : D → M D
  | .tup l => pure (.tup l.reverse)
  | .lst l => pure (.lst l.reverse)
  | .str l => do M.ask (fits l); pure (.str l.reverse)
  | _ => M.bad
/-- what a for goes through -/
def D.items : D → M (List D)
  | .lst l => pure l
  | .tup l => pure l
  | .str s => pure (s.map fun c => .str [c])
  | _ => M.bad
def sortD (l : List D) : List D := l.mergeSort fun a b => !b.lt a
/-- may be sorted -/
def sortable (l : List D) : Bool := allAlike l && plains l && (l.all fun x => !x.isNon)
/-- .. by sorted: all tuples, or no tuple -/
def sortOk (l : List D) : Bool := sortable l && (l.all D.isTup || l.all fun x => !x.isTup)
/-- texts by length, then by sign -/
def lenLt (a b : Sx) : Bool := decide (a.length < b.length) || (a.length == b.length && decide (a < b))
def sortLen (l : List Sx) : List Sx := l.mergeSort fun a b => !lenLt b a
def lstOf : D → M (List D)
  | .lst l => pure l
  | .tup l => pure l
  | _ => M.bad
def minD (x : D) (l : List D) : D := l.foldl (fun m y => if y.lt m then y else m) x
def maxD (x : D) (l : List D) : D := l.foldl (fun m y => if m.lt y then y else m) x
def intOf : D → Option Int
  | .int i => some i
  | _ => none
def blOf : D → Option Bool
  | .bl i => some i
  | _ => none
def strOf : D → Option Sx
  | .str i => some i
  | _ => none
def allSome {α β : Type} (f : α → Option β) : List α → Option (List β)
  | [] => some []
  | x :: xs => match f x, allSome f xs with
    | some y, some ys => some (y :: ys)
    | _, _ => none
/-- the figures of a number -/
def digits (n : Int) : Sx := (toString n).toList.map Char.toNat
def digit? (c : Nat) : Option Nat := if 48 ≤ c ∧ c ≤ 57 then some (c - 48) else none
def readNat (s : Sx) : Option Nat := match s with
  | [] => none
  | _ => (allSome digit? s).map fun l => l.foldl (fun a d => a * 10 + d) 0

/-- a key that is a text -/
def Ky.txt : Ky × D → Option Sx
  | (.kS s, _) => some s
  | _ => none
inductive Bi where | len | tuple | list | sorted | min | max | max2 | sum | all | any | int | str | dict | abs
inductive Me where | join | split | replace | count | rstrip | endswith | index | get | upper | lcount

def pairOf : D → Option (Ky × D)
  | .tup [a, b] => (Ky.ofD a).map fun k => (k, b)
  | _ => none
def dictOf (l : List (Ky × D)) : List (Ky × D) := l.foldl (fun m p => putK p.1 p.2 m) []
def Bi.run1 : Bi → D → M D
  | .len, .lst l => pure (.int l.length)
  | .len, .tup l => pure (.int l.length)
  | .len, .str l => do M.ask (fits l); pure (.int l.length)
  | .tuple, .lst l => pure (.tup l)
  | .tuple, .tup l => pure (.tup l)
  | .list, .lst l => pure (.lst l)
  | .list, .tup l => pure (.lst l)
  | .list, .dct l => pure (.lst (l.map fun p => p.1.toD))
  | .sorted, .lst l => do M.ask (sortOk l && fits l); pure (.lst (sortD l))
  | .sorted, .dct l => do let k ← M.of (allSome Ky.txt l); M.ask (decide (k.length < 64)); pure (.lst ((k.mergeSort fun a b => decide (a ≤ b)).map .str))
  | .min, .lst (x :: l) => do M.ask (sortable (x :: l)); pure (minD x l)
  | .max, .lst (x :: l) => do M.ask (sortable (x :: l)); pure (maxD x l)
  | .sum, .lst l => do let ns ← M.of (allSome intOf l); pure (.int ns.sum)
  | .sum, .tup l => do let ns ← M.of (allSome intOf l); pure (.int ns.sum)
  | .all, .lst l => do let ns ← M.of (allSome blOf l); pure (.bl (ns.all id))
  | .any, .lst l => do let ns ← M.of (allSome blOf l); pure (.bl (ns.any id))
  | .int, .bl b => pure (.int (b2i b))
  | .int, .int i => pure (.int i)
  | .int, .str s => do M.ask (decide (s.length ≤ 9)); let n ← M.of (readNat s); pure (.int n)
  | .str, .int i => do M.ask (decide (i.natAbs < 2 ^ 64)); pure (.str (digits i))
  | .str, .bl b => pure (.str (if b then [84, 114, 117, 101] else [70, 97, 108, 115, 101]))
  | .dict, .tup l => do let ps ← M.of (allSome pairOf l); pure (.dct (dictOf ps))
  | .abs, .int i => pure (.int (if i < 0 then -i else i))
  | _, _ => M.bad
def Bi.run2 : Bi → D → D → M D
  | .max2, .int a, .int b => pure (.int (if b > a then b else a))
  | _, _, _ => M.bad
def Bi.run (b : Bi) : List D → M D
  | [x] => b.run1 x
  | [x, y] => b.run2 x y
  | _ => M.bad
def joinS (sep : Sx) : List Sx → Sx
  | [] => []
  | [x] => x
  | x :: r => x ++ sep ++ joinS sep r
def splitC (c : Nat) : Sx → List Sx
  | [] => [[]]
  | x :: r => if x = c then [] :: splitC c r else match splitC c r with
    | [] => [[x]]
    | y :: ys => (x :: y) :: ys
def rstripC (c : Nat) (s : Sx) : Sx := (s.reverse.dropWhile (· == c)).reverse
def idxOf (x : D) : List D → Option Nat
  | [] => none
  | y :: r => if y.eqv x then some 0 else (idxOf x r).map (· + 1)
def Me.run1 : Me → D → D → M D
  | .join, .str s, .lst l => do
    let xs ← M.of (allSome strOf l)
    M.ask (decide ((xs.map (·.length)).sum + xs.length * s.length ≤ maxLen))
    pure (.str (joinS s xs))
  | .join, .str s, .str t => do M.ask (decide (t.length + t.length * s.length ≤ maxLen)); pure (.str (joinS s (t.map fun c => [c])))
  | .split, .str s, .str [c] => do M.ask (fits s); pure (.lst ((splitC c s).map .str))
  | .count, .str s, .str [c] => pure (.int (s.count c))
  | .rstrip, .str s, .str [c] => do M.ask (fits s); pure (.str (rstripC c s))
  | .endswith, .str s, .str t => pure (.bl (t.isSuffixOf s))
  | .index, .lst l, .int x => do let ns ← M.of (allSome intOf l); let i ← M.of (ns.findIdx? fun y => y == x); pure (.int i)
  | _, _, _ => M.bad
def Me.run2 : Me → D → D → D → M D
  | .replace, .str s, .str [a], .str [b] => do M.ask (fits s); pure (.str (s.map fun c => if c = a then b else c))
  | .get, .dct l, k, x => do let k ← M.of (Ky.ofD k); pure ((lookK k l).getD x)
  | _, _, _, _ => M.bad
def Me.run (m : Me) (o : D) : List D → M D
  | [x] => m.run1 o x
  | [x, y] => m.run2 o x y
  | _ => M.bad
/-- it has the method -/
def Me.recv : Me → D → Bool
  | .index, .lst _ => true
  | .index, _ => false
  | .get, .dct _ => true
  | .get, _ => false
  | .lcount, _ => false
  | _, .str _ => true
  | _, _ => false
def Ty.run : Ty → D → Bool
  | .int, .int _ => true
  | .int, .bl _ => true
  | .bool, .bl _ => true
  | .str, .str _ => true
  | .tuple, .tup _ => true
  | _, _ => false
/-- the items of a set: each once -/
def dedup : List D → List D
  | [] => []
  | x :: r => let m := dedup r; if m.any fun y => y.eqv x then m else x :: m

/-! ### the language -/
inductive T where | n (i : Nat) | t (l : List Nat) | tn (i : Nat) (l : List Nat)

mutual
inductive E where
  | var (i : Nat) | con (d : D)
  | bin (o : Op) (a b : E) | neg (a : E) | not (a : E) | and (a b : E) | or (a b : E)
  | cmp (o : Cm) (a b : E) | cmp2 (o p : Cm) (a b c : E)
  | idx (a i : E) | sl (a lo hi : E) | rev (a : E)
  | tup (l : Es) | lst (l : Es) | dic (k v : Es) | lrep (l : Es) (b : E) | lcat (a b : E)
  | comp (elt : E) (t : T) (src c : E) (own : List Nat)
  | rng (a b : E) | enu (a : E) | zip (a b : E)
  | call (f : Nat) (l : Es)
  | bi (b : Bi) (l : Es)
  | me (m : Me) (o : E) (l : Es)
  | isa (a : E) (ty : Ty)
  | sset (a : E) | lset (a : E) | sortK (a : E) | keys (a : E)
  | told (e : E) | twice (e : E)
  | get (o : E) (f : Nat) | omt (m : Nat) (o : E) (l : Es) | new (f : Nat) (l : Es)
inductive Es where | nil | cons (e : E) (r : Es)
end

def Es.len : Es → Nat
  | .nil => 0
  | .cons _ r => r.len + 1
/-- a slice's part that is not written -/
def noPart : E → Bool
  | .con .non => true
  | _ => false
def partOk (e : E) (d : D) : M D := if noPart e then pure .non else match d with
  | .int i => pure (.int i)
  | _ => M.bad
def slot (ρ : Env) (i : Nat) : Sl := ρ.getD i .no
/-- a name that holds what may be changed -/
def isOwn (ρ : Env) : E → Bool
  | .var i => match slot ρ i with
    | .ow _ => true
    | _ => false
  | _ => false
def wipeE (ρ : Env) : List Nat → Env
  | [] => ρ
  | i :: r => (wipeE ρ r).set i .no
def setAll : List Nat → List D → Env → Option Env
  | [], [], ρ => some ρ
  | i :: is, d :: ds, ρ => setAll is ds (ρ.set i (.fz d))
  | _, _, _ => none
def T.put : T → D → Env → Option Env
  | .n i, d, ρ => some (ρ.set i (.fz d))
  | .t is, .tup ds, ρ => setAll is ds ρ
  | .tn i is, .tup [x, .tup ds], ρ => setAll is ds (ρ.set i (.fz x))
  | _, _, _ => none
def pairsD (xs ys : List D) : List D := List.zipWith (fun x y => .tup [x, y]) xs ys
def rangeD (a b : Int) : List D := (List.range (b - a).toNat).map fun k => .int (a + (k : Nat))
def enumD (xs : List D) : List D := List.zipWith (fun (k : Nat) x => .tup [.int (k : Int), x]) (List.range xs.length) xs
def rangeOk (a b : Int) : Bool := decide (-(2 ^ 62) ≤ a) && decide (a < 2 ^ 62) && decide (-(2 ^ 62) ≤ b) && decide (b < 2 ^ 62)
def mapM' {α β : Type} (f : α → M β) : List α → M (List β)
  | [] => pure []
  | x :: r => do let y ← f x; let ys ← mapM' f r; pure (y :: ys)
def filtM {α β : Type} (f : α → M (Option β)) : List α → M (List β)
  | [] => pure []
  | x :: r => do
    let y ← f x
    let ys ← filtM f r
    pure (y.toList ++ ys)
def zipDic : List D → List D → Option (List (Ky × D))
  | [], [] => some []
  | k :: ks, v :: vs => match Ky.ofD k, zipDic ks vs with
    | some k, some r => some ((k, v) :: r)
    | _, _ => none
  | _, _ => none
def lrepD (ds : List D) : D → M D
  | .int n => do M.ask (decide (n ≤ 100000) && decide (-100000 ≤ n) && decide (ds.length ≤ 100)); pure (.lst (rep n ds))
  | _ => M.bad
def lcatD : D → D → M D
  | .lst a, .lst b => do M.ask (fits (a ++ b)); pure (.lst (a ++ b))
  | _, _ => M.bad
/-- what is asked of other defs, objects -/
structure Fns where
  call : Nat → List D → M D
  new : Nat → List D → M D

mutual
def ev (fn : Fns) (ρ : Env) : E → M D
  | .var i => match slot ρ i with
    | .no => M.bad
    | .fz d => pure d
    | .ow d => pure d
  | .con d => pure d
  | .bin o a b => do let x ← ev fn ρ a; let y ← ev fn ρ b; o.run x y
  | .neg a => do
    let x ← ev fn ρ a
    match x with
    | .int i => pure (.int (-i))
    | _ => M.bad
  | .not a => do let x ← ev fn ρ a; let b ← x.truthy; pure (.bl (!b))
  | .and a b => do M.ask (!isOwn ρ a && !isOwn ρ b); let x ← ev fn ρ a; let t ← x.truthy; if t then ev fn ρ b else pure x
  | .or a b => do M.ask (!isOwn ρ a && !isOwn ρ b); let x ← ev fn ρ a; let t ← x.truthy; if t then pure x else ev fn ρ b
  | .cmp o a b => do let x ← ev fn ρ a; let y ← ev fn ρ b; let r ← o.run x y; pure (.bl r)
  | .cmp2 o p a b c => do
    let x ← ev fn ρ a
    let y ← ev fn ρ b
    let r ← o.run x y
    if r then do let z ← ev fn ρ c; let q ← p.run y z; pure (.bl q) else pure (.bl false)
  | .idx a i => do let x ← ev fn ρ a; let y ← ev fn ρ i; x.item y
  | .sl a lo hi => do let x ← ev fn ρ a; let y ← ev fn ρ lo; let y ← partOk lo y; let z ← ev fn ρ hi; let z ← partOk hi z; x.slice y z
  | .rev a => do let x ← ev fn ρ a; x.back
  | .tup l => do let ds ← evF fn ρ l; pure (.tup ds)
  | .lst l => do let ds ← evF fn ρ l; pure (.lst ds)
  | .lrep l b => do
    let ds ← evF fn ρ l
    let x ← ev fn ρ b
    lrepD ds x
  | .lcat a b => do let x ← ev fn ρ a; let y ← ev fn ρ b; lcatD x y
  | .dic k v => do let ks ← evF fn ρ k; let vs ← evF fn ρ v; let ps ← M.of (zipDic ks vs); pure (.dct (dictOf ps))
  | .comp elt t src c own => do
    let x ← ev fn ρ src
    let its ← x.items
    M.ask (fits its)
    let r ← filtM (fun d => do
      let ρ' ← M.of (t.put d (wipeE ρ own))
      let b ← (ev fn ρ' c).noX
      let k ← b.truthy.noX
      if k then do M.ask (!isOwn ρ' elt); let y ← (ev fn ρ' elt).noX; pure (some y) else pure none) its
    pure (.lst r)
  | .rng a b => do
    let x ← ev fn ρ a
    let y ← ev fn ρ b
    match x, y with
    | .int i, .int j => do M.ask (rangeOk i j); pure (.lst (rangeD i j))
    | _, _ => M.bad
  | .enu a => do M.ask (!isOwn ρ a); let x ← ev fn ρ a; let its ← x.items; pure (.lst (enumD its))
  | .zip a b => do M.ask (!isOwn ρ a && !isOwn ρ b); let x ← ev fn ρ a; let y ← ev fn ρ b; let xs ← x.items; let ys ← y.items; pure (.lst (pairsD xs ys))
  | .call f l => do let ds ← evF fn ρ l; fn.call f ds
  | .bi b l => do let ds ← evs fn ρ l; b.run ds
  | .me m o l => do let x ← ev fn ρ o; M.ask (m.recv x); let ds ← evs fn ρ l; m.run x ds
  | .isa a ty => do let x ← ev fn ρ a; M.ask (!x.isObj); pure (.bl (ty.run x))
  | .sset a => do let x ← ev fn ρ a; let l ← lstOf x; M.ask (sortOk l && fits l); pure (.lst (sortD (dedup l)))
  | .lset a => do let x ← ev fn ρ a; let l ← lstOf x; M.ask (sortOk l && fits l); pure (.int (dedup l).length)
  | .sortK a => do let x ← ev fn ρ a; let l ← lstOf x; let ss ← M.of (allSome strOf l); M.ask (fits l && ss.all fun s => fits s); pure (.lst ((sortLen ss).map .str))
  | .keys a => do
    let x ← ev fn ρ a
    match x with
    | .dct l => pure (.lst (l.map fun p => p.1.toD))
    | _ => M.bad
  | .told e => fun S => match ev fn ρ e S with
    | .ok d S' => .ok (.tup [.str [116, 111, 108, 100], d]) S'
    | .xc c S' => if 1 ≤ c ∧ c ≤ 5 then .ok (.tup [.str [114, 101, 102, 117, 115, 101, 100], .int ((c : Int) - 1)]) S' else .bad
    | .bad => .bad
  | .twice e => fun S => match ev fn ρ e S with
    | .ok d S' => .ok (.tup [.str [116, 111, 108, 100], d]) S'
    | .xc _ S' => .ok (.tup [.str [114, 101, 102, 117, 115, 101, 100], .non]) S'
    | .bad => .bad
  | .get o f => do
    let x ← ev fn ρ o
    match x with
    | .obj n => fun S => match slot (S.getD n []) f with
      | .no => .bad
      | .fz d => .ok d S
      | .ow d => .ok d S
    | _ => M.bad
  | .omt m o l => do M.ask (!isOwn ρ o); let x ← ev fn ρ o; let ds ← evF fn ρ l; fn.call m (x :: ds)
  | .new f l => do let ds ← evF fn ρ l; fn.new f ds
/-- from the left -/
def evs (fn : Fns) (ρ : Env) : Es → M (List D)
  | .nil => pure []
  | .cons e r => do let x ← ev fn ρ e; let xs ← evs fn ρ r; pure (x :: xs)
/-- .. each for good -/
def evF (fn : Fns) (ρ : Env) : Es → M (List D)
  | .nil => pure []
  | .cons e r => do M.ask (!isOwn ρ e); let x ← ev fn ρ e; let xs ← evF fn ρ r; pure (x :: xs)
end

mutual
inductive S where
  | set (i : Nat) (e : E) | own (i : Nat) (e : E) | tset (is : List Nat) (e : E) | tsetL (is : List Nat) (e : E)
  | par (i j : Nat) (a b : E) | parO (i j : Nat) (a b : E)
  | put (i : Nat) (k e : E) | app (i : Nat) (e : E) | ext (i : Nat) (e : E)
  | fset (o : E) (f : Nat) (e : E) | fown (o : E) (f : Nat) (e : E) | fapp (o : E) (f : Nat) (e : E)
  | exp (e : E) | ife (c : E) (a b : Ss) | for_ (t : T) (src : E) (b : Ss)
  | ret (e : E) | raise (c : Nat) | pass | cont | frz (i : Nat) | never
inductive Ss where | nil | cons (s : S) (r : Ss)
end

/-- how a statement ends -/
inductive O where
  | nx (ρ : Env) (S : Sto) | rt (d : D) (S : Sto) | ct (ρ : Env) (S : Sto) | xc (c : Nat) (S : Sto) | bad
def O.of {α : Type} (x : R α) (f : α → Sto → O) : O := match x with
  | .ok a S => f a S
  | .xc c S => .xc c S
  | .bad => .bad
def O.seq (x : O) (f : Env → Sto → O) : O := match x with
  | .nx ρ S => f ρ S
  | o => o
/-- one turn of a loop behind another -/
def O.turn (x : O) (f : Env → Sto → O) : O := match x with
  | .nx ρ S => f ρ S
  | .ct ρ S => f ρ S
  | o => o
def loopO (t : T) (body : Env → Sto → O) : List D → Env → Sto → O
  | [], ρ, S => .nx ρ S
  | d :: ds, ρ, S => match t.put d ρ with
    | some ρ' => (body ρ' S).turn (loopO t body ds)
    | none => .bad
/-- o[k] = d, o at i -/
def putO (ρ : Env) (i : Nat) (o k d : D) (S : Sto) : O := match o, k with
  | .lst l, .int n => (match ixAt l.length n with
    | some j => .nx (ρ.set i (.ow (.lst (l.set j d)))) S
    | none => .bad)
  | .dct l, k => (match Ky.ofD k with
    | some k => if fits l then .nx (ρ.set i (.ow (.dct (putK k d l)))) S else .bad
    | none => .bad)
  | _, _ => .bad
def setOb (S : Sto) (n f : Nat) (s : Sl) : Sto := S.set n ((S.getD n []).set f s)
mutual
def ex (fn : Fns) : S → Env → Sto → O
  | .set i e, ρ, S => if isOwn ρ e then .bad else .of (ev fn ρ e S) fun d S => .nx (ρ.set i (.fz d)) S
  | .own i e, ρ, S => .of (ev fn ρ e S) fun d S => .nx (ρ.set i (.ow d)) S
  | .tset is e, ρ, S => if isOwn ρ e then .bad else .of (ev fn ρ e S) fun d S => match d with
    | .tup ds => (match setAll is ds ρ with
      | some ρ' => .nx ρ' S
      | none => .bad)
    | _ => .bad
  | .tsetL is e, ρ, S => if isOwn ρ e then .bad else .of (ev fn ρ e S) fun d S => match d with
    | .lst ds => (match setAll is ds ρ with
      | some ρ' => .nx ρ' S
      | none => .bad)
    | _ => .bad
  | .parO i j a b, ρ, S => if isOwn ρ b then .bad else .of (ev fn ρ a S) fun x S => .of (ev fn ρ b S) fun y S => .nx ((ρ.set i (.ow x)).set j (.fz y)) S
  | .par i j a b, ρ, S => if isOwn ρ a || isOwn ρ b then .bad else .of (ev fn ρ a S) fun x S => .of (ev fn ρ b S) fun y S => .nx ((ρ.set i (.fz x)).set j (.fz y)) S
  | .put i k e, ρ, S => match slot ρ i with
    | .ow o => if isOwn ρ e then .bad else .of (ev fn ρ e S) fun d S => .of (ev fn ρ k S) fun k S => putO ρ i o k d S
    | _ => .bad
  | .app i e, ρ, S => match slot ρ i with
    | .ow (.lst l) => if isOwn ρ e then .bad else .of (ev fn ρ e S) fun d S => if fits l then .nx (ρ.set i (.ow (.lst (l ++ [d])))) S else .bad
    | _ => .bad
  | .ext i e, ρ, S => match slot ρ i with
    | .ow (.lst l) => .of (ev fn ρ e S) fun d S => match d with
      | .lst m => if fits (l ++ m) then .nx (ρ.set i (.ow (.lst (l ++ m)))) S else .bad
      | _ => .bad
    | _ => .bad
  | .fset o f e, ρ, S => if isOwn ρ e then .bad else .of (ev fn ρ e S) fun d S => .of (ev fn ρ o S) fun x S => match x with
    | .obj n => .nx ρ (setOb S n f (.fz d))
    | _ => .bad
  | .fown o f e, ρ, S => .of (ev fn ρ e S) fun d S => .of (ev fn ρ o S) fun x S => match x with
    | .obj n => .nx ρ (setOb S n f (.ow d))
    | _ => .bad
  | .fapp o f e, ρ, S => .of (ev fn ρ o S) fun x S => if isOwn ρ e then .bad else .of (ev fn ρ e S) fun d S => match x with
    | .obj n => (match slot (S.getD n []) f with
      | .ow (.lst l) => if fits l then .nx ρ (setOb S n f (.ow (.lst (l ++ [d])))) else .bad
      | _ => .bad)
    | _ => .bad
  | .exp e, ρ, S => .of (ev fn ρ e S) fun _ S => .nx ρ S
  | .ife c a b, ρ, S => .of (ev fn ρ c S) fun d S => .of (d.truthy S) fun k S => if k then exs fn a ρ S else exs fn b ρ S
  | .for_ t src b, ρ, S => if isOwn ρ src then .bad else .of (ev fn ρ src S) fun d S => .of (d.items S) fun its S => loopO t (exs fn b) its ρ S
  | .ret e, ρ, S => if isOwn ρ e then .bad else .of (ev fn ρ e S) fun d S => .rt d S
  | .raise c, _, S => .xc c S
  | .pass, ρ, S => .nx ρ S
  | .cont, ρ, S => .ct ρ S
  | .frz i, ρ, S => match slot ρ i with
    | .ow d => .nx (ρ.set i (.fz d)) S
    | _ => .bad
  | .never, _, _ => .bad
def exs (fn : Fns) : Ss → Env → Sto → O
  | .nil, ρ, S => .nx ρ S
  | .cons s r, ρ, S => (ex fn s ρ S).seq (exs fn r)
end

/-- a def: how many parameters, how many other names, its body -/
structure Df where
  ps : Nat
  ns : Nat
  body : Ss
def O.end_ : O → R D
  | .nx _ S => .ok .non S
  | .rt d S => .ok d S
  | .xc c S => .xc c S
  | _ => .bad
def Df.run (fn : Fns) (df : Df) (ds : List D) : M D := fun S =>
  if ds.length = df.ps then (exs fn df.body (ds.map .fz ++ List.replicate df.ns .no) S).end_ else .bad
/-- a class: how many fields, its __init__ -/
def newOb (call : Nat → List D → M D) (fields : Nat) (f : Nat) (ds : List D) : M D := fun S =>
  match call f (.obj S.length :: ds) (S ++ [List.replicate fields .no]) with
  | .ok .non S' => .ok (.obj S.length) S'
  | .ok _ _ => .bad
  | .xc c S' => .xc c S'
  | .bad => .bad
/-- the program: its defs; fields: of its one class -/
def run (P : Nat → Option Df) (fields : Nat) : Nat → Nat → List D → M D
  | 0, _, _ => M.bad
  | k + 1, f, ds => match P f with
    | some df => df.run ⟨run P fields k, newOb (run P fields k) fields⟩ ds
    | none => M.bad
end TD
end
section
set_option Elab.async false
set_option linter.all false
set_option maxRecDepth 100000
/-! New tuples whose own object is known to have no dict: the rules of HandS once more, with what is laid told so. -/
namespace TD
open PySem L2 PySem.Spec
open PyProof.Rows hiding St

section
variable {X : Cx} {pins : List (Addr × Obj)} {σ : L2.St} {H : Hp} {s : Shared}
/-- a tuple's object -/
abbrev tupO (us : List Value) : Obj := { cls := .type "tuple", data := .seq us.toArray }
/-- a tuple known to have no dict -/
def Tz (o : Obj) (vs : List V) : HO := .frz o (.tup vs)
theorem laidT {us : List Value} {vs : List V} {t' : Nat} (I : L2.Inv X pins σ H s) (r : Vals vs us) (hz : vs.length ≤ sizeLine) :
    L2.Inv X pins σ (upd H s.heap.objs.size (Tz (tupO us) vs)) { s with heap := s.heap.push (tupO us), toks := t' } :=
  I.laid (o := Tz (tupO us) vs) (fun b u e => Heap.get?_push_of_some _ e) (Nat.le_refl _) ⟨Heap.get?_push_size _ rfl, hz, us, r, ⟨_, Heap.get?_push_size _ rfl, rfl, _, rfl⟩⟩
/-- at a new place -/
def NewT (H : Hp) (Q : VK) (vs : List V) : Prop := ∀ p o, H p = none → o.dict = none → Q (.ref p) (upd H p (Tz o vs))
def tTupF (t : TA) : TE := fun σ H Q => t σ H fun xs H1 => xs.length ≤ sizeLine ∧ NewT H1 Q xs
theorem pe_tupF {es : List Expr} {k : Nat} {pos : Pos} {t : TA} (h : PA X es t) : PE X (.Tuple es k pos) (tTupF t) := by
  refine ⟨fun pins s σ H Q I hq => ?_⟩
  refine wpAny_Tuple_spliced (thn (h.run pos pins s σ H _ I hq) fun us s1 ⟨xs, H1, I1, r, z, q⟩ => ⟨by rw [← r.length]; exact z, ?_⟩)
  exact ⟨.ref s1.heap.objs.size, _, laidT (t' := s1.toks) I1 r z, rfl, q _ _ (I1.hok.fresh (Nat.le_refl _)) rfl⟩
def rCatF (K : PySem.W.Frag) : R2 := fun x y H Q => ∃ a b xs ys, x = .ref a ∧ y = .ref b ∧ SqT K H a xs ∧ SqT K H b ys ∧ xs.length + ys.length ≤ sizeLine ∧
  (xs = [] → Q (.ref b) H) ∧ (xs ≠ [] → ys = [] → Q (.ref a) H) ∧ (xs ≠ [] → ys ≠ [] → NewT H Q (xs ++ ys))
theorem op_catF : OpR X (binaryOp .Add) (rCatF X.K) := by
  intro pins s σ H x y v u Q I rx ry h
  obtain ⟨a, b, xs, ys, rfl, rfl, ha, hb, hz, q0, q1, q2⟩ := h
  by_cases hx : xs = []
  · exact op_catA pins s σ H _ _ v u Q I rx ry ⟨a, b, xs, ys, rfl, rfl, ha, hb, hz, q0, q1, fun z => absurd hx z⟩
  · cases rx
    cases ry
    obtain ⟨its, r1, p1, _⟩ := I.tuple ha
    obtain ⟨its2, r2, p2, _⟩ := I.tuple hb
    refine HT.cat_tup p1 p2 (fun z => hx (r1.nil_iff.mp z)) (fun z => ⟨.ref a, H, I, rfl, q1 hx (r2.nil_iff.mp z)⟩) (fun z => ?_) (by rw [← r1.length, ← r2.length]; exact hz)
    exact ⟨.ref s.heap.objs.size, _, laidT (t' := s.toks) I (r1.append r2) (by rw [List.length_append]; exact hz), rfl, q2 hx (fun w => z (r2.nil_iff.mpr w)) _ _ (I.hok.fresh (Nat.le_refl _)) rfl⟩
def rRepF (K : PySem.W.Frag) : R2 := fun x y H Q => ∃ l k xs, x = .ref l ∧ y = .int k ∧ SqT K H l xs ∧ xs ≠ [] ∧ 2 ≤ k ∧ k ≤ 1000 ∧ xs.length ≤ 1000 ∧ NewT H Q (List.replicate k.toNat xs).flatten
theorem op_repF : OpR X (binaryOp .Mult) (rRepF X.K) := by
  intro pins s σ H x y v u Q I rx ry h
  obtain ⟨l, k, xs, rfl, rfl, hT, hne, h1, h2, hz, q⟩ := h
  cases rx
  obtain ⟨t, rfl⟩ := ry
  obtain ⟨its, r, ⟨⟨cls, dd, data, sl⟩, ho, hc, n, hd⟩, hs⟩ := I.tuple hT
  simp only at hc hd
  subst hc hd
  have hle : its.length = xs.length := r.length.symm
  have hn : its ≠ [] := fun e => hne (by
    rw [e] at hle
    exact List.eq_nil_of_length_eq_zero hle.symm)
  have hi : its.toArray.isEmpty = false := by
    cases its with
    | nil => exact absurd rfl hn
    | cons a b => rfl
  have hsz0 : its.toArray.size = xs.length := by rw [List.size_toArray, hle]
  have hm : ((its.toArray.size : Nat) : Int) * k ≤ 1000000 := by
    rw [hsz0]
    have a1 : ((xs.length : Nat) : Int) * k ≤ 1000 * k := Int.mul_le_mul_of_nonneg_right (by omega) (by omega)
    omega
  have flen : (List.replicate k.toNat its).flatten.length ≤ sizeLine := by
    rw [PyProof.Rows.lm_len_rep_flat, hle, sizeLine_eq]
    have a1 : k.toNat * xs.length ≤ 1000 * 1000 := Nat.mul_le_mul (by omega) hz
    omega
  have c0 : (decide (k < -(2 ^ 63)) || decide (k ≥ 2 ^ 63)) = false := by
    rw [decide_eq_false (by omega), decide_eq_false (by omega)] <;> rfl
  have c1 : (its.toArray.isEmpty || k == 1) = false := by
    rw [hi, Bool.false_or]
    exact beq_eq_false_iff_ne.mpr (by omega)
  have c2 : (decide (k ≤ 0) || its.toArray.isEmpty) = false := by
    rw [hi, Bool.or_false]
    exact decide_eq_false (by omega)
  have c4 : Builtin.Tuple.tupleTooMany (((its.toArray.size : Nat) : Int) * k) = false := by
    unfold Builtin.Tuple.tupleTooMany
    rw [sizeLine_eq]
    exact decide_eq_false (by omega)
  refine wpAny_binaryOp_repeat_ref (T := "tuple") (U := "int") (by decide) ⟨_, ho, rfl⟩ (fun s' => typeIs_int s' k t) noFill_tuple_mul F.fills_int_mul F.slot_int_rmul repeat_tuple F.slot_int_index.lookup
    (call_meets F.slot_int_rmul (typeIs_int s k t) F.entry_int_rmul (F.args_int_rmul_2 _ _) (int_rmul_tuple k t l its.toArray n dd sl)
      ⟨ho, rfl, ⟨_, ho, rfl⟩, call_meets F.slot_tuple_mul ⟨_, ho, rfl⟩ F.entry_tuple_mul (F.args_tuple_mul_2 _ _) (tuple_mulW l its.toArray n dd sl k t c0 c1 c2 (by omega) c4 (by rw [size_rep, List.size_toArray]; exact flen)) ⟨ho, ?_⟩⟩)
  rw [size_rep]
  exact ⟨.ref s.heap.objs.size, _, laidT (t' := s.toks) I (r.rep k.toNat) (by rw [PyProof.Rows.lm_len_rep_flat, sizeLine_eq]; have a1 : k.toNat * xs.length ≤ 1000 * 1000 := Nat.mul_le_mul (by omega) hz; omega), rfl, q _ _ (I.hok.fresh (Nat.le_refl _)) rfl⟩
def rSlF (K : PySem.W.Frag) : V → Option Int → Option Int → Hp → VK → Prop := fun x lo hi H Q => ∃ a xs, x = .ref a ∧ SqT K H a xs ∧
  (HT.sIx xs.length 0 lo = 0 ∧ HT.sIx xs.length xs.length hi = xs.length → Q (.ref a) H) ∧ (¬ (HT.sIx xs.length 0 lo = 0 ∧ HT.sIx xs.length xs.length hi = xs.length) → NewT H Q (cutV xs lo hi))
theorem sl_tupF : SlR X (rSlF X.K) := by
  intro pins s σ H x v vl vu lo hi sl Q I rx hs pl pu h
  obtain ⟨a, xs, rfl, hx, q1, q2⟩ := h
  by_cases hw : HT.sIx xs.length 0 lo = 0 ∧ HT.sIx xs.length xs.length hi = xs.length
  · exact sl_tupA pins s σ H _ v vl vu lo hi sl Q I rx hs pl pu ⟨a, xs, rfl, hx, q1, fun z => absurd hw z⟩
  · cases rx
    obtain ⟨its, r, ht, hz⟩ := I.tuple hx
    have hlen : its.toArray.size = xs.length := by rw [List.size_toArray]; exact r.length.symm
    refine ⟨"tuple", _, PyProof.Rows.slot_tuple_getitem.lookup, ht.typeIs, ?_⟩
    refine HT.getItem_tuple_cut ht hs pl pu (by rw [hlen]; exact hw) ?_ (by rw [hlen]; exact hz)
    rw [hlen]
    exact ⟨.ref s.heap.objs.size, _, laidT (t' := s.toks) I ((r.drop (HT.sIx xs.length 0 lo)).take (HT.sIx xs.length xs.length hi - HT.sIx xs.length 0 lo)) (Nat.le_trans (cutV_length xs lo hi) hz), rfl, q2 hw _ _ (I.hok.fresh (Nat.le_refl _)) rfl⟩
/-- tuple(xs) -/
theorem call_tupleF : CallR X (.type "tuple") (fun xs H Q => ∃ p ys, xs = [.ref p] ∧ ((SqL X.K H p ys ∧ NewT H Q ys) ∨ (SqT X.K H p ys ∧ Q (.ref p) H))) := by
  intro pins s σ H xs us Q I r h
  obtain ⟨p, ys, rfl, h⟩ := h
  rcases h with ⟨hq, q⟩ | ⟨hq, q⟩
  · obtain ⟨u, rfl, rx⟩ := vals1 r
    cases rx
    obtain ⟨its, r', pl, hz⟩ := I.list hq
    have hlen := r'.length
    refine call_tuple_list pl.isList (fun h' kp => ?_) (by simp only [List.size_toArray] <;> omega)
    have I1 : L2.Inv X pins σ H { s with heap := h' } := I.kept (t' := s.toks) kp
    exact ⟨.ref h'.objs.size, _, laidT (t' := s.toks) I1 r' hz, rfl, q _ _ (I1.hok.fresh (Nat.le_refl _)) rfl⟩
  · exact call_tupleT pins s σ H _ us Q I r ⟨p, ys, rfl, hq, q⟩
end
/-- a tuple that is known to have no dict -/
def TupAt (K : PySem.W.Frag) (F : Hp) (a : Addr) (vs : List V) : Prop := (∃ o, o.dict = none ∧ F a = some (Tz o vs)) ∨
  ∃ (o : Obj) (its : Array Value) (n : Nat), K.lookup a = some o ∧ o.cls = .type "tuple" ∧ o.dict = none ∧ o.data = .seq its n ∧ its.size ≤ sizeLine ∧ Vals vs its.toList
theorem TupAt.sq {K : PySem.W.Frag} {F : Hp} {a : Addr} {vs : List V} (h : TupAt K F a vs) : SqT K F a vs := by
  rcases h with ⟨o, _, h⟩ | ⟨o, its, n, h1, h2, _, h3, h4, h5⟩
  · exact .inl (.inr ⟨o, h⟩)
  · exact .inr ⟨o, its, n, h1, h2, h3, h4, h5⟩
theorem TupAt.mono {K : PySem.W.Frag} {F F' : Hp} {a : Addr} {vs : List V} (e : ∀ a o, F a = some o → F' a = some o) (h : TupAt K F a vs) : TupAt K F' a vs := h.imp (fun ⟨o, h1, h2⟩ => ⟨o, h1, e _ _ h2⟩) id
end TD
end
section
set_option Elab.async false
set_option linter.all false
/-! How the data stand in the abstract heap; how evaluations are read. -/
namespace TD
open PySem L2

def toS (s : Sx) : Str := ⟨s.toArray⟩
theorem toS_cps (s : Sx) : (toS s).cps.toList = s := by simp [toS]
theorem toS_len (s : Sx) : (toS s).length = s.length := by simp [toS, Str.length]
theorem toS_inj {a b : Sx} (h : toS a = toS b) : a = b := by
  have := congrArg (fun x : Str => x.cps.toList) h
  simpa [toS] using this
theorem toS_app (a b : Sx) : toS a ++ toS b = toS (a ++ b) := by
  show Str.append _ _ = _
  simp [toS, Str.append]
theorem toS_of (x : Str) : toS x.cps.toList = x := by cases x; simp [toS]

def Ky.key : Ky → Key
  | .kI n => .inl n
  | .kS s => .inr (toS s)
theorem Ky.key_inj {a b : Ky} (h : a.key = b.key) : a = b := by
  cases a <;> cases b <;> simp [Ky.key] at h
  · rw [h]
  · rw [toS_inj h]

mutual
/-- the value stands for the datum; F: what never changes; ι: where the objects stand -/
inductive Rep (K : PySem.W.Frag) (F : Hp) (ι : List Addr) : V → D → Prop
  | non : Rep K F ι .non .non
  | bl (b : Bool) : Rep K F ι (.bl b) (.bl b)
  | int (i : Int) : Rep K F ι (.int i) (.int i)
  | str (s : Sx) : Rep K F ι (.str (toS s)) (.str s)
  | tup {a : Addr} {vs : List V} {ds : List D} : TupAt K F a vs → Reps K F ι vs ds → Rep K F ι (.ref a) (.tup ds)
  | lst {a : Addr} {vs : List V} {ds : List D} : SqL K F a vs → Reps K F ι vs ds → Rep K F ι (.ref a) (.lst ds)
  | dct {a : Addr} {kvs : List (Key × V)} {l : List (Ky × D)} : F a = some (.dK kvs) → RepKs K F ι kvs l → Rep K F ι (.ref a) (.dct l)
  | obj {n : Nat} {a : Addr} : ι[n]? = some a → Rep K F ι (.ref a) (.obj n)
inductive Reps (K : PySem.W.Frag) (F : Hp) (ι : List Addr) : List V → List D → Prop
  | nil : Reps K F ι [] []
  | cons {v : V} {d : D} {vs : List V} {ds : List D} : Rep K F ι v d → Reps K F ι vs ds → Reps K F ι (v :: vs) (d :: ds)
inductive RepKs (K : PySem.W.Frag) (F : Hp) (ι : List Addr) : List (Key × V) → List (Ky × D) → Prop
  | nil : RepKs K F ι [] []
  | cons {k : Ky} {v : V} {d : D} {vs : List (Key × V)} {ds : List (Ky × D)} : Rep K F ι v d → RepKs K F ι vs ds → RepKs K F ι ((k.key, v) :: vs) ((k, d) :: ds)
end

/-- more of the heap, all that was stands -/
def Le (F F' : Hp) : Prop := ∀ a o, F a = some o → F' a = some o
theorem Le.refl (F : Hp) : Le F F := fun _ _ h => h
theorem Le.trans {F G H : Hp} (a : Le F G) (b : Le G H) : Le F H := fun x o h => b x o (a x o h)
theorem Le.new {F : Hp} {p : Addr} {o : HO} (h : F p = none) : Le F (upd F p o) := fun b x e => by rw [upd_ne (ne_of_none e h)]; exact e
theorem Le.free {F F' : Hp} (e : Le F F') {l : Addr} (h : F' l = none) : F l = none := by
  cases q : F l with
  | none => rfl
  | some o => rw [e l o q] at h; cases h
theorem Le.up {F H : Hp} (e : Le F H) {p : Addr} {o : HO} : Le (upd F p o) (upd H p o) := fun b x q => by
  by_cases hb : b = p
  · subst hb; rw [upd_same] at q ⊢; exact q
  · rw [upd_ne hb] at q ⊢; exact e _ _ q
theorem Le.rd {F F' : Hp} {a : Addr} {u : HO} (e : Le F F') (h : Rd F a u) : Rd F' a u := by
  rcases h with h | ⟨o, h⟩
  · exact .inl (e _ _ h)
  · exact .inr ⟨o, e _ _ h⟩
theorem Le.sqT {K : PySem.W.Frag} {F F' : Hp} {a : Addr} {xs : List V} (e : Le F F') (h : SqT K F a xs) : SqT K F' a xs := h.imp e.rd id
theorem Le.sqL {K : PySem.W.Frag} {F F' : Hp} {a : Addr} {xs : List V} (e : Le F F') (h : SqL K F a xs) : SqL K F' a xs := h.imp e.rd id

theorem pre_get {α : Type} {l m : List α} (h : l <+: m) {n : Nat} {a : α} (e : l[n]? = some a) : m[n]? = some a := by
  obtain ⟨r, rfl⟩ := h
  rw [List.getElem?_append_left (List.getElem?_eq_some_iff.mp e).1]; exact e
section
variable {K : PySem.W.Frag} {F F' : Hp} {ι ι' : List Addr}
mutual
theorem Rep.mono (e : Le F F') (i : ι <+: ι') : ∀ {v : V} {d : D}, Rep K F ι v d → Rep K F' ι' v d
  | _, _, .non => .non
  | _, _, .bl b => .bl b
  | _, _, .int i => .int i
  | _, _, .str s => .str s
  | _, _, .tup h r => .tup (h.mono e) (Reps.mono e i r)
  | _, _, .lst h r => .lst (e.sqL h) (Reps.mono e i r)
  | _, _, .dct h r => .dct (e _ _ h) (RepKs.mono e i r)
  | _, _, .obj h => .obj (pre_get i h)
theorem Reps.mono (e : Le F F') (i : ι <+: ι') : ∀ {v : List V} {d : List D}, Reps K F ι v d → Reps K F' ι' v d
  | _, _, .nil => .nil
  | _, _, .cons h r => .cons (h.mono e i) (Reps.mono e i r)
theorem RepKs.mono (e : Le F F') (i : ι <+: ι') : ∀ {v : List (Key × V)} {d : List (Ky × D)}, RepKs K F ι v d → RepKs K F' ι' v d
  | _, _, .nil => .nil
  | _, _, .cons h r => .cons (h.mono e i) (RepKs.mono e i r)
end
theorem Reps.length : ∀ {v : List V} {d : List D}, Reps K F ι v d → v.length = d.length
  | _, _, .nil => rfl
  | _, _, .cons _ r => by simp [Reps.length r]
theorem Reps.get : ∀ {vs : List V} {ds : List D} {i : Nat} {v : V}, Reps K F ι vs ds → vs[i]? = some v → ∃ d, ds[i]? = some d ∧ Rep K F ι v d
  | _, _, _, _, .nil, e => by simp at e
  | _, _, 0, _, .cons h _, e => by simp at e; subst e; exact ⟨_, rfl, h⟩
  | _, _, i + 1, v, .cons _ t, e => by
    obtain ⟨d, h1, h2⟩ := Reps.get (i := i) (v := v) t (by simpa using e)
    exact ⟨d, by simpa using h1, h2⟩
theorem Reps.get' : ∀ {vs : List V} {ds : List D} {i : Nat} {d : D}, Reps K F ι vs ds → ds[i]? = some d → ∃ v, vs[i]? = some v ∧ Rep K F ι v d
  | _, _, _, _, .nil, e => by simp at e
  | _, _, 0, _, .cons h _, e => by simp at e; subst e; exact ⟨_, rfl, h⟩
  | _, _, i + 1, v, .cons _ t, e => by
    obtain ⟨d, h1, h2⟩ := Reps.get' (i := i) (d := v) t (by simpa using e)
    exact ⟨d, by simpa using h1, h2⟩
theorem Reps.app : ∀ {vs ws : List V} {ds es : List D}, Reps K F ι vs ds → Reps K F ι ws es → Reps K F ι (vs ++ ws) (ds ++ es)
  | _, _, _, _, .nil, r => r
  | _, _, _, _, .cons h t, r => .cons h (t.app r)
theorem Reps.take : ∀ {vs : List V} {ds : List D} (n : Nat), Reps K F ι vs ds → Reps K F ι (vs.take n) (ds.take n)
  | _, _, 0, _ => .nil
  | _, _, _ + 1, .nil => .nil
  | _, _, n + 1, .cons h t => .cons h (t.take n)
theorem Reps.drop : ∀ {vs : List V} {ds : List D} (n : Nat), Reps K F ι vs ds → Reps K F ι (vs.drop n) (ds.drop n)
  | _, _, 0, r => r
  | _, _, _ + 1, .nil => .nil
  | _, _, n + 1, .cons _ t => t.drop n
theorem Reps.set : ∀ {vs : List V} {ds : List D} {v : V} {d : D} (n : Nat), Rep K F ι v d → Reps K F ι vs ds → Reps K F ι (vs.set n v) (ds.set n d)
  | _, _, _, _, _, _, .nil => .nil
  | _, _, _, _, 0, h, .cons _ t => .cons h t
  | _, _, _, _, n + 1, h, .cons q t => .cons q (t.set n h)
theorem Reps.rev : ∀ {vs : List V} {ds : List D}, Reps K F ι vs ds → Reps K F ι vs.reverse ds.reverse
  | _, _, .nil => .nil
  | _, _, .cons h t => by rw [List.reverse_cons, List.reverse_cons]; exact t.rev.app (.cons h .nil)
theorem Reps.ints : ∀ {vs : List V} {ds : List D} {ns : List Int}, Reps K F ι vs ds → allSome intOf ds = some ns → vs = ns.map V.int
  | _, _, _, .nil, e => by simp [allSome] at e; subst e; rfl
  | _, _, _, .cons (d := d) (ds := ds) h t, e => by
    simp only [allSome] at e
    cases h1 : intOf d with
    | none => rw [h1] at e; simp at e
    | some y =>
      cases h2 : allSome intOf ds with
      | none => rw [h1, h2] at e; simp at e
      | some ys =>
        rw [h1, h2] at e
        simp at e
        subst e
        cases h <;> simp [intOf] at h1
        subst h1
        rw [List.map_cons, t.ints h2]
theorem Reps.bls : ∀ {vs : List V} {ds : List D} {ns : List Bool}, Reps K F ι vs ds → allSome blOf ds = some ns → vs = ns.map V.bl
  | _, _, _, .nil, e => by simp [allSome] at e; subst e; rfl
  | _, _, _, .cons (d := d) (ds := ds) h t, e => by
    simp only [allSome] at e
    cases h1 : blOf d with
    | none => rw [h1] at e; simp at e
    | some y =>
      cases h2 : allSome blOf ds with
      | none => rw [h1, h2] at e; simp at e
      | some ys =>
        rw [h1, h2] at e
        simp at e
        subst e
        cases h <;> simp [blOf] at h1
        subst h1
        rw [List.map_cons, t.bls h2]
theorem Reps.strs : ∀ {vs : List V} {ds : List D} {ns : List Sx}, Reps K F ι vs ds → allSome strOf ds = some ns → vs = (ns.map toS).map V.str
  | _, _, _, .nil, e => by simp [allSome] at e; subst e; rfl
  | _, _, _, .cons (d := d) (ds := ds) h t, e => by
    simp only [allSome] at e
    cases h1 : strOf d with
    | none => rw [h1] at e; simp at e
    | some y =>
      cases h2 : allSome strOf ds with
      | none => rw [h1, h2] at e; simp at e
      | some ys =>
        rw [h1, h2] at e
        simp at e
        subst e
        cases h <;> simp [strOf] at h1
        subst h1
        rw [List.map_cons, List.map_cons, t.strs h2]
end

/-! ### as the library's data -/
mutual
def toPy : D → PyData
  | .non => .none
  | .bl b => .bool b
  | .int i => .int i
  | .str s => .str (toS s)
  | .tup l => .tuple (toPys l)
  | .lst l => .list (toPys l)
  | .dct _ => .none
  | .obj _ => .none
def toPys : List D → List PyData
  | [] => []
  | x :: xs => toPy x :: toPys xs
end
theorem toPys_map : ∀ l : List D, toPys l = l.map toPy
  | [] => by simp [toPys]
  | x :: xs => by simp [toPys, toPys_map xs]
mutual
theorem toPy_plain : ∀ d : D, (toPy d).plain = true
  | .non => by simp [toPy, PyData.plain]
  | .bl _ => by simp [toPy, PyData.plain]
  | .int _ => by simp [toPy, PyData.plain]
  | .str _ => by simp [toPy, PyData.plain]
  | .tup l => by simp [toPy, PyData.plain, toPys_plain l]
  | .lst l => by simp [toPy, PyData.plain, toPys_plain l]
  | .dct _ => by simp [toPy, PyData.plain]
  | .obj _ => by simp [toPy, PyData.plain]
theorem toPys_plain : ∀ l : List D, PyData.plainAll (toPys l) = true
  | [] => by simp [toPys, PyData.plainAll]
  | x :: xs => by simp [toPys, PyData.plainAll, toPy_plain x, toPys_plain xs]
end
section
variable {K : PySem.W.Frag} {F H : Hp} {ι : List Addr}
mutual
theorem Rep.dpN (e : Le F H) : ∀ {v : V} {d : D} (n : Nat), d.okN n = true → Rep K F ι v d → Dp K H v (toPy d)
  | _, _, _, _, .non => .non
  | _, _, _, _, .bl b => .bl b
  | _, _, _, _, .int i => .int i
  | _, _, _, _, .str s => .str _
  | _, _, 0, p, .tup h r => by simp [D.okN] at p
  | _, _, 0, p, .lst h r => by simp [D.okN] at p
  | _, _, n + 1, p, .tup h r => .tup (e.sqT h.sq) (Reps.dpN e n (by simpa only [D.okN] using p) r)
  | _, _, n + 1, p, .lst h r => .lst (e.sqL h) (Reps.dpN e n (by simpa only [D.okN] using p) r)
  | _, _, n, p, .dct h r => by cases n <;> simp [D.okN] at p
  | _, _, n, p, .obj h => by cases n <;> simp [D.okN] at p
theorem Reps.dpN (e : Le F H) : ∀ {v : List V} {d : List D} (n : Nat), d.all (D.okN n) = true → Reps K F ι v d → DpAll K H v (toPys d)
  | _, _, _, _, .nil => .nil
  | _, _, n, p, .cons h r => by
    simp only [List.all_cons, Bool.and_eq_true] at p
    exact .cons (h.dpN e n p.1) (Reps.dpN e n p.2 r)
end
theorem Rep.dp (e : Le F H) {v : V} {d : D} (p : d.plain = true) (r : Rep K F ι v d) : Dp K H v (toPy d) := r.dpN e 30 p
theorem Reps.dp (e : Le F H) {v : List V} {d : List D} (p : plains d = true) (r : Reps K F ι v d) : DpAll K H v (toPys d) := r.dpN e 30 p
end
mutual
theorem depth_le : ∀ (d : D) (n : Nat), d.okN n = true → (toPy d).depth ≤ n
  | .non, n, _ => by simp [toPy, PyData.depth]
  | .bl _, n, _ => by simp [toPy, PyData.depth]
  | .int _, n, _ => by simp [toPy, PyData.depth]
  | .str _, n, _ => by simp [toPy, PyData.depth]
  | .dct _, n, _ => by simp [toPy, PyData.depth]
  | .obj _, n, _ => by simp [toPy, PyData.depth]
  | .tup l, 0, h => by simp [D.okN] at h
  | .lst l, 0, h => by simp [D.okN] at h
  | .tup l, n + 1, h => by
    have := depths_le l n (by simpa only [D.okN] using h)
    simp only [toPy, PyData.depth]; omega
  | .lst l, n + 1, h => by
    have := depths_le l n (by simpa only [D.okN] using h)
    simp only [toPy, PyData.depth]; omega
theorem depths_le : ∀ (l : List D) (n : Nat), l.all (D.okN n) = true → PyData.depthAll (toPys l) ≤ n
  | [], n, _ => by simp [toPys, PyData.depthAll]
  | x :: xs, n, h => by
    simp only [List.all_cons, Bool.and_eq_true] at h
    have h1 := depth_le x n h.1
    have h2 := depths_le xs n h.2
    simp only [toPys, PyData.depthAll]; omega
end
mutual
theorem eqv_pyN : ∀ (a b : D) (n m : Nat), a.okN n = true → b.okN m = true → PyData.eqv (toPy a) (toPy b) = a.eqv b
  | .tup l, .tup m, 0, _, h, _ => by simp [D.okN] at h
  | .lst l, .lst m, 0, _, h, _ => by simp [D.okN] at h
  | .tup l, .tup m, _, 0, _, h => by simp [D.okN] at h
  | .lst l, .lst m, _, 0, _, h => by simp [D.okN] at h
  | .tup l, .tup m, i + 1, j + 1, h, k => by
    simp only [toPy, PyData.eqv, D.eqv]
    exact eqvs_pyN l m i j (by simpa only [D.okN] using h) (by simpa only [D.okN] using k)
  | .lst l, .lst m, i + 1, j + 1, h, k => by
    simp only [toPy, PyData.eqv, D.eqv]
    exact eqvs_pyN l m i j (by simpa only [D.okN] using h) (by simpa only [D.okN] using k)
  | .str a, .str b, _, _, _, _ => by
    simp only [toPy, PyData.eqv, D.eqv]
    by_cases e : a = b
    · subst e; simp
    · have : toS a ≠ toS b := fun q => e (toS_inj q)
      exact (beq_eq_false_iff_ne.mpr this).trans (beq_eq_false_iff_ne.mpr e).symm
  | .non, .non, _, _, _, _ => rfl
  | .bl a, .bl b, _, _, _, _ => rfl
  | .bl a, .int b, _, _, _, _ => by cases a <;> rfl
  | .int a, .bl b, _, _, _, _ => by cases b <;> rfl
  | .int a, .int b, _, _, _, _ => rfl
  | .non, .bl _, _, _, _, _ => rfl
  | .non, .int _, _, _, _, _ => rfl
  | .non, .str _, _, _, _, _ => rfl
  | .non, .tup _, _, _, _, _ => rfl
  | .non, .lst _, _, _, _, _ => rfl
  | .bl _, .non, _, _, _, _ => rfl
  | .bl _, .str _, _, _, _, _ => rfl
  | .bl _, .tup _, _, _, _, _ => rfl
  | .bl _, .lst _, _, _, _, _ => rfl
  | .int _, .non, _, _, _, _ => rfl
  | .int _, .str _, _, _, _, _ => rfl
  | .int _, .tup _, _, _, _, _ => rfl
  | .int _, .lst _, _, _, _, _ => rfl
  | .str _, .non, _, _, _, _ => rfl
  | .str _, .bl _, _, _, _, _ => rfl
  | .str _, .int _, _, _, _, _ => rfl
  | .str _, .tup _, _, _, _, _ => rfl
  | .str _, .lst _, _, _, _, _ => rfl
  | .tup _, .non, _, _, _, _ => rfl
  | .tup _, .bl _, _, _, _, _ => rfl
  | .tup _, .int _, _, _, _, _ => rfl
  | .tup _, .str _, _, _, _, _ => rfl
  | .tup _, .lst _, _, _, _, _ => rfl
  | .lst _, .non, _, _, _, _ => rfl
  | .lst _, .bl _, _, _, _, _ => rfl
  | .lst _, .int _, _, _, _, _ => rfl
  | .lst _, .str _, _, _, _, _ => rfl
  | .lst _, .tup _, _, _, _, _ => rfl
  | .dct _, _, n, _, h, _ => by cases n <;> simp [D.okN] at h
  | .obj _, _, n, _, h, _ => by cases n <;> simp [D.okN] at h
  | _, .dct _, _, n, _, h => by cases n <;> simp [D.okN] at h
  | _, .obj _, _, n, _, h => by cases n <;> simp [D.okN] at h
theorem eqvs_pyN : ∀ (a b : List D) (n m : Nat), a.all (D.okN n) = true → b.all (D.okN m) = true → PyData.eqvAll (toPys a) (toPys b) = eqvs a b
  | [], [], _, _, _, _ => by simp [toPys, PyData.eqvAll, eqvs]
  | [], _ :: _, _, _, _, _ => by simp [toPys, PyData.eqvAll, eqvs]
  | _ :: _, [], _, _, _, _ => by simp [toPys, PyData.eqvAll, eqvs]
  | x :: xs, y :: ys, n, m, h, k => by
    simp only [List.all_cons, Bool.and_eq_true] at h k
    simp only [toPys, PyData.eqvAll, eqvs]
    rw [eqv_pyN x y n m h.1 k.1, eqvs_pyN xs ys n m h.2 k.2]
end
theorem eqv_py (a b : D) (h : a.plain = true) (k : b.plain = true) : PyData.eqv (toPy a) (toPy b) = a.eqv b := eqv_pyN a b 30 30 h k
theorem plain_mem {l : List D} (h : plains l = true) {x : D} (m : x ∈ l) : x.plain = true := List.all_eq_true.mp h x m
theorem okN_mono : ∀ (d : D) (n m : Nat), n ≤ m → d.okN n = true → d.okN m = true
  | .non, n, m, _, _ => by cases m <;> rfl
  | .bl _, n, m, _, _ => by cases m <;> rfl
  | .int _, n, m, _, _ => by cases m <;> rfl
  | .str _, n, m, _, _ => by cases m <;> rfl
  | .dct _, n, _, _, h => by cases n <;> simp [D.okN] at h
  | .obj _, n, _, _, h => by cases n <;> simp [D.okN] at h
  | .tup _, 0, _, _, h => by simp [D.okN] at h
  | .lst _, 0, _, _, h => by simp [D.okN] at h
  | .tup l, n + 1, 0, h, _ => by omega
  | .lst l, n + 1, 0, h, _ => by omega
  | .tup l, n + 1, m + 1, h, k => by
    simp only [D.okN, List.all_eq_true] at k ⊢
    exact fun x hx => okN_mono x n m (by omega) (k x hx)
  | .lst l, n + 1, m + 1, h, k => by
    simp only [D.okN, List.all_eq_true] at k ⊢
    exact fun x hx => okN_mono x n m (by omega) (k x hx)
end TD
end
section
set_option Elab.async false
set_option linter.all false
/-! Worlds, what an evaluation leaves, readings of expressions. -/
namespace TD
open PySem L2

/-- what never changes, where the objects stand, what objects may change -/
structure Wl where
  F : Hp
  ι : List Addr
  m : List Addr
/-- the program behind its top -/
structure Cs where
  P : Program
  w : World
  K : PySem.W.Frag
  mg : Str → Option Value
  base : Heap
  exc : Nat → Addr
  cls : Addr
  fields : List Str
  tabs : List (Addr × Str)

def Cont (K : PySem.W.Frag) (F : Hp) (ι : List Addr) : HO → D → Prop
  | .lst vs, .lst ds => Reps K F ι vs ds
  | .dK kvs, .dct l => RepKs K F ι kvs l
  | _, _ => False
theorem Cont.mono {K : PySem.W.Frag} {F F' : Hp} {ι ι' : List Addr} (e : Le F F') (i : ι <+: ι') {o : HO} {d : D} (h : Cont K F ι o d) : Cont K F' ι' o d := by
  cases o <;> cases d <;> simp only [Cont] at h ⊢
  · exact h.mono e i
  · exact h.mono e i
/-- an object's slot -/
def FldOk (C : Cs) (w : Wl) (H : Hp) (x : Option V) : Sl → Prop
  | .no => x = none
  | .fz d => ∃ v, x = some v ∧ Rep C.K w.F w.ι v d
  | .ow d => ∃ a o, x = some (.ref a) ∧ a ∈ w.m ∧ H a = some o ∧ Cont C.K w.F w.ι o d
structure Obs (C : Cs) (S : Sto) (w : Wl) (H : Hp) : Prop where
  len : w.ι.length = S.length
  nd : w.ι.Nodup
  at_ : ∀ n x, w.ι[n]? = some x → x ∈ w.m ∧ ∃ dx fs, H x = some (.ins C.cls dx fs) ∧ dx ∈ w.m ∧ fs.length < 900 ∧ ∀ j nm, C.fields[j]? = some nm → FldOk C w H (fs.lookup nm) (slot (S.getD n []) j)
  own : ∀ n x n' x' dx fs dx' fs' j j' nm nm' a d d', w.ι[n]? = some x → w.ι[n']? = some x' → H x = some (.ins C.cls dx fs) → H x' = some (.ins C.cls dx' fs') → C.fields[j]? = some nm → C.fields[j']? = some nm' →
    fs.lookup nm = some (.ref a) → fs'.lookup nm' = some (.ref a) → slot (S.getD n []) j = .ow d → slot (S.getD n' []) j' = .ow d' → n = n' ∧ j = j'
/-- no more than a table of code is there -/
def NT (H : Hp) (a : Addr) : Prop := ∀ o, H a = some o → ∃ ps, o = .tbl ps
theorem NT.of {H : Hp} {a : Addr} (h : H a = none) : NT H a := fun o e => by rw [h] at e; cases e
theorem NT.no {H : Hp} {a : Addr} {o : HO} (h : NT H a) (e : H a = some o) (n : ∀ ps, o ≠ .tbl ps) : False := by
  obtain ⟨ps, z⟩ := h o e
  exact n ps z
theorem NT.ex {H : Hp} {a : Addr} (h : ¬ NT H a) : ∃ o, H a = some o ∧ ∀ ps, o ≠ .tbl ps := by
  cases q : H a with
  | none => exact (h (NT.of q)).elim
  | some o =>
    refine ⟨o, rfl, fun ps z => h fun u e => ?_⟩
    rw [q] at e; cases e
    exact ⟨ps, z⟩
theorem Cont.nt {K : PySem.W.Frag} {F : Hp} {ι : List Addr} {o : HO} {d : D} (h : Cont K F ι o d) : ∀ ps, o ≠ .tbl ps := fun ps e => by
  subst e
  cases d <;> exact h
/-- a list or a dict -/
def Lq : HO → Prop
  | .lst _ => True
  | .dK _ => True
  | _ => False
theorem Cont.lq {K : PySem.W.Frag} {F : Hp} {ι : List Addr} {o : HO} {d : D} (h : Cont K F ι o d) : Lq o := by
  cases o <;> cases d <;> first | exact trivial | exact h
structure Wd (C : Cs) (S : Sto) (w : Wl) (H : Hp) : Prop where
  le : Le w.F H
  mF : ∀ a ∈ w.m, w.F a = none
  mT : ∀ a ∈ w.m, ¬ NT H a
  nt : ∀ a ps, w.F a ≠ some (.tbl ps)
  tab : LamX.Tabs C.tabs H
  obs : Obs C S w H
theorem Wd.mH {C : Cs} {S : Sto} {w : Wl} {H : Hp} (h : Wd C S w H) : ∀ a ∈ w.m, H a ≠ none := fun a m e => h.mT a m (NT.of e)
/-- from one state to a later one -/
structure Ext (w : Wl) (H : Hp) (w' : Wl) (H' : Hp) : Prop where
  F : Le w.F w'.F
  kp : ∀ a o, H a = some o → (∀ ps, o ≠ .tbl ps) → a ∉ w.m → H' a = some o
  dom : ∀ a, NT H' a → NT H a
  new : ∀ a, w'.F a ≠ none → w.F a = none → NT H a
  ι : w.ι <+: w'.ι
  m : ∀ a ∈ w.m, a ∈ w'.m
  mn : ∀ a ∈ w'.m, a ∈ w.m ∨ NT H a
theorem Ext.refl (w : Wl) (H : Hp) : Ext w H w H := ⟨Le.refl _, fun _ _ h _ _ => h, fun _ h => h, fun _ h e => absurd e h, List.prefix_rfl, fun _ h => h, fun _ h => .inl h⟩
theorem Ext.trans {w w1 w2 : Wl} {H H1 H2 : Hp} (a : Ext w H w1 H1) (b : Ext w1 H1 w2 H2) : Ext w H w2 H2 where
  F := a.F.trans b.F
  kp := fun x o h n hm => b.kp x o (a.kp x o h n hm) n fun q => (a.mn x q).elim hm fun z => z.no h n
  dom := fun x h => a.dom x (b.dom x h)
  new := fun x h e => by
    cases q : w1.F x with
    | none => exact a.dom x (b.new x h q)
    | some o => exact a.new x (by rw [q]; exact Option.some_ne_none _) e
  ι := a.ι.trans b.ι
  m := fun x h => b.m x (a.m x h)
  mn := fun x h => (b.mn x h).elim (a.mn x) fun z => .inr (a.dom x z)
/-- nothing that was changes; F may grow by what is new -/
structure Grow (w : Wl) (H : Hp) (w' : Wl) (H' : Hp) : Prop where
  f : Le w.F w'.F
  h : Le H H'
  new : ∀ a, w'.F a ≠ none → w.F a = none → H a = none
  up : Le w'.F H'
  ι : w'.ι = w.ι
  m : w'.m = w.m
  nt : ∀ a ps, w'.F a = some (.tbl ps) → w.F a = some (.tbl ps)
theorem Le.nt {H H' : Hp} (h : Le H H') {a : Addr} (n : NT H' a) : NT H a := fun o e => n o (h a o e)
theorem Grow.ext {w w' : Wl} {H H' : Hp} (g : Grow w H w' H') : Ext w H w' H' :=
  ⟨g.f, fun a o h _ _ => g.h a o h, fun a h => g.h.nt h, fun a h e => NT.of (g.new a h e), by rw [g.ι]; exact List.prefix_rfl, fun a h => by rw [g.m]; exact h, fun a h => by rw [g.m] at h; exact .inl h⟩
theorem FldOk.move {C : Cs} {w w' : Wl} {H H' : Hp} (f : Le w.F w'.F) (i : w'.ι = w.ι) (m : w'.m = w.m) (h : ∀ a ∈ w.m, ∀ o, H a = some o → H' a = some o) {x : Option V} : ∀ {s : Sl}, FldOk C w H x s → FldOk C w' H' x s
  | .no, e => e
  | .fz d, ⟨v, e, r⟩ => ⟨v, e, r.mono f (by rw [i]; exact List.prefix_rfl)⟩
  | .ow d, ⟨a, o, e, k, q, c⟩ => ⟨a, o, e, by rw [m]; exact k, h _ k _ q, c.mono f (by rw [i]; exact List.prefix_rfl)⟩
theorem Obs.move {C : Cs} {S : Sto} {w w' : Wl} {H H' : Hp} (f : Le w.F w'.F) (hi : w'.ι = w.ι) (hm : w'.m = w.m) (k : ∀ a ∈ w.m, ∀ o, H a = some o → H' a = some o) (h : Obs C S w H) : Obs C S w' H' := by
  refine ⟨by rw [hi]; exact h.len, by rw [hi]; exact h.nd, fun n x e => ?_, fun n x n' x' dx fs dx' fs' j j' nm nm' a d d' e1 e2 e3 e4 e5 e6 e7 e8 e9 e10 => ?_⟩
  · rw [hi] at e
    obtain ⟨m, dx, fs, h1, h2, h3, h4⟩ := h.at_ n x e
    exact ⟨by rw [hm]; exact m, dx, fs, k _ m _ h1, by rw [hm]; exact h2, h3, fun j nm q => (h4 j nm q).move f hi hm k⟩
  · rw [hi] at e1 e2
    obtain ⟨m, dy, gs, h1, _⟩ := h.at_ n x e1
    obtain ⟨m', dy', gs', h2, _⟩ := h.at_ n' x' e2
    rw [k _ m _ h1] at e3; cases e3
    rw [k _ m' _ h2] at e4; cases e4
    exact h.own n x n' x' _ _ _ _ j j' nm nm' a d d' e1 e2 h1 h2 e5 e6 e7 e8 e9 e10
theorem Obs.grow {C : Cs} {S : Sto} {w w' : Wl} {H H' : Hp} (g : Grow w H w' H') (h : Obs C S w H) : Obs C S w' H' := h.move g.f g.ι g.m fun a _ o e => g.h a o e
theorem Wd.grow {C : Cs} {S : Sto} {w w' : Wl} {H H' : Hp} (g : Grow w H w' H') (h : Wd C S w H) : Wd C S w' H' :=
  ⟨g.up, fun a q => by
    rw [g.m] at q
    cases r : w'.F a with
    | none => rfl
    | some o => exact absurd (g.new a (by rw [r]; exact Option.some_ne_none _) (h.mF a q)) (h.mH a q), fun a q => by
    rw [g.m] at q
    exact fun z => h.mT a q (g.h.nt z), fun a ps e => h.nt a ps (g.nt a ps e), h.tab.ext g.h, h.obs.grow g⟩
theorem Tabs.upd {T : List (Addr × Str)} {H : Hp} {a : Addr} {o : HO} (t : LamX.Tabs T H) (hk : ∀ x, H a = some x → Lq x) : LamX.Tabs T (upd H a o) := fun p hp => by
  obtain ⟨ps, h1, h2, h3⟩ := t p hp
  refine ⟨ps, ?_, h2, fun pos cv hc => ?_⟩
  · rw [upd_ne fun z : p.1 = a => ?_]; exact h1
    rw [z] at h1
    exact hk _ h1
  · obtain ⟨c, e1, e2⟩ := h3 pos cv hc
    refine ⟨c, e1, ?_⟩
    rw [upd_ne fun z : c = a => ?_]; exact e2
    rw [z] at e2
    exact hk _ e2
/-- what is no object's changes -/
theorem Wd.up1 {C : Cs} {S : Sto} {w : Wl} {H : Hp} {a : Addr} {o : HO} (h : Wd C S w H) (hF : w.F a = none) (hm : a ∉ w.m) (hk : ∀ x, H a = some x → Lq x) : Wd C S w (upd H a o) :=
  ⟨fun b x e => by rw [upd_ne (ne_of_none e hF)]; exact h.le b x e, h.mF, fun b q => by
    have e : upd H a o b = H b := upd_ne (fun z : b = a => hm (z ▸ q))
    exact fun z => h.mT b q fun u hu => z u (by rw [e]; exact hu), h.nt, Tabs.upd h.tab hk,
    h.obs.move (Le.refl _) rfl rfl fun b q x e => by rw [upd_ne (fun z : b = a => hm (z ▸ q))]; exact e⟩
theorem Ext.up1 {w w' : Wl} {H H' : Hp} {a : Addr} {o : HO} (e : Ext w H w' H') (h : NT H a) : Ext w H w' (upd H' a o) :=
  ⟨e.F, fun b x q n m => by
    rw [upd_ne (fun z : b = a => h.no (z ▸ q) n)]; exact e.kp b x q n m, fun b q => by
    by_cases hb : b = a
    · rw [hb]; exact h
    · exact e.dom b fun u hu => q u (by rw [upd_ne hb]; exact hu), e.new, e.ι, e.m, e.mn⟩
/-- a new object, for good -/
def Wl.add (w : Wl) (p : Addr) (o : HO) : Wl := { w with F := upd w.F p o }
theorem add_nt {F : Hp} {p : Addr} {o : HO} (ho : ∀ ps, o ≠ .tbl ps) {a : Addr} {ps : Array Value} (h : upd F p o a = some (.tbl ps)) : F a = some (.tbl ps) := by
  by_cases hb : a = p
  · rw [hb, upd_same] at h
    exact absurd (Option.some.inj h) (ho ps)
  · rw [upd_ne hb] at h; exact h
theorem Grow.add {w : Wl} {H : Hp} {p : Addr} {o : HO} (le : Le w.F H) (h : H p = none) (ho : ∀ ps, o ≠ .tbl ps := by exact fun _ z => by cases z) : Grow w H (w.add p o) (upd H p o) :=
  ⟨Le.new (le.free h), Le.new h, fun a q e => by
    by_cases hb : a = p
    · rw [hb]; exact h
    · exact absurd (by show upd w.F p o a = none; rw [upd_ne hb]; exact e) q, le.up, rfl, rfl, fun _ _ e => add_nt ho e⟩
/-- .. that stands already -/
theorem Wd.fix {C : Cs} {S : Sto} {w : Wl} {H : Hp} {a : Addr} {o : HO} (h : Wd C S w H) (hF : w.F a = none) (hH : H a = some o) (hm : a ∉ w.m) (ho : ∀ ps, o ≠ .tbl ps := by exact fun _ z => by cases z) : Wd C S (w.add a o) H :=
  ⟨fun b x e => by
    by_cases hb : b = a
    · subst hb
      have e : upd w.F b o b = some x := e
      rw [upd_same] at e; cases e; exact hH
    · have e : upd w.F a o b = some x := e
      rw [upd_ne hb] at e; exact h.le b x e, fun b q => by show upd w.F a o b = none; rw [upd_ne (fun z : b = a => hm (z ▸ q))]; exact h.mF b q, h.mT, fun b ps e => h.nt b ps (add_nt ho e), h.tab, h.obs.move (Le.new hF) rfl rfl fun b _ x e => e⟩
theorem Ext.fix {w w' : Wl} {H H' : Hp} {a : Addr} {o : HO} (e : Ext w H w' H') (hF : w'.F a = none) (h : NT H a) : Ext w H (w'.add a o) H' :=
  ⟨e.F.trans (Le.new hF), e.kp, e.dom, fun b q z => by
    by_cases hb : b = a
    · rw [hb]; exact h
    · have q : L2.upd w'.F a o b ≠ none := q
      rw [upd_ne hb] at q; exact e.new b q z, e.ι, e.m, e.mn⟩
/-- a new object, not for good -/
theorem Grow.lay {w : Wl} {H : Hp} {p : Addr} {o : HO} (le : Le w.F H) (h : H p = none) : Grow w H w (upd H p o) :=
  ⟨Le.refl _, Le.new h, fun a q e => absurd e q, le.trans (Le.new h), rfl, rfl, fun _ _ e => e⟩
theorem Grow.refl {w : Wl} {H : Hp} (le : Le w.F H) : Grow w H w H := ⟨Le.refl _, Le.refl _, fun a q e => absurd e q, le, rfl, rfl, fun _ _ e => e⟩

/-- a value as it may be looked at now -/
def See (C : Cs) (w : Wl) (H : Hp) (v : V) (d : D) : Prop :=
  Rep C.K w.F w.ι v d ∨ ∃ a o, v = .ref a ∧ H a = some o ∧ a ∉ w.m ∧ Cont C.K w.F w.ι o d
section
variable {C : Cs} {w w' : Wl} {H H' : Hp} {v : V} {d : D} {S : Sto}
theorem Rep.see (h : Rep C.K w.F w.ι v d) : See C w H v d := .inl h
theorem See.ext (e : Ext w H w' H') (h : See C w H v d) : See C w' H' v d := by
  rcases h with h | ⟨a, o, h1, h2, h3, h4⟩
  · exact .inl (h.mono e.F e.ι)
  · exact .inr ⟨a, o, h1, e.kp a o h2 h4.nt h3, fun q => (e.mn a q).elim h3 fun z => z.no h2 h4.nt, h4.mono e.F e.ι⟩
theorem See.lst {ds : List D} (le : Le w.F H) (h : See C w H v (.lst ds)) : ∃ a vs, v = .ref a ∧ SqL C.K H a vs ∧ Reps C.K w.F w.ι vs ds := by
  rcases h with h | ⟨a, o, h1, h2, h3, h4⟩
  · cases h with
    | lst h r => exact ⟨_, _, rfl, le.sqL h, r⟩
  · cases o <;> simp only [Cont] at h4
    exact ⟨a, _, h1, .inl (.inl h2), h4⟩
theorem See.tup {ds : List D} (le : Le w.F H) (h : See C w H v (.tup ds)) : ∃ a vs, v = .ref a ∧ SqT C.K H a vs ∧ Reps C.K w.F w.ι vs ds := by
  rcases h with h | ⟨a, o, h1, h2, h3, h4⟩
  · cases h with
    | tup h r => exact ⟨_, _, rfl, le.sqT h.sq, r⟩
  · cases o <;> simp only [Cont] at h4
theorem See.tupAt {ds : List D} (le : Le w.F H) (h : See C w H v (.tup ds)) : ∃ a vs, v = .ref a ∧ TupAt C.K H a vs ∧ Reps C.K w.F w.ι vs ds := by
  rcases h with h | ⟨a, o, h1, h2, h3, h4⟩
  · cases h with
    | tup h r => exact ⟨_, _, rfl, h.mono le, r⟩
  · cases o <;> simp only [Cont] at h4
theorem See.dct {l : List (Ky × D)} (le : Le w.F H) (h : See C w H v (.dct l)) : ∃ a kvs, v = .ref a ∧ H a = some (.dK kvs) ∧ RepKs C.K w.F w.ι kvs l := by
  rcases h with h | ⟨a, o, h1, h2, h3, h4⟩
  · cases h with
    | dct h r => exact ⟨_, _, rfl, le _ _ h, r⟩
  · cases o <;> simp only [Cont] at h4
    exact ⟨a, _, h1, h2, h4⟩
theorem See.int {i : Int} (h : See C w H v (.int i)) : v = .int i := by
  rcases h with h | ⟨a, o, h1, h2, h3, h4⟩
  · cases h; rfl
  · cases o <;> simp only [Cont] at h4
theorem See.bl {i : Bool} (h : See C w H v (.bl i)) : v = .bl i := by
  rcases h with h | ⟨a, o, h1, h2, h3, h4⟩
  · cases h; rfl
  · cases o <;> simp only [Cont] at h4
theorem See.str {i : Sx} (h : See C w H v (.str i)) : v = .str (toS i) := by
  rcases h with h | ⟨a, o, h1, h2, h3, h4⟩
  · cases h; rfl
  · cases o <;> simp only [Cont] at h4
theorem See.non (h : See C w H v .non) : v = .non := by
  rcases h with h | ⟨a, o, h1, h2, h3, h4⟩
  · cases h; rfl
  · cases o <;> simp only [Cont] at h4
theorem See.obj {n : Nat} (h : See C w H v (.obj n)) : ∃ a, v = .ref a ∧ w.ι[n]? = some a := by
  rcases h with h | ⟨a, o, h1, h2, h3, h4⟩
  · cases h with
    | obj h => exact ⟨_, rfl, h⟩
  · cases o <;> simp only [Cont] at h4
theorem See.dp (le : Le w.F H) (p : d.plain = true) (h : See C w H v d) : Dp C.K H v (toPy d) := by
  rcases h with h | ⟨a, o, h1, h2, h3, h4⟩
  · exact h.dp le p
  · cases o <;> cases d <;> simp only [Cont] at h4
    · subst h1
      exact .lst (SqL.of h2) (h4.dpN le 29 (by simpa only [D.plain, D.okN] using p))
    · simp [D.plain, D.okN] at p
end

/-! ### a def's slots -/
def SlOk (C : Cs) (w : Wl) (H : Hp) (x : Option V) : Sl → Prop
  | .no => True
  | .fz d => ∃ v, x = some v ∧ Rep C.K w.F w.ι v d
  | .ow d => ∃ a o, x = some (.ref a) ∧ H a = some o ∧ w.F a = none ∧ a ∉ w.m ∧ Cont C.K w.F w.ι o d
theorem SlOk.ext {C : Cs} {w w' : Wl} {H H' : Hp} (e : Ext w H w' H') {x : Option V} : ∀ {s : Sl}, SlOk C w H x s → SlOk C w' H' x s
  | .no, _ => trivial
  | .fz d, ⟨v, h, r⟩ => ⟨v, h, r.mono e.F e.ι⟩
  | .ow d, ⟨a, o, h1, h2, h3, h4, h5⟩ => ⟨a, o, h1, e.kp a o h2 h5.nt h4, (by
      cases q : w'.F a with
      | none => rfl
      | some u => exact ((e.new a (by rw [q]; exact Option.some_ne_none _) h3).no h2 h5.nt).elim), fun q => (e.mn a q).elim h4 fun z => z.no h2 h5.nt, h5.mono e.F e.ι⟩
def sAt (σ : St) (i : Nat) : Option V := σ.getD i none
theorem sAt_get {σ : St} {i : Nat} {v : V} (h : sAt σ i = some v) : σ[i]? = some (some v) := by
  unfold sAt at h
  rw [List.getD_eq_getElem?_getD] at h
  cases q : σ[i]? with
  | none => rw [q] at h; cases h
  | some x => rw [q] at h; simp at h; rw [h]
structure Rel (C : Cs) (w0 : Wl) (H0 : Hp) (ρ : Env) (S : Sto) (w : Wl) (σ : St) (H : Hp) : Prop where
  wd : Wd C S w H
  ext : Ext w0 H0 w H
  len : σ.length = ρ.length
  sl : ∀ i, SlOk C w H (sAt σ i) (slot ρ i)
  own : ∀ i j a d e, slot ρ i = .ow d → slot ρ j = .ow e → sAt σ i = some (.ref a) → sAt σ j = some (.ref a) → i = j
  fr : ∀ i a d, slot ρ i = .ow d → sAt σ i = some (.ref a) → NT H0 a
theorem Rel.to {C : Cs} {w0 w w' : Wl} {H0 H H' : Hp} {ρ : Env} {S S' : Sto} {σ : St} (R : Rel C w0 H0 ρ S w σ H) (e : Ext w H w' H') (d : Wd C S' w' H') : Rel C w0 H0 ρ S' w' σ H' :=
  ⟨d, R.ext.trans e, R.len, fun i => (R.sl i).ext e, R.own, R.fr⟩

/-! ### readings -/
/-- what follows an evaluation -/
def Aft (C : Cs) (W : WX) (σ : St) (w : Wl) (H : Hp) {α : Type} (r : R α) (P : α → Wl → Hp → Prop) : Prop := match r with
  | .ok d S' => ∀ H' w', Ext w H w' H' → Wd C S' w' H' → P d w' H'
  | .xc c S' => ∀ H' w', Ext w H w' H' → Wd C S' w' H' → W (.ref (C.exc c)) none σ H'
  | .bad => False
/-- the value is seen; where it is no name's own it may be kept -/
def Got (C : Cs) (own : Bool) (Q : VK) (d : D) (w' : Wl) (H' : Hp) : Prop := ∀ v, See C w' H' v d → (own = false → Rep C.K w'.F w'.ι v d) → Q v H'
def After (C : Cs) (W : WX) (σ : St) (w : Wl) (H : Hp) (own : Bool) (r : R D) (Q : VK) : Prop := Aft C W σ w H r (Got C own Q)
def tE (C : Cs) (W : WX) (fn : Fns) (x : E) : TE := fun σ H Q => ∃ w0 H0 ρ S w, Rel C w0 H0 ρ S w σ H ∧ After C W σ w H (isOwn ρ x) (ev fn ρ x S) Q
/-- a list of them -/
def Sees (C : Cs) (w : Wl) (H : Hp) : List V → List D → Prop
  | [], [] => True
  | v :: vs, d :: ds => See C w H v d ∧ Sees C w H vs ds
  | _, _ => False
def GotL (C : Cs) (good : Bool) (Q : List V → Hp → Prop) (ds : List D) (w' : Wl) (H' : Hp) : Prop := ∀ vs, Sees C w' H' vs ds → (good = true → Reps C.K w'.F w'.ι vs ds) → Q vs H'
def tEs (C : Cs) (W : WX) (fn : Fns) (x : Es) : TA := fun σ H Q => ∃ w0 H0 ρ S w, Rel C w0 H0 ρ S w σ H ∧ Aft C W σ w H (evs fn ρ x S) (GotL C false Q)
def tEF (C : Cs) (W : WX) (fn : Fns) (x : Es) : TA := fun σ H Q => ∃ w0 H0 ρ S w, Rel C w0 H0 ρ S w σ H ∧ Aft C W σ w H (evF fn ρ x S) (GotL C true Q)
/-- a test -/
def tT (C : Cs) (W : WX) (fn : Fns) (x : E) : TT := fun σ H Q => ∃ w0 H0 ρ S w, Rel C w0 H0 ρ S w σ H ∧ Aft C W σ w H ((do let d ← ev fn ρ x; d.truthy) S) fun b _ H' => Q b H'
section
variable {C : Cs} {W : WX} {σ : St} {w w1 : Wl} {H H1 : Hp} {α β : Type}
theorem Aft.later {r : R α} {P : α → Wl → Hp → Prop} (h : Aft C W σ w H r P) (e : Ext w H w1 H1) : Aft C W σ w1 H1 r P := by
  cases r with
  | ok a S => exact fun H' w' x d => h H' w' (e.trans x) d
  | xc c S => exact fun H' w' x d => h H' w' (e.trans x) d
  | bad => exact h
theorem Aft.imp {r : R α} {P P' : α → Wl → Hp → Prop} (h : Aft C W σ w H r P) (i : ∀ a S' w' H', r = .ok a S' → Ext w H w' H' → Wd C S' w' H' → P a w' H' → P' a w' H') : Aft C W σ w H r P' := by
  cases r with
  | ok a S => exact fun H' w' x d => i a S w' H' rfl x d (h H' w' x d)
  | xc c S => exact h
  | bad => exact h
theorem Aft.bind {x : M α} {k : α → M β} {S : Sto} {P : β → Wl → Hp → Prop} (h : Aft C W σ w H (M.bind x k S) P) :
    Aft C W σ w H (x S) fun a w1 H1 => ∃ S1, x S = .ok a S1 ∧ Ext w H w1 H1 ∧ Wd C S1 w1 H1 ∧ Aft C W σ w1 H1 (k a S1) P := by
  unfold M.bind at h
  cases e : x S with
  | ok a S1 =>
    rw [e] at h
    exact fun H' w' x d => ⟨S1, rfl, x, d, h.later x⟩
  | xc c S1 => rw [e] at h; exact h
  | bad => rw [e] at h; exact h
/-- the first of what is evaluated -/
theorem step {w0 : Wl} {H0 : Hp} {ρ : Env} {S : Sto} {fn : Fns} {a : E} {k : D → M β} {P : β → Wl → Hp → Prop} {K : VK} (R : Rel C w0 H0 ρ S w σ H) (af : Aft C W σ w H (M.bind (ev fn ρ a) k S) P)
    (hk : ∀ d S1 v H1 w1, Ext w H w1 H1 → Rel C w0 H0 ρ S1 w1 σ H1 → See C w1 H1 v d → (isOwn ρ a = false → Rep C.K w1.F w1.ι v d) → Aft C W σ w1 H1 (k d S1) P → K v H1) : tE C W fn a σ H K := by
  refine ⟨w0, H0, ρ, S, w, R, ?_⟩
  refine Aft.imp af.bind ?_
  intro d S' w' H' e x wd ⟨S1, e1, x1, wd1, af1⟩ v see rep
  exact hk d S1 v H' w' x1 (R.to x1 wd1) see rep af1
end

theorem PE.wk {X : Cx} {e : Expr} {t t' : TE} (h : PE X e t) (i : ∀ σ H Q, t' σ H Q → t σ H Q) : PE X e t' := ⟨fun pins s σ H Q I q => h.run pins s σ H Q I (i σ H Q q)⟩
theorem PT.wk {X : Cx} {e : Expr} {t t' : TT} (h : PT X e t) (i : ∀ σ H Q, t' σ H Q → t σ H Q) : PT X e t' := ⟨fun pins s σ H Q I q => h.run pins s σ H Q I (i σ H Q q)⟩
theorem PA.wk {X : Cx} {e : List Expr} {t t' : TA} (h : PA X e t) (i : ∀ σ H Q, t' σ H Q → t σ H Q) : PA X e t' := ⟨fun pos pins s σ H Q I q => h.run pos pins s σ H Q I (i σ H Q q)⟩
theorem PS.wk {X : Cx} {e : Stmt} {t t' : TS} (h : PS X e t) (i : ∀ D σ H, t' D σ H → t D σ H) : PS X e t' := ⟨fun pins s σ H D I q => h.run pins s σ H D I (i D σ H q)⟩
theorem PSs.wk {X : Cx} {e : List Stmt} {t t' : TS} (h : PSs X e t) (i : ∀ D σ H, t' D σ H → t D σ H) : PSs X e t' := ⟨fun pins s σ H D I q => h.run pins s σ H D I (i D σ H q)⟩
end TD
end
section
set_option Elab.async false
set_option linter.all false
set_option maxRecDepth 100000
/-! The operators of two values, over data. -/
namespace TD
open PySem L2 PySem.Spec

section
variable {C : Cs} {W : WX} {σ : St} {w : Wl} {H : Hp} {own : Bool} {S : Sto} {Q : VK}
theorem After.val {d : D} {v : V} (h : After C W σ w H own (.ok d S) Q) (wd : Wd C S w H) (r : Rep C.K w.F w.ι v d) : Q v H :=
  h H w (Ext.refl _ _) wd v r.see fun _ => r
theorem After.new {d : D} {p : Addr} {o : HO} (h : After C W σ w H own (.ok d S) Q) (wd : Wd C S w H) (hp : H p = none) (r : Rep C.K (upd w.F p o) w.ι (.ref p) d) (ho : ∀ ps, o ≠ HO.tbl ps := by exact fun _ z => by cases z) : Q (.ref p) (upd H p o) :=
  have g := Grow.add (o := o) wd.le hp ho
  h (upd H p o) (w.add p o) g.ext (wd.grow g) (.ref p) (Rep.see (w := w.add p o) r) fun _ => r
theorem After.ask {α : Type} {b : Bool} {k : M D} {S : Sto} (h : After C W σ w H own (M.bind (M.ask b) (fun _ => k) S) Q) : b = true ∧ After C W σ w H own (k S) Q := by
  cases b with
  | true => exact ⟨rfl, h⟩
  | false => exact h.elim
theorem M.bind_ret {α β : Type} (a : α) (f : α → M β) : M.bind (M.ret a) f = f a := rfl
theorem M.bind_pure {α β : Type} (a : α) (f : α → M β) : M.bind (Pure.pure a) f = f a := rfl
theorem M.do_bind {α β : Type} (x : M α) (f : α → M β) : (x >>= f) = M.bind x f := rfl
theorem M.do_pure {α : Type} (a : α) : (Pure.pure a : M α) = M.ret a := rfl
theorem maxLen_line {n : Nat} (h : n ≤ maxLen) : n ≤ sizeLine := Nat.le_trans h (by decide)
theorem fits_len {α : Type} {l : List α} (h : fits l = true) : l.length ≤ maxLen := of_decide_eq_true h
theorem fits_line {α : Type} {l : List α} (h : fits l = true) : l.length ≤ sizeLine := maxLen_line (fits_len h)
end

/-- what an operator of two values asks -/
def rD (C : Cs) (f : D → D → M D) : R2 := fun x y H Q => ∃ a b w S W σ own, Wd C S w H ∧ See C w H x a ∧ See C w H y b ∧ After C W σ w H own (f a b S) Q

section
variable {X : Cx} {C : Cs}
theorem op_catL : OpR X (binaryOp .Add) (fun x y H Q => ∃ l b xs zs, x = .ref l ∧ y = .ref b ∧ SqL X.K H l xs ∧ SqL X.K H b zs ∧ xs.length + zs.length ≤ sizeLine ∧ ∀ p, H p = none → Q (.ref p) (upd H p (.lst (xs ++ zs)))) := by
  intro pins s σ H x y v u Q I rx ry h
  obtain ⟨l, b, xs, zs, rfl, rfl, hH, hB, hz, q⟩ := h
  cases rx
  cases ry
  obtain ⟨its, r, p1, z⟩ := I.list hH
  obtain ⟨its2, r2, p2, z2⟩ := I.list hB
  have hl := r.length
  have hl2 := r2.length
  obtain ⟨⟨cls, dd, data, sl⟩, n, ho, hc, hdd, hd⟩ := p1
  obtain ⟨⟨cls2, dd2, data2, sl2⟩, n2, ho2, hc2, hdd2, hd2⟩ := p2
  simp only at hc hd hc2 hd2
  subst hc hd hc2 hd2
  have e : its.toArray ++ its2.toArray = (its ++ its2).toArray := by simp
  refine concat_meets ⟨_, ho, rfl⟩ ⟨_, ho2, rfl⟩ noFill_list_add seq_list_add PySem.F.slot_list_add PySem.F.entry_list_add (PySem.F.args_list_add_2 _ _) (PyProof.Rows.list_addW l b its.toArray its2.toArray n n2 dd dd2 sl sl2 (by simp; omega)) ⟨ho, ho2, ?_⟩
  rw [e]
  exact ⟨.ref _, _, I.lnew (t' := s.toks) (r.append r2) (by rw [List.length_append]; omega), rfl, q _ I.fresh⟩
theorem op_mulS : OpR X (binaryOp .Mult) (fun x y H Q => ∃ (i : Sx) (n : Int), x = .str (toS i) ∧ y = .int n ∧ n ≤ 100000 ∧ -100000 ≤ n ∧ i.length ≤ 100 ∧ Q (.str (toS (rep n i))) H) := by
  intro pins s σ H x y v u Q I rx ry h
  obtain ⟨i, n, rfl, rfl, h1, h2, h3, q⟩ := h
  obtain ⟨t, rfl⟩ := rx
  obtain ⟨t', rfl⟩ := ry
  have hlen : (toS i).length = i.length := toS_len i
  have hcap : i.length * n.toNat ≤ 10000000 := by
    have h5 : n.toNat ≤ 100000 := by omega
    exact Nat.le_trans (Nat.mul_le_mul h3 h5) (by decide)
  have hfold : (List.replicate n.toNat (toS i).cps).foldl (· ++ ·) #[] = (rep n i).toArray := by
    unfold rep toS
    generalize n.toNat = m
    have f0 : ∀ (m : Nat) (acc : List Nat), List.foldl (fun x1 x2 => x1 ++ x2) acc.toArray (List.replicate m i.toArray) = (acc ++ (List.replicate m i).flatten).toArray := by
      intro m
      induction m with
      | zero => intro acc; simp
      | succ m ih =>
        intro acc
        rw [List.replicate_succ, List.foldl_cons, List.replicate_succ, List.flatten_cons]
        have := ih (acc ++ i)
        simpa using this
    simpa using f0 m []
  refine PySem.P.mul_str ?_ (fun hn hk => ?_) (fun hn hk => ?_) ?_
  · rw [decide_eq_false (by omega), decide_eq_false (by omega)]; rfl
  · rw [hlen]
    intro hc
    have h6 : (1 : Int) ≤ n := by omega
    have h7 : (2 ^ 63 - 1) / n ≥ (2 ^ 63 - 1) / 100000 := by
      have hp : (0 : Int) < n := by omega
      apply (Int.le_ediv_iff_mul_le hp).mpr
      have : ((2 ^ 63 - 1) / 100000 : Int) * n ≤ ((2 ^ 63 - 1) / 100000 : Int) * 100000 := Int.mul_le_mul_of_nonneg_left h1 (by decide)
      exact Int.le_trans this (by decide)
    have h8 : ((2 ^ 63 - 1) / 100000 : Int) ≥ 100 := by decide
    omega
  · rw [hlen]
    unfold Builtin.Str.tooLong
    simp only [decide_eq_false_iff_not]
    have : sizeLine = 16777216 := sizeLine_eq
    omega
  · split
    · rename_i hn
      have e : rep n i = [] := by
        have : n.toNat = 0 := by omega
        simp [rep, this]
      rw [e] at q
      exact ⟨by decide, .str (toS []), H, I.tok _, ⟨_, rfl⟩, q⟩
    · split
      · rename_i hn hk
        have e : rep n i = i := by
          simp only [Bool.or_eq_true, beq_iff_eq] at hk
          rcases hk with hk | hk
          · subst hk; simp [rep]
          · have : i = [] := by
              rw [hlen] at hk
              exact List.eq_nil_of_length_eq_zero hk
            subst this
            simp [rep]
        rw [e] at q
        exact ⟨.str (toS i), H, I, ⟨_, rfl⟩, q⟩
      · rw [hfold]
        refine ⟨?_, .str (toS (rep n i)), H, I.tok _, ⟨_, rfl⟩, q⟩
        show (rep n i).toArray.size ≤ _
        rw [List.size_toArray]
        have : (rep n i).length = n.toNat * i.length := by simp [rep]
        rw [this, Nat.mul_comm]
        have : sizeLine = 16777216 := sizeLine_eq
        omega
end
end TD
end
section
set_option Elab.async false
set_option linter.all false
set_option maxRecDepth 100000
namespace TD
open PySem L2 PySem.Spec

def Op.py : Op → Operator
  | .add => .Add
  | .sub => .Sub
  | .mul => .Mult
  | .fdiv => .FloorDiv
  | .mod => .Mod
def Cm.py : Cm → CmpOp
  | .eq => .Eq
  | .ne => .NotEq
  | .lt => .Lt
  | .le => .LtE
  | .gt => .Gt
  | .ge => .GtE
  | .isin => .In
  | .notin => .NotIn
  | .is_ => .Is
  | .isnt => .IsNot
section
variable {C : Cs} {W : WX} {σ : St} {w : Wl} {H : Hp} {own : Bool} {S : Sto} {Q : VK} {k : M D}
theorem After.asked {b : Bool} (h : After C W σ w H own ((do M.ask b; k) S) Q) : b = true ∧ After C W σ w H own (k S) Q := After.ask (α := Unit) h
end
theorem ask_and {a b : Bool} (h : (a && b) = true) : a = true ∧ b = true := Bool.and_eq_true_iff.mp h
theorem flat_rep {α : Type} (n : Nat) (l : List α) : (List.replicate n l).flatten.length = n * l.length := by simp

theorem Reps.rep {K : PySem.W.Frag} {F : Hp} {ι : List Addr} {vs : List V} {ds : List D} (r : Reps K F ι vs ds) : ∀ n : Nat, Reps K F ι (List.replicate n vs).flatten (List.replicate n ds).flatten
  | 0 => by simpa using Reps.nil
  | n + 1 => by
    rw [List.replicate_succ, List.replicate_succ, List.flatten_cons, List.flatten_cons]
    exact r.app (r.rep n)
theorem Reps.nilL {K : PySem.W.Frag} {F : Hp} {ι : List Addr} {ds : List D} (r : Reps K F ι [] ds) : ds = [] := by cases r; rfl
theorem Reps.nilR {K : PySem.W.Frag} {F : Hp} {ι : List Addr} {vs : List V} (r : Reps K F ι vs []) : vs = [] := by cases r; rfl

section
variable {X : Cx} {C : Cs}
theorem lstR {pins : List (Addr × Obj)} {σ : St} {H : Hp} {s : Shared} {l : Addr} {xs : List V} (I : L2.Inv X pins σ H s) (hH : Rd H l (.lst xs)) : xs.length ≤ sizeLine ∧ ∃ (its : List Value) (n : Nat), Vals xs its ∧ xs.length = its.length ∧ s.heap.get? l = some { cls := .type "list", data := .seq its.toArray n } := by
  obtain ⟨z, its, n, r, e⟩ := hH.ok I.hok
  exact ⟨z, its, n, r, r.length, e⟩
theorem op_repR : OpR X (binaryOp .Mult) (fun x y H Q => ∃ l k xs, x = .ref l ∧ y = .int k ∧ Rd H l (.lst xs) ∧ -(2 ^ 63) ≤ k ∧ k < 2 ^ 63 ∧ xs.length * k.toNat ≤ sizeLine ∧ ∀ p, H p = none → Q (.ref p) (upd H p (.lst (List.replicate k.toNat xs).flatten))) := by
  intro pins s σ H x y v u Q I rx ry h
  obtain ⟨l, k, xs, rfl, rfl, hH, h1, h2, hz, q⟩ := h
  cases rx
  obtain ⟨t, rfl⟩ := ry
  obtain ⟨z, its, n, r, hl, e⟩ := lstR I hH
  have hlen : its.toArray.size * k.toNat ≤ sizeLine := by rw [List.size_toArray, ← hl]; exact hz
  have hcap : ¬ its.toArray.size * k.toNat > (2 ^ 63 - 1) / 8 := by
    have : (sizeLine : Nat) ≤ (2 ^ 63 - 1) / 8 := by decide
    omega
  have hfit : ¬ (!Builtin.List.listFitsIndex k) = true := by
    rw [fitsIndex_both h1 h2]
    exact Bool.false_ne_true
  have hlong : ¬ Builtin.List.listTooLong (its.toArray.size * k.toNat) = true := by
    rw [notLongL hlen]
    exact Bool.false_ne_true
  have hnew : List.foldl (fun x1 x2 => x1 ++ x2) #[] (List.replicate (if its.toArray.isEmpty = true then 0 else k.toNat) its.toArray) = (List.replicate k.toNat its).flatten.toArray := by
    have f0 : ∀ m : Nat, List.foldl (fun x1 x2 => x1 ++ x2) #[] (List.replicate m its.toArray) = (List.replicate m its).flatten.toArray := fun m => by
      have := foldl_rep its m []
      rw [List.nil_append] at this
      exact this
    rw [f0]
    cases its with
    | nil => simp
    | cons a r' => rw [if_neg (by simp)]
  refine wpAny_binaryOp_repeat_ref (T := "list") (U := "int") (by decide) ⟨_, e, rfl⟩ (fun s' => typeIs_int s' k t) noFill_list_mul F.fills_int_mul F.slot_int_rmul repeat_list F.slot_int_index.lookup
    (call_meets F.slot_int_rmul (typeIs_int s k t) F.entry_int_rmul (F.args_int_rmul_2 _ _) (int___rmul___int_list k t l its.toArray n)
      ⟨e, rfl, ⟨_, e, rfl⟩, call_meets F.slot_list_mul ⟨_, e, rfl⟩ F.entry_list_mul (F.args_list_mul_2 _ _) (AutoListH.list___mul___list_int_3 l its.toArray n k t hfit hcap hlong) ⟨e, ?_⟩⟩)
  rw [hnew]
  exact ⟨.ref _, _, I.lnew (t' := s.toks) (r.rep k.toNat) (by rw [PyProof.Rows.lm_len_rep_flat, Nat.mul_comm]; exact hz), rfl, q _ I.fresh⟩
theorem op_D (hK : X.K = C.K) (hu : X.A.units < cLine) : ∀ o : Op, OpR X (binaryOp o.py) (rD C o.run) := by
  intro o pins s σ H x y v u Q I rx ry h
  obtain ⟨a, b, w, S, W, σ', own, wd, sa, sb, af⟩ := h
  cases o
  case add =>
    cases a <;> cases b <;> first | exact af.elim | skip
    · -- int
      have e1 := sa.int
      have e2 := sb.int
      subst e1 e2
      exact op_add pins s σ H _ _ v u Q I rx ry ⟨_, _, rfl, rfl, After.val af wd (.int _)⟩
    · have e1 := sa.str
      have e2 := sb.str
      subst e1 e2
      obtain ⟨g, af⟩ := After.asked af
      refine op_add_str pins s σ H _ _ v u Q I rx ry ⟨_, _, rfl, rfl, ?_, ?_⟩
      · rw [toS_len, toS_len]
        have := fits_line g
        rwa [List.length_append] at this
      · rw [toS_app]
        exact After.val af wd (.str _)
    · obtain ⟨p, vs, rfl, h1, r1⟩ := sa.tup wd.le
      obtain ⟨q, us, rfl, h2, r2⟩ := sb.tup wd.le
      obtain ⟨g, af⟩ := After.asked af
      have hl : vs.length + us.length ≤ sizeLine := by
        have := fits_line g
        rw [List.length_append] at this
        rw [r1.length, r2.length]; exact this
      have g1 := hK ▸ h1
      have g2 := hK ▸ h2
      refine op_catF pins s σ H _ _ v u Q I rx ry ⟨p, q, vs, us, rfl, rfl, by rw [hK]; exact h1, by rw [hK]; exact h2, hl, fun e => ?_, fun e e2 => ?_, fun e e2 t o ht ho => ?_⟩
      · subst e
        cases r1
        rcases sb with r | ⟨_, o, e, _, _, c⟩
        · exact After.val af wd r
        · cases o <;> simp only [Cont] at c
      · subst e2
        cases r2
        rw [List.append_nil] at af
        rcases sa with r | ⟨_, o, e, _, _, c⟩
        · exact After.val af wd r
        · cases o <;> simp only [Cont] at c
      · exact After.new af wd ht (.tup (.inl ⟨o, ho, upd_same⟩) ((r1.app r2).mono (Le.new (wd.le.free ht)) List.prefix_rfl))
    · obtain ⟨p, vs, rfl, h1, r1⟩ := sa.lst wd.le
      obtain ⟨q, us, rfl, h2, r2⟩ := sb.lst wd.le
      obtain ⟨g, af⟩ := After.asked af
      have hl : vs.length + us.length ≤ sizeLine := by
        have := fits_line g
        rw [List.length_append] at this
        rw [r1.length, r2.length]; exact this
      refine op_catL pins s σ H _ _ v u Q I rx ry ⟨p, q, vs, us, rfl, rfl, by rw [hK]; exact h1, by rw [hK]; exact h2, hl, fun t ht => ?_⟩
      exact After.new af wd ht (.lst (.inl (.inl upd_same)) ((r1.app r2).mono (Le.new (wd.le.free ht)) List.prefix_rfl))
  case sub =>
    cases a <;> cases b <;> first | exact af.elim | skip
    have e1 := sa.int
    have e2 := sb.int
    subst e1 e2
    exact op_sub pins s σ H _ _ v u Q I rx ry ⟨_, _, rfl, rfl, After.val af wd (.int _)⟩
  case mul =>
    cases a <;> cases b <;> first | exact af.elim | skip
    · have e1 := sa.int
      have e2 := sb.int
      subst e1 e2
      obtain ⟨g, af⟩ := After.asked af
      refine op_mul pins s σ H _ _ v u Q I rx ry ⟨_, _, rfl, rfl, ?_, After.val af wd (.int _)⟩
      unfold wideOk at g
      simp only [Bool.or_eq_true, decide_eq_true_eq] at g
      rcases g with g | g
      · exact .inl ⟨by omega, by omega⟩
      · exact .inr ⟨by omega, by omega⟩
    · have e1 := sa.str
      have e2 := sb.int
      subst e1 e2
      obtain ⟨g, af⟩ := After.asked af
      simp only [Bool.and_eq_true, decide_eq_true_eq] at g
      exact op_mulS pins s σ H _ _ v u Q I rx ry ⟨_, _, rfl, rfl, g.1.1, g.1.2, g.2, After.val af wd (.str _)⟩
    · obtain ⟨p, vs, rfl, h1, r1⟩ := sa.tup wd.le
      have e2 := sb.int
      subst e2
      obtain ⟨g, af⟩ := After.asked af
      simp only [Bool.and_eq_true, decide_eq_true_eq, Bool.not_eq_true', List.isEmpty_eq_false_iff] at g
      refine op_repF pins s σ H _ _ v u Q I rx ry ⟨p, _, vs, rfl, rfl, by rw [hK]; exact h1, fun e => ?_, g.1.1.2, g.1.1.1, by rw [r1.length]; exact g.1.2, fun t o ht ho => ?_⟩
      · subst e
        exact g.2 r1.nilL
      · exact After.new af wd ht (.tup (.inl ⟨o, ho, upd_same⟩) ((r1.rep _).mono (Le.new (wd.le.free ht)) List.prefix_rfl))
  case fdiv =>
    cases a <;> cases b <;> first | exact af.elim | skip
    have e1 := sa.int
    have e2 := sb.int
    subst e1 e2
    obtain ⟨g, af⟩ := After.asked af
    simp only [Bool.and_eq_true, decide_eq_true_eq] at g
    exact op_fdiv pins s σ H _ _ v u Q I rx ry ⟨_, _, rfl, rfl, g, After.val af wd (.int _)⟩
  case mod =>
    cases a <;> cases b <;> first | exact af.elim | skip
    have e1 := sa.int
    have e2 := sb.int
    subst e1 e2
    obtain ⟨g, af⟩ := After.asked af
    simp only [decide_eq_true_eq] at g
    exact op_mod pins s σ H _ _ v u Q I rx ry ⟨_, _, rfl, rfl, g, After.val af wd (.int _)⟩
end
end TD
end
section
set_option Elab.async false
set_option linter.all false
set_option maxRecDepth 100000
namespace TD
open PySem L2 PySem.Spec

/-! ### < of alike data -/
mutual
theorem alike_py : ∀ a b : D, a.alike b = true → PySem.W.alike (toPy a) (toPy b) = true
  | .non, .non, _ => by simp [toPy, PySem.W.alike]
  | .bl _, .bl _, _ => by simp [toPy, PySem.W.alike]
  | .int _, .int _, _ => by simp [toPy, PySem.W.alike]
  | .str _, .str _, _ => by simp [toPy, PySem.W.alike]
  | .tup l, .tup m, h => by
    simp only [toPy, PySem.W.alike]
    exact alikes_py l m (by simpa only [D.alike] using h)
  | .lst l, .lst m, h => by
    simp only [toPy, PySem.W.alike]
    exact alikes_py l m (by simpa only [D.alike] using h)
  | .non, .bl _, h => by simp [D.alike] at h
  | .non, .int _, h => by simp [D.alike] at h
  | .non, .str _, h => by simp [D.alike] at h
  | .non, .tup _, h => by simp [D.alike] at h
  | .non, .lst _, h => by simp [D.alike] at h
  | .non, .dct _, h => by simp [D.alike] at h
  | .non, .obj _, h => by simp [D.alike] at h
  | .bl _, .non, h => by simp [D.alike] at h
  | .bl _, .int _, h => by simp [D.alike] at h
  | .bl _, .str _, h => by simp [D.alike] at h
  | .bl _, .tup _, h => by simp [D.alike] at h
  | .bl _, .lst _, h => by simp [D.alike] at h
  | .bl _, .dct _, h => by simp [D.alike] at h
  | .bl _, .obj _, h => by simp [D.alike] at h
  | .int _, .non, h => by simp [D.alike] at h
  | .int _, .bl _, h => by simp [D.alike] at h
  | .int _, .str _, h => by simp [D.alike] at h
  | .int _, .tup _, h => by simp [D.alike] at h
  | .int _, .lst _, h => by simp [D.alike] at h
  | .int _, .dct _, h => by simp [D.alike] at h
  | .int _, .obj _, h => by simp [D.alike] at h
  | .str _, .non, h => by simp [D.alike] at h
  | .str _, .bl _, h => by simp [D.alike] at h
  | .str _, .int _, h => by simp [D.alike] at h
  | .str _, .tup _, h => by simp [D.alike] at h
  | .str _, .lst _, h => by simp [D.alike] at h
  | .str _, .dct _, h => by simp [D.alike] at h
  | .str _, .obj _, h => by simp [D.alike] at h
  | .tup _, .non, h => by simp [D.alike] at h
  | .tup _, .bl _, h => by simp [D.alike] at h
  | .tup _, .int _, h => by simp [D.alike] at h
  | .tup _, .str _, h => by simp [D.alike] at h
  | .tup _, .lst _, h => by simp [D.alike] at h
  | .tup _, .dct _, h => by simp [D.alike] at h
  | .tup _, .obj _, h => by simp [D.alike] at h
  | .lst _, .non, h => by simp [D.alike] at h
  | .lst _, .bl _, h => by simp [D.alike] at h
  | .lst _, .int _, h => by simp [D.alike] at h
  | .lst _, .str _, h => by simp [D.alike] at h
  | .lst _, .tup _, h => by simp [D.alike] at h
  | .lst _, .dct _, h => by simp [D.alike] at h
  | .lst _, .obj _, h => by simp [D.alike] at h
  | .dct _, y, h => by cases y <;> simp [D.alike] at h
  | .obj _, y, h => by cases y <;> simp [D.alike] at h
theorem alikes_py : ∀ a b : List D, alikes a b = true → PySem.W.alikeAll (toPys a) (toPys b) = true
  | [], _, _ => by simp [toPys, PySem.W.alikeAll]
  | _ :: _, [], _ => by simp [toPys, PySem.W.alikeAll]
  | x :: xs, y :: ys, h => by
    simp only [alikes, Bool.and_eq_true] at h
    simp only [toPys, PySem.W.alikeAll, Bool.and_eq_true]
    exact ⟨alike_py x y h.1, alikes_py xs ys h.2⟩
end
mutual
theorem alike_comm : ∀ a b : D, a.alike b = b.alike a
  | .tup l, .tup m => by simp only [D.alike]; exact alikes_comm l m
  | .lst l, .lst m => by simp only [D.alike]; exact alikes_comm l m
  | .non, b => by cases b <;> rfl
  | .bl _, b => by cases b <;> rfl
  | .int _, b => by cases b <;> rfl
  | .str _, b => by cases b <;> rfl
  | .dct _, b => by cases b <;> rfl
  | .obj _, b => by cases b <;> rfl
  | .tup _, .non => rfl
  | .tup _, .bl _ => rfl
  | .tup _, .int _ => rfl
  | .tup _, .str _ => rfl
  | .tup _, .lst _ => rfl
  | .tup _, .dct _ => rfl
  | .tup _, .obj _ => rfl
  | .lst _, .non => rfl
  | .lst _, .bl _ => rfl
  | .lst _, .int _ => rfl
  | .lst _, .str _ => rfl
  | .lst _, .tup _ => rfl
  | .lst _, .dct _ => rfl
  | .lst _, .obj _ => rfl
theorem alikes_comm : ∀ a b : List D, alikes a b = alikes b a
  | [], [] => rfl
  | [], _ :: _ => by simp [alikes]
  | _ :: _, [] => by simp [alikes]
  | x :: xs, y :: ys => by simp only [alikes]; rw [alike_comm x y, alikes_comm xs ys]
end
theorem non_py {a : D} (h : a.isNon = false) (p : a.plain = true) : toPy a ≠ .none := by
  cases a <;> simp [toPy, D.isNon] at h ⊢
  · simp [D.plain, D.okN] at p
  · simp [D.plain, D.okN] at p
mutual
theorem lt_py : ∀ (a b : D) (n m : Nat), a.okN n = true → b.okN m = true → a.alike b = true → PySem.W.dataLt (toPy a) (toPy b) = a.lt b
  | .bl a, .bl b, _, _, _, _, _ => by
    simp only [toPy, D.lt]
    rw [PySem.W.dataLt_bool]; cases a <;> cases b <;> rfl
  | .int a, .int b, _, _, _, _, _ => by
    simp only [toPy, D.lt]
    rw [PySem.W.dataLt_int]
  | .str a, .str b, _, _, _, _, _ => by
    simp only [toPy, D.lt]
    rw [PySem.W.dataLt_str, toS_cps, toS_cps]
  | .non, .non, _, _, _, _, _ => rfl
  | .tup l, _, 0, _, h, _, _ => by simp [D.okN] at h
  | .lst l, _, 0, _, h, _, _ => by simp [D.okN] at h
  | _, .tup l, _, 0, _, h, _ => by simp [D.okN] at h
  | _, .lst l, _, 0, _, h, _ => by simp [D.okN] at h
  | .tup l, .tup k, n + 1, m + 1, h, h', al => by
    simp only [toPy, D.lt]
    rw [PySem.W.dataLt_tuple]
    exact lts_py l k n m (by simpa only [D.okN] using h) (by simpa only [D.okN] using h') (by simpa only [D.alike] using al)
  | .lst l, .lst k, n + 1, m + 1, h, h', al => by
    simp only [toPy, D.lt]
    rw [PySem.W.dataLt_list]
    exact lts_py l k n m (by simpa only [D.okN] using h) (by simpa only [D.okN] using h') (by simpa only [D.alike] using al)
  | .dct _, y, _, _, _, _, h => by cases y <;> simp [D.alike] at h
  | .obj _, y, _, _, _, _, h => by cases y <;> simp [D.alike] at h
  | .non, .bl _, _, _, _, _, h => by simp [D.alike] at h
  | .non, .int _, _, _, _, _, h => by simp [D.alike] at h
  | .non, .str _, _, _, _, _, h => by simp [D.alike] at h
  | .non, .tup _, _, _ + 1, _, _, h => by simp [D.alike] at h
  | .non, .lst _, _, _ + 1, _, _, h => by simp [D.alike] at h
  | .non, .dct _, _, _, _, _, h => by simp [D.alike] at h
  | .non, .obj _, _, _, _, _, h => by simp [D.alike] at h
  | .bl _, .non, _, _, _, _, h => by simp [D.alike] at h
  | .bl _, .int _, _, _, _, _, h => by simp [D.alike] at h
  | .bl _, .str _, _, _, _, _, h => by simp [D.alike] at h
  | .bl _, .tup _, _, _ + 1, _, _, h => by simp [D.alike] at h
  | .bl _, .lst _, _, _ + 1, _, _, h => by simp [D.alike] at h
  | .bl _, .dct _, _, _, _, _, h => by simp [D.alike] at h
  | .bl _, .obj _, _, _, _, _, h => by simp [D.alike] at h
  | .int _, .non, _, _, _, _, h => by simp [D.alike] at h
  | .int _, .bl _, _, _, _, _, h => by simp [D.alike] at h
  | .int _, .str _, _, _, _, _, h => by simp [D.alike] at h
  | .int _, .tup _, _, _ + 1, _, _, h => by simp [D.alike] at h
  | .int _, .lst _, _, _ + 1, _, _, h => by simp [D.alike] at h
  | .int _, .dct _, _, _, _, _, h => by simp [D.alike] at h
  | .int _, .obj _, _, _, _, _, h => by simp [D.alike] at h
  | .str _, .non, _, _, _, _, h => by simp [D.alike] at h
  | .str _, .bl _, _, _, _, _, h => by simp [D.alike] at h
  | .str _, .int _, _, _, _, _, h => by simp [D.alike] at h
  | .str _, .tup _, _, _ + 1, _, _, h => by simp [D.alike] at h
  | .str _, .lst _, _, _ + 1, _, _, h => by simp [D.alike] at h
  | .str _, .dct _, _, _, _, _, h => by simp [D.alike] at h
  | .str _, .obj _, _, _, _, _, h => by simp [D.alike] at h
  | .tup _, .non, _ + 1, _, _, _, h => by simp [D.alike] at h
  | .tup _, .bl _, _ + 1, _, _, _, h => by simp [D.alike] at h
  | .tup _, .int _, _ + 1, _, _, _, h => by simp [D.alike] at h
  | .tup _, .str _, _ + 1, _, _, _, h => by simp [D.alike] at h
  | .tup _, .lst _, _ + 1, _ + 1, _, _, h => by simp [D.alike] at h
  | .tup _, .dct _, _ + 1, _, _, _, h => by simp [D.alike] at h
  | .tup _, .obj _, _ + 1, _, _, _, h => by simp [D.alike] at h
  | .lst _, .non, _ + 1, _, _, _, h => by simp [D.alike] at h
  | .lst _, .bl _, _ + 1, _, _, _, h => by simp [D.alike] at h
  | .lst _, .int _, _ + 1, _, _, _, h => by simp [D.alike] at h
  | .lst _, .str _, _ + 1, _, _, _, h => by simp [D.alike] at h
  | .lst _, .tup _, _ + 1, _ + 1, _, _, h => by simp [D.alike] at h
  | .lst _, .dct _, _ + 1, _, _, _, h => by simp [D.alike] at h
  | .lst _, .obj _, _ + 1, _, _, _, h => by simp [D.alike] at h
theorem lts_py : ∀ (a b : List D) (n m : Nat), a.all (D.okN n) = true → b.all (D.okN m) = true → alikes a b = true → PyProof.Rows.lexLt PyProof.Rows.itemOrd (PySem.W.keyToksAll (toPys a)) (PySem.W.keyToksAll (toPys b)) = lts a b
  | [], [], _, _, _, _, _ => by
    simp only [toPys, PySem.W.keyToksAll, lts]
    rw [PySem.W.lex_one]; rfl
  | [], y :: ys, _, _, _, _, _ => by
    simp only [toPys, PySem.W.keyToksAll, lts]
    rw [PyProof.Rows.lex_diff (by simp)]; rfl
  | x :: xs, [], _, _, _, _, _ => by
    simp only [toPys, PySem.W.keyToksAll, lts]
    rw [PyProof.Rows.lex_diff (by simp)]; rfl
  | x :: xs, y :: ys, n, m, h, h', al => by
    simp only [alikes, Bool.and_eq_true] at al
    simp only [List.all_cons, Bool.and_eq_true] at h h'
    simp only [toPys, lts]
    have ea := alike_py x y al.1
    have ee := eqv_pyN x y n m h.1 h'.1
    cases e : x.eqv y with
    | true =>
      rw [PySem.W.dataLt_all_yes ea (by rw [ee, e]), lts_py xs ys n m h.2 h'.2 al.2]
      simp
    | false =>
      rw [PySem.W.dataLt_all_no ea (by rw [ee, e]), lt_py x y n m h.1 h'.1 al.1]
      simp
end

/-! ### dicts -/
section
variable {K : PySem.W.Frag} {F : Hp} {ι : List Addr}
theorem RepKs.look : ∀ {kvs : List (Key × V)} {l : List (Ky × D)} (k : Ky), RepKs K F ι kvs l → (valV kvs k.key = none ∧ lookK k l = none) ∨ ∃ v d, valV kvs k.key = some v ∧ lookK k l = some d ∧ Rep K F ι v d
  | _, _, k, .nil => .inl ⟨rfl, rfl⟩
  | _, _, k, .cons (k := k') (v := v) (d := d) (vs := vs) (ds := ds) h t => by
    by_cases e : k' = k
    · subst e
      exact .inr ⟨v, d, valV_pos rfl, by simp [lookK], h⟩
    · have e' : ¬ k'.key = k.key := fun q => e (Ky.key_inj q)
      have h1 : lookK k ((k', d) :: ds) = lookK k ds := by simp [lookK, List.find?_cons, e]
      have h2 : valV ((k'.key, v) :: vs) k.key = valV vs k.key := valV_neg e'
      rw [h1, h2]
      exact RepKs.look k t
theorem RepKs.any : ∀ {kvs : List (Key × V)} {l : List (Ky × D)} (k : Ky), RepKs K F ι kvs l → (kvs.any fun p => decide (p.1 = k.key)) = (l.any fun p => decide (p.1 = k))
  | _, _, k, .nil => rfl
  | _, _, k, .cons (k := k') (v := v) (d := d) (vs := vs) (ds := ds) h t => by
    have e : decide (k'.key = k.key) = decide (k' = k) := by
      by_cases e : k' = k
      · subst e; simp
      · have e' : ¬ k'.key = k.key := fun q => e (Ky.key_inj q)
        simp [e, e']
    simp only [List.any_cons, e, RepKs.any k t]
theorem RepKs.mapd : ∀ {kvs : List (Key × V)} {l : List (Ky × D)} {k : Ky} {v : V} {d : D}, RepKs K F ι kvs l → Rep K F ι v d →
    RepKs K F ι (kvs.map fun kv => if kv.1 = k.key then (kv.1, v) else kv) (l.map fun p => if p.1 = k then (p.1, d) else p)
  | _, _, _, _, _, .nil, _ => .nil
  | _, _, k, v', d', .cons (k := k') (v := v) (d := d) (vs := vs) (ds := ds) h t, r => by
    by_cases e : k' = k
    · subst e
      simp only [List.map_cons, if_true]
      exact .cons r (t.mapd r)
    · have e' : ¬ k'.key = k.key := fun q => e (Ky.key_inj q)
      simp only [List.map_cons, if_neg e, if_neg e']
      exact .cons h (t.mapd r)
theorem RepKs.snoc : ∀ {kvs : List (Key × V)} {l : List (Ky × D)} {k : Ky} {v : V} {d : D}, RepKs K F ι kvs l → Rep K F ι v d → RepKs K F ι (kvs ++ [(k.key, v)]) (l ++ [(k, d)])
  | _, _, _, _, _, .nil, r => .cons r .nil
  | _, _, _, _, _, .cons h t, r => .cons h (t.snoc r)
theorem RepKs.put {kvs : List (Key × V)} {l : List (Ky × D)} {k : Ky} {v : V} {d : D} (h : RepKs K F ι kvs l) (r : Rep K F ι v d) : RepKs K F ι (L2.putK kvs k.key v) (TD.putK k d l) := by
  unfold L2.putK TD.putK
  rw [h.any k]
  split
  · exact h.mapd r
  · exact h.snoc r
theorem RepKs.length : ∀ {kvs : List (Key × V)} {l : List (Ky × D)}, RepKs K F ι kvs l → kvs.length = l.length
  | _, _, .nil => rfl
  | _, _, .cons _ t => by simp [t.length]
theorem RepKs.keys : ∀ {kvs : List (Key × V)} {l : List (Ky × D)}, RepKs K F ι kvs l → Reps K F ι (kvs.map fun kv => kV kv.1) (l.map fun p => p.1.toD)
  | _, _, .nil => .nil
  | _, _, .cons (k := k) h t => by
    refine .cons ?_ t.keys
    cases k with
    | kI n => exact .int n
    | kS x => exact .str x
end
theorem kV_of {C : Cs} {w : Wl} {H : Hp} {v : V} {d : D} {k : Ky} (s : See C w H v d) (h : Ky.ofD d = some k) : v = kV k.key := by
  cases d <;> simp [Ky.ofD] at h
  · subst h; exact s.int
  · subst h; exact s.str

/-! ### comparisons -/
def rC (C : Cs) (f : D → D → M Bool) : R2 := fun x y H Q => ∃ a b w S W σ own, Wd C S w H ∧ See C w H x a ∧ See C w H y b ∧ After C W σ w H own ((do let r ← f a b; pure (D.bl r)) S) Q
section
variable {X : Cx} {C : Cs}
theorem sees {pins : List (Addr × Obj)} {s : Shared} {σ : St} {H : Hp} {w : Wl} {v : V} {d : D} {u : Value} (hK : X.K = C.K) (I : L2.Inv X pins σ H s) (le : Le w.F H) (h : See C w H v d) (p : d.plain = true) (r : RelV v u) : ∃ as, Reads s.heap u (toPy d) as :=
  Dp.reads I _ _ _ (by rw [hK]; exact h.dp le p) r
theorem fin_b {pins : List (Addr × Obj)} {σ : St} {H : Hp} {s : Shared} {Q : VK} {k : Bool} (I : L2.Inv X pins σ H s) (q : Q (.bl k) H) : EP X pins σ Q (.bool k) s := ⟨.bl k, H, I, rfl, q⟩
theorem plain_depth {d : D} (h : d.plain = true) : (toPy d).depth ≤ 30 := depth_le d 30 h
theorem plains_depth {d : List D} (h : plains d = true) : PyData.depthAll (toPys d) ≤ 30 := depths_le d 30 h
theorem any_py {l : List D} {x : D} (h : plains l = true) (p : x.plain = true) : ((toPys l).any fun y => PyData.eqv y (toPy x)) = l.any fun y => y.eqv x := by
  rw [toPys_map, List.any_map]
  have : ∀ l : List D, plains l = true → (l.any ((fun y => PyData.eqv y (toPy x)) ∘ toPy)) = l.any fun y => y.eqv x := by
    intro l
    induction l with
    | nil => intro _; rfl
    | cons y r ih =>
      intro h
      simp only [plains, List.all_cons, Bool.and_eq_true] at h
      simp only [List.any_cons, Function.comp, eqv_py y x h.1 p]
      rw [← ih h.2]
  exact this l h
theorem cm_in (hK : X.K = C.K) (hu : X.A.units + 64 < cLine) : OpR X (compareOp .In) (rC C isIn) := by
  intro pins s σ H x y v u Q I rx ry h
  obtain ⟨a, b, w, S, W, σ', own, wd, sa, sb, af⟩ := h
  cases b <;> try exact af.elim
  case str z =>
    cases a <;> try exact af.elim
    rename_i t
    cases t with
    | nil => exact af.elim
    | cons c r =>
      cases r with
      | cons _ _ => exact af.elim
      | nil =>
        have e1 := sa.str
        have e2 := sb.str
        subst e1 e2
        refine op_in_sign pins s σ H _ _ v u Q I rx ry ⟨c, toS z, rfl, rfl, ?_⟩
        rw [toS_cps]
        have := After.val af wd (.bl _)
        rw [List.elem_eq_contains, List.contains_eq_mem] at this
        exact this
  case tup l =>
    obtain ⟨g, af⟩ : (a.plain && plains l) = true ∧ After C W σ' w H own (.ok (D.bl (l.any fun y => y.eqv a)) S) Q := by
      cases g : (a.plain && plains l) with
      | true => simp only [isIn, g] at af; exact ⟨rfl, af⟩
      | false => simp only [isIn, g] at af; exact af.elim
    obtain ⟨g1, g2⟩ := ask_and g
    obtain ⟨as, ra⟩ := sees hK I wd.le sa g1 rx
    have pt : (D.tup l).plain = true ∨ True := .inr trivial
    obtain ⟨p, vs, rfl, h1, r1⟩ := sb.tup wd.le
    obtain ⟨bs, rb⟩ := Dp.reads I (.tuple (toPys l)) (.ref p) u (.tup (by rw [hK]; exact h1) (by rw [hK]; exact r1.dp wd.le g2)) ry
    refine SeqAt.in_tuple_data rb ra (toPys_plain l) (toPy_plain a) ?_ (fin_b I ?_)
    · have := plain_depth g1
      omega
    · rw [any_py g2 g1]
      exact After.val af wd (.bl _)
  case lst l =>
    obtain ⟨g, af⟩ : (a.plain && plains l) = true ∧ After C W σ' w H own (.ok (D.bl (l.any fun y => y.eqv a)) S) Q := by
      cases g : (a.plain && plains l) with
      | true => simp only [isIn, g] at af; exact ⟨rfl, af⟩
      | false => simp only [isIn, g] at af; exact af.elim
    obtain ⟨g1, g2⟩ := ask_and g
    obtain ⟨as, ra⟩ := sees hK I wd.le sa g1 rx
    obtain ⟨p, vs, rfl, h1, r1⟩ := sb.lst wd.le
    obtain ⟨bs, rb⟩ := Dp.reads I (.list (toPys l)) (.ref p) u (.lst (by rw [hK]; exact h1) (by rw [hK]; exact r1.dp wd.le g2)) ry
    refine SeqAt.in_list_data rb ra (toPys_plain l) (toPy_plain a) ?_ (fin_b I ?_)
    · have := plain_depth g1
      omega
    · rw [any_py g2 g1]
      exact After.val af wd (.bl _)
  case dct l =>
    cases hk : Ky.ofD a with
    | none => simp only [isIn, hk] at af; exact af.elim
    | some k =>
      simp only [isIn, hk] at af
      have ek := kV_of sa hk
      subst ek
      obtain ⟨p, kvs, rfl, h1, r1⟩ := sb.dct wd.le
      obtain rfl : u = Value.ref p := ry
      refine d_in (by omega) I (DGet.k (k := k.key) h1) rx fun s3 I3 => ⟨.bl _, H, I3, rfl, ?_⟩
      have e : (valV kvs k.key).isSome = (lookK k l).isSome := by
        rcases r1.look k with ⟨e1, e2⟩ | ⟨v, d, e1, e2, _⟩ <;> rw [e1, e2] <;> rfl
      rw [e]
      exact After.val af wd (.bl _)
theorem cm_notIn (hK : X.K = C.K) (hu : X.A.units + 64 < cLine) : OpR X (compareOp .NotIn) (rC C fun a b => do let r ← isIn a b; pure (!r)) := by
  intro pins s σ H x y v u Q I rx ry h
  obtain ⟨a, b, w, S, W, σ', own, wd, sa, sb, af⟩ := h
  cases b <;> try exact af.elim
  case str z =>
    cases a <;> try exact af.elim
    rename_i t
    cases t with
    | nil => exact af.elim
    | cons c r =>
      cases r with
      | cons _ _ => exact af.elim
      | nil =>
        have e1 := sa.str
        have e2 := sb.str
        subst e1 e2
        refine op_notIn_sign pins s σ H _ _ v u Q I rx ry ⟨c, toS z, rfl, rfl, ?_⟩
        rw [toS_cps]
        have := After.val af wd (.bl _)
        rw [List.elem_eq_contains, List.contains_eq_mem] at this
        exact this
  case tup l =>
    obtain ⟨g, af⟩ : (a.plain && plains l) = true ∧ After C W σ' w H own (.ok (D.bl (!l.any fun y => y.eqv a)) S) Q := by
      cases g : (a.plain && plains l) with
      | true => simp only [isIn, g] at af; exact ⟨rfl, af⟩
      | false => simp only [isIn, g] at af; exact af.elim
    obtain ⟨g1, g2⟩ := ask_and g
    obtain ⟨as, ra⟩ := sees hK I wd.le sa g1 rx
    obtain ⟨p, vs, rfl, h1, r1⟩ := sb.tup wd.le
    obtain ⟨bs, rb⟩ := Dp.reads I (.tuple (toPys l)) (.ref p) u (.tup (by rw [hK]; exact h1) (by rw [hK]; exact r1.dp wd.le g2)) ry
    refine SeqAt.notIn_tuple_data rb ra (toPys_plain l) (toPy_plain a) ?_ (fin_b I ?_)
    · have := plain_depth g1
      omega
    · rw [any_py g2 g1]
      exact After.val af wd (.bl _)
  case lst l =>
    obtain ⟨g, af⟩ : (a.plain && plains l) = true ∧ After C W σ' w H own (.ok (D.bl (!l.any fun y => y.eqv a)) S) Q := by
      cases g : (a.plain && plains l) with
      | true => simp only [isIn, g] at af; exact ⟨rfl, af⟩
      | false => simp only [isIn, g] at af; exact af.elim
    obtain ⟨g1, g2⟩ := ask_and g
    obtain ⟨as, ra⟩ := sees hK I wd.le sa g1 rx
    obtain ⟨p, vs, rfl, h1, r1⟩ := sb.lst wd.le
    obtain ⟨bs, rb⟩ := Dp.reads I (.list (toPys l)) (.ref p) u (.lst (by rw [hK]; exact h1) (by rw [hK]; exact r1.dp wd.le g2)) ry
    refine SeqAt.notIn_list_data rb ra (toPys_plain l) (toPy_plain a) ?_ (fin_b I ?_)
    · have := plain_depth g1
      omega
    · rw [any_py g2 g1]
      exact After.val af wd (.bl _)
  case dct l =>
    cases hk : Ky.ofD a with
    | none => simp only [isIn, hk] at af; exact af.elim
    | some k =>
      simp only [isIn, hk] at af
      have ek := kV_of sa hk
      subst ek
      obtain ⟨p, kvs, rfl, h1, r1⟩ := sb.dct wd.le
      obtain rfl : u = Value.ref p := ry
      refine d_notIn (by omega) I (DGet.k (k := k.key) h1) rx fun s3 I3 => ⟨.bl _, H, I3, rfl, ?_⟩
      have e : (valV kvs k.key).isSome = (lookK k l).isSome := by
        rcases r1.look k with ⟨e1, e2⟩ | ⟨v, d, e1, e2, _⟩ <;> rw [e1, e2] <;> rfl
      rw [e]
      exact After.val af wd (.bl _)
theorem asked2 {W : WX} {σ : St} {w : Wl} {H : Hp} {own : Bool} {S : Sto} {Q : VK} {b : Bool} {d : Bool} (af : After C W σ w H own ((do let r ← (do M.ask b; pure d); pure (D.bl r)) S) Q) : b = true ∧ After C W σ w H own (.ok (D.bl d) S) Q := by
  cases b with
  | true => exact ⟨rfl, af⟩
  | false => exact af.elim
theorem min_le {a b : Nat} (h : a ≤ 30) : min a b ≤ 30 := Nat.le_trans (Nat.min_le_left _ _) h
theorem cm_D (hK : X.K = C.K) (hu : X.A.units + 64 < cLine) : ∀ o : Cm, OpR X (compareOp o.py) (rC C o.run) := by
  intro o
  cases o
  case isin => exact cm_in hK hu
  case notin => exact cm_notIn hK hu
  all_goals
    intro pins s σ H x y v u Q I rx ry h
    obtain ⟨a, b, w, S, W, σ', own, wd, sa, sb, af⟩ := h
  case eq =>
    obtain ⟨g, af⟩ := asked2 af
    obtain ⟨g1, g2⟩ := ask_and g
    obtain ⟨as, ra⟩ := sees hK I wd.le sa g1 rx
    obtain ⟨bs, rb⟩ := sees hK I wd.le sb g2 ry
    refine SeqAt.eq_plain ra rb (toPy_plain a) (toPy_plain b) ?_ (fin_b I ?_)
    · have := min_le (b := (toPy b).depth) (plain_depth g1)
      omega
    · rw [eqv_py a b g1 g2]
      exact After.val af wd (.bl _)
  case ne =>
    obtain ⟨g, af⟩ := asked2 af
    obtain ⟨g1, g2⟩ := ask_and g
    obtain ⟨as, ra⟩ := sees hK I wd.le sa g1 rx
    obtain ⟨bs, rb⟩ := sees hK I wd.le sb g2 ry
    refine SeqAt.ne_plain ra rb (toPy_plain a) (toPy_plain b) ?_ (fin_b I ?_)
    · have := min_le (b := (toPy b).depth) (plain_depth g1)
      omega
    · rw [eqv_py a b g1 g2]
      exact After.val af wd (.bl _)
  case lt =>
    obtain ⟨g, af⟩ := asked2 af
    simp only [Bool.and_eq_true, Bool.not_eq_true'] at g
    obtain ⟨⟨⟨g1, g2⟩, g3⟩, g4⟩ := g
    obtain ⟨as, ra⟩ := sees hK I wd.le sa g1 rx
    obtain ⟨bs, rb⟩ := sees hK I wd.le sb g2 ry
    refine PySem.W.lt_data ra rb (alike_py a b g3) (non_py g4 g1) ?_ (fin_b I ?_)
    · have := min_le (b := (toPy b).depth) (plain_depth g1)
      omega
    · rw [lt_py a b 30 30 g1 g2 g3]
      exact After.val af wd (.bl _)
  case le =>
    obtain ⟨g, af⟩ := asked2 af
    simp only [Bool.and_eq_true, Bool.not_eq_true'] at g
    obtain ⟨⟨⟨g1, g2⟩, g3⟩, g4⟩ := g
    obtain ⟨as, ra⟩ := sees hK I wd.le sa g1 rx
    obtain ⟨bs, rb⟩ := sees hK I wd.le sb g2 ry
    refine PySem.W.le_data ra rb (alike_py a b g3) (non_py g4 g1) ?_ (fin_b I ?_)
    · have := min_le (b := (toPy b).depth) (plain_depth g1)
      omega
    · rw [lt_py b a 30 30 g2 g1 (by rw [alike_comm]; exact g3)]
      exact After.val af wd (.bl _)
  case gt =>
    obtain ⟨g, af⟩ := asked2 af
    simp only [Bool.and_eq_true, Bool.not_eq_true'] at g
    obtain ⟨⟨⟨g1, g2⟩, g3⟩, g4⟩ := g
    obtain ⟨as, ra⟩ := sees hK I wd.le sa g1 rx
    obtain ⟨bs, rb⟩ := sees hK I wd.le sb g2 ry
    refine PySem.W.gt_data ra rb (alike_py a b g3) (non_py g4 g1) ?_ (fin_b I ?_)
    · have := min_le (b := (toPy b).depth) (plain_depth g1)
      omega
    · rw [lt_py b a 30 30 g2 g1 (by rw [alike_comm]; exact g3)]
      exact After.val af wd (.bl _)
  case ge =>
    obtain ⟨g, af⟩ := asked2 af
    simp only [Bool.and_eq_true, Bool.not_eq_true'] at g
    obtain ⟨⟨⟨g1, g2⟩, g3⟩, g4⟩ := g
    obtain ⟨as, ra⟩ := sees hK I wd.le sa g1 rx
    obtain ⟨bs, rb⟩ := sees hK I wd.le sb g2 ry
    refine PySem.W.ge_data ra rb (alike_py a b g3) (non_py g4 g1) ?_ (fin_b I ?_)
    · have := min_le (b := (toPy b).depth) (plain_depth g1)
      omega
    · rw [lt_py a b 30 30 g1 g2 g3]
      exact After.val af wd (.bl _)
  case is_ =>
    cases b with
    | non =>
      have e2 := sb.non
      subst e2
      refine op_isN pins s σ H _ _ v u Q I rx ry ⟨rfl, ?_⟩
      have e : decide (x = V.non) = a.isNon := by
        cases a <;> try exact decide_eq_true sa.non
        all_goals
          refine decide_eq_false fun e => ?_
          subst e
        · exact nomatch sa.bl
        · exact nomatch sa.int
        · exact nomatch sa.str
        · obtain ⟨_, _, e, _⟩ := sa.tup wd.le; exact nomatch e
        · obtain ⟨_, _, e, _⟩ := sa.lst wd.le; exact nomatch e
        · obtain ⟨_, _, e, _⟩ := sa.dct wd.le; exact nomatch e
        · obtain ⟨_, e, _⟩ := sa.obj; exact nomatch e
      rw [e]
      cases a <;> exact After.val af wd (.bl _)
    | bl k =>
      cases a <;> try exact af.elim
      have e1 := sa.bl
      have e2 := sb.bl
      subst e1 e2
      refine op_isBl pins s σ H _ _ v u Q I rx ry ⟨_, _, rfl, rfl, ?_⟩
      have := After.val af wd (.bl _)
      rw [Bool.beq_eq_decide_eq] at this
      exact this
    | _ => cases a <;> exact af.elim
  case isnt =>
    cases b with
    | non =>
      have e2 := sb.non
      subst e2
      refine op_notN pins s σ H _ _ v u Q I rx ry ⟨rfl, ?_⟩
      have e : decide (x = V.non) = a.isNon := by
        cases a <;> try exact decide_eq_true sa.non
        all_goals
          refine decide_eq_false fun e => ?_
          subst e
        · exact nomatch sa.bl
        · exact nomatch sa.int
        · exact nomatch sa.str
        · obtain ⟨_, _, e, _⟩ := sa.tup wd.le; exact nomatch e
        · obtain ⟨_, _, e, _⟩ := sa.lst wd.le; exact nomatch e
        · obtain ⟨_, _, e, _⟩ := sa.dct wd.le; exact nomatch e
        · obtain ⟨_, e, _⟩ := sa.obj; exact nomatch e
      rw [e]
      cases a <;> exact After.val af wd (.bl _)
    | bl k =>
      cases a <;> try exact af.elim
      have e1 := sa.bl
      have e2 := sb.bl
      subst e1 e2
      refine op_notBl pins s σ H _ _ v u Q I rx ry ⟨_, _, rfl, rfl, ?_⟩
      have := After.val af wd (.bl _)
      rw [bne, Bool.beq_eq_decide_eq] at this
      exact this
    | _ => cases a <;> exact af.elim
end
end TD
end
section
set_option Elab.async false
set_option linter.all false
set_option maxRecDepth 100000
/-! Expressions: from the readings of the hand layer to the evaluator. -/
namespace TD
open PySem L2 PySem.Spec
open PyProof.Rows hiding St

/-- where a block of code stands -/
structure Ck where
  N : List Str
  sc : Scope
  fnv : Str → Bool
structure XOk (C : Cs) (c : Ck) (kk : Nat) (W : WX) (X : Cx) : Prop where
  prog : X.prog = C.P
  w : X.w = C.w
  mg : X.mg = C.mg
  base : X.base = C.base
  K : X.K = C.K
  sc : X.env.scope = c.sc
  N : X.N = c.N
  nd : c.N.Nodup
  fnv : X.fn = c.fnv
  calm : X.calm = true
  tk : Takes X W
  hr : Room kk X.A
theorem XOk.hu {C : Cs} {c : Ck} {kk : Nat} {W : WX} {X : Cx} (h : XOk C c kk W X) : X.A.units + 64 < cLine := h.hr.units
def visB (sc : Scope) (x : Str) : Bool := match sc.names.lookup x with
  | some .local => true
  | some .cell => true
  | some .free => true
  | _ => false
theorem vis_of {sc : Scope} {x : Str} (h : visB sc x = true) : Vis sc x := by
  unfold visB at h
  unfold Vis
  split at h <;> first | (rename_i e; rw [e]; simp) | cases h
def glB (sc : Scope) (x : Str) : Bool := match sc.names.lookup x with
  | some .globalImplicit => true
  | _ => false
theorem gl_of {X : Cx} {C : Cs} {c : Ck} {kk : Nat} {W : WX} (h : XOk C c kk W X) {x : Str} (g : glB c.sc x = true) : Gl X x := by
  unfold glB at g
  show X.env.scope.names.lookup x = _
  rw [h.sc]
  split at g <;> first | assumption | cases g

/-! ### more operators by value -/
def rD1 (C : Cs) (f : D → M D) : V → Hp → VK → Prop := fun x H Q => ∃ a w S W σ own, Wd C S w H ∧ See C w H x a ∧ After C W σ w H own (f a S) Q
def negD : D → M D := fun x => match x with
  | .int i => pure (.int (-i))
  | _ => M.bad
section
variable {X : Cx} {C : Cs}
theorem un_D : UnR X (unaryOp .USub) (rD1 C negD) := by
  intro pins s σ H x v Q I rx h
  obtain ⟨a, w, S, W, σ', own, wd, sa, af⟩ := h
  cases a <;> try exact af.elim
  have e1 := sa.int
  subst e1
  exact un_neg pins s σ H _ v Q I rx ⟨_, rfl, After.val af wd (.int _)⟩
theorem tru_D {w : Wl} {H : Hp} {σ : St} {S : Sto} {W : WX} {x : V} {d : D} {P : Bool → Wl → Hp → Prop} (hK : X.K = C.K) (wd : Wd C S w H) (s : See C w H x d) (af : Aft C W σ w H (d.truthy S) P) : ∃ k, TruV X.K x H k ∧ d.truthy S = .ok k S ∧ P k w H := by
  have fin : ∀ k, d.truthy S = .ok k S → P k w H := fun k e => by rw [e] at af; exact af H w (Ext.refl _ _) wd
  cases d
  case non => rw [s.non]; exact ⟨false, rfl, rfl, fin _ rfl⟩
  case bl b => rw [s.bl]; exact ⟨b, rfl, rfl, fin _ rfl⟩
  case int i => rw [s.int]; exact ⟨_, rfl, rfl, fin _ rfl⟩
  case str z =>
    rw [s.str]
    cases g : fits z with
    | false => simp only [D.truthy, g] at af; exact af.elim
    | true =>
      have e : (D.str z).truthy S = .ok (!z.isEmpty) S := by simp only [D.truthy, g]; rfl
      refine ⟨_, ⟨by rw [toS_len]; exact fits_line g, ?_⟩, e, fin _ e⟩
      rw [toS_len]
      cases z <;> simp
      omega
  case tup l =>
    obtain ⟨a, vs, rfl, h1, r1⟩ := s.tup wd.le
    refine ⟨!l.isEmpty, .inr (.inl ⟨vs, by rw [hK]; exact h1, ?_⟩), rfl, fin _ rfl⟩
    have := r1.length
    cases vs <;> cases l <;> simp at this ⊢
  case lst l =>
    obtain ⟨a, vs, rfl, h1, r1⟩ := s.lst wd.le
    refine ⟨!l.isEmpty, .inl ⟨vs, by rw [hK]; exact h1, ?_⟩, rfl, fin _ rfl⟩
    have := r1.length
    cases vs <;> cases l <;> simp at this ⊢
  case dct l => exact af.elim
  case obj n => exact af.elim
theorem ix_dict (hu : X.A.units + 1 < cLine) : IxR X (fun x y H Q => ∃ a v, x = .ref a ∧ DGet H a y (some v) ∧ Q v H) := by
  intro value slice pins s σ H x y v u Q I rx ry h hs
  obtain ⟨a, z, ex, g, q⟩ := h
  subst ex
  obtain rfl : v = Value.ref a := rx
  unfold subscriptTail
  refine wpAny_bind ?_
  rw [getitemInPython_of_ne (dict_typeIs I g).not_modules]
  refine wpAny_bind (wpAny_specialOf (dict_typeIs I g) PySem.F.slot_dict_getitem.lookup ?_)
  have fin : wpAny (model X.prog X.w) X.A (subscripted slice false (.ref a) u) (fun r s₃ => wpAny (model X.prog X.w) X.A (letTemporaryGo value (.ref a) r >>= fun _ => pure r) (EP X pins σ Q) X.xe s₃) X.xe s := by
    rw [hs]
    exact wpAny_operating (d_getItem hu I g ry fun w' s3 I3 rw' => wpAny_bind (wpAny_letTemporaryGo (wpAny_pure ⟨z, H, I3, rw', q⟩)))
  first
    | exact wpAny_pure (wpAny_bind fin)
    | exact wpAny_bind (wpAny_pure (wpAny_bind fin))
    | exact wpAny_bind fin
theorem Reps.at {K : PySem.W.Frag} {F : Hp} {ι : List Addr} {vs : List V} {ds : List D} {i : Int} {d : D} (r : Reps K F ι vs ds) (h : getAt ds i = some d) : ∃ v, atI vs i = some v ∧ Rep K F ι v d := by
  unfold getAt ixAt at h
  unfold atI ixN
  rw [r.length]
  cases e : (if 0 ≤ i then (if i < (ds.length : Int) then some i.toNat else none) else if -(ds.length : Int) ≤ i then some (i + ds.length).toNat else none) with
  | none => rw [e] at h; cases h
  | some j =>
    rw [e] at h
    obtain ⟨v, h1, h2⟩ := r.get' (show ds[j]? = some d from h)
    exact ⟨v, h1, h2⟩
theorem M.of_some {α : Type} {o : Option α} {S : Sto} {a : α} (h : o = some a) : M.of o S = .ok a S := by rw [h]; rfl
theorem ix_D (hK : X.K = C.K) (hu : X.A.units + 1 < cLine) : IxR X (rD C D.item) := by
  intro value slice pins s σ H x y v u Q I rx ry h hs
  obtain ⟨a, b, w, S, W, σ', own, wd, sa, sb, af⟩ := h
  cases a <;> try exact af.elim
  case str z =>
    cases b <;> try exact af.elim
    rename_i i
    have e1 := sa.str
    have e2 := sb.int
    subst e1 e2
    obtain ⟨g, af⟩ := After.asked af
    cases e : getAt z i with
    | none => rw [e] at af; exact af.elim
    | some c =>
      rw [e] at af
      exact ix_str value slice pins s σ H _ _ v u Q I rx ry ⟨toS z, i, c, rfl, rfl, by rw [toS_len]; exact fits_line g, by rw [toS_cps]; exact e, After.val (v := .str (toS [c])) af wd (.str _)⟩ hs
  case tup l =>
    cases b <;> try exact af.elim
    rename_i i
    have e2 := sb.int
    subst e2
    obtain ⟨p, vs, rfl, h1, r1⟩ := sa.tup wd.le
    cases e : getAt l i with
    | none => simp only [D.item, e] at af; exact af.elim
    | some d =>
      simp only [D.item, e] at af
      obtain ⟨z, h2, h3⟩ := r1.at e
      exact ix_tup value slice pins s σ H _ _ v u Q I rx ry ⟨p, vs, i, z, rfl, rfl, by rw [hK]; exact h1, h2, After.val af wd h3⟩ hs
  case lst l =>
    cases b <;> try exact af.elim
    rename_i i
    have e2 := sb.int
    subst e2
    obtain ⟨p, vs, rfl, h1, r1⟩ := sa.lst wd.le
    cases e : getAt l i with
    | none => simp only [D.item, e] at af; exact af.elim
    | some d =>
      simp only [D.item, e] at af
      obtain ⟨z, h2, h3⟩ := r1.at e
      exact ix_list value slice pins s σ H _ _ v u Q I rx ry ⟨p, vs, i, z, rfl, rfl, by rw [hK]; exact h1, h2, After.val af wd h3⟩ hs
  case dct l =>
    cases hk : Ky.ofD b with
    | none => simp only [D.item, hk] at af; exact af.elim
    | some k =>
      simp only [D.item, hk] at af
      have ek := kV_of sb hk
      subst ek
      obtain ⟨p, kvs, rfl, h1, r1⟩ := sa.dct wd.le
      rcases r1.look k with ⟨e1, e2⟩ | ⟨z, d, e1, e2, r⟩
      · simp only [Option.bind_some, e2] at af; exact af.elim
      · simp only [Option.bind_some, e2] at af
        exact ix_dict hu value slice pins s σ H _ _ v u Q I rx ry ⟨p, z, rfl, by rw [← e1]; exact DGet.k h1, After.val af wd r⟩ hs

/-! ### slices -/
def partD : D → Option (Option Int)
  | .non => some none
  | .int i => some (some i)
  | _ => none
theorem sl_at {n d : Nat} {x : D} {o : Option Int} (h : partD x = some o) : slAt n d x = some (HT.sIx n d o) := by
  cases x <;> simp [partD] at h
  · subst h; rfl
  · subst h; rfl
theorem cut_at {α : Type} {l : List α} {x y : D} {o q : Option Int} (h : partD x = some o) (h' : partD y = some q) : cut l x y = some ((l.drop (HT.sIx l.length 0 o)).take (HT.sIx l.length l.length q - HT.sIx l.length 0 o)) := by
  unfold cut
  rw [sl_at h, sl_at h']
  rfl
theorem cut_no {α : Type} {l : List α} {x y : D} (h : partD x = none ∨ partD y = none) : cut l x y = none := by
  unfold cut
  have no : ∀ {n d : Nat} {x : D}, partD x = none → slAt n d x = none := fun {n d x} h => by cases x <;> simp [partD] at h <;> rfl
  rcases h with h | h
  · rw [no h]; rfl
  · rw [no h]
    cases slAt l.length 0 x <;> rfl
theorem cutV_eq (vs : List V) (o q : Option Int) : cutV vs o q = (vs.drop (HT.sIx vs.length 0 o)).take (HT.sIx vs.length vs.length q - HT.sIx vs.length 0 o) := rfl
def rSD (C : Cs) : V → Option Int → Option Int → Hp → VK → Prop := fun x o q H Q => ∃ a b c w S W σ own, Wd C S w H ∧ See C w H x a ∧ partD b = some o ∧ partD c = some q ∧ After C W σ w H own (a.slice b c S) Q
theorem sl_D (hK : X.K = C.K) : SlR X (rSD C) := by
  intro pins s σ H x v vl vu lo hi sl Q I rx hs pl pu h
  obtain ⟨a, b, c, w, S, W, σ', own, wd, sa, eb, ec, af⟩ := h
  cases a <;> try exact af.elim
  case str z =>
    obtain ⟨g, af⟩ := After.asked af
    rw [cut_at eb ec] at af
    have e1 := sa.str
    subst e1
    refine sl_str pins s σ H _ v vl vu lo hi sl Q I rx hs pl pu ⟨toS z, rfl, by rw [toS_len]; exact fits_line g, ?_⟩
    have e : cutS (toS z) lo hi = toS ((z.drop (HT.sIx z.length 0 lo)).take (HT.sIx z.length z.length hi - HT.sIx z.length 0 lo)) := by
      unfold cutS
      rw [toS_cps, toS_len]; rfl
    rw [e]
    exact After.val af wd (.str _)
  case tup l =>
    simp only [D.slice, cut_at eb ec] at af
    obtain ⟨p, vs, rfl, h1, r1⟩ := sa.tup wd.le
    refine sl_tupF pins s σ H _ v vl vu lo hi sl Q I rx hs pl pu ⟨p, vs, rfl, by rw [hK]; exact h1, fun e => ?_, fun e t o ht ho => ?_⟩
    · rw [r1.length] at e
      rw [e.1, e.2] at af
      rcases sa with r | ⟨_, o, e, _, _, c⟩
      · simp only [List.drop_zero, Nat.sub_zero, List.take_length] at af
        exact After.val af wd r
      · cases o <;> simp only [Cont] at c
    · refine After.new af wd ht (.tup (.inl ⟨o, ho, upd_same⟩) ?_)
      rw [cutV_eq, r1.length]
      exact ((r1.drop _).take _).mono (Le.new (wd.le.free ht)) List.prefix_rfl
  case lst l =>
    simp only [D.slice, cut_at eb ec] at af
    obtain ⟨p, vs, rfl, h1, r1⟩ := sa.lst wd.le
    refine sl_list pins s σ H _ v vl vu lo hi sl Q I rx hs pl pu ⟨p, vs, rfl, by rw [hK]; exact h1, fun t ht => ?_⟩
    refine After.new af wd ht (.lst (.inl (.inl upd_same)) ?_)
    rw [cutV_eq, r1.length]
    exact ((r1.drop _).take _).mono (Le.new (wd.le.free ht)) List.prefix_rfl
end
end TD
end
section
set_option Elab.async false
set_option linter.all false
set_option maxRecDepth 100000
/-! Expressions and tests, construct by construct. -/
namespace TD
open PySem L2 PySem.Spec

section
variable {C : Cs} {c : Ck} {kk : Nat} {W : WX} {X : Cx} {fn : Fns} {pos : Pos}
theorem M.seq {α β : Type} (x : M α) (f : α → M β) (S : Sto) : (x >>= f) S = M.bind x f S := rfl

theorem de_var (h : XOk C c kk W X) {i : Nat} {x : Str} (hN : c.N[i]? = some x) (hv : visB c.sc x = true) (h1 : (x == ("__debug__" : Str)) = false) (h2 : (x == ("__classdict__" : Str)) = false) : PE X (.Name x pos) (tE C W fn (.var i)) := by
  refine PE.wk (pe_var (by rw [h.N]; exact hN) (by rw [h.sc]; exact vis_of hv) h1 h2) fun σ H Q ⟨w0, H0, ρ, S, w, R, af⟩ => ?_
  have sl := R.sl i
  unfold After at af
  unfold ev at af
  simp only [isOwn] at af
  cases e : slot ρ i with
  | no => rw [e] at af; exact af.elim
  | fz d =>
    rw [e] at af sl
    obtain ⟨v, ev, r⟩ := sl
    exact ⟨v, sAt_get ev, After.val af R.wd r⟩
  | ow d =>
    rw [e] at af sl
    obtain ⟨a, o, ea, h3, h4, h5, h6⟩ := sl
    exact ⟨_, sAt_get ea, af H w (Ext.refl _ _) R.wd _ (.inr ⟨a, o, rfl, h3, h5, h6⟩) fun z => nomatch z⟩
theorem de_con {e : Expr} {v : V} {d : D} (he : PE X e (tC v)) (r : ∀ F ι, Rep C.K F ι v d) : PE X e (tE C W fn (.con d)) :=
  PE.wk he fun σ H Q ⟨w0, H0, ρ, S, w, R, af⟩ => After.val af R.wd (r _ _)
theorem de_int {i : Int} {j : Nat} : PE X (.Constant (.int i) j pos) (tE C W fn (.con (.int i))) := de_con pe_int fun _ _ => .int i
theorem de_bl {i : Bool} {j : Nat} : PE X (.Constant (.bool i) j pos) (tE C W fn (.con (.bl i))) := de_con pe_bl fun _ _ => .bl i
theorem de_non {j : Nat} : PE X (.Constant .none j pos) (tE C W fn (.con .non)) := de_con pe_non fun _ _ => .non
theorem de_str {x : Str} {s : Sx} {j : Nat} (h : x = toS s) : PE X (.Constant (.str x) j pos) (tE C W fn (.con (.str s))) := by
  subst h
  exact de_con pe_str fun _ _ => .str s
theorem de_glob (h : XOk C c kk W X) {x : Str} {v : V} {u : Value} {d : D} (hg : glB c.sc x = true) (hm : C.mg x = some u) (r : RelV v u) (rd : ∀ F ι, Rep C.K F ι v d) (hd : (x == ("__debug__" : Str)) = false) : PE X (.Name x pos) (tE C W fn (.con d)) :=
  de_con (pe_glob (gl_of h hg) (by rw [h.mg]; exact hm) r hd) rd

variable {a b d : Expr} {x y z : E}
theorem de_bin (h : XOk C c kk W X) {o : Op} (ha : PE X a (tE C W fn x)) (hb : PE X b (tE C W fn y)) : PE X (.BinOp a o.py b pos) (tE C W fn (.bin o x y)) := by
  refine PE.wk (pe_op (op_D h.K (Nat.lt_of_le_of_lt (Nat.le_add_right _ _) h.hu) o) ha hb) fun σ H Q ⟨w0, H0, ρ, S, w, R, af⟩ => ?_
  unfold After at af
  unfold ev at af
  refine step R af fun d1 S1 v H1 w1 x1 R1 see1 _ af1 => ?_
  exact step R1 af1 fun d2 S2 u H2 w2 x2 R2 see2 _ af2 => ⟨d1, d2, w2, S2, W, σ, false, R2.wd, see1.ext x2, see2, af2⟩
theorem de_neg (h : XOk C c kk W X) (ha : PE X a (tE C W fn x)) : PE X (.UnaryOp .USub a pos) (tE C W fn (.neg x)) := by
  refine PE.wk (pe_un (un_D (C := C)) ha) fun σ H Q ⟨w0, H0, ρ, S, w, R, af⟩ => ?_
  unfold After at af
  unfold ev at af
  exact step R af fun d1 S1 v H1 w1 x1 R1 see1 _ af1 => ⟨d1, w1, S1, W, σ, false, R1.wd, see1, by cases d1 <;> exact af1⟩
theorem imp_cmp {o : Cm} {σ : L2.St} {H : Hp} {Q : VK} (t : tE C W fn (.cmp o x y) σ H Q) : tOp (rC C o.run) (tE C W fn x) (tE C W fn y) σ H Q := by
  obtain ⟨w0, H0, ρ, S, w, R, af⟩ := t
  unfold After at af
  unfold ev at af
  refine step R af fun d1 S1 v H1 w1 x1 R1 see1 _ af1 => ?_
  exact step R1 af1 fun d2 S2 u H2 w2 x2 R2 see2 _ af2 => ⟨d1, d2, w2, S2, W, σ, false, R2.wd, see1.ext x2, see2, af2⟩
theorem bind_ok {α β : Type} {m : M α} {k : α → M β} {S S' : Sto} {b : β} (h : M.bind m k S = .ok b S') : ∃ a S1, m S = .ok a S1 ∧ k a S1 = .ok b S' := by
  unfold M.bind at h
  cases e : m S with
  | ok a S1 => rw [e] at h; exact ⟨a, S1, rfl, h⟩
  | xc c S1 => rw [e] at h; cases h
  | bad => rw [e] at h; cases h
theorem ret_ok {α : Type} {a b : α} {S S' : Sto} (h : (M.ret a) S = .ok b S') : b = a ∧ S' = S := by cases h; exact ⟨rfl, rfl⟩
/-- what gives a truth, as a test -/
theorem to_test (hb : ∀ ρ S d S', ev fn ρ x S = .ok d S' → ∃ k, d = .bl k) {σ : L2.St} {H : Hp} {Q : Bool → Hp → Prop} (t : tT C W fn x σ H Q) : tE C W fn x σ H (fun v H' => ∃ k, v = .bl k ∧ Q k H') := by
  obtain ⟨w0, H0, ρ, S, w, R, af⟩ := t
  refine ⟨w0, H0, ρ, S, w, R, ?_⟩
  refine Aft.imp (Aft.bind af) ?_
  intro d S' w' H' e x1 wd ⟨S1, e1, x2, wd1, af1⟩ v see _
  obtain ⟨k, rfl⟩ := hb ρ S d S' e
  exact ⟨k, see.bl, af1 H' w' (Ext.refl _ _) wd1⟩
theorem cmp_bl {o : Cm} (ρ : TD.Env) (S : Sto) (d : D) (S' : Sto) (h : ev fn ρ (.cmp o x y) S = .ok d S') : ∃ k, d = .bl k := by
  unfold ev at h
  obtain ⟨_, _, _, h⟩ := bind_ok h
  obtain ⟨_, _, _, h⟩ := bind_ok h
  obtain ⟨k, _, _, h⟩ := bind_ok h
  exact ⟨k, (ret_ok h).1⟩
theorem de_cmp (h : XOk C c kk W X) {o : Cm} (ha : PE X a (tE C W fn x)) (hb : PE X b (tE C W fn y)) (hm : behindInMarks o.py b = false) : PE X (.Compare a [o.py] [b] pos) (tE C W fn (.cmp o x y)) :=
  PE.wk (pe_cmpR (cm_D h.K h.hu o) ha hb hm) fun _ _ _ t => imp_cmp t
theorem dt_cmp (h : XOk C c kk W X) {o : Cm} (ha : PE X a (tE C W fn x)) (hb : PE X b (tE C W fn y)) (hm : behindInMarks o.py b = false) : PT X (.Compare a [o.py] [b] pos) (tT C W fn (.cmp o x y)) :=
  PT.wk (pt_cmpR (cm_D h.K h.hu o) ha hb hm) fun _ _ _ t => imp_cmp (to_test cmp_bl t)
/-- a < b < c -/
theorem imp_cmp2 {o p : Cm} {σ : L2.St} {H : Hp} {Q : VK} (t : tE C W fn (.cmp2 o p x y z) σ H Q) : tChain (rC C o.run) (rC C p.run) (tE C W fn x) (tE C W fn y) (tE C W fn z) σ H Q := by
  obtain ⟨w0, H0, ρ, S, w, R, af⟩ := t
  unfold After at af
  unfold ev at af
  refine step R af fun d1 S1 v H1 w1 x1 R1 see1 _ af1 => ?_
  refine step R1 af1 fun d2 S2 u H2 w2 x2 R2 see2 _ af2 => ?_
  refine ⟨d1, d2, w2, S2, W, σ, false, R2.wd, see1.ext x2, see2, ?_⟩
  have af3 := Aft.bind af2
  show Aft C W σ w2 H2 (M.bind (o.run d1 d2) (fun r => M.ret (D.bl r)) S2) _
  cases e : o.run d1 d2 S2 with
  | bad => rw [e] at af3; exact af3.elim
  | xc cc S3 =>
    rw [e] at af3
    unfold M.bind
    rw [e]
    exact af3
  | ok r S3 =>
    rw [e] at af3
    unfold M.bind
    rw [e]
    intro H3 w3 x3 wd3 v' see3 _
    obtain ⟨S4, e4, x4, wd4, af4⟩ := af3 H3 w3 x3 wd3
    cases e4
    refine ⟨r, see3.bl, ?_⟩
    cases r with
    | false =>
      rw [if_neg Bool.false_ne_true]
      exact After.val af4 wd3 (.bl _)
    | true =>
      rw [if_pos rfl]
      exact step (R2.to x3 wd3) af4 fun d5 S5 u5 H5 w5 x5 R5 see5 _ af5 => ⟨d2, d5, w5, S5, W, σ, false, R5.wd, (see2.ext x3).ext x5, see5, af5⟩
theorem cmp2_bl {o p : Cm} (ρ : TD.Env) (S : Sto) (d : D) (S' : Sto) (h : ev fn ρ (.cmp2 o p x y z) S = .ok d S') : ∃ k, d = .bl k := by
  unfold ev at h
  obtain ⟨_, _, _, h⟩ := bind_ok h
  obtain ⟨_, _, _, h⟩ := bind_ok h
  obtain ⟨k, _, _, h⟩ := bind_ok h
  cases k with
  | false => exact ⟨false, (ret_ok h).1⟩
  | true =>
    obtain ⟨_, _, _, h⟩ := bind_ok (show M.bind (ev fn ρ z) _ _ = _ from h)
    obtain ⟨k, _, _, h⟩ := bind_ok h
    exact ⟨k, (ret_ok h).1⟩
theorem de_cmp2 (h : XOk C c kk W X) {o p : Cm} (ha : PE X a (tE C W fn x)) (hb : PE X b (tE C W fn y)) (hc : PE X d (tE C W fn z)) (hm : lastMarks [o.py, p.py] [b, d] = false) : PE X (.Compare a [o.py, p.py] [b, d] pos) (tE C W fn (.cmp2 o p x y z)) :=
  PE.wk (pe_chain (cm_D h.K h.hu o) (cm_D h.K h.hu p) ha hb hc hm) fun _ _ _ t => imp_cmp2 t
theorem dt_cmp2 (h : XOk C c kk W X) {o p : Cm} (ha : PE X a (tE C W fn x)) (hb : PE X b (tE C W fn y)) (hc : PE X d (tE C W fn z)) (hm : lastMarks [o.py, p.py] [b, d] = false) : PT X (.Compare a [o.py, p.py] [b, d] pos) (tT C W fn (.cmp2 o p x y z)) :=
  PT.wk (pt_chain (cm_D h.K h.hu o) (cm_D h.K h.hu p) ha hb hc hm) fun _ _ _ t => imp_cmp2 (to_test cmp2_bl t)

/-! ### truth, not, and, or -/
theorem dt_val (h : XOk C c kk W X) (ha : PE X a (tE C W fn x)) (he : ∀ whole, isTrue a X.env whole = (do let v ← whole; standAt a.pos; holding [v] (truthy v))) : PT X a (tT C W fn x) := by
  refine PT.wk (pt_truth ha he) fun σ H Q ⟨w0, H0, ρ, S, w, R, af⟩ => ?_
  refine step R af fun d1 S1 v H1 w1 x1 R1 see1 _ af1 => ?_
  obtain ⟨k, h1, _, h2⟩ := tru_D h.K R1.wd see1 af1
  exact ⟨k, h1, h2⟩
theorem de_not (h : XOk C c kk W X) (ha : PE X a (tE C W fn x)) : PE X (.UnaryOp .Not a pos) (tE C W fn (.not x)) := by
  refine PE.wk (pe_notT ha) fun σ H Q ⟨w0, H0, ρ, S, w, R, af⟩ => ?_
  unfold After at af
  unfold ev at af
  refine step R af fun d1 S1 v H1 w1 x1 R1 see1 _ af1 => ?_
  obtain ⟨k, h1, h2, S2, e2, x2, wd2, af2⟩ := tru_D h.K R1.wd see1 (Aft.bind af1)
  exact ⟨k, h1, After.val af2 wd2 (.bl _)⟩
theorem bind_assoc {α β γ : Type} (m : M α) (f : α → M β) (g : β → M γ) : M.bind (M.bind m f) g = M.bind m fun a => M.bind (f a) g := by
  funext S
  unfold M.bind
  cases m S <;> rfl
theorem truthy_st {d : D} {S S' : Sto} {k : Bool} (h : d.truthy S = .ok k S') : S' = S := by
  cases d
  case str z =>
    cases g : fits z with
    | true => simp only [D.truthy, g] at h; exact (ret_ok (a := !z.isEmpty) h).2
    | false => simp only [D.truthy, g] at h; cases h
  all_goals first | exact (ret_ok h).2 | cases h
theorem dt_not (ha : PT X a (tT C W fn x)) : PT X (.UnaryOp .Not a pos) (tT C W fn (.not x)) := by
  refine PT.wk (pt_not ha) fun σ H Q ⟨w0, H0, ρ, S, w, R, af⟩ => ⟨w0, H0, ρ, S, w, R, ?_⟩
  have af : Aft C W σ w H (M.bind (M.bind (ev fn ρ x) fun d => M.bind d.truthy fun b => M.ret (D.bl (!b))) (fun d => d.truthy) S) fun b _ H' => Q b H' := by
    have := af
    unfold ev at this
    exact this
  rw [bind_assoc] at af
  show Aft C W σ w H (M.bind (ev fn ρ x) (fun d => d.truthy) S) _
  unfold M.bind at af ⊢
  cases e : ev fn ρ x S with
  | bad => rw [e] at af; exact af
  | xc cc S1 => rw [e] at af; exact af
  | ok d1 S1 =>
    rw [e] at af
    cases e2 : d1.truthy S1 with
    | bad => simp only [e2] at af ⊢; exact af
    | xc cc S2 => simp only [e2] at af ⊢; exact af
    | ok k S2 => simp only [e2] at af ⊢; exact af
theorem imp_and {σ : L2.St} {H : Hp} {Q : Bool → Hp → Prop} (t : tT C W fn (.and x y) σ H Q) : tAnd (tT C W fn x) (tT C W fn y) σ H Q := by
  obtain ⟨w0, H0, ρ, S, w, R, af⟩ := t
  refine ⟨w0, H0, ρ, S, w, R, ?_⟩
  have af : Aft C W σ w H (M.bind (M.bind (M.ask (!isOwn ρ x && !isOwn ρ y)) fun _ => M.bind (ev fn ρ x) fun d => M.bind d.truthy fun b => if b then ev fn ρ y else M.ret d) (fun d => d.truthy) S) fun b _ H' => Q b H' := by
    have := af
    unfold ev at this
    exact this
  show Aft C W σ w H (M.bind (ev fn ρ x) (fun d => d.truthy) S) _
  cases g : (!isOwn ρ x && !isOwn ρ y) with
  | false => rw [g] at af; exact af.elim
  | true =>
    rw [g] at af
    have af : Aft C W σ w H (M.bind (M.bind (ev fn ρ x) fun d => M.bind d.truthy fun b => if b then ev fn ρ y else M.ret d) (fun d => d.truthy) S) fun b _ H' => Q b H' := af
    rw [bind_assoc] at af
    unfold M.bind at af ⊢
    cases e : ev fn ρ x S with
    | bad => rw [e] at af; exact af
    | xc cc S1 => rw [e] at af; exact af
    | ok d1 S1 =>
      rw [e] at af
      cases e2 : d1.truthy S1 with
      | bad => simp only [e2] at af ⊢; exact af
      | xc cc S2 => simp only [e2] at af ⊢; exact af
      | ok k S2 =>
        simp only [e2] at af ⊢
        intro H1 w1 x1 wd1
        cases k with
        | true =>
          rw [if_pos rfl]
          exact ⟨w0, H0, ρ, S2, w1, R.to x1 wd1, Aft.later af x1⟩
        | false =>
          rw [if_neg Bool.false_ne_true]
          have := truthy_st e2
          subst this
          have af : Aft C W σ w H (d1.truthy S2) fun b _ H' => Q b H' := af
          rw [e2] at af
          exact af H1 w1 x1 wd1
theorem imp_or {σ : L2.St} {H : Hp} {Q : Bool → Hp → Prop} (t : tT C W fn (.or x y) σ H Q) : tOr (tT C W fn x) (tT C W fn y) σ H Q := by
  obtain ⟨w0, H0, ρ, S, w, R, af⟩ := t
  refine ⟨w0, H0, ρ, S, w, R, ?_⟩
  have af : Aft C W σ w H (M.bind (M.bind (M.ask (!isOwn ρ x && !isOwn ρ y)) fun _ => M.bind (ev fn ρ x) fun d => M.bind d.truthy fun b => if b then M.ret d else ev fn ρ y) (fun d => d.truthy) S) fun b _ H' => Q b H' := by
    have := af
    unfold ev at this
    exact this
  show Aft C W σ w H (M.bind (ev fn ρ x) (fun d => d.truthy) S) _
  cases g : (!isOwn ρ x && !isOwn ρ y) with
  | false => rw [g] at af; exact af.elim
  | true =>
    rw [g] at af
    have af : Aft C W σ w H (M.bind (M.bind (ev fn ρ x) fun d => M.bind d.truthy fun b => if b then M.ret d else ev fn ρ y) (fun d => d.truthy) S) fun b _ H' => Q b H' := af
    rw [bind_assoc] at af
    unfold M.bind at af ⊢
    cases e : ev fn ρ x S with
    | bad => rw [e] at af; exact af
    | xc cc S1 => rw [e] at af; exact af
    | ok d1 S1 =>
      rw [e] at af
      cases e2 : d1.truthy S1 with
      | bad => simp only [e2] at af ⊢; exact af
      | xc cc S2 => simp only [e2] at af ⊢; exact af
      | ok k S2 =>
        simp only [e2] at af ⊢
        intro H1 w1 x1 wd1
        cases k with
        | false =>
          rw [if_neg Bool.false_ne_true]
          exact ⟨w0, H0, ρ, S2, w1, R.to x1 wd1, Aft.later af x1⟩
        | true =>
          rw [if_pos rfl]
          have := truthy_st e2
          subst this
          have af : Aft C W σ w H (d1.truthy S2) fun b _ H' => Q b H' := af
          rw [e2] at af
          exact af H1 w1 x1 wd1
variable {rest : List Expr}
theorem dw_and (ha : PT X a (tT C W fn x)) (hb : PW X (.BoolOp .And (b :: rest) pos) (tT C W fn y)) : PW X (.BoolOp .And (a :: b :: rest) pos) (tT C W fn (.and x y)) :=
  ⟨fun wh pins s σ H Q I t => (pw_and ha hb).run wh pins s σ H Q I (imp_and t)⟩
theorem dw_or (ha : PT X a (tT C W fn x)) (hb : PW X (.BoolOp .Or (b :: rest) pos) (tT C W fn y)) : PW X (.BoolOp .Or (a :: b :: rest) pos) (tT C W fn (.or x y)) :=
  ⟨fun wh pins s σ H Q I t => (pw_or ha hb).run wh pins s σ H Q I (imp_or t)⟩
/-- as values -/
theorem de_and (h : XOk C c kk W X) (ha : PE X a (tE C W fn x)) (hb : PE X (.BoolOp .And (b :: rest) pos) (tE C W fn y)) : PE X (.BoolOp .And (a :: b :: rest) pos) (tE C W fn (.and x y)) := by
  refine PE.wk (pe_andT ha hb) fun σ H Q ⟨w0, H0, ρ, S, w, R, af⟩ => ?_
  have af : Aft C W σ w H (M.bind (M.ask (!isOwn ρ x && !isOwn ρ y)) (fun _ => M.bind (ev fn ρ x) fun d => M.bind d.truthy fun b => if b then ev fn ρ y else M.ret d) S) (Got C false Q) := by
    have := af
    unfold After at this
    unfold ev at this
    exact this
  cases g : (!isOwn ρ x && !isOwn ρ y) with
  | false => rw [g] at af; exact af.elim
  | true =>
    rw [g] at af
    obtain ⟨g1, g2⟩ := ask_and g
    have af : Aft C W σ w H (M.bind (ev fn ρ x) (fun d => M.bind d.truthy fun b => if b then ev fn ρ y else M.ret d) S) (Got C false Q) := af
    refine step R af fun d1 S1 v H1 w1 x1 R1 see1 rep1 af1 => ?_
    obtain ⟨k, h1, h2, S2, e2, x2, wd2, af2⟩ := tru_D h.K R1.wd see1 (Aft.bind af1)
    refine ⟨k, h1, ?_⟩
    rw [h2] at e2
    cases e2
    cases k with
    | true =>
      rw [if_pos rfl] at af2 ⊢
      exact ⟨w0, H0, ρ, S1, w1, R1, by unfold After; rw [(by simpa using g2 : isOwn ρ y = false)]; exact af2⟩
    | false =>
      rw [if_neg Bool.false_ne_true] at af2 ⊢
      exact After.val (own := false) af2 wd2 (rep1 (by simpa using g1))
theorem de_or (h : XOk C c kk W X) (ha : PE X a (tE C W fn x)) (hb : PE X (.BoolOp .Or (b :: rest) pos) (tE C W fn y)) : PE X (.BoolOp .Or (a :: b :: rest) pos) (tE C W fn (.or x y)) := by
  refine PE.wk (pe_orT ha hb) fun σ H Q ⟨w0, H0, ρ, S, w, R, af⟩ => ?_
  have af : Aft C W σ w H (M.bind (M.ask (!isOwn ρ x && !isOwn ρ y)) (fun _ => M.bind (ev fn ρ x) fun d => M.bind d.truthy fun b => if b then M.ret d else ev fn ρ y) S) (Got C false Q) := by
    have := af
    unfold After at this
    unfold ev at this
    exact this
  cases g : (!isOwn ρ x && !isOwn ρ y) with
  | false => rw [g] at af; exact af.elim
  | true =>
    rw [g] at af
    obtain ⟨g1, g2⟩ := ask_and g
    have af : Aft C W σ w H (M.bind (ev fn ρ x) (fun d => M.bind d.truthy fun b => if b then M.ret d else ev fn ρ y) S) (Got C false Q) := af
    refine step R af fun d1 S1 v H1 w1 x1 R1 see1 rep1 af1 => ?_
    obtain ⟨k, h1, h2, S2, e2, x2, wd2, af2⟩ := tru_D h.K R1.wd see1 (Aft.bind af1)
    refine ⟨k, h1, ?_⟩
    rw [h2] at e2
    cases e2
    cases k with
    | false =>
      rw [if_neg Bool.false_ne_true] at af2 ⊢
      exact ⟨w0, H0, ρ, S1, w1, R1, by unfold After; rw [(by simpa using g2 : isOwn ρ y = false)]; exact af2⟩
    | true =>
      rw [if_pos rfl] at af2 ⊢
      exact After.val (own := false) af2 wd2 (rep1 (by simpa using g1))

/-! ### subscripts -/
theorem de_idx (h : XOk C c kk W X) (ha : PE X a (tE C W fn x)) (hb : PE X b (tE C W fn y)) (hs : PlainIx b) : PE X (.Subscript a b pos) (tE C W fn (.idx x y)) := by
  refine PE.wk (pe_ix (ix_D h.K (by have := h.hu; omega)) ha hb hs) fun σ H Q ⟨w0, H0, ρ, S, w, R, af⟩ => ?_
  unfold After at af
  unfold ev at af
  refine step R af fun d1 S1 v H1 w1 x1 R1 see1 _ af1 => ?_
  exact step R1 af1 fun d2 S2 u H2 w2 x2 R2 see2 _ af2 => ⟨d1, d2, w2, S2, W, σ, false, R2.wd, see1.ext x2, see2, af2⟩
/-- a slice's part -/
def tP (C : Cs) (W : WX) (fn : Fns) (x : E) : TO := fun σ H Q => ∃ w0 H0 ρ S w, Rel C w0 H0 ρ S w σ H ∧ Aft C W σ w H (M.bind (ev fn ρ x) (partOk x) S) fun d w' H' => ∃ o, partD d = some o ∧ Q o H'
theorem dp_none (h : noPart x = true) : PO X none (tP C W fn x) := by
  refine ⟨fun pins s σ H Q I ⟨w0, H0, ρ, S, w, R, af⟩ => ?_⟩
  have ex : x = .con .non := by
    unfold noPart at h
    split at h
    · rfl
    · cases h
  subst ex
  have af : Aft C W σ w H (.ok D.non S) fun d w' H' => ∃ o, partD d = some o ∧ Q o H' := by
    have := af
    unfold ev at this
    exact this
  obtain ⟨o, e, q⟩ := af H w (Ext.refl _ _) R.wd
  cases e
  exact po_none.run pins s σ H Q I q
theorem dp_some (h : noPart x = false) (ha : PE X a (tE C W fn x)) : PO X (some a) (tP C W fn x) := by
  refine ⟨fun pins s σ H Q I ⟨w0, H0, ρ, S, w, R, af⟩ => ?_⟩
  refine (po_some ha).run pins s σ H Q I ?_
  refine step R af fun d1 S1 v H1 w1 x1 R1 see1 _ af1 => ?_
  unfold partOk at af1
  rw [h, if_neg Bool.false_ne_true] at af1
  cases d1 <;> try exact af1.elim
  obtain ⟨o, e, q⟩ := af1 H1 w1 (Ext.refl _ _) R1.wd
  cases e
  exact ⟨_, see1.int, q⟩
theorem de_sl (h : XOk C c kk W X) {lo hi : Option Expr} {p2 : Pos} {e1 e2 : E} (ha : PE X a (tE C W fn x)) (hl : PO X lo (tP C W fn e1)) (hh : PO X hi (tP C W fn e2)) : PE X (.Subscript a (.Slice lo hi none p2) pos) (tE C W fn (.sl x e1 e2)) := by
  refine PE.wk (pe_slice (sl_D (C := C) h.K) ha hl hh) fun σ H Q ⟨w0, H0, ρ, S, w, R, af⟩ => ?_
  have af : Aft C W σ w H (M.bind (ev fn ρ x) (fun x => M.bind (M.bind (ev fn ρ e1) (partOk e1)) fun y => M.bind (M.bind (ev fn ρ e2) (partOk e2)) fun z => x.slice y z) S) (Got C false Q) := by
    have af : Aft C W σ w H (M.bind (ev fn ρ x) (fun x => M.bind (ev fn ρ e1) fun y => M.bind (partOk e1 y) fun y => M.bind (ev fn ρ e2) fun z => M.bind (partOk e2 z) fun z => x.slice y z) S) (Got C false Q) := by
      have := af
      unfold After at this
      unfold ev at this
      exact this
    simp only [bind_assoc]
    exact af
  refine step R af fun d1 S1 v H1 w1 x1 R1 see1 _ af1 => ?_
  refine ⟨w0, H0, ρ, S1, w1, R1, Aft.imp (Aft.bind af1) ?_⟩
  intro dl S2 w2 H2 e2' x2 wd2 ⟨S2', q2, _, _, af2⟩
  rw [e2'] at q2
  cases q2
  have pl : ∃ o, partD dl = some o := by
    obtain ⟨dd, Sd, _, pk⟩ := bind_ok e2'
    unfold partOk at pk
    split at pk
    · obtain ⟨rfl, _⟩ := ret_ok pk; exact ⟨none, rfl⟩
    · cases dd <;> first | (obtain ⟨rfl, _⟩ := ret_ok pk; exact ⟨_, rfl⟩) | cases pk
  obtain ⟨o, po⟩ := pl
  refine ⟨o, po, w0, H0, ρ, S2, w2, R1.to x2 wd2, Aft.imp (Aft.bind af2) ?_⟩
  intro dh S3 w3 H3 e3' x3 wd3 ⟨S3', q3, _, _, af3⟩
  rw [e3'] at q3
  cases q3
  have ph : ∃ o, partD dh = some o := by
    obtain ⟨dd, Sd, _, pk⟩ := bind_ok e3'
    unfold partOk at pk
    split at pk
    · obtain ⟨rfl, _⟩ := ret_ok pk; exact ⟨none, rfl⟩
    · cases dd <;> first | (obtain ⟨rfl, _⟩ := ret_ok pk; exact ⟨_, rfl⟩) | cases pk
  obtain ⟨o', po'⟩ := ph
  exact ⟨o', po', d1, dl, dh, w3, S3, W, σ, false, wd3, (see1.ext x2).ext x3, po, po', af3⟩

/-! ### argument lists, displays -/
theorem stepL {w0 : Wl} {H0 : Hp} {ρ : TD.Env} {σ : L2.St} {w : Wl} {H : Hp} {β : Type} {S : Sto} {l : Es} {k : List D → M β} {P : β → Wl → Hp → Prop} {K : List V → Hp → Prop} (R : Rel C w0 H0 ρ S w σ H) (af : Aft C W σ w H (M.bind (evs fn ρ l) k S) P)
    (hk : ∀ ds S1 vs H1 w1, Ext w H w1 H1 → Rel C w0 H0 ρ S1 w1 σ H1 → Sees C w1 H1 vs ds → Aft C W σ w1 H1 (k ds S1) P → K vs H1) : tEs C W fn l σ H K := by
  refine ⟨w0, H0, ρ, S, w, R, ?_⟩
  refine Aft.imp af.bind ?_
  intro d S' w' H' e x wd ⟨S1, e1, x1, wd1, af1⟩ v see rep
  exact hk d S1 v H' w' x1 (R.to x1 wd1) see af1
theorem stepF {w0 : Wl} {H0 : Hp} {ρ : TD.Env} {σ : L2.St} {w : Wl} {H : Hp} {β : Type} {S : Sto} {l : Es} {k : List D → M β} {P : β → Wl → Hp → Prop} {K : List V → Hp → Prop} (R : Rel C w0 H0 ρ S w σ H) (af : Aft C W σ w H (M.bind (evF fn ρ l) k S) P)
    (hk : ∀ ds S1 vs H1 w1, Ext w H w1 H1 → Rel C w0 H0 ρ S1 w1 σ H1 → Reps C.K w1.F w1.ι vs ds → Aft C W σ w1 H1 (k ds S1) P → K vs H1) : tEF C W fn l σ H K := by
  refine ⟨w0, H0, ρ, S, w, R, ?_⟩
  refine Aft.imp af.bind ?_
  intro d S' w' H' e x wd ⟨S1, e1, x1, wd1, af1⟩ v see rep
  exact hk d S1 v H' w' x1 (R.to x1 wd1) (rep rfl) af1
theorem Sees.ext {w w' : Wl} {H H' : Hp} (e : Ext w H w' H') : ∀ {vs : List V} {ds : List D}, Sees C w H vs ds → Sees C w' H' vs ds
  | [], [], _ => trivial
  | _ :: _, _ :: _, ⟨h, t⟩ => ⟨h.ext e, t.ext e⟩
theorem Reps.sees {w : Wl} {H : Hp} : ∀ {vs : List V} {ds : List D}, Reps C.K w.F w.ι vs ds → Sees C w H vs ds
  | _, _, .nil => trivial
  | _, _, .cons h t => ⟨h.see, t.sees⟩
variable {es : List Expr} {l : Es}
theorem da_nil : PA X [] (tEs C W fn .nil) := PA.wk pa_nil fun σ H Q ⟨w0, H0, ρ, S, w, R, af⟩ => by
  have af : Aft C W σ w H (.ok ([] : List D) S) (GotL C false Q) := by
    have := af
    unfold evs at this
    exact this
  exact af H w (Ext.refl _ _) R.wd [] trivial fun z => nomatch z
theorem da_cons (ha : PE X a (tE C W fn x)) (hr : PA X es (tEs C W fn l)) (hs : starEach (a :: es) X.env = (false, eval a X.env) :: starEach es X.env) : PA X (a :: es) (tEs C W fn (.cons x l)) := by
  refine PA.wk (pa_cons ha hr hs) fun σ H Q ⟨w0, H0, ρ, S, w, R, af⟩ => ?_
  unfold evs at af
  refine step R af fun d1 S1 v H1 w1 x1 R1 see1 _ af1 => ?_
  refine stepL R1 af1 fun ds S2 vs H2 w2 x2 R2 see2 af2 => ?_
  exact af2 H2 w2 (Ext.refl _ _) R2.wd (v :: vs) ⟨see1.ext x2, see2⟩ fun z => nomatch z
theorem df_nil : PA X [] (tEF C W fn .nil) := PA.wk pa_nil fun σ H Q ⟨w0, H0, ρ, S, w, R, af⟩ => by
  have af : Aft C W σ w H (.ok ([] : List D) S) (GotL C true Q) := by
    have := af
    unfold evF at this
    exact this
  exact af H w (Ext.refl _ _) R.wd [] trivial fun z => .nil
theorem df_cons (ha : PE X a (tE C W fn x)) (hr : PA X es (tEF C W fn l)) (hs : starEach (a :: es) X.env = (false, eval a X.env) :: starEach es X.env) : PA X (a :: es) (tEF C W fn (.cons x l)) := by
  refine PA.wk (pa_cons ha hr hs) fun σ H Q ⟨w0, H0, ρ, S, w, R, af⟩ => ?_
  have af : Aft C W σ w H (M.bind (M.ask (!isOwn ρ x)) (fun _ => M.bind (ev fn ρ x) fun d => M.bind (evF fn ρ l) fun ds => M.ret (d :: ds)) S) (GotL C true Q) := by
    have := af
    unfold evF at this
    exact this
  cases g : isOwn ρ x with
  | true => rw [g] at af; exact af.elim
  | false =>
    rw [g] at af
    have af : Aft C W σ w H (M.bind (ev fn ρ x) (fun d => M.bind (evF fn ρ l) fun ds => M.ret (d :: ds)) S) (GotL C true Q) := af
    refine step R af fun d1 S1 v H1 w1 x1 R1 see1 rep1 af1 => ?_
    refine stepF R1 af1 fun ds S2 vs H2 w2 x2 R2 rep2 af2 => ?_
    exact af2 H2 w2 (Ext.refl _ _) R2.wd (v :: vs) ⟨see1.ext x2, rep2.sees⟩ fun _ => .cons ((rep1 g).mono x2.F x2.ι) rep2
theorem de_tup {k : Nat} (ha : PA X es (tEF C W fn l)) (hl : es.length ≤ 100) (hle : ∀ ρ S ds S', evF fn ρ l S = .ok ds S' → ds.length = es.length) : PE X (.Tuple es k pos) (tE C W fn (.tup l)) := by
  refine PE.wk (pe_tupF ha) fun σ H Q ⟨w0, H0, ρ, S, w, R, af⟩ => ?_
  unfold After at af
  unfold ev at af
  have af' := Aft.bind af
  refine ⟨w0, H0, ρ, S, w, R, Aft.imp af' ?_⟩
  intro ds S1 w1 H1 e x1 wd ⟨S1', q1, _, _, af1⟩ vs see rep
  rw [e] at q1
  cases q1
  have r := rep rfl
  refine ⟨?_, fun p o hp ho => After.new (own := false) af1 wd hp (.tup (.inl ⟨o, ho, upd_same⟩) (r.mono (Le.new (wd.le.free hp)) List.prefix_rfl))⟩
  rw [r.length, hle ρ S ds S1 e]
  exact Nat.le_trans hl (by decide)
theorem de_lst (ha : PA X es (tEF C W fn l)) (hl : es.length ≤ 100) (hle : ∀ ρ S ds S', evF fn ρ l S = .ok ds S' → ds.length = es.length) : PE X (.List es pos) (tE C W fn (.lst l)) := by
  refine PE.wk (pe_lst ha) fun σ H Q ⟨w0, H0, ρ, S, w, R, af⟩ => ?_
  unfold After at af
  unfold ev at af
  have af' := Aft.bind af
  refine ⟨w0, H0, ρ, S, w, R, Aft.imp af' ?_⟩
  intro ds S1 w1 H1 e x1 wd ⟨S1', q1, _, _, af1⟩ vs see rep
  rw [e] at q1
  cases q1
  have r := rep rfl
  refine ⟨?_, fun p hp => After.new (own := false) af1 wd hp (.lst (.inl (.inl upd_same)) (r.mono (Le.new (wd.le.free hp)) List.prefix_rfl))⟩
  rw [r.length, hle ρ S ds S1 e]
  exact Nat.le_trans hl (by decide)
end
end TD
end
section
set_option Elab.async false
set_option linter.all false
set_option maxRecDepth 100000
/-! What a for or a comprehension goes through: lists, tuples, texts; ranges; enumerate and zip of these. -/
namespace TD
open PySem L2 PySem.Spec
open PyProof.Rows hiding St

/-- a list, a tuple, a text -/
inductive Kd where
  | l (a : Addr) | t (a : Addr) | s (z : Str) (tok : Tok)
def Kd.now (K : PySem.W.Frag) (H : Hp) : Kd → List V → Prop
  | .l a, xs => SqL K H a xs
  | .t a, xs => SqT K H a xs
  | .s z _, xs => xs = z.cps.toList.map fun c => V.str ⟨#[c]⟩
def Kd.at (it : Addr) (i : Nat) (h : Heap) : Kd → Prop
  | .l a => h.IsListIter it a i
  | .t a => h.IsTupleIter it a i
  | .s z tok => h.IsStrIter it (strIterType z) z tok i
/-- its value -/
def Kd.is : Kd → Value → Prop
  | .l a, u => u = .ref a
  | .t a, u => u = .ref a
  | .s z tok, u => u = .str z tok
def Kd.src : Kd → List Addr
  | .l a => [a]
  | .t a => [a]
  | .s _ _ => []
def Kd.first : Kd → Obj
  | .l a => { cls := .type "list_iterator", data := .fields #[.ref a, .int 0 0] }
  | .t a => { cls := .type "tuple_iterator", data := .fields #[.ref a, .int 0 0] }
  | .s z tok => { cls := .type (strIterType z), data := .fields #[.str z tok, .int 0 0] }
section
variable {X : Cx} {pins : List (Addr × Obj)} {σ : L2.St} {H : Hp} {s : Shared}
theorem const_ne {a b : Addr} {o : Obj} (I : L2.Inv X pins σ H s) (h : X.K.lookup a = some o) (f : FpOk X pins H b) : a ≠ b := fun e => by
  have hb := I.ok.mod.kin a o h
  rcases f.2.2.2.1 with z | z
  · exact I.ok.noex a o hb (e ▸ z)
  · have h1 := Heap.lt_size hb
    have h2 := I.ok.bsz
    rw [e] at h1
    exact absurd (Nat.lt_of_lt_of_le h1 (Nat.le_trans h2 z)) (Nat.lt_irrefl _)
theorem rd_some {a : Addr} {u : HO} (h : Rd H a u) : H a ≠ none := by
  rcases h with h | ⟨o, h⟩ <;> rw [h] <;> exact Option.some_ne_none _
theorem Kd.src_ne {k : Kd} {xs : List V} {b : Addr} (I : L2.Inv X pins σ H s) (h : k.now X.K H xs) (f : FpOk X pins H b) : b ∉ k.src := by
  cases k with
  | l a =>
    intro hb
    have e : b = a := by simpa [Kd.src] using hb
    subst e
    rcases h with h | ⟨o, _, _, h, _⟩
    · exact rd_some h f.1
    · exact const_ne I h f rfl
  | t a =>
    intro hb
    have e : b = a := by simpa [Kd.src] using hb
    subst e
    rcases h with h | ⟨o, _, _, h, _⟩
    · exact rd_some h f.1
    · exact const_ne I h f rfl
  | s z tok => intro hb; simp [Kd.src] at hb
theorem Kd.now_inj (I : L2.Inv X pins σ H s) {k : Kd} {xs ys : List V} (h : k.now X.K H xs) (h' : k.now X.K H ys) : xs = ys := by
  cases k with
  | l a => exact I.list_inj h h'
  | t a => exact I.tuple_inj h h'
  | s z tok =>
    have h1 : xs = _ := h
    have h2 : ys = _ := h'
    rw [h1, h2]
theorem Kd.at_obj {k : Kd} {it : Addr} {i : Nat} {h : Heap} (st : k.at it i h) : ∃ o, h.get? it = some o ∧ ∀ v, o.data ≠ .cell v := by
  cases k with
  | l a => obtain ⟨o, e, c, d⟩ := st; exact ⟨o, e, fun v z => by rw [d] at z; cases z⟩
  | t a => obtain ⟨o, e, c, d⟩ := st; exact ⟨o, e, fun v z => by rw [d] at z; cases z⟩
  | s z tok => obtain ⟨o, e, c, d⟩ := st; exact ⟨o, e, fun v z => by rw [d] at z; cases z⟩
theorem Kd.at_keep {k : Kd} {it : Addr} {i : Nat} {h h' : Heap} (st : k.at it i h) (kp : ∀ o, h.get? it = some o → h'.get? it = some o) : k.at it i h' := by
  cases k with
  | l a => obtain ⟨o, e, r⟩ := st; exact ⟨o, kp o e, r⟩
  | t a => obtain ⟨o, e, r⟩ := st; exact ⟨o, kp o e, r⟩
  | s z tok => obtain ⟨o, e, r⟩ := st; exact ⟨o, kp o e, r⟩
theorem Kd.at_first {k : Kd} {it : Addr} {h : Heap} (e : h.get? it = some k.first) : k.at it 0 h := by
  cases k with
  | l a => exact ⟨_, e, rfl, rfl⟩
  | t a => exact ⟨_, e, rfl, rfl⟩
  | s z tok => exact ⟨_, e, rfl, rfl⟩
theorem Kd.begins (I : L2.Inv X pins σ H s) {k : Kd} {xs : List V} {u : Value} (h : k.now X.K H xs) (hu : k.is u) : ∃ G : Heap → Prop, Begins u k.first G ∧ G s.heap := by
  cases k with
  | l a =>
    have hu : u = .ref a := hu
    subst hu
    obtain ⟨its, r, p, _⟩ := I.list (xs := xs) h
    exact ⟨_, begins_list a its.toArray, p.isList⟩
  | t a =>
    have hu : u = .ref a := hu
    subst hu
    obtain ⟨its, r, p, _⟩ := I.tuple (xs := xs) h
    exact ⟨_, begins_tuple a its.toArray, p⟩
  | s z tok =>
    have hu : u = .str z tok := hu
    subst hu
    exact ⟨_, begins_text z tok, trivial⟩
/-- what the iterator of it draws now -/
theorem Kd.draws (I : L2.Inv X pins σ H s) (hc : X.A.handled = none) {k : Kd} {xs : List V} {it : Addr} {i : Nat} (h : k.now X.K H xs) (st : k.at it i s.heap) (hi : FpOk X pins H it) :
    ∃ (P : Nat → Value → Prop) (G : Nat → Heap → Prop), Draws X.prog X.w X.A.in1 it (it :: k.src) xs.length P G ∧ G i s.heap ∧ (∀ j h', G j h' → k.at it j h') ∧ ∀ j u, P j u → ∃ x, xs[j]? = some x ∧ RelV x u := by
  cases k with
  | l a =>
    obtain ⟨its, r, p, _⟩ := I.list (xs := xs) h
    have hne : a ≠ it := fun e => Kd.src_ne I h hi (by simp [Kd.src, e])
    refine ⟨fun j v => its.toArray[j]? = some v, fun j h => h.IsListIter it a j ∧ h.IsList a its.toArray, ?_, ⟨st, p.isList⟩, fun j h' g => g.1, fun j u hu => ?_⟩
    · have := Draws.list (prog := X.prog) (w := X.w) (A := X.A.in1) hc it a hne its.toArray
      rw [List.size_toArray, ← r.length] at this
      exact this
    · have hu : its[j]? = some u := by simpa using hu
      cases e : xs[j]? with
      | none => have := r.none_of e; rw [this] at hu; cases hu
      | some x =>
        obtain ⟨u', h1, h2⟩ := r.get e
        rw [hu] at h1; cases h1
        exact ⟨x, rfl, h2⟩
  | t a =>
    obtain ⟨its, r, p, _⟩ := I.tuple (xs := xs) h
    have hne : a ≠ it := fun e => Kd.src_ne I h hi (by simp [Kd.src, e])
    refine ⟨fun j v => its.toArray[j]? = some v, fun j h => h.IsTupleIter it a j ∧ h.IsTuple a its.toArray, ?_, ⟨st, p⟩, fun j h' g => g.1, fun j u hu => ?_⟩
    · have := Draws.tuple (prog := X.prog) (w := X.w) (A := X.A.in1) hc it a hne its.toArray
      rw [List.size_toArray, ← r.length] at this
      exact this
    · have hu : its[j]? = some u := by simpa using hu
      cases e : xs[j]? with
      | none => have := r.none_of e; rw [this] at hu; cases hu
      | some x =>
        obtain ⟨u', h1, h2⟩ := r.get e
        rw [hu] at h1; cases h1
        exact ⟨x, rfl, h2⟩
  | s z tok =>
    have hx : xs = _ := h
    subst hx
    refine ⟨fun j v => ∃ c u, z.cps[j]? = some c ∧ v = .str ⟨#[c]⟩ u, fun j h => h.IsStrIter it (strIterType z) z tok j, ?_, st, fun j h' g => g, fun j u hu => ?_⟩
    · have := Draws.text (prog := X.prog) (w := X.w) (A := X.A.in1) hc it z tok
      rw [List.length_map, Array.length_toList]
      exact this
    · obtain ⟨c, t, h1, rfl⟩ := hu
      exact ⟨.str ⟨#[c]⟩, by simp [h1], ⟨t, rfl⟩⟩
end
/-- what it yields, plainly or in pairs with its number -/
def Itp (K : PySem.W.Frag) (k : Kd) : It :=
  ⟨fun i H => ∃ xs x, k.now K H xs ∧ xs[i]? = some x, fun i H x H' => H' = H ∧ ∀ xs, k.now K H xs → xs[i]? = some x, fun i H => ∃ xs, k.now K H xs ∧ xs.length = i⟩
def Itn (K : PySem.W.Frag) (k : Kd) : It :=
  ⟨fun i H => ∃ xs x, k.now K H xs ∧ xs[i]? = some x, fun i H v H' => ∃ T o x, v = .ref T ∧ o.dict = none ∧ H T = none ∧ H' = upd H T (Tz o [.int (i : Nat), x]) ∧ ∀ xs, k.now K H xs → xs[i]? = some x, fun i H => ∃ xs, k.now K H xs ∧ xs.length = i⟩
def It2 (K : PySem.W.Frag) (k k' : Kd) : It :=
  ⟨fun i H => ∃ xs ys x y, k.now K H xs ∧ k'.now K H ys ∧ xs[i]? = some x ∧ ys[i]? = some y, fun i H v H' => ∃ T o x y, v = .ref T ∧ o.dict = none ∧ H T = none ∧ H' = upd H T (Tz o [x, y]) ∧ (∀ xs, k.now K H xs → xs[i]? = some x) ∧ ∀ ys, k'.now K H ys → ys[i]? = some y,
    fun i H => ∃ xs ys, k.now K H xs ∧ k'.now K H ys ∧ i = min xs.length ys.length⟩

theorem not_src {X : Cx} {pins : List (Addr × Obj)} {σ : L2.St} {H : Hp} {s : Shared} {k : Kd} {xs : List V} {e : Addr} (I : L2.Inv X pins σ H s) (h : k.now X.K H xs) (he : FpOk X pins H e) {it : Addr} (hne : e ≠ it) : e ∉ it :: k.src := fun hm => by
  rcases List.mem_cons.mp hm with z | z
  · exact hne z
  · exact Kd.src_ne I h he z
theorem turn_num {P : Program} {w : World} {K : PySem.W.Frag} {elts : List Expr} {kk : Nat} {tpos : Pos} (k : Kd) (e it : Addr) :
    Turn P w K (.Tuple elts kk tpos) (Itn K k) [e, it] e (fun i h => (∃ old, IsEnum h e it ((i : Nat) : Int) old) ∧ k.at it i h ∧ e ≠ it) where
  mem := by simp
  obj := fun i h st b hb => by
    obtain ⟨⟨old, he⟩, hi, _⟩ := st
    have e' : b = e ∨ b = it := by simpa using hb
    rcases e' with z | z
    · rw [z]; exact ⟨_, he, fun v q => nomatch q⟩
    · rw [z]; exact Kd.at_obj hi
  keep := fun i h h' st kp => let ⟨⟨old, he⟩, hi, hne⟩ := st; ⟨⟨old, kp e (by simp) _ he⟩, Kd.at_keep hi fun o q => kp it (by simp) o q, hne⟩
  item := by
    intro X hP hw hK hc i pins s σ H E I hf st hg
    subst hP hw hK
    obtain ⟨⟨old, he⟩, hit, hne⟩ := st
    obtain ⟨xs, x, hq, hx⟩ := hg
    have fe := hf e (by simp)
    have fi := hf it (by simp)
    obtain ⟨Pd, G, D, g0, gat, gp⟩ := Kd.draws I (I.ok.hd hc) hq hit fi
    have hel : e < s.heap.objs.size := Heap.lt_size he
    have hil : it < s.heap.objs.size := let ⟨_, q, _⟩ := Kd.at_obj hit; Heap.lt_size q
    have hlt : i < xs.length := (List.getElem?_eq_some_iff.mp hx).1
    refine wpAny_pyNext_enum_itemD D he g0 hlt hne (not_src I hq fe hne) fun u h' tk hp ho hst' hT hsz hk => ?_
    obtain ⟨x', hx', ru⟩ := gp i u hp
    rw [hx] at hx'; cases hx'
    have hit' := gat _ _ hst'
    refine ⟨_, rfl, wpAny_letOwnedTupleGo_enum (s := { s with heap := h', toks := tk + 1 }) ho fun h'' he' sb => ?_⟩
    have hT2 : h''.get? s.heap.objs.size = some { cls := .type "tuple", data := .seq #[.int i tk, u] } := (sb.2 _ (Nat.ne_of_gt hel)).trans hT
    have new : ObjOk X.prog X.w (upd H s.heap.objs.size (Tz (tupO [.int i tk, u]) [.int (i : Nat), x])) h'' s.heap.objs.size (Tz (tupO [.int i tk, u]) [.int (i : Nat), x]) :=
      ⟨hT2, by show 2 ≤ sizeLine; decide, [.int i tk, u], .cons ⟨_, rfl⟩ (.cons ru .nil), ⟨_, hT2, rfl, _, rfl⟩⟩
    have I1 : L2.Inv X pins σ (upd H s.heap.objs.size (Tz (tupO [.int i tk, u]) [.int (i : Nat), x])) { s with heap := h'', toks := tk + 1 } :=
      I.turnedNew (ch := [e, it]) (fun b ob hb q => (sb.2 b (fun z => hb (by simp [z]))).trans (hk b ob (fun z => hb (by simp [z])) (fun z => hb (by simp [z])) q)) hf (Nat.le_refl _) new
    refine ⟨.ref s.heap.objs.size, _, I1, rfl, ⟨_, _, x, rfl, rfl, I.hok.fresh (Nat.le_refl _), rfl, fun ys hy => by rw [Kd.now_inj I hy hq]; exact hx⟩, ⟨⟨u, ?_⟩, Kd.at_keep hit' fun o q => (sb.2 it (Ne.symm hne)).trans q, hne⟩, fun b hb => ?_⟩
    · have e1 : ((i + 1 : Nat) : Int) = (i : Int) + 1 := by omega
      rw [e1]; exact he'
    · have hb' : b < s.heap.objs.size := by
        have e' : b = e ∨ b = it := by simpa using hb
        rcases e' with z | z
        · rw [z]; exact hel
        · rw [z]; exact hil
      rw [upd_ne (Nat.ne_of_lt hb')]
      exact (hf b hb).1
  done := by
    intro X hP hw hK hc i pins s σ H E I hf st hg
    subst hP hw hK
    obtain ⟨⟨old, he⟩, hit, hne⟩ := st
    obtain ⟨xs, hq, hx⟩ := hg
    subst hx
    have fi := hf it (by simp)
    obtain ⟨Pd, G, D, g0, gat, gp⟩ := Kd.draws I (I.ok.hd hc) hq hit fi
    obtain ⟨f0, f1, f2, f3, f4, f5⟩ := fi
    exact wpAny_pyNext_enum_endD D he g0 fun h' eb => ⟨rfl, I.turned (t' := s.toks) (fun b o hb q => eb b o hb q) f0 f1 f3 f4 f5⟩
  self := fun A i s Q E st h => let ⟨⟨_, he⟩, _⟩ := st; wpAny_pyIter_enum he h
set_option maxHeartbeats 1000000 in
theorem meets_enum1 {v : Value} {o : Obj} {G : Heap → Prop} (B : Begins v o G) :
    Meets (Builtin.«enumerate.__new__» ⟨[.type "enumerate", v], []⟩) (fun _ R s => G s.heap ∧
      R (.ok (.ret (.ref (s.heap.push o).objs.size))) { s with heap := (s.heap.push o).push { cls := .type "enumerate", data := .fields #[.none, .bool false, .ref s.heap.objs.size, rawInt 0, .none, .none] } }) :=
  .of_wp fun prog w A R s h => by
    obtain ⟨hp, g, d, tk, os⟩ := s; obtain ⟨h1, h⟩ := h
    have hsub := sub_enumerate
    have q1 : ∀ {A' : Around} {E : Value → Shared → Prop} {Q : Value → Shared → Prop}, Q (.ref hp.objs.size) ⟨hp.push o, g, d, tk, os⟩ → wpAny (model prog w) A' (pyIter v) Q E ⟨hp, g, d, tk, os⟩ :=
      fun q => B.iter prog w _ _ ⟨hp, g, d, tk, os⟩ _ h1 q
    wp_walk using q1
    refine wpAny_stack_any fun st => wpAny_pure ?_
    split
    · rename_i c _ _ _ _ _
      cases (c == Value.type "enumerate")
      · wp_walk using q1
        exact ⟨_, rfl, h⟩
      · wp_walk using q1
        exact ⟨_, rfl, h⟩
    · wp_walk using q1
      exact ⟨_, rfl, h⟩
theorem enum1_begins {prog : Program} {w : World} {A : Around} {E : Value → Shared → Prop} {s : Shared} {v : Value} {o : Obj} {G : Heap → Prop} {Q : Value → Shared → Prop} (B : Begins v o G) (h1 : G s.heap)
    (h : ∀ h', IsEnum h' (s.heap.objs.size + 1) s.heap.objs.size 0 .none → h'.get? s.heap.objs.size = some o → h'.objs.size = s.heap.objs.size + 2 →
      (∀ b o, s.heap.get? b = some o → h'.get? b = some o) → Q (.ref (s.heap.objs.size + 1)) { s with heap := h' }) :
    wpAny (model prog w) A (call (.type "enumerate") [v]) Q E s := by
  refine callType_new F.called_enumerate (by decide) (F.typeCall_enumerate_1 _) (F.newCall_enumerate_1 _) (fun obj => F.args_object_init_2 obj _) F.entry_enumerate_new
    (meets_enum1 B) ⟨h1, ?_⟩
  have hz : (s.heap.push o).objs.size = s.heap.objs.size + 1 := Heap.size_push ..
  show _ ∧ _
  rw [hz]
  have he : IsEnum ((s.heap.push o).push { cls := .type "enumerate", data := .fields #[.none, .bool false, .ref s.heap.objs.size, rawInt 0, .none, .none] }) (s.heap.objs.size + 1) s.heap.objs.size 0 .none := by
    have := Heap.get?_push_size (s.heap.push o) (o := { cls := .type "enumerate", data := .fields #[.none, .bool false, .ref s.heap.objs.size, rawInt 0, .none, .none] }) rfl
    rw [hz] at this; exact this
  refine ⟨⟨_, he, rfl⟩, h _ he (Heap.get?_push_of_some _ (Heap.get?_push_size _ B.free)) (by rw [Heap.size_push, hz]) fun b o x => Heap.get?_push_of_some _ (Heap.get?_push_of_some _ x)⟩

theorem turn_two {P : Program} {w : World} {K : PySem.W.Frag} {elts : List Expr} {kk : Nat} {tpos : Pos} (k k' : Kd) {z TI TO i1 i2 : Addr} (D : ZipSep2 z TI TO i1 i2 (i1 :: k.src) (i2 :: k'.src)) :
    Turn P w K (.Tuple elts kk tpos) (It2 K k k') [z, TI, TO, i1, i2] z (fun i h => IsZip h z TI TO .none ∧ IsTupOf2 h TI (.ref i1) (.ref i2) ∧ (∃ x y, IsTupOf2 h TO x y) ∧ k.at i1 i h ∧ k'.at i2 i h) where
  mem := by simp
  obj := fun i h st c hc => by
    obtain ⟨hz, hTI, ⟨x, y, hTO⟩, h1, h2⟩ := st
    have e' : c = z ∨ c = TI ∨ c = TO ∨ c = i1 ∨ c = i2 := by simpa using hc
    rcases e' with q | q | q | q | q
    · rw [q]; exact ⟨_, hz, fun v q => nomatch q⟩
    · rw [q]; exact ⟨_, hTI, fun v q => nomatch q⟩
    · rw [q]; exact ⟨_, hTO, fun v q => nomatch q⟩
    · rw [q]; exact Kd.at_obj h1
    · rw [q]; exact Kd.at_obj h2
  keep := fun i h h' st kp => by
    obtain ⟨hz, hTI, ⟨x, y, hTO⟩, h1, h2⟩ := st
    exact ⟨kp z (by simp) _ hz, kp TI (by simp) _ hTI, ⟨x, y, kp TO (by simp) _ hTO⟩, Kd.at_keep h1 fun o q => kp i1 (by simp) o q, Kd.at_keep h2 fun o q => kp i2 (by simp) o q⟩
  item := by
    intro X hP hw hK hc i pins s σ H E I hf st hg
    subst hP hw hK
    obtain ⟨hz, hTI, ⟨x0, y0, hTO⟩, h1, h2⟩ := st
    obtain ⟨xs, ys, x, y, hqx, hqy, hx, hy⟩ := hg
    obtain ⟨P1, G1, D1, g1, ga1, gp1⟩ := Kd.draws I (I.ok.hd hc) hqx h1 (hf i1 (by simp))
    obtain ⟨P2, G2, D2, g2, ga2, gp2⟩ := Kd.draws I (I.ok.hd hc) hqy h2 (hf i2 (by simp))
    have hl1 : i < xs.length := (List.getElem?_eq_some_iff.mp hx).1
    have hl2 : i < ys.length := (List.getElem?_eq_some_iff.mp hy).1
    have hzl : z < s.heap.objs.size := Heap.lt_size hz
    have l1 : i1 < s.heap.objs.size := let ⟨_, q, _⟩ := Kd.at_obj h1; Heap.lt_size q
    have l2 : i2 < s.heap.objs.size := let ⟨_, q, _⟩ := Kd.at_obj h2; Heap.lt_size q
    refine wpAny_pyNext_zipD2_item D D1 D2 hz hTI hTO g1 g2 hl1 hl2 fun u u2 h' tk p1 p2 z' TO' g1' g2' hT hsz hk => ?_
    obtain ⟨x', ex, ru⟩ := gp1 i u p1
    rw [hx] at ex; cases ex
    obtain ⟨y', ey, ru2⟩ := gp2 i u2 p2
    rw [hy] at ey; cases ey
    refine ⟨_, rfl, wpAny_letOwnedTupleGo_zip (s := { s with heap := h', toks := tk }) z' fun h'' z'' sb => ?_⟩
    have hT2 : h''.get? s.heap.objs.size = some { cls := .type "tuple", data := .seq #[u, u2] } := (sb.2 _ (Nat.ne_of_gt hzl)).trans hT
    have new : ObjOk X.prog X.w (upd H s.heap.objs.size (Tz (tupO [u, u2]) [x, y])) h'' s.heap.objs.size (Tz (tupO [u, u2]) [x, y]) :=
      ⟨hT2, by show 2 ≤ sizeLine; decide, [u, u2], .cons ru (.cons ru2 .nil), ⟨_, hT2, rfl, _, rfl⟩⟩
    have I1 : L2.Inv X pins σ (upd H s.heap.objs.size (Tz (tupO [u, u2]) [x, y])) { s with heap := h'', toks := tk } :=
      I.turnedNew (ch := [z, TI, TO, i1, i2]) (fun c o hb q => (sb.2 c (fun q' => hb (by simp [q']))).trans (hk c o (fun q' => hb (by simp [q'])) (fun q' => hb (by simp [q'])) (fun q' => hb (by simp [q'])) (fun q' => hb (by simp [q'])) q)) hf (Nat.le_refl _) new
    refine ⟨.ref s.heap.objs.size, _, I1, rfl, ⟨_, _, x, y, rfl, rfl, I.hok.fresh (Nat.le_refl _), rfl, fun l hl => by rw [Kd.now_inj I hl hqx]; exact hx, fun l hl => by rw [Kd.now_inj I hl hqy]; exact hy⟩, ⟨z'', ?_, ⟨u, u2, ?_⟩, ?_, ?_⟩, fun c hcm => ?_⟩
    · exact (sb.2 _ D.TIz).trans (hk _ _ D.TIz D.TITO D.TIi1 D.TIi2 hTI)
    · exact (sb.2 _ D.TOz).trans TO'
    · exact Kd.at_keep (ga1 _ _ g1') fun o q => (sb.2 _ D.zi1.symm).trans q
    · exact Kd.at_keep (ga2 _ _ g2') fun o q => (sb.2 _ D.zi2.symm).trans q
    · have hlt : c < s.heap.objs.size := by
        have e' : c = z ∨ c = TI ∨ c = TO ∨ c = i1 ∨ c = i2 := by simpa using hcm
        rcases e' with q | q | q | q | q
        · rw [q]; exact hzl
        · rw [q]; exact Heap.lt_size hTI
        · rw [q]; exact Heap.lt_size hTO
        · rw [q]; exact l1
        · rw [q]; exact l2
      rw [upd_ne (Nat.ne_of_lt hlt)]
      exact (hf c hcm).1
  done := by
    intro X hP hw hK hc i pins s σ H E I hf st hg
    subst hP hw hK
    obtain ⟨hz, hTI, ⟨x0, y0, hTO⟩, h1, h2⟩ := st
    obtain ⟨xs, ys, hqx, hqy, hend⟩ := hg
    obtain ⟨P1, G1, D1, g1, ga1, gp1⟩ := Kd.draws I (I.ok.hd hc) hqx h1 (hf i1 (by simp))
    obtain ⟨P2, G2, D2, g2, ga2, gp2⟩ := Kd.draws I (I.ok.hd hc) hqy h2 (hf i2 (by simp))
    refine wpAny_pyNext_zipD2_end D D1 D2 hz hTI hTO g1 g2 (by omega) (by omega) (by omega) fun h' tk hk => ⟨rfl, I.turnedL (ch := [z, TI, TO, i1, i2]) (fun c o hb q =>
      hk c o (fun q' => hb (by simp [q'])) (fun q' => hb (by simp [q'])) (fun q' => hb (by simp [q'])) (fun q' => hb (by simp [q'])) q) hf⟩
  self := fun A i s Q E st h => wpAny_pyIter_zip st.1 h
end TD
end
section
set_option Elab.async false
set_option linter.all false
set_option maxRecDepth 100000
/-! Sources of loops and comprehensions: from the evaluator's items to the iterators. -/
namespace TD
open PySem L2 PySem.Spec
open PyProof.Rows hiding St

section
variable {C : Cs} {c : Ck} {kk : Nat} {W : WX} {X : Cx} {fn : Fns} {pos : Pos} {w w' : Wl} {H H' : Hp}
/-- the source's items, as k shows them -/
def Src (C : Cs) (w : Wl) (H : Hp) (k : Kd) (vs : List V) : Prop := k.now C.K w.F vs ∨ ∃ a, k = .l a ∧ H a = some (.lst vs) ∧ a ∉ w.m
theorem Kd.up {K : PySem.W.Frag} {k : Kd} {vs : List V} {F F' : Hp} (e : Le F F') (h : k.now K F vs) : k.now K F' vs := by
  cases k with
  | l a => exact e.sqL h
  | t a => exact e.sqT h
  | s z tok => exact h
theorem Src.now {k : Kd} {vs : List V} (le : Le w.F H) (h : Src C w H k vs) : k.now C.K H vs := by
  rcases h with h | ⟨a, rfl, h, _⟩
  · exact Kd.up le h
  · exact .inl (.inl h)
theorem Src.ext {k : Kd} {vs : List V} (e : Ext w H w' H') (h : Src C w H k vs) : Src C w' H' k vs := by
  rcases h with h | ⟨a, rfl, h, m⟩
  · exact .inl (Kd.up e.F h)
  · exact .inr ⟨a, rfl, e.kp a _ h (fun _ z => by cases z) m, fun q => (e.mn a q).elim m fun z => z.no h fun _ z => by cases z⟩
theorem items_str {z : Str} {s : Sx} (e : z = toS s) {K : PySem.W.Frag} {F : Hp} {ι : List Addr} : Reps K F ι (z.cps.toList.map fun c => V.str ⟨#[c]⟩) (s.map fun c => D.str [c]) := by
  subst e
  rw [toS_cps]
  induction s with
  | nil => exact .nil
  | cons c s ih => exact .cons (.str [c]) ih
theorem src_rep {v : V} {u : Value} {d : D} {ds : List D} {S S' : Sto} (r : Rep C.K w.F w.ι v d) (rv : RelV v u) (e : d.items S = .ok ds S') :
    ∃ (k : Kd) (vs : List V), k.is u ∧ k.now C.K w.F vs ∧ Reps C.K w.F w.ι vs ds := by
  cases d with
  | str s =>
    cases e
    cases r
    obtain ⟨t, rfl⟩ := rv
    exact ⟨.s (toS s) t, _, rfl, rfl, items_str rfl⟩
  | tup l =>
    obtain ⟨rfl, rfl⟩ : l = ds ∧ S = S' := by cases e; exact ⟨rfl, rfl⟩
    cases r with
    | tup h r => exact ⟨.t _, _, rv, h.sq, r⟩
  | lst l =>
    obtain ⟨rfl, rfl⟩ : l = ds ∧ S = S' := by cases e; exact ⟨rfl, rfl⟩
    cases r with
    | lst h r => exact ⟨.l _, _, rv, h, r⟩
  | _ => cases e
theorem src_see {v : V} {u : Value} {d : D} {ds : List D} {S S' : Sto} (see : See C w H v d) (rv : RelV v u) (e : d.items S = .ok ds S') :
    ∃ (k : Kd) (vs : List V), k.is u ∧ Src C w H k vs ∧ Reps C.K w.F w.ι vs ds := by
  rcases see with r | ⟨a, o, h1, h2, h3, h4⟩
  · obtain ⟨k, vs, a, b, c⟩ := src_rep r rv e
    exact ⟨k, vs, a, .inl b, c⟩
  · cases d with
    | lst l =>
      obtain ⟨rfl, rfl⟩ : l = ds ∧ S = S' := by cases e; exact ⟨rfl, rfl⟩
      cases o <;> simp only [Cont] at h4
      subst h1
      exact ⟨.l a, _, rv, .inr ⟨a, rfl, h2, h3⟩, h4⟩
    | tup l => cases o <;> simp only [Cont] at h4
    | str l => cases o <;> simp only [Cont] at h4
    | _ => cases e

/-- J gives what the list tells, wherever G stands -/
def Itok (C : Cs) (J : It) (ds : List D) (G : Wl → Hp → Prop) : Prop := ∀ w H, G w H → Le w.F H → J.stop ds.length H ∧
  ∀ i d, ds[i]? = some d → J.go i H ∧ ∀ x H', J.yld i H x H' → ∃ w', Grow w H w' H' ∧ Rep C.K w'.F w'.ι x d
theorem Itok.imp {J : It} {ds : List D} {G G' : Wl → Hp → Prop} (h : Itok C J ds G) (i : ∀ w H, G' w H → G w H) : Itok C J ds G' := fun w H g le => h w H (i w H g) le
def GX (w : Wl) (H : Hp) : Wl → Hp → Prop := fun w' H' => Ext w H w' H'
def GF (w : Wl) : Wl → Hp → Prop := fun w' _ => Le w.F w'.F ∧ w.ι <+: w'.ι
/-- plainly, one kind after another -/
def Kd.it (K : PySem.W.Frag) : Kd → It
  | .l a => Itl K a
  | .t a => Itt K a
  | .s z _ => Its z
theorem itok_kd {k : Kd} {ds : List D} {G : Wl → Hp → Prop} {vs : List V} (h : ∀ w H, G w H → Le w.F H → k.now C.K H vs ∧ Reps C.K w.F w.ι vs ds) : Itok C (k.it C.K) ds G := by
  intro w H g le
  obtain ⟨n, r⟩ := h w H g le
  cases k with
  | l a =>
    refine ⟨⟨vs, n, by rw [r.length]; exact Nat.le_refl _⟩, fun i d hd => ?_⟩
    obtain ⟨v, hv, rv⟩ := r.get' hd
    refine ⟨⟨vs, v, n, hv⟩, fun x H' y => ?_⟩
    obtain ⟨e, y⟩ := y
    subst e
    have := y vs n
    rw [hv] at this; cases this
    exact ⟨w, Grow.refl le, rv⟩
  | t a =>
    refine ⟨⟨vs, n, by rw [r.length]; exact Nat.le_refl _⟩, fun i d hd => ?_⟩
    obtain ⟨v, hv, rv⟩ := r.get' hd
    refine ⟨⟨vs, v, n, hv⟩, fun x H' y => ?_⟩
    obtain ⟨e, y⟩ := y
    subst e
    have := y vs n
    rw [hv] at this; cases this
    exact ⟨w, Grow.refl le, rv⟩
  | s z tok =>
    have n : vs = _ := n
    subst n
    have hl := r.length
    rw [List.length_map] at hl
    refine ⟨by show z.cps.size ≤ _; rw [← hl]; simp, fun i d hd => ?_⟩
    obtain ⟨v, hv, rv⟩ := r.get' hd
    have hlt : i < z.cps.size := by
      have := (List.getElem?_eq_some_iff.mp hv).1
      simpa using this
    refine ⟨hlt, fun x H' y => ?_⟩
    obtain ⟨e, cc, hc, ex⟩ := y
    subst e ex
    have : (z.cps.toList.map fun c => V.str ⟨#[c]⟩)[i]? = some (V.str ⟨#[cc]⟩) := by simp [hc]
    rw [hv] at this; cases this
    exact ⟨w, Grow.refl le, rv⟩
theorem pair_grow {w : Wl} {H : Hp} {T : Addr} {o : Obj} (ho : o.dict = none) {x y : V} {d e : D} (le : Le w.F H) (h : H T = none) (rx : Rep C.K w.F w.ι x d) (ry : Rep C.K w.F w.ι y e) : Grow w H (w.add T (Tz o [x, y])) (upd H T (Tz o [x, y])) ∧ Rep C.K (w.add T (Tz o [x, y])).F (w.add T (Tz o [x, y])).ι (.ref T) (.tup [d, e]) :=
  ⟨Grow.add le h, .tup (.inl ⟨o, ho, upd_same⟩) (.cons (rx.mono (Le.new (le.free h)) List.prefix_rfl) (.cons (ry.mono (Le.new (le.free h)) List.prefix_rfl) .nil))⟩
theorem enum_get {ds : List D} {i : Nat} {p : D} (h : (enumD ds)[i]? = some p) : ∃ d, ds[i]? = some d ∧ p = .tup [.int (i : Nat), d] := by
  unfold enumD at h
  rw [List.getElem?_zipWith] at h
  cases e : ds[i]? with
  | none => rw [e] at h; cases q : (List.range ds.length)[i]? <;> rw [q] at h <;> cases h
  | some d =>
    have hlt := (List.getElem?_eq_some_iff.mp e).1
    rw [e, List.getElem?_range hlt] at h
    exact ⟨d, rfl, (Option.some.inj h).symm⟩
theorem enum_len (ds : List D) : (enumD ds).length = ds.length := by simp [enumD]
theorem itok_num {k : Kd} {ds : List D} {G : Wl → Hp → Prop} {vs : List V} (h : ∀ w H, G w H → Le w.F H → k.now C.K H vs ∧ Reps C.K w.F w.ι vs ds) : Itok C (Itn C.K k) (enumD ds) G := by
  intro w H g le
  obtain ⟨n, r⟩ := h w H g le
  rw [enum_len]
  refine ⟨⟨vs, n, r.length⟩, fun i p hp => ?_⟩
  obtain ⟨d, hd, rfl⟩ := enum_get hp
  obtain ⟨v, hv, rv⟩ := r.get' hd
  refine ⟨⟨vs, v, n, hv⟩, fun x H' y => ?_⟩
  obtain ⟨T, o, x, rfl, ho, hT, rfl, hx⟩ := y
  have := hx vs n
  rw [hv] at this; cases this
  exact ⟨_, pair_grow ho le hT (.int _) rv⟩
theorem pairs_get {ds es : List D} {i : Nat} {p : D} (h : (pairsD ds es)[i]? = some p) : ∃ d e, ds[i]? = some d ∧ es[i]? = some e ∧ p = .tup [d, e] := by
  unfold pairsD at h
  rw [List.getElem?_zipWith] at h
  cases e : ds[i]? with
  | none => rw [e] at h; cases q : es[i]? <;> rw [q] at h <;> cases h
  | some d =>
    cases q : es[i]? with
    | none => rw [e, q] at h; cases h
    | some d' => rw [e, q] at h; exact ⟨d, d', rfl, rfl, (Option.some.inj h).symm⟩
theorem itok_two {k k' : Kd} {ds es : List D} {G : Wl → Hp → Prop} {vs us : List V} (h : ∀ w H, G w H → Le w.F H → k.now C.K H vs ∧ Reps C.K w.F w.ι vs ds) (h' : ∀ w H, G w H → Le w.F H → k'.now C.K H us ∧ Reps C.K w.F w.ι us es) : Itok C (It2 C.K k k') (pairsD ds es) G := by
  intro w H g le
  obtain ⟨n, r⟩ := h w H g le
  obtain ⟨n', r'⟩ := h' w H g le
  refine ⟨⟨vs, us, n, n', by simp [pairsD, r.length, r'.length]⟩, fun i p hp => ?_⟩
  obtain ⟨d, e, hd, he, rfl⟩ := pairs_get hp
  obtain ⟨v, hv, rv⟩ := r.get' hd
  obtain ⟨u, hu, ru⟩ := r'.get' he
  refine ⟨⟨vs, us, v, u, n, n', hv, hu⟩, fun x H' y => ?_⟩
  obtain ⟨T, o, x, y, rfl, ho, hT, rfl, hx, hy⟩ := y
  have := hx vs n
  rw [hv] at this; cases this
  have := hy us n'
  rw [hu] at this; cases this
  exact ⟨_, pair_grow ho le hT rv ru⟩
theorem range_get {a b : Int} {i : Nat} {p : D} (h : (rangeD a b)[i]? = some p) : i < (b - a).toNat ∧ p = .int (a + (i : Nat)) := by
  unfold rangeD at h
  rw [List.getElem?_map] at h
  by_cases hlt : i < (b - a).toNat
  · rw [List.getElem?_range hlt] at h
    exact ⟨hlt, (Option.some.inj h).symm⟩
  · rw [List.getElem?_eq_none (by simpa using hlt)] at h; cases h
theorem itok_rng {a b : Int} {G : Wl → Hp → Prop} : Itok C (Itr a (b - a).toNat) (rangeD a b) G := by
  intro w H g le
  refine ⟨by show (b - a).toNat ≤ (rangeD a b).length; simp [rangeD], fun i p hp => ?_⟩
  obtain ⟨hlt, rfl⟩ := range_get hp
  refine ⟨hlt, fun x H' y => ?_⟩
  obtain ⟨e, ex⟩ := y
  subst e ex
  exact ⟨w, Grow.refl le, .int _⟩

/-- a source -/
def tI (C : Cs) (W : WX) (fn : Fns) (x : E) : TI := fun σ H R => ∃ w0 H0 ρ S w, Rel C w0 H0 ρ S w σ H ∧ Aft C W σ w H (M.bind (ev fn ρ x) D.items S) fun ds w' H' => ∀ J, Itok C J ds (GX w' H') → (isOwn ρ x = false → Itok C J ds (GF w')) → R J H'

theorem pi_kd {tg : Expr} {pins : List (Addr × Obj)} {σ : L2.St} {H : Hp} {s : Shared} {R : It → Hp → Prop} {k : Kd} {vs : List V} {u : Value} (I : L2.Inv X pins σ H s) (hu : k.is u) (hn : k.now X.K H vs) (q : R (k.it X.K) H) : wpAny (model X.prog X.w) X.A (pyIter u) (PIE X pins σ tg R) X.xe s := by
  cases k with
  | l a =>
    have hu : u = .ref a := hu
    subst hu
    obtain ⟨its, rv, p, hz⟩ := I.list (xs := vs) hn
    refine wpAny_pyIter_list p.isList ?_
    refine ⟨s.heap.objs.size, [s.heap.objs.size], _, _, H, rfl, I.kept (t' := s.toks) fun b o e => Heap.get?_push_of_some _ e, turn_list a _, ⟨_, Heap.get?_push_size _ rfl, rfl, rfl⟩, fun b hb => ?_, q⟩
    have e : b = s.heap.objs.size := by simpa using hb
    subst e
    exact I.fpOk (Nat.le_refl _) (I.hok.fresh (Nat.le_refl _))
  | t a =>
    have hu : u = .ref a := hu
    subst hu
    obtain ⟨its, rv, p, hz⟩ := I.tuple (xs := vs) hn
    refine wpAny_pyIter_tuple (show s.heap.IsTuple a its.toArray from p) ?_
    refine ⟨s.heap.objs.size, [s.heap.objs.size], _, _, H, rfl, I.kept (t' := s.toks) fun b o e => Heap.get?_push_of_some _ e, turn_tuple a _, ⟨_, Heap.get?_push_size _ rfl, rfl, rfl⟩, fun b hb => ?_, q⟩
    have e : b = s.heap.objs.size := by simpa using hb
    subst e
    exact I.fpOk (Nat.le_refl _) (I.hok.fresh (Nat.le_refl _))
  | s z tok =>
    have hu : u = .str z tok := hu
    subst hu
    cases ha : z.cps.all (· < 128)
    · exact wpAny_pyIter_wide ha (pi_one (tk := s.toks) I _ (turn_str _ z tok "str_iterator" (.inr rfl)) ⟨_, Heap.get?_push_size _ rfl, rfl, rfl⟩ q)
    · exact wpAny_pyIter_ascii ha (pi_one (tk := s.toks) I _ (turn_str _ z tok "str_ascii_iterator" (.inl rfl)) ⟨_, Heap.get?_push_size _ rfl, rfl, rfl⟩ q)
theorem src_gx {k : Kd} {vs : List V} {ds : List D} (h : Src C w H k vs) (r : Reps C.K w.F w.ι vs ds) : ∀ w' H', GX w H w' H' → Le w'.F H' → k.now C.K H' vs ∧ Reps C.K w'.F w'.ι vs ds :=
  fun w' H' g le => ⟨(h.ext g).now le, r.mono g.F g.ι⟩
theorem src_gf {k : Kd} {vs : List V} {ds : List D} (h : k.now C.K w.F vs) (r : Reps C.K w.F w.ι vs ds) : ∀ w' H', GF w w' H' → Le w'.F H' → k.now C.K H' vs ∧ Reps C.K w'.F w'.ι vs ds :=
  fun w' H' g le => ⟨Kd.up (g.1.trans le) h, r.mono g.1 g.2⟩
variable {tg a b : Expr} {x y : E}
theorem di_plain (h : XOk C c kk W X) (ha : PE X a (tE C W fn x)) : PI X tg a (tI C W fn x) := by
  refine ⟨fun pins s σ H R I ⟨w0, H0, ρ, S, w, R0, af⟩ => ?_⟩
  refine thn (ha.run pins s σ H (fun v H1 => ∃ w1 S1 d ds S2, Wd C S1 w1 H1 ∧ See C w1 H1 v d ∧ d.items S1 = .ok ds S2 ∧ (isOwn ρ x = false → Rep C.K w1.F w1.ι v d) ∧ ∀ J, Itok C J ds (GX w1 H1) → (isOwn ρ x = false → Itok C J ds (GF w1)) → R J H1) I (step R0 af fun d S1 v H1 w1 x1 R1 see rep af1 => ?_)) fun u s1 ⟨v, H1, I1, r1, w1, S1, d, ds, S2, wd, see, e, rep, q⟩ => ?_
  · have ok : ∃ ds, d.items S1 = .ok ds S1 := by
      cases d <;> first | exact ⟨_, rfl⟩ | exact af1.elim
    obtain ⟨ds, e⟩ := ok
    rw [e] at af1
    exact ⟨w1, S1, d, ds, S1, R1.wd, see, e, rep, af1 H1 w1 (Ext.refl _ _) R1.wd⟩
  · cases hw : isOwn ρ x with
    | true =>
      obtain ⟨k, vs, hk, hs, hr⟩ := src_see see r1 e
      refine pi_kd I1 hk (by rw [h.K]; exact hs.now wd.le) (q _ ?_ fun z => by rw [hw] at z; cases z)
      rw [h.K]; exact itok_kd (src_gx hs hr)
    | false =>
      obtain ⟨k, vs, hk, hs, hr⟩ := src_rep (rep hw) r1 e
      refine pi_kd I1 hk (by rw [h.K]; exact Kd.up wd.le hs) (q _ ?_ fun _ => ?_)
      · rw [h.K]; exact itok_kd (src_gx (.inl hs) hr)
      · rw [h.K]; exact itok_kd (src_gf hs hr)
/-- range -/
theorem di_range2 (h : XOk C c kk W X) {p : Pos} (hg : glB c.sc "range" = true) (hm : C.mg "range" = none) (ha : PE X a (tE C W fn x)) (hb : PE X b (tE C W fn y)) (hs : starEach [a, b] X.env = [(false, eval a X.env), (false, eval b X.env)] := by rfl) (hs2 : starEach [b] X.env = [(false, eval b X.env)] := by rfl) :
    PI X tg (.Call (.Name "range" p) [a, b] [] pos) (tI C W fn (.rng x y)) := by
  refine ⟨fun pins s σ H R I ⟨w0, H0, ρ, S, w, R0, af⟩ => ?_⟩
  refine (pi_range2 (gl_of h hg) (by rw [h.mg]; exact hm) (pa_cons ha (pa_cons hb pa_nil hs2) (by rw [hs, hs2])) hs hs2).run pins s σ H R I ?_
  have af : Aft C W σ w H (M.bind (ev fn ρ x) (fun d => M.bind (ev fn ρ y) fun e => M.bind (match d, e with
    | .int i, .int j => M.bind (M.ask (rangeOk i j)) fun _ => M.ret (D.lst (rangeD i j))
    | _, _ => M.bad) D.items) S) fun ds w' H' => ∀ J, Itok C J ds (GX w' H') → (isOwn ρ (.rng x y) = false → Itok C J ds (GF w')) → R J H' := by
    have af : Aft C W σ w H (M.bind (M.bind (ev fn ρ x) fun d => M.bind (ev fn ρ y) fun e => match d, e with
    | .int i, .int j => M.bind (M.ask (rangeOk i j)) fun _ => M.ret (D.lst (rangeD i j))
    | _, _ => M.bad) D.items S) fun ds w' H' => ∀ J, Itok C J ds (GX w' H') → (isOwn ρ (.rng x y) = false → Itok C J ds (GF w')) → R J H' := by
      have := af
      unfold ev at this
      exact this
    rw [bind_assoc] at af
    have e : (fun d => M.bind (M.bind (ev fn ρ y) fun e => match d, e with
    | D.int i, D.int j => M.bind (M.ask (rangeOk i j)) fun _ => M.ret (D.lst (rangeD i j))
    | _, _ => M.bad) D.items) = fun d => M.bind (ev fn ρ y) fun e => M.bind (match d, e with
    | D.int i, D.int j => M.bind (M.ask (rangeOk i j)) fun _ => M.ret (D.lst (rangeD i j))
    | _, _ => M.bad) D.items := funext fun d => bind_assoc _ _ _
    rw [e] at af
    exact af
  refine step R0 af fun d S1 v H1 w1 x1 R1 see1 _ af1 => ?_
  refine step R1 af1 fun e S2 u H2 w2 x2 R2 see2 _ af2 => ?_
  obtain ⟨i, rfl⟩ : ∃ i, d = .int i := by cases d <;> first | exact ⟨_, rfl⟩ | exact af2.elim
  obtain ⟨j, rfl⟩ : ∃ i, e = .int i := by cases e <;> first | exact ⟨_, rfl⟩ | exact af2.elim
  have e1 := (see1.ext x2).int
  have e2 := see2.int
  subst e1 e2
  cases g : rangeOk i j with
  | false =>
    have af2 : Aft C W σ w2 H2 (M.bind (M.bind (M.ask (rangeOk i j)) fun _ => M.ret (D.lst (rangeD i j))) D.items S2) fun ds w' H' => ∀ J, Itok C J ds (GX w' H') → (isOwn ρ (.rng x y) = false → Itok C J ds (GF w')) → R J H' := af2
    rw [g] at af2
    exact af2.elim
  | true =>
    have af2 : Aft C W σ w2 H2 (M.bind (M.bind (M.ask (rangeOk i j)) fun _ => M.ret (D.lst (rangeD i j))) D.items S2) fun ds w' H' => ∀ J, Itok C J ds (GX w' H') → (isOwn ρ (.rng x y) = false → Itok C J ds (GF w')) → R J H' := af2
    rw [g] at af2
    have af2 := af2 H2 w2 (Ext.refl _ _) R2.wd
    simp only [rangeOk, Bool.and_eq_true, decide_eq_true_eq] at g
    exact ⟨i, j, rfl, ⟨g.1.1.1, g.1.1.2, g.1.2, g.2⟩, af2 _ itok_rng fun _ => itok_rng⟩
theorem ev_con {ρ : TD.Env} {d : D} : ev fn ρ (.con d) = M.ret d := by unfold ev; rfl
theorem di_range1 (h : XOk C c kk W X) {p : Pos} (hg : glB c.sc "range" = true) (hm : C.mg "range" = none) (hb : PE X b (tE C W fn y)) (hs : starEach [b] X.env = [(false, eval b X.env)] := by rfl) :
    PI X tg (.Call (.Name "range" p) [b] [] pos) (tI C W fn (.rng (.con (.int 0)) y)) := by
  refine ⟨fun pins s σ H R I ⟨w0, H0, ρ, S, w, R0, af⟩ => ?_⟩
  refine (pi_range1 (gl_of h hg) (by rw [h.mg]; exact hm) (pa_cons hb pa_nil hs) hs).run pins s σ H R I ?_
  have af : Aft C W σ w H (M.bind (ev fn ρ y) (fun e => M.bind (match e with
    | .int j => M.bind (M.ask (rangeOk 0 j)) fun _ => M.ret (D.lst (rangeD 0 j))
    | _ => M.bad) D.items) S) fun ds w' H' => ∀ J, Itok C J ds (GX w' H') → (isOwn ρ (.rng (.con (.int 0)) y) = false → Itok C J ds (GF w')) → R J H' := by
    have af : Aft C W σ w H (M.bind (M.bind (ev fn ρ y) fun e => match e with
    | .int j => M.bind (M.ask (rangeOk 0 j)) fun _ => M.ret (D.lst (rangeD 0 j))
    | _ => M.bad) D.items S) fun ds w' H' => ∀ J, Itok C J ds (GX w' H') → (isOwn ρ (.rng (.con (.int 0)) y) = false → Itok C J ds (GF w')) → R J H' := by
      have af : Aft C W σ w H (M.bind (M.bind (M.ret (D.int 0)) fun d => M.bind (ev fn ρ y) fun e => match d, e with
    | .int i, .int j => M.bind (M.ask (rangeOk i j)) fun _ => M.ret (D.lst (rangeD i j))
    | _, _ => M.bad) D.items S) fun ds w' H' => ∀ J, Itok C J ds (GX w' H') → (isOwn ρ (.rng (.con (.int 0)) y) = false → Itok C J ds (GF w')) → R J H' := by
        have := af
        unfold ev at this
        rw [ev_con] at this
        exact this
      rw [bind_assoc] at af
      have e : (fun e => match (D.int 0), e with
        | D.int i, D.int j => M.bind (M.ask (rangeOk i j)) fun _ => M.ret (D.lst (rangeD i j))
        | _, _ => M.bad) = fun e => match e with
        | D.int j => M.bind (M.ask (rangeOk 0 j)) fun _ => M.ret (D.lst (rangeD 0 j))
        | _ => M.bad := funext fun e => by cases e <;> rfl
      rw [← e]
      exact af
    rw [bind_assoc] at af
    exact af
  refine step R0 af fun e S2 u H2 w2 x2 R2 see2 _ af2 => ?_
  obtain ⟨j, rfl⟩ : ∃ i, e = .int i := by cases e <;> first | exact ⟨_, rfl⟩ | exact af2.elim
  have e2 := see2.int
  subst e2
  have af2 : Aft C W σ w2 H2 (M.bind (M.bind (M.ask (rangeOk 0 j)) fun _ => M.ret (D.lst (rangeD 0 j))) D.items S2) fun ds w' H' => ∀ J, Itok C J ds (GX w' H') → (isOwn ρ (.rng (.con (.int 0)) y) = false → Itok C J ds (GF w')) → R J H' := af2
  cases g : rangeOk 0 j with
  | false =>
    rw [g] at af2
    exact af2.elim
  | true =>
    rw [g] at af2
    have af2 := af2 H2 w2 (Ext.refl _ _) R2.wd
    simp only [rangeOk, Bool.and_eq_true, decide_eq_true_eq] at g
    have e : (Itr 0 j.toNat) = Itr 0 (j - 0).toNat := by rw [Int.sub_zero]
    exact ⟨j, rfl, g.1.2, g.2, by rw [e]; exact af2 _ itok_rng fun _ => itok_rng⟩

/-- enumerate -/
theorem di_enum (h : XOk C c kk W X) {p tpos : Pos} {elts : List Expr} {kk : Nat} (hg : glB c.sc "enumerate" = true) (hm : C.mg "enumerate" = none) (ha : PE X a (tE C W fn x)) (hs : starEach [a] X.env = [(false, eval a X.env)] := by rfl) :
    PI X (.Tuple elts kk tpos) (.Call (.Name "enumerate" p) [a] [] pos) (tI C W fn (.enu x)) := by
  refine ⟨fun pins s σ H R I ⟨w0, H0, ρ, S, w, R0, af⟩ => ?_⟩
  have af : Aft C W σ w H (M.bind (M.ask (!isOwn ρ x)) (fun _ => M.bind (ev fn ρ x) fun d => M.bind (M.bind d.items fun its => M.ret (D.lst (enumD its))) D.items) S) fun ds w' H' => ∀ J, Itok C J ds (GX w' H') → (isOwn ρ (.enu x) = false → Itok C J ds (GF w')) → R J H' := by
    have af : Aft C W σ w H (M.bind (M.bind (M.ask (!isOwn ρ x)) fun _ => M.bind (ev fn ρ x) fun d => M.bind d.items fun its => M.ret (D.lst (enumD its))) D.items S) fun ds w' H' => ∀ J, Itok C J ds (GX w' H') → (isOwn ρ (.enu x) = false → Itok C J ds (GF w')) → R J H' := by
      have := af
      unfold ev at this
      exact this
    rw [bind_assoc] at af
    have e : (fun (_ : Unit) => M.bind (M.bind (ev fn ρ x) fun d => M.bind d.items fun its => M.ret (D.lst (enumD its))) D.items) = fun _ => M.bind (ev fn ρ x) fun d => M.bind (M.bind d.items fun its => M.ret (D.lst (enumD its))) D.items := funext fun _ => bind_assoc _ _ _
    rw [e] at af
    exact af
  cases gw : isOwn ρ x with
  | true => rw [gw] at af; exact af.elim
  | false =>
  rw [gw] at af
  have af : Aft C W σ w H (M.bind (ev fn ρ x) (fun d => M.bind (M.bind d.items fun its => M.ret (D.lst (enumD its))) D.items) S) fun ds w' H' => ∀ J, Itok C J ds (GX w' H') → (isOwn ρ (.enu x) = false → Itok C J ds (GF w')) → R J H' := af
  refine Call_ (ld_blt I (gl_of h hg) (by rw [h.mg]; exact hm) boot_enumerate (PyProof.Rows.callWith_type1 (thn ((pa_cons ha pa_nil hs).run pos pins s σ H (fun vs H1 => ∃ v w1 S1 d ds, vs = [v] ∧ Wd C S1 w1 H1 ∧ See C w1 H1 v d ∧ d.items S1 = .ok ds S1 ∧ Rep C.K w1.F w1.ι v d ∧ ∀ J, Itok C J (enumD ds) (GX w1 H1) → Itok C J (enumD ds) (GF w1) → R J H1) I (step R0 af fun d S1 v H1 w1 x1 R1 see rep af1 => ?_)) fun us s1 ⟨vs, H1, I1, r1, v, w1, S1, d, ds, ev, wd, see, e, rep, q⟩ => ?_) hs rfl))
  · have ok : ∃ ds, d.items S1 = .ok ds S1 := by
      cases d <;> first | exact ⟨_, rfl⟩ | exact af1.elim
    obtain ⟨ds, e⟩ := ok
    refine ⟨v, w1, S1, d, ds, rfl, R1.wd, see, e, rep gw, fun J h1 h2 => ?_⟩
    have e2 : M.bind (M.bind d.items fun its => M.ret (D.lst (enumD its))) D.items S1 = .ok (enumD ds) S1 := by
      unfold M.bind
      rw [e]
      rfl
    rw [e2] at af1
    exact af1 H1 w1 (Ext.refl _ _) R1.wd J h1 fun _ => h2
  · subst ev
    obtain ⟨u, rfl, rv⟩ : ∃ u, us = [u] ∧ RelV v u := by
      cases r1 with
      | cons r rr => cases rr; exact ⟨_, rfl, r⟩
    obtain ⟨k, vs, hk, hs', hr⟩ := src_rep rep rv e
    have hn : k.now X.K H1 vs := by rw [h.K]; exact Kd.up wd.le hs'
    obtain ⟨G, B, g⟩ := Kd.begins I1 hn hk
    refine enum1_begins B g fun h' he hit hsz hk' => wpAny_pyIter_enum he ?_
    have I2 : L2.Inv X pins σ H1 { s1 with heap := h' } := I1.kept (t' := s1.toks) hk'
    refine ⟨s1.heap.objs.size + 1, [s1.heap.objs.size + 1, s1.heap.objs.size], _, _, H1, rfl, I2, turn_num k (s1.heap.objs.size + 1) s1.heap.objs.size, ⟨⟨.none, he⟩, Kd.at_first hit, Nat.succ_ne_self _⟩, fun b hb => ?_, q (Itn X.K k) ?_ ?_⟩
    · have e' : b = s1.heap.objs.size + 1 ∨ b = s1.heap.objs.size := by simpa using hb
      have hle : s1.heap.objs.size ≤ b := by
        rcases e' with z | z
        · rw [z]; exact Nat.le_add_right _ _
        · rw [z]; exact Nat.le_refl _
      exact I1.fpOk hle (I1.hok.fresh hle)
    · rw [h.K]; exact itok_num (src_gx (.inl hs') hr)
    · rw [h.K]; exact itok_num (src_gf hs' hr)
theorem src_lt {pins : List (Addr × Obj)} {σ : L2.St} {s : Shared} {k : Kd} {vs : List V} (I : L2.Inv X pins σ H s) (h : k.now X.K H vs) : ∀ b ∈ k.src, b < s.heap.objs.size := fun b hb => by
  cases k with
  | l a =>
    have : b = a := by simpa [Kd.src] using hb
    subst this
    obtain ⟨its, rv, p, _⟩ := I.list (xs := vs) h
    obtain ⟨o, ho, _⟩ := p.isList
    exact Heap.lt_size ho
  | t a =>
    have : b = a := by simpa [Kd.src] using hb
    subst this
    obtain ⟨its, rv, p, _⟩ := I.tuple (xs := vs) h
    obtain ⟨o, ho, _⟩ := p
    exact Heap.lt_size ho
  | s z tok => simp [Kd.src] at hb
/-- zip -/
theorem di_zip (h : XOk C c kk W X) {p tpos : Pos} {elts : List Expr} {kk : Nat} (hg : glB c.sc "zip" = true) (hm : C.mg "zip" = none) (ha : PE X a (tE C W fn x)) (hb : PE X b (tE C W fn y)) (hs : starEach [a, b] X.env = [(false, eval a X.env), (false, eval b X.env)] := by rfl) (hs2 : starEach [b] X.env = [(false, eval b X.env)] := by rfl) :
    PI X (.Tuple elts kk tpos) (.Call (.Name "zip" p) [a, b] [] pos) (tI C W fn (.zip x y)) := by
  refine ⟨fun pins s σ H R I ⟨w0, H0, ρ, S, w, R0, af⟩ => ?_⟩
  have af : Aft C W σ w H (M.bind (M.ask (!isOwn ρ x && !isOwn ρ y)) (fun _ => M.bind (ev fn ρ x) fun d => M.bind (ev fn ρ y) fun e => M.bind (M.bind d.items fun xs => M.bind e.items fun ys => M.ret (D.lst (pairsD xs ys))) D.items) S) fun ds w' H' => ∀ J, Itok C J ds (GX w' H') → (isOwn ρ (.zip x y) = false → Itok C J ds (GF w')) → R J H' := by
    have af : Aft C W σ w H (M.bind (M.bind (M.ask (!isOwn ρ x && !isOwn ρ y)) fun _ => M.bind (ev fn ρ x) fun d => M.bind (ev fn ρ y) fun e => M.bind d.items fun xs => M.bind e.items fun ys => M.ret (D.lst (pairsD xs ys))) D.items S) fun ds w' H' => ∀ J, Itok C J ds (GX w' H') → (isOwn ρ (.zip x y) = false → Itok C J ds (GF w')) → R J H' := by
      have := af
      unfold ev at this
      exact this
    rw [bind_assoc] at af
    have e : (fun (_ : Unit) => M.bind (M.bind (ev fn ρ x) fun d => M.bind (ev fn ρ y) fun e => M.bind d.items fun xs => M.bind e.items fun ys => M.ret (D.lst (pairsD xs ys))) D.items) = fun _ => M.bind (ev fn ρ x) fun d => M.bind (ev fn ρ y) fun e => M.bind (M.bind d.items fun xs => M.bind e.items fun ys => M.ret (D.lst (pairsD xs ys))) D.items := funext fun _ => (bind_assoc _ _ _).trans (congrArg _ (funext fun _ => bind_assoc _ _ _))
    rw [e] at af
    exact af
  cases gw : (!isOwn ρ x && !isOwn ρ y) with
  | false => rw [gw] at af; exact af.elim
  | true =>
  rw [gw] at af
  obtain ⟨g1, g2⟩ := ask_and gw
  have af : Aft C W σ w H (M.bind (ev fn ρ x) (fun d => M.bind (ev fn ρ y) fun e => M.bind (M.bind d.items fun xs => M.bind e.items fun ys => M.ret (D.lst (pairsD xs ys))) D.items) S) fun ds w' H' => ∀ J, Itok C J ds (GX w' H') → (isOwn ρ (.zip x y) = false → Itok C J ds (GF w')) → R J H' := af
  refine Call_ (ld_blt I (gl_of h hg) (by rw [h.mg]; exact hm) boot_zip (PyProof.Rows.callWith_type1 (thn ((pa_cons ha (pa_cons hb pa_nil hs2) (by rw [hs, hs2])).run pos pins s σ H (fun vs H1 => ∃ v v' w1 S1 d d' ds es, vs = [v, v'] ∧ Wd C S1 w1 H1 ∧ See C w1 H1 v d ∧ See C w1 H1 v' d' ∧ d.items S1 = .ok ds S1 ∧ d'.items S1 = .ok es S1 ∧ Rep C.K w1.F w1.ι v d ∧ Rep C.K w1.F w1.ι v' d' ∧ ∀ J, Itok C J (pairsD ds es) (GX w1 H1) → Itok C J (pairsD ds es) (GF w1) → R J H1) I (step R0 af fun d S0 v H0' w0' x0 R0' see0 rep0 af0 => step R0' af0 fun d' S1 v' H1 w1 x1 R1 see rep af1 => ?_)) fun us s1 ⟨vs, H1, I1, r1, v, v', w1, S1, d, d', ds, es, ev, wd, see, see', e, e', rep, rep', q⟩ => ?_) (by rw [hs, hs2]) (by rw [hs2]; rfl)))
  · have ok : ∃ ds, d.items S1 = .ok ds S1 := by
      cases d <;> first | exact ⟨_, rfl⟩ | exact af1.elim
    obtain ⟨ds, e⟩ := ok
    have ok : ∃ es, d'.items S1 = .ok es S1 := by
      unfold M.bind at af1
      rw [e] at af1
      cases d' <;> first | exact ⟨_, rfl⟩ | exact af1.elim
    obtain ⟨es, e'⟩ := ok
    refine ⟨v, v', w1, S1, d, d', ds, es, rfl, R1.wd, see0.ext x1, see, e, e', (rep0 (by simpa using g1)).mono x1.F x1.ι, rep (by simpa using g2), fun J h1 h2 => ?_⟩
    have e2 : M.bind (M.bind d.items fun xs => M.bind d'.items fun ys => M.ret (D.lst (pairsD xs ys))) D.items S1 = .ok (pairsD ds es) S1 := by
      unfold M.bind
      rw [e]
      simp only [e']
      rfl
    rw [e2] at af1
    exact af1 H1 w1 (Ext.refl _ _) R1.wd J h1 fun _ => h2
  · subst ev
    obtain ⟨u, u', rfl, rv, rv'⟩ : ∃ u u', us = [u, u'] ∧ RelV v u ∧ RelV v' u' := by
      cases r1 with
      | cons r rr =>
        cases rr with
        | cons r' rr => cases rr; exact ⟨_, _, rfl, r, r'⟩
    obtain ⟨k, vs, hk, hs', hr⟩ := src_rep rep rv e
    obtain ⟨k', vs', hk', hs'', hr'⟩ := src_rep rep' rv' e'
    have hn : k.now X.K H1 vs := by rw [h.K]; exact Kd.up wd.le hs'
    have hn' : k'.now X.K H1 vs' := by rw [h.K]; exact Kd.up wd.le hs''
    obtain ⟨G, B, g⟩ := Kd.begins I1 hn hk
    obtain ⟨G', B', g'⟩ := Kd.begins I1 hn' hk'
    refine zip_begins2 B B' g g' fun h' hz hTI hTO hi1 hi2 hsz hkp => wpAny_pyIter_zip hz ?_
    have I2 : L2.Inv X pins σ H1 { s1 with heap := h' } := I1.kept (t' := s1.toks) hkp
    refine ⟨s1.heap.objs.size + 4, [s1.heap.objs.size + 4, s1.heap.objs.size + 2, s1.heap.objs.size + 3, s1.heap.objs.size, s1.heap.objs.size + 1], _, _, H1, rfl, I2, turn_two k k' (zip_sep2 (src_lt I1 hn) (src_lt I1 hn')), ⟨hz, hTI, ⟨_, _, hTO⟩, Kd.at_first hi1, Kd.at_first hi2⟩, fun c hcm => ?_, q (It2 X.K k k') ?_ ?_⟩
    · have e' : c = s1.heap.objs.size + 4 ∨ c = s1.heap.objs.size + 2 ∨ c = s1.heap.objs.size + 3 ∨ c = s1.heap.objs.size ∨ c = s1.heap.objs.size + 1 := by simpa using hcm
      have hle : s1.heap.objs.size ≤ c := by
        rcases e' with z | z | z | z | z
        · rw [z]; exact Nat.le_add_right _ _
        · rw [z]; exact Nat.le_add_right _ _
        · rw [z]; exact Nat.le_add_right _ _
        · rw [z]; exact Nat.le_refl _
        · rw [z]; exact Nat.le_add_right _ _
      exact I1.fpOk hle (I1.hok.fresh hle)
    · rw [h.K]; exact itok_two (src_gx (.inl hs') hr) (src_gx (.inl hs'') hr')
    · rw [h.K]; exact itok_two (src_gf hs' hr) (src_gf hs'' hr')
end
end TD
end
section
set_option Elab.async false
set_option linter.all false
set_option maxRecDepth 100000
/-! Targets; comprehensions. -/
namespace TD
open PySem L2 PySem.Spec
open PyProof.Rows hiding St

section
variable {C : Cs} {c : Ck} {kk : Nat} {W : WX} {X : Cx} {fn : Fns} {pos : Pos} {w0 w : Wl} {H0 H : Hp} {ρ ρ' : TD.Env} {S : Sto} {σ : L2.St}
theorem slot_set {ρ : TD.Env} {i j : Nat} {s : Sl} : slot (ρ.set i s) j = if i = j ∧ i < ρ.length then s else slot ρ j := by
  unfold slot
  rw [List.getD_eq_getElem?_getD, List.getD_eq_getElem?_getD, List.getElem?_set]
  by_cases h : i = j
  · subst h
    by_cases hl : i < ρ.length
    · simp [hl]
    · simp [hl]
  · simp [h]
theorem sAt_set {σ : L2.St} {i j : Nat} {s : Option V} : sAt (σ.set i s) j = if i = j ∧ i < σ.length then s else sAt σ j := by
  unfold sAt
  rw [List.getD_eq_getElem?_getD, List.getD_eq_getElem?_getD, List.getElem?_set]
  by_cases h : i = j
  · subst h
    by_cases hl : i < σ.length
    · simp [hl]
    · simp [hl]
  · simp [h]
theorem Rel.put (R : Rel C w0 H0 ρ S w σ H) {i : Nat} {v : V} {d : D} (r : Rep C.K w.F w.ι v d) : Rel C w0 H0 (ρ.set i (.fz d)) S w (σ.set i (some v)) H := by
  refine ⟨R.wd, R.ext, by simp [R.len], fun j => ?_, fun j k a d1 d2 h1 h2 h3 h4 => ?_, fun j a d1 h1 h2 => ?_⟩
  · rw [slot_set, sAt_set, R.len]
    by_cases h : i = j ∧ i < ρ.length
    · rw [if_pos h, if_pos h]; exact ⟨v, rfl, r⟩
    · rw [if_neg h, if_neg h]; exact R.sl j
  · rw [slot_set] at h1 h2
    rw [sAt_set, R.len] at h3 h4
    by_cases g1 : i = j ∧ i < ρ.length
    · rw [if_pos g1] at h1; cases h1
    · by_cases g2 : i = k ∧ i < ρ.length
      · rw [if_pos g2] at h2; cases h2
      · rw [if_neg g1] at h1 h3
        rw [if_neg g2] at h2 h4
        exact R.own j k a d1 d2 h1 h2 h3 h4
  · rw [slot_set] at h1
    rw [sAt_set, R.len] at h2
    by_cases g1 : i = j ∧ i < ρ.length
    · rw [if_pos g1] at h1; cases h1
    · rw [if_neg g1] at h1 h2
      exact R.fr j a d1 h1 h2
theorem Rel.drop (R : Rel C w0 H0 ρ S w σ H) {i : Nat} : Rel C w0 H0 (ρ.set i .no) S w (σ.set i none) H := by
  refine ⟨R.wd, R.ext, by simp [R.len], fun j => ?_, fun j k a d1 d2 h1 h2 h3 h4 => ?_, fun j a d1 h1 h2 => ?_⟩
  · rw [slot_set, sAt_set, R.len]
    by_cases h : i = j ∧ i < ρ.length
    · rw [if_pos h, if_pos h]; exact trivial
    · rw [if_neg h, if_neg h]; exact R.sl j
  · rw [slot_set] at h1 h2
    rw [sAt_set, R.len] at h3 h4
    by_cases g1 : i = j ∧ i < ρ.length
    · rw [if_pos g1] at h1; cases h1
    · by_cases g2 : i = k ∧ i < ρ.length
      · rw [if_pos g2] at h2; cases h2
      · rw [if_neg g1] at h1 h3
        rw [if_neg g2] at h2 h4
        exact R.own j k a d1 d2 h1 h2 h3 h4
  · rw [slot_set] at h1
    rw [sAt_set, R.len] at h2
    by_cases g1 : i = j ∧ i < ρ.length
    · rw [if_pos g1] at h1; cases h1
    · rw [if_neg g1] at h1 h2
      exact R.fr j a d1 h1 h2
theorem Rel.wipe (R : Rel C w0 H0 ρ S w σ H) : ∀ vs : List Nat, Rel C w0 H0 (wipeE ρ vs) S w (L2.wipe σ vs) H
  | [] => R
  | v :: vs => (R.wipe vs).drop

/-! ### targets -/
def T.ixs : T → List Nat
  | .n i => [i]
  | .t l => l
  | .tn i l => i :: l
def gAll : List Nat → TGs
  | [] => gNil
  | i :: r => gCons (gName i) (gAll r)
def gT (K : PySem.W.Frag) : T → TG
  | .n i => gName i
  | .t l => gTup K l.length (gAll l)
  | .tn i l => gTup K 2 (gCons (gName i) (gCons (gTup K l.length (gAll l)) gNil))
theorem wipe_set {σ : L2.St} {i : Nat} {x : Option V} {vs : List Nat} (h : i ∈ vs) : L2.wipe (σ.set i x) vs = L2.wipe σ vs := by
  apply List.ext_getElem?
  intro j
  have key : ∀ (vs : List Nat) (σ : L2.St), (L2.wipe σ vs)[j]? = if j ∈ vs ∧ j < σ.length then some none else σ[j]? := by
    intro vs
    induction vs with
    | nil => intro σ; simp [L2.wipe]
    | cons v vs ih =>
      intro σ
      show ((L2.wipe σ vs).set v none)[j]? = _
      rw [List.getElem?_set, ih, wipe_length]
      by_cases hv : v = j
      · subst hv
        by_cases hl : v < σ.length
        · simp [hl]
        · simp [hl]
      · simp only [hv, if_false, List.mem_cons, show (j = v) = False from eq_false fun e => hv e.symm, false_or]
  rw [key, key, List.length_set]
  by_cases hj : j ∈ vs ∧ j < σ.length
  · rw [if_pos hj, if_pos hj]
  · rw [if_neg hj, if_neg hj, List.getElem?_set]
    by_cases hv : i = j
    · subst hv
      have : ¬ i < σ.length := fun z => hj ⟨h, z⟩
      simp [this]
    · simp [hv]
theorem wipe_wipe {σ : L2.St} : ∀ (vs us : List Nat), (∀ i ∈ vs, i ∈ us) → L2.wipe (L2.wipe σ vs) us = L2.wipe σ us
  | [], _, _ => rfl
  | v :: vs, us, h => by
    show L2.wipe ((L2.wipe σ vs).set v none) us = _
    rw [wipe_set (h v (by simp)), wipe_wipe vs us fun i hi => h i (by simp [hi])]
theorem gs_put : ∀ {is : List Nat} {vs : List V} {ds : List D} {σ : L2.St} {ρ ρ' : TD.Env} {Q : L2.St → Hp → Prop}, Rel C w0 H0 ρ S w σ H → Reps C.K w.F w.ι vs ds → setAll is ds ρ = some ρ' →
    (∀ σ', Rel C w0 H0 ρ' S w σ' H → (∀ us, (∀ i ∈ is, i ∈ us) → L2.wipe σ' us = L2.wipe σ us) → Q σ' H) → gAll is vs σ H Q
  | [], _, _, σ, ρ, ρ', Q, R, .nil, e, q => ⟨rfl, by cases e; exact q σ R fun _ _ => rfl⟩
  | [], _, _, _, _, _, _, _, .cons _ _, e, _ => by cases e
  | i :: is, _, _, _, _, _, _, _, .nil, e, _ => by cases e
  | i :: is, v :: vs, d :: ds, σ, ρ, ρ', Q, R, .cons r rs, e, q => by
    refine ⟨v, vs, rfl, ?_⟩
    exact gs_put (R.put (i := i) r) rs e fun σ' R' h => q σ' R' fun us hu => (h us fun j hj => hu j (by simp [hj])).trans (wipe_set (hu i (by simp)))
theorem setAll_len : ∀ (l : List Nat) (ds : List D) (ρ ρ' : TD.Env), setAll l ds ρ = some ρ' → ds.length = l.length := by
  intro l
  induction l with
  | nil => intro ds ρ ρ' e; cases ds <;> first | rfl | cases e
  | cons i l ih =>
    intro ds ρ ρ' e
    cases ds with
    | nil => cases e
    | cons d ds => simp [ih ds _ _ e]
theorem tn_put {i : Nat} {l : List Nat} {d : D} {ρ ρ' : TD.Env} (e : (T.tn i l).put d ρ = some ρ') : ∃ x ds, d = .tup [x, .tup ds] ∧ setAll l ds (ρ.set i (.fz x)) = some ρ' := by
  cases d with
  | tup a =>
    cases a with
    | nil => simp [T.put] at e
    | cons x a =>
      cases a with
      | nil => simp [T.put] at e
      | cons y a =>
        cases a with
        | nil =>
          cases y with
          | tup ds => exact ⟨x, ds, rfl, e⟩
          | _ => simp [T.put] at e
        | cons _ _ => cases y <;> simp [T.put] at e
  | _ => simp [T.put] at e
theorem g_put {t : T} {v : V} {d : D} {Q : L2.St → Hp → Prop} (R : Rel C w0 H0 ρ S w σ H) (r : Rep C.K w.F w.ι v d) (e : t.put d ρ = some ρ')
    (q : ∀ σ', Rel C w0 H0 ρ' S w σ' H → (∀ us, (∀ i ∈ t.ixs, i ∈ us) → L2.wipe σ' us = L2.wipe σ us) → Q σ' H) : gT C.K t v σ H Q := by
  cases t with
  | n i =>
    cases e
    exact q _ (R.put r) fun us hu => wipe_set (hu i (by simp [T.ixs]))
  | t l =>
    cases d with
    | tup ds =>
      have e : setAll l ds ρ = some ρ' := e
      cases r with
      | tup h rs =>
        exact ⟨_, _, rfl, R.wd.le.sqT h.sq, rs.length.trans (setAll_len _ _ _ _ e), gs_put R rs e q⟩
    | _ => cases e
  | tn i l =>
    have z := tn_put e
    obtain ⟨x, ds, rfl, e⟩ := z
    cases r with
    | tup h rs0 =>
      cases rs0 with
      | cons r1 rs1 =>
        cases rs1 with
        | cons r2 rs2 =>
          cases rs2
          cases r2 with
          | tup h2 rs =>
            refine ⟨_, _, rfl, R.wd.le.sqT h.sq, rfl, _, _, rfl, ?_⟩
            refine ⟨_, _, rfl, _, _, rfl, R.wd.le.sqT h2.sq, rs.length.trans (setAll_len _ _ _ _ e), ?_⟩
            refine gs_put (R.put (i := i) r1) rs e fun σ' R' z => ⟨rfl, q σ' R' fun us hu => (z us fun j hj => hu j (by simp [T.ixs, hj])).trans (wipe_set (hu i (by simp [T.ixs])))⟩
/-- a name that this block sets -/
def setB (c : Ck) (x : Str) : Bool := match c.sc.names.lookup x with
  | some .local => true
  | some .cell => c.fnv x
  | _ => false
theorem dg_name (h : XOk C c kk W X) {i : Nat} {x : Str} (hi : c.N[i]? = some x) (hb : setB c x = true) : PG X (.Name x pos) (gName i) := by
  unfold setB at hb
  refine pg_name (by rw [h.N]; exact h.nd) (by rw [h.N]; exact hi) ?_ ?_
  · unfold L2.Loc
    rw [h.sc]
    split at hb <;> first | (rename_i e; rw [e]; simp) | cases hb
  · rw [h.sc, h.fnv]
    split at hb
    · rename_i e; exact .inr e
    · exact .inl hb
    · cases hb
end

/-! ### the new list of a comprehension -/
section
variable {C : Cs} {c : Ck} {kk : Nat} {W : WX} {X : Cx} {fn : Fns} {pos : Pos}
def WF : WX := fun _ _ _ _ => False
theorem noX_ok {α : Type} {m : M α} {S S' : Sto} {a : α} (h : m S = .ok a S') : m.noX S = .ok a S' := by unfold M.noX; rw [h]
theorem of_noX {α : Type} {m : M α} {S S' : Sto} {a : α} (h : m.noX S = .ok a S') : m S = .ok a S' := by
  unfold M.noX at h
  cases e : m S with
  | ok b S1 => rw [e] at h; cases h; rfl
  | xc cc S1 => rw [e] at h; cases h
  | bad => rw [e] at h; cases h
/-- one item of it -/
def itemM (fn : Fns) (ρ : TD.Env) (own : List Nat) (t : T) (cnd elt : E) (d : D) : M (Option D) :=
  M.bind (M.of (t.put d (wipeE ρ own))) fun ρ' => M.bind (ev fn ρ' cnd).noX fun b => M.bind b.truthy.noX fun k =>
    if k then M.bind (M.ask (!isOwn ρ' elt)) fun _ => M.bind (ev fn ρ' elt).noX fun y => M.ret (some y) else M.ret none
theorem ev_comp {ρ : TD.Env} {elt cnd src : E} {t : T} {own : List Nat} : ev fn ρ (.comp elt t src cnd own) = M.bind (ev fn ρ src) fun x => M.bind x.items fun its => M.bind (M.ask (fits its)) fun _ => M.bind (filtM (itemM fn ρ own t cnd elt) its) fun r => M.ret (.lst r) := by
  conv => lhs; unfold ev
  rfl
/-- one item not bad: what was evaluated -/
theorem item_ok {ρ : TD.Env} {own : List Nat} {t : T} {cnd elt : E} {d : D} {S : Sto} (h : itemM fn ρ own t cnd elt d S ≠ .bad) :
    ∃ ρ' b k S1 S2, t.put d (wipeE ρ own) = some ρ' ∧ ev fn ρ' cnd S = .ok b S1 ∧ b.truthy S1 = .ok k S2 ∧
      ((k = false ∧ itemM fn ρ own t cnd elt d S = .ok none S2) ∨ ∃ y S3, k = true ∧ isOwn ρ' elt = false ∧ ev fn ρ' elt S2 = .ok y S3 ∧ itemM fn ρ own t cnd elt d S = .ok (some y) S3) := by
  unfold itemM at h ⊢
  cases e1 : t.put d (wipeE ρ own) with
  | none => rw [e1] at h; exact absurd rfl h
  | some ρ' =>
    rw [e1] at h
    simp only [M.of, M.bind, M.ret] at h ⊢
    cases e2 : ev fn ρ' cnd S with
    | bad => simp only [M.noX, e2] at h; exact absurd rfl h
    | xc cc S1 => simp only [M.noX, e2] at h; exact absurd rfl h
    | ok b S1 =>
      simp only [M.noX, e2] at h ⊢
      cases e3 : b.truthy S1 with
      | bad => simp only [e3] at h; exact absurd rfl h
      | xc cc S1 => simp only [e3] at h; exact absurd rfl h
      | ok k S2 =>
        simp only [e3] at h ⊢
        cases k with
        | false => exact ⟨ρ', b, false, S1, S2, rfl, e2, e3, .inl ⟨rfl, rfl⟩⟩
        | true =>
          simp only [if_true] at h ⊢
          cases e4 : isOwn ρ' elt with
          | true => simp only [e4] at h; exact absurd rfl h
          | false =>
            simp only [e4] at h ⊢
            cases e5 : ev fn ρ' elt S2 with
            | ok y S3 => exact ⟨ρ', b, true, S1, S2, rfl, e2, e3, .inr ⟨y, S3, rfl, e4, e5, by
                show M.bind (ev fn ρ' elt).noX (fun y => M.ret (some y)) S2 = _
                unfold M.bind
                rw [noX_ok e5]⟩⟩
            | xc cc S3 =>
              have h : M.bind (ev fn ρ' elt).noX (fun y => M.ret (some y)) S2 ≠ .bad := h
              unfold M.bind M.noX at h
              rw [e5] at h
              exact absurd rfl h
            | bad =>
              have h : M.bind (ev fn ρ' elt).noX (fun y => M.ret (some y)) S2 ≠ .bad := h
              unfold M.bind M.noX at h
              rw [e5] at h
              exact absurd rfl h
theorem bind_ret {α : Type} (m : M α) : M.bind m (fun a => M.ret a) = m := by
  funext S
  unfold M.bind
  cases m S <;> rfl
theorem bind_of_ok {α β : Type} {m : M α} {k : α → M β} {S S1 : Sto} {a : α} (h : m S = .ok a S1) : M.bind m k S = k a S1 := by unfold M.bind; rw [h]
/-- the next state -/
theorem filt_step {f : D → M (Option D)} {d : D} {r : List D} {S : Sto} {acc : List D} {σ : L2.St} {w : Wl} {H : Hp} {P : D → Wl → Hp → Prop} (af : Aft C W σ w H (M.bind (filtM f (d :: r)) (fun xs => M.ret (D.lst (acc ++ xs))) S) P) :
    f d S ≠ .bad ∧ ∀ o S1, f d S = .ok o S1 → Aft C W σ w H (M.bind (filtM f r) (fun xs => M.ret (D.lst ((acc ++ o.toList) ++ xs))) S1) P := by
  have e : filtM f (d :: r) = M.bind (f d) fun y => M.bind (filtM f r) fun ys => M.ret (y.toList ++ ys) := by
    conv => lhs; unfold filtM
    rfl
  rw [e, bind_assoc] at af
  refine ⟨fun z => ?_, fun o S1 z => ?_⟩
  · unfold M.bind at af
    rw [z] at af
    exact af
  · have e2 : M.bind (f d) (fun y => M.bind (M.bind (filtM f r) fun ys => M.ret (y.toList ++ ys)) fun xs => M.ret (D.lst (acc ++ xs))) S = M.bind (M.bind (filtM f r) fun ys => M.ret (o.toList ++ ys)) (fun xs => M.ret (D.lst (acc ++ xs))) S1 := by
      rw [bind_of_ok z]
    rw [e2, bind_assoc] at af
    have e3 : (fun a => M.bind (M.ret (o.toList ++ a)) fun xs => M.ret (D.lst (acc ++ xs))) = fun xs => M.ret (D.lst ((acc ++ o.toList) ++ xs)) := funext fun a => by
      show M.ret (D.lst (acc ++ (o.toList ++ a))) = _
      rw [List.append_assoc]
    rw [e3] at af
    exact af
theorem lc_gen {src cnd elt : E} {t : T} {own : List Nat} {σ : L2.St} {w0 w : Wl} {H0 H : Hp} {ρ : TD.Env} {S : Sto} {Q : VK} {P : D → Wl → Hp → Prop} (hsub : ∀ i ∈ t.ixs, i ∈ own) (R : Rel C w0 H0 ρ S w σ H) (af : Aft C W σ w H (ev fn ρ (.comp elt t src cnd own) S) P)
    (fin : ∀ (w1 : Wl) (H1 : Hp) (D : Addr) (w2 : Wl) (H2 : Hp) (S2 : Sto) (acc : List V) (dacc : List TD.D), NT H D → H1 D = none → Ext w1 H1 w2 H2 → Wd C S2 w2 H2 → H2 D = some (.lst acc) → w2.F D = none → D ∉ w2.m → Reps C.K w2.F w2.ι acc dacc → Aft C W σ w1 H1 (.ok (.lst dacc) S2) P → Q (.ref D) H2) :
    tLc (tI C W fn src) (gT C.K t) (tT C WF fn cnd) (tE C WF fn elt) own σ H Q := by
  have af : Aft C W σ w H (M.bind (M.bind (ev fn ρ src) D.items) (fun its => M.bind (M.ask (fits its)) fun _ => M.bind (filtM (itemM fn ρ own t cnd elt) its) fun r => M.ret (.lst r)) S) P := by
    rw [bind_assoc]
    rw [← ev_comp]
    exact af
  refine ⟨w0, H0, ρ, S, w, R, Aft.imp (Aft.bind af) ?_⟩
  intro ds S1 w1 H1 e x1 wd1 ⟨S1', e', _, _, af1⟩ J hJ _ D hD
  rw [e] at e'
  cases e'
  have R1 := R.to x1 wd1
  cases g : fits ds with
  | false => rw [g] at af1; exact af1.elim
  | true =>
  rw [g] at af1
  have af1 : Aft C W σ w1 H1 (M.bind (filtM (itemM fn ρ own t cnd elt) ds) (fun r => M.ret (.lst r)) S1) P := af1
  refine ⟨fun i m H => m = ds.length - i ∧ i ≤ ds.length ∧ ∃ S w acc dacc, Wd C S w H ∧ Ext w1 H1 w H ∧ H D = some (.lst acc) ∧ w.F D = none ∧ D ∉ w.m ∧ Reps C.K w.F w.ι acc dacc ∧ dacc.length ≤ i ∧
    Aft C W σ w1 H1 (M.bind (filtM (itemM fn ρ own t cnd elt) (ds.drop i)) (fun r => M.ret (.lst (dacc ++ r))) S) P, ⟨ds.length, by simp, Nat.zero_le _, S1, w1, [], [], ?_, (Ext.refl _ _).up1 (NT.of hD), upd_same, wd1.le.free hD, fun q => wd1.mH D q hD, .nil, Nat.zero_le _, by simpa using af1⟩, ?_⟩
  · exact wd1.up1 (wd1.le.free hD) (fun q => wd1.mH D q hD) fun x e => by rw [hD] at e; cases e
  rintro i m H2 ⟨rfl, hi, S2, w2, acc, dacc, wd2, x2, hD2, hF2, hm2, ra, hl, af2⟩
  by_cases hlt : i < ds.length
  · right
    have hd : ds[i]? = some ds[i] := by simp [hlt]
    obtain ⟨_, hgo⟩ := hJ w2 H2 x2 wd2.le
    obtain ⟨go, yl⟩ := hgo i _ hd
    refine ⟨go, fun H => ∃ S w acc dacc, Wd C S w H ∧ Ext w1 H1 w H ∧ H D = some (.lst acc) ∧ w.F D = none ∧ D ∉ w.m ∧ Reps C.K w.F w.ι acc dacc ∧ dacc.length ≤ i + 1 ∧
      Aft C W σ w1 H1 (M.bind (filtM (itemM fn ρ own t cnd elt) (ds.drop (i + 1))) (fun r => M.ret (.lst (dacc ++ r))) S) P, fun H' z => ⟨ds.length - (i + 1), by omega, rfl, hlt, z⟩, fun x H3 y => ?_⟩
    obtain ⟨w3, g3, r3⟩ := yl x H3 y
    have x3 := g3.ext
    have wd3 := wd2.grow g3
    have keepD : ∀ {w' : Wl} {H' : Hp}, Ext w2 H2 w' H' → H' D = some (.lst acc) ∧ w'.F D = none ∧ D ∉ w'.m := fun {w' H'} e => by
      refine ⟨e.kp D _ hD2 (fun _ z => by cases z) hm2, ?_, fun q => ?_⟩
      · cases q : w'.F D with
        | none => rfl
        | some u => exact ((e.new D (by rw [q]; exact Option.some_ne_none _) hF2).no hD2 fun _ z => by cases z).elim
      · rcases e.mn D q with z | z
        · exact hm2 z
        · exact z.no hD2 fun _ z => by cases z
    rw [List.drop_eq_getElem_cons hlt] at af2
    obtain ⟨nb, nx⟩ := filt_step af2
    obtain ⟨ρ', b, k, S3, S4, hp, ec, eb, rest⟩ := item_ok nb
    have R3 : Rel C w0 H0 (wipeE ρ own) S2 w3 (L2.wipe σ own) H3 := (R1.to (x2.trans x3) wd3).wipe own
    refine g_put R3 r3 hp fun σ4 R4 hw4 => ⟨by rw [hw4 own hsub, wipe_wipe own own fun _ h => h], w0, H0, ρ', S2, w3, R4, ?_⟩
    have e1 : M.bind (ev fn ρ' cnd) (fun d => d.truthy) S2 = .ok k S4 := by unfold M.bind; rw [ec]; exact eb
    show Aft C WF σ4 w3 H3 (M.bind (ev fn ρ' cnd) (fun d => d.truthy) S2) _
    rw [e1]
    intro H5 w5 x5 wd5
    rcases rest with ⟨rfl, eo⟩ | ⟨y, S6, rfl, hw, ee, eo⟩
    · rw [if_neg Bool.false_ne_true]
      have af3 := nx _ _ eo
      obtain ⟨k1, k2, k3⟩ := keepD (x3.trans x5)
      exact ⟨S4, w5, acc, dacc, wd5, (x2.trans x3).trans x5, k1, k2, k3, ra.mono (x3.trans x5).F (x3.trans x5).ι, Nat.le_succ_of_le hl, by simpa using af3⟩
    · rw [if_pos rfl]
      refine ⟨w0, H0, ρ', S4, w5, R4.to x5 wd5, ?_⟩
      unfold After
      rw [ee]
      intro H6 w6 x6 wd6 v see rep
      have ex := (x3.trans x5).trans x6
      obtain ⟨k1, k2, k3⟩ := keepD ex
      have hla : acc.length = dacc.length := ra.length
      refine ⟨acc, k1, ?_, S6, w6, acc ++ [v], dacc ++ [y], wd6.up1 k2 k3 (fun x e => by rw [k1] at e; cases e; exact trivial), (x2.trans ex).up1 (NT.of hD), upd_same, k2, k3, (ra.mono ex.F ex.ι).app (.cons (rep hw) .nil), by simp; omega, by simpa using nx _ _ eo⟩
      have := fits_len g
      have h2 : maxLen < sizeLine := by decide
      omega
  · left
    have e : i = ds.length := by omega
    subst e
    obtain ⟨st, _⟩ := hJ w2 H2 x2 wd2.le
    refine ⟨st, ?_⟩
    rw [List.drop_length] at af2
    have af2 : Aft C W σ w1 H1 (.ok (.lst (dacc ++ [])) S2) P := af2
    rw [List.append_nil] at af2
    refine fin w1 H1 D w2 H2 S2 acc dacc ?_ hD x2 wd2 hD2 hF2 hm2 ra af2
    exact x1.dom D (NT.of hD)
theorem lc_read {src cnd elt : E} {t : T} {own : List Nat} {σ : L2.St} {H : Hp} {Q : VK} (hsub : ∀ i ∈ t.ixs, i ∈ own) (tr : tE C W fn (.comp elt t src cnd own) σ H Q) :
    tLc (tI C W fn src) (gT C.K t) (tT C WF fn cnd) (tE C WF fn elt) own σ H Q := by
  obtain ⟨w0, H0, ρ, S, w, R, af⟩ := tr
  refine lc_gen hsub R af fun w1 H1 D w2 H2 S2 acc dacc _ hD x2 wd2 hD2 hF2 hm2 ra af2 => ?_
  have r := ra.mono (F' := (w2.add D (.lst acc)).F) (Le.new hF2) List.prefix_rfl
  have rr : Rep C.K (w2.add D (.lst acc)).F (w2.add D (.lst acc)).ι (.ref D) (.lst dacc) := .lst (.inl (.inl upd_same)) r
  exact af2 H2 (w2.add D (.lst acc)) (x2.fix hF2 (NT.of hD)) (wd2.fix hF2 hD2 hm2) (.ref D) rr.see fun _ => rr
/-- a new one, not for good -/
def GotN (C : Cs) (H0 : Hp) (Q : VK) (d : D) (w' : Wl) (H' : Hp) : Prop := ∀ a o, NT H0 a → H' a = some o → w'.F a = none → a ∉ w'.m → Cont C.K w'.F w'.ι o d → Q (.ref a) H'
def tN (C : Cs) (W : WX) (fn : Fns) (x : E) : TE := fun σ H Q => ∃ w0 H0 ρ S w, Rel C w0 H0 ρ S w σ H ∧ Aft C W σ w H (ev fn ρ x S) (GotN C H Q)
theorem lc_new {src cnd elt : E} {t : T} {own : List Nat} {σ : L2.St} {H : Hp} {Q : VK} (hsub : ∀ i ∈ t.ixs, i ∈ own) (tr : tN C W fn (.comp elt t src cnd own) σ H Q) :
    tLc (tI C W fn src) (gT C.K t) (tT C WF fn cnd) (tE C WF fn elt) own σ H Q := by
  obtain ⟨w0, H0, ρ, S, w, R, af⟩ := tr
  refine lc_gen hsub R af fun w1 H1 D w2 H2 S2 acc dacc h0 hD x2 wd2 hD2 hF2 hm2 ra af2 => ?_
  exact af2 H2 w2 x2 wd2 D _ h0 hD2 hF2 hm2 ra
end
end TD
end
section
set_option Elab.async false
set_option linter.all false
set_option maxRecDepth 100000
/-! Comprehensions as expressions; calls of defs. -/
namespace TD
open PySem L2 PySem.Spec
open PyProof.Rows hiding St

section
variable {C : Cs} {c : Ck} {kk : Nat} {W : WX} {X : Cx} {fn : Fns} {pos : Pos}
/-- within a block -/
def Ck.blk (c : Ck) (scope : Scope) : Ck := ⟨c.N, relS scope c.sc, fun x => scope.names.lookup x == some .cell⟩
theorem XOk.blk (h : XOk C c kk W X) {s : Shared} {H : Hp} {scope : Scope} {cl : List (Str × Addr)} {A : Addr} {fp : List Addr} : XOk C (c.blk scope) kk WF (X.blk s H scope (compEnvC scope cl A X.env) fp) where
  prog := h.prog
  w := h.w
  mg := h.mg
  base := h.base
  K := h.K
  sc := by show relS scope X.env.scope = _; rw [h.sc]; rfl
  N := h.N
  nd := h.nd
  fnv := rfl
  calm := h.calm
  tk := takes0
  hr := h.hr
def blkB (N : List Str) (sc scope : Scope) (own : List (Str × Nat)) : Bool :=
  (scope.kind == .function) && (scope.names.all fun y => scope.names.lookup y.1 == some y.2) && (own.all fun p => N[p.2]? == some p.1)
  && (scope.names.all fun y => !(y.2 == .free) || (sc.names.lookup y.1 == some .cell || sc.names.lookup y.1 == some .free))
  && (scope.names.all fun y => !(y.2 == .local || y.2 == .cell) || ((own.map (·.1)).contains y.1 || !N.contains y.1))
theorem blk_of {N : List Str} {sc scope : Scope} {own : List (Str × Nat)} (h : blkB N sc scope own = true) : BlkOk N sc scope own := by
  simp only [blkB, Bool.and_eq_true, List.all_eq_true] at h
  obtain ⟨⟨⟨⟨h1, h2⟩, h3⟩, h4⟩, h5⟩ := h
  refine ⟨by simpa using h1, fun y hy => by simpa using h2 y hy, fun p hp => by simpa using h3 p hp, fun y hy e => ?_, fun y hy e => ?_⟩
  · have := h4 y hy
    rw [e] at this
    simpa using this
  · have := h5 y hy
    rcases e with e | e
    · rw [e] at this; simpa using this
    · rw [e] at this; simpa using this
theorem de_comp (h : XOk C c kk W X) {tg iter elt : Expr} {ifs : List Expr} {scope : Scope} {own : List (Str × Nat)} {t : T} {src cnd e : E} (hi : PI X tg iter (tI C W fn src)) (ok : blkB c.N c.sc scope own = true)
    (hg : ∀ X', XOk C (c.blk scope) kk WF X' → PG X' tg (gT C.K t)) (ht : ∀ X', XOk C (c.blk scope) kk WF X' → PTs X' ifs (tT C WF fn cnd)) (he : ∀ X', XOk C (c.blk scope) kk WF X' → PE X' elt (tE C WF fn e))
    (hsub : ∀ i ∈ t.ixs, i ∈ own.map (·.2)) (hs : ∀ x, foldedSetIterable iter X.env x = pure x := by intro _; rfl) :
    PE X (.ListComp elt [⟨tg, iter, ifs, 0⟩] scope pos) (tE C W fn (.comp e t src cnd (own.map (·.2)))) :=
  PE.wk (pe_lc h.calm (by rw [h.N]; exact h.nd) hi (by rw [h.N, h.sc]; exact blk_of ok) (fun _ _ _ _ _ => hg _ h.blk) (fun _ _ _ _ _ => ht _ h.blk) (fun _ _ _ _ _ => he _ h.blk) hs) fun _ _ _ tr => lc_read hsub tr
theorem dts_nil : PTs X [] (tT C W fn (.con (.bl true))) := ⟨fun pins s σ H Q I ⟨w0, H0, ρ, S, w, R, af⟩ => by
  have af : Aft C W σ w H (.ok true S) fun b _ H' => Q b H' := by
    have := af
    rw [show ev fn ρ (.con (.bl true)) = M.ret (.bl true) from ev_con] at this
    exact this
  exact pts_nil.run pins s σ H Q I (af H w (Ext.refl _ _) R.wd)⟩

/-! ### calls of defs -/
mutual
theorem evF_len {ρ : TD.Env} : ∀ {l : Es} {S S' : Sto} {ds : List D}, evF fn ρ l S = .ok ds S' → ds.length = l.len
  | .nil, S, S', ds, h => by unfold evF at h; cases h; rfl
  | .cons e r, S, S', ds, h => by
    unfold evF at h
    obtain ⟨_, _, _, h⟩ := bind_ok h
    obtain ⟨d, _, _, h⟩ := bind_ok h
    obtain ⟨ds', S2, h2, h⟩ := bind_ok h
    obtain ⟨rfl, _⟩ := ret_ok h
    show ds'.length + 1 = r.len + 1
    rw [evF_len h2]
end
theorem evs_len {ρ : TD.Env} : ∀ {l : Es} {S S' : Sto} {ds : List D}, evs fn ρ l S = .ok ds S' → ds.length = l.len
  | .nil, S, S', ds, h => by unfold evs at h; cases h; rfl
  | .cons e r, S, S', ds, h => by
    unfold evs at h
    obtain ⟨d, _, _, h⟩ := bind_ok h
    obtain ⟨ds', S2, h2, h⟩ := bind_ok h
    obtain ⟨rfl, _⟩ := ret_ok h
    show ds'.length + 1 = r.len + 1
    rw [evs_len h2]
/-- what a def promises: its evaluator's word -/
def spOf (C : Cs) (run : List D → M D) (n : Nat) : Sp := fun vs H Q E => ∃ S w ds, ds.length = n ∧ Wd C S w H ∧ Reps C.K w.F w.ι vs ds ∧
  Aft C (fun c d _ H => E c d H) [] w H (run ds S) fun d w' H' => ∀ v, Rep C.K w'.F w'.ι v d → Q v H'
theorem spOf_len {run : List D → M D} {n : Nat} (vs : List V) (H : Hp) (Q : VK) (E : XK) (h : spOf C run n vs H Q E) : vs.length = n := by
  obtain ⟨S, w, ds, h1, _, r, _⟩ := h
  rw [r.length, h1]
theorem call_sp {run : List D → M D} {n : Nat} {σ : L2.St} {w : Wl} {H : Hp} {vs : List V} {ds : List D} {S : Sto} {Q : VK} {own : Bool} (hn : ds.length = n) (wd : Wd C S w H) (r : Reps C.K w.F w.ι vs ds) (af : Aft C W σ w H (run ds S) (Got C own Q)) : spOf C run n vs H Q (WE W σ) := by
  refine ⟨S, w, ds, hn, wd, r, ?_⟩
  cases e : run ds S with
  | ok d S' => rw [e] at af; exact fun H' w' x wd' v rv => af H' w' x wd' v rv.see fun _ => rv
  | xc cc S' => rw [e] at af; exact af
  | bad => rw [e] at af; exact af.elim
theorem de_call (h : XOk C c kk W X) {i : Nat} {f : Addr} {fd : FuncData} {ps : List Str} {x : Str} {p : Pos} {a : Expr} {es : List Expr} {l : Es} (F : FnOk C.P C.w C.K C.mg C.base (L2.CX C.P C.w) kk f fd ps (spOf C (fn.call i) ps.length))
    (hg : glB c.sc x = true) (hm : C.mg x = some (.ref f)) (hk : PySem.W.keepIn C.K (.ref f) = true) (hb : Binds C.K fd ps []) (ha : PA X (a :: es) (tEF C W fn l)) (hl : l.len = ps.length)
    (hdb : (x == ("__debug__" : Str)) = false) (he : starEach (a :: es) X.env = (false, eval a X.env) :: starEach es X.env) (hpl : (backTo pos (starEach es X.env)).any (·.1) = false) :
    PE X (.Call (.Name x p) (a :: es) [] pos) (tE C W fn (.call i l)) := by
  refine PE.wk (pe_callS (CX := L2.CX X.prog X.w) (sp := spOf C (fn.call i) ps.length) (E := WE W) (by rw [h.prog, h.w, h.K, h.mg, h.base]; exact F) h.hr (gl_of h hg) (by rw [h.mg]; exact hm) (by rw [h.K]; exact hk) (by rw [h.K]; exact hb) (fun σ => passAt h.tk σ) ha hdb he hpl) fun σ H Q ⟨w0, H0, ρ, S, w, R, af⟩ => ?_
  have af : Aft C W σ w H (M.bind (evF fn ρ l) (fun ds => fn.call i ds) S) (Got C false Q) := by
    have := af
    unfold After at this
    unfold ev at this
    exact this
  refine ⟨w0, H0, ρ, S, w, R, Aft.imp (Aft.bind af) ?_⟩
  intro ds S1 w1 H1 e x1 wd ⟨S1', e', _, _, af1⟩ vs see rep
  rw [e] at e'
  cases e'
  exact call_sp (by rw [evF_len e, hl]) wd (rep rfl) af1
end
end TD
end
section
set_option Elab.async false
set_option linter.all false
set_option maxRecDepth 100000
/-! Statements. -/
namespace TD
open PySem L2 PySem.Spec
open PyProof.Rows hiding St

def Fg (w w' : Wl) : Prop := Le w.F w'.F ∧ w.ι <+: w'.ι
theorem Fg.refl (w : Wl) : Fg w w := ⟨Le.refl _, List.prefix_rfl⟩
theorem Fg.trans {a b c : Wl} (x : Fg a b) (y : Fg b c) : Fg a c := ⟨x.1.trans y.1, x.2.trans y.2⟩
theorem Ext.fg {w w' : Wl} {H H' : Hp} (e : Ext w H w' H') : Fg w w' := ⟨e.F, e.ι⟩
/-- what follows a statement -/
def AftO (C : Cs) (W : WX) (w0 : Wl) (H0 : Hp) (wb : Wl) (o : O) (D : Ends) : Prop := match o with
  | .nx ρ S => ∀ H w σ, Rel C w0 H0 ρ S w σ H → Fg wb w → D.nx σ H
  | .rt d S => ∀ H w, Ext w0 H0 w H → Wd C S w H → ∀ v, Rep C.K w.F w.ι v d → D.rt v H
  | .ct ρ S => ∀ H w σ, Rel C w0 H0 ρ S w σ H → Fg wb w → D.ct σ H
  | .xc c S => ∀ H w σ, Ext w0 H0 w H → Wd C S w H → W (.ref (C.exc c)) none σ H
  | .bad => False
def tS (C : Cs) (W : WX) (fn : Fns) (x : S) : TS := fun D σ H => ∃ w0 H0 ρ S w, Rel C w0 H0 ρ S w σ H ∧ AftO C W w0 H0 w (ex fn x ρ S) D
def tSs (C : Cs) (W : WX) (fn : Fns) (x : Ss) : TS := fun D σ H => ∃ w0 H0 ρ S w, Rel C w0 H0 ρ S w σ H ∧ AftO C W w0 H0 w (exs fn x ρ S) D
section
variable {C : Cs} {c : Ck} {kk : Nat} {W : WX} {X : Cx} {fn : Fns} {pos : Pos} {w0 w wb : Wl} {H0 H : Hp} {ρ ρ' : TD.Env} {S : Sto} {σ : L2.St} {D : Ends}
theorem AftO.base {o : O} {wb wb' : Wl} (f : Fg wb wb') (h : AftO C W w0 H0 wb o D) : AftO C W w0 H0 wb' o D := by
  cases o with
  | nx ρ S => exact fun H w σ R g => h H w σ R (f.trans g)
  | ct ρ S => exact fun H w σ R g => h H w σ R (f.trans g)
  | rt d S => exact h
  | xc c S => exact h
  | bad => exact h
theorem ofO {α : Type} {x : R α} {f : α → Sto → O} (h : AftO C W w0 H0 wb (O.of x f) D) (ext : Ext w0 H0 w H) : Aft C W σ w H x fun a w' H' => ∃ S', x = .ok a S' ∧ Ext w H w' H' ∧ Wd C S' w' H' ∧ AftO C W w0 H0 wb (f a S') D := by
  cases x with
  | ok a S => exact fun H' w' e wd => ⟨S, rfl, e, wd, h⟩
  | xc c S => exact fun H' w' e wd => h H' w' σ (ext.trans e) wd
  | bad => exact h
theorem stepO {e : E} {f : TD.D → Sto → O} {K : VK} (R : Rel C w0 H0 ρ S w σ H) (af : AftO C W w0 H0 wb (O.of (ev fn ρ e S) f) D)
    (hk : ∀ d S1 v H1 w1, Ext w H w1 H1 → Rel C w0 H0 ρ S1 w1 σ H1 → See C w1 H1 v d → (isOwn ρ e = false → Rep C.K w1.F w1.ι v d) → AftO C W w0 H0 wb (f d S1) D → K v H1) : tE C W fn e σ H K := by
  refine ⟨w0, H0, ρ, S, w, R, Aft.imp (ofO af R.ext) ?_⟩
  intro d S' w' H' e x wd ⟨S1, e1, x1, wd1, af1⟩ v see rep
  exact hk d S1 v H' w' x1 (R.to x1 wd1) see rep af1
theorem stepN {e : E} {f : TD.D → Sto → O} {K : VK} (R : Rel C w0 H0 ρ S w σ H) (af : AftO C W w0 H0 wb (O.of (ev fn ρ e S) f) D)
    (hk : ∀ d S1 a o H1 w1, Ext w H w1 H1 → Rel C w0 H0 ρ S1 w1 σ H1 → NT H a → H1 a = some o → w1.F a = none → a ∉ w1.m → Cont C.K w1.F w1.ι o d → AftO C W w0 H0 wb (f d S1) D → K (.ref a) H1) : tN C W fn e σ H K := by
  refine ⟨w0, H0, ρ, S, w, R, Aft.imp (ofO af R.ext) ?_⟩
  intro d S' w' H' e x wd ⟨S1, e1, x1, wd1, af1⟩ a o h0 h1 h2 h3 h4
  exact hk d S1 a o H' w' x1 (R.to x1 wd1) h0 h1 h2 h3 h4 af1
/-- a list or dict of the def's own is put in a slot -/
theorem Rel.putOwn (R : Rel C w0 H0 ρ S w σ H) {i : Nat} {a : Addr} {o : HO} {d : TD.D} (h0 : NT H0 a) (hH : H a = some o) (hF : w.F a = none) (hm : a ∉ w.m) (hc : Cont C.K w.F w.ι o d)
    (fresh : ∀ j e, slot ρ j = .ow e → sAt σ j = some (.ref a) → i = j) : Rel C w0 H0 (ρ.set i (.ow d)) S w (σ.set i (some (.ref a))) H := by
  refine ⟨R.wd, R.ext, by simp [R.len], fun j => ?_, fun j k b d1 d2 h1 h2 h3 h4 => ?_, fun j b d1 h1 h2 => ?_⟩
  · rw [slot_set, sAt_set, R.len]
    by_cases h : i = j ∧ i < ρ.length
    · rw [if_pos h, if_pos h]; exact ⟨a, o, rfl, hH, hF, hm, hc⟩
    · rw [if_neg h, if_neg h]; exact R.sl j
  · rw [slot_set] at h1 h2
    rw [sAt_set, R.len] at h3 h4
    by_cases g1 : i = j ∧ i < ρ.length
    · by_cases g2 : i = k ∧ i < ρ.length
      · exact g1.1.symm.trans g2.1
      · rw [if_pos g1] at h3
        rw [if_neg g2] at h2 h4
        cases h3
        exact g1.1.symm.trans (fresh k d2 h2 h4)
    · by_cases g2 : i = k ∧ i < ρ.length
      · rw [if_neg g1] at h1 h3
        rw [if_pos g2] at h4
        cases h4
        exact (fresh j d1 h1 h3).symm.trans g2.1
      · rw [if_neg g1] at h1 h3
        rw [if_neg g2] at h2 h4
        exact R.own j k b d1 d2 h1 h2 h3 h4
  · rw [slot_set] at h1
    rw [sAt_set, R.len] at h2
    by_cases g1 : i = j ∧ i < ρ.length
    · rw [if_pos g1] at h2; cases h2; exact h0
    · rw [if_neg g1] at h1 h2
      exact R.fr j b d1 h1 h2
theorem Rel.owAt (R : Rel C w0 H0 ρ S w σ H) {i : Nat} {d : TD.D} (e : slot ρ i = .ow d) : ∃ a o, sAt σ i = some (.ref a) ∧ H a = some o ∧ w.F a = none ∧ a ∉ w.m ∧ Cont C.K w.F w.ι o d ∧ NT H0 a := by
  have := R.sl i
  rw [e] at this
  obtain ⟨a, o, h1, h2, h3, h4, h5⟩ := this
  exact ⟨a, o, h1, h2, h3, h4, h5, R.fr i a d e h1⟩
/-- what a slot's own holds changes -/
theorem Rel.mut (R : Rel C w0 H0 ρ S w σ H) {i : Nat} {a : Addr} {o : HO} {d d' : TD.D} (e : slot ρ i = .ow d) (ea : sAt σ i = some (.ref a)) (hc : Cont C.K w.F w.ι o d') : Rel C w0 H0 (ρ.set i (.ow d')) S w σ (upd H a o) := by
  obtain ⟨a', o', ea', hH, hF, hm, hc0, h0⟩ := R.owAt e
  rw [ea] at ea'; cases ea'
  have hi : i < ρ.length := by
    by_cases h : i < ρ.length
    · exact h
    · unfold slot at e
      rw [List.getD_eq_getElem?_getD, List.getElem?_eq_none (by omega)] at e
      cases e
  refine ⟨R.wd.up1 hF hm (fun x z => by rw [hH] at z; cases z; exact hc0.lq), R.ext.up1 h0, by simp [R.len], fun j => ?_, fun j k b d1 d2 h1 h2 h3 h4 => ?_, fun j b d1 h1 h2 => ?_⟩
  · rw [slot_set]
    by_cases h : i = j ∧ i < ρ.length
    · rw [if_pos h, ← h.1]
      exact ⟨a, o, ea, upd_same, hF, hm, hc⟩
    · rw [if_neg h]
      have := R.sl j
      cases q : slot ρ j with
      | no => exact trivial
      | fz d => rw [q] at this; exact this
      | ow d2 =>
        rw [q] at this
        obtain ⟨b, ob, h1, h2, h3, h4, h5⟩ := this
        have hne : b ≠ a := fun z => by
          subst z
          exact h ⟨R.own i j b d d2 e q ea h1, hi⟩
        exact ⟨b, ob, h1, by rw [upd_ne hne]; exact h2, h3, h4, h5⟩
  · rw [slot_set] at h1 h2
    have o1 : ∃ d, slot ρ j = .ow d := by
      by_cases g : i = j ∧ i < ρ.length
      · rw [← g.1]; exact ⟨_, e⟩
      · rw [if_neg g] at h1; exact ⟨_, h1⟩
    have o2 : ∃ d, slot ρ k = .ow d := by
      by_cases g : i = k ∧ i < ρ.length
      · rw [← g.1]; exact ⟨_, e⟩
      · rw [if_neg g] at h2; exact ⟨_, h2⟩
    obtain ⟨x1, q1⟩ := o1
    obtain ⟨x2, q2⟩ := o2
    exact R.own j k b x1 x2 q1 q2 h3 h4
  · rw [slot_set] at h1
    by_cases g : i = j ∧ i < ρ.length
    · rw [← g.1] at h2
      exact R.fr i b d e h2
    · rw [if_neg g] at h1
      exact R.fr j b d1 h1 h2
/-- .. is kept for good -/
theorem Rel.frz (R : Rel C w0 H0 ρ S w σ H) {i : Nat} {d : TD.D} (e : slot ρ i = .ow d) : ∃ w', Fg w w' ∧ Rel C w0 H0 (ρ.set i (.fz d)) S w' σ H := by
  obtain ⟨a, o, ea, hH, hF, hm, hc, h0⟩ := R.owAt e
  have fg : Fg w (w.add a o) := ⟨Le.new hF, List.prefix_rfl⟩
  refine ⟨w.add a o, fg, R.wd.fix hF hH hm hc.nt, R.ext.fix hF h0, by simp [R.len], fun j => ?_, fun j k b d1 d2 h1 h2 h3 h4 => ?_, fun j b d1 h1 h2 => ?_⟩
  · rw [slot_set]
    by_cases h : i = j ∧ i < ρ.length
    · rw [if_pos h, ← h.1]
      refine ⟨.ref a, ea, ?_⟩
      have hc' := hc.mono fg.1 fg.2
      cases o <;> cases d <;> simp only [Cont] at hc'
      · exact .lst (.inl (.inl upd_same)) hc'
      · exact .dct upd_same hc'
    · rw [if_neg h]
      have := R.sl j
      cases q : slot ρ j with
      | no => exact trivial
      | fz d2 =>
        rw [q] at this
        obtain ⟨v, h1, h2⟩ := this
        exact ⟨v, h1, h2.mono fg.1 fg.2⟩
      | ow d2 =>
        rw [q] at this
        obtain ⟨b, ob, h1, h2, h3, h4, h5⟩ := this
        have hi : i < ρ.length := by
          by_cases h : i < ρ.length
          · exact h
          · unfold slot at e
            rw [List.getD_eq_getElem?_getD, List.getElem?_eq_none (by omega)] at e
            cases e
        have hne : b ≠ a := fun z => by
          subst z
          exact h ⟨R.own i j b d d2 e q ea h1, hi⟩
        exact ⟨b, ob, h1, h2, by show L2.upd w.F a o b = none; rw [upd_ne hne]; exact h3, h4, h5.mono fg.1 fg.2⟩
  · rw [slot_set] at h1 h2
    have o1 : slot ρ j = .ow d1 := by
      by_cases g : i = j ∧ i < ρ.length
      · rw [if_pos g] at h1; cases h1
      · rw [if_neg g] at h1; exact h1
    have o2 : slot ρ k = .ow d2 := by
      by_cases g : i = k ∧ i < ρ.length
      · rw [if_pos g] at h2; cases h2
      · rw [if_neg g] at h2; exact h2
    exact R.own j k b d1 d2 o1 o2 h3 h4
  · rw [slot_set] at h1
    by_cases g : i = j ∧ i < ρ.length
    · rw [if_pos g] at h1; cases h1
    · rw [if_neg g] at h1
      exact R.fr j b d1 h1 h2

/-! ### rows of statements -/
theorem dss_nil : PSs X [] (tSs C W fn .nil) := PSs.wk pss_nil fun D σ H ⟨w0, H0, ρ, S, w, R, af⟩ => by
  unfold exs at af
  exact af H w σ R (Fg.refl w)
theorem O.seq_bad {o : O} {f : TD.Env → Sto → O} {D : Ends} {wb : Wl} (h : AftO C W w0 H0 wb (O.seq o f) D) : AftO C W w0 H0 wb o { D with nx := fun σ H => ∃ ρ S w, o = .nx ρ S ∧ Rel C w0 H0 ρ S w σ H ∧ Fg wb w ∧ AftO C W w0 H0 wb (f ρ S) D } := by
  cases o with
  | nx ρ S => exact fun H w σ R g => ⟨ρ, S, w, rfl, R, g, h⟩
  | _ => exact h
theorem AftO.nx {o : O} {D : Ends} {N : L2.St → Hp → Prop} {wb : Wl} (h : AftO C W w0 H0 wb o D) (i : ∀ σ H, D.nx σ H → N σ H) : AftO C W w0 H0 wb o { D with nx := N } := by
  cases o with
  | nx ρ S => exact fun H w σ R g => i _ _ (h H w σ R g)
  | _ => exact h
variable {st : Stmt} {sts : List Stmt} {s : TD.S} {r : Ss}
theorem dss_cons (h1 : PS X st (tS C W fn s)) (h2 : PSs X sts (tSs C W fn r)) : PSs X (st :: sts) (tSs C W fn (.cons s r)) :=
  PSs.wk (pss_cons h1 h2) fun D σ H ⟨w0, H0, ρ, S, w, R, af⟩ => by
    unfold exs at af
    have z := AftO.nx (N := fun σ H => tSs C W fn r D σ H) (O.seq_bad af) fun σ' H' ⟨ρ', S', w', _, R', g, af'⟩ => ⟨w0, H0, ρ', S', w', R', af'.base g⟩
    exact ⟨w0, H0, ρ, S, w, R, z⟩
theorem dss_frz {i : Nat} (h : PSs X sts (tSs C W fn r)) : PSs X sts (tSs C W fn (.cons (.frz i) r)) :=
  PSs.wk h fun D σ H ⟨w0, H0, ρ, S, w, R, af⟩ => by
    unfold exs ex at af
    cases e : slot ρ i with
    | no => rw [e] at af; exact af.elim
    | fz d => rw [e] at af; exact af.elim
    | ow d =>
      rw [e] at af
      obtain ⟨w', g, R'⟩ := R.frz e
      exact ⟨w0, H0, _, S, w', R', AftO.base g af⟩

/-! ### assignments -/
variable {e : Expr} {x : E}
theorem ds_set (h : XOk C c kk W X) {i : Nat} {y : Str} {p : Pos} (hi : c.N[i]? = some y) (hb : setB c y = true) (he : PE X e (tE C W fn x)) (hs : swapsWithSole [.Name y p] e pos.line X.env = pure false) (hw : swappedStores [.Name y p] e X.env = pure none) :
    PS X (.Assign [.Name y p] e pos) (tS C W fn (.set i x)) :=
  PS.wk (ps_asg he (dg_name h hi hb) hs hw) fun D σ H ⟨w0, H0, ρ, S, w, R, af⟩ => by
    unfold ex at af
    cases g : isOwn ρ x with
    | true => rw [g] at af; exact af.elim
    | false =>
      rw [g] at af
      refine stepO (D := D) (wb := w) R af fun d S1 v H1 w1 x1 R1 see rep af1 => ?_
      exact af1 H1 w1 _ (R1.put (rep g)) x1.fg
theorem own_new (R : Rel C w0 H0 ρ S w σ H) {w1 : Wl} {H1 : Hp} {S1 : Sto} {a : Addr} {i : Nat} (R1 : Rel C w0 H0 ρ S1 w1 σ H1) (h0 : NT H a) : NT H0 a ∧ ∀ j e, slot ρ j = .ow e → sAt σ j = some (.ref a) → i = j := by
  refine ⟨R.ext.dom a h0, fun j e h1 h2 => ?_⟩
  have := R.sl j
  rw [h1] at this
  obtain ⟨b, o, e1, e2, _, _, e3⟩ := this
  rw [h2] at e1; cases e1
  exact (h0.no e2 e3.nt).elim
theorem ds_own (h : XOk C c kk W X) {i : Nat} {y : Str} {p : Pos} (hi : c.N[i]? = some y) (hb : setB c y = true) (he : PE X e (tN C W fn x)) (hs : swapsWithSole [.Name y p] e pos.line X.env = pure false) (hw : swappedStores [.Name y p] e X.env = pure none) :
    PS X (.Assign [.Name y p] e pos) (tS C W fn (.own i x)) :=
  PS.wk (ps_asg he (dg_name h hi hb) hs hw) fun D σ H ⟨w0, H0, ρ, S, w, R, af⟩ => by
    unfold ex at af
    refine stepN (D := D) (wb := w) R af fun d S1 a o H1 w1 x1 R1 h0 h1 h2 h3 h4 af1 => ?_
    obtain ⟨k0, k1⟩ := own_new R R1 h0 (i := i)
    exact af1 H1 w1 _ (R1.putOwn k0 h1 h2 h3 h4 k1) x1.fg
/-- y = [.. for ..] on one line -/
theorem ds_setLc (h : XOk C c kk W X) {i : Nat} {y : Str} {py : Pos} {tg iter elt : Expr} {ifs : List Expr} {scope : Scope} {own : List (Str × Nat)} {t : T} {src cnd z : E} {spos : Pos} (hi : c.N[i]? = some y) (hy : c.sc.names.lookup y = some .local)
    (hsw : swapsWith (.ListComp elt [⟨tg, iter, ifs, 0⟩] scope pos) (some (.Name y py)) spos.line X.env = pure true) (hp : PI X tg iter (tI C W fn src)) (ok : blkB c.N c.sc scope own = true)
    (hg : ∀ X', XOk C (c.blk scope) kk WF X' → PG X' tg (gT C.K t)) (ht : ∀ X', XOk C (c.blk scope) kk WF X' → PTs X' ifs (tT C WF fn cnd)) (he : ∀ X', XOk C (c.blk scope) kk WF X' → PE X' elt (tE C WF fn z))
    (hsub : ∀ i ∈ t.ixs, i ∈ own.map (·.2)) (hs : ∀ x, foldedSetIterable iter X.env x = pure x) :
    PS X (.Assign [.Name y py] (.ListComp elt [⟨tg, iter, ifs, 0⟩] scope pos) spos) (tS C W fn (.set i (.comp z t src cnd (own.map (·.2))))) :=
  PS.wk (ps_setLc h.calm (by rw [h.N]; exact h.nd) (by rw [h.N]; exact hi) (by rw [h.sc]; exact hy) hsw hp (by rw [h.N, h.sc]; exact blk_of ok) (fun _ _ _ _ _ => hg _ h.blk) (fun _ _ _ _ _ => ht _ h.blk) (fun _ _ _ _ _ => he _ h.blk) hs) fun D σ H ⟨w0, H0, ρ, S, w, R, af⟩ => by
    unfold ex at af
    refine lc_read hsub (stepO (D := D) (wb := w) (f := fun d S => .nx (ρ.set i (.fz d)) S) R af fun d S1 v H1 w1 x1 R1 see rep af1 => ?_)
    exact af1 H1 w1 _ (R1.put (rep rfl)) x1.fg
theorem ds_ownLc (h : XOk C c kk W X) {i : Nat} {y : Str} {py : Pos} {tg iter elt : Expr} {ifs : List Expr} {scope : Scope} {own : List (Str × Nat)} {t : T} {src cnd z : E} {spos : Pos} (hi : c.N[i]? = some y) (hy : c.sc.names.lookup y = some .local)
    (hsw : swapsWith (.ListComp elt [⟨tg, iter, ifs, 0⟩] scope pos) (some (.Name y py)) spos.line X.env = pure true) (hp : PI X tg iter (tI C W fn src)) (ok : blkB c.N c.sc scope own = true)
    (hg : ∀ X', XOk C (c.blk scope) kk WF X' → PG X' tg (gT C.K t)) (ht : ∀ X', XOk C (c.blk scope) kk WF X' → PTs X' ifs (tT C WF fn cnd)) (he : ∀ X', XOk C (c.blk scope) kk WF X' → PE X' elt (tE C WF fn z))
    (hsub : ∀ i ∈ t.ixs, i ∈ own.map (·.2)) (hs : ∀ x, foldedSetIterable iter X.env x = pure x) :
    PS X (.Assign [.Name y py] (.ListComp elt [⟨tg, iter, ifs, 0⟩] scope pos) spos) (tS C W fn (.own i (.comp z t src cnd (own.map (·.2))))) :=
  PS.wk (ps_setLc h.calm (by rw [h.N]; exact h.nd) (by rw [h.N]; exact hi) (by rw [h.sc]; exact hy) hsw hp (by rw [h.N, h.sc]; exact blk_of ok) (fun _ _ _ _ _ => hg _ h.blk) (fun _ _ _ _ _ => ht _ h.blk) (fun _ _ _ _ _ => he _ h.blk) hs) fun D σ H ⟨w0, H0, ρ, S, w, R, af⟩ => by
    unfold ex at af
    refine lc_new hsub (stepN (D := D) (wb := w) (f := fun d S => .nx (ρ.set i (.ow d)) S) R af fun d S1 a o H1 w1 x1 R1 h0 h1 h2 h3 h4 af1 => ?_)
    obtain ⟨k0, k1⟩ := own_new R R1 h0 (i := i)
    exact af1 H1 w1 _ (R1.putOwn k0 h1 h2 h3 h4 k1) x1.fg
/-- a, b, .. = e -/
theorem ds_tset (h : XOk C c kk W X) {is : List Nat} {tg : Expr} (hg : PG X tg (gT C.K (.t is))) (he : PE X e (tE C W fn x)) (hs : swapsWithSole [tg] e pos.line X.env = pure false) (hw : swappedStores [tg] e X.env = pure none) (h1 : (assignEach [tg] X.env).map (·.2) = [assign tg X.env]) :
    PS X (.Assign [tg] e pos) (tS C W fn (.tset is x)) :=
  PS.wk (ps_asg he hg hs hw h1) fun D σ H ⟨w0, H0, ρ, S, w, R, af⟩ => by
    unfold ex at af
    cases g : isOwn ρ x with
    | true => rw [g] at af; exact af.elim
    | false =>
      rw [g] at af
      refine stepO (D := D) (wb := w) R af fun d S1 v H1 w1 x1 R1 see rep af1 => ?_
      cases d <;> try exact af1.elim
      rename_i ds
      cases q : setAll is ds ρ with
      | none => simp only [q] at af1; exact af1.elim
      | some ρ' =>
        simp only [q] at af1
        exact g_put (t := .t is) R1 (rep g) q fun σ' R' _ => af1 H1 w1 σ' R' x1.fg
/-- a, b = e, f -/
theorem ds_par (h : XOk C c kk W X) {i j : Nat} {y z : Str} {a b : Expr} {px py pt : Pos} {kt k2 pt2} {x1 x2 : E} (hi : c.N[i]? = some y) (hj : c.N[j]? = some z) (hij : i ≠ j) (hy : c.sc.names.lookup y = some .local) (hz : c.sc.names.lookup z = some .local)
    (ha : PE X a (tE C W fn x1)) (hb : PE X b (tE C W fn x2)) (hst : starEach [a, b] X.env = (false, eval a X.env) :: starEach [b] X.env) (hst2 : starEach [b] X.env = (false, eval b X.env) :: starEach [] X.env)
    (hw : swappedStores [.Tuple [.Name y px, .Name z py] kt pt] (.Tuple [a, b] k2 pt2) X.env = pure (some [y, z])) :
    PS X (.Assign [.Tuple [.Name y px, .Name z py] kt pt] (.Tuple [a, b] k2 pt2) pos) (tS C W fn (.par i j x1 x2)) :=
  PS.wk (ps_par h.calm (by rw [h.N]; exact h.nd) (by rw [h.N]; exact hi) (by rw [h.N]; exact hj) hij (by rw [h.sc]; exact hy) (by rw [h.sc]; exact hz) (pa_cons ha (pa_cons hb pa_nil hst2) hst) hw) fun D σ H ⟨w0, H0, ρ, S, w, R, af⟩ => by
    unfold ex at af
    cases g : (isOwn ρ x1 || isOwn ρ x2) with
    | true => rw [g] at af; exact af.elim
    | false =>
      rw [g] at af
      obtain ⟨g1, g2⟩ := Bool.or_eq_false_iff.mp g
      refine stepO (D := D) (wb := w) R af fun d S1 v H1 w1 x1 R1 see rep af1 => ?_
      refine stepO (D := D) (wb := w) R1 af1 fun d2 S2 v2 H2 w2 x2 R2 see2 rep2 af2 => ?_
      exact ⟨v, v2, rfl, af2 H2 w2 _ ((R2.put ((rep g1).mono x2.F x2.ι)).put (rep2 g2)) (x1.trans x2).fg⟩

/-! ### flow -/
theorem ds_ife (h : XOk C c kk W X) {cd : Expr} {p q : List Stmt} {r' : Ss} (hc : PT X cd (tT C W fn x)) (h1 : PSs X p (tSs C W fn r)) (h2 : PSs X q (tSs C W fn r')) : PS X (.If cd p q pos) (tS C W fn (.ife x r r')) :=
  PS.wk (ps_if hc h1 h2) fun D σ H ⟨w0, H0, ρ, S, w, R, af⟩ => by
    unfold ex at af
    refine ⟨w0, H0, ρ, S, w, R, ?_⟩
    show Aft C W σ w H (M.bind (ev fn ρ x) (fun d => d.truthy) S) _
    unfold M.bind
    cases e1 : ev fn ρ x S with
    | bad => rw [e1] at af; exact af
    | xc cc S1 => rw [e1] at af; exact fun H' w' e wd => af H' w' σ (R.ext.trans e) wd
    | ok d S1 =>
      rw [e1] at af
      have af : AftO C W w0 H0 w (O.of (d.truthy S1) fun k S => if k = true then exs fn r ρ S else exs fn r' ρ S) D := af
      show Aft C W σ w H (d.truthy S1) _
      cases e2 : d.truthy S1 with
      | bad => rw [e2] at af; exact af
      | xc cc S2 => rw [e2] at af; exact fun H' w' e wd => af H' w' σ (R.ext.trans e) wd
      | ok k S2 =>
        rw [e2] at af
        intro H1 w1 x1 wd1
        have af : AftO C W w0 H0 w (if k = true then exs fn r ρ S2 else exs fn r' ρ S2) D := af
        cases k with
        | true =>
          rw [if_pos rfl] at af
          show if true = true then tSs C W fn r D σ H1 else tSs C W fn r' D σ H1
          rw [if_pos rfl]
          exact ⟨w0, H0, ρ, S2, w1, R.to x1 wd1, af.base x1.fg⟩
        | false =>
          rw [if_neg Bool.false_ne_true] at af
          show if false = true then tSs C W fn r D σ H1 else tSs C W fn r' D σ H1
          rw [if_neg Bool.false_ne_true]
          exact ⟨w0, H0, ρ, S2, w1, R.to x1 wd1, af.base x1.fg⟩
theorem ds_ret (he : PE X e (tE C W fn x)) : PS X (.Return (some e) pos) (tS C W fn (.ret x)) :=
  PS.wk (ps_ret he) fun D σ H ⟨w0, H0, ρ, S, w, R, af⟩ => by
    unfold ex at af
    cases g : isOwn ρ x with
    | true => rw [g] at af; exact af.elim
    | false =>
      rw [g] at af
      refine stepO (D := D) (wb := w) R af fun d S1 v H1 w1 x1 R1 see rep af1 => ?_
      exact af1 H1 w1 R1.ext R1.wd v (rep g)
theorem ds_retN : PS X (.Return none pos) (tS C W fn (.ret (.con .non))) :=
  PS.wk ps_retN fun D σ H ⟨w0, H0, ρ, S, w, R, af⟩ => by
    unfold ex at af
    rw [ev_con] at af
    exact af H w R.ext R.wd .non .non
theorem ds_pass : PS X (.Pass pos) (tS C W fn .pass) :=
  PS.wk ps_pass fun D σ H ⟨w0, H0, ρ, S, w, R, af⟩ => by
    unfold ex at af
    exact af H w σ R (Fg.refl w)
theorem ds_cont : PS X (.Continue pos) (tS C W fn .cont) :=
  PS.wk ps_continue fun D σ H ⟨w0, H0, ρ, S, w, R, af⟩ => by
    unfold ex at af
    exact af H w σ R (Fg.refl w)
theorem ds_exp (he : PE X e (tE C W fn x)) (hs : swapsWith e none pos.line X.env = pure false) : PS X (.Expr e pos) (tS C W fn (.exp x)) :=
  PS.wk (ps_expr he hs) fun D σ H ⟨w0, H0, ρ, S, w, R, af⟩ => by
    unfold ex at af
    refine stepO (D := D) (wb := w) R af fun d S1 v H1 w1 x1 R1 see rep af1 => ?_
    exact af1 H1 w1 σ R1 x1.fg
theorem ds_never : PS X st (tS C W fn .never) :=
  ⟨fun pins s σ H D I ⟨w0, H0, ρ, S, w, R, af⟩ => by
    unfold ex at af
    exact af.elim⟩
/-- raise X('..') -/
theorem ds_raise (h : XOk C c kk W X) {n : Nat} {m y : Str} {j : Nat} {p p2 pos2 : Pos} {bmB : List Value} {B newId initId : String} (F : ExcBaseFacts B newId initId bmB) (q : PySem.W.excIn C.K (C.exc n) bmB newId = true) (gC : C.mg y = some (.ref (C.exc n))) (kC : PySem.W.keepIn C.K (.ref (C.exc n)) = true)
    (r : Raises X (.ref (C.exc n))) (hg : glB c.sc y = true) (hdb : (y == ("__debug__" : Str)) = false) : PS X (.Raise (some (.Call (.Name y p) [.Constant (.str m) j p2] [] pos2)) none pos) (tS C W fn (.raise n)) :=
  PS.wk (ps_raise h.calm h.tk (pmk_own F (by rw [h.K]; exact q) (by rw [h.mg]; exact gC) (by rw [h.K]; exact kC) r (gl_of h hg) hdb)) fun D σ H ⟨w0, H0, ρ, S, w, R, af⟩ => by
    unfold ex at af
    exact af H w σ R.ext R.wd

/-! ### loops -/
theorem ds_for (h : XOk C c kk W X) (hp : PassesOwn (model X.prog X.w) X.A X.env X.xe) {tg iter : Expr} {t : T} (hi : PI X tg iter (tI C W fn x)) (hg : PG X tg (gT C.K t)) (hb : PSs X sts (tSs C W fn r)) (hs : ∀ x, foldedSetIterable iter X.env x = pure x) :
    PS X (.For tg iter sts [] pos) (tS C W fn (.for_ t x r)) :=
  PS.wk (ps_for hp h.calm hi hg hb hs) fun D σ H ⟨w0, H0, ρ, S, w, R, af⟩ => by
    unfold ex at af
    cases g : isOwn ρ x with
    | true => rw [g] at af; exact af.elim
    | false =>
    rw [g] at af
    have af : AftO C W w0 H0 w (O.of (M.bind (ev fn ρ x) TD.D.items S) fun its S => loopO t (exs fn r) its ρ S) D := by
      have af : AftO C W w0 H0 w (O.of (ev fn ρ x S) fun d S => O.of (d.items S) fun its S => loopO t (exs fn r) its ρ S) D := af
      unfold M.bind
      cases e1 : ev fn ρ x S with
      | bad => rw [e1] at af; exact af
      | xc cc S1 => rw [e1] at af; exact af
      | ok d S1 => rw [e1] at af; exact af
    refine ⟨w0, H0, ρ, S, w, R, Aft.imp (ofO af R.ext) ?_⟩
    intro ds S1 w1 H1 e1 x1 wd1 ⟨S1', e1', _, _, af1⟩ J _ hJ
    rw [e1] at e1'
    cases e1'
    have hJ := hJ g
    have R1 := R.to x1 wd1
    refine ⟨fun i m σ H => m = ds.length - i ∧ i ≤ ds.length ∧ ∃ ρ S w2, Rel C w0 H0 ρ S w2 σ H ∧ Fg w1 w2 ∧ AftO C W w0 H0 w1 (loopO t (exs fn r) (ds.drop i) ρ S) D, ⟨ds.length, by simp, Nat.zero_le _, ρ, S1, w1, R1, Fg.refl w1, by simpa using af1.base x1.fg⟩, ?_⟩
    rintro i m σ2 H2 ⟨rfl, hi, ρ2, S2, w2, R2, g2, af2⟩
    obtain ⟨stop, go⟩ := hJ w2 H2 g2 R2.wd.le
    by_cases hlt : i < ds.length
    · right
      obtain ⟨hgo, yl⟩ := go i ds[i] (by simp [hlt])
      refine ⟨hgo, fun σ H => ∃ ρ S w2, Rel C w0 H0 ρ S w2 σ H ∧ Fg w1 w2 ∧ AftO C W w0 H0 w1 (loopO t (exs fn r) (ds.drop (i + 1)) ρ S) D, fun σ' H' z => ⟨ds.length - (i + 1), by omega, rfl, hlt, z⟩, fun y H3 yy => ?_⟩
      obtain ⟨w3, g3, r3⟩ := yl y H3 yy
      have R3 := R2.to g3.ext (R2.wd.grow g3)
      rw [List.drop_eq_getElem_cons hlt] at af2
      have af2 : AftO C W w0 H0 w1 (match t.put ds[i] ρ2 with
        | some ρ' => (exs fn r ρ' S2).turn (loopO t (exs fn r) (ds.drop (i + 1)))
        | none => .bad) D := af2
      cases q : t.put ds[i] ρ2 with
      | none => rw [q] at af2; exact af2.elim
      | some ρ' =>
        rw [q] at af2
        have af2 : AftO C W w0 H0 w1 ((exs fn r ρ' S2).turn (loopO t (exs fn r) (ds.drop (i + 1)))) D := af2
        refine g_put R3 r3 q fun σ4 R4 _ => ⟨w0, H0, ρ', S2, w3, R4, ?_⟩
        have g13 : Fg w1 w3 := g2.trans g3.ext.fg
        cases e : exs fn r ρ' S2 with
        | nx ρ5 S5 =>
          rw [e] at af2
          exact fun H5 w5 σ5 R5 g5 => ⟨ρ5, S5, w5, R5, g13.trans g5, af2⟩
        | ct ρ5 S5 =>
          rw [e] at af2
          exact fun H5 w5 σ5 R5 g5 => ⟨ρ5, S5, w5, R5, g13.trans g5, af2⟩
        | rt d S5 => rw [e] at af2; exact af2
        | xc cc S5 => rw [e] at af2; exact af2
        | bad => rw [e] at af2; exact af2
    · left
      have e : i = ds.length := by omega
      subst e
      rw [List.drop_length] at af2
      exact ⟨stop, af2 H2 w2 σ2 R2 g2⟩
end
end TD
end
section
set_option Elab.async false
set_option linter.all false
set_option maxRecDepth 100000
/-! What changes: x.append, x.extend, x[k] = ..; new lists and dicts. -/
namespace TD
open PySem L2 PySem.Spec
open PyProof.Rows hiding St

section
variable {C : Cs} {c : Ck} {kk : Nat} {W : WX} {X : Cx} {fn : Fns} {pos : Pos} {w0 w wb : Wl} {H0 H : Hp} {ρ ρ' : TD.Env} {S : Sto} {σ : L2.St} {D : Ends} {a b : Expr} {x y z : E} {es : List Expr} {l : Es}
theorem raw_var (h : XOk C c kk W X) {i : Nat} {y : Str} (hN : c.N[i]? = some y) (hv : visB c.sc y = true) (h1 : (y == ("__debug__" : Str)) = false) (h2 : (y == ("__classdict__" : Str)) = false) : PE X (.Name y pos) (tVar i) :=
  pe_var (by rw [h.N]; exact hN) (by rw [h.sc]; exact vis_of hv) h1 h2
theorem few_one (hs : starEach [a] X.env = (false, eval a X.env) :: starEach [] X.env) : ((backTo pos (starEach [a] X.env)).all (fun x => !x.1) && (backToKw pos (keywordEach [] X.env)).all (fun x => x.1.isSome)
      && decide (([a] : List Expr).length + ([] : List Keyword).length + (if ([] : List Keyword).isEmpty then 0 else 1) < 30)) = true := by rw [hs]; rfl
theorem cont_lst {w : Wl} {o : HO} {l : List TD.D} (h : Cont C.K w.F w.ι o (.lst l)) : ∃ vs, o = .lst vs ∧ Reps C.K w.F w.ι vs l := by
  cases o <;> simp only [Cont] at h
  exact ⟨_, rfl, h⟩
theorem cont_dct {w : Wl} {o : HO} {l : List (Ky × TD.D)} (h : Cont C.K w.F w.ι o (.dct l)) : ∃ vs, o = .dK vs ∧ RepKs C.K w.F w.ι vs l := by
  cases o <;> simp only [Cont] at h
  exact ⟨_, rfl, h⟩
theorem fits_lt {α : Type} {l : List α} (h : fits l = true) : l.length < sizeLine := Nat.lt_of_le_of_lt (fits_len h) (by decide)
theorem ds_app (h : XOk C c kk W X) {i : Nat} {y : Str} {p ap cp : Pos} (hN : c.N[i]? = some y) (hv : visB c.sc y = true) (h1 : (y == ("__debug__" : Str)) = false) (h2 : (y == ("__classdict__" : Str)) = false) (ha : PE X a (tE C W fn x)) (hs : starEach [a] X.env = (false, eval a X.env) :: starEach [] X.env)
    (hl : (ap.endLine == cp.line) = true) : PS X (.Expr (.Call (.Attribute (.Name y p) "append" ap) [a] [] cp) pos) (tS C W fn (.app i x)) :=
  PS.wk (ps_expr (pe_bm PySem.F.plainAttrs_list PySem.F.slot_list_append PySem.F.type_list_append mt_append (raw_var h hN hv h1 h2) (pa_cons ha pa_nil hs) rfl (few_one hs) hl hs rfl)) fun D σ H ⟨w0, H0, ρ, S, w, R, af⟩ => by
    unfold ex at af
    cases e : slot ρ i with
    | no => rw [e] at af; exact af.elim
    | fz d => rw [e] at af; exact af.elim
    | ow d =>
    rw [e] at af
    cases d <;> try exact af.elim
    rename_i l
    have af : AftO C W w0 H0 w (if isOwn ρ x then .bad else .of (ev fn ρ x S) fun d S => if fits l then .nx (ρ.set i (.ow (.lst (l ++ [d])))) S else .bad) D := af
    cases g : isOwn ρ x with
    | true => rw [g] at af; exact af.elim
    | false =>
    rw [g] at af
    have af : AftO C W w0 H0 w (.of (ev fn ρ x S) fun d S => if fits l then .nx (ρ.set i (.ow (.lst (l ++ [d])))) S else .bad) D := af
    obtain ⟨p, o, ea, hH, hF, hm, hc, h0⟩ := R.owAt e
    obtain ⟨vs, rfl, rv⟩ := cont_lst hc
    refine ⟨.ref p, sAt_get ea, .inl ⟨rfl, _, .inl (.inl hH)⟩, ?_⟩
    refine stepO (D := D) (wb := w) R af fun d S1 v H1 w1 x1 R1 see rep af1 => ?_
    cases gf : fits l with
    | false => rw [gf] at af1; exact af1.elim
    | true =>
    rw [gf] at af1
    obtain ⟨p', o', ea', hH', hF', hm', hc', h0'⟩ := R1.owAt e
    rw [ea] at ea'; cases ea'
    obtain ⟨vs', rfl, rv'⟩ := cont_lst hc'
    refine ⟨p, vs', v, rfl, rfl, hH', by rw [rv'.length]; exact fits_lt gf, ?_⟩
    exact af1 _ w1 σ (R1.mut e ea (d' := .lst (l ++ [d])) (rv'.app (.cons (rep g) .nil))) x1.fg
theorem ds_ext (h : XOk C c kk W X) {i : Nat} {y : Str} {p ap cp : Pos} (hN : c.N[i]? = some y) (hv : visB c.sc y = true) (h1 : (y == ("__debug__" : Str)) = false) (h2 : (y == ("__classdict__" : Str)) = false) (ha : PE X a (tN C W fn x)) (hs : starEach [a] X.env = (false, eval a X.env) :: starEach [] X.env)
    (hl : (ap.endLine == cp.line) = true) : PS X (.Expr (.Call (.Attribute (.Name y p) "extend" ap) [a] [] cp) pos) (tS C W fn (.ext i x)) :=
  PS.wk (ps_expr (pe_bm PySem.F.plainAttrs_list PySem.F.slot_list_extend PySem.F.type_list_extend mt_extend (raw_var h hN hv h1 h2) (pa_cons ha pa_nil hs) rfl (few_one hs) hl hs rfl)) fun D σ H ⟨w0, H0, ρ, S, w, R, af⟩ => by
    unfold ex at af
    cases e : slot ρ i with
    | no => rw [e] at af; exact af.elim
    | fz d => rw [e] at af; exact af.elim
    | ow d =>
    rw [e] at af
    cases d <;> try exact af.elim
    rename_i l
    have af : AftO C W w0 H0 w (.of (ev fn ρ x S) fun d S => match d with
      | .lst m => if fits (l ++ m) then .nx (ρ.set i (.ow (.lst (l ++ m)))) S else .bad
      | _ => .bad) D := af
    obtain ⟨p, o, ea, hH, hF, hm, hc, h0⟩ := R.owAt e
    obtain ⟨vs, rfl, rv⟩ := cont_lst hc
    refine ⟨.ref p, sAt_get ea, .inl ⟨rfl, _, .inl (.inl hH)⟩, ?_⟩
    refine stepN (D := D) (wb := w) R af fun d S1 q ob H1 w1 x1 R1 k0 k1 k2 k3 k4 af1 => ?_
    cases d <;> try exact af1.elim
    rename_i m
    have af1 : AftO C W w0 H0 w (if fits (l ++ m) then .nx (ρ.set i (.ow (.lst (l ++ m)))) S1 else .bad) D := af1
    cases gf : fits (l ++ m) with
    | false => rw [gf] at af1; exact af1.elim
    | true =>
    rw [gf] at af1
    obtain ⟨p', o', ea', hH', hF', hm', hc', h0'⟩ := R1.owAt e
    rw [ea] at ea'; cases ea'
    obtain ⟨vs', rfl, rv'⟩ := cont_lst hc'
    obtain ⟨us, rfl, ru⟩ := cont_lst k4
    refine ⟨p, q, vs', us, rfl, rfl, hH', k1, ?_, ?_⟩
    · rw [rv'.length, ru.length, ← List.length_append]; exact fits_line gf
    · exact af1 _ w1 σ (R1.mut e ea (d' := .lst (l ++ m)) (rv'.app ru)) x1.fg

/-! ### x[k] = e -/
def rSet (X : Cx) : TSet := fun o i v H Q => rSetL o i v H Q ∨ rSetD o i v H Q
theorem set_any (hu : X.A.units + 1 < cLine) : PSet X (rSet X) := by
  intro pins s σ H o i v ov iv u Q I ro ri rv h
  rcases h with h | h
  · exact set_list pins s σ H o i v ov iv u Q I ro ri rv h
  · exact set_dict hu pins s σ H o i v ov iv u Q I ro ri rv h
theorem Reps.ixN {K : PySem.W.Frag} {F : Hp} {ι : List Addr} {vs : List V} {ds : List TD.D} {n : Int} {j : Nat} (r : Reps K F ι vs ds) (h : ixAt ds.length n = some j) : ixN vs.length n = some j := by
  rw [r.length]
  exact h
theorem ds_put (h : XOk C c kk W X) {i : Nat} {y : Str} {p tp : Pos} {e k : Expr} (hN : c.N[i]? = some y) (hv : visB c.sc y = true) (h1 : (y == ("__debug__" : Str)) = false) (h2 : (y == ("__classdict__" : Str)) = false) (ha : PE X e (tE C W fn x)) (hk : PE X k (tE C W fn z))
    (hs : swapsWithSole [.Subscript (.Name y p) k tp] e pos.line X.env = pure false) (hw : swappedStores [.Subscript (.Name y p) k tp] e X.env = pure none)
    (hsub : ∀ v, assign (.Subscript (.Name y p) k tp) X.env v = (do
      let ov ← holding [v] (eval (.Name y p) X.env)
      let iv ← holding [v, ov] (eval k X.env)
      standAt tp
      holding [v, ov, iv] (setItem ov iv v)
      release [v, ov, iv] [])) : PS X (.Assign [.Subscript (.Name y p) k tp] e pos) (tS C W fn (.put i z x)) :=
  PS.wk (ps_asg ha (pg_sub (raw_var h hN hv h1 h2) hk (set_any (Nat.lt_of_le_of_lt (Nat.add_le_add_left (by decide : 1 ≤ 64) _) h.hu)) hsub) hs hw) fun D σ H ⟨w0, H0, ρ, S, w, R, af⟩ => by
    unfold ex at af
    cases e : slot ρ i with
    | no => rw [e] at af; exact af.elim
    | fz d => rw [e] at af; exact af.elim
    | ow o =>
    rw [e] at af
    have af : AftO C W w0 H0 w (if isOwn ρ x then .bad else .of (ev fn ρ x S) fun d S => .of (ev fn ρ z S) fun k S => putO ρ i o k d S) D := af
    cases g : isOwn ρ x with
    | true => rw [g] at af; exact af.elim
    | false =>
    rw [g] at af
    have af : AftO C W w0 H0 w (.of (ev fn ρ x S) fun d S => .of (ev fn ρ z S) fun k S => putO ρ i o k d S) D := af
    obtain ⟨p, ob, ea, hH, hF, hm, hc, h0⟩ := R.owAt e
    refine stepO (D := D) (wb := w) R af fun d S1 v H1 w1 x1 R1 see rep af1 => ?_
    refine ⟨.ref p, sAt_get ea, ?_⟩
    refine stepO (D := D) (wb := w) R1 af1 fun k S2 u H2 w2 x2 R2 see2 _ af2 => ?_
    have rd := (rep g).mono x2.F x2.ι
    obtain ⟨p', o', ea', hH', hF', hm', hc', h0'⟩ := R2.owAt e
    rw [ea] at ea'; cases ea'
    have fg := (x1.trans x2).fg
    cases o with
    | lst l =>
      obtain ⟨vs, rfl, rv⟩ := cont_lst hc'
      obtain ⟨n, rfl⟩ : ∃ n, k = .int n := by cases k <;> first | exact ⟨_, rfl⟩ | exact af2.elim
      have eu := see2.int
      subst eu
      cases q : ixAt l.length n with
      | none => simp only [putO, q] at af2; exact af2.elim
      | some j =>
        simp only [putO, q] at af2
        refine .inl ⟨p, vs, n, j, rfl, rfl, hH', rv.ixN q, ?_⟩
        exact af2 _ w2 σ (R2.mut e ea (d' := .lst (l.set j d)) (rv.set j rd)) fg
    | dct l =>
      obtain ⟨vs, rfl, rv⟩ := cont_dct hc'
      cases q : Ky.ofD k with
      | none =>
        have : putO ρ i (.dct l) k d S2 = .bad := by unfold putO; simp only [q]
        rw [this] at af2; exact af2.elim
      | some k' =>
        have : putO ρ i (.dct l) k d S2 = if fits l then .nx (ρ.set i (.ow (.dct (TD.putK k' d l)))) S2 else .bad := by unfold putO; simp only [q]
        rw [this] at af2
        cases gf : fits l with
        | false => rw [gf] at af2; exact af2.elim
        | true =>
        rw [gf] at af2
        have ek := kV_of see2 q
        subst ek
        refine .inr ⟨p, _, rfl, DPut.k hH' (by rw [rv.length]; exact fits_lt gf), ?_⟩
        exact af2 _ w2 σ (R2.mut e ea (d' := .dct (TD.putK k' d l)) (rv.put rd)) fg
    | _ => exact af2.elim

/-! ### new lists and dicts, not for good -/
theorem GotN.fin {d : TD.D} {H0 : Hp} {S : Sto} {σ : L2.St} {p : Addr} {o : HO} {Q : VK} {w1 : Wl} {H1 : Hp} (af : Aft C W σ w1 H1 (.ok d S) (GotN C H0 Q)) (wd : Wd C S w1 H1) (hp : H1 p = none) (h0 : NT H0 p) (hc : Cont C.K w1.F w1.ι o d) : Q (.ref p) (upd H1 p o) :=
  af (upd H1 p o) w1 (Grow.lay wd.le hp).ext (wd.grow (Grow.lay wd.le hp)) p o h0 upd_same (wd.le.free hp) (fun q => wd.mH p q hp) hc
theorem free_before {w1 : Wl} {H1 : Hp} {p : Addr} (e : Ext w H w1 H1) (h : H1 p = none) : NT H p := e.dom p (NT.of h)
theorem dn_lst (ha : PA X es (tEF C W fn l)) (hl : es.length ≤ 100) (hle : l.len = es.length) : PE X (.List es pos) (tN C W fn (.lst l)) := by
  refine PE.wk (pe_lst ha) fun σ H Q ⟨w0, H0, ρ, S, w, R, af⟩ => ?_
  unfold ev at af
  refine ⟨w0, H0, ρ, S, w, R, Aft.imp (Aft.bind af) ?_⟩
  intro ds S1 w1 H1 e x1 wd ⟨S1', q1, _, _, af1⟩ vs see rep
  rw [e] at q1
  cases q1
  have r := rep rfl
  refine ⟨?_, fun p hp => GotN.fin af1 wd hp (free_before x1 hp) (o := .lst vs) r⟩
  rw [r.length, evF_len e, hle]
  exact Nat.le_trans hl (by decide)
theorem dn_dic0 : PE X (.Dict [] [] pos) (tN C W fn (.dic .nil .nil)) := by
  refine PE.wk pe_dnewK fun σ H Q ⟨w0, H0, ρ, S, w, R, af⟩ p hp => ?_
  have e : ev fn ρ (.dic .nil .nil) = M.ret (.dct []) := by
    unfold ev evF
    rfl
  rw [e] at af
  exact GotN.fin (o := .dK []) af R.wd hp (NT.of hp) .nil
theorem dn_comp (h : XOk C c kk W X) {tg iter elt : Expr} {ifs : List Expr} {scope : Scope} {own : List (Str × Nat)} {t : T} {src cnd e : E} (hi : PI X tg iter (tI C W fn src)) (ok : blkB c.N c.sc scope own = true)
    (hg : ∀ X', XOk C (c.blk scope) kk WF X' → PG X' tg (gT C.K t)) (ht : ∀ X', XOk C (c.blk scope) kk WF X' → PTs X' ifs (tT C WF fn cnd)) (he : ∀ X', XOk C (c.blk scope) kk WF X' → PE X' elt (tE C WF fn e))
    (hsub : ∀ i ∈ t.ixs, i ∈ own.map (·.2)) (hs : ∀ x, foldedSetIterable iter X.env x = pure x := by intro _; rfl) :
    PE X (.ListComp elt [⟨tg, iter, ifs, 0⟩] scope pos) (tN C W fn (.comp e t src cnd (own.map (·.2)))) :=
  PE.wk (pe_lc h.calm (by rw [h.N]; exact h.nd) hi (by rw [h.N, h.sc]; exact blk_of ok) (fun _ _ _ _ _ => hg _ h.blk) (fun _ _ _ _ _ => ht _ h.blk) (fun _ _ _ _ _ => he _ h.blk) hs) fun _ _ _ tr => lc_new hsub tr
/-- a list and another: a new one -/
theorem dn_cat (h : XOk C c kk W X) (ha : PE X a (tE C W fn x)) (hb : PE X b (tE C W fn y)) : PE X (.BinOp a .Add b pos) (tN C W fn (.lcat x y)) := by
  refine PE.wk (pe_op op_catL ha hb) fun σ H Q ⟨w0, H0, ρ, S, w, R, af⟩ => ?_
  unfold ev at af
  have af : Aft C W σ w H (M.bind (ev fn ρ x) (fun a => M.bind (ev fn ρ y) fun b => lcatD a b) S) (GotN C H Q) := af
  refine step R af fun d1 S1 v H1 w1 x1 R1 see1 _ af1 => ?_
  refine step R1 af1 fun d2 S2 u H2 w2 x2 R2 see2 _ af2 => ?_
  obtain ⟨l1, rfl⟩ : ∃ n, d1 = .lst n := by cases d1 <;> first | exact ⟨_, rfl⟩ | exact af2.elim
  obtain ⟨l2, rfl⟩ : ∃ n, d2 = .lst n := by cases d2 <;> first | exact ⟨_, rfl⟩ | exact af2.elim
  obtain ⟨p, vs, rfl, k1, r1⟩ := (see1.ext x2).lst R2.wd.le
  obtain ⟨q, us, rfl, k2, r2⟩ := see2.lst R2.wd.le
  have af2 : Aft C W σ w2 H2 (M.bind (M.ask (fits (l1 ++ l2))) (fun _ => M.ret (.lst (l1 ++ l2))) S2) (GotN C H Q) := af2
  cases g : fits (l1 ++ l2) with
  | false => rw [g] at af2; exact af2.elim
  | true =>
  rw [g] at af2
  refine ⟨p, q, vs, us, rfl, rfl, by rw [h.K]; exact k1, by rw [h.K]; exact k2, by rw [r1.length, r2.length, ← List.length_append]; exact fits_line g, fun t ht => ?_⟩
  exact GotN.fin (o := .lst (vs ++ us)) af2 R2.wd ht (free_before (x1.trans x2) ht) (r1.app r2)
/-- [..] * n -/
theorem de_lrep (h : XOk C c kk W X) {p2 : Pos} (ha : PA X es (tEF C W fn l)) (hl : es.length ≤ 100) (hle : l.len = es.length) (hb : PE X b (tE C W fn y)) : PE X (.BinOp (.List es p2) .Mult b pos) (tE C W fn (.lrep l y)) := by
  refine PE.wk (pe_op op_repR (pe_lst ha) hb) fun σ H Q ⟨w0, H0, ρ, S, w, R, af⟩ => ?_
  unfold After at af
  unfold ev at af
  have af : Aft C W σ w H (M.bind (evF fn ρ l) (fun ds => M.bind (ev fn ρ y) fun b => lrepD ds b) S) (Got C false Q) := af
  refine ⟨w0, H0, ρ, S, w, R, Aft.imp (Aft.bind af) ?_⟩
  intro ds S1 w1 H1 e x1 wd ⟨S1', q1, _, _, af1⟩ vs see rep
  rw [e] at q1
  cases q1
  have r := rep rfl
  refine ⟨by rw [r.length, evF_len e, hle]; exact Nat.le_trans hl (by decide), fun p hp => ?_⟩
  have gl := Grow.lay (o := .lst vs) wd.le hp
  have R1 := R.to (x1.trans gl.ext) (wd.grow gl)
  refine step R1 (af1.later gl.ext) fun d2 S2 u H2 w2 x2 R2 see2 _ af2 => ?_
  obtain ⟨n, rfl⟩ : ∃ n, d2 = .int n := by cases d2 <;> first | exact ⟨_, rfl⟩ | exact af2.elim
  have eu := see2.int
  subst eu
  have af2 : Aft C W σ w2 H2 (M.bind (M.ask (decide (n ≤ 100000) && decide (-100000 ≤ n) && decide (ds.length ≤ 100))) (fun _ => M.ret (.lst (TD.rep n ds))) S2) (Got C false Q) := af2
  cases g : (decide (n ≤ 100000) && decide (-100000 ≤ n) && decide (ds.length ≤ 100)) with
  | false => rw [g] at af2; exact af2.elim
  | true =>
  rw [g] at af2
  simp only [Bool.and_eq_true, decide_eq_true_eq] at g
  have hp2 : H2 p = some (.lst vs) := x2.kp p _ upd_same (fun _ z => by cases z) fun q => wd.mH p q hp
  have r2 := r.mono x2.F x2.ι
  refine ⟨p, n, vs, rfl, rfl, .inl hp2, by omega, by omega, ?_, fun t ht => ?_⟩
  · rw [r.length]
    have h5 := Nat.mul_le_mul g.2 (show Int.toNat n ≤ 100000 from Int.toNat_le.mpr g.1.1)
    exact Nat.le_trans h5 (by decide)
  · exact After.new (own := false) af2 R2.wd ht (.lst (.inl (.inl upd_same)) ((r2.rep _).mono (Le.new (R2.wd.le.free ht)) List.prefix_rfl))
end
end TD
end
section
set_option Elab.async false
set_option linter.all false
set_option maxRecDepth 100000
/-! Built-in functions: len, tuple, list, int, dict, max, min. -/
namespace TD
open PySem L2 PySem.Spec
open PyProof.Rows hiding St

section
variable {X : Cx} {C : Cs} {pins : List (Addr × Obj)} {σ : L2.St} {H : Hp} {s : Shared} {w : Wl}
def rB (C : Cs) (b : Bi) : List V → Hp → VK → Prop := fun vs H Q => ∃ ds w S W σ own, Wd C S w H ∧ Sees C w H vs ds ∧ After C W σ w H own (b.run ds S) Q
theorem sees1 {vs : List V} {d : D} (h : Sees C w H vs [d]) : ∃ v, vs = [v] ∧ See C w H v d := by
  cases vs with
  | nil => exact h.elim
  | cons v vs =>
    cases vs with
    | nil => exact ⟨v, rfl, h.1⟩
    | cons _ _ => exact h.2.elim
theorem sees2 {vs : List V} {d e : D} (h : Sees C w H vs [d, e]) : ∃ v u, vs = [v, u] ∧ See C w H v d ∧ See C w H u e := by
  cases vs with
  | nil => exact h.elim
  | cons v vs =>
    cases vs with
    | nil => exact h.2.elim
    | cons u vs =>
      cases vs with
      | nil => exact ⟨v, u, rfl, h.1, h.2.1⟩
      | cons _ _ => exact h.2.2.elim
theorem See.tupRep {v : V} {ds : List D} (h : See C w H v (.tup ds)) : Rep C.K w.F w.ι v (.tup ds) := by
  rcases h with h | ⟨a, o, h1, h2, h3, h4⟩
  · exact h
  · cases o <;> simp only [Cont] at h4
theorem bi_one {b : Bi} {vs : List V} {Q : VK} (h : rB C b vs H Q) (hb : ∀ ds S, (∀ d, ds ≠ [d]) → b.run ds S = .bad) : ∃ v d w S W σ own, vs = [v] ∧ Wd C S w H ∧ See C w H v d ∧ After C W σ w H own (b.run [d] S) Q := by
  obtain ⟨ds, w, S, W, σ, own, wd, se, af⟩ := h
  by_cases hd : ∃ d, ds = [d]
  · obtain ⟨d, rfl⟩ := hd
    obtain ⟨v, rfl, sv⟩ := sees1 se
    exact ⟨v, d, w, S, W, σ, own, rfl, wd, sv, af⟩
  · rw [hb ds S fun d e => hd ⟨d, e⟩] at af
    exact af.elim
theorem not_one {α : Type} {l : List D} {a b : α} (h : ∀ d, l ≠ [d]) : True := trivial

theorem bi_len (hK : X.K = C.K) : CallR X (.builtin "len") (rB C .len) := by
  intro pins s σ H xs us Q I r h
  obtain ⟨v, d, w, S, W, σ', own, rfl, wd, sv, af⟩ := bi_one h fun ds S hd => by
    match ds, hd with
    | [], _ => rfl
    | [d], hd => exact absurd rfl (hd d)
    | [_, _], _ => rfl
    | _ :: _ :: _ :: _, _ => rfl
  cases d <;> try exact af.elim
  case str z =>
    have e := sv.str
    subst e
    obtain ⟨g, af⟩ := After.asked af
    exact call_len pins s σ H _ us Q I r ⟨.str (toS z), _, rfl, ⟨by rw [toS_len]; exact fits_line g, rfl⟩, by rw [toS_len]; exact After.val af wd (.int _)⟩
  case tup l =>
    obtain ⟨p, vs, rfl, h1, r1⟩ := sv.tup wd.le
    exact call_len pins s σ H _ us Q I r ⟨.ref p, _, rfl, .inr ⟨vs, by rw [hK]; exact h1, rfl⟩, by rw [r1.length]; exact After.val af wd (.int _)⟩
  case lst l =>
    obtain ⟨p, vs, rfl, h1, r1⟩ := sv.lst wd.le
    exact call_len pins s σ H _ us Q I r ⟨.ref p, _, rfl, .inl ⟨vs, by rw [hK]; exact h1, rfl⟩, by rw [r1.length]; exact After.val af wd (.int _)⟩
theorem bi_tuple (hK : X.K = C.K) : CallR X (.type "tuple") (rB C .tuple) := by
  intro pins s σ H xs us Q I r h
  obtain ⟨v, d, w, S, W, σ', own, rfl, wd, sv, af⟩ := bi_one h fun ds S hd => by
    match ds, hd with
    | [], _ => rfl
    | [d], hd => exact absurd rfl (hd d)
    | [_, _], _ => rfl
    | _ :: _ :: _ :: _, _ => rfl
  cases d <;> try exact af.elim
  case tup l =>
    have rr := sv.tupRep
    obtain ⟨p, vs, rfl, h1, r1⟩ := sv.tup wd.le
    exact call_tupleF pins s σ H _ us Q I r ⟨p, vs, rfl, .inr ⟨by rw [hK]; exact h1, After.val af wd rr⟩⟩
  case lst l =>
    obtain ⟨p, vs, rfl, h1, r1⟩ := sv.lst wd.le
    exact call_tupleF pins s σ H _ us Q I r ⟨p, vs, rfl, .inl ⟨by rw [hK]; exact h1, fun t o ht ho => After.new af wd ht (.tup (.inl ⟨o, ho, upd_same⟩) (r1.mono (Le.new (wd.le.free ht)) List.prefix_rfl))⟩⟩
theorem RepKs.keysL {F : Hp} {ι : List Addr} : ∀ {kvs : List (Key × V)} {l : List (Ky × D)}, RepKs C.K F ι kvs l → Reps C.K F ι (kvs.map fun kv => kV kv.1) (l.map fun p => p.1.toD)
  | _, _, .nil => .nil
  | _, _, .cons (k := k) _ t => .cons (by cases k <;> first | exact .int _ | exact .str _) t.keysL
theorem bi_list (hK : X.K = C.K) (hc : X.calm = true) : CallR X (.type "list") (rB C .list) := by
  intro pins s σ H xs us Q I r h
  obtain ⟨v, d, w, S, W, σ', own, rfl, wd, sv, af⟩ := bi_one h fun ds S hd => by
    match ds, hd with
    | [], _ => rfl
    | [d], hd => exact absurd rfl (hd d)
    | [_, _], _ => rfl
    | _ :: _ :: _ :: _, _ => rfl
  cases d <;> try exact af.elim
  case tup l =>
    obtain ⟨p, vs, rfl, h1, r1⟩ := sv.tup wd.le
    exact call_list_of pins s σ H _ us Q I r ⟨p, vs, rfl, .inr (by rw [hK]; exact h1), fun t ht => After.new af wd ht (.lst (.inl (.inl upd_same)) (r1.mono (Le.new (wd.le.free ht)) List.prefix_rfl))⟩
  case lst l =>
    obtain ⟨p, vs, rfl, h1, r1⟩ := sv.lst wd.le
    exact call_list_of pins s σ H _ us Q I r ⟨p, vs, rfl, .inl (by rw [hK]; exact h1), fun t ht => After.new af wd ht (.lst (.inl (.inl upd_same)) (r1.mono (Le.new (wd.le.free ht)) List.prefix_rfl))⟩
  case dct l =>
    obtain ⟨p, kvs, rfl, h1, r1⟩ := sv.dct wd.le
    exact call_listD hc pins s σ H _ us Q I r ⟨p, kvs, rfl, .inl h1, fun t ht => After.new af wd ht (.lst (.inl (.inl upd_same)) (r1.keysL.mono (Le.new (wd.le.free ht)) List.prefix_rfl))⟩
theorem bi_abs : CallR X (.builtin "abs") (rB C .abs) := by
  intro pins s σ H xs us Q I r h
  obtain ⟨v, d, w, S, W, σ', own, rfl, wd, sv, af⟩ := bi_one h fun ds S hd => by
    match ds, hd with
    | [], _ => rfl
    | [d], hd => exact absurd rfl (hd d)
    | [_, _], _ => rfl
    | _ :: _ :: _ :: _, _ => rfl
  cases d <;> try exact af.elim
  rename_i i
  have e := sv.int
  subst e
  exact call_abs pins s σ H _ us Q I r ⟨i, rfl, After.val af wd (.int _)⟩
theorem bi_max2 (hc : X.calm = true) : CallR X (.builtin "max") (rB C .max2) := by
  intro pins s σ H xs us Q I r h
  obtain ⟨ds, w, S, W, σ', own, wd, se, af⟩ := h
  have two : ∃ a b, ds = [.int a, .int b] := by
    match ds, af with
    | [], af => exact af.elim
    | [_], af => exact af.elim
    | [x, y], af => cases x <;> cases y <;> first | exact ⟨_, _, rfl⟩ | exact af.elim
    | _ :: _ :: _ :: _, af => exact af.elim
  obtain ⟨a, b, rfl⟩ := two
  obtain ⟨v, u, rfl, s1, s2⟩ := sees2 se
  have e1 := s1.int
  have e2 := s2.int
  subst e1 e2
  exact call_max2 hc pins s σ H _ us Q I r ⟨a, b, rfl, After.val af wd (.int _)⟩

/-! ### dict(pairs) -/
theorem TupAt.plain {a : Addr} {vs : List V} (I : L2.Inv X pins σ H s) (h : TupAt X.K H a vs) : ∃ its : List Value, Vals vs its ∧ its.length ≤ sizeLine ∧ PlainSeq "tuple" s.heap a its.toArray := by
  rcases h with ⟨o, hd, h⟩ | ⟨o, its, n, h1, h2, h3, h4, h5, h6⟩
  · obtain ⟨e, hz, its, r, o', e', hc, n, hdat⟩ := I.hok a _ h
    rw [e] at e'; cases e'
    exact ⟨its, r, by rw [← r.length]; exact hz, o, n, e, hc, hd, hdat⟩
  · exact ⟨its.toList, h6, by rw [Array.length_toList]; exact h5, o, n, I.kIn a o h1, h2, h3, by rw [Array.toArray_toList]; exact h4⟩
theorem pairs_two (I : L2.Inv X pins σ H s) : ∀ {ps : List Addr} {kvs : List (Key × V)}, Paired (fun p kv => SqT X.K H p [kV kv.1, kv.2]) ps kvs →
    ∃ (prs : List (Key × Value)) (qs : List (Value × Value)), KV kvs prs ∧ prs.length = ps.length ∧ qs.length = ps.length ∧ ∀ (j : Nat) (k v : Value), qs[j]? = some (k, v) → ∃ (b : Addr) (key : Key), ps[j]? = some b ∧ prs[j]? = some (key, v) ∧ IsTup s.heap b #[k, v] ∧ keyIs key k = true
  | _, _, .nil => ⟨[], [], .nil, rfl, rfl, fun j k v e => by simp at e⟩
  | _, _, .cons (a := p) (b := kv) h t => by
    obtain ⟨prs, qs, r, hl, hl2, hp⟩ := pairs_two I t
    obtain ⟨its, rv, ht, _⟩ := I.tuple h
    obtain ⟨u, y, ei, ru, ry⟩ := vals2 rv
    subst ei
    refine ⟨(kv.1, y) :: prs, (u, y) :: qs, .cons ⟨rfl, ry⟩ r, by rw [List.length_cons, List.length_cons, hl], by rw [List.length_cons, List.length_cons, hl2], fun j k v e => ?_⟩
    cases j with
    | zero =>
      have e' : (u, y) = (k, v) := Option.some.inj e
      cases e'
      exact ⟨p, kv.1, rfl, rfl, ht, kV_is (P := X.prog) (w := X.w) ru⟩
    | succ j =>
      obtain ⟨b, key, e1, e2, e3⟩ := hp j k v (by simpa using e)
      exact ⟨b, key, by simpa using e1, by simpa using e2, e3⟩
theorem call_dictT (hcalm : X.calm = true) : CallR X (.type "dict") (fun xs H Q => ∃ (a : Addr) (ps : List Addr) (kvs : List (Key × V)), xs = [.ref a] ∧ TupAt X.K H a (ps.map V.ref) ∧ Paired (fun p kv => SqT X.K H p [kV kv.1, kv.2]) ps kvs ∧
    ∀ p, H p = none → Q (.ref p) (upd H p (.dK (mergeK [] kvs)))) := by
  intro pins s σ H xs us Q I r q
  obtain ⟨a, ps, kvs, ex, hq, hp, q⟩ := q
  subst ex
  obtain ⟨u, eu, rx⟩ := vals1 r
  subst eu
  cases rx
  obtain ⟨its, rv, hz, pl⟩ := hq.plain I
  have ei := refs_at rv
  subst ei
  rw [List.length_map] at hz
  obtain ⟨prs, qs, rel, hl, hl2, hpr⟩ := pairs_two I hp
  have P := PairArg.tuple (prog := X.prog) (w := X.w) a (ps.map Value.ref).toArray (fun j => ps.getD j 0) qs
  refine call_dict_pairs (knd := mixKind X.prog X.w) (kvs := prs) P (I.ok.hd hcalm) ⟨pl, by simp [hl2], fun j k v e => ?_⟩ ⟨by rw [hl, hl2], fun i key v e => ?_⟩ (by rw [hl2]; exact hz) fun h' tk hd' k => ?_
  · obtain ⟨b, key, e1, e2, e3, e4⟩ := hpr j k v e
    have eg : ps.getD j 0 = b := by rw [List.getD_eq_getElem?_getD, e1]; rfl
    refine ⟨by simp [e1, eg], .inl ?_⟩
    show s.heap.IsTuple (ps.getD j 0) #[k, v]
    rw [eg]
    exact e3
  · obtain ⟨b, k, e1, e2, e3, e4⟩ := hpr i key v e
    exact ⟨k, e2, e4⟩
  · have hm : (s.heap.objs.size == sysModules) = false := beq_eq_false_iff_ne.mpr (Nat.ne_of_gt I.big)
    have hlen : (mergeK [] kvs).length ≤ sizeLine := by
      refine Nat.le_trans (length_mergeK kvs []) ?_
      rw [List.length_nil, Nat.zero_add, rel.length, hl]
      exact hz
    exact ⟨.ref s.heap.objs.size, upd H s.heap.objs.size (.dK (mergeK [] kvs)), I.laid (t' := tk) (fun b o e => k b o (by simp) e) (Nat.le_refl _) (show ObjOk X.prog X.w _ _ _ (.dK (mergeK [] kvs)) from ⟨hlen, hm, merged [] prs, KV.merge rel .nil, hd'⟩), rfl, q _ (I.hok.fresh (Nat.le_refl _))⟩
/-- the pairs of a tuple of pairs -/
theorem pairs_rep {F : Hp} (le : Le F H) {ι : List Addr} : ∀ {l : List D} {vs : List V} {ps : List (Ky × D)}, Reps C.K F ι vs l → allSome pairOf l = some ps → ∃ (as : List Addr) (kvs : List (Key × V)), vs = as.map V.ref ∧ Paired (fun p kv => SqT C.K H p [kV kv.1, kv.2]) as kvs ∧ RepKs C.K F ι kvs ps
  | _, _, _, .nil, e => by cases e; exact ⟨[], [], rfl, .nil, .nil⟩
  | d :: l, v :: vs, ps, .cons r rs, e => by
    unfold allSome at e
    cases e1 : pairOf d with
    | none => rw [e1] at e; cases e
    | some p =>
      cases e2 : allSome pairOf l with
      | none => rw [e1, e2] at e; cases e
      | some ps' =>
        rw [e1, e2] at e
        cases e
        obtain ⟨as, kvs, rfl, hp, hk⟩ := pairs_rep le rs e2
        unfold pairOf at e1
        split at e1
        · rename_i a b
          cases e3 : Ky.ofD a with
          | none => rw [e3] at e1; cases e1
          | some k =>
            rw [e3] at e1
            cases e1
            cases r with
            | tup h rr =>
              cases rr with
              | cons ra rr =>
                cases rr with
                | cons rb rr =>
                  cases rr
                  rename_i T va vb
                  have ea : va = kV k.key := by
                    cases a <;> simp [Ky.ofD] at e3
                    · subst e3; cases ra; rfl
                    · subst e3; cases ra; rfl
                  subst ea
                  exact ⟨T :: as, (k.key, vb) :: kvs, rfl, .cons (le.sqT h.sq) hp, .cons rb hk⟩
        · cases e1
theorem RepKs.merge {F : Hp} {ι : List Addr} : ∀ {ps : List (Ky × D)} {kvs : List (Key × V)} {acc : List (Ky × D)} {bs : List (Key × V)}, RepKs C.K F ι kvs ps → RepKs C.K F ι bs acc →
    RepKs C.K F ι (mergeK bs kvs) (ps.foldl (fun m p => TD.putK p.1 p.2 m) acc)
  | _, _, _, _, .nil, r => r
  | _, _, _, _, .cons (k := k) h t, r => by
    have := RepKs.merge t (r.put (k := k) h)
    exact this
theorem bi_dict (hK : X.K = C.K) (hc : X.calm = true) : CallR X (.type "dict") (rB C .dict) := by
  intro pins s σ H xs us Q I r h
  obtain ⟨v, d, w, S, W, σ', own, rfl, wd, sv, af⟩ := bi_one h fun ds S hd => by
    match ds, hd with
    | [], _ => rfl
    | [d], hd => exact absurd rfl (hd d)
    | [_, _], _ => rfl
    | _ :: _ :: _ :: _, _ => rfl
  cases d <;> try exact af.elim
  rename_i l
  obtain ⟨p, vs, rfl, h1, r1⟩ := sv.tupAt wd.le
  have af : After C W σ' w H own (M.bind (M.of (allSome pairOf l)) (fun ps => M.ret (.dct (dictOf ps))) S) Q := af
  cases e : allSome pairOf l with
  | none => rw [e] at af; exact af.elim
  | some ps =>
    rw [e] at af
    obtain ⟨as, kvs, rfl, hp, hk⟩ := pairs_rep wd.le r1 e
    refine call_dictT hc pins s σ H _ us Q I r ⟨p, as, kvs, rfl, by rw [hK]; exact h1, by rw [hK]; exact hp, fun t ht => ?_⟩
    exact After.new af wd ht (.dct upd_same ((RepKs.merge hk .nil).mono (Le.new (wd.le.free ht)) List.prefix_rfl))
end
end TD
end
section
set_option Elab.async false
set_option linter.all false
/-! sum of a tuple of ints; int of a text of figures. -/
namespace TD
open PySem L2 PySem.Spec
open PyProof.Rows hiding St
section
variable {X : Cx}
def rSumT (K : PySem.W.Frag) : List V → Hp → VK → Prop := fun vs H Q => ∃ (a : Addr) (ns : List Int), vs = [V.ref a] ∧ SqT K H a (ns.map V.int) ∧ Q (.int ns.sum) H
theorem cr_sumT (hc : X.calm = true) : CallR X (.builtin "sum") (rSumT X.K) := by
  intro pins s σ H vs us Q I r h
  obtain ⟨a, ns, rfl, hs, q⟩ := h
  obtain ⟨its, rv, hl, _⟩ := I.tuple hs
  rw [Vals.ref1 r]
  have hi := rv.ints
  obtain ⟨xs, hx⟩ := hi.allInts.items
  have hn : PySem.numsOf its.toArray.toList = ns := by rw [show its.toArray.toList = its from rfl, hi.numsOf]
  have hl1 : s.heap.IsTuple a its.toArray := hl
  rw [hx] at hl1 hn
  rw [PySem.nums_intItems] at hn
  refine PySem.W.ktm_sumG (I.ok.hd hc) hl1 fun h' tk t' hk => ?_
  rw [PySem.preSum_eq, List.take_of_length_le (by simp), hn]
  exact ⟨.int _, H, I.kept hk, ⟨_, rfl⟩, q⟩
end
theorem digits_fold : ∀ (s : Sx) (ds : List Nat) (a : Nat), allSome digit? s = some ds → PySem.NumText.AllDigits s ∧ s.foldl (fun acc c => acc * 10 + (c - 48)) a = ds.foldl (fun a d => a * 10 + d) a
  | [], ds, a, h => by
    simp only [allSome, Option.some.injEq] at h
    subst h
    exact ⟨fun c hc => by simp at hc, rfl⟩
  | c :: s, ds, a, h => by
    simp only [allSome] at h
    cases h1 : digit? c with
    | none => rw [h1] at h; simp at h
    | some d =>
      cases h2 : allSome digit? s with
      | none => rw [h1, h2] at h; simp at h
      | some r =>
        rw [h1, h2] at h
        simp only [Option.some.injEq] at h
        subst h
        unfold digit? at h1
        split at h1
        · rename_i hd
          cases h1
          obtain ⟨i1, i2⟩ := digits_fold s r (a * 10 + (c - 48)) h2
          exact ⟨fun x hx => (List.mem_cons.mp hx).elim (fun e => e ▸ hd) (i1 x), i2⟩
        · cases h1
theorem int_read {s : Sx} {n : Nat} (h : readNat s = some n) (hl : s.length ≤ 4300) : PySem.intText? (toS s) = some (n : Int) := by
  cases s with
  | nil => simp [readNat] at h
  | cons c r =>
    simp only [readNat] at h
    cases e : allSome digit? (c :: r) with
    | none => rw [e] at h; simp at h
    | some ds =>
      rw [e] at h
      simp only [Option.map_some, Option.some.injEq] at h
      obtain ⟨i1, i2⟩ := digits_fold (c :: r) ds 0 e
      have := PySem.intText_digits (x := toS (c :: r)) (by rw [toS_cps]; exact i1) (by rw [toS_cps]; simp) (by rw [toS_len]; exact hl)
      rw [this, toS_cps]
      unfold PySem.NumText.digitsVal
      rw [i2, h]
end TD
end
section
set_option Elab.async false
set_option linter.all false
set_option maxRecDepth 100000
/-! Built-in functions: int, min, max, sorted, sum, all, any. -/
namespace TD
open PySem L2 PySem.Spec
open PyProof.Rows hiding St

mutual
theorem reads_D {h : Heap} : ∀ (a b : D) (v : Value) (as bs : List Addr) (n m : Nat), a.okN n = true → b.okN m = true → Reads h v (toPy a) as → Reads h v (toPy b) bs → a = b
  | .non, b, v, as, bs, n, m, _, hb, r, r' => by
    simp only [toPy] at r
    cases r
    cases b <;> simp only [toPy] at r' <;> first | rfl | (cases m <;> simp [D.okN] at hb; done) | cases r'
  | .bl i, b, v, as, bs, n, m, _, hb, r, r' => by
    simp only [toPy] at r
    cases r
    cases b <;> simp only [toPy] at r' <;> first | (cases r'; rfl) | cases r' | (cases m <;> simp [D.okN] at hb)
  | .int i, b, v, as, bs, n, m, _, hb, r, r' => by
    simp only [toPy] at r
    cases r
    cases b <;> simp only [toPy] at r' <;> first | (cases r'; rfl) | cases r' | (cases m <;> simp [D.okN] at hb)
  | .str i, b, v, as, bs, n, m, _, hb, r, r' => by
    simp only [toPy] at r
    generalize e : toS i = z at r
    cases r
    cases b <;> simp only [toPy] at r' <;> first | (generalize e' : toS _ = z' at r'; cases r'; rw [toS_inj (e.trans e'.symm)]) | cases r' | (cases m <;> simp [D.okN] at hb)
  | .tup l, b, v, as, bs, 0, m, ha, hb, r, r' => by simp [D.okN] at ha
  | .lst l, b, v, as, bs, 0, m, ha, hb, r, r' => by simp [D.okN] at ha
  | .tup l, b, v, as, bs, n + 1, m, ha, hb, r, r' => by
    simp only [toPy] at r
    cases b <;> simp only [toPy] at r' <;> first | (cases m <;> simp [D.okN] at hb; done) | skip
    case tup l' =>
      cases m with
      | zero => simp [D.okN] at hb
      | succ m =>
        cases r with
        | tuple h1 h2 h3 h4 =>
          cases r' with
          | tuple k1 k2 k3 k4 =>
            rw [h1] at k1; cases k1
            rw [h3] at k3; cases k3
            rw [readss_D l l' _ _ _ n m (by simpa only [D.okN] using ha) (by simpa only [D.okN] using hb) h4 k4]
    case lst l' =>
      cases r with
      | tuple h1 h2 h3 h4 =>
        cases r' with
        | list k1 k2 k3 k4 =>
          rw [h1] at k1; cases k1
          have e := h2.symm.trans k2
          injection e with e
          exact absurd e (by decide)
    all_goals (cases r; cases r')
  | .lst l, b, v, as, bs, n + 1, m, ha, hb, r, r' => by
    simp only [toPy] at r
    cases b <;> simp only [toPy] at r' <;> first | (cases m <;> simp [D.okN] at hb; done) | skip
    case lst l' =>
      cases m with
      | zero => simp [D.okN] at hb
      | succ m =>
        cases r with
        | list h1 h2 h3 h4 =>
          cases r' with
          | list k1 k2 k3 k4 =>
            rw [h1] at k1; cases k1
            rw [h3] at k3; cases k3
            rw [readss_D l l' _ _ _ n m (by simpa only [D.okN] using ha) (by simpa only [D.okN] using hb) h4 k4]
    case tup l' =>
      cases r with
      | list h1 h2 h3 h4 =>
        cases r' with
        | tuple k1 k2 k3 k4 =>
          rw [h1] at k1; cases k1
          have e := h2.symm.trans k2
          injection e with e
          exact absurd e (by decide)
    all_goals (cases r; cases r')
  | .dct l, b, v, as, bs, n, m, ha, hb, r, r' => by cases n <;> simp [D.okN] at ha
  | .obj l, b, v, as, bs, n, m, ha, hb, r, r' => by cases n <;> simp [D.okN] at ha
theorem readss_D {h : Heap} : ∀ (a b : List D) (v : List Value) (as bs : List Addr) (n m : Nat), a.all (D.okN n) = true → b.all (D.okN m) = true → ReadsAll h v (toPys a) as → ReadsAll h v (toPys b) bs → a = b
  | [], b, v, as, bs, n, m, _, _, r, r' => by
    simp only [toPys] at r
    cases r
    cases b with
    | nil => rfl
    | cons x b => simp only [toPys] at r'; cases r'
  | x :: a, b, v, as, bs, n, m, ha, hb, r, r' => by
    simp only [toPys] at r
    cases r with
    | cons h1 h2 =>
      cases b with
      | nil => simp only [toPys] at r'; cases r'
      | cons y b =>
        simp only [toPys] at r'
        cases r' with
        | cons k1 k2 =>
          simp only [List.all_cons, Bool.and_eq_true] at ha hb
          rw [reads_D x y _ _ _ n m ha.1 hb.1 h1 k1, readss_D a b _ _ _ n m ha.2 hb.2 h2 k2]
end

section
variable {X : Cx} {C : Cs} {pins : List (Addr × Obj)} {σ : L2.St} {H : Hp} {s : Shared} {w : Wl}
theorem bi_int : CallR X (.type "int") (rB C .int) := by
  intro pins s σ H xs us Q I r h
  obtain ⟨v, d, w, S, W, σ', own, rfl, wd, sv, af⟩ := bi_one h fun ds S hd => by
    match ds, hd with
    | [], _ => rfl
    | [d], hd => exact absurd rfl (hd d)
    | [_, _], _ => rfl
    | _ :: _ :: _ :: _, _ => rfl
  cases d <;> try exact af.elim
  case bl i =>
    have e := sv.bl
    subst e
    exact call_int1 pins s σ H _ us Q I r (.inr ⟨i, rfl, by cases i <;> exact After.val af wd (.int _)⟩)
  case int i =>
    have e := sv.int
    subst e
    exact call_int1 pins s σ H _ us Q I r (.inl ⟨i, rfl, After.val af wd (.int _)⟩)
  case str i =>
    have e := sv.str
    subst e
    have af : After C W σ' w H own (M.bind (M.ask (decide (i.length ≤ 9))) (fun _ => M.bind (M.of (readNat i)) fun n => M.ret (.int n)) S) Q := af
    unfold M.ask at af
    split at af
    · rename_i hl
      have hl := of_decide_eq_true hl
      cases e : readNat i with
      | none => rw [e] at af; exact af.elim
      | some n =>
        rw [e] at af
        exact call_int_str pins s σ H _ us Q I r ⟨_, _, rfl, int_read e (by omega), by rw [toS_len]; omega, After.val af wd (.int _)⟩
    · exact af.elim

/-! ### the least, the greatest -/
theorem alike_all {l : List D} (h : allAlike l = true) {x y : D} (hx : x ∈ l) (hy : y ∈ l) : x.alike y = true := List.all_eq_true.mp (List.all_eq_true.mp h x hx) y hy
theorem sortable_of {l : List D} (h : sortable l = true) : allAlike l = true ∧ plains l = true ∧ ∀ x ∈ l, x.isNon = false := by
  simp only [sortable, Bool.and_eq_true] at h
  exact ⟨h.1.1, h.1.2, fun x hx => by simpa using List.all_eq_true.mp h.2 x hx⟩
theorem isNon_py {x : D} (h : x.isNon = false) (p : x.plain = true) : toPy x ≠ .none := by
  cases x <;> simp [toPy, D.isNon, D.plain, D.okN] at h p ⊢
theorem alikeAll_py {l : List D} (h : sortable l = true) : PySem.W.AlikeAll (l.map toPy) := by
  obtain ⟨h1, h2, h3⟩ := sortable_of h
  refine ⟨fun a ha b hb => ?_, fun a ha => ?_⟩
  · obtain ⟨x, hx, rfl⟩ := List.mem_map.mp ha
    obtain ⟨y, hy, rfl⟩ := List.mem_map.mp hb
    exact alike_py x y (alike_all h1 hx hy)
  · obtain ⟨x, hx, rfl⟩ := List.mem_map.mp ha
    exact isNon_py (h3 x hx) (plain_mem h2 hx)
theorem lt_py' {l : List D} (h : sortable l = true) {x y : D} (hx : x ∈ l) (hy : y ∈ l) : PySem.W.dataLt (toPy x) (toPy y) = x.lt y := by
  obtain ⟨h1, h2, h3⟩ := sortable_of h
  exact lt_py x y 30 30 (plain_mem h2 hx) (plain_mem h2 hy) (alike_all h1 hx hy)
theorem minD_mem : ∀ (l : List D) (x : D), minD x l ∈ x :: l
  | [], x => by simp [minD]
  | y :: l, x => by
    show minD (if y.lt x then y else x) l ∈ _
    have := minD_mem l (if y.lt x then y else x)
    by_cases h : y.lt x = true
    · rw [if_pos h] at this ⊢
      exact List.mem_cons_of_mem _ this
    · rw [if_neg h] at this ⊢
      rcases List.mem_cons.mp this with e | e
      · rw [e]; exact List.mem_cons_self
      · exact List.mem_cons_of_mem _ (List.mem_cons_of_mem _ e)
theorem maxD_mem : ∀ (l : List D) (x : D), maxD x l ∈ x :: l
  | [], x => by simp [maxD]
  | y :: l, x => by
    show maxD (if x.lt y then y else x) l ∈ _
    have := maxD_mem l (if x.lt y then y else x)
    by_cases h : x.lt y = true
    · rw [if_pos h] at this ⊢
      exact List.mem_cons_of_mem _ this
    · rw [if_neg h] at this ⊢
      rcases List.mem_cons.mp this with e | e
      · rw [e]; exact List.mem_cons_self
      · exact List.mem_cons_of_mem _ (List.mem_cons_of_mem _ e)
theorem minD_py {L : List D} (h : sortable L = true) : ∀ (l : List D) (x : D), x ∈ L → (∀ y ∈ l, y ∈ L) → PySem.W.minD (toPy x) (l.map toPy) = toPy (minD x l)
  | [], x, _, _ => rfl
  | y :: l, x, hx, hl => by
    show PySem.W.minD (if PySem.W.dataLt (toPy y) (toPy x) then toPy y else toPy x) (l.map toPy) = toPy (minD (if y.lt x then y else x) l)
    rw [lt_py' h (hl y (by simp)) hx]
    by_cases g : y.lt x = true
    · rw [if_pos g, if_pos g]; exact minD_py h l y (hl y (by simp)) fun z hz => hl z (by simp [hz])
    · rw [if_neg g, if_neg g]; exact minD_py h l x hx fun z hz => hl z (by simp [hz])
theorem maxD_py {L : List D} (h : sortable L = true) : ∀ (l : List D) (x : D), x ∈ L → (∀ y ∈ l, y ∈ L) → PySem.W.maxD (toPy x) (l.map toPy) = toPy (maxD x l)
  | [], x, _, _ => rfl
  | y :: l, x, hx, hl => by
    show PySem.W.maxD (if PySem.W.dataLt (toPy x) (toPy y) then toPy y else toPy x) (l.map toPy) = toPy (maxD (if x.lt y then y else x) l)
    rw [lt_py' h hx (hl y (by simp))]
    by_cases g : x.lt y = true
    · rw [if_pos g, if_pos g]; exact maxD_py h l y (hl y (by simp)) fun z hz => hl z (by simp [hz])
    · rw [if_neg g, if_neg g]; exact maxD_py h l x hx fun z hz => hl z (by simp [hz])
theorem depthAll_le : ∀ (l : List D) (n : Nat), l.all (D.okN n) = true → PyData.depthAll (l.map toPy) ≤ n
  | [], n, _ => by simp [PyData.depthAll]
  | x :: l, n, h => by
    simp only [List.all_cons, Bool.and_eq_true] at h
    simp only [List.map_cons, PyData.depthAll]
    exact Nat.max_le.mpr ⟨depth_le x n h.1, depthAll_le l n h.2⟩
/-- what stands for an item -/
theorem at_item {l : List D} {vs : List V} {us : List Value} {i : Nat} {u : Value} {d : D} {h' : Heap} {bs : List Addr} (I : L2.Inv X pins σ H s) (hK : X.K = C.K) (le : Le w.F H) (r : Reps C.K w.F w.ι vs l) (rv : Vals vs us) (hp : plains l = true) (hd : d ∈ l)
    (hu : us[i]? = some u) (rd : Reads h' u (toPy d) bs) (k : ∀ b o, s.heap.get? b = some o → h'.get? b = some o) : ∃ v, RelV v u ∧ Rep C.K w.F w.ι v d := by
  have hlt : i < vs.length := by
    rw [rv.length]
    exact (List.getElem?_eq_some_iff.mp hu).1
  obtain ⟨u', e1, e2⟩ := rv.get (i := i) (x := vs[i]) (by simp [hlt])
  rw [hu] at e1; cases e1
  obtain ⟨d', e3, e4⟩ := r.get (i := i) (v := vs[i]) (by simp [hlt])
  have hd' : d' ∈ l := List.mem_of_getElem? e3
  obtain ⟨as, ra⟩ := Dp.reads I (toPy d') _ _ (by rw [hK]; exact e4.dp le (plain_mem hp hd')) e2
  have := reads_D d' d u as bs 30 30 (plain_mem hp hd') (plain_mem hp hd) (PySem.W.reads_keeps k ra) rd
  rw [← this]
  exact ⟨_, e2, e4⟩
theorem bi_min (hK : X.K = C.K) (hc : X.calm = true) (hu : X.A.units + 64 < cLine) : CallR X (.builtin "min") (rB C .min) := by
  intro pins s σ H xs us Q I r h
  obtain ⟨v, d, w, S, W, σ', own, rfl, wd, sv, af⟩ := bi_one h fun ds S hd => by
    match ds, hd with
    | [], _ => rfl
    | [d], hd => exact absurd rfl (hd d)
    | [_, _], _ => rfl
    | _ :: _ :: _ :: _, _ => rfl
  obtain ⟨x, l, rfl⟩ : ∃ x l, d = .lst (x :: l) := by
    cases d with
    | lst l =>
      cases l with
      | nil => exact af.elim
      | cons x l => exact ⟨x, l, rfl⟩
    | _ => exact af.elim
  obtain ⟨g, af⟩ := After.asked af
  obtain ⟨p, vs, rfl, h1, r1⟩ := sv.lst wd.le
  obtain ⟨u, eu, rx⟩ := vals1 r
  subst eu
  cases rx
  obtain ⟨its, rv, pl, hz⟩ := I.list (xs := vs) (by rw [hK]; exact h1)
  obtain ⟨_, hp, _⟩ := sortable_of g
  obtain ⟨as, ra⟩ := Dp.readsAll I (toPys (x :: l)) vs its (by rw [hK]; exact r1.dp wd.le hp) rv
  rw [toPys_map] at ra
  refine PySem.W.min_list_data (vs := its.toArray) (x := toPy x) (xs := l.map toPy) (I.ok.hd hc) pl.isList ra (alikeAll_py g) ?_ fun i v h' tk bs hi rd k => ?_
  · have := depthAll_le (x :: l) 30 hp
    rw [List.map_cons] at this
    omega
  · rw [minD_py g l x (by simp) (fun y hy => by simp [hy])] at rd
    obtain ⟨v', e1, e2⟩ := at_item I hK wd.le r1 rv hp (minD_mem l x) (by simpa using hi) rd k
    exact ⟨v', H, I.kept k, e1, After.val af wd e2⟩
theorem bi_max (hK : X.K = C.K) (hc : X.calm = true) (hu : X.A.units + 64 < cLine) : CallR X (.builtin "max") (rB C .max) := by
  intro pins s σ H xs us Q I r h
  obtain ⟨v, d, w, S, W, σ', own, rfl, wd, sv, af⟩ := bi_one h fun ds S hd => by
    match ds, hd with
    | [], _ => rfl
    | [d], hd => exact absurd rfl (hd d)
    | [_, _], _ => rfl
    | _ :: _ :: _ :: _, _ => rfl
  obtain ⟨x, l, rfl⟩ : ∃ x l, d = .lst (x :: l) := by
    cases d with
    | lst l =>
      cases l with
      | nil => exact af.elim
      | cons x l => exact ⟨x, l, rfl⟩
    | _ => exact af.elim
  obtain ⟨g, af⟩ := After.asked af
  obtain ⟨p, vs, rfl, h1, r1⟩ := sv.lst wd.le
  obtain ⟨u, eu, rx⟩ := vals1 r
  subst eu
  cases rx
  obtain ⟨its, rv, pl, hz⟩ := I.list (xs := vs) (by rw [hK]; exact h1)
  obtain ⟨_, hp, _⟩ := sortable_of g
  obtain ⟨as, ra⟩ := Dp.readsAll I (toPys (x :: l)) vs its (by rw [hK]; exact r1.dp wd.le hp) rv
  rw [toPys_map] at ra
  refine PySem.W.max_list_data (vs := its.toArray) (x := toPy x) (xs := l.map toPy) (I.ok.hd hc) pl.isList ra (alikeAll_py g) ?_ fun i v h' tk bs hi rd k => ?_
  · have := depthAll_le (x :: l) 30 hp
    rw [List.map_cons] at this
    omega
  · rw [maxD_py g l x (by simp) (fun y hy => by simp [hy])] at rd
    obtain ⟨v', e1, e2⟩ := at_item I hK wd.le r1 rv hp (maxD_mem l x) (by simpa using hi) rd k
    exact ⟨v', H, I.kept k, e1, After.val af wd e2⟩
end
end TD
end
section
set_option Elab.async false
set_option linter.all false
set_option autoImplicit false
set_option maxRecDepth 100000
/-! Sorting tuples some of which are empty. -/
namespace TD
open PySem PySem.Calls PyProof.Rows PySem.W PySem.SeqAt
section
variable {A : Around} {s : Shared}
/-- tuple's own __lt__ called -/
theorem tupLtCall {prog : Program} {w : World} {E Q : Value → Shared → Prop} {x y : Addr} {us vs : Array Value} {e r : Nat → Bool} (hx : s.heap.IsTuple x us) (hy : s.heap.IsTuple y vs)
    (he : ∀ j (h1 : j < us.size) (h2 : j < vs.size), EqAt A.in1 s us[j] vs[j] (e j)) (hr : ∀ j (h1 : j < us.size) (h2 : j < vs.size), e j = false → RcLt A.in1 s us[j] vs[j] (r j))
    (h : Q (.bool (firstLt e r (decide (us.size < vs.size)) (List.range (min us.size vs.size)))) s) : wpAny (model prog w) A (call (.builtin "tuple.__lt__") [.ref x, .ref y]) Q E s := by
  obtain ⟨⟨c1, q1, t1, z1⟩, o1, k1, m1, d1⟩ := id hx
  obtain ⟨⟨c2, q2, t2, z2⟩, o2, k2, m2, d2⟩ := id hy
  simp only at k1 d1 k2 d2
  subst k1 d1 k2 d2
  exact call_meets F.slot_tuple_lt ⟨_, o1, rfl⟩ F.entry_tuple_lt (F.args_tuple_lt_2 _ _) (PySem.SeqAt.tuple_ltAt x y us vs m1 m2 q1 q2 z1 z2 e r) ⟨o1, o2, he, hr, h⟩
end
section
variable {prog : Program} {w : World} {A : Around} {E : Value → Shared → Prop} {s : Shared}
theorem tupLtOne {xs ys : List PyData} {a b : Value} {as bs : List Addr} {Q : Bool → Shared → Prop} (ra : Reads s.heap a (.tuple xs) as) (rb : Reads s.heap b (.tuple ys) bs) (h : PySem.W.alike (.tuple xs) (.tuple ys) = true)
    (hu : A.units + min (PyData.tuple xs).depth (PyData.tuple ys).depth < cLine) (hq : Q (PySem.W.dataLt (.tuple xs) (.tuple ys)) s) : wpAny (model prog w) A (oneLt' true a b) Q E s := by
  have al : PySem.W.alikeAll xs ys = true := by simpa [PySem.W.alike] using h
  cases ra with
  | @tuple l o us n _ as1 a1 a2 a3 a4 =>
    cases rb with
    | @tuple l' o' vs n' _ bs1 b1 b2 b3 b4 =>
      have z1 : us.size = xs.length := by simpa using SeqAt.ReadsAll.length _ _ _ a4
      have z2 : vs.size = ys.length := by simpa using SeqAt.ReadsAll.length _ _ _ b4
      rw [PySem.W.dataLt_tuple, ← firstLt_toks xs ys al, ← z1, ← z2] at hq
      rw [oneLt'_eq, if_pos rfl]
      refine wpAny_bind (wpAny_cRoomFor (SeqAt.room_here hu) ?_)
      refine wpAny_bind (wpAny_callSpecialIfBound?_slot (T := "tuple") ⟨_, a1, a2⟩ F.slot_tuple_lt (tupLtCall (e := pairEq xs ys) (r := fun j => PySem.W.dataLt (xs.getD j .none) (ys.getD j .none)) ⟨_, a1, a2, _, a3⟩ ⟨_, b1, b2, _, b3⟩ (fun j j1 j2 => ?_) (fun j j1 j2 hj => ?_) ?_))
      · have q := eqAt_alikeAll xs ys A.in1 s us.toList vs.toList _ _ a4 b4 al (SeqAt.room_in hu) j (by simpa using j1) (by simpa using j2)
        simpa using q
      · have q := rcLt_alikeAll xs ys A.in1 s us.toList vs.toList _ _ a4 b4 al (SeqAt.room_in hu) j (by simpa using j1) (by simpa using j2) hj
        simpa using q
      · exact wpAny_truthy_bool hq
/-- is it a tuple with an item -/
def neT : PyData → Bool
  | .tuple (_ :: _) => true
  | _ => false
theorem firsts_tup {M : Model} {E : Value → Shared → Prop} : ∀ {vs : List Value} {ds : List PyData} {Q : List (Option Value) → Shared → Prop}, EachIs (fun v d => ∃ as, Reads s.heap v d as) vs ds → (∀ d ∈ ds, ∃ xs, d = .tuple xs) →
    (∀ bs : List (Option Value), bs.map Option.isSome = ds.map neT → Q bs s) → wpAny M A (vs.mapM firstOfTuple') Q E s
  | _, _, _, .nil, _, h => by rw [List.mapM_nil]; exact wpAny_pure (h [] rfl)
  | v :: vs, d :: ds, Q, .cons ⟨as, r⟩ t, ht, h => by
    obtain ⟨xs, rfl⟩ := ht d (List.mem_cons_self ..)
    have hb : ∀ b : Option Value, b.isSome = neT (.tuple xs) → wpAny M A (vs.mapM firstOfTuple') (fun bs s' => wpAny M A (pure (b :: bs)) Q E s') E s := fun b eb =>
      firsts_tup (Q := fun bs s' => wpAny M A (pure (b :: bs)) Q E s') t (fun d hd => ht d (List.mem_cons_of_mem _ hd)) fun bs ebs => wpAny_pure (h (b :: bs) (by rw [List.map_cons, List.map_cons, eb, ebs]))
    rw [List.mapM_cons]
    refine wpAny_bind ?_
    rw [kas_first_eq]
    cases r with
    | @tuple l o us n _ as1 a1 a2 a3 a4 =>
      refine wpAny_bind (Looks.here (show Looks M s.heap (typeOf (.ref l)) o.cls from (Looks.ld a1).andThen .now) ?_)
      rw [a2, if_neg (by first | decide | simp)]
      refine wpAny_bind (listItems_at a1 a3 (wpAny_pure (wpAny_bind (hb _ ?_))))
      have z1 : us.size = xs.length := by simpa using SeqAt.ReadsAll.length _ _ _ a4
      cases xs with
      | nil =>
        have : us[0]? = none := by simp at z1 ⊢; omega
        rw [this]; rfl
      | cons x r =>
        have : 0 < us.size := by rw [z1]; simp
        simp [this, neT]
theorem types_tup {M : Model} {vs : List Value} {ds : List PyData} (e : EachIs (fun v d => ∃ as, Reads s.heap v d as) vs ds) (ht : ∀ d ∈ ds, ∃ xs, d = .tuple xs) : ∀ v ∈ vs, Looks M s.heap (typeOf v) (.type "tuple") := fun v hv => by
  obtain ⟨d, hd, as, r⟩ := e.left v hv
  obtain ⟨xs, rfl⟩ := ht d hd
  exact looks_reads r
theorem kindGen {M : Model} {E : Value → Shared → Prop} {vs : List Value} {d0 : PyData} {ds : List PyData} {Q : SortKind → Shared → Prop} (e : EachIs (fun v d => ∃ as, Reads s.heap v d as) vs (d0 :: ds)) (ht : ∀ d ∈ d0 :: ds, ∃ xs, d = .tuple xs)
    (h0 : neT d0 = true) (h1 : ∃ d ∈ ds, neT d = false) (h : Q general' s) : wpAny M A (keyKind' vs.toArray) Q E s := by
  rw [keyKind'_eq, List.mapM_toArray, map_eq_pure_bind]
  refine wpAny_bind (wpAny_bind (firsts_tup e ht fun bs eb => wpAny_pure ?_))
  cases bs with
  | nil => simp at eb
  | cons b bs =>
    simp only [List.map_cons, List.cons.injEq] at eb
    have hall : ((b :: bs).toArray.all fun x => x.isSome) = false := by
      obtain ⟨d, hd, z⟩ := h1
      rw [Bool.eq_false_iff]
      intro q
      simp only [List.all_toArray, List.all_eq_true] at q
      have hm : false ∈ bs.map Option.isSome := by rw [eb.2]; exact List.mem_map.mpr ⟨d, hd, z⟩
      obtain ⟨c, hc, ec⟩ := List.mem_map.mp hm
      have := q c (List.mem_cons_of_mem _ hc)
      rw [ec] at this; cases this
    rw [hall]
    have hb0 : (((b :: bs).toArray[0]?).bind id).isSome = true := by
      simp [eb.1, h0]
    rw [if_neg (by simp), if_pos hb0]
    exact wpAny_pure h
theorem kindOne {M : Model} {E : Value → Shared → Prop} {vs : List Value} {d0 : PyData} {ds : List PyData} {Q : SortKind → Shared → Prop} (e : EachIs (fun v d => ∃ as, Reads s.heap v d as) vs (d0 :: ds)) (ht : ∀ d ∈ d0 :: ds, ∃ xs, d = .tuple xs)
    (h0 : neT d0 = false) (h : Q oneType' s) : wpAny M A (keyKind' vs.toArray) Q E s := by
  have hT := types_tup (M := M) e ht
  rw [keyKind'_eq, List.mapM_toArray, map_eq_pure_bind]
  refine wpAny_bind (wpAny_bind (firsts_tup e ht fun bs eb => wpAny_pure ?_))
  cases bs with
  | nil => simp at eb
  | cons b bs =>
    simp only [List.map_cons, List.cons.injEq] at eb
    have hb : b = none := by
      cases b with
      | none => rfl
      | some x => rw [h0] at eb; simp at eb
    subst hb
    rw [if_neg (by simp), if_neg (by simp)]
    cases e with
    | cons r t =>
      rename_i v vs
      rw [oneTypeOnly'_eq, List.mapM_toArray, map_eq_pure_bind]
      refine wpAny_bind (wpAny_bind (wpAny_bind (kas_mapM (r := Value.type "tuple") _ (fun v hv Q' hq => (hT v hv).here hq) (wpAny_pure ?_))))
      have q1 : ((List.map (fun _ => Value.type "tuple") (v :: vs)).toArray.all fun x => x == Value.type "tuple") = true := by
        rw [List.all_toArray, List.all_map, List.all_eq_true]
        exact fun _ _ => rfl
      have q0 : (List.map (fun _ => Value.type "tuple") (v :: vs)).toArray[0]? = some (Value.type "tuple") := by simp
      rw [q0]
      simp only [q1, if_true]
      exact wpAny_pure (wpAny_pure h)
/-- tuples, empty ones among them -/
theorem sortsTups {vs : List Value} {ds : List PyData} (e : EachIs (fun v d => ∃ as, Reads s.heap v d as) vs ds) (hal : AllAlike ds) (ht : ∀ d ∈ ds, ∃ xs, d = .tuple xs) (hu : ∀ d, d ∈ ds → A.units + d.depth < cLine) : SortsAt prog w A s (dataKind s.heap ds) vs := by
  by_cases hne : ∀ d ∈ ds, neT d = true
  · refine SortsAt.data e hal (.inl fun d hd => ?_) hu
    have h1 := hne d hd
    obtain ⟨xs, rfl⟩ := ht d hd
    cases xs with
    | nil => cases h1
    | cons x r => exact ⟨x, r, rfl⟩
  · have room : ∀ {d d' : PyData}, d ∈ ds → A.units + min d.depth d'.depth < cLine := fun {d d'} hd => Nat.lt_of_le_of_lt (Nat.add_le_add_left (Nat.min_le_left _ _) _) (hu d hd)
    refine ⟨fun v hv => ?_, ?_⟩
    · obtain ⟨d, hd, as, r⟩ := e.left v hv
      exact ⟨_, dataKind_some hal hd r⟩
    · cases ds with
      | nil => exact absurd (fun d hd => by simp at hd) hne
      | cons d0 ds =>
        cases z : neT d0 with
        | true =>
          refine ⟨general', ?_, fun _ E Q hq => kindGen e ht z ?_ hq⟩
          · intro E x y a b Q ha hb hq
            obtain ⟨d, as, hd, ra, rfl⟩ := dataKind_inv ha
            obtain ⟨d', as', hd', rb, rfl⟩ := dataKind_inv hb
            show wpAny (model prog w) A (oneLt' false x y) Q E s
            refine oneLt_alike (fun q => by cases q) ra rb (hal d hd d' hd') ?_ (room hd) hq
            obtain ⟨xs, rfl⟩ := ht d hd
            exact fun q => by cases q
          · have : ¬ ∀ d ∈ ds, neT d = true := fun q => hne fun d hd => (List.mem_cons.mp hd).elim (fun e => e ▸ z) (q d)
            simp only [Classical.not_forall, Bool.not_eq_true] at this
            obtain ⟨d, hd, q⟩ := this
            exact ⟨d, hd, q⟩
        | false =>
          refine ⟨oneType', ?_, fun _ E Q hq => kindOne e ht z hq⟩
          intro E x y a b Q ha hb hq
          obtain ⟨d, as, hd, ra, rfl⟩ := dataKind_inv ha
          obtain ⟨d', as', hd', rb, rfl⟩ := dataKind_inv hb
          rw [keyLt'_oneType]
          obtain ⟨xs, rfl⟩ := ht d hd
          obtain ⟨ys, rfl⟩ := ht d' hd'
          exact tupLtOne ra rb (hal _ hd _ hd') (room hd) hq
end
section
variable {β : Type} {prog : Program} {w : World} {A : Around} {E : Value → Shared → Prop} {s : Shared} {vs : List Value} {bs : List β} {enc : β → PyData} {R : Value → β → Prop}
theorem sortedTups {l : Addr} {Q : Value → Shared → Prop} (hl : s.heap.IsList l vs.toArray) (e : EachIs R vs bs) (er : EachIs (fun v b => ∃ as, Reads s.heap v (enc b) as) vs bs) (hal : AllAlike (bs.map enc)) (ht : ∀ d ∈ bs.map enc, ∃ xs, d = .tuple xs) (hL : bs.length ≤ sizeLine)
    (hu : ∀ b, b ∈ bs → A.units + 2 + (enc b).depth < cLine) (h : ∀ out, out.length = bs.length → EachIs R out (bs.mergeSort (dataLe false enc)) → Q (.ref (s.heap.objs.size + 1)) { s with heap := sortedAll s.heap vs (List.toArray out) }) :
    wpAny (model prog w) A (call (.builtin "sorted") [.ref l]) Q E s := by
  have e2 : EachIs (fun v b => ∃ as, Reads (sortingHeap (copyHeap s.heap vs) (s.heap.objs.size + 1) vs) v (enc b) as) vs bs := er.mono fun _ _ ⟨as, r⟩ => ⟨as, PyProof.Rows.Reads.keeps (fun _ _ => sorting_copy_old) r⟩
  exact sorted_vals hl (sortsTups (s := { s with heap := sortingHeap (copyHeap s.heap vs) (s.heap.objs.size + 1) vs }) (each_map (R := fun v d => ∃ as, Reads (sortingHeap (copyHeap s.heap vs) (s.heap.objs.size + 1) vs) v d as) enc e2) hal ht (bound_map hu)) (by rw [e.length]; exact hL)
    (h _ (by rw [sortVals_length false rfl]; exact e.length) (sortVals_data false e e2 hal))
end
end TD
end
section
set_option Elab.async false
set_option linter.all false
set_option maxRecDepth 100000
/-! Built-in functions: sorted, sum, all, any. -/
namespace TD
open PySem L2 PySem.Spec
open PyProof.Rows hiding St

section
variable {X : Cx} {C : Cs} {pins : List (Addr × Obj)} {σ : L2.St} {H : Hp} {s : Shared} {w : Wl}
theorem each_reps {F : Hp} {ι : List Addr} : ∀ {us : List Value} {ds : List D}, PySem.W.EachIs (fun u d => ∃ v, RelV v u ∧ Rep C.K F ι v d) us ds → ∃ vs, Vals vs us ∧ Reps C.K F ι vs ds
  | _, _, .nil => ⟨[], .nil, .nil⟩
  | _, _, .cons ⟨v, h1, h2⟩ t => by
    obtain ⟨vs, a, b⟩ := each_reps t
    exact ⟨v :: vs, .cons h1 a, .cons h2 b⟩
theorem reps_each {F : Hp} {ι : List Addr} : ∀ {vs : List V} {us : List Value} {ds : List D}, Vals vs us → Reps C.K F ι vs ds → PySem.W.EachIs (fun u d => ∃ v, RelV v u ∧ Rep C.K F ι v d) us ds
  | _, _, _, .nil, .nil => .nil
  | _, _, _, .cons h1 t1, .cons h2 t2 => .cons ⟨_, h1, h2⟩ (reps_each t1 t2)
theorem sortD_py {l : List D} (h : sortable l = true) : l.mergeSort (PySem.W.dataLe false toPy) = sortD l := by
  have := List.map_mergeSort (r := PySem.W.dataLe false toPy) (s := fun a b => !b.lt a) (f := id) (l := l) fun a ha b hb => by
    rw [PySem.W.dataLe_eq]
    show (!PySem.W.dataLt (toPy b) (toPy a)) = _
    rw [lt_py' h hb ha]
    rfl
  simpa [sortD] using this
theorem sortOk_of {l : List D} (h : sortOk l = true) : sortable l = true ∧ ((∀ d ∈ l.map toPy, ∃ xs, d = .tuple xs) ∨ PySem.W.Sortable (l.map toPy)) := by
  simp only [sortOk, Bool.and_eq_true, Bool.or_eq_true, List.all_eq_true] at h
  refine ⟨h.1, ?_⟩
  rcases h.2 with k | k
  · left
    intro d hd
    obtain ⟨x, hx, rfl⟩ := List.mem_map.mp hd
    have := k x hx
    cases x <;> simp [D.isTup] at this
    rename_i l
    exact ⟨toPys l, by simp [toPy]⟩
  · right
    right
    intro d hd
    obtain ⟨x, hx, rfl⟩ := List.mem_map.mp hd
    obtain ⟨_, h2, h3⟩ := sortable_of h.1
    refine ⟨isNon_py (h3 x hx) (plain_mem h2 hx), fun xs e => ?_⟩
    have := k x hx
    cases x <;> simp [toPy, D.isTup] at e this
theorem cr_sortD (hK : X.K = C.K) (hu : X.A.units + 64 < cLine) : CallR X (.builtin "sorted") (fun xs H Q => ∃ p vs l w S, xs = [.ref p] ∧ SqL C.K H p vs ∧ Wd C S w H ∧ Reps C.K w.F w.ι vs l ∧ sortOk l = true ∧ fits l = true ∧ ∀ q us, H q = none → Reps C.K w.F w.ι us (sortD l) → Q (.ref q) (upd H q (.lst us))) := by
  intro pins s σ H xs us Q I r h
  obtain ⟨p, vs, l, w, S, rfl, h1, wd, r1, g, gf, q⟩ := h
  obtain ⟨u, eu, rx⟩ := vals1 r
  subst eu
  cases rx
  obtain ⟨its, rv, pl, hz⟩ := I.list (xs := vs) (by rw [hK]; exact h1)
  obtain ⟨g1, g2⟩ := sortOk_of g
  obtain ⟨ha, hp, _⟩ := sortable_of g1
  obtain ⟨as, ra⟩ := Dp.readsAll I (toPys l) vs its (by rw [hK]; exact r1.dp wd.le hp) rv
  rw [toPys_map] at ra
  have al := alikeAll_py g1
  have hd : ∀ b, b ∈ l → X.A.units + 2 + (toPy b).depth < cLine := fun b hb => by
    have := depth_le b 30 (plain_mem hp hb)
    omega
  have hend : ∀ out : List Value, out.length = l.length → PySem.W.EachIs (fun u d => ∃ v, RelV v u ∧ Rep C.K w.F w.ι v d) out (l.mergeSort (PySem.W.dataLe false toPy)) →
      EP X pins σ Q (.ref (s.heap.objs.size + 1)) { s with heap := PyProof.Rows.sortedAll s.heap its (List.toArray out) } := fun out hl ho => by
    rw [sortD_py g1] at ho
    obtain ⟨ws, hv, hr⟩ := each_reps ho
    obtain ⟨ep, he'⟩ := PyProof.Rows.sortedAll_at s.heap its out.toArray
    have hlen : ws.length ≤ sizeLine := by
      rw [hv.length, hl]; exact fits_line gf
    exact ⟨.ref _, upd H (s.heap.objs.size + 1) (.lst ws), I.laid (t' := s.toks) (fun _ _ => PyProof.Rows.sortedAll_old) (Nat.le_succ _) ⟨hlen, out, ep, hv, he'⟩, rfl, q _ ws (I.hok.fresh (Nat.le_succ _)) hr⟩
  rcases g2 with g2 | g2
  · exact sortedTups (vs := its) (bs := l) (enc := toPy) (R := fun u d => ∃ v, RelV v u ∧ Rep C.K w.F w.ι v d) pl.isList (reps_each rv r1) (PySem.W.readsAll_each toPy ra) (fun d hd d' hd' => al.1 d hd d' hd') g2 (Nat.le_trans (fits_len gf) (by decide)) hd hend
  · exact PySem.W.sorted_data (vs := its) (bs := l) (enc := toPy) (R := fun u d => ∃ v, RelV v u ∧ Rep C.K w.F w.ι v d) pl.isList (reps_each rv r1) (PySem.W.readsAll_each toPy ra) (fun d hd d' hd' => al.1 d hd d' hd') g2 (Nat.le_trans (fits_len gf) (by decide)) hd hend

/-- rising texts -/
theorem rising_pair : ∀ (l : List Str) (p : Str), risingS p l = true → (p :: l).Pairwise fun a b => a.cps.toList ≤ b.cps.toList
  | [], p, _ => by simp
  | x :: l, p, h => by
    simp only [risingS, Bool.and_eq_true, Bool.not_eq_true', ltCps_eq, decide_eq_false_iff_not] at h
    have ih := rising_pair l x h.2
    have hp : p.cps.toList ≤ x.cps.toList := List.not_lt.mp h.1
    refine List.Pairwise.cons (fun a ha => ?_) ih
    rcases List.mem_cons.mp ha with e | e
    · rw [e]; exact hp
    · exact List.le_trans hp ((List.pairwise_cons.mp ih).1 a e)
theorem sortedS_pair {l : List Str} (h : sortedS l = true) : l.Pairwise fun a b => a.cps.toList ≤ b.cps.toList := by
  cases l with
  | nil => exact .nil
  | cons x l => exact rising_pair l x h
theorem sortedS_eq {ks : List Sx} {ys : List Str} (hp : ys.Perm (ks.map toS)) (hs : sortedS ys = true) : ys = (ks.mergeSort fun a b => decide (a ≤ b)).map toS := by
  have h1 := sortedS_pair hs
  have hp2 : (ys.map fun y => y.cps.toList).Perm ks := by
    have := hp.map fun y : Str => y.cps.toList
    simpa [Function.comp_def, toS_cps] using this
  have e : (ys.map fun y => y.cps.toList) = ks.mergeSort fun a b => decide (a ≤ b) := by
    refine List.Perm.eq_of_pairwise (le := fun a b : Sx => a ≤ b) (fun a b _ _ h k => List.le_antisymm h k) ?_ ?_ (hp2.trans (List.mergeSort_perm _ _).symm)
    · rw [List.pairwise_map]; exact h1
    · have := List.pairwise_mergeSort (le := fun a b : Sx => decide (a ≤ b)) (fun a b c h k => by simp only [decide_eq_true_eq] at *; exact List.le_trans h k) (fun a b => by simp only [Bool.or_eq_true, decide_eq_true_eq]; exact List.le_total a b) ks
      exact this.imp fun h => by simpa using h
  have := congrArg (List.map toS) e
  rw [List.map_map] at this
  have e2 : (toS ∘ fun y : Str => y.cps.toList) = id := funext fun y => toS_of y
  rw [e2, List.map_id] at this
  exact this
theorem txt_keys {F : Hp} {ι : List Addr} : ∀ {kvs : List (Key × V)} {l : List (Ky × D)} {ks : List Sx}, RepKs C.K F ι kvs l → allSome Ky.txt l = some ks → kvs.map (·.1) = ks.map (fun x => Sum.inr (toS x))
  | _, _, _, .nil, e => by cases e; rfl
  | _, _, ks, .cons (k := k) h t, e => by
    unfold allSome at e
    cases k with
    | kI i => simp only [Ky.txt] at e; cases e
    | kS x =>
      simp only [Ky.txt] at e
      split at e
      · rename_i y ys e1 e2
        cases e1
        cases e
        rw [List.map_cons, List.map_cons, txt_keys t e2]
        rfl
      · cases e
theorem strs_rep {K : PySem.W.Frag} {F : Hp} {ι : List Addr} : ∀ ks : List Sx, Reps K F ι (ks.map fun x => V.str (toS x)) (ks.map D.str)
  | [] => .nil
  | x :: ks => .cons (.str x) (strs_rep ks)
theorem bi_sorted (hK : X.K = C.K) (hc : X.calm = true) (hu : X.A.units + 64 < cLine) : CallR X (.builtin "sorted") (rB C .sorted) := by
  intro pins s σ H xs us Q I r h
  obtain ⟨v, d, w, S, W, σ', own, rfl, wd, sv, af⟩ := bi_one h fun ds S hd => by
    match ds, hd with
    | [], _ => rfl
    | [d], hd => exact absurd rfl (hd d)
    | [_, _], _ => rfl
    | _ :: _ :: _ :: _, _ => rfl
  cases d <;> try exact af.elim
  case lst l =>
    obtain ⟨g, af⟩ := After.asked af
    obtain ⟨g1, g2⟩ := ask_and g
    obtain ⟨p, vs, rfl, h1, r1⟩ := sv.lst wd.le
    exact cr_sortD (C := C) hK hu pins s σ H _ us Q I r ⟨p, vs, l, w, S, rfl, h1, wd, r1, g1, g2, fun q us hq hr => After.new af wd hq (.lst (.inl (.inl upd_same)) (hr.mono (Le.new (wd.le.free hq)) List.prefix_rfl))⟩
  case dct l =>
    have af : After C W σ' w H own (M.bind (M.of (allSome Ky.txt l)) (fun k => M.bind (M.ask (decide (k.length < 64))) fun _ => M.ret (.lst ((k.mergeSort fun a b => decide (a ≤ b)).map .str))) S) Q := af
    cases e : allSome Ky.txt l with
    | none => rw [e] at af; exact af.elim
    | some ks =>
      rw [e] at af
      have af : After C W σ' w H own (M.bind (M.ask (decide (ks.length < 64))) (fun _ => M.ret (.lst ((ks.mergeSort fun a b => decide (a ≤ b)).map .str))) S) Q := af
      obtain ⟨g, af⟩ := After.ask (α := Unit) (k := M.ret (.lst ((ks.mergeSort fun a b => decide (a ≤ b)).map .str))) af
      obtain ⟨p, kvs, rfl, h1, r1⟩ := sv.dct wd.le
      refine call_sortedD hc pins s σ H _ us Q I r ⟨p, kvs, ks.map toS, rfl, .inl h1, by rw [txt_keys r1 e, List.map_map]; rfl, by rw [List.length_map]; exact of_decide_eq_true g, fun ys q hp hs hq => ?_⟩
      have ey := sortedS_eq hp hs
      subst ey
      refine After.new af wd hq (.lst (.inl (.inl upd_same)) ?_)
      rw [List.map_map]
      exact strs_rep _
theorem bi_sum (hK : X.K = C.K) (hc : X.calm = true) : CallR X (.builtin "sum") (rB C .sum) := by
  intro pins s σ H xs us Q I r h
  obtain ⟨v, d, w, S, W, σ', own, rfl, wd, sv, af⟩ := bi_one h fun ds S hd => by
    match ds, hd with
    | [], _ => rfl
    | [d], hd => exact absurd rfl (hd d)
    | [_, _], _ => rfl
    | _ :: _ :: _ :: _, _ => rfl
  cases d <;> try exact af.elim
  case lst l =>
    have af : After C W σ' w H own (M.bind (M.of (allSome intOf l)) (fun ns => M.ret (.int ns.sum)) S) Q := af
    cases e : allSome intOf l with
    | none => rw [e] at af; exact af.elim
    | some ns =>
      rw [e] at af
      obtain ⟨p, vs, rfl, h1, r1⟩ := sv.lst wd.le
      have ev := r1.ints e
      subst ev
      exact cr_sum hc pins s σ H _ us Q I r ⟨p, ns, rfl, by rw [hK]; exact h1, After.val af wd (.int _)⟩
  case tup l =>
    have af : After C W σ' w H own (M.bind (M.of (allSome intOf l)) (fun ns => M.ret (.int ns.sum)) S) Q := af
    cases e : allSome intOf l with
    | none => rw [e] at af; exact af.elim
    | some ns =>
      rw [e] at af
      obtain ⟨p, vs, rfl, h1, r1⟩ := sv.tup wd.le
      have ev := r1.ints e
      subst ev
      exact cr_sumT hc pins s σ H _ us Q I r ⟨p, ns, rfl, by rw [hK]; exact h1, After.val af wd (.int _)⟩
theorem bi_all (hK : X.K = C.K) (hc : X.calm = true) : CallR X (.builtin "all") (rB C .all) := by
  intro pins s σ H xs us Q I r h
  obtain ⟨v, d, w, S, W, σ', own, rfl, wd, sv, af⟩ := bi_one h fun ds S hd => by
    match ds, hd with
    | [], _ => rfl
    | [d], hd => exact absurd rfl (hd d)
    | [_, _], _ => rfl
    | _ :: _ :: _ :: _, _ => rfl
  cases d <;> try exact af.elim
  rename_i l
  have af : After C W σ' w H own (M.bind (M.of (allSome blOf l)) (fun ns => M.ret (.bl (ns.all id))) S) Q := af
  cases e : allSome blOf l with
  | none => rw [e] at af; exact af.elim
  | some ns =>
    rw [e] at af
    obtain ⟨p, vs, rfl, h1, r1⟩ := sv.lst wd.le
    have ev := r1.bls e
    subst ev
    exact cr_all hc pins s σ H _ us Q I r ⟨p, ns, rfl, by rw [hK]; exact h1, After.val af wd (.bl _)⟩
theorem bi_any (hK : X.K = C.K) (hc : X.calm = true) : CallR X (.builtin "any") (rB C .any) := by
  intro pins s σ H xs us Q I r h
  obtain ⟨v, d, w, S, W, σ', own, rfl, wd, sv, af⟩ := bi_one h fun ds S hd => by
    match ds, hd with
    | [], _ => rfl
    | [d], hd => exact absurd rfl (hd d)
    | [_, _], _ => rfl
    | _ :: _ :: _ :: _, _ => rfl
  cases d <;> try exact af.elim
  rename_i l
  have af : After C W σ' w H own (M.bind (M.of (allSome blOf l)) (fun ns => M.ret (.bl (ns.any id))) S) Q := af
  cases e : allSome blOf l with
  | none => rw [e] at af; exact af.elim
  | some ns =>
    rw [e] at af
    obtain ⟨p, vs, rfl, h1, r1⟩ := sv.lst wd.le
    have ev := r1.bls e
    subst ev
    exact cr_any hc pins s σ H _ us Q I r ⟨p, ns, rfl, by rw [hK]; exact h1, After.val af wd (.bl _)⟩
end
end TD
end
section
set_option Elab.async false
set_option linter.all false
set_option maxRecDepth 100000
/-! Methods; calls of built-in functions as expressions. -/
namespace TD
open PySem L2 PySem.Spec
open PyProof.Rows hiding St

section
variable {X : Cx} {C : Cs} {c : Ck} {kk : Nat} {W : WX} {fn : Fns} {pos : Pos} {a o : Expr} {es : List Expr} {x y : E} {l : Es}
theorem de_biB (h : XOk C c kk W X) {nm : Str} {id : String} {b : Bi} {p : Pos} (hc : CallR X (.builtin id) (rB C b)) (hg : glB c.sc nm = true) (hm : C.mg nm = none) (hv : bootBuiltins nm = some (.builtin id)) (ha : PA X (a :: es) (tEs C W fn l)) (hn : nm ≠ "__name__") (hdb : (nm == ("__debug__" : Str)) = false)
    (he : starEach (a :: es) X.env = (false, eval a X.env) :: starEach es X.env) (hpl : (backTo pos (starEach es X.env)).any (·.1) = false) : PE X (.Call (.Name nm p) (a :: es) [] pos) (tE C W fn (.bi b l)) := by
  refine PE.wk (pe_callB hc (gl_of h hg) (by rw [h.mg]; exact hm) hv ha hn hdb he hpl) fun σ H Q ⟨w0, H0, ρ, S, w, R, af⟩ => ?_
  have af : Aft C W σ w H (M.bind (evs fn ρ l) (fun ds => b.run ds) S) (Got C false Q) := by
    have := af
    unfold After at this
    unfold ev at this
    exact this
  exact stepL R af fun ds S1 vs H1 w1 x1 R1 see af1 => ⟨ds, w1, S1, W, σ, false, R1.wd, see, af1⟩
theorem de_biT (h : XOk C c kk W X) {nm : Str} {id : String} {b : Bi} {p : Pos} (hc : CallR X (.type id) (rB C b)) (hg : glB c.sc nm = true) (hm : C.mg nm = none) (hv : bootBuiltins nm = some (.type id)) (ha : PA X (a :: es) (tEs C W fn l)) (hn : nm ≠ "__name__") (hdb : (nm == ("__debug__" : Str)) = false)
    (he : starEach (a :: es) X.env = (false, eval a X.env) :: starEach es X.env) (hpl : (backTo pos (starEach es X.env)).any (·.1) = false) : PE X (.Call (.Name nm p) (a :: es) [] pos) (tE C W fn (.bi b l)) := by
  refine PE.wk (pe_callTy hc (gl_of h hg) (by rw [h.mg]; exact hm) hv ha hn hdb he hpl) fun σ H Q ⟨w0, H0, ρ, S, w, R, af⟩ => ?_
  have af : Aft C W σ w H (M.bind (evs fn ρ l) (fun ds => b.run ds) S) (Got C false Q) := by
    have := af
    unfold After at this
    unfold ev at this
    exact this
  exact stepL R af fun ds S1 vs H1 w1 x1 R1 see af1 => ⟨ds, w1, S1, W, σ, false, R1.wd, see, af1⟩

/-! ### methods of texts -/
def rM (C : Cs) (m : Me) : V → List V → Hp → VK → Prop := fun x vs H Q => ∃ d ds w S W σ own, Wd C S w H ∧ See C w H x d ∧ Sees C w H vs ds ∧ After C W σ w H own (m.run d ds S) Q
def Me.ofStr : Me → Bool
  | .index => false
  | .get => false
  | .lcount => false
  | _ => true
theorem recv_str {m : Me} {d : D} (h : m.ofStr = true) (r : m.recv d = true) : ∃ s, d = .str s := by
  cases m <;> cases d <;> simp [Me.ofStr, Me.recv] at h r ⊢
theorem de_me1 (h : XOk C c kk W X) {nm : Str} {id : String} {m : Me} {ap : Pos} (hm : m.ofStr = true) (slot : Slot "str" nm id) (ty : typeOf (.builtin id) = pure (.type "method_descriptor")) (rule : MtR X id (rM C m)) (ho : PE X o (tE C W fn x)) (ha : PE X a (tE C W fn y))
    (hs : starEach [a] X.env = [(false, eval a X.env)]) (hbase : attributeBase o nm X.env (eval o X.env) = eval o X.env) (hline : (ap.endLine == pos.line) = true) : PE X (.Call (.Attribute o nm ap) [a] [] pos) (tE C W fn (.me m x (.cons y .nil))) := by
  refine PE.wk (pe_m1 slot ty rule ho ha hs hbase hline) fun σ H Q ⟨w0, H0, ρ, S, w, R, af⟩ => ?_
  have af : Aft C W σ w H (M.bind (ev fn ρ x) (fun d => M.bind (M.ask (m.recv d)) fun _ => M.bind (M.bind (ev fn ρ y) fun e => M.ret [e]) fun ds => m.run d ds) S) (Got C false Q) := by
    have := af
    unfold After at this
    unfold ev at this
    have e : evs fn ρ (.cons y .nil) = M.bind (ev fn ρ y) fun e => M.ret [e] := by
      unfold evs
      unfold evs
      rfl
    rw [e] at this
    exact this
  refine step R af fun d S1 v H1 w1 x1 R1 see _ af1 => ?_
  cases g : m.recv d with
  | false => rw [g] at af1; exact af1.elim
  | true =>
  rw [g] at af1
  obtain ⟨s, rfl⟩ := recv_str hm g
  have ev := see.str
  subst ev
  have af1 : Aft C W σ w1 H1 (M.bind (M.bind (TD.ev fn ρ y) fun e => M.ret [e]) (fun ds => m.run (.str s) ds) S1) (Got C false Q) := af1
  rw [bind_assoc] at af1
  refine ⟨⟨_, rfl⟩, ?_⟩
  exact step R1 af1 fun e S2 u H2 w2 x2 R2 see2 _ af2 => ⟨.str s, [e], w2, S2, W, σ, false, R2.wd, see.ext x2, ⟨see2, trivial⟩, af2⟩
theorem joinS_py (s : Sx) : ∀ xs : List Sx, Str.join (toS s) (xs.map toS) = toS (joinS s xs)
  | [] => rfl
  | [x] => rfl
  | x :: y :: xs => by
    show toS x ++ toS s ++ Str.join (toS s) ((y :: xs).map toS) = _
    rw [joinS_py s (y :: xs), toS_app, toS_app]
    rfl
theorem join_py (s : Sx) (xs : List Sx) : Txt.join (toS s) (xs.map toS) = toS (joinS s xs) := by
  show Builtin.Str.glued (toS s) (xs.map toS) = _
  rw [PySem.StrLaws.glued_eq_join]
  exact joinS_py s xs
theorem signs_py (t : Sx) : PyProof.Rows.signs (toS t) = (t.map fun c => [c]).map toS := by
  unfold PyProof.Rows.signs
  rw [toS_cps, List.map_map]
  rfl
theorem me_join (hK : X.K = C.K) (hc : X.calm = true) : MtR X "str.join" (rM C .join) := by
  intro pins s σ H x xs v us Q I rx rs h
  obtain ⟨d, ds, w, S, W, σ', own, wd, sx, ss, af⟩ := h
  obtain ⟨z, e, rfl, rfl⟩ : ∃ z e, d = .str z ∧ ds = [e] := by
    match ds, af with
    | [], af => exact af.elim
    | [e], af => cases d <;> cases e <;> first | exact ⟨_, _, rfl, rfl⟩ | exact af.elim
    | [_, _], af => cases d <;> exact af.elim
    | _ :: _ :: _ :: _, af => exact af.elim
  have ez := sx.str
  subst ez
  obtain ⟨v1, rfl, s1⟩ := sees1 ss
  cases e <;> try exact af.elim
  case str t =>
    have et := s1.str
    subst et
    obtain ⟨g, af⟩ := After.asked af
    have g := of_decide_eq_true g
    obtain ⟨tk, rfl⟩ := rx
    obtain ⟨u1, rfl, tk1, rfl⟩ := vals1 rs
    refine SC.joinStr (I.ok.hd hc) ?_ fun h' k t' hk => ?_
    · refine joinOk_of ?_
      rw [PyProof.Rows.signs_sumLen, PyProof.Rows.signs_length, toS_len, toS_len]
      have : maxLen ≤ 16777216 := by decide
      omega
    · rw [signs_py, join_py]
      exact ⟨.str (toS (joinS z (t.map fun c => [c]))), H, I.kept hk, ⟨_, rfl⟩, After.val af wd (.str _)⟩
  case lst l =>
  obtain ⟨p, vs, rfl, h1, r1⟩ := s1.lst wd.le
  have af : After C W σ' w H own (M.bind (M.of (allSome strOf l)) (fun xs => M.bind (M.ask (decide ((xs.map (·.length)).sum + xs.length * z.length ≤ maxLen))) fun _ => M.ret (.str (joinS z xs))) S) Q := af
  cases e : allSome strOf l with
  | none => rw [e] at af; exact af.elim
  | some xs =>
    rw [e] at af
    obtain ⟨g, af⟩ := After.ask (α := Unit) (k := M.ret (.str (joinS z xs))) af
    have ev := r1.strs e
    subst ev
    refine mt_join pins s σ H _ _ v us Q I rx rs ⟨toS z, p, xs.map toS, rfl, rfl, .inl (by rw [hK]; exact h1), ?_, ?_⟩
    · have g := of_decide_eq_true g
      have e1 : ((xs.map toS).map (·.length)).sum = (xs.map (·.length)).sum := by
        rw [List.map_map]
        congr 1
      rw [e1, List.length_map, toS_len]
      exact Nat.le_trans g (by decide)
    · rw [join_py]
      exact After.val af wd (.str _)
end
end TD
end
section
set_option Elab.async false
set_option linter.all false
set_option maxRecDepth 100000
/-! More methods: str.rstrip, str.endswith, str.split, str.count, list.index; isinstance; names out of a list. -/
namespace TD
open PySem L2 PySem.Spec
open PyProof.Rows hiding St
theorem rstrip_py (s : Sx) (c : Nat) : Txt.rstripChars (toS s) (toS [c]) = toS (rstripC c s) := by
  have hg : (toS [c]).cps.contains = fun x => x == c := by
    funext x
    show ([c] : List Nat).toArray.contains x = _
    simp [List.contains_eq_mem]
    by_cases h : x = c <;> simp [h]
  have key : Txt.rstripChars (toS s) (toS [c]) = stripped (toS [c]).cps.contains false true (toS s) := by
    unfold Txt.rstripChars Txt.stripBy
    split
    · rename_i h
      simp only [stripSame, Bool.and_eq_true, beq_iff_eq] at h
      show toS s = Builtin.Str.strSub (toS s) (stripLo _ false (toS s)) (stripHi _ true (toS s) (stripLo _ false (toS s)))
      rw [h.2, h.1]
      unfold Builtin.Str.strSub toS Str.length
      simp
    · rfl
  rw [key, hg]
  unfold stripped stripHi stripLo Builtin.Str.strSub
  simp only [Bool.false_eq_true, if_false, if_true, List.drop_zero]
  unfold rstripC
  have h2 := List.takeWhile_append_dropWhile (p := fun x => x == c) (l := s.reverse)
  have h3 := congrArg List.reverse h2
  rw [List.reverse_append, List.reverse_reverse] at h3
  have h4 := congrArg List.length h2
  rw [List.length_append, List.length_reverse] at h4
  have e : s.length - (s.reverse.takeWhile fun x => x == c).length = (s.reverse.dropWhile fun x => x == c).reverse.length := by
    rw [List.length_reverse]; omega
  have e2 : s.take (s.reverse.dropWhile fun x => x == c).reverse.length = (s.reverse.dropWhile fun x => x == c).reverse := by
    have key : ∀ A B : Sx, A ++ B = s → s.take A.length = A := by
      rintro A B rfl
      simp
    exact key _ _ h3
  show (⟨(s.toArray).extract 0 (s.toArray.size - (s.reverse.takeWhile fun x => x == c).length)⟩ : Str) = ⟨(s.reverse.dropWhile fun x => x == c).reverse.toArray⟩
  rw [List.size_toArray, e]
  congr 1
  rw [List.extract_toArray]
  simp only [List.extract_eq_take_drop, List.drop_zero, Nat.sub_zero]
  rw [e2]
section
variable {X : Cx} {C : Cs} {c : Ck} {kk : Nat} {W : WX} {fn : Fns} {pos : Pos} {a o : Expr} {es : List Expr} {x y : E} {l : Es}
/-- a method of a text, of one text -/
theorem me_one {m : Me} {x : V} {xs : List V} {H : Hp} {Q : VK} (hm : m.ofStr = true) (h : rM C m x xs H Q) (hb : ∀ d ds S, (∀ z e, d = .str z → ds = [.str e] → False) → m.run d ds S = .bad) :
    ∃ z t S w W σ own, Wd C S w H ∧ x = .str (toS z) ∧ xs = [.str (toS t)] ∧ After C W σ w H own (m.run1 (.str z) (.str t) S) Q := by
  obtain ⟨d, ds, w, S, W, σ, own, wd, sx, ss, af⟩ := h
  by_cases hd : ∃ z e, d = .str z ∧ ds = [.str e]
  · obtain ⟨z, e, rfl, rfl⟩ := hd
    obtain ⟨v1, rfl, s1⟩ := sees1 ss
    exact ⟨z, e, S, w, W, σ, own, wd, sx.str, by rw [s1.str], af⟩
  · rw [hb d ds S fun z e h1 h2 => hd ⟨z, e, h1, h2⟩] at af
    exact af.elim
theorem me_rstrip : MtR X "str.rstrip" (rM C .rstrip) := by
  intro pins s σ H x xs v us Q I rx rs h
  obtain ⟨z, t, S, w, W, σ', own, wd, rfl, rfl, af⟩ := me_one rfl h fun d ds S hd => by
    match ds, hd with
    | [], _ => rfl
    | [e], hd => cases d <;> cases e <;> first | rfl | exact (hd _ _ rfl rfl).elim
    | [_, _], _ => cases d <;> rfl
    | _ :: _ :: _ :: _, _ => rfl
  match t, af, rs with
  | [], af, _ => exact af.elim
  | [k], af, rs =>
    have af : After C W σ' w H own (M.bind (M.ask (fits z)) (fun _ => M.ret (.str (rstripC k z))) S) Q := af
    obtain ⟨g, af⟩ := After.ask (α := Unit) (k := M.ret (.str (rstripC k z))) af
    refine mt_rstripChars pins s σ H _ _ v us Q I rx rs ⟨toS z, toS [k], rfl, rfl, by rw [toS_len]; exact fits_line g, ?_⟩
    rw [rstrip_py]
    exact After.val af wd (.str _)
  | _ :: _ :: _, af, _ => exact af.elim
theorem du_rstrip (h : XOk C c kk W X) {ap : Pos} (ho : PE X o (tE C W fn x)) (ha : PE X a (tE C W fn y)) (hs : starEach [a] X.env = [(false, eval a X.env)]) (hbase : attributeBase o "rstrip" X.env (eval o X.env) = eval o X.env) (hline : (ap.endLine == pos.line) = true) : PE X (.Call (.Attribute o "rstrip" ap) [a] [] pos) (tE C W fn (.me .rstrip x (.cons y .nil))) :=
  de_me1 h rfl F.slot_str_rstrip F.type_str_rstrip me_rstrip ho ha hs hbase hline
theorem endsw_py (s t : Sx) : Txt.endswith (toS s) (toS t) = t.isSuffixOf s := by
  unfold Txt.endswith Builtin.Str.subAt
  rw [toS_len, toS_len]
  show (decide (0 + t.length ≤ s.length) && (s.toArray.extract (s.length - t.length) (s.length - t.length + t.length) == t.toArray)) = _
  by_cases h : t.length ≤ s.length
  · have e : s.toArray.extract (s.length - t.length) (s.length - t.length + t.length) = (s.drop (s.length - t.length)).toArray := by
      rw [List.extract_toArray]
      simp only [List.extract_eq_take_drop]
      rw [List.take_of_length_le (by rw [List.length_drop]; omega)]
    rw [e]
    by_cases q : s.drop (s.length - t.length) = t
    · have : t <:+ s := ⟨s.take (s.length - t.length), by conv => rhs; rw [← List.take_append_drop (s.length - t.length) s, q]⟩
      rw [List.isSuffixOf_iff_suffix.mpr this, q]
      simp [h]
    · have : ¬ t <:+ s := fun z => by
        obtain ⟨p, rfl⟩ := z
        exact q (by simp)
      have e2 : t.isSuffixOf s = false := by
        cases z : t.isSuffixOf s with
        | false => rfl
        | true => exact absurd (List.isSuffixOf_iff_suffix.mp z) this
      have e3 : ((s.drop (s.length - t.length)).toArray == t.toArray) = false := by
        rw [beq_eq_false_iff_ne]
        intro z
        exact q (by simpa using congrArg Array.toList z)
      rw [e2, e3, Bool.and_false]
  · have : ¬ t <:+ s := fun z => h z.length_le
    have e2 : t.isSuffixOf s = false := by
      cases z : t.isSuffixOf s with
      | false => rfl
      | true => exact absurd (List.isSuffixOf_iff_suffix.mp z) this
    rw [e2, decide_eq_false (by omega), Bool.false_and]
theorem me_endsw : MtR X "str.endswith" (rM C .endswith) := by
  intro pins s σ H x xs v us Q I rx rs h
  obtain ⟨z, t, S, w, W, σ', own, wd, rfl, rfl, af⟩ := me_one rfl h fun d ds S hd => by
    match ds, hd with
    | [], _ => rfl
    | [e], hd => cases d <;> cases e <;> first | rfl | exact (hd _ _ rfl rfl).elim
    | [_, _], _ => cases d <;> rfl
    | _ :: _ :: _ :: _, _ => rfl
  refine mt_endswith pins s σ H _ _ v us Q I rx rs ⟨toS z, toS t, rfl, rfl, ?_⟩
  rw [endsw_py]
  exact After.val af wd (.bl _)
theorem du_endswith (h : XOk C c kk W X) {ap : Pos} (ho : PE X o (tE C W fn x)) (ha : PE X a (tE C W fn y)) (hs : starEach [a] X.env = [(false, eval a X.env)]) (hbase : attributeBase o "endswith" X.env (eval o X.env) = eval o X.env) (hline : (ap.endLine == pos.line) = true) : PE X (.Call (.Attribute o "endswith" ap) [a] [] pos) (tE C W fn (.me .endswith x (.cons y .nil))) :=
  de_me1 h rfl F.slot_str_endswith F.type_str_endswith me_endsw ho ha hs hbase hline
end
end TD
end
section
set_option Elab.async false
set_option linter.all false
set_option maxRecDepth 100000
/-! isinstance; list.index; names out of a list. -/
namespace TD
open PySem L2 PySem.Spec
open PyProof.Rows hiding St
def Ty.name : Ty → String
  | .int => "int"
  | .bool => "bool"
  | .str => "str"
  | .tuple => "tuple"
section
variable {X : Cx} {C : Cs} {c : Ck} {kk : Nat} {W : WX} {fn : Fns} {pos : Pos} {a o : Expr} {es : List Expr} {x y : E} {l : Es} {w : Wl} {H : Hp}
theorem isa_ty {K : PySem.W.Frag} {v : V} {d : D} {t : String} {ty : Ty} (h : TyX K H v (.type t)) (e : kitB t ty.name = some (ty.run d)) : ∃ t u, ClsV (.ty ty.name) u ∧ TyX K H v t ∧ PySem.W.kitOne K t u = some (ty.run d) :=
  ⟨_, _, .ty _, h, kit_ty e⟩
theorem ty_lst {K : PySem.W.Frag} {a : Addr} {vs : List V} (h : SqL K H a vs) : TyX K H (.ref a) (.type "list") := by
  rcases h with (h | ⟨o, h⟩) | ⟨o, its, n, h1, h2, _⟩
  · exact .base (.lst h)
  · exact .base (.frz h)
  · exact .kList h1 h2
theorem ty_tup {K : PySem.W.Frag} {a : Addr} {vs : List V} (h : SqT K H a vs) : TyX K H (.ref a) (.type "tuple") := by
  rcases h with (h | ⟨o, h⟩) | ⟨o, its, n, h1, h2, _⟩
  · exact .base (.tup h)
  · exact .fTuple h
  · exact .kTuple h1 h2
def tyB (n : String) : Ty → Bool
  | .int => n == "int" || n == "bool"
  | .bool => n == "bool"
  | .str => n == "str"
  | .tuple => n == "tuple"
theorem kb_non (ty : Ty) : kitB "NoneType" ty.name = some (tyB "NoneType" ty) := by cases ty <;> decide +kernel
theorem kb_bl (ty : Ty) : kitB "bool" ty.name = some (tyB "bool" ty) := by cases ty <;> decide +kernel
theorem kb_int (ty : Ty) : kitB "int" ty.name = some (tyB "int" ty) := by cases ty <;> decide +kernel
theorem kb_str (ty : Ty) : kitB "str" ty.name = some (tyB "str" ty) := by cases ty <;> decide +kernel
theorem kb_tup (ty : Ty) : kitB "tuple" ty.name = some (tyB "tuple" ty) := by cases ty <;> decide +kernel
theorem kb_lst (ty : Ty) : kitB "list" ty.name = some (tyB "list" ty) := by cases ty <;> decide +kernel
theorem kb_dct (ty : Ty) : kitB "dict" ty.name = some (tyB "dict" ty) := by cases ty <;> decide +kernel
theorem see_isa {v : V} {d : D} (le : Le w.F H) (h : See C w H v d) (ho : d.isObj = false) (ty : Ty) : ∃ t u, ClsV (.ty ty.name) u ∧ TyX C.K H v t ∧ PySem.W.kitOne C.K t u = some (ty.run d) := by
  cases d with
  | non => rw [h.non]; exact isa_ty (.base .non) ((kb_non ty).trans (by cases ty <;> rfl))
  | bl b => rw [h.bl]; exact isa_ty (.base (.bl b)) ((kb_bl ty).trans (by cases ty <;> rfl))
  | int i => rw [h.int]; exact isa_ty (.base (.int i)) ((kb_int ty).trans (by cases ty <;> rfl))
  | str z => rw [h.str]; exact isa_ty (.base (.str _)) ((kb_str ty).trans (by cases ty <;> rfl))
  | tup ds =>
    obtain ⟨p, vs, rfl, h1, _⟩ := h.tup le
    exact isa_ty (ty_tup h1) ((kb_tup ty).trans (by cases ty <;> rfl))
  | lst ds =>
    obtain ⟨p, vs, rfl, h1, _⟩ := h.lst le
    exact isa_ty (ty_lst h1) ((kb_lst ty).trans (by cases ty <;> rfl))
  | dct ds =>
    obtain ⟨p, vs, rfl, h1, _⟩ := h.dct le
    exact isa_ty (.base (.dK h1)) ((kb_dct ty).trans (by cases ty <;> rfl))
  | obj n => cases ho
theorem du_isa (h : XOk C c kk W X) (hg : glB c.sc "isinstance" = true) (hm : C.mg "isinstance" = none) {nm : Str} {p p2 : Pos} {ty : Ty} (hg2 : glB c.sc nm = true) (hm2 : C.mg nm = none) (ha : PE X a (tE C W fn x)) (hv : bootBuiltins nm = some (.type ty.name)) (hd : (nm == ("__debug__" : Str)) = false) (hn : nm ≠ "__name__")
    (he : starEach [a, .Name nm p2] X.env = (false, eval a X.env) :: starEach [.Name nm p2] X.env) (he2 : starEach [.Name nm p2] X.env = (false, eval (.Name nm p2) X.env) :: starEach [] X.env) (hpl : (backTo pos (starEach [.Name nm p2] X.env)).any (·.1) = false) :
    PE X (.Call (.Name "isinstance" p) [a, .Name nm p2] [] pos) (tE C W fn (.isa x ty)) := by
  refine PE.wk (pe_callB call_isi (gl_of h hg) (by rw [h.mg]; exact hm) (by decide +kernel) (pa_cons ha (pa_cons (pe_bltn (v := .ty ty.name) (gl_of h hg2) (by rw [h.mg]; exact hm2) hv rfl hn hd) pa_nil he2) he) (by decide) (by decide) he hpl) fun σ H Q ⟨w0, H0, ρ, S, w, R, af⟩ => ?_
  have af : Aft C W σ w H (M.bind (ev fn ρ x) (fun d => M.bind (M.ask (!d.isObj)) fun _ => M.ret (.bl (ty.run d))) S) (Got C false Q) := by
    have := af
    unfold After at this
    unfold ev at this
    exact this
  refine step R af fun d S1 v H1 w1 x1 R1 see rep af1 => ?_
  cases g : d.isObj with
  | true => rw [g] at af1; exact af1.elim
  | false =>
    rw [g] at af1
    obtain ⟨t, u, k1, k2, k3⟩ := see_isa R1.wd.le see g ty
    refine ⟨v, .ty ty.name, t, u, ty.run d, rfl, k1, by rw [h.K]; exact k2, by rw [h.K]; exact k3, ?_⟩
    exact After.val (own := false) af1 R1.wd (.bl _)
/-! ### names out of a list -/
theorem dg_unl (h : XOk C c kk W X) {r : List Nat} {k : Nat} (hs : PGs X es (gAll r)) (hn : (assignEach es X.env).length = r.length) (hst : (assignEach es X.env).findIdx? (·.1) = none) : PG X (.Tuple es k pos) (gUnl C.K r.length (gAll r)) := by
  have := pg_unl (k := k) (pos := pos) h.calm hs hn hst
  rw [h.K] at this
  exact this
theorem ds_tsetL (h : XOk C c kk W X) {is : List Nat} {e tg : Expr} (hg : PG X tg (gUnl C.K is.length (gAll is))) (he : PE X e (tE C W fn x)) (hs : swapsWithSole [tg] e pos.line X.env = pure false) (hw : swappedStores [tg] e X.env = pure none) (h1 : (assignEach [tg] X.env).map (·.2) = [assign tg X.env]) :
    PS X (.Assign [tg] e pos) (tS C W fn (.tsetL is x)) :=
  PS.wk (ps_asg he hg hs hw h1) fun D σ H ⟨w0, H0, ρ, S, w, R, af⟩ => by
    unfold ex at af
    cases g : isOwn ρ x with
    | true => rw [g] at af; exact af.elim
    | false =>
      rw [g] at af
      refine stepO (D := D) (wb := w) R af fun d S1 v H1 w1 x1 R1 see rep af1 => ?_
      cases d <;> try exact af1.elim
      rename_i ds
      cases q : setAll is ds ρ with
      | none => simp only [q] at af1; exact af1.elim
      | some ρ' =>
        simp only [q] at af1
        cases rep g with
        | lst hS rs => exact ⟨_, _, rfl, R1.wd.le.sqL hS, rs.length.trans (setAll_len _ _ _ _ q), gs_put R1 rs q fun σ' R' _ => af1 H1 w1 σ' R' x1.fg⟩
/-! ### list.index -/
theorem du_index (h : XOk C c kk W X) {ap : Pos} (ho : PE X o (tE C W fn x)) (ha : PE X a (tE C W fn y)) (hs : starEach [a] X.env = [(false, eval a X.env)]) (hbase : attributeBase o "index" X.env (eval o X.env) = eval o X.env) (hline : (ap.endLine == pos.line) = true) : PE X (.Call (.Attribute o "index" ap) [a] [] pos) (tE C W fn (.me .index x (.cons y .nil))) := by
  refine PE.wk (pe_bm PySem.F.plainAttrs_list PySem.F.slot_list_index PySem.F.type_list_index mt_index ho (pa_cons ha pa_nil hs) hbase (few_one hs) hline hs rfl) fun σ H Q ⟨w0, H0, ρ, S, w, R, af⟩ => ?_
  have af : Aft C W σ w H (M.bind (ev fn ρ x) (fun d => M.bind (M.ask (Me.recv .index d)) fun _ => M.bind (M.bind (ev fn ρ y) fun e => M.ret [e]) fun ds => Me.run .index d ds) S) (Got C false Q) := by
    have := af
    unfold After at this
    unfold ev at this
    have e : evs fn ρ (.cons y .nil) = M.bind (ev fn ρ y) fun e => M.ret [e] := by
      unfold evs
      unfold evs
      rfl
    rw [e] at this
    exact this
  refine step R af fun d S1 v H1 w1 x1 R1 see rr af1 => ?_
  clear rr
  cases d <;> try exact af1.elim
  rename_i l
  have af1 : Aft C W σ w1 H1 (M.bind (M.bind (TD.ev fn ρ y) fun e => M.ret [e]) (fun ds => Me.run .index (.lst l) ds) S1) (Got C false Q) := af1
  rw [bind_assoc] at af1
  obtain ⟨p, vs, rfl, hS, rv⟩ := see.lst R1.wd.le
  refine ⟨.inl ⟨rfl, _, by rw [h.K]; exact hS⟩, ?_⟩
  refine step R1 af1 fun e S2 u H2 w2 x2 R2 see2 rr2 af2 => ?_
  clear rr2
  cases e <;> try exact af2.elim
  rename_i z
  obtain ⟨p', vs', e1, hS2, rv2⟩ := (see.ext x2).lst R2.wd.le
  cases e1
  have eu := see2.int
  subst eu
  have af2 : Aft C W σ w2 H2 (M.bind (M.of (allSome intOf l)) (fun ns => M.bind (M.of (ns.findIdx? fun y => y == z)) fun i => M.ret (.int i)) S2) (Got C false Q) := af2
  cases ei : allSome intOf l with
  | none => rw [ei] at af2; exact af2.elim
  | some ns =>
    rw [ei] at af2
    have af2 : Aft C W σ w2 H2 (M.bind (M.of (ns.findIdx? fun y => y == z)) (fun i => M.ret (.int i)) S2) (Got C false Q) := af2
    cases ej : ns.findIdx? fun y => y == z with
    | none => rw [ej] at af2; exact af2.elim
    | some j =>
      rw [ej] at af2
      have e2 := rv2.ints ei
      subst e2
      obtain ⟨hj, q1, q2⟩ := List.findIdx?_eq_some_iff_getElem.mp ej
      refine ⟨p, ns.map V.int, .int z, j, .int z, rfl, rfl, by rw [h.K]; exact hS2, rfl, ?_, ?_, ?_, ?_, ?_⟩
      · rw [List.all_map]; exact List.all_eq_true.mpr fun _ _ => rfl
      · rw [List.getElem?_map, List.getElem?_eq_getElem hj]
        have := beq_iff_eq.mp q1
        rw [this]; rfl
      · simp [eqV]
      · intro m z' hm hz
        rw [List.getElem?_map, List.getElem?_eq_getElem (by omega)] at hz
        cases hz
        have := q2 m hm
        simpa [eqV] using this
      · exact After.val (own := false) af2 R2.wd (.int _)
end
end TD
end
section
set_option Elab.async false
set_option linter.all false
set_option maxRecDepth 100000
/-! `_law_told(lambda: ..)`: what a def without parameters tells, or the class of what it raises. -/
namespace TD
open PySem L2 PySem.Spec
open PyProof.Rows hiding St
/-! ### list.count of flat items -/
def rCnt (K : PySem.W.Frag) : V → List V → Hp → VK → Prop := fun x xs H Q => ∃ (a : Addr) (ys : List V) (y : V), x = V.ref a ∧ xs = [y] ∧ SqL K H a ys ∧ flatV y = true ∧ ys.all flatV = true ∧ Q (.int (ys.countP fun z => eqV z y : Nat)) H
theorem cnt_eqU {y : V} : ∀ {ys : List V} {its : List Value}, Vals ys its → ys.all flatV = true → its.countP (eqU y) = ys.countP fun z => eqV z y
  | _, _, .nil, _ => rfl
  | z :: zs, u :: us, .cons ra ta, fa => by
    rw [List.all_cons, Bool.and_eq_true] at fa
    rw [List.countP_cons, List.countP_cons, cnt_eqU ta fa.2, eqU_of ra fa.1]
theorem mt_cnt {X : Cx} : MtR X "list.count" (rCnt X.K) := by
  intro pins s σ H x xs v us Q I rx rxs h
  obtain ⟨a, ys, y, rfl, rfl, hS, fl, fls, q⟩ := h
  cases rx
  cases rxs with
  | cons rz re =>
    rename_i uz uq
    cases re
    obtain ⟨its, rv, ⟨⟨cl, dd, dat, sl⟩, n, gt, hc, hdn, hd⟩, hlen⟩ := I.list hS
    simp only at hc hd
    subst hc hd
    refine call_meets PySem.F.slot_list_count ⟨_, gt, rfl⟩ PySem.F.entry_list_count (PySem.F.args_list_count_2 _ _)
      (SeqAt.list_countAt a its.toArray n dd sl uz (eqU y)) ⟨gt, fun z hz => mem_eqAt rz fl rv fls z (by simpa using hz), ?_⟩
    have ec : its.toArray.toList.countP (eqU y) = ys.countP fun z => eqV z y := cnt_eqU rv fls
    refine ⟨.int (ys.countP fun z => eqV z y : Nat), H, I.tok _, ⟨s.toks, ?_⟩, q⟩
    show Value.int ((its.toArray.toList.countP (eqU y) : Nat) : Int) s.toks = _
    rw [ec]

/-! ### the classes -/
structure XTab (C : Cs) : Prop where
  c : ∀ i, 1 ≤ i → i ≤ 5 → ExcC C.K (C.exc i)
  t : ∀ i, 1 ≤ i → i ≤ 5 → PySem.W.exmOne C.K (.ref (C.exc i)) (.ref (C.exc 0)) = some true
  v : ∀ i, 1 ≤ i → i ≤ 5 → PySem.W.kitOne C.K (.ref (C.exc i)) (.type "ValueError") = some true
  k : ∀ i j, 1 ≤ i → i ≤ 5 → 1 ≤ j → j ≤ 5 → PySem.W.kitOne C.K (.ref (C.exc i)) (.ref (C.exc j)) = some (i == j)
  g0 : C.mg "TapError" = some (.ref (C.exc 0))
  g1 : C.mg "NoNumber" = some (.ref (C.exc 1))
  g2 : C.mg "NoName" = some (.ref (C.exc 2))
  g3 : C.mg "NoCalls" = some (.ref (C.exc 3))
  g4 : C.mg "NoDeal" = some (.ref (C.exc 4))
  g5 : C.mg "NoText" = some (.ref (C.exc 5))
  gi : C.mg "isinstance" = none
  gv : C.mg "ValueError" = none
def toldSc : Scope := { kind := .function, names := [("_law_deed", .local), ("_law_found", .local), ("e", .local), ("_law_kinds", .local), ("TapError", .globalImplicit), ("isinstance", .globalImplicit), ("NoNumber", .globalImplicit), ("NoName", .globalImplicit),
  ("NoCalls", .globalImplicit), ("NoDeal", .globalImplicit), ("NoText", .globalImplicit), ("ValueError", .globalImplicit)], isGenerator := false, isCoroutine := false, more := [] }
def toldN : List Str := ["_law_deed", "_law_found", "e", "_law_kinds"]
def sTold : Sx := [116, 111, 108, 100]
def sRef : Sx := [114, 101, 102, 117, 115, 101, 100]
/-- what the clause for the caught error does -/
def tSuite (C : Cs) (a : Addr) (cls : Value) (d : Option Addr) : TS := fun D σ H => ∃ (σ0 : L2.St) (c : Nat) (S : Sto) (w : Wl), 1 ≤ c ∧ c ≤ 5 ∧ cls = .ref (C.exc c) ∧ d = none ∧ σ = σ0.set 2 (some (.ref a)) ∧ Wd C S w H ∧
  ∀ σ' H' w' v, Ext w H w' H' → Wd C S w' H' → Rep C.K w'.F w'.ι v (.tup [.str sRef, .int ((c : Int) - 1)]) → σ'[1]? = some (some v) → σ'.length = 4 → D.nx σ' H'
def vList (c : Nat) : List V := [.bl (c == 1), .bl (c == 2), .bl (c == 3), .bl (c == 4), .bl (c == 5)]
theorem count_one : ∀ c, 1 ≤ c → c ≤ 5 → ((vList c).countP fun z => eqV z (.bl true)) = 1 := by
  intro c h1 h2
  rcases (by omega : c = 1 ∨ c = 2 ∨ c = 3 ∨ c = 4 ∨ c = 5) with h | h | h | h | h <;> subst h <;> decide
theorem index_at : ∀ c, 1 ≤ c → c ≤ 5 → (vList c)[c - 1]? = some (.bl true) ∧ ∀ (m : Nat) (z : V), m < c - 1 → (vList c)[m]? = some z → eqV z (.bl true) = false := by
  intro c h1 h2
  refine ⟨?_, fun m z hm hz => ?_⟩
  · rcases (by omega : c = 1 ∨ c = 2 ∨ c = 3 ∨ c = 4 ∨ c = 5) with h | h | h | h | h <;> subst h <;> decide
  · have hm5 : m = 0 ∨ m = 1 ∨ m = 2 ∨ m = 3 := by omega
    rcases (by omega : c = 1 ∨ c = 2 ∨ c = 3 ∨ c = 4 ∨ c = 5) with h | h | h | h | h <;> subst h <;> rcases hm5 with e | e | e | e <;> subst e <;> first | omega | (simp [vList] at hz; subst hz; rfl)
/-- the suite's context -/
structure SuOk (C : Cs) (Xs : Cx) (a : Addr) (c : Nat) : Prop where
  K : Xs.K = C.K
  mg : Xs.mg = C.mg
  N : Xs.N = toldN
  sc : Xs.env.scope = toldSc
  is : CallR Xs (.builtin "isinstance") (rIsE Xs.K (C.exc c) a)
theorem SuOk.gl {C : Cs} {Xs : Cx} {a : Addr} {c : Nat} (O : SuOk C Xs a c) {x : Str} (h : toldSc.names.lookup x = some .globalImplicit) : Gl Xs x := by
  show Xs.env.scope.names.lookup x = _
  rw [O.sc]; exact h
theorem SuOk.vis {C : Cs} {Xs : Cx} {a : Addr} {c : Nat} (O : SuOk C Xs a c) {x : Str} (h : toldSc.names.lookup x = some .local) : Vis Xs.env.scope x := by
  rw [O.sc]; exact .inl h
section
variable {C : Cs} {Xs : Cx} {a : Addr} {c : Nat} {p1 p2 p3 p4 : Pos}
theorem su_is (O : SuOk C Xs a c) (T : XTab C) (h1 : 1 ≤ c) (h5 : c ≤ 5) {j : Nat} (j1 : 1 ≤ j) (j5 : j ≤ 5) {nm : Str} (hg : toldSc.names.lookup nm = some .globalImplicit) (hm : C.mg nm = some (.ref (C.exc j))) (hd : (nm == ("__debug__" : Str)) = false)
    (hs1 : starEach [.Name "e" p2, .Name nm p3] Xs.env = (false, eval (.Name "e" p2) Xs.env) :: starEach [.Name nm p3] Xs.env := by rfl) (hs2 : starEach [.Name nm p3] Xs.env = (false, eval (.Name nm p3) Xs.env) :: starEach [] Xs.env := by rfl) :
    PE Xs (.Call (.Name "isinstance" p1) [.Name "e" p2, .Name nm p3] [] p4) (fun σ H Q => σ[2]? = some (some (.ref a)) ∧ Q (.bl (c == j)) H) := by
  refine PE.wk (pe_callB O.is (O.gl (by decide)) (by rw [O.mg]; exact T.gi) (by decide +kernel) (pa_cons (pe_var (i := 2) (by rw [O.N]; rfl) (O.vis (by decide))) (pa_cons (pe_glob (v := .ref (C.exc j)) (O.gl hg) (by rw [O.mg]; exact hm) rfl hd) pa_nil hs2) hs1) (he := hs1) (hpl := by rw [hs2]; rfl)) fun σ H Q ⟨e, q⟩ => ?_
  exact ⟨_, e, _, _, _, rfl, fun u r => r, by rw [O.K]; exact T.k c j h1 h5 j1 j5, q⟩
theorem su_isV (O : SuOk C Xs a c) (T : XTab C) (h1 : 1 ≤ c) (h5 : c ≤ 5)
    (hs1 : starEach [.Name "e" p2, .Name "ValueError" p3] Xs.env = (false, eval (.Name "e" p2) Xs.env) :: starEach [.Name "ValueError" p3] Xs.env := by rfl) (hs2 : starEach [.Name "ValueError" p3] Xs.env = (false, eval (.Name "ValueError" p3) Xs.env) :: starEach [] Xs.env := by rfl) :
    PE Xs (.Call (.Name "isinstance" p1) [.Name "e" p2, .Name "ValueError" p3] [] p4) (fun σ H Q => σ[2]? = some (some (.ref a)) ∧ Q (.bl true) H) := by
  refine PE.wk (pe_callB O.is (O.gl (by decide)) (by rw [O.mg]; exact T.gi) (by decide +kernel) (pa_cons (pe_var (i := 2) (by rw [O.N]; rfl) (O.vis (by decide))) (pa_cons (pe_bltn (v := .ty "ValueError") (u := .type "ValueError") (O.gl (by decide)) (by rw [O.mg]; exact T.gv) (by decide +kernel) rfl) pa_nil hs2) hs1) (he := hs1) (hpl := by rw [hs2]; rfl)) fun σ H Q ⟨e, q⟩ => ?_
  exact ⟨_, e, _, _, _, rfl, fun u r => r, by rw [O.K]; exact T.v c h1 h5, q⟩

theorem wd_lay {S : Sto} {w : Wl} {H : Hp} {p : Addr} {o : HO} (wd : Wd C S w H) (h : H p = none) : Wd C S w (upd H p o) ∧ Ext w H w (upd H p o) := ⟨wd.grow (Grow.lay wd.le h), (Grow.lay wd.le h).ext⟩
theorem su_all {q1 q2 q3 q4 q5 q6 q7 q8 q9 q10 q11 q12 q13 q14 q15 q16 q17 q18 q19 q20 q21 q22 q23 q24 q25 q26 q27 q28 q29 q30 q31 q32 q33 q34 q35 q36 q37 q39 q40 q41 q42 q43 q44 q45 q46 q47 q49 q50 q51 q52 q53 q54 q55 : Pos} {k1 k2 k3 k4 k5 k6 k7 k8 : Nat}
    (T : XTab C) (d : Option Addr) (cls : Value) (O : ∀ c, 1 ≤ c → c ≤ 5 → cls = .ref (C.exc c) → d = none → SuOk C Xs a c) (hl1 : (q20.endLine == q25.line) = true) (hl2 : (q40.endLine == q42.line) = true) (hl3 : (q50.endLine == q52.line) = true)
    (hw : swapsWithSole [.Name "_law_kinds" q1] (.List [.Call (.Name "isinstance" q2) [.Name "e" q3, .Name "NoNumber" q4] [] q5, .Call (.Name "isinstance" q6) [.Name "e" q7, .Name "NoName" q8] [] q9, .Call (.Name "isinstance" q10) [.Name "e" q11, .Name "NoCalls" q12] [] q13, .Call (.Name "isinstance" q14) [.Name "e" q15, .Name "NoDeal" q16] [] q17] q18) q19.line Xs.env = pure false := by rfl) :
    PSs Xs [
      .Assign [.Name "_law_kinds" q1] (.List [.Call (.Name "isinstance" q2) [.Name "e" q3, .Name "NoNumber" q4] [] q5, .Call (.Name "isinstance" q6) [.Name "e" q7, .Name "NoName" q8] [] q9, .Call (.Name "isinstance" q10) [.Name "e" q11, .Name "NoCalls" q12] [] q13, .Call (.Name "isinstance" q14) [.Name "e" q15, .Name "NoDeal" q16] [] q17] q18) q19,
      .Expr (.Call (.Attribute (.Name "_law_kinds" q21) "append" q20) [.Call (.Name "isinstance" q22) [.Name "e" q23, .Name "NoText" q24] [] q26] [] q25) q27,
      .Assign [.Name "_law_found" q28] (.Tuple [.Constant (.str "refused") k1 q29, .UnaryOp .USub (.Constant (.int 1) k2 q30) q31] k3 q32) q33,
      .If (.BoolOp .And [.Call (.Name "isinstance" q34) [.Name "e" q35, .Name "ValueError" q36] [] q37, .Compare (.Call (.Attribute (.Name "_law_kinds" q39) "count" q40) [.Constant (.bool true) k4 q41] [] q42) [.Eq] [.Constant (.int 1) k5 q43] q44] q45)
        [.Assign [.Name "_law_found" q46] (.Tuple [.Constant (.str "refused") k6 q47, .Call (.Attribute (.Name "_law_kinds" q49) "index" q50) [.Constant (.bool true) k7 q51] [] q52] k8 q53) q54] [] q55]
      (tSuite C a cls d) := by
  refine ⟨fun pins s σ H D I ⟨σ0, c, S, w, h1, h5, ec, ed, es, wd, fin⟩ => ?_⟩
  have Oc := O c h1 h5 ec ed
  have hlen : σ0.length = 4 := by
    have e := I.len
    rw [es, Oc.N, List.length_set] at e
    exact e
  obtain ⟨s0, s1, s2, s3, rfl⟩ : ∃ s0 s1 s2 s3, σ0 = [s0, s1, s2, s3] := by
    match σ0, hlen with
    | [s0, s1, s2, s3], _ => exact ⟨_, _, _, _, rfl⟩
  have es : σ = [s0, s1, some (.ref a), s3] := es
  subst es
  have nd : Xs.N.Nodup := by rw [Oc.N]; decide
  have pgk : ∀ {q : Pos}, PG Xs (.Name "_law_kinds" q) (gName 3) := fun {q} => pg_name nd (by rw [Oc.N]; rfl) (by rw [Oc.sc]; exact .inl (by decide)) (.inr (by rw [Oc.sc]; decide))
  have pgf : ∀ {q : Pos}, PG Xs (.Name "_law_found" q) (gName 1) := fun {q} => pg_name nd (by rw [Oc.N]; rfl) (by rw [Oc.sc]; exact .inl (by decide)) (.inr (by rw [Oc.sc]; decide))
  have vk : ∀ {q : Pos}, PE Xs (.Name "_law_kinds" q) (tVar 3) := fun {q} => pe_var (by rw [Oc.N]; rfl) (Oc.vis (by decide))
  have P := pss_cons (ps_asg (pos := q19) (pe_lst (pos := q18) (pa_cons (su_is (p1 := q2) (p2 := q3) (p3 := q4) (p4 := q5) Oc T h1 h5 (j := 1) (by omega) (by omega) (by decide) T.g1 (by decide)) (pa_cons (su_is (p1 := q6) (p2 := q7) (p3 := q8) (p4 := q9) Oc T h1 h5 (j := 2) (by omega) (by omega) (by decide) T.g2 (by decide)) (pa_cons (su_is (p1 := q10) (p2 := q11) (p3 := q12) (p4 := q13) Oc T h1 h5 (j := 3) (by omega) (by omega) (by decide) T.g3 (by decide)) (pa_cons (su_is (p1 := q14) (p2 := q15) (p3 := q16) (p4 := q17) Oc T h1 h5 (j := 4) (by omega) (by omega) (by decide) T.g4 (by decide)) pa_nil))))) (pgk (q := q1)))
    (pss_cons (ps_expr (pos := q27) (pe_bm PySem.F.plainAttrs_list PySem.F.slot_list_append PySem.F.type_list_append mt_append (apos := q20) (cpos := q25) (vk (q := q21)) (pa_cons (su_is (p1 := q22) (p2 := q23) (p3 := q24) (p4 := q26) Oc T h1 h5 (j := 5) (by omega) (by omega) (by decide) T.g5 (by decide)) pa_nil) rfl rfl hl1 rfl rfl))
    (pss_cons (ps_asg (pos := q33) (pe_tup (pos := q32) (x1 := k3) (pa_cons (pe_str (x := "refused") (j := k1) (pos := q29)) (pa_cons (pe_un (pos := q31) un_neg (pe_int (i := 1) (j := k2) (pos := q30))) pa_nil))) (pgf (q := q28)))
    (pss_one (ps_if (pos := q55) (pw_and (pos := q45) (pt_val (su_isV (p1 := q34) (p2 := q35) (p3 := q36) (p4 := q37) Oc T h1 h5)) (pw_and1 (pt_cmp (pos := q44) (pc_eqI (pe_bm PySem.F.plainAttrs_list PySem.F.slot_list_count PySem.F.type_list_count mt_cnt (apos := q40) (cpos := q42) (vk (q := q39)) (pa_cons (pe_bl (b := true) (j := k4) (pos := q41)) pa_nil) rfl rfl hl2 rfl rfl) (pe_int (i := 1) (j := k5) (pos := q43)))))).pt
      (pss_one (ps_asg (pos := q54) (pe_tupF (pos := q53) (k := k8) (pa_cons (pe_str (x := "refused") (j := k6) (pos := q47)) (pa_cons (pe_bm PySem.F.plainAttrs_list PySem.F.slot_list_index PySem.F.type_list_index mt_index (apos := q50) (cpos := q52) (vk (q := q49)) (pa_cons (pe_bl (b := true) (j := k7) (pos := q51)) pa_nil) rfl rfl hl3 rfl rfl) pa_nil))) (pgf (q := q46)))) pss_nil))))
  refine P.run pins s _ H D I ?_
  refine ⟨rfl, ⟨rfl, ⟨rfl, ⟨rfl, ⟨(by decide : (4 : Nat) ≤ sizeLine), fun l hl => ?_⟩⟩⟩⟩⟩
  obtain ⟨wd1, x1⟩ := wd_lay (o := .lst [.bl (c == 1), .bl (c == 2), .bl (c == 3), .bl (c == 4)]) wd hl
  have fl : w.F l = none := wd.le.free hl
  have ml : l ∉ w.m := fun q => wd.mH l q hl
  refine ⟨.ref l, rfl, .inl ⟨rfl, _, .inl (.inl upd_same)⟩, ⟨rfl, l, _, _, rfl, rfl, upd_same, (by decide : (4 : Nat) < sizeLine), ?_⟩⟩
  have wd2 : Wd C S w (upd (upd H l (.lst [.bl (c == 1), .bl (c == 2), .bl (c == 3), .bl (c == 4)])) l (.lst (vList c))) := wd1.up1 fl ml fun x e => by rw [upd_same] at e; cases e; exact trivial
  have x2 : Ext w H w (upd (upd H l (.lst [.bl (c == 1), .bl (c == 2), .bl (c == 3), .bl (c == 4)])) l (.lst (vList c))) := x1.up1 (NT.of hl)
  have g2 : upd (upd H l (.lst [.bl (c == 1), .bl (c == 2), .bl (c == 3), .bl (c == 4)])) l (.lst (vList c)) l = some (.lst (vList c)) := upd_same
  show tSeq _ _ D _ (upd (upd H l (.lst [.bl (c == 1), .bl (c == 2), .bl (c == 3), .bl (c == 4)])) l (.lst (vList c)))
  generalize upd (upd H l (.lst [.bl (c == 1), .bl (c == 2), .bl (c == 3), .bl (c == 4)])) l (.lst (vList c)) = H2 at wd2 x2 g2
  refine ⟨1, rfl, by decide, fun p1 hp1 => ?_⟩
  obtain ⟨wd3, x3⟩ := wd_lay (o := .tup [.str "refused", .int (-1)]) wd2 hp1
  have g3 : upd H2 p1 (.tup [.str "refused", .int (-1)]) l = some (.lst (vList c)) := by rw [upd_ne (ne_of_none g2 hp1)]; exact g2
  replace x3 := x2.trans x3
  have e3 : upd H2 p1 (HO.tup [.str "refused", (fun i : Int => V.int (-i)) 1]) = upd H2 p1 (.tup [.str "refused", .int (-1)]) := rfl
  unfold gName
  rw [e3]
  generalize upd H2 p1 (.tup [.str "refused", .int (-1)]) = H3 at wd3 x3 g3
  refine ⟨rfl, true, rfl, ?_⟩
  show tB (tEqI _ _) _ _ _
  refine ⟨.ref l, rfl, .inl ⟨rfl, _, .inl (.inl g3)⟩, l, vList c, .bl true, rfl, rfl, .inl (.inl g3), rfl, rfl, 1, 1, ?_, rfl, true, rfl, ?_⟩
  · rw [count_one c h1 h5]; rfl
  simp only [↓reduceIte]
  obtain ⟨ia, ib⟩ := index_at c h1 h5
  refine ⟨.ref l, rfl, .inl ⟨rfl, _, .inl (.inl g3)⟩, l, vList c, .bl true, c - 1, .bl true, rfl, rfl, .inl (.inl g3), rfl, rfl, ia, rfl, ib, (by decide : (2 : Nat) ≤ sizeLine), fun p o hp ho => ?_⟩
  have gr := Grow.add (o := Tz o [.str "refused", .int ((c - 1 : Nat) : Int)]) wd3.le hp
  have hc : ((c - 1 : Nat) : Int) = (c : Int) - 1 := by omega
  refine fin _ _ _ (.ref p) (x3.trans gr.ext) (wd3.grow gr) (.tup (.inl ⟨o, ho, upd_same⟩) (.cons (.str sRef) (.cons ?_ .nil))) rfl rfl
  rw [hc]
  exact .int _

/-- what is wished of the lambda -/
def TTD (C : Cs) : (XK → Hp → VK → Prop) → Hp → VK → Prop := fun tl H Q => ∀ Q' : VK,
  (∀ v H', (∃ (S : Sto) (w : Wl) (dv : TD.D), Wd C S w H' ∧ Rep C.K w.F w.ι v dv ∧ ∀ H2 w2 u, Ext w H' w2 H2 → Wd C S w2 H2 → Rep C.K w2.F w2.ι u (.tup [.str sTold, dv]) → Q u H2) → Q' v H') →
  tl (fun cls d H' => ∃ (c : Nat) (S : Sto) (w : Wl), 1 ≤ c ∧ c ≤ 5 ∧ cls = .ref (C.exc c) ∧ d = none ∧ Wd C S w H' ∧ ∀ H2 w2 v, Ext w H' w2 H2 → Wd C S w2 H2 → Rep C.K w2.F w2.ι v (.tup [.str sRef, .int ((c : Int) - 1)]) → Q v H2) H Q'
theorem tl_e : toldSc.names.lookup ("e" : Str) = some NameKind.local := by decide
theorem tl_f : toldSc.names.lookup ("_law_found" : Str) = some NameKind.local := by decide
theorem tl_t : toldSc.names.lookup ("TapError" : Str) = some NameKind.globalImplicit := by decide
theorem told_givesD {X : Cx} {q1 q2 q3 q4 q5 q6 q7 q8 q9 q10 q11 q12 q13 q14 q15 q16 q17 q18 q19 q20 q21 q22 q23 q24 q25 q26 q27 q28 q29 q30 q31 q32 q33 q34 q35 q36 q37 q39 q40 q41 q42 q43 q44 q45 q46 q47 q49 q50 q51 q52 q53 q54 q55 r1 r2 r3 r4 r5 r6 r7 r8 r9 r10 r11 : Pos} {k1 k2 k3 k4 k5 k6 k7 k8 m1 m2 : Nat}
    {x q : Str} {g : Addr} {cdg : Value} (T : XTab C) (hK : X.K = C.K) (hmg : X.mg = C.mg) (hl1 : (q20.endLine == q25.line) = true) (hl2 : (q40.endLine == q42.line) = true) (hl3 : (q50.endLine == q52.line) = true) :
    LamX.GivesTo X toldN x toldSc g cdg [
      .Try [.Assign [.Name "_law_found" r1] (.Tuple [.Constant (.str "told") m1 r2, .Call (.Name "_law_deed" r3) [] [] r4] m2 r5) r6]
        [.ExceptHandler (some (.Name "TapError" r7)) (some "e") [
      .Assign [.Name "_law_kinds" q1] (.List [.Call (.Name "isinstance" q2) [.Name "e" q3, .Name "NoNumber" q4] [] q5, .Call (.Name "isinstance" q6) [.Name "e" q7, .Name "NoName" q8] [] q9, .Call (.Name "isinstance" q10) [.Name "e" q11, .Name "NoCalls" q12] [] q13, .Call (.Name "isinstance" q14) [.Name "e" q15, .Name "NoDeal" q16] [] q17] q18) q19,
      .Expr (.Call (.Attribute (.Name "_law_kinds" q21) "append" q20) [.Call (.Name "isinstance" q22) [.Name "e" q23, .Name "NoText" q24] [] q26] [] q25) q27,
      .Assign [.Name "_law_found" q28] (.Tuple [.Constant (.str "refused") k1 q29, .UnaryOp .USub (.Constant (.int 1) k2 q30) q31] k3 q32) q33,
      .If (.BoolOp .And [.Call (.Name "isinstance" q34) [.Name "e" q35, .Name "ValueError" q36] [] q37, .Compare (.Call (.Attribute (.Name "_law_kinds" q39) "count" q40) [.Constant (.bool true) k4 q41] [] q42) [.Eq] [.Constant (.int 1) k5 q43] q44] q45)
        [.Assign [.Name "_law_found" q46] (.Tuple [.Constant (.str "refused") k6 q47, .Call (.Attribute (.Name "_law_kinds" q49) "index" q50) [.Constant (.bool true) k7 q51] [] q52] k8 q53) q54] [] q55] r8] [] [] r9,
      .Return (some (.Name "_law_found" r10)) r11] "_law_deed" q (TTD C) := by
  intro f c' s H Q tl act hc h
  refine ⟨_, pss_cons (ps_try_as (X := (cxOf C8.CX0 X.prog X.w X.K X.mg X.base toldN x toldSc g cdg X.A X.stack s H C8.E0).nox) (c := .ref (C.exc 0)) (i := 2) (n := "e")
      (tb := fun W D σ H => ∃ Ech : XK, (∀ cls d σ' H', Ech cls d H' → W cls d σ' H') ∧ σ[0]? = some (some (.ref f)) ∧ H c' = some (LamX.CodeO c' q) ∧ tl Ech H (fun v H1 => ([.str "told", v] : List V).length ≤ sizeLine ∧ NewT H1 (fun u H2 => D.nx (σ.set 1 (some u)) H2) [.str "told", v])) (ts := tSuite C) (Wout := fun _ _ _ _ => False)
      rfl rfl (by decide : toldN.Nodup) rfl tl_e ⟨tl_t, (by decide : (("TapError" : Str) == ("__debug__" : Str)) = false), .inl (by show X.mg _ = _; rw [hmg]; exact T.g0)⟩ LamX.takes0 (fun W pn xe tk _ => ?_) (fun a oe cls d pn hz hf => ?_))
      (pss_one (ps_ret (pos := r11) (pe_var (i := 1) (pos := r10) rfl (.inl tl_f)))), ?_⟩
  · refine ⟨fun pins s' σ H' D I h' => ?_⟩
    obtain ⟨Ech, hW, h1, h2, h3⟩ := h'
    have hp := act W pn xe Ech r3 r4 tk hW
    have hq := pss_one (ps_asg (pos := r6) (pe_tupF (k := m2) (pos := r5) (pa_cons (pe_str (x := "told") (j := m1) (pos := r2)) (pa_cons hp pa_nil))) (pg_name (pos := r1) (i := 1) (x := "_law_found") (by decide : toldN.Nodup) rfl (.inl tl_f)))
    exact hq.run pins s' σ H' D I ⟨h1, h2, h3⟩
  · refine su_all T d cls (fun c h1 h5 e1 e2 => ⟨hK, hmg, rfl, rfl, ?_⟩) hl1 hl2 hl3
    subst e1 e2
    exact call_isE (X := (cxOf C8.CX0 X.prog X.w X.K X.mg X.base toldN x toldSc g cdg X.A X.stack s H C8.E0).nox) (by show ExcC X.K _; rw [hK]; exact T.c c h1 h5) hz hf
  · refine ⟨_, fun cls d σ' H' he => ?_, rfl, hc, h _ fun v H' hv => ?_⟩
    · obtain ⟨c, S, w, h1, h5, e1, e2, wd, fin⟩ := he
      refine ⟨true, by rw [e1]; show PySem.W.exmOne X.K _ _ = _; rw [hK]; exact T.t c h1 h5, fun _ a na => ?_, fun z => Bool.noConfusion z⟩
      refine ⟨σ', c, S, w, h1, h5, e1, e2, rfl, wd, fun σ2 H2 w2 v x2 wd2 r2 g2 g4 => ?_⟩
      refine ⟨v, ?_, fin H2 w2 v x2 wd2 r2⟩
      show (σ2.set 2 none)[1]? = _
      rw [List.getElem?_set_ne (by decide)]
      exact g2
    · obtain ⟨S, w, dv, wd, rv, fin⟩ := hv
      refine ⟨(by decide : (2 : Nat) ≤ sizeLine), fun p o hp ho => ⟨_, rfl, ?_⟩⟩
      have gr := Grow.add (o := Tz o [.str "told", v]) wd.le hp
      exact fin _ _ _ gr.ext (wd.grow gr) (.tup (.inl ⟨o, ho, upd_same⟩) (.cons (.str sTold) (.cons (rv.mono gr.f (by rw [gr.ι]; exact List.prefix_rfl)) .nil)))
end

/-! ### the call -/
/-- the def that calls what it gets -/
structure ToldOk (C : Cs) : Prop where
  ex : ∃ (g : Addr) (pg : Arguments) (bg : List Stmt) (dV kV doc pm cdv ct oc : Value) (an od : Option Addr) (osl : Array (Option Value)), C.mg "_law_told" = some (.ref g) ∧ PySem.W.keepIn C.K (.ref g) = true ∧
    C.K.lookup g = some ⟨oc, od, .func (PySem.W.fnOf "_law_told" "_law_told" pg bg toldSc dV kV doc pm an cdv ct), osl⟩ ∧ PySem.W.codeIn C.K cdv "_law_told" = true ∧ L2.Binds C.K (PySem.W.fnOf "_law_told" "_law_told" pg bg toldSc dV kV doc pm an cdv ct) ["_law_deed"] [] ∧
    ∀ (X : Cx) (q : Str), X.K = C.K → X.mg = C.mg → LamX.GivesTo X toldN "_law_told" toldSc g cdv bg "_law_deed" q (TTD C)
/-- where a lambda's code may be written down -/
structure LamOk (C : Cs) (X : Cx) : Prop where
  ex : ∃ c P, LamX.TabB C.base C.mg c P ∧ X.env.code = .ref c ∧ (P, X.env.qual ++ "<lambda>") ∈ C.tabs ∧ ∀ p ∈ C.tabs, p.1 = P → p.2 = X.env.qual ++ "<lambda>"
theorem Wd.extN {C : Cs} {S : Sto} {w : Wl} {H H1 : Hp} (h : Wd C S w H) (e : LamX.ExtN H H1) (t : LamX.Tabs C.tabs H1) : Wd C S w H1 ∧ Ext w H w H1 := by
  have kp : ∀ a o, H a = some o → (∀ ps, o ≠ .tbl ps) → H1 a = some o := e
  have dom : ∀ a, NT H1 a → NT H a := fun a n o q => by
    by_cases z : ∃ ps, o = .tbl ps
    · exact z
    · exact (n.no (kp a o q fun ps y => z ⟨ps, y⟩) fun ps y => z ⟨ps, y⟩).elim
  refine ⟨⟨fun a o q => kp a o (h.le a o q) fun ps z => h.nt a ps (z ▸ q), h.mF, fun a m n => h.mT a m (dom a n), h.nt, t, h.obs.move (Le.refl _) rfl rfl fun a m o q => ?_⟩, ⟨Le.refl _, fun a o q n _ => kp a o q n, dom, fun a q z => absurd z q, List.prefix_rfl, fun a m => m, fun a m => .inl m⟩⟩
  obtain ⟨u, hu, nu⟩ := NT.ex (h.mT a m)
  rw [hu] at q; cases q
  exact kp a _ hu nu
theorem scope_told : FnScope toldN ["_law_deed"] toldSc := ⟨rfl, rfl, rfl, by decide, rfl, fun y hy => by
  rw [List.mem_singleton.mp hy]
  exact .inl (by decide), by decide⟩
section
variable {X : Cx} {C : Cs} {c : Ck} {kk : Nat} {W : WX} {fn : Fns} {pos p lpos : Pos} {x : E} {body : Expr} {params : Arguments} {scope : Scope}
theorem XOk.lam {A : Around} {outer : List PySem.Env} {s : Shared} {H : Hp} {E : XK} {f c' : Addr} (h : XOk C c (kk + 2) W X) (hr : Room kk (A.deeper (LamX.lamEnv X scope s.heap.objs.size f c'))) :
    XOk C ⟨c.N, scope, fun _ => false⟩ kk (fun cls d _ H => E cls d H) (LamX.lamCx X A outer s H E scope f c') where
  prog := h.prog
  w := h.w
  mg := h.mg
  base := h.base
  K := h.K
  sc := rfl
  N := h.N
  nd := h.nd
  fnv := rfl
  calm := rfl
  tk := takes_of rfl rfl rfl rfl
  hr := hr
theorem du_told (h : XOk C c (kk + 2) W X) (hl : LamOk C X) (TK : ToldOk C) (hg : glB c.sc "_law_told" = true) (hL : LamX.lamSB c.sc scope = true) (hdef : defaultsOf params X.env = ([], []))
    (hbind : ∀ (q : Str) (cl : List (Str × Addr)) (pm cv ctv : Value), bindArgs (PySem.W.kla_fn "<lambda>" q params body scope cl pm cv ctv) ⟨[], []⟩ = pure [])
    (hb : ∀ (W' : WX) (X' : Cx), XOk C ⟨c.N, scope, fun _ => false⟩ kk W' X' → PE X' body (tE C W' fn x)) (hn : ∀ ρ, isOwn ρ x = false) :
    PE X (.Call (.Name "_law_told" p) [.Lambda params body scope lpos] [] pos) (tE C W fn (.told x)) := by
  obtain ⟨g, pg, bg, dV, kV, doc, pm, cdv, ct, oc, an, od, osl, t1, t2, t3, t4, t5, t6⟩ := TK.ex
  obtain ⟨cc, P, l1, l2, l3, l4⟩ := hl.ex
  refine PE.wk (LamX.pe_lamcall (T := C.tabs) (TT := TTD C) (a := "_law_deed") (Ng := toldN) (t := fun E => tE C (fun cls d _ H => E cls d H) fn x) (gl_of h hg) (by rw [h.mg]; exact t1) (by rw [h.K]; exact t2) (by rw [h.K]; exact t3) (by rw [h.K]; exact t4) (by rw [h.K]; exact t5) scope_told rfl (.inl (by decide))
    (t6 X _ h.K h.mg) (by rw [h.base, h.mg]; exact l1) l2 l3 l4 h.hr (LamX.lamS_by (by rw [h.sc]; exact hL)) hdef hbind (fun A outer s H E f c' hr => hb _ _ (h.lam hr))) fun σ H Q ⟨w0, H0, ρ, S, w, R, af⟩ => ⟨R.wd.tab, fun H1 eN T1 => ?_⟩
  intro Q' hQ'
  obtain ⟨wd1, e1⟩ := R.wd.extN eN T1
  refine ⟨w0, H0, ρ, S, w, R.to e1 wd1, ?_⟩
  unfold After at af
  unfold ev at af
  show Aft C _ σ w H1 (ev fn ρ x S) _
  cases e : ev fn ρ x S with
  | ok d S' =>
    rw [e] at af
    intro H' w' x' wd' v see rep
    exact hQ' v H' ⟨S', w', d, wd', rep (hn ρ), fun H2 w2 u x2 wd2 ru => af H2 w2 ((e1.trans x').trans x2) wd2 u ru.see fun _ => ru⟩
  | xc cn S' =>
    rw [e] at af
    by_cases g : 1 ≤ cn ∧ cn ≤ 5
    · dsimp only at af
      rw [if_pos g] at af
      exact fun H' w' x' wd' => ⟨cn, S', w', g.1, g.2, rfl, rfl, wd', fun H2 w2 v x2 wd2 rv => af H2 w2 ((e1.trans x').trans x2) wd2 v rv.see fun _ => rv⟩
    · dsimp only at af
      rw [if_neg g] at af
      exact af.elim
  | bad => rw [e] at af; exact af.elim
end
end TD
end
section
set_option Elab.async false
set_option linter.all false
set_option maxRecDepth 100000
/-! A def: from its body to its promise. -/
namespace TD
open PySem L2 PySem.Spec
open PyProof.Rows hiding St

section
variable {C : Cs}
theorem slot_start {ds : List D} {n i : Nat} : slot (ds.map .fz ++ List.replicate n .no) i = match ds[i]? with
    | some d => .fz d
    | none => .no := by
  unfold slot
  rw [List.getD_eq_getElem?_getD]
  by_cases h : i < ds.length
  · rw [List.getElem?_append_left (by simpa using h), List.getElem?_map]
    rw [List.getElem?_eq_getElem h]
    rfl
  · rw [List.getElem?_append_right (by simpa using h), List.getElem?_eq_none (by omega : ds.length ≤ i)]
    rw [List.length_map, List.getElem?_replicate]
    split <;> rfl
theorem rel_start {S : Sto} {w : Wl} {H : Hp} {N : List Str} {vs : List V} {ds : List D} {n : Nat} (wd : Wd C S w H) (r : Reps C.K w.F w.ι vs ds) (hN : N.length = ds.length + n) : Rel C w H (ds.map .fz ++ List.replicate n .no) S w (L2.start N vs) H := by
  refine ⟨wd, Ext.refl _ _, ?_, fun i => ?_, fun i j a d e h1 _ _ _ => ?_, fun i a d h1 _ => ?_⟩
  · unfold L2.start
    have := r.length
    simp
    omega
  · rw [slot_start]
    cases e : ds[i]? with
    | none => exact trivial
    | some d =>
      obtain ⟨v, h1, h2⟩ := r.get' e
      refine ⟨v, ?_, h2⟩
      have hlt := (List.getElem?_eq_some_iff.mp h1).1
      unfold sAt L2.start
      rw [List.getD_eq_getElem?_getD, List.getElem?_append_left (by simpa using hlt), List.getElem?_map, h1]
      rfl
  · rw [slot_start] at h1
    cases e : ds[i]? with
    | none => rw [e] at h1; cases h1
    | some d => rw [e] at h1; cases h1
  · rw [slot_start] at h1
    cases e : ds[i]? with
    | none => rw [e] at h1; cases h1
    | some d => rw [e] at h1; cases h1
/-- a def's scope as this layer sees it -/
def ckOf (N : List Str) (st : Stmt) : Ck := ⟨N, defScope st, fun _ => true⟩
theorem fn_df {x : Str} {st : Stmt} {f : Addr} {fd : FuncData} {N ps : List Str} {k : Nat} (fn : Fns) (df : Df) (F : Fun C.K x x st f fd) (S : FnScope N ps (defScope st)) (hN : N.length = df.ps + df.ns) (hp : ps.length = df.ps)
    (body : ∀ (X : Cx) (W : WX), XOk C (ckOf N st) k W X → PassesOwn (model X.prog X.w) X.A X.env X.xe → PSs X (defBody st) (tSs C W fn df.body)) :
    FnOk C.P C.w C.K C.mg C.base (L2.CX C.P C.w) (k + 1) f fd ps (spOf C (df.run fn) ps.length) := by
  refine F.okX S spOf_len fun cdv A outer s H vs Q E hr h => ?_
  obtain ⟨S0, w, ds, hl, wd, r, af⟩ := h
  have ok : XOk C (ckOf N st) k (fun cls d _ H => E cls d H) (cxOf (L2.CX C.P C.w) C.P C.w C.K C.mg C.base N x (defScope st) f cdv A outer s H E) :=
    { prog := rfl, w := rfl, mg := rfl, base := rfl, K := rfl, sc := rfl, N := rfl, nd := S.nd, fnv := rfl, calm := rfl, tk := takes_of rfl rfl rfl rfl, hr := hr }
  refine ⟨_, body _ _ ok (passes_of rfl), w, H, ds.map .fz ++ List.replicate df.ns .no, S0, w, rel_start wd r (by rw [hN, hl, hp]), ?_⟩
  have e : df.run fn ds S0 = (exs fn df.body (ds.map .fz ++ List.replicate df.ns .no) S0).end_ := by
    unfold Df.run
    rw [if_pos (by rw [hl, hp])]
  rw [e] at af
  cases q : exs fn df.body (ds.map .fz ++ List.replicate df.ns .no) S0 with
  | nx ρ S1 =>
    rw [q] at af
    exact fun H' w' σ' R g => af H' w' R.ext R.wd .non .non
  | rt d S1 =>
    rw [q] at af
    exact fun H' w' e wd' v rv => af H' w' e wd' v rv
  | ct ρ S1 => rw [q] at af; exact af.elim
  | xc cc S1 =>
    rw [q] at af
    exact fun H' w' σ' e wd' => af H' w' e wd'
  | bad => rw [q] at af; exact af.elim
end
end TD
end
section
set_option Elab.async false
set_option linter.all false
set_option maxRecDepth 100000
/-! The rules as the printed texts name them. -/
namespace TD
open PySem L2 PySem.Spec
open PyProof.Rows hiding St

section
variable {X : Cx} {C : Cs} {c : Ck} {kk : Nat} {W : WX} {fn : Fns} {pos p : Pos} {a b o : Expr} {es : List Expr} {x y : E} {l : Es}
theorem du_tup {k : Nat} (ha : PA X es (tEF C W fn l)) (hl : es.length ≤ 100) (hle : l.len = es.length) : PE X (.Tuple es k pos) (tE C W fn (.tup l)) := de_tup ha hl fun _ _ _ _ e => (evF_len e).trans hle
theorem du_lst (ha : PA X es (tEF C W fn l)) (hl : es.length ≤ 100) (hle : l.len = es.length) : PE X (.List es pos) (tE C W fn (.lst l)) := de_lst ha hl fun _ _ _ _ e => (evF_len e).trans hle
theorem du_and1 (ha : PE X a (tE C W fn x)) : PE X (.BoolOp .And [a] pos) (tE C W fn x) := ⟨fun pins s σ H Q I h => BoolOp_one (ha.run pins s σ H Q I h)⟩
theorem du_or1 (ha : PE X a (tE C W fn x)) : PE X (.BoolOp .Or [a] pos) (tE C W fn x) := ⟨fun pins s σ H Q I h => BoolOp_one (ha.run pins s σ H Q I h)⟩
theorem du_gstr (h : XOk C c kk W X) {nm : Str} {s : Sx} (hg : glB c.sc nm = true) (hm : ∃ u, C.mg nm = some u ∧ RelV (.str (toS s)) u) (hd : (nm == ("__debug__" : Str)) = false) : PE X (.Name nm pos) (tE C W fn (.con (.str s))) :=
  let ⟨_, h1, h2⟩ := hm
  de_glob h hg h1 h2 (fun _ _ => .str s) hd
theorem du_gint (h : XOk C c kk W X) {nm : Str} {i : Int} (hg : glB c.sc nm = true) (hm : ∃ u, C.mg nm = some u ∧ RelV (.int i) u) (hd : (nm == ("__debug__" : Str)) = false) : PE X (.Name nm pos) (tE C W fn (.con (.int i))) :=
  let ⟨_, h1, h2⟩ := hm
  de_glob h hg h1 h2 (fun _ _ => .int i) hd
theorem du_len (h : XOk C c kk W X) (hg : glB c.sc "len" = true) (hm : C.mg "len" = none) (ha : PA X (a :: es) (tEs C W fn l)) (he : starEach (a :: es) X.env = (false, eval a X.env) :: starEach es X.env) (hpl : (backTo pos (starEach es X.env)).any (·.1) = false) : PE X (.Call (.Name "len" p) (a :: es) [] pos) (tE C W fn (.bi .len l)) :=
  de_biB h (bi_len h.K) hg hm (by decide +kernel) ha (by decide) (by decide) he hpl
theorem du_tuple (h : XOk C c kk W X) (hg : glB c.sc "tuple" = true) (hm : C.mg "tuple" = none) (ha : PA X (a :: es) (tEs C W fn l)) (he : starEach (a :: es) X.env = (false, eval a X.env) :: starEach es X.env) (hpl : (backTo pos (starEach es X.env)).any (·.1) = false) : PE X (.Call (.Name "tuple" p) (a :: es) [] pos) (tE C W fn (.bi .tuple l)) :=
  de_biT h (bi_tuple h.K) hg hm (by decide +kernel) ha (by decide) (by decide) he hpl
theorem du_list (h : XOk C c kk W X) (hg : glB c.sc "list" = true) (hm : C.mg "list" = none) (ha : PA X (a :: es) (tEs C W fn l)) (he : starEach (a :: es) X.env = (false, eval a X.env) :: starEach es X.env) (hpl : (backTo pos (starEach es X.env)).any (·.1) = false) : PE X (.Call (.Name "list" p) (a :: es) [] pos) (tE C W fn (.bi .list l)) :=
  de_biT h (bi_list h.K h.calm) hg hm (by decide +kernel) ha (by decide) (by decide) he hpl
theorem du_dict (h : XOk C c kk W X) (hg : glB c.sc "dict" = true) (hm : C.mg "dict" = none) (ha : PA X (a :: es) (tEs C W fn l)) (he : starEach (a :: es) X.env = (false, eval a X.env) :: starEach es X.env) (hpl : (backTo pos (starEach es X.env)).any (·.1) = false) : PE X (.Call (.Name "dict" p) (a :: es) [] pos) (tE C W fn (.bi .dict l)) :=
  de_biT h (bi_dict h.K h.calm) hg hm (by decide +kernel) ha (by decide) (by decide) he hpl
theorem du_int (h : XOk C c kk W X) (hg : glB c.sc "int" = true) (hm : C.mg "int" = none) (ha : PA X (a :: es) (tEs C W fn l)) (he : starEach (a :: es) X.env = (false, eval a X.env) :: starEach es X.env) (hpl : (backTo pos (starEach es X.env)).any (·.1) = false) : PE X (.Call (.Name "int" p) (a :: es) [] pos) (tE C W fn (.bi .int l)) :=
  de_biT h bi_int hg hm (by decide +kernel) ha (by decide) (by decide) he hpl
theorem du_min (h : XOk C c kk W X) (hg : glB c.sc "min" = true) (hm : C.mg "min" = none) (ha : PA X (a :: es) (tEs C W fn l)) (he : starEach (a :: es) X.env = (false, eval a X.env) :: starEach es X.env) (hpl : (backTo pos (starEach es X.env)).any (·.1) = false) : PE X (.Call (.Name "min" p) (a :: es) [] pos) (tE C W fn (.bi .min l)) :=
  de_biB h (bi_min h.K h.calm h.hu) hg hm (by decide +kernel) ha (by decide) (by decide) he hpl
theorem du_max (h : XOk C c kk W X) (hg : glB c.sc "max" = true) (hm : C.mg "max" = none) (ha : PA X (a :: es) (tEs C W fn l)) (he : starEach (a :: es) X.env = (false, eval a X.env) :: starEach es X.env) (hpl : (backTo pos (starEach es X.env)).any (·.1) = false) : PE X (.Call (.Name "max" p) (a :: es) [] pos) (tE C W fn (.bi .max l)) :=
  de_biB h (bi_max h.K h.calm h.hu) hg hm (by decide +kernel) ha (by decide) (by decide) he hpl
theorem du_max2 (h : XOk C c kk W X) (hg : glB c.sc "max" = true) (hm : C.mg "max" = none) (ha : PA X (a :: es) (tEs C W fn l)) (he : starEach (a :: es) X.env = (false, eval a X.env) :: starEach es X.env) (hpl : (backTo pos (starEach es X.env)).any (·.1) = false) : PE X (.Call (.Name "max" p) (a :: es) [] pos) (tE C W fn (.bi .max2 l)) :=
  de_biB h (bi_max2 h.calm) hg hm (by decide +kernel) ha (by decide) (by decide) he hpl
theorem du_abs (h : XOk C c kk W X) (hg : glB c.sc "abs" = true) (hm : C.mg "abs" = none) (ha : PA X (a :: es) (tEs C W fn l)) (he : starEach (a :: es) X.env = (false, eval a X.env) :: starEach es X.env) (hpl : (backTo pos (starEach es X.env)).any (·.1) = false) : PE X (.Call (.Name "abs" p) (a :: es) [] pos) (tE C W fn (.bi .abs l)) :=
  de_biB h bi_abs hg hm (by decide +kernel) ha (by decide) (by decide) he hpl
theorem du_sorted (h : XOk C c kk W X) (hg : glB c.sc "sorted" = true) (hm : C.mg "sorted" = none) (ha : PA X (a :: es) (tEs C W fn l)) (he : starEach (a :: es) X.env = (false, eval a X.env) :: starEach es X.env) (hpl : (backTo pos (starEach es X.env)).any (·.1) = false) : PE X (.Call (.Name "sorted" p) (a :: es) [] pos) (tE C W fn (.bi .sorted l)) :=
  de_biB h (bi_sorted h.K h.calm h.hu) hg hm (by decide +kernel) ha (by decide) (by decide) he hpl
theorem du_sum (h : XOk C c kk W X) (hg : glB c.sc "sum" = true) (hm : C.mg "sum" = none) (ha : PA X (a :: es) (tEs C W fn l)) (he : starEach (a :: es) X.env = (false, eval a X.env) :: starEach es X.env) (hpl : (backTo pos (starEach es X.env)).any (·.1) = false) : PE X (.Call (.Name "sum" p) (a :: es) [] pos) (tE C W fn (.bi .sum l)) :=
  de_biB h (bi_sum h.K h.calm) hg hm (by decide +kernel) ha (by decide) (by decide) he hpl
theorem du_all (h : XOk C c kk W X) (hg : glB c.sc "all" = true) (hm : C.mg "all" = none) (ha : PA X (a :: es) (tEs C W fn l)) (he : starEach (a :: es) X.env = (false, eval a X.env) :: starEach es X.env) (hpl : (backTo pos (starEach es X.env)).any (·.1) = false) : PE X (.Call (.Name "all" p) (a :: es) [] pos) (tE C W fn (.bi .all l)) :=
  de_biB h (bi_all h.K h.calm) hg hm (by decide +kernel) ha (by decide) (by decide) he hpl
theorem du_any (h : XOk C c kk W X) (hg : glB c.sc "any" = true) (hm : C.mg "any" = none) (ha : PA X (a :: es) (tEs C W fn l)) (he : starEach (a :: es) X.env = (false, eval a X.env) :: starEach es X.env) (hpl : (backTo pos (starEach es X.env)).any (·.1) = false) : PE X (.Call (.Name "any" p) (a :: es) [] pos) (tE C W fn (.bi .any l)) :=
  de_biB h (bi_any h.K h.calm) hg hm (by decide +kernel) ha (by decide) (by decide) he hpl
theorem du_join (h : XOk C c kk W X) {ap : Pos} (ho : PE X o (tE C W fn x)) (ha : PE X a (tE C W fn y)) (hs : starEach [a] X.env = [(false, eval a X.env)]) (hbase : attributeBase o "join" X.env (eval o X.env) = eval o X.env) (hline : (ap.endLine == pos.line) = true) : PE X (.Call (.Attribute o "join" ap) [a] [] pos) (tE C W fn (.me .join x (.cons y .nil))) :=
  de_me1 h rfl F.slot_str_join F.type_str_join (me_join h.K h.calm) ho ha hs hbase hline
/-! ### targets -/
theorem dg_nil : PGs X [] (gAll []) := pgs_nil
theorem dg_cons {i : Nat} {r : List Nat} (h1 : PG X a (gName i)) (h2 : PGs X es (gAll r)) (hs : (assignEach (a :: es) X.env).map (·.2) = assign a X.env :: (assignEach es X.env).map (·.2)) : PGs X (a :: es) (gAll (i :: r)) := pgs_cons h1 h2 hs
theorem dg_tup (h : XOk C c kk W X) {r : List Nat} {k : Nat} (hs : PGs X es (gAll r)) (hn : (assignEach es X.env).length = r.length) (hst : (assignEach es X.env).findIdx? (·.1) = none) : PG X (.Tuple es k pos) (gT C.K (.t r)) := by
  have := pg_tup (k := k) (pos := pos) h.calm hs hn hst
  rw [h.K] at this
  exact this
theorem dg_one (h : XOk C c kk W X) {i : Nat} {nm : Str} (hi : c.N[i]? = some nm) (hb : setB c nm = true) : PG X (.Name nm pos) (gT C.K (.n i)) := dg_name h hi hb
theorem fn_zero {f : Addr} {fd : FuncData} {ps : List Str} {run : List D → M D} (hr : ∀ ds, run ds = M.bad) : FnOk C.P C.w C.K C.mg C.base (L2.CX C.P C.w) 0 f fd ps (spOf C run ps.length) :=
  ⟨spOf_len, fun A outer s H args us vs Q E _ _ _ _ h => by
    obtain ⟨S, w, ds, _, _, _, af⟩ := h
    rw [hr ds] at af
    exact af.elim⟩
theorem sw_rule (h : XOk C c kk W X) {elt : Expr} {gs : List Comprehension} {scope : Scope} {y : Str} {py : Pos} {ln : Nat} (hk : c.sc.kind = .function) (hy : c.sc.names.lookup y = some .local) (hl : (py.line == pos.line) = true)
    (ha : (scope.names.any fun (n, k) => n == y && (k == .local || k == .cell)) = false) : swapsWith (.ListComp elt gs scope pos) (some (.Name y py)) ln X.env = pure true :=
  sw_true (by rw [h.sc]; exact hk) (by rw [h.sc]; exact hy) hl ha
theorem sw_cell (h : XOk C c kk W X) {elt : Expr} {gs : List Comprehension} {scope : Scope} {y : Str} {py : Pos} {ln : Nat} (hy : c.sc.names.lookup y = some .cell) : swapsWithSole [.Name y py] (.ListComp elt gs scope pos) ln X.env = pure false := by
  have ky : X.env.kindOf y = some .cell := by show X.env.scope.names.lookup y = _; rw [h.sc]; exact hy
  unfold swapsWithSole swapsWith
  simp only [ky]
  cases X.env.blockKind == .function <;> rfl
end
/-- an exception class of the program's own, under ValueError -/
def XIn (C : Cs) (k : Nat) : Prop := PySem.W.excIn C.K (C.exc k) [.type "ValueError", .type "Exception", .type "BaseException", .type "object"] "ValueError.__new__" = true
end TD
end
section
set_option Elab.async false
set_option linter.all false
set_option maxRecDepth 100000
/-! str.count of one sign. -/
namespace TD
open PySem L2 PySem.Spec
open PyProof.Rows hiding St
open PySem.StrLaws in
theorem occ_count (x : Str) (c : Nat) : ∀ (k i : Nat) (st : Array Nat × Nat), i + k = x.length + 1 → st.2 ≤ i → st.1.size ≤ i →
    (forIn (List.range' i k) st (occBody x ⟨#[c]⟩ x.length (x.length + 1))).run.fst.size = st.1.size + (x.cps.toList.drop i).count c
  | 0, i, st, h, _, _ => by
    have : x.cps.toList.drop i = [] := List.drop_eq_nil_of_le (by simp [Str.length] at h ⊢; omega)
    rw [this]
    simp
  | k + 1, i, st, h, h1, h2 => by
    rw [List.range'_succ, List.forIn_cons]
    have iff := subAt_one x c i
    by_cases hc : x.cps.toList[i]? = some c
    · have a := iff.mpr hc
      have hlt := (List.getElem?_eq_some_iff.mp hc).1
      have hlt2 : i < x.length := by simpa [Str.length] using hlt
      have e : occBody x ⟨#[c]⟩ x.length (x.length + 1) i st = pure (ForInStep.yield (st.fst.push i, i + 1)) := by
        unfold occBody
        rw [if_pos ⟨⟨⟨by omega, h1⟩, a.1⟩, a.2⟩]; rfl
      rw [e]
      have ih := occ_count x c k (i + 1) (st.fst.push i, i + 1) (by omega) (Nat.le_refl _) (by simp; omega)
      have hd : x.cps.toList.drop i = c :: x.cps.toList.drop (i + 1) := by
        rw [List.drop_eq_getElem_cons hlt, (List.getElem?_eq_some_iff.mp hc).2]
      rw [hd, List.count_cons_self]
      simp only [Array.size_push] at ih
      have ih' : (forIn (List.range' (i + 1) k) (st.fst.push i, i + 1) (occBody x ⟨#[c]⟩ x.length (x.length + 1))).run.fst.size = _ := ih
      refine Eq.trans ?_ (ih'.trans (by omega))
      rfl
    · have e : occBody x ⟨#[c]⟩ x.length (x.length + 1) i st = pure (ForInStep.yield st) := by
        unfold occBody
        rw [if_neg (fun z => hc (iff.mp ⟨z.1.2, z.2⟩))]
      rw [e]
      have ih := occ_count x c k (i + 1) st (by omega) (by omega) (by omega)
      have hd : (x.cps.toList.drop i).count c = (x.cps.toList.drop (i + 1)).count c := by
        by_cases hlt : i < x.cps.toList.length
        · rw [List.drop_eq_getElem_cons hlt, List.count_cons_of_ne]
          intro z
          exact hc (by rw [List.getElem?_eq_getElem hlt, z])
        · rw [List.drop_eq_nil_of_le (by omega), List.drop_eq_nil_of_le (by omega)]
      rw [hd]
      refine Eq.trans ?_ ih
      rfl
theorem count_py (s : Sx) (c : Nat) : Txt.count (toS s) (toS [c]) = (s.count c : Nat) := by
  unfold Txt.count
  have h := occ_count (toS s) c ((toS s).length + 1) 0 (#[], 0) (by omega) (Nat.le_refl _) (Nat.le_refl _)
  have e := StrLaws.occ_eq (toS s) ⟨#[c]⟩ 0 (toS s).length ((toS s).length + 1)
  rw [Nat.sub_zero] at e
  show (((Builtin.Str.occurrences (toS s) ⟨#[c]⟩ 0 (toS s).length ((toS s).length + 1)).length : Nat) : Int) = _
  rw [e, Array.length_toList, h, List.drop_zero, toS_cps]
  simp
section
variable {X : Cx} {C : Cs} {c : Ck} {kk : Nat} {W : WX} {fn : Fns} {pos : Pos} {a o : Expr} {x y : E}
theorem me_count : MtR X "str.count" (rM C .count) := by
  intro pins s σ H x xs v us Q I rx rs h
  obtain ⟨z, t, S, w, W, σ', own, wd, rfl, rfl, af⟩ := me_one rfl h fun d ds S hd => by
    match ds, hd with
    | [], _ => rfl
    | [e], hd => cases d <;> cases e <;> first | rfl | exact (hd _ _ rfl rfl).elim
    | [_, _], _ => cases d <;> rfl
    | _ :: _ :: _ :: _, _ => rfl
  match t, af with
  | [], af => exact af.elim
  | [e], af =>
    refine mt_count pins s σ H _ _ v us Q I rx rs ⟨toS z, toS [e], rfl, rfl, ?_⟩
    rw [count_py]
    exact After.val af wd (.int _)
  | _ :: _ :: _, af => exact af.elim
theorem du_count (h : XOk C c kk W X) {ap : Pos} (ho : PE X o (tE C W fn x)) (ha : PE X a (tE C W fn y)) (hs : starEach [a] X.env = [(false, eval a X.env)]) (hbase : attributeBase o "count" X.env (eval o X.env) = eval o X.env) (hline : (ap.endLine == pos.line) = true) : PE X (.Call (.Attribute o "count" ap) [a] [] pos) (tE C W fn (.me .count x (.cons y .nil))) :=
  de_me1 h rfl F.slot_str_count F.type_str_count me_count ho ha hs hbase hline
end
end TD
end
section
set_option Elab.async false
set_option linter.all false
set_option maxRecDepth 100000
/-! Turned round: x[::-1] of tuples and texts. -/
namespace TD
open PySem L2 PySem.Spec
open PyProof.Rows hiding St
section
variable {X : Cx} {C : Cs} {pins : List (Addr × Obj)} {σ : L2.St} {H : Hp} {s : Shared}
theorem sidx_back (n : Nat) : Builtin.Str.strSliceIndices none none (-1) n = (List.range n).reverse := by
  have : Builtin.Str.strSliceIndices none none (-1) n = sliceRange ((n : Int) - 1) (-1) (-1) := rfl
  rw [this, PySem.W.krv_sliceRange, PySem.W.krv_range]
theorem text_back (z : Sx) : (⟨((Builtin.Str.strSliceIndices none none (-1) (toS z).length).filterMap ((toS z).cps[·]?)).toArray⟩ : Str) = toS z.reverse := by
  rw [sidx_back, List.filterMap_reverse, show (toS z).length = (toS z).cps.size from rfl, PySem.W.krv_all, toS_cps]; rfl
theorem adj_back (n : Nat) : Builtin.Slice.sliceAdjust none none (-1) (n : Int) = ((n : Int) - 1, -1) := rfl
theorem places_back (n : Nat) : Builtin.Slice.slicePlaces ((n : Int) - 1) (-1) (-1) = n := by
  unfold Builtin.Slice.slicePlaces
  rw [if_neg (by decide : ¬ ((-1 : Int) > 0)), show (- -1 : Int) = 1 from rfl, Int.ediv_one]
  split <;> omega
theorem pick_back (xs : Array Value) : ((List.range xs.size).filterMap fun (m : Nat) => xs[(((xs.size : Nat) : Int) - 1 + (m : Int) * (-1)).toNat]?).toArray = xs.toList.reverse.toArray := by
  have e : ∀ m ∈ List.range xs.size, xs[(((xs.size : Nat) : Int) - 1 + (m : Int) * (-1)).toNat]? = (xs[·]?) (xs.size - 1 - m) := fun m hm => by
    rw [List.mem_range] at hm
    show _ = xs[xs.size - 1 - m]?
    congr 1
    omega
  have e2 : ∀ (l : List Nat) (f : Nat → Option Value) (g : Nat → Nat) (q : Nat → Option Value), (∀ m ∈ l, f m = q (g m)) → l.filterMap f = (l.map g).filterMap q := fun l f g q h => by
    induction l with
    | nil => rfl
    | cons a l ih =>
      rw [List.map_cons, List.filterMap_cons, List.filterMap_cons, h a (by simp), ih fun m hm => h m (by simp [hm])]
  rw [e2 _ _ _ _ e, PySem.W.krv_range, List.filterMap_reverse, PySem.W.krv_all]
theorem applied_back {M : World} {P : Program} {A : Around} {E : Value → Shared → Prop} {sl : Addr} {k : Value} {n : Nat} {Q : Int × Int × Nat → Shared → Prop} (hs : s.heap.IsSliceOf sl .none .none k) (pk : IsPart k (some (-1)))
    (h : Q ((n : Int) - 1, -1, n) s) : wpAny (model P M) A (Builtin.Slice.sliceApplied (.ref sl) (pure (n : Int))) Q E s := by
  obtain ⟨os, g1, g2, g3⟩ := id hs
  unfold Builtin.Slice.sliceApplied
  unfold Builtin.Slice.sliceFields
  refine wpAny_bind (wpAny_bind (wpAny_field g1 g3 (x := .none) rfl (wpAny_bind (wpAny_field g1 g3 (x := .none) rfl (wpAny_bind (wpAny_field g1 g3 (x := k) rfl (wpAny_pure ?_)))))))
  refine wpAny_bind (HT.slicePart_ pk ?_)
  show wpAny _ _ (if ((-1 : Int) == 0) = true then _ else _) _ _ s
  rw [if_neg (by decide)]
  refine wpAny_bind (HT.slicePart_ .none (wpAny_bind (HT.slicePart_ .none (wpAny_bind (wpAny_pure ?_)))))
  show wpAny _ _ (match Builtin.Slice.sliceAdjust none none (-1) (n : Int) with | (a, b) => pure (a, (-1 : Int), Builtin.Slice.slicePlaces a b (-1))) _ _ s
  rw [adj_back]
  show wpAny _ _ (pure ((n : Int) - 1, (-1 : Int), Builtin.Slice.slicePlaces ((n : Int) - 1) (-1) (-1))) _ _ s
  rw [places_back]
  exact wpAny_pure h
theorem get_back {M : World} {P : Program} {A : Around} {E : Value → Shared → Prop} {t sl : Addr} {k : Value} {its : Array Value} {Q : Value → Shared → Prop} (ht : IsTup s.heap t its) (hs : s.heap.IsSliceOf sl .none .none k) (pk : IsPart k (some (-1)))
    (h : Q (.ref s.heap.objs.size) { s with heap := s.heap.push { cls := .type "tuple", data := .seq its.toList.reverse.toArray } }) (hsz : its.size ≤ sizeLine) : wpAny (model P M) A (getItem (.ref t) (.ref sl)) Q E s := by
  have hz : sizeOk (.seq its.toList.reverse.toArray) := by
    show its.toList.reverse.toArray.size ≤ sizeLine
    rw [List.size_toArray, List.length_reverse, Array.length_toList]; exact hsz
  obtain ⟨os, g1, g2, g3⟩ := id hs
  have tS : s.TypeIs (.ref sl) "slice" := ⟨os, g1, g2⟩
  unfold getItem
  try with_reducible refine wpAny_holding ?_
  first | refine wpAny_bind (wpAny_pure ?_) | skip
  refine wpAny_bind (wpAny_sequenceKey ht.typeIs (by decide) ?_)
  refine wpAny_bind (wpAny_callSpecial?_slot (name := Str.ofString "__getitem__") ht.typeIs PyProof.Rows.slot_tuple_getitem ?_)
  refine wpAny_call_entry PyProof.Rows.slot_tuple_getitem ht.typeIs entry_tuple_getitem ?_ (args_tuple_getitem _ _)
  show wpAny _ _ (Builtin.Tuple.tupleItemsOf (.ref t) >>= _) _ _ s
  refine wpAny_bind (tupleItemsOf_ ht (wpAny_bind (wpAny_typeOf tS ?_)))
  rw [if_pos (by decide)]
  refine wpAny_bind (applied_back hs pk ?_)
  have no : ¬ ((((its.size : Nat) : Int) - 1 == 0 && (-1 : Int) == 1 && its.size == its.size) = true) := by
    rw [show ((-1 : Int) == 1) = false from by decide, Bool.and_false, Bool.false_and]
    exact Bool.false_ne_true
  show wpAny _ _ (if ((((its.size : Nat) : Int) - 1 == 0 && (-1 : Int) == 1 && its.size == its.size) = true) then _ else _) _ _ s
  rw [if_neg no, pick_back]
  first
    | exact wpAny_bind (m := Builtin.Tuple.tupleExact _) (wpAny_newObj_type (wpAny_pure ⟨_, rfl, wpAny_pure h⟩) hz)
    | exact wpAny_bind (m := Builtin.Tuple.tupleExact _) (wpAny_newObj_type (wpAny_bind (wpAny_pure (wpAny_pure ⟨_, rfl, wpAny_pure h⟩))) hz)
    | exact wpAny_bind (wpAny_bind (m := Builtin.Tuple.tupleExact _) (wpAny_newObj_type (wpAny_pure (wpAny_pure ⟨_, rfl, wpAny_pure h⟩)) hz))
    | exact wpAny_bind (wpAny_bind (m := Builtin.Tuple.tupleExact _) (wpAny_newObj_type (wpAny_pure ⟨_, rfl, wpAny_pure h⟩) hz))
/-- what is told of x[::-1] -/
def tBack (K : PySem.W.Frag) (te : TE) : TE := fun σ H Q => te σ H fun x H1 =>
  (∃ z : Sx, x = .str (toS z) ∧ z.length ≤ sizeLine ∧ Q (.str (toS z.reverse)) H1) ∨ (∃ a xs, x = .ref a ∧ SqT K H1 a xs ∧ NewT H1 Q xs.reverse) ∨ (∃ a xs, x = .ref a ∧ SqL K H1 a xs ∧ ∀ p, H1 p = none → Q (.ref p) (upd H1 p (.lst xs.reverse)))
theorem pe_back {e : Expr} {te : TE} {k : Nat} {p1 p2 p3 pos : Pos} (he : PE X e te) : PE X (.Subscript e (.Slice none none (some (.UnaryOp .USub (.Constant (.int 1) k p1) p2)) p3) pos) (tBack X.K te) := by
  refine ⟨fun pins s σ H Q I h => ?_⟩
  refine Subscript_ (thn (he.run pins s σ H _ I h) fun v s1 ⟨x, H1, I1, rx, q⟩ => ?_)
  have part : PO X (some (.UnaryOp .USub (.Constant (.int 1) k p1) p2)) (tPart (tUn (rU fun i => .int (-i)) (tC (.int 1)))) := po_some (pe_un un_neg pe_int)
  refine wpAny_Slice (thn (po_none.run pins s1 σ H1 (fun o H2 => o = none ∧ H2 = H1) I1 ⟨rfl, rfl⟩) fun v1 s2 ⟨o1, H2, I2, d1, e1, f1⟩ => ?_)
  subst e1 f1
  cases d1
  refine thn (po_none.run pins s2 σ H2 (fun o H3 => o = none ∧ H3 = H2) I2 ⟨rfl, rfl⟩) fun v2 s3 ⟨o2, H3, I3, d2, e2, f2⟩ => ?_
  subst e2 f2
  cases d2
  refine thn (part.run pins s3 σ H3 (fun o H4 => o = some (-1) ∧ H4 = H3) I3 ⟨1, rfl, -1, rfl, rfl, rfl⟩) fun v3 s4 ⟨o3, H4, I4, d3, e3, f3⟩ => ?_
  subst e3 f3
  have I5 : Inv X pins σ H4 { s4 with heap := s4.heap.push { cls := .type "slice", data := .fields #[.none, .none, v3] } } := I4.kept (t' := s4.toks) fun b ob g => Heap.get?_push_of_some _ g
  rcases q with ⟨z, ex, hz, q⟩ | ⟨a, xs, ex, hx, q⟩ | ⟨a, xs, ex, hx, q⟩
  · subst ex
    obtain ⟨t, rfl⟩ := rx
    obtain ⟨l3, e4, e5⟩ := IsPart.raw d3
    subst e4
    obtain ⟨u3, rfl⟩ : ∃ u3, l3 = some (-1, u3) := by
      cases l3 with
      | none => cases e5
      | some p =>
        obtain ⟨i, u⟩ := p
        cases e5
        exact ⟨u, rfl⟩
    show wpAny (model X.prog X.w) X.A (subscriptTail e (.Slice none none (some (.UnaryOp .USub (.Constant (.int 1) k p1) p2)) p3) (.str (toS z) t) (.ref s4.heap.objs.size)) (EP X pins σ Q) X.xe _
    refine tail_any (ops := [.str (toS z) t, .ref s4.heap.objs.size]) (typeIs_str _ _ _) F.slot_str_getitem.lookup ?_ (by with_unfolding_all rfl)
    refine wpAny_getItem_str_slice (l := none) (u := none) (st := some (-1, u3)) ⟨_, Heap.get?_push_size _ rfl, rfl, rfl⟩ rfl ?_
    show Made.post (if ((-1 : Int) == 1 && (Builtin.Str.strSliceIndices none none (-1) (toS z).length).length == (toS z).length) = true then Made.val (.str (toS z) t)
      else Made.str ⟨((Builtin.Str.strSliceIndices none none (-1) (toS z).length).filterMap ((toS z).cps[·]?)).toArray⟩) (EP X pins σ Q) _
    rw [if_neg (by rw [show ((-1 : Int) == 1) = false from by decide, Bool.false_and]; exact Bool.false_ne_true), text_back]
    exact ⟨by rw [toS_len, List.length_reverse]; exact hz, .str _, H4, I5.tok _, ⟨_, rfl⟩, q⟩
  · subst ex
    cases rx
    obtain ⟨its, r, ht, hz⟩ := I5.tuple hx
    have hlen := r.length
    show wpAny (model X.prog X.w) X.A (subscriptTail e (.Slice none none (some (.UnaryOp .USub (.Constant (.int 1) k p1) p2)) p3) (.ref a) (.ref s4.heap.objs.size)) (EP X pins σ Q) X.xe _
    refine tail_any (ops := [.ref a, .ref s4.heap.objs.size]) ht.typeIs PyProof.Rows.slot_tuple_getitem.lookup ?_ (by with_unfolding_all rfl)
    refine get_back (P := X.prog) (M := X.w) ht (Heap.IsSliceOf.new _ .none .none v3) d3 ?_ (by rw [List.size_toArray]; omega)
    exact ⟨.ref _, _, laidT (t' := s4.toks) I5 r.reverse (by rw [List.length_reverse]; omega), rfl, q _ _ (I5.hok.fresh (Nat.le_refl _)) rfl⟩
  · subst ex
    cases rx
    obtain ⟨its, r, ht, hz⟩ := I5.list hx
    have hlen := r.length
    show wpAny (model X.prog X.w) X.A (subscriptTail e (.Slice none none (some (.UnaryOp .USub (.Constant (.int 1) k p1) p2)) p3) (.ref a) (.ref s4.heap.objs.size)) (EP X pins σ Q) X.xe _
    refine tail_any (ops := [.ref a, .ref s4.heap.objs.size]) ht.isList.typeIs PySem.slot_list_getitem.lookup ?_ (by with_unfolding_all rfl)
    refine wpAny_getItem_list_slice ht.isList (Heap.IsSliceOf.new _ .none .none v3) .none .none d3 (by decide) ?_ (by rw [List.size_toArray]; omega)
    rw [PySem.W.krv_pick]
    refine ⟨.ref _, _, I5.laid (o := .lst xs.reverse) (t' := s4.toks) (fun b ob g => Heap.get?_push_of_some _ g) (Nat.le_refl _) ⟨by rw [List.length_reverse]; exact hz, _, 0, r.reverse, Heap.get?_push_size _ rfl⟩, rfl, q _ (I5.hok.fresh (Nat.le_refl _))⟩
variable {c : Ck} {kk : Nat} {W : WX} {fn : Fns} {a : Expr} {x : E}
theorem du_rev (h : XOk C c kk W X) {k : Nat} {p1 p2 p3 pos : Pos} (ha : PE X a (tE C W fn x)) (hk : k = k) : PE X (.Subscript a (.Slice none none (some (.UnaryOp .USub (.Constant (.int 1) k p1) p2)) p3) pos) (tE C W fn (.rev x)) := by
  refine PE.wk (pe_back ha) fun σ H Q ⟨w0, H0, ρ, S, w, R, af⟩ => ?_
  unfold After at af
  unfold ev at af
  refine step R af fun d S1 v H1 w1 x1 R1 see rep af1 => ?_
  clear rep
  cases d <;> try exact af1.elim
  case str z =>
    obtain ⟨g, af1⟩ := After.asked af1
    exact .inl ⟨z, see.str, fits_line g, After.val af1 R1.wd (.str _)⟩
  case tup l =>
    obtain ⟨p, vs, rfl, h1, r1⟩ := see.tup R1.wd.le
    refine .inr (.inl ⟨p, vs, rfl, by rw [h.K]; exact h1, fun t o ht ho => ?_⟩)
    exact After.new (own := false) af1 R1.wd ht (.tup (.inl ⟨o, ho, upd_same⟩) (r1.rev.mono (Le.new (R1.wd.le.free ht)) List.prefix_rfl))
  case lst l =>
    obtain ⟨p, vs, rfl, h1, r1⟩ := see.lst R1.wd.le
    refine .inr (.inr ⟨p, vs, rfl, by rw [h.K]; exact h1, fun t ht => ?_⟩)
    exact After.new (own := false) af1 R1.wd ht (.lst (.inl (.inl upd_same)) (r1.rev.mono (Le.new (R1.wd.le.free ht)) List.prefix_rfl))
end
end TD
end
section
set_option Elab.async false
set_option linter.all false
set_option maxRecDepth 100000
/-! The head of a law: tables of code; defs that make lambdas; the classes. -/
namespace TD
open PySem L2 PySem.Spec
open PyProof.Rows hiding St
/-- H but for the tables -/
def noTbl (H : Hp) : Hp := fun a => match H a with
  | some (.tbl _) => none
  | o => o
theorem noTbl_le (H : Hp) : Le (noTbl H) H := fun a o e => by
  unfold noTbl at e
  split at e
  · cases e
  · exact e
theorem noTbl_at {H : Hp} {a : Addr} {o : HO} (h : H a = some o) (n : ∀ ps, o ≠ .tbl ps) : noTbl H a = some o := by
  unfold noTbl
  rw [h]
  split
  · rename_i z
    cases z
    exact absurd rfl (n _)
  · rfl
theorem noTbl_no (H : Hp) (a : Addr) (ps : Array Value) : noTbl H a ≠ some (.tbl ps) := fun e => by
  unfold noTbl at e
  split at e
  · cases e
  · rename_i h
    exact h _ e
theorem sqL_noTbl {K : PySem.W.Frag} {H : Hp} {a : Addr} {xs : List V} (h : SqL K H a xs) : SqL K (noTbl H) a xs := by
  rcases h with (h | ⟨o, h⟩) | h
  · exact .inl (.inl (noTbl_at h fun _ z => by cases z))
  · exact .inl (.inr ⟨o, noTbl_at h fun _ z => by cases z⟩)
  · exact .inr h
theorem wd0 {C : Cs} {H : Hp} (t : LamX.Tabs C.tabs H) : Wd C [] ⟨noTbl H, [], []⟩ H :=
  ⟨noTbl_le H, fun _ z => (by simp at z), fun _ z => (by simp at z), noTbl_no H, t, ⟨rfl, List.nodup_nil, fun n x z => (by simp at z), fun n x n' x' dx fs dx' fs' j j' nm nm' a d d' z => (by simp at z)⟩⟩
def spLawT (cs : List (Addr × Addr)) (K : PySem.W.Frag) : Sp := fun vs H Q _ => ∃ (a : Addr) (ns : List Int), vs = [.ref a] ∧ (∀ p ∈ cs, H p.2 = some (.tbl #[])) ∧ SqL K H a (ns.map V.int) ∧ ns.length ≤ 63 ∧ ∀ H', Q (.bl true) H'
theorem ints_rep {K : PySem.W.Frag} {F : Hp} {ι : List Addr} : ∀ ns : List Int, Reps K F ι (ns.map V.int) (ns.map D.int)
  | [] => .nil
  | i :: r => .cons (.int i) (ints_rep r)
theorem to_lawT {C : Cs} {f : List D → M D} {cs : List (Addr × Addr)} (ht : ∀ ns : List Int, ns.length ≤ 63 → ∃ S, f [.lst (ns.map .int)] [] = .ok (.bl true) S) (hC : ∀ p ∈ C.tabs, ∃ q ∈ cs, q.2 = p.1) (vs : List V) (H : Hp) (Q : VK) (E : XK) (h : spLawT cs C.K vs H Q E) : spOf C f 1 vs H Q E := by
  obtain ⟨a, ns, rfl, hT, hS, hl, q⟩ := h
  obtain ⟨S, e⟩ := ht ns hl
  refine ⟨[], ⟨noTbl H, [], []⟩, [.lst (ns.map .int)], rfl, wd0 fun p hp => ?_, .cons (.lst (sqL_noTbl hS) (ints_rep ns)) .nil, ?_⟩
  · obtain ⟨r, hr, er⟩ := hC p hp
    rw [← er]
    exact .nil (hT r hr)
  rw [e]
  intro H' w' x wd v r
  cases r
  exact q H'
/-! ### defs that make lambdas -/
structure MkOk (C : Cs) (x : Str) (st : Stmt) (f : Addr) (fd : FuncData) : Prop where
  ex : ∃ (oc kV doc pm ct : Value) (od an : Option Addr) (cc P : Addr) (osl : Array (Option Value)), fd = PySem.W.fnOf x x (defArgs st) (defBody st) (defScope st) .none kV doc pm an (.ref cc) ct ∧ C.K.lookup f = some ⟨oc, od, .func fd, osl⟩ ∧
    PySem.W.codeIn C.K (.ref cc) x = true ∧ LamX.TabB C.base C.mg cc P ∧ (P, (x ++ ".<locals>.") ++ "<lambda>") ∈ C.tabs ∧ ∀ p ∈ C.tabs, p.1 = P → p.2 = (x ++ ".<locals>.") ++ "<lambda>"
section
variable {C : Cs}
theorem fn_up {f : Addr} {fd : FuncData} {ps : List Str} {sp : Sp} {k m : Nat} (F : FnOk C.P C.w C.K C.mg C.base (L2.CX C.P C.w) k f fd ps sp) (h : k ≤ m) : FnOk C.P C.w C.K C.mg C.base (L2.CX C.P C.w) m f fd ps sp :=
  ⟨F.len, fun A outer s H args us vs Q E hr e0 hb r hsp => F.run A outer s H args us vs Q E (hr.mono h) e0 hb r hsp⟩
theorem fn_df3 {x : Str} {st : Stmt} {f : Addr} {fd : FuncData} {N ps : List Str} {k : Nat} (fn : Fns) (df : Df) (F : Fun C.K x x st f fd) (S : FnScope N ps (defScope st)) (hN : N.length = df.ps + df.ns) (hp : ps.length = df.ps)
    (body : ∀ (X : Cx) (W : WX), XOk C (ckOf N st) k W X → PassesOwn (model X.prog X.w) X.A X.env X.xe → PSs X (defBody st) (tSs C W fn df.body)) :
    FnOk C.P C.w C.K C.mg C.base (L2.CX C.P C.w) (k + 3) f fd ps (spOf C (df.run fn) ps.length) := fn_up (fn_df fn df F S hN hp body) (by omega)
theorem XOk.low {c : Ck} {kk : Nat} {W : WX} {X : Cx} (h : XOk C c (kk + 2) W X) : XOk C c kk W X := ⟨h.prog, h.w, h.mg, h.base, h.K, h.sc, h.N, h.nd, h.fnv, h.calm, h.tk, h.hr.mono (by omega)⟩
theorem fn_dfL {x : Str} {st : Stmt} {f : Addr} {fd : FuncData} {N ps : List Str} {k : Nat} (fn : Fns) (df : Df) (F : MkOk C x st f fd) (S : FnScope N ps (defScope st)) (hN : N.length = df.ps + df.ns) (hp : ps.length = df.ps)
    (body : ∀ (X : Cx) (W : WX), XOk C (ckOf N st) (k + 2) W X → LamOk C X → PassesOwn (model X.prog X.w) X.A X.env X.xe → PSs X (defBody st) (tSs C W fn df.body)) :
    FnOk C.P C.w C.K C.mg C.base (L2.CX C.P C.w) (k + 3) f fd ps (spOf C (df.run fn) ps.length) := by
  obtain ⟨oc, kV, doc, pm, ct, od, an, cc, P, osl, rfl, lk, hcd, tb, hm, hu⟩ := F.ex
  refine fn_of lk hcd S spOf_len fun A outer s H vs Q E hr h => ?_
  obtain ⟨S0, w, ds, hl, wd, r, af⟩ := h
  have ok : XOk C (ckOf N st) (k + 2) (fun cls d _ H => E cls d H) (cxOf (L2.CX C.P C.w) C.P C.w C.K C.mg C.base N x (defScope st) f (.ref cc) A outer s H E) :=
    { prog := rfl, w := rfl, mg := rfl, base := rfl, K := rfl, sc := rfl, N := rfl, nd := S.nd, fnv := rfl, calm := rfl, tk := takes_of rfl rfl rfl rfl, hr := hr }
  refine ⟨_, body _ _ ok ⟨cc, P, tb, rfl, hm, hu⟩ (passes_of rfl), w, H, ds.map .fz ++ List.replicate df.ns .no, S0, w, rel_start wd r (by rw [hN, hl, hp]), ?_⟩
  have e : df.run fn ds S0 = (exs fn df.body (ds.map .fz ++ List.replicate df.ns .no) S0).end_ := by
    unfold Df.run
    rw [if_pos (by rw [hl, hp])]
  rw [e] at af
  cases q : exs fn df.body (ds.map .fz ++ List.replicate df.ns .no) S0 with
  | nx ρ S1 =>
    rw [q] at af
    exact fun H' w' σ' R g => af H' w' R.ext R.wd .non .non
  | rt d S1 =>
    rw [q] at af
    exact fun H' w' e wd' v rv => af H' w' e wd' v rv
  | ct ρ S1 => rw [q] at af; exact af.elim
  | xc cc S1 =>
    rw [q] at af
    exact fun H' w' σ' e wd' => af H' w' e wd'
  | bad => rw [q] at af; exact af.elim
end
/-! ### the classes, as a thing to be reckoned -/
def xcB (K : PySem.W.Frag) (D : Addr) : Bool :=
  (PySem.W.findIn K (.ref D) "__getattribute__" == some (some (.builtin "BaseException.__getattribute__"))) && (PySem.W.findIn K (.ref D) "__getattr__" == some none) && (PySem.W.subIn K (.ref D) (.type "BaseException") == some true) && PySem.W.hasDictIn K D &&
  (PySem.W.findIn K (.ref D) "__class__" == some (some (.builtin "object.__class__"))) && (PySem.W.specialIn K (.builtin "object.__class__") "__get__" == some (some (.builtin "getset_descriptor.__get__"))) && (PySem.W.takesIn K (.builtin "object.__class__") == some true) && (PySem.W.mroIn K D (.type "object") == some true)
theorem xc_of {K : PySem.W.Frag} {D : Addr} (h : xcB K D = true) : ExcC K D := by
  unfold xcB at h
  simp only [Bool.and_eq_true, beq_iff_eq] at h
  obtain ⟨⟨⟨⟨⟨⟨⟨h1, h2⟩, h3⟩, h4⟩, h5⟩, h6⟩, h7⟩, h8⟩ := h
  exact ⟨h1, h2, h3, h4, h5, h6, h7, h8⟩
def xtB (K : PySem.W.Frag) (e0 e1 e2 e3 e4 e5 : Addr) : Bool :=
  [e1, e2, e3, e4, e5].all fun e => xcB K e && (PySem.W.exmOne K (.ref e) (.ref e0) == some true) && (PySem.W.kitOne K (.ref e) (.type "ValueError") == some true) && [e1, e2, e3, e4, e5].all fun d => PySem.W.kitOne K (.ref e) (.ref d) == some (e == d)
theorem xtab_of {C : Cs} {e0 e1 e2 e3 e4 e5 : Addr} (he : C.exc = fun n => [e0, e1, e2, e3, e4, e5].getD n 0) (nd : [e1, e2, e3, e4, e5].Nodup) (h : xtB C.K e0 e1 e2 e3 e4 e5 = true) (g0 : C.mg "TapError" = some (.ref e0)) (g1 : C.mg "NoNumber" = some (.ref e1)) (g2 : C.mg "NoName" = some (.ref e2)) (g3 : C.mg "NoCalls" = some (.ref e3)) (g4 : C.mg "NoDeal" = some (.ref e4)) (g5 : C.mg "NoText" = some (.ref e5))
    (gi : C.mg "isinstance" = none) (gv : C.mg "ValueError" = none) : XTab C := by
  unfold xtB at h
  rw [List.all_eq_true] at h
  have mem : ∀ i, 1 ≤ i → i ≤ 5 → C.exc i ∈ [e1, e2, e3, e4, e5] := fun i h1 h5 => by
    rw [he]
    rcases (by omega : i = 1 ∨ i = 2 ∨ i = 3 ∨ i = 4 ∨ i = 5) with h | h | h | h | h <;> subst h <;> simp
  have all := fun i h1 h5 => h _ (mem i h1 h5)
  simp only [Bool.and_eq_true, beq_iff_eq, List.all_eq_true] at all
  have inj : ∀ i j, 1 ≤ i → i ≤ 5 → 1 ≤ j → j ≤ 5 → (C.exc i == C.exc j) = (i == j) := fun i j a1 a5 b1 b5 => by
    rw [he]
    simp only [List.nodup_cons, List.mem_cons, List.not_mem_nil, or_false, not_or] at nd
    obtain ⟨⟨n12, n13, n14, n15⟩, ⟨n23, n24, n25⟩, ⟨n34, n35⟩, n45, _⟩ := nd
    rcases (by omega : i = 1 ∨ i = 2 ∨ i = 3 ∨ i = 4 ∨ i = 5) with h | h | h | h | h <;> subst h <;> rcases (by omega : j = 1 ∨ j = 2 ∨ j = 3 ∨ j = 4 ∨ j = 5) with h | h | h | h | h <;> subst h <;> simp [*] <;> (intro z; exact absurd z.symm (by assumption))
  refine ⟨fun i h1 h5 => xc_of (all i h1 h5).1.1.1, fun i h1 h5 => ?_, fun i h1 h5 => (all i h1 h5).1.2, fun i j h1 h5 k1 k5 => ?_, by rw [he]; exact g0, by rw [he]; exact g1, by rw [he]; exact g2, by rw [he]; exact g3, by rw [he]; exact g4, by rw [he]; exact g5, gi, gv⟩
  · have e00 : C.exc 0 = e0 := by rw [he]; rfl
    rw [e00]
    exact (all i h1 h5).1.1.2
  · rw [(all i h1 h5).2 _ (mem j k1 k5), inj i j h1 h5 k1 k5]
end TD
end
section
set_option Elab.async false
set_option linter.all false
/-! The defs of the laws, in the little language (printed by gen.py). -/
namespace TD
/-- beats(number) -/
def d0 : Df := ⟨1, 1, (.cons (.ret (.me .join (.con (.str [48, 48, 48])) (.cons (.comp (.me .join (.con (.str [48])) (.cons (.bin .mul (.con (.str [49])) (.var 1)) .nil)) (.n 1) (.var 0) (.con (.bl true)) [1]) .nil))) .nil)⟩
/-- number_for(lot, name) -/
def d1 : Df := ⟨2, 0, (.cons (.ife (.cmp .notin (.var 1) (.bi .dict (.cons (.var 0) .nil))) (.cons (.raise 2) .nil) .nil) (.cons (.ret (.idx (.bi .dict (.cons (.var 0) .nil)) (.var 1))) .nil))⟩
/-- heard(lot, calls) -/
def d2 : Df := ⟨2, 6, (.cons (.own 2 (.dic .nil .nil)) (.cons (.for_ (.t [3, 4]) (.var 1) (.cons (.for_ (.t [5, 6]) (.enu (.call 0 (.cons (.call 1 (.cons (.var 0) (.cons (.var 3) .nil))) .nil))) (.cons (.ife (.cmp .eq (.var 6) (.con (.str [49]))) (.cons (.put 2 (.bin .add (.var 4) (.var 5)) (.con (.bl true))) .nil) .nil) .nil)) .nil)) (.cons (.ret (.me .join (.con (.str [])) (.cons (.comp (.idx (.lst (.cons (.con (.str [48])) (.cons (.con (.str [49])) .nil))) (.bi .int (.cons (.cmp .isin (.var 7) (.var 2)) .nil))) (.n 7) (.rng (.con (.int 0)) (.bin .add (.bi .max (.cons (.bin .add (.bi .list (.cons (.var 2) .nil)) (.lst (.cons (.neg (.con (.int 1))) .nil))) .nil)) (.con (.int 1)))) (.con (.bl true)) [7]) .nil))) .nil)))⟩
/-- alone(lot, name) -/
def d3 : Df := ⟨2, 0, (.cons (.ret (.call 2 (.cons (.var 0) (.cons (.tup (.cons (.tup (.cons (.var 1) (.cons (.con (.int 0)) .nil))) .nil)) .nil)))) .nil)⟩
/-- _law_cell_at(_law_script, _law_k) -/
def d4 : Df := ⟨2, 0, (.cons (.ife (.cmp .lt (.var 1) (.bi .len (.cons (.var 0) .nil))) (.cons (.ret (.idx (.var 0) (.var 1))) .nil) .nil) (.cons (.ret (.con (.int 0))) .nil))⟩
/-- _law_mixed(_law_script, _law_k) -/
def d5 : Df := ⟨2, 1, (.cons (.set 2 (.bin .mod (.bin .mul (.bin .add (.bin .add (.call 4 (.cons (.var 0) (.cons (.var 1) .nil))) (.bin .mul (.con (.int 7919)) (.var 1))) (.con (.int 1))) (.con (.int 48271))) (.con (.int 2147483647)))) (.cons (.ret (.bin .mod (.bin .add (.bin .add (.bin .mul (.var 2) (.var 2)) (.bin .mul (.con (.int 7)) (.var 2))) (.var 1)) (.con (.int 2147483629)))) .nil))⟩
/-- _law_drawn(_law_number_here, _law_k) -/
def d6 : Df := ⟨2, 1, (.cons (.set 2 (.bin .mod (.bin .mul (.bin .add (.bin .add (.var 0) (.bin .mul (.con (.int 104729)) (.var 1))) (.con (.int 17))) (.con (.int 69621))) (.con (.int 2147483647)))) (.cons (.ret (.bin .mod (.bin .add (.bin .add (.bin .mul (.var 2) (.var 2)) (.bin .mul (.con (.int 3)) (.var 2))) (.var 1)) (.con (.int 2147483629)))) .nil))⟩
/-- _law_number(_law_number_here, _law_most) -/
def d7 : Df := ⟨2, 1, (.cons (.ret (.bi .tuple (.cons (.comp (.bin .add (.con (.int 1)) (.bin .mod (.bin .fdiv (.call 6 (.cons (.var 0) (.cons (.var 2) .nil))) (.con (.int 16))) (.con (.int 4)))) (.n 2) (.rng (.con (.int 0)) (.bin .add (.con (.int 1)) (.bin .mod (.bin .fdiv (.var 0) (.con (.int 16))) (.var 1)))) (.con (.bl true)) [2]) .nil))) .nil)⟩
/-- _law_lot(_law_number_here, _law_boxes, _law_most) -/
def d8 : Df := ⟨3, 5, (.cons (.own 3 (.dic .nil .nil)) (.cons (.own 4 (.lst .nil)) (.cons (.for_ (.t [5, 6]) (.enu (.sl (.tup (.cons (.con (.str [97])) (.cons (.con (.str [98])) (.cons (.con (.str [98, 111, 120])) (.cons (.con (.str [99])) (.cons (.con (.str [122, 122])) (.cons (.con (.str [122, 122, 122, 122])) .nil))))))) (.con .non) (.bin .add (.con (.int 1)) (.bin .mod (.bin .fdiv (.var 0) (.con (.int 16))) (.var 1))))) (.cons (.set 7 (.call 7 (.cons (.call 6 (.cons (.var 0) (.cons (.bin .add (.con (.int 20)) (.var 5)) .nil))) (.cons (.var 2) .nil)))) (.cons (.ife (.cmp .notin (.var 7) (.var 4)) (.cons (.app 4 (.var 7)) (.cons (.put 3 (.var 6) (.var 7)) .nil)) .nil) .nil))) (.cons (.ret (.bi .tuple (.cons (.comp (.tup (.cons (.var 6) (.cons (.idx (.var 3) (.var 6)) .nil))) (.n 6) (.bi .sorted (.cons (.var 3) .nil)) (.con (.bl true)) [6]) .nil))) .nil))))⟩
/-- _law_calls(_law_lot_here, _law_number_here, _law_wait) -/
def d9 : Df := ⟨3, 6, (.cons (.set 3 (.sl (.comp (.idx (.var 6) (.con (.int 0))) (.t [5, 6]) (.enu (.var 0)) (.cmp .eq (.bin .mod (.bin .fdiv (.call 6 (.cons (.var 1) (.cons (.bin .add (.con (.int 40)) (.var 5)) .nil))) (.con (.int 16))) (.con (.int 2))) (.con (.int 0))) [5, 6]) (.con .non) (.con (.int 3)))) (.cons (.set 4 (.comp (.bin .mod (.bin .fdiv (.call 6 (.cons (.var 1) (.cons (.bin .add (.con (.int 60)) (.var 5)) .nil))) (.con (.int 16))) (.bin .add (.var 2) (.con (.int 1)))) (.n 5) (.rng (.con (.int 0)) (.bi .len (.cons (.var 3) .nil))) (.con (.bl true)) [5])) (.cons (.ret (.bi .tuple (.cons (.comp (.tup (.cons (.var 7) (.cons (.bin .sub (.var 8) (.bi .min (.cons (.var 4) .nil))) .nil))) (.t [7, 8]) (.zip (.var 3) (.var 4)) (.con (.bl true)) [7, 8]) .nil))) .nil)))⟩
/-- _law_made_calls(_law_lot_here, _law_number_here, _law_wait, _law_many) -/
def d10 : Df := ⟨4, 1, (.cons (.set 4 (.sl (.call 9 (.cons (.var 0) (.cons (.var 1) (.cons (.var 2) .nil)))) (.con .non) (.var 3))) (.cons (.ife (.cmp .ne (.var 4) (.tup .nil)) (.cons (.set 4 (.bin .add (.tup (.cons (.tup (.cons (.idx (.idx (.var 4) (.con (.int 0))) (.con (.int 0))) (.cons (.con (.int 0)) .nil))) .nil)) (.sl (.var 4) (.con (.int 1)) (.con .non)))) .nil) .nil) (.cons (.ret (.var 4)) .nil)))⟩
/-- law(_law_script) -/
def d11 : Df := ⟨1, 15, (.cons (.set 1 (.call 8 (.cons (.call 5 (.cons (.var 0) (.cons (.con (.int 0)) .nil))) (.cons (.con (.int 4)) (.cons (.con (.int 3)) .nil))))) (.cons (.set 2 (.bin .mod (.call 5 (.cons (.var 0) (.cons (.con (.int 1)) .nil))) (.con (.int 13)))) (.cons (.set 3 (.call 10 (.cons (.var 1) (.cons (.call 5 (.cons (.var 0) (.cons (.con (.int 2)) .nil))) (.cons (.var 2) (.cons (.con (.int 3)) .nil)))))) (.cons (.set 4 (.call 2 (.cons (.var 1) (.cons (.var 3) .nil)))) (.cons (.own 5 (.lst .nil)) (.cons (.for_ (.t [8, 9]) (.var 3) (.cons (.app 5 (.bin .add (.bin .mul (.con (.str [48])) (.var 9)) (.call 0 (.cons (.call 1 (.cons (.var 1) (.cons (.var 8) .nil))) .nil)))) (.cons (.ife (.cmp .ne (.call 3 (.cons (.var 1) (.cons (.var 8) .nil))) (.call 0 (.cons (.call 1 (.cons (.var 1) (.cons (.var 8) .nil))) .nil))) (.cons (.ret (.con (.bl false))) .nil) .nil) .nil))) (.cons (.set 6 (.bi .max (.cons (.bin .add (.comp (.bi .len (.cons (.var 14) .nil)) (.n 14) (.var 5) (.con (.bl true)) [14]) (.lst (.cons (.con (.int 0)) .nil))) .nil))) (.cons (.ife (.or (.cmp .ne (.bi .len (.cons (.var 4) .nil)) (.var 6)) (.or (.cmp .eq (.sl (.var 4) (.con .non) (.con (.int 1))) (.con (.str [48]))) (.cmp .eq (.sl (.var 4) (.bin .sub (.bi .len (.cons (.var 4) .nil)) (.con (.int 1))) (.con .non)) (.con (.str [48]))))) (.cons (.ret (.con (.bl false))) .nil) .nil) (.cons (.for_ (.n 7) (.rng (.con (.int 0)) (.var 6)) (.cons (.set 10 (.cmp .ne (.comp (.var 14) (.n 14) (.var 5) (.cmp .eq (.sl (.var 14) (.var 7) (.bin .add (.var 7) (.con (.int 1)))) (.con (.str [49]))) [14]) (.lst .nil))) (.cons (.ife (.cmp .ne (.cmp .eq (.idx (.var 4) (.var 7)) (.con (.str [49]))) (.var 10)) (.cons (.ret (.con (.bl false))) .nil) .nil) .nil))) (.cons (.for_ (.n 7) (.rng (.con (.int 0)) (.bi .len (.cons (.var 3) .nil))) (.cons (.set 11 (.bin .add (.sl (.var 3) (.con .non) (.var 7)) (.sl (.var 3) (.bin .add (.var 7) (.con (.int 1))) (.con .non)))) (.cons (.set 12 (.bi .min (.cons (.bin .add (.comp (.var 9) (.t [8, 9]) (.var 11) (.con (.bl true)) [8, 9]) (.lst (.cons (.con (.int 99)) .nil))) .nil))) (.cons (.ife (.or (.cmp .eq (.var 11) (.tup .nil)) (.cmp .gt (.var 12) (.con (.int 0)))) (.cons .cont .nil) .nil) (.cons (.set 13 (.call 2 (.cons (.var 1) (.cons (.var 11) .nil)))) (.cons (.ife (.cmp .ne (.comp (.var 15) (.n 15) (.rng (.con (.int 0)) (.bi .len (.cons (.var 13) .nil))) (.and (.cmp .eq (.idx (.var 13) (.var 15)) (.con (.str [49]))) (.cmp .ne (.idx (.var 4) (.var 15)) (.con (.str [49])))) [15]) (.lst .nil)) (.cons (.ret (.con (.bl false))) .nil) .nil) .nil)))))) (.cons (.ret (.cmp .eq (.call 2 (.cons (.var 1) (.cons (.tup .nil) .nil))) (.con (.str [])))) .nil)))))))))))⟩
/-- calls_from(lot, first, many, wait) -/
def d12 : Df := ⟨4, 5, (.cons (.own 4 (.lst (.cons (.tup .nil) .nil))) (.cons (.ife (.cmp .eq (.var 2) (.con (.int 0))) (.cons (.frz 4) (.cons (.ret (.var 4)) .nil)) .nil) (.cons (.for_ (.n 5) (.rng (.var 1) (.bi .len (.cons (.var 0) .nil))) (.cons (.set 6 (.call 12 (.cons (.var 0) (.cons (.bin .add (.var 5) (.con (.int 1))) (.cons (.bin .sub (.var 2) (.con (.int 1))) (.cons (.var 3) .nil)))))) (.cons (.for_ (.n 7) (.rng (.con (.int 0)) (.bin .add (.var 3) (.con (.int 1)))) (.cons (.ext 4 (.comp (.bin .add (.tup (.cons (.tup (.cons (.idx (.idx (.var 0) (.var 5)) (.con (.int 0))) (.cons (.var 7) .nil))) .nil)) (.var 8)) (.n 8) (.var 6) (.con (.bl true)) [8])) .nil)) .nil))) (.cons (.frz 4) (.cons (.ret (.var 4)) .nil)))))⟩
/-- all_calls(lot, many, wait) -/
def d13 : Df := ⟨3, 3, (.cons (.set 3 (.call 12 (.cons (.var 0) (.cons (.con (.int 0)) (.cons (.var 1) (.cons (.var 2) .nil)))))) (.cons (.ret (.bi .tuple (.cons (.bi .sorted (.cons (.comp (.var 4) (.n 4) (.var 3) (.or (.cmp .eq (.bi .len (.cons (.var 4) .nil)) (.con (.int 0))) (.cmp .eq (.bi .min (.cons (.comp (.idx (.var 5) (.con (.int 1))) (.n 5) (.var 4) (.con (.bl true)) [5]) .nil)) (.con (.int 0)))) [4]) .nil)) .nil))) .nil))⟩
/-- off(one, other) -/
def d14 : Df := ⟨2, 3, (.cons (.set 2 (.bi .max2 (.cons (.bi .len (.cons (.var 0) .nil)) (.cons (.bi .len (.cons (.var 1) .nil)) .nil)))) (.cons (.set 0 (.bin .add (.var 0) (.bin .mul (.con (.str [48])) (.bin .sub (.var 2) (.bi .len (.cons (.var 0) .nil)))))) (.cons (.set 1 (.bin .add (.var 1) (.bin .mul (.con (.str [48])) (.bin .sub (.var 2) (.bi .len (.cons (.var 1) .nil)))))) (.cons (.ret (.bi .len (.cons (.comp (.con (.int 1)) (.t [3, 4]) (.zip (.var 0) (.var 1)) (.cmp .ne (.var 3) (.var 4)) [3, 4]) .nil))) .nil))))⟩
/-- nearest(lot, many, wait, text) -/
def d15 : Df := ⟨4, 1, (.cons (.ret (.bi .min (.cons (.comp (.tup (.cons (.call 14 (.cons (.var 3) (.cons (.call 2 (.cons (.var 0) (.cons (.var 4) .nil))) .nil))) (.cons (.var 4) .nil))) (.n 4) (.call 13 (.cons (.var 0) (.cons (.var 1) (.cons (.var 2) .nil)))) (.con (.bl true)) [4]) .nil))) .nil)⟩
/-- _law_off(_law_one, _law_other) -/
def d16 : Df := ⟨2, 4, (.cons (.set 2 (.bi .max2 (.cons (.bi .len (.cons (.var 0) .nil)) (.cons (.bi .len (.cons (.var 1) .nil)) .nil)))) (.cons (.set 3 (.bin .add (.var 0) (.bin .mul (.con (.str [48])) (.bin .sub (.var 2) (.bi .len (.cons (.var 0) .nil)))))) (.cons (.set 4 (.bin .add (.var 1) (.bin .mul (.con (.str [48])) (.bin .sub (.var 2) (.bi .len (.cons (.var 1) .nil)))))) (.cons (.ret (.bi .len (.cons (.comp (.var 5) (.n 5) (.rng (.con (.int 0)) (.var 2)) (.cmp .ne (.idx (.var 3) (.var 5)) (.idx (.var 4) (.var 5))) [5]) .nil))) .nil))))⟩
/-- _law_text(_law_number_here) -/
def d17 : Df := ⟨1, 1, (.cons (.ret (.me .join (.con (.str [])) (.cons (.comp (.idx (.con (.str [48, 48, 49, 48, 49, 49, 48, 49, 48, 48])) (.bin .mod (.bin .fdiv (.call 6 (.cons (.var 0) (.cons (.var 1) .nil))) (.con (.int 16))) (.con (.int 10)))) (.n 1) (.rng (.con (.int 0)) (.bin .mod (.bin .fdiv (.var 0) (.con (.int 16))) (.con (.int 12)))) (.con (.bl true)) [1]) .nil))) .nil)⟩
/-- law(_law_script) -/
def d18 : Df := ⟨1, 13, (.cons (.tsetL [6, 7, 8] (.comp (.call 17 (.cons (.call 5 (.cons (.var 0) (.cons (.var 12) .nil))) .nil)) (.n 12) (.rng (.con (.int 0)) (.con (.int 3))) (.con (.bl true)) [12])) (.cons (.set 1 (.call 14 (.cons (.var 6) (.cons (.var 7) .nil)))) (.cons (.ife (.or (.isa (.var 1) .bool) (.or (.cmp .ne (.var 1) (.call 14 (.cons (.var 7) (.cons (.var 6) .nil)))) (.cmp .ne (.var 1) (.call 16 (.cons (.var 6) (.cons (.var 7) .nil)))))) (.cons (.ret (.con (.bl false))) .nil) .nil) (.cons (.ife (.or (.cmp .gt (.var 1) (.bin .add (.call 14 (.cons (.var 6) (.cons (.var 8) .nil))) (.call 14 (.cons (.var 8) (.cons (.var 7) .nil))))) (.cmp .ne (.call 14 (.cons (.var 6) (.cons (.bin .add (.var 6) (.con (.str [48, 48, 48]))) .nil))) (.con (.int 0)))) (.cons (.ret (.con (.bl false))) .nil) .nil) (.cons (.ife (.cmp .ne (.cmp .eq (.var 1) (.con (.int 0))) (.cmp .eq (.me .rstrip (.var 6) (.cons (.con (.str [48])) .nil)) (.me .rstrip (.var 7) (.cons (.con (.str [48])) .nil)))) (.cons (.ret (.con (.bl false))) .nil) .nil) (.cons (.for_ (.n 2) (.rng (.con (.int 0)) (.bi .len (.cons (.var 6) .nil))) (.cons (.set 9 (.bin .add (.bin .add (.sl (.var 6) (.con .non) (.var 2)) (.idx (.con (.str [49, 48])) (.bi .int (.cons (.idx (.var 6) (.var 2)) .nil)))) (.sl (.var 6) (.bin .add (.var 2) (.con (.int 1))) (.con .non)))) (.cons (.ife (.or (.cmp .ne (.call 14 (.cons (.var 6) (.cons (.var 9) .nil))) (.con (.int 1))) (.cmp .ne (.bi .abs (.cons (.bin .sub (.call 14 (.cons (.var 9) (.cons (.var 7) .nil))) (.var 1)) .nil)) (.con (.int 1)))) (.cons (.ret (.con (.bl false))) .nil) .nil) .nil))) (.cons (.set 3 (.call 8 (.cons (.call 5 (.cons (.var 0) (.cons (.con (.int 3)) .nil))) (.cons (.con (.int 3)) (.cons (.con (.int 2)) .nil))))) (.cons (.set 4 (.bin .mod (.call 5 (.cons (.var 0) (.cons (.con (.int 4)) .nil))) (.con (.int 4)))) (.cons (.tset [10, 11] (.call 15 (.cons (.var 3) (.cons (.con (.int 2)) (.cons (.var 4) (.cons (.var 6) .nil)))))) (.cons (.set 5 (.comp (.call 14 (.cons (.call 2 (.cons (.var 3) (.cons (.var 13) .nil))) (.cons (.var 6) .nil))) (.n 13) (.call 13 (.cons (.var 3) (.cons (.con (.int 2)) (.cons (.var 4) .nil)))) (.con (.bl true)) [13])) (.cons (.ret (.and (.cmp .eq (.var 10) (.bi .min (.cons (.var 5) .nil))) (.cmp .eq (.var 11) (.idx (.call 13 (.cons (.var 3) (.cons (.con (.int 2)) (.cons (.var 4) .nil)))) (.me .index (.var 5) (.cons (.var 10) .nil)))))) .nil)))))))))))⟩
/-- taps(number) -/
def d19 : Df := ⟨1, 0, (.cons (.ret (.bi .sum (.cons (.var 0) .nil))) .nil)⟩
/-- long(number) -/
def d20 : Df := ⟨1, 0, (.cons (.ret (.bi .len (.cons (.call 0 (.cons (.var 0) .nil)) .nil))) .nil)⟩
/-- may_be(lot, many, wait, text) -/
def d21 : Df := ⟨4, 1, (.cons (.ret (.bi .tuple (.cons (.comp (.var 4) (.n 4) (.call 13 (.cons (.var 0) (.cons (.var 1) (.cons (.var 2) .nil)))) (.cmp .eq (.call 2 (.cons (.var 0) (.cons (.var 4) .nil))) (.var 3)) [4]) .nil))) .nil)⟩
/-- names_of(calls) -/
def d22 : Df := ⟨1, 2, (.cons (.ret (.bi .tuple (.cons (.comp (.var 1) (.t [1, 2]) (.var 0) (.con (.bl true)) [1, 2]) .nil))) .nil)⟩
/-- need_calls(lot, many, wait, text) -/
def d23 : Df := ⟨4, 2, (.cons (.set 4 (.comp (.call 22 (.cons (.var 5) .nil)) (.n 5) (.call 21 (.cons (.var 0) (.cons (.var 1) (.cons (.var 2) (.cons (.var 3) .nil))))) (.con (.bl true)) [5])) (.cons (.ife (.cmp .eq (.bi .len (.cons (.var 4) .nil)) (.con (.int 0))) (.cons (.raise 3) .nil) .nil) (.cons (.ret (.var 4)) .nil)))⟩
/-- surely(lot, many, wait, text) -/
def d24 : Df := ⟨4, 4, (.cons (.set 4 (.call 23 (.cons (.var 0) (.cons (.var 1) (.cons (.var 2) (.cons (.var 3) .nil)))))) (.cons (.ret (.bi .tuple (.cons (.comp (.var 5) (.t [5, 6]) (.var 0) (.bi .all (.cons (.comp (.cmp .isin (.var 5) (.var 7)) (.n 7) (.var 4) (.con (.bl true)) [7]) .nil)) [5, 6]) .nil))) .nil))⟩
/-- possibly(lot, many, wait, text) -/
def d25 : Df := ⟨4, 4, (.cons (.set 4 (.call 23 (.cons (.var 0) (.cons (.var 1) (.cons (.var 2) (.cons (.var 3) .nil)))))) (.cons (.ret (.bi .tuple (.cons (.comp (.var 5) (.t [5, 6]) (.var 0) (.bi .any (.cons (.comp (.cmp .isin (.var 5) (.var 7)) (.n 7) (.var 4) (.con (.bl true)) [7]) .nil)) [5, 6]) .nil))) .nil))⟩
/-- _law_has_all(_law_lot_here, _law_calls_here, _law_names, _law_text) -/
def d26 : Df := ⟨4, 6, (.cons (.for_ (.n 4) (.var 2) (.cons (.set 5 (.bi .tuple (.cons (.comp (.var 7) (.n 7) (.var 1) (.cmp .ne (.idx (.var 7) (.con (.int 0))) (.var 4)) [7]) .nil))) (.cons (.ife (.cmp .gt (.bi .min (.cons (.bin .add (.comp (.var 9) (.t [7, 9]) (.var 5) (.con (.bl true)) [7, 9]) (.lst (.cons (.con (.int 99)) .nil))) .nil)) (.con (.int 0))) (.cons .cont .nil) .nil) (.cons (.set 6 (.call 2 (.cons (.var 0) (.cons (.var 5) .nil)))) (.cons (.ife (.cmp .ne (.comp (.var 8) (.n 8) (.rng (.con (.int 0)) (.bi .len (.cons (.var 6) .nil))) (.and (.cmp .eq (.idx (.var 6) (.var 8)) (.con (.str [49]))) (.cmp .ne (.idx (.var 3) (.var 8)) (.con (.str [49])))) [8]) (.lst .nil)) (.cons (.ret (.con (.bl false))) .nil) .nil) .nil))))) (.cons (.ret (.con (.bl true))) .nil))⟩
/-- law(_law_script) -/
def d27 : Df := ⟨1, 15, (.cons (.set 1 (.call 8 (.cons (.call 5 (.cons (.var 0) (.cons (.con (.int 0)) .nil))) (.cons (.con (.int 4)) (.cons (.con (.int 3)) .nil))))) (.cons (.set 2 (.call 5 (.cons (.var 0) (.cons (.con (.int 1)) .nil)))) (.cons (.set 3 (.bin .mod (.bin .fdiv (.var 2) (.con (.int 16))) (.con (.int 5)))) (.cons (.set 4 (.sl (.call 9 (.cons (.var 1) (.cons (.call 5 (.cons (.var 0) (.cons (.con (.int 2)) .nil))) (.cons (.var 3) .nil)))) (.con .non) (.con (.int 2)))) (.cons (.ife (.and (.cmp .ne (.var 4) (.tup .nil)) (.cmp .gt (.bi .min (.cons (.comp (.idx (.var 14) (.con (.int 1))) (.n 14) (.var 4) (.con (.bl true)) [14]) .nil)) (.con (.int 0)))) (.cons (.set 4 (.bin .add (.tup (.cons (.tup (.cons (.idx (.idx (.var 4) (.con (.int 0))) (.con (.int 0))) (.cons (.con (.int 0)) .nil))) .nil)) (.sl (.var 4) (.con (.int 1)) (.con .non)))) .nil) .nil) (.cons (.set 5 (.call 2 (.cons (.var 1) (.cons (.var 4) .nil)))) (.cons (.set 6 (.call 21 (.cons (.var 1) (.cons (.con (.int 2)) (.cons (.var 3) (.cons (.var 5) .nil)))))) (.cons (.ife (.or (.cmp .notin (.var 4) (.var 6)) (.or (.cmp .ne (.bi .list (.cons (.var 6) .nil)) (.sset (.var 6))) (.cmp .notin (.var 4) (.call 13 (.cons (.var 1) (.cons (.con (.int 2)) (.cons (.var 3) .nil))))))) (.cons (.ret (.con (.bl false))) .nil) .nil) (.cons (.set 7 (.comp (.idx (.var 14) (.con (.int 0))) (.n 14) (.var 4) (.con (.bl true)) [14])) (.cons (.set 8 (.call 24 (.cons (.var 1) (.cons (.con (.int 2)) (.cons (.var 3) (.cons (.var 5) .nil)))))) (.cons (.set 9 (.call 25 (.cons (.var 1) (.cons (.con (.int 2)) (.cons (.var 3) (.cons (.var 5) .nil)))))) (.cons (.ife (.or (.cmp .ne (.comp (.var 13) (.n 13) (.var 8) (.cmp .notin (.var 13) (.var 7)) [13]) (.lst .nil)) (.cmp .ne (.comp (.var 13) (.n 13) (.var 7) (.cmp .notin (.var 13) (.var 9)) [13]) (.lst .nil))) (.cons (.ret (.con (.bl false))) .nil) .nil) (.cons (.for_ (.n 10) (.var 6) (.cons (.ife (.or (.cmp .ne (.call 2 (.cons (.var 1) (.cons (.var 10) .nil))) (.var 5)) (.cmp .ne (.comp (.var 13) (.n 13) (.var 8) (.cmp .notin (.var 13) (.bi .dict (.cons (.var 10) .nil))) [13]) (.lst .nil))) (.cons (.ret (.con (.bl false))) .nil) .nil) .nil)) (.cons (.ife (.cmp .ne (.bi .len (.cons (.var 5) .nil)) (.bi .max (.cons (.bin .add (.lst (.cons (.con (.int 0)) .nil)) (.comp (.bin .add (.var 15) (.call 20 (.cons (.call 1 (.cons (.var 1) (.cons (.var 13) .nil))) .nil))) (.t [13, 15]) (.var 4) (.con (.bl true)) [13, 15])) .nil))) (.cons (.ret (.con (.bl false))) .nil) .nil) (.cons (.ife (.cmp .gt (.me .count (.var 5) (.cons (.con (.str [49])) .nil)) (.bi .sum (.cons (.comp (.call 19 (.cons (.call 1 (.cons (.var 1) (.cons (.var 13) .nil))) .nil)) (.n 13) (.var 7) (.con (.bl true)) [13]) .nil))) (.cons (.ret (.con (.bl false))) .nil) .nil) (.cons (.ife (.not (.call 26 (.cons (.var 1) (.cons (.var 4) (.cons (.var 7) (.cons (.var 5) .nil)))))) (.cons (.ret (.con (.bl false))) .nil) .nil) (.cons (.ife (.or (.cmp .ne (.idx (.call 15 (.cons (.var 1) (.cons (.con (.int 2)) (.cons (.var 3) (.cons (.var 5) .nil))))) (.con (.int 0))) (.con (.int 0))) (.or (.cmp .ne (.idx (.call 15 (.cons (.var 1) (.cons (.con (.int 2)) (.cons (.var 3) (.cons (.var 5) .nil))))) (.con (.int 1))) (.idx (.var 6) (.con (.int 0)))) (.cmp .ne (.call 14 (.cons (.var 5) (.cons (.var 5) .nil))) (.con (.int 0))))) (.cons (.ret (.con (.bl false))) .nil) .nil) (.cons (.set 11 (.bin .mod (.bin .fdiv (.var 2) (.con (.int 1024))) (.bin .add (.bi .len (.cons (.var 5) .nil)) (.con (.int 1))))) (.cons (.set 12 (.bin .add (.bin .add (.sl (.var 5) (.con .non) (.var 11)) (.con (.str [48]))) (.sl (.var 5) (.bin .add (.var 11) (.con (.int 1))) (.con .non)))) (.cons (.ife (.or (.cmp .gt (.call 14 (.cons (.var 5) (.cons (.var 12) .nil))) (.con (.int 1))) (.cmp .gt (.idx (.call 15 (.cons (.var 1) (.cons (.con (.int 2)) (.cons (.var 3) (.cons (.var 12) .nil))))) (.con (.int 0))) (.con (.int 1)))) (.cons (.ret (.con (.bl false))) .nil) .nil) (.cons (.for_ (.t [13, 10]) (.var 1) (.cons (.ife (.cmp .ne (.call 3 (.cons (.var 1) (.cons (.var 13) .nil))) (.call 2 (.cons (.var 1) (.cons (.tup (.cons (.tup (.cons (.var 13) (.cons (.con (.int 0)) .nil))) .nil)) .nil)))) (.cons (.ret (.con (.bl false))) .nil) .nil) .nil)) (.cons (.ret (.cmp .eq (.call 2 (.cons (.var 1) (.cons (.tup .nil) .nil))) (.con (.str [])))) .nil))))))))))))))))))))))⟩
/-- is_whole(thing, low, high) -/
def d28 : Df := ⟨3, 0, (.cons (.ret (.and (.isa (.var 0) .int) (.and (.not (.isa (.var 0) .bool)) (.cmp2 .le .le (.var 1) (.var 0) (.var 2))))) .nil)⟩
/-- is_pair(thing) -/
def d29 : Df := ⟨1, 0, (.cons (.ret (.and (.isa (.var 0) .tuple) (.cmp .eq (.bi .len (.cons (.var 0) .nil)) (.con (.int 2))))) .nil)⟩
/-- rises(row) -/
def d30 : Df := ⟨1, 2, (.cons (.ret (.bi .all (.cons (.comp (.cmp .lt (.var 1) (.var 2)) (.t [1, 2]) (.zip (.sl (.var 0) (.con .non) (.neg (.con (.int 1)))) (.sl (.var 0) (.con (.int 1)) (.con .non))) (.con (.bl true)) [1, 2]) .nil))) .nil)⟩
/-- are_calls(lot, wait, thing) -/
def d31 : Df := ⟨3, 1, (.cons (.ife (.or (.not (.isa (.var 2) .tuple)) (.cmp .gt (.bi .len (.cons (.var 2) .nil)) (.con (.int 3)))) (.cons (.ret (.con (.bl false))) .nil) .nil) (.cons (.ife (.not (.bi .all (.cons (.comp (.and (.call 29 (.cons (.var 3) .nil)) (.and (.isa (.idx (.var 3) (.con (.int 0))) .str) (.call 28 (.cons (.idx (.var 3) (.con (.int 1))) (.cons (.con (.int 0)) (.cons (.var 1) .nil)))))) (.n 3) (.var 2) (.con (.bl true)) [3]) .nil))) (.cons (.ret (.con (.bl false))) .nil) .nil) (.cons (.ife (.or (.not (.bi .all (.cons (.comp (.cmp .isin (.idx (.var 3) (.con (.int 0))) (.bi .dict (.cons (.var 0) .nil))) (.n 3) (.var 2) (.con (.bl true)) [3]) .nil))) (.not (.call 30 (.cons (.comp (.idx (.var 3) (.con (.int 0))) (.n 3) (.var 2) (.con (.bl true)) [3]) .nil)))) (.cons (.ret (.con (.bl false))) .nil) .nil) (.cons (.ret (.or (.cmp .eq (.bi .len (.cons (.var 2) .nil)) (.con (.int 0))) (.cmp .eq (.bi .min (.cons (.comp (.idx (.var 3) (.con (.int 1))) (.n 3) (.var 2) (.con (.bl true)) [3]) .nil)) (.con (.int 0))))) .nil))))⟩
/-- _law_whole(_law_thing, _law_low, _law_high) -/
def d32 : Df := ⟨3, 0, (.cons (.ret (.and (.isa (.var 0) .int) (.and (.not (.isa (.var 0) .bool)) (.cmp2 .le .le (.var 1) (.var 0) (.var 2))))) .nil)⟩
/-- _law_is_pair(_law_thing) -/
def d33 : Df := ⟨1, 0, (.cons (.ret (.and (.isa (.var 0) .tuple) (.cmp .eq (.bi .len (.cons (.var 0) .nil)) (.con (.int 2))))) .nil)⟩
/-- _law_are_calls(_law_lot_here, _law_wait, _law_thing) -/
def d34 : Df := ⟨3, 3, (.cons (.ife (.or (.not (.isa (.var 2) .tuple)) (.cmp .gt (.bi .len (.cons (.var 2) .nil)) (.con (.int 3)))) (.cons (.ret (.con (.bl false))) .nil) .nil) (.cons (.for_ (.n 3) (.var 2) (.cons (.ife (.or (.not (.call 33 (.cons (.var 3) .nil))) (.or (.not (.isa (.idx (.var 3) (.con (.int 0))) .str)) (.not (.call 32 (.cons (.idx (.var 3) (.con (.int 1))) (.cons (.con (.int 0)) (.cons (.var 1) .nil))))))) (.cons (.ret (.con (.bl false))) .nil) .nil) .nil)) (.cons (.set 4 (.comp (.idx (.var 3) (.con (.int 0))) (.n 3) (.var 2) (.con (.bl true)) [3])) (.cons (.ife (.or (.cmp .ne (.comp (.var 5) (.n 5) (.var 4) (.cmp .notin (.var 5) (.bi .dict (.cons (.var 0) .nil))) [5]) (.lst .nil)) (.cmp .ne (.var 4) (.sset (.var 4)))) (.cons (.ret (.con (.bl false))) .nil) .nil) (.cons (.ret (.or (.cmp .eq (.var 2) (.tup .nil)) (.cmp .eq (.bi .min (.cons (.comp (.idx (.var 3) (.con (.int 1))) (.n 3) (.var 2) (.con (.bl true)) [3]) .nil)) (.con (.int 0))))) .nil)))))⟩
/-- _law_chosen(_law_size, _law_few) -/
def d35 : Df := ⟨2, 2, (.cons (.set 2 (.con (.int 1))) (.cons (.for_ (.n 3) (.rng (.con (.int 0)) (.var 1)) (.cons (.set 2 (.bin .fdiv (.bin .mul (.var 2) (.bin .sub (.var 0) (.var 3))) (.bin .add (.var 3) (.con (.int 1))))) .nil)) (.cons (.ret (.var 2)) .nil)))⟩
/-- law(_law_script) -/
def d36 : Df := ⟨1, 13, (.cons (.set 1 (.call 8 (.cons (.call 5 (.cons (.var 0) (.cons (.con (.int 0)) .nil))) (.cons (.con (.int 4)) (.cons (.con (.int 2)) .nil))))) (.cons (.set 2 (.call 5 (.cons (.var 0) (.cons (.con (.int 1)) .nil)))) (.cons (.par 7 8 (.bin .add (.con (.int 1)) (.bin .mod (.bin .fdiv (.var 2) (.con (.int 16))) (.con (.int 3)))) (.bin .mod (.bin .fdiv (.var 2) (.con (.int 64))) (.con (.int 5)))) (.cons (.set 3 (.call 13 (.cons (.var 1) (.cons (.var 7) (.cons (.var 8) .nil))))) (.cons (.ife (.or (.cmp .ne (.bi .list (.cons (.var 3) .nil)) (.sset (.var 3))) (.cmp .ne (.idx (.var 3) (.con (.int 0))) (.tup .nil))) (.cons (.ret (.con (.bl false))) .nil) .nil) (.cons (.set 4 (.con (.int 1))) (.cons (.for_ (.n 5) (.rng (.con (.int 1)) (.bin .add (.var 7) (.con (.int 1)))) (.cons (.tset [12, 13] (.tup (.cons (.con (.int 1)) (.cons (.con (.int 1)) .nil)))) (.cons (.for_ (.n 9) (.rng (.con (.int 0)) (.var 5)) (.cons (.par 12 13 (.bin .mul (.var 12) (.bin .add (.var 8) (.con (.int 1)))) (.bin .mul (.var 13) (.var 8))) .nil)) (.cons (.set 4 (.bin .add (.var 4) (.bin .mul (.call 35 (.cons (.bi .len (.cons (.var 1) .nil)) (.cons (.var 5) .nil))) (.bin .sub (.var 12) (.var 13))))) .nil)))) (.cons (.ife (.cmp .ne (.bi .len (.cons (.var 3) .nil)) (.var 4)) (.cons (.ret (.con (.bl false))) .nil) .nil) (.cons (.for_ (.n 6) (.var 3) (.cons (.ife (.cmp .isnt (.call 31 (.cons (.var 1) (.cons (.var 8) (.cons (.var 6) .nil)))) (.con (.bl true))) (.cons (.ret (.con (.bl false))) .nil) .nil) .nil)) (.cons (.ife (.cmp .gt (.var 7) (.con (.int 1))) (.cons (.set 10 (.call 13 (.cons (.var 1) (.cons (.bin .sub (.var 7) (.con (.int 1))) (.cons (.var 8) .nil))))) (.cons (.ife (.cmp .ne (.comp (.var 6) (.n 6) (.var 10) (.cmp .notin (.var 6) (.var 3)) [6]) (.lst .nil)) (.cons (.ret (.con (.bl false))) .nil) .nil) .nil)) .nil) (.cons (.ife (.cmp .gt (.var 8) (.con (.int 0))) (.cons (.set 11 (.call 13 (.cons (.var 1) (.cons (.var 7) (.cons (.bin .sub (.var 8) (.con (.int 1))) .nil))))) (.cons (.for_ (.n 6) (.var 3) (.cons (.ife (.cmp .ne (.cmp .isin (.var 6) (.var 11)) (.call 34 (.cons (.var 1) (.cons (.bin .sub (.var 8) (.con (.int 1))) (.cons (.var 6) .nil))))) (.cons (.ret (.con (.bl false))) .nil) .nil) .nil)) .nil)) .nil) (.cons (.ret (.cmp .eq (.comp (.var 6) (.n 6) (.var 3) (.cmp .gt (.bi .len (.cons (.var 6) .nil)) (.var 7)) [6]) (.lst .nil))) .nil))))))))))))⟩
/-- is_number(thing) -/
def d37 : Df := ⟨1, 1, (.cons (.ife (.or (.not (.isa (.var 0) .tuple)) (.not (.cmp2 .le .le (.con (.int 1)) (.bi .len (.cons (.var 0) .nil)) (.con (.int 3))))) (.cons (.ret (.con (.bl false))) .nil) .nil) (.cons (.ret (.bi .all (.cons (.comp (.call 28 (.cons (.var 1) (.cons (.con (.int 1)) (.cons (.con (.int 4)) .nil)))) (.n 1) (.var 0) (.con (.bl true)) [1]) .nil))) .nil))⟩
/-- all_of(many) -/
def d38 : Df := ⟨1, 5, (.cons (.set 1 (.lst (.cons (.tup .nil) .nil))) (.cons (.for_ (.n 2) (.rng (.con (.int 0)) (.var 0)) (.cons (.own 3 (.lst .nil)) (.cons (.for_ (.n 4) (.var 1) (.cons (.ext 3 (.comp (.bin .add (.var 4) (.tup (.cons (.var 5) .nil))) (.n 5) (.rng (.con (.int 1)) (.bin .add (.con (.int 4)) (.con (.int 1)))) (.con (.bl true)) [5])) .nil)) (.cons (.frz 3) (.cons (.set 1 (.var 3)) .nil))))) (.cons (.ret (.var 1)) .nil)))⟩
/-- all_numbers(most, most_taps) -/
def d39 : Df := ⟨2, 3, (.cons (.own 2 (.lst .nil)) (.cons (.for_ (.n 3) (.rng (.con (.int 1)) (.bin .add (.var 0) (.con (.int 1)))) (.cons (.ext 2 (.comp (.var 4) (.n 4) (.call 38 (.cons (.var 3) .nil)) (.cmp .le (.call 19 (.cons (.var 4) .nil)) (.var 1)) [4])) .nil)) (.cons (.ret (.bi .tuple (.cons (.bi .sorted (.cons (.var 2) .nil)) .nil))) .nil)))⟩
/-- law(_law_script) -/
def d40 : Df := ⟨1, 11, (.cons (.set 1 (.call 5 (.cons (.var 0) (.cons (.con (.int 0)) .nil)))) (.cons (.par 5 6 (.bin .add (.con (.int 1)) (.bin .mod (.bin .fdiv (.var 1) (.con (.int 16))) (.con (.int 3)))) (.bin .add (.con (.int 1)) (.bin .mod (.bin .fdiv (.var 1) (.con (.int 64))) (.con (.int 13))))) (.cons (.set 2 (.call 39 (.cons (.var 5) (.cons (.var 6) .nil)))) (.cons (.ife (.or (.cmp .ne (.bi .list (.cons (.var 2) .nil)) (.sset (.var 2))) (.cmp .ne (.comp (.var 4) (.n 4) (.var 2) (.cmp .isnt (.call 37 (.cons (.var 4) .nil)) (.con (.bl true))) [4]) (.lst .nil))) (.cons (.ret (.con (.bl false))) .nil) .nil) (.cons (.ife (.cmp .ne (.comp (.var 4) (.n 4) (.var 2) (.or (.cmp .gt (.bi .len (.cons (.var 4) .nil)) (.var 5)) (.cmp .gt (.call 19 (.cons (.var 4) .nil)) (.var 6))) [4]) (.lst .nil)) (.cons (.ret (.con (.bl false))) .nil) .nil) (.cons (.ife (.cmp .ne (.comp (.var 4) (.n 4) (.var 2) (.cmp .notin (.var 4) (.call 39 (.cons (.var 5) (.cons (.bin .add (.var 6) (.con (.int 1))) .nil)))) [4]) (.lst .nil)) (.cons (.ret (.con (.bl false))) .nil) .nil) (.cons (.par 7 8 (.dic (.cons (.con (.int 0)) .nil) (.cons (.con (.int 1)) .nil)) (.con (.int 0))) (.cons (.for_ (.n 3) (.rng (.con (.int 0)) (.var 5)) (.cons (.own 9 (.dic .nil .nil)) (.cons (.for_ (.n 10) (.keys (.var 7)) (.cons (.for_ (.n 11) (.tup (.cons (.con (.int 1)) (.cons (.con (.int 2)) (.cons (.con (.int 3)) (.cons (.con (.int 4)) .nil))))) (.cons (.put 9 (.bin .add (.var 10) (.var 11)) (.bin .add (.me .get (.var 9) (.cons (.bin .add (.var 10) (.var 11)) (.cons (.con (.int 0)) .nil))) (.idx (.var 7) (.var 10)))) .nil)) .nil)) (.cons (.frz 9) (.cons (.set 7 (.var 9)) (.cons (.set 8 (.bin .add (.var 8) (.bi .sum (.cons (.comp (.idx (.var 7) (.var 10)) (.n 10) (.keys (.var 7)) (.cmp .le (.var 10) (.var 6)) [10]) .nil)))) .nil)))))) (.cons (.ife (.cmp .ne (.bi .len (.cons (.var 2) .nil)) (.var 8)) (.cons (.ret (.con (.bl false))) .nil) .nil) (.cons (.set 4 (.call 7 (.cons (.call 5 (.cons (.var 0) (.cons (.con (.int 1)) .nil))) (.cons (.con (.int 3)) .nil)))) (.cons (.ret (.cmp .eq (.cmp .isin (.var 4) (.var 2)) (.and (.cmp .le (.bi .len (.cons (.var 4) .nil)) (.var 5)) (.cmp .le (.bi .sum (.cons (.var 4) .nil)) (.var 6))))) .nil)))))))))))⟩
/-- marks(text, begin) -/
def d41 : Df := ⟨2, 1, (.cons (.ret (.bin .add (.bin .add (.bin .mul (.con (.str [46])) (.var 1)) (.me .join (.con (.str [])) (.cons (.comp (.idx (.lst (.cons (.con (.str [46])) (.cons (.con (.str [124])) .nil))) (.bi .int (.cons (.cmp .eq (.var 2) (.con (.str [49]))) .nil))) (.n 2) (.var 0) (.con (.bl true)) [2]) .nil))) (.con (.str [10])))) .nil)⟩
/-- picture(lot, calls) -/
def d42 : Df := ⟨2, 3, (.cons (.set 2 (.comp (.call 41 (.cons (.call 0 (.cons (.call 1 (.cons (.var 0) (.cons (.var 3) .nil))) .nil)) (.cons (.var 4) .nil))) (.t [3, 4]) (.var 1) (.con (.bl true)) [3, 4])) (.cons (.ret (.bin .add (.me .join (.con (.str [])) (.cons (.var 2) .nil)) (.call 41 (.cons (.call 2 (.cons (.var 0) (.cons (.var 1) .nil))) (.cons (.con (.int 0)) .nil))))) .nil))⟩
/-- law(_law_script) -/
def d43 : Df := ⟨1, 13, (.cons (.set 1 (.call 8 (.cons (.call 5 (.cons (.var 0) (.cons (.con (.int 0)) .nil))) (.cons (.con (.int 4)) (.cons (.con (.int 3)) .nil))))) (.cons (.set 2 (.call 10 (.cons (.var 1) (.cons (.call 5 (.cons (.var 0) (.cons (.con (.int 1)) .nil))) (.cons (.bin .mod (.call 5 (.cons (.var 0) (.cons (.con (.int 2)) .nil))) (.con (.int 13))) (.cons (.con (.int 3)) .nil)))))) (.cons (.set 3 (.call 42 (.cons (.var 1) (.cons (.var 2) .nil)))) (.cons (.set 4 (.me .split (.var 3) (.cons (.con (.str [10])) .nil))) (.cons (.ife (.or (.cmp .ne (.idx (.var 4) (.neg (.con (.int 1)))) (.con (.str []))) (.cmp .ne (.bi .len (.cons (.var 4) .nil)) (.bin .add (.bi .len (.cons (.var 2) .nil)) (.con (.int 2))))) (.cons (.ret (.con (.bl false))) .nil) .nil) (.cons (.for_ (.t [8, 9]) (.zip (.var 4) (.var 2)) (.cons (.set 10 (.call 1 (.cons (.var 1) (.cons (.idx (.var 9) (.con (.int 0))) .nil)))) (.cons (.ife (.or (.cmp .ne (.bi .len (.cons (.var 8) .nil)) (.bin .add (.idx (.var 9) (.con (.int 1))) (.call 20 (.cons (.var 10) .nil)))) (.cmp .ne (.me .count (.var 8) (.cons (.con (.str [124])) .nil)) (.call 19 (.cons (.var 10) .nil)))) (.cons (.ret (.con (.bl false))) .nil) .nil) (.cons (.ife (.or (.cmp .ne (.sl (.var 8) (.con .non) (.idx (.var 9) (.con (.int 1)))) (.bin .mul (.con (.str [46])) (.idx (.var 9) (.con (.int 1))))) (.cmp .ne (.me .replace (.me .replace (.sl (.var 8) (.idx (.var 9) (.con (.int 1))) (.con .non)) (.cons (.con (.str [124])) (.cons (.con (.str [49])) .nil))) (.cons (.con (.str [46])) (.cons (.con (.str [48])) .nil))) (.call 3 (.cons (.var 1) (.cons (.idx (.var 9) (.con (.int 0))) .nil))))) (.cons (.ret (.con (.bl false))) .nil) .nil) .nil)))) (.cons (.set 5 (.idx (.var 4) (.neg (.con (.int 2))))) (.cons (.ife (.cmp .ne (.me .replace (.me .replace (.var 5) (.cons (.con (.str [124])) (.cons (.con (.str [49])) .nil))) (.cons (.con (.str [46])) (.cons (.con (.str [48])) .nil))) (.call 2 (.cons (.var 1) (.cons (.var 2) .nil)))) (.cons (.ret (.con (.bl false))) .nil) .nil) (.cons (.for_ (.t [11, 12]) (.enu (.var 5)) (.cons (.set 13 (.comp (.var 8) (.n 8) (.sl (.var 4) (.con .non) (.neg (.con (.int 2)))) (.cmp .eq (.sl (.var 8) (.var 11) (.bin .add (.var 11) (.con (.int 1)))) (.con (.str [124]))) [8])) (.cons (.ife (.cmp .ne (.cmp .eq (.var 12) (.con (.str [124]))) (.cmp .ne (.var 13) (.lst .nil))) (.cons (.ret (.con (.bl false))) .nil) .nil) .nil))) (.cons (.set 6 (.idx (.idx (.var 1) (.con (.int 0))) (.con (.int 0)))) (.cons (.set 7 (.me .split (.call 42 (.cons (.var 1) (.cons (.tup (.cons (.tup (.cons (.var 6) (.cons (.con (.int 0)) .nil))) .nil)) .nil))) (.cons (.con (.str [10])) .nil))) (.cons (.ret (.and (.cmp .eq (.idx (.var 7) (.con (.int 0))) (.idx (.var 7) (.con (.int 1)))) (.cmp .eq (.call 42 (.cons (.var 1) (.cons (.tup .nil) .nil))) (.con (.str [10]))))) .nil))))))))))))⟩
/-- _law_beats(_law_number_here) -/
def d44 : Df := ⟨1, 2, (.cons (.set 1 (.con (.str []))) (.cons (.for_ (.n 2) (.var 0) (.cons (.set 1 (.bin .add (.bin .add (.var 1) (.bin .mul (.con (.str [48, 48, 48])) (.bi .int (.cons (.cmp .ne (.var 1) (.con (.str []))) .nil)))) (.sl (.bin .mul (.con (.str [49, 48])) (.var 2)) (.con .non) (.neg (.con (.int 1)))))) .nil)) (.cons (.ret (.var 1)) .nil)))⟩
/-- _law_heard(_law_lot_here, _law_calls_here) -/
def d45 : Df := ⟨2, 7, (.cons (.set 2 (.bi .dict (.cons (.var 0) .nil))) (.cons (.own 3 (.lst .nil)) (.cons (.for_ (.t [4, 5]) (.var 1) (.cons (.set 6 (.bin .add (.bin .mul (.con (.str [48])) (.var 5)) (.call 44 (.cons (.idx (.var 2) (.var 4)) .nil)))) (.cons (.own 3 (.lcat (.var 3) (.lrep (.cons (.con (.str [48])) .nil) (.bin .sub (.bi .len (.cons (.var 6) .nil)) (.bi .len (.cons (.var 3) .nil)))))) (.cons (.for_ (.t [7, 8]) (.enu (.var 6)) (.cons (.ife (.cmp .eq (.var 8) (.con (.str [49]))) (.cons (.put 3 (.var 7) (.con (.str [49]))) .nil) .nil) .nil)) .nil)))) (.cons (.ret (.me .join (.con (.str [])) (.cons (.var 3) .nil))) .nil))))⟩
/-- _law_every(_law_lot_here, _law_many, _law_wait) -/
def d46 : Df := ⟨3, 9, (.cons (.set 3 (.lst (.cons (.tup .nil) .nil))) (.cons (.set 4 (.lst (.cons (.tup .nil) .nil))) (.cons (.for_ (.n 5) (.rng (.con (.int 0)) (.var 1)) (.cons (.own 6 (.lst .nil)) (.cons (.for_ (.n 7) (.var 4) (.cons (.for_ (.t [8, 9]) (.var 0) (.cons (.ife (.or (.cmp .eq (.var 7) (.tup .nil)) (.cmp .gt (.var 8) (.idx (.idx (.var 7) (.neg (.con (.int 1)))) (.con (.int 0))))) (.cons (.ext 6 (.comp (.bin .add (.var 7) (.tup (.cons (.tup (.cons (.var 8) (.cons (.var 10) .nil))) .nil))) (.n 10) (.rng (.con (.int 0)) (.bin .add (.var 2) (.con (.int 1)))) (.con (.bl true)) [10])) .nil) .nil) .nil)) .nil)) (.cons (.frz 6) (.cons (.set 4 (.var 6)) (.cons (.set 3 (.bin .add (.var 3) (.var 4))) .nil)))))) (.cons (.ret (.bi .sorted (.cons (.comp (.var 7) (.n 7) (.var 3) (.or (.cmp .eq (.var 7) (.tup .nil)) (.cmp .eq (.bi .min (.cons (.comp (.idx (.var 11) (.con (.int 1))) (.n 11) (.var 7) (.con (.bl true)) [11]) .nil)) (.con (.int 0)))) [7]) .nil))) .nil))))⟩
/-- law(_law_script) -/
def d47 : Df := ⟨1, 20, (.cons (.set 1 (.call 8 (.cons (.call 5 (.cons (.var 0) (.cons (.con (.int 0)) .nil))) (.cons (.con (.int 4)) (.cons (.con (.int 2)) .nil))))) (.cons (.set 2 (.call 5 (.cons (.var 0) (.cons (.con (.int 1)) .nil)))) (.cons (.set 3 (.bin .add (.con (.int 1)) (.bin .mod (.bin .fdiv (.var 2) (.con (.int 16))) (.con (.int 2))))) (.cons (.set 4 (.bin .mod (.bin .fdiv (.var 2) (.con (.int 64))) (.idx (.tup (.cons (.con (.int 13)) (.cons (.con (.int 7)) .nil))) (.bin .sub (.var 3) (.con (.int 1)))))) (.cons (.set 5 (.call 45 (.cons (.var 1) (.cons (.call 9 (.cons (.var 1) (.cons (.call 5 (.cons (.var 0) (.cons (.con (.int 2)) .nil))) (.cons (.var 4) .nil)))) .nil)))) (.cons (.set 6 (.bin .mod (.bin .fdiv (.var 2) (.con (.int 1024))) (.bin .add (.bi .len (.cons (.var 5) .nil)) (.con (.int 1))))) (.cons (.ife (.cmp .gt (.bin .mod (.bin .fdiv (.var 2) (.con (.int 16384))) (.con (.int 3))) (.con (.int 0))) (.cons (.set 5 (.bin .add (.bin .add (.sl (.var 5) (.con .non) (.var 6)) (.idx (.tup (.cons (.con (.str [49])) (.cons (.con (.str [48])) (.cons (.con (.str [])) .nil)))) (.bin .mod (.bin .fdiv (.var 2) (.con (.int 65536))) (.con (.int 3))))) (.sl (.var 5) (.bin .add (.var 6) (.con (.int 1))) (.con .non)))) .nil) .nil) (.cons (.set 7 (.call 46 (.cons (.var 1) (.cons (.var 3) (.cons (.var 4) .nil))))) (.cons (.set 8 (.comp (.tup (.cons (.call 45 (.cons (.var 1) (.cons (.var 16) .nil))) (.cons (.var 16) .nil))) (.n 16) (.var 7) (.con (.bl true)) [16])) (.cons (.set 9 (.comp (.var 16) (.t [17, 16]) (.var 8) (.cmp .eq (.var 17) (.var 5)) [17, 16])) (.cons (.ife (.cmp .ne (.call 21 (.cons (.var 1) (.cons (.var 3) (.cons (.var 4) (.cons (.var 5) .nil))))) (.bi .tuple (.cons (.var 9) .nil))) (.cons (.ret (.con (.bl false))) .nil) .nil) (.cons (.set 10 (.comp (.comp (.idx (.var 18) (.con (.int 0))) (.n 18) (.var 16) (.con (.bl true)) [18]) (.n 16) (.var 9) (.con (.bl true)) [16])) (.cons (.set 11 (.bi .tuple (.cons (.comp (.idx (.var 19) (.con (.int 0))) (.n 19) (.var 1) (.cmp .eq (.comp (.con (.int 1)) (.n 20) (.var 10) (.cmp .notin (.idx (.var 19) (.con (.int 0))) (.var 20)) [20]) (.lst .nil)) [19]) .nil))) (.cons (.set 12 (.bi .tuple (.cons (.comp (.idx (.var 19) (.con (.int 0))) (.n 19) (.var 1) (.cmp .ne (.comp (.con (.int 1)) (.n 20) (.var 10) (.cmp .isin (.idx (.var 19) (.con (.int 0))) (.var 20)) [20]) (.lst .nil)) [19]) .nil))) (.cons (.set 13 (.lst (.cons (.tup (.cons (.con (.str [116, 111, 108, 100])) (.cons (.var 11) .nil))) (.cons (.tup (.cons (.con (.str [116, 111, 108, 100])) (.cons (.var 12) .nil))) .nil)))) (.cons (.ife (.cmp .eq (.var 9) (.lst .nil)) (.cons (.set 13 (.lst (.cons (.tup (.cons (.con (.str [114, 101, 102, 117, 115, 101, 100])) (.cons (.con (.int 2)) .nil))) (.cons (.tup (.cons (.con (.str [114, 101, 102, 117, 115, 101, 100])) (.cons (.con (.int 2)) .nil))) .nil)))) .nil) .nil) (.cons (.own 14 (.lst (.cons (.told (.call 24 (.cons (.var 1) (.cons (.var 3) (.cons (.var 4) (.cons (.var 5) .nil)))))) .nil))) (.cons (.app 14 (.told (.call 25 (.cons (.var 1) (.cons (.var 3) (.cons (.var 4) (.cons (.var 5) .nil))))))) (.cons (.ife (.cmp .ne (.var 14) (.var 13)) (.cons (.ret (.con (.bl false))) .nil) .nil) (.cons (.ife (.cmp .ne (.call 15 (.cons (.var 1) (.cons (.var 3) (.cons (.var 4) (.cons (.var 5) .nil))))) (.bi .min (.cons (.comp (.tup (.cons (.call 16 (.cons (.var 5) (.cons (.var 17) .nil))) (.cons (.var 16) .nil))) (.t [17, 16]) (.var 8) (.con (.bl true)) [17, 16]) .nil))) (.cons (.ret (.con (.bl false))) .nil) .nil) (.cons (.set 15 (.idx (.idx (.var 8) (.bin .mod (.bin .fdiv (.var 2) (.con (.int 524288))) (.bi .len (.cons (.var 8) .nil)))) (.con (.int 0)))) (.cons (.ret (.and (.cmp .eq (.call 14 (.cons (.var 5) (.cons (.var 15) .nil))) (.call 16 (.cons (.var 5) (.cons (.var 15) .nil)))) (.cmp .eq (.call 14 (.cons (.var 15) (.cons (.var 5) .nil))) (.call 14 (.cons (.var 5) (.cons (.var 15) .nil)))))) .nil))))))))))))))))))))))⟩
/-- law(_law_script) -/
def d48 : Df := ⟨1, 8, (.cons (.set 1 (.call 8 (.cons (.call 5 (.cons (.var 0) (.cons (.con (.int 0)) .nil))) (.cons (.con (.int 4)) (.cons (.con (.int 3)) .nil))))) (.cons (.set 2 (.call 5 (.cons (.var 0) (.cons (.con (.int 1)) .nil)))) (.cons (.set 3 (.bin .mod (.bin .fdiv (.var 2) (.con (.int 16))) (.con (.int 13)))) (.cons (.set 4 (.call 9 (.cons (.var 1) (.cons (.call 5 (.cons (.var 0) (.cons (.con (.int 2)) .nil))) (.cons (.var 3) .nil))))) (.cons (.ife (.or (.cmp .ne (.call 2 (.cons (.var 1) (.cons (.var 4) .nil))) (.call 45 (.cons (.var 1) (.cons (.var 4) .nil)))) (.not (.call 31 (.cons (.var 1) (.cons (.var 3) (.cons (.var 4) .nil)))))) (.cons (.ret (.con (.bl false))) .nil) .nil) (.cons (.for_ (.t [7, 8]) (.var 1) (.cons (.ife (.or (.cmp .ne (.call 1 (.cons (.var 1) (.cons (.var 7) .nil))) (.var 8)) (.cmp .ne (.call 3 (.cons (.var 1) (.cons (.var 7) .nil))) (.call 44 (.cons (.var 8) .nil)))) (.cons (.ret (.con (.bl false))) .nil) .nil) .nil)) (.cons (.ife (.cmp .ne (.told (.call 1 (.cons (.var 1) (.cons (.con (.str [110, 111, 110, 101])) .nil)))) (.tup (.cons (.con (.str [114, 101, 102, 117, 115, 101, 100])) (.cons (.con (.int 1)) .nil)))) (.cons (.ret (.con (.bl false))) .nil) .nil) (.cons (.ife (.cmp .ne (.told (.call 3 (.cons (.var 1) (.cons (.con (.str [110, 111, 110, 101])) .nil)))) (.tup (.cons (.con (.str [114, 101, 102, 117, 115, 101, 100])) (.cons (.con (.int 1)) .nil)))) (.cons (.ret (.con (.bl false))) .nil) .nil) (.cons (.set 5 (.bin .add (.con (.int 1)) (.bin .mod (.bin .fdiv (.var 2) (.con (.int 512))) (.con (.int 3))))) (.cons (.set 6 (.idx (.tup (.cons (.var 3) (.cons (.bin .mod (.var 3) (.con (.int 4))) (.cons (.bin .mod (.var 3) (.con (.int 3))) .nil)))) (.bin .sub (.var 5) (.con (.int 1))))) (.cons (.ret (.cmp .eq (.call 13 (.cons (.var 1) (.cons (.var 5) (.cons (.var 6) .nil)))) (.bi .tuple (.cons (.call 46 (.cons (.var 1) (.cons (.var 5) (.cons (.var 6) .nil)))) .nil)))) .nil)))))))))))⟩
/-- number_of(text) -/
def d49 : Df := ⟨1, 1, (.cons (.for_ (.n 1) (.call 39 (.cons (.con (.int 3)) (.cons (.bin .mul (.con (.int 3)) (.con (.int 4))) .nil))) (.cons (.ife (.cmp .eq (.call 0 (.cons (.var 1) .nil)) (.var 0)) (.cons (.ret (.var 1)) .nil) .nil) .nil)) (.cons (.raise 1) .nil))⟩
/-- law(_law_script) -/
def d50 : Df := ⟨1, 15, (.cons (.set 1 (.call 7 (.cons (.call 5 (.cons (.var 0) (.cons (.con (.int 0)) .nil))) (.cons (.con (.int 3)) .nil)))) (.cons (.set 2 (.call 44 (.cons (.var 1) .nil))) (.cons (.ife (.or (.cmp .ne (.call 0 (.cons (.var 1) .nil)) (.var 2)) (.or (.cmp .ne (.call 19 (.cons (.var 1) .nil)) (.me .count (.var 2) (.cons (.con (.str [49])) .nil))) (.or (.cmp .ne (.call 20 (.cons (.var 1) .nil)) (.bi .len (.cons (.var 2) .nil))) (.cmp .ne (.call 49 (.cons (.var 2) .nil)) (.var 1))))) (.cons (.ret (.con (.bl false))) .nil) .nil) (.cons (.set 3 (.call 5 (.cons (.var 0) (.cons (.con (.int 1)) .nil)))) (.cons (.own 4 (.lst .nil)) (.cons (.for_ (.n 5) (.rng (.con (.int 1)) (.con (.int 5))) (.cons (.app 4 (.tup (.cons (.var 5) .nil))) (.cons (.for_ (.n 13) (.rng (.con (.int 1)) (.con (.int 5))) (.cons (.app 4 (.tup (.cons (.var 5) (.cons (.var 13) .nil)))) (.cons (.ext 4 (.comp (.tup (.cons (.var 5) (.cons (.var 13) (.cons (.var 15) .nil)))) (.n 15) (.rng (.con (.int 1)) (.con (.int 5))) (.con (.bl true)) [15])) .nil))) .nil))) (.cons (.set 6 (.bin .mod (.bin .fdiv (.var 3) (.con (.int 16))) (.bin .add (.bi .len (.cons (.var 2) .nil)) (.con (.int 1))))) (.cons (.set 7 (.tup (.cons (.bin .add (.sl (.var 2) (.con .non) (.var 6)) (.sl (.var 2) (.bin .add (.var 6) (.con (.int 1))) (.con .non))) (.cons (.bin .add (.bin .add (.sl (.var 2) (.con .non) (.var 6)) (.con (.str [48]))) (.sl (.var 2) (.var 6) (.con .non))) (.cons (.bin .add (.bin .add (.sl (.var 2) (.con .non) (.var 6)) (.con (.str [49]))) (.sl (.var 2) (.var 6) (.con .non))) (.cons (.con (.str [])) (.cons (.bin .add (.var 2) (.con (.str [48]))) (.cons (.con (.str [120])) .nil)))))))) (.cons (.set 8 (.idx (.var 7) (.bin .mod (.bin .fdiv (.var 3) (.con (.int 512))) (.con (.int 6))))) (.cons (.set 9 (.comp (.var 14) (.n 14) (.var 4) (.cmp .eq (.call 44 (.cons (.var 14) .nil)) (.var 8)) [14])) (.cons (.set 10 (.tup (.cons (.con (.str [114, 101, 102, 117, 115, 101, 100])) (.cons (.con (.int 0)) .nil)))) (.cons (.ife (.cmp .ne (.var 9) (.lst .nil)) (.cons (.set 10 (.tup (.cons (.con (.str [116, 111, 108, 100])) (.cons (.idx (.var 9) (.con (.int 0))) .nil)))) .nil) .nil) (.cons (.ife (.or (.cmp .gt (.bi .len (.cons (.var 9) .nil)) (.con (.int 1))) (.cmp .ne (.told (.call 49 (.cons (.var 8) .nil))) (.var 10))) (.cons (.ret (.con (.bl false))) .nil) .nil) (.cons (.set 11 (.bin .add (.con (.int 1)) (.bin .mod (.bin .fdiv (.var 3) (.con (.int 4096))) (.con (.int 3))))) (.cons (.set 12 (.bin .mod (.bin .fdiv (.var 3) (.con (.int 16384))) (.con (.int 14)))) (.cons (.ret (.cmp .eq (.call 39 (.cons (.var 11) (.cons (.var 12) .nil))) (.bi .tuple (.cons (.comp (.var 14) (.n 14) (.bi .sorted (.cons (.var 4) .nil)) (.and (.cmp .le (.bi .len (.cons (.var 14) .nil)) (.var 11)) (.cmp .le (.bi .sum (.cons (.var 14) .nil)) (.var 12))) [14]) .nil)))) .nil))))))))))))))))⟩
/-- law(_law_script) -/
def d51 : Df := ⟨1, 8, (.cons (.set 1 (.call 7 (.cons (.call 5 (.cons (.var 0) (.cons (.con (.int 0)) .nil))) (.cons (.con (.int 3)) .nil)))) (.cons (.set 2 (.call 7 (.cons (.call 5 (.cons (.var 0) (.cons (.con (.int 1)) .nil))) (.cons (.con (.int 3)) .nil)))) (.cons (.set 3 (.call 0 (.cons (.var 1) .nil))) (.cons (.ife (.or (.cmp .ne (.var 3) (.me .join (.con (.str [48, 48, 48])) (.cons (.comp (.call 0 (.cons (.tup (.cons (.var 8) .nil)) .nil)) (.n 8) (.var 1) (.con (.bl true)) [8]) .nil))) (.cmp .ne (.call 0 (.cons (.rev (.var 1)) .nil)) (.rev (.var 3)))) (.cons (.ret (.con (.bl false))) .nil) .nil) (.cons (.ife (.or (.cmp .ne (.call 19 (.cons (.var 1) .nil)) (.bi .sum (.cons (.var 1) .nil))) (.or (.cmp .ne (.me .count (.var 3) (.cons (.con (.str [49])) .nil)) (.bi .sum (.cons (.var 1) .nil))) (.cmp .ne (.call 20 (.cons (.var 1) .nil)) (.bi .len (.cons (.var 3) .nil))))) (.cons (.ret (.con (.bl false))) .nil) .nil) (.cons (.ife (.cmp .ne (.call 20 (.cons (.var 1) .nil)) (.bin .add (.bin .sub (.bin .mul (.con (.int 2)) (.bi .sum (.cons (.var 1) .nil))) (.bi .len (.cons (.var 1) .nil))) (.bin .mul (.con (.int 3)) (.bin .sub (.bi .len (.cons (.var 1) .nil)) (.con (.int 1)))))) (.cons (.ret (.con (.bl false))) .nil) .nil) (.cons (.ife (.or (.cmp .ne (.call 49 (.cons (.var 3) .nil)) (.var 1)) (.cmp .ne (.cmp .eq (.call 0 (.cons (.var 2) .nil)) (.var 3)) (.cmp .eq (.var 2) (.var 1)))) (.cons (.ret (.con (.bl false))) .nil) .nil) (.cons (.for_ (.n 4) (.rng (.con (.int 0)) (.bi .len (.cons (.var 3) .nil))) (.cons (.set 6 (.bin .add (.bin .add (.sl (.var 3) (.con .non) (.var 4)) (.idx (.con (.str [49, 48])) (.bi .int (.cons (.idx (.var 3) (.var 4)) .nil)))) (.sl (.var 3) (.bin .add (.var 4) (.con (.int 1))) (.con .non)))) (.cons (.set 7 (.told (.call 49 (.cons (.var 6) .nil)))) (.cons (.ife (.and (.cmp .eq (.idx (.var 7) (.con (.int 0))) (.con (.str [116, 111, 108, 100]))) (.or (.cmp .isnt (.call 37 (.cons (.idx (.var 7) (.con (.int 1))) .nil)) (.con (.bl true))) (.cmp .ne (.call 0 (.cons (.idx (.var 7) (.con (.int 1))) .nil)) (.var 6)))) (.cons (.ret (.con (.bl false))) .nil) .nil) (.cons (.ife (.and (.cmp .eq (.idx (.var 7) (.con (.int 0))) (.con (.str [114, 101, 102, 117, 115, 101, 100]))) (.cmp .ne (.var 7) (.tup (.cons (.con (.str [114, 101, 102, 117, 115, 101, 100])) (.cons (.con (.int 0)) .nil))))) (.cons (.ret (.con (.bl false))) .nil) .nil) .nil))))) (.cons (.for_ (.n 5) (.tup (.cons (.con (.str [])) (.cons (.con (.str [48])) (.cons (.bin .add (.var 3) (.con (.str [48]))) (.cons (.bin .add (.con (.str [48])) (.var 3)) (.cons (.bin .add (.bin .add (.var 3) (.con (.str [48, 48]))) (.var 3)) (.cons (.bin .add (.bin .add (.var 3) (.con (.str [48, 48, 48, 48]))) (.var 3)) .nil))))))) (.cons (.set 7 (.told (.call 49 (.cons (.var 5) .nil)))) (.cons (.ife (.cmp .ne (.var 7) (.tup (.cons (.con (.str [114, 101, 102, 117, 115, 101, 100])) (.cons (.con (.int 0)) .nil)))) (.cons (.ret (.con (.bl false))) .nil) .nil) .nil))) (.cons (.ret (.and (.cmp .eq (.call 0 (.cons (.tup (.cons (.con (.int 1)) .nil)) .nil)) (.con (.str [49]))) (.cmp .eq (.call 0 (.cons (.tup (.cons (.con (.int 2)) (.cons (.con (.int 1)) .nil))) .nil)) (.con (.str [49, 48, 49, 48, 48, 48, 49]))))) .nil))))))))))⟩
def PPl : List (Option Df) := [some d0, some d1, some d2, some d3, some d4, some d5, some d6, some d7, some d8, some d9, some d10, some d11, some d12, some d13, some d14, some d15, some d16, some d17, some d18, some d19, some d20, some d21, some d22, some d23, some d24, some d25, some d26, some d27, some d28, some d29, some d30, some d31, some d32, some d33, some d34, some d35, some d36, some d37, some d38, some d39, some d40, some d41, some d42, some d43, some d44, some d45, some d46, some d47, some d48, some d49, some d50, some d51]
/-- all defs -/
def PP (n : Nat) : Option Df := PPl.getD n none
end TD
end
section
set_option Elab.async false
set_option linter.all false
set_option maxRecDepth 1000000
set_option maxHeartbeats 4000000
/-! The defs of law_k02_whole_beats_of_counts, printed by gen.py. -/
namespace K02
open PySem L2 PySem.Spec TD
open PyProof.Rows hiding St
abbrev tp (i : Nat) : Stmt := PySem.Challenge.pw_tapdeal_k02_whole_beats_of_counts.main.body.getD i (.Pass ⟨0, 0, 0, 0⟩)
def N28 : List Str := ["thing", "low", "high"]
theorem sc28 : FnScope N28 ["thing", "low", "high"] (defScope (tp 13)) := ⟨rfl, rfl, rfl, by decide +kernel, rfl, by decide +kernel, by decide +kernel⟩
def N37 : List Str := ["thing", "count"]
theorem sc37 : FnScope N37 ["thing"] (defScope (tp 14)) := ⟨rfl, rfl, rfl, by decide +kernel, rfl, by decide +kernel, by decide +kernel⟩
def N0 : List Str := ["number", "count"]
theorem sc0 : FnScope N0 ["number"] (defScope (tp 15)) := ⟨rfl, rfl, rfl, by decide +kernel, rfl, by decide +kernel, by decide +kernel⟩
def N19 : List Str := ["number"]
theorem sc19 : FnScope N19 ["number"] (defScope (tp 16)) := ⟨rfl, rfl, rfl, by decide +kernel, rfl, by decide +kernel, by decide +kernel⟩
def N20 : List Str := ["number"]
theorem sc20 : FnScope N20 ["number"] (defScope (tp 17)) := ⟨rfl, rfl, rfl, by decide +kernel, rfl, by decide +kernel, by decide +kernel⟩
def N38 : List Str := ["many", "found", "turn", "longer", "number", "count"]
theorem sc38 : FnScope N38 ["many"] (defScope (tp 18)) := ⟨rfl, rfl, rfl, by decide +kernel, rfl, by decide +kernel, by decide +kernel⟩
def N39 : List Str := ["most", "most_taps", "found", "many", "number"]
theorem sc39 : FnScope N39 ["most", "most_taps"] (defScope (tp 19)) := ⟨rfl, rfl, rfl, by decide +kernel, rfl, by decide +kernel, by decide +kernel⟩
def N49 : List Str := ["text", "number"]
theorem sc49 : FnScope N49 ["text"] (defScope (tp 20)) := ⟨rfl, rfl, rfl, by decide +kernel, rfl, by decide +kernel, by decide +kernel⟩
def N4 : List Str := ["_law_script", "_law_k"]
theorem sc4 : FnScope N4 ["_law_script", "_law_k"] (defScope (tp 22)) := ⟨rfl, rfl, rfl, by decide +kernel, rfl, by decide +kernel, by decide +kernel⟩
def N5 : List Str := ["_law_script", "_law_k", "_law_drawn_here"]
theorem sc5 : FnScope N5 ["_law_script", "_law_k"] (defScope (tp 23)) := ⟨rfl, rfl, rfl, by decide +kernel, rfl, by decide +kernel, by decide +kernel⟩
def N6 : List Str := ["_law_number_here", "_law_k", "_law_drawn_here"]
theorem sc6 : FnScope N6 ["_law_number_here", "_law_k"] (defScope (tp 24)) := ⟨rfl, rfl, rfl, by decide +kernel, rfl, by decide +kernel, by decide +kernel⟩
def N7 : List Str := ["_law_number_here", "_law_most", "_law_k"]
theorem sc7 : FnScope N7 ["_law_number_here", "_law_most"] (defScope (tp 25)) := ⟨rfl, rfl, rfl, by decide +kernel, rfl, by decide +kernel, by decide +kernel⟩
def N51 : List Str := ["_law_script", "_law_one", "_law_other", "_law_text", "_law_at", "_law_bad", "_law_bent", "_law_told_here", "_law_count"]
theorem sc51 : FnScope N51 ["_law_script"] (defScope (tp 27)) := ⟨rfl, rfl, rfl, by decide +kernel, rfl, by decide +kernel, by decide +kernel⟩
/-- what stands behind the top -/
structure Gl (C : Cs) (ad : Nat → Addr) (fdt : Nat → FuncData) : Prop where
  f28 : Fun C.K "is_whole" "is_whole" (tp 13) (ad 28) (fdt 28)
  m28 : C.mg "is_whole" = some (.ref (ad 28))
  i28 : Binds C.K (fdt 28) ["thing", "low", "high"] []
  f37 : Fun C.K "is_number" "is_number" (tp 14) (ad 37) (fdt 37)
  m37 : C.mg "is_number" = some (.ref (ad 37))
  i37 : Binds C.K (fdt 37) ["thing"] []
  f0 : Fun C.K "beats" "beats" (tp 15) (ad 0) (fdt 0)
  m0 : C.mg "beats" = some (.ref (ad 0))
  i0 : Binds C.K (fdt 0) ["number"] []
  f19 : Fun C.K "taps" "taps" (tp 16) (ad 19) (fdt 19)
  m19 : C.mg "taps" = some (.ref (ad 19))
  i19 : Binds C.K (fdt 19) ["number"] []
  f20 : Fun C.K "long" "long" (tp 17) (ad 20) (fdt 20)
  m20 : C.mg "long" = some (.ref (ad 20))
  i20 : Binds C.K (fdt 20) ["number"] []
  f38 : Fun C.K "all_of" "all_of" (tp 18) (ad 38) (fdt 38)
  m38 : C.mg "all_of" = some (.ref (ad 38))
  i38 : Binds C.K (fdt 38) ["many"] []
  f39 : Fun C.K "all_numbers" "all_numbers" (tp 19) (ad 39) (fdt 39)
  m39 : C.mg "all_numbers" = some (.ref (ad 39))
  i39 : Binds C.K (fdt 39) ["most", "most_taps"] []
  f49 : Fun C.K "number_of" "number_of" (tp 20) (ad 49) (fdt 49)
  m49 : C.mg "number_of" = some (.ref (ad 49))
  i49 : Binds C.K (fdt 49) ["text"] []
  f4 : Fun C.K "_law_cell_at" "_law_cell_at" (tp 22) (ad 4) (fdt 4)
  m4 : C.mg "_law_cell_at" = some (.ref (ad 4))
  i4 : Binds C.K (fdt 4) ["_law_script", "_law_k"] []
  f5 : Fun C.K "_law_mixed" "_law_mixed" (tp 23) (ad 5) (fdt 5)
  m5 : C.mg "_law_mixed" = some (.ref (ad 5))
  i5 : Binds C.K (fdt 5) ["_law_script", "_law_k"] []
  f6 : Fun C.K "_law_drawn" "_law_drawn" (tp 24) (ad 6) (fdt 6)
  m6 : C.mg "_law_drawn" = some (.ref (ad 6))
  i6 : Binds C.K (fdt 6) ["_law_number_here", "_law_k"] []
  f7 : Fun C.K "_law_number" "_law_number" (tp 25) (ad 7) (fdt 7)
  m7 : C.mg "_law_number" = some (.ref (ad 7))
  i7 : Binds C.K (fdt 7) ["_law_number_here", "_law_most"] []
  f51 : Fun C.K "law" "law" (tp 27) (ad 51) (fdt 51)
  m51 : C.mg "law" = some (.ref (ad 51))
  i51 : Binds C.K (fdt 51) ["_law_script"] []
  cMOST_COUNT : ∃ u, C.mg "MOST_COUNT" = some u ∧ L2.RelV (.int 4) u
  cMOST_COUNTS : ∃ u, C.mg "MOST_COUNTS" = some u ∧ L2.RelV (.int 3) u
  cPAUSE : ∃ u, C.mg "PAUSE" = some u ∧ L2.RelV (.str (toS [48, 48, 48])) u
  cQUIET : ∃ u, C.mg "QUIET" = some u ∧ L2.RelV (.str (toS [48])) u
  cTAP : ∃ u, C.mg "TAP" = some u ∧ L2.RelV (.str (toS [49])) u
  nValueError : C.mg "ValueError" = none
  nall : C.mg "all" = none
  nbool : C.mg "bool" = none
  nint : C.mg "int" = none
  nisinstance : C.mg "isinstance" = none
  nlen : C.mg "len" = none
  nrange : C.mg "range" = none
  nsorted : C.mg "sorted" = none
  nsum : C.mg "sum" = none
  ntuple : C.mg "tuple" = none
  x1 : XIn C 1
  t1 : C.mg "NoNumber" = some (.ref (C.exc 1))
  k1 : PySem.W.keepIn C.K (.ref (C.exc 1)) = true
  b1 : PySem.W.subIn C.K (.ref (C.exc 1)) (.type "BaseException") = some true
  y1 : PySem.W.typeIn C.K (.ref (C.exc 1)) = some (.type "type")
  xt : XTab C
  told : ToldOk C
  l51 : MkOk C "law" (tp 27) (ad 51) (fdt 51)
structure Cal (C : Cs) (ad : Nat → Addr) (fdt : Nat → FuncData) (fn : Fns) (k : Nat) : Prop where
  c28 : FnOk C.P C.w C.K C.mg C.base (L2.CX C.P C.w) k (ad 28) (fdt 28) ["thing", "low", "high"] (spOf C (fn.call 28) 3)
  c37 : FnOk C.P C.w C.K C.mg C.base (L2.CX C.P C.w) k (ad 37) (fdt 37) ["thing"] (spOf C (fn.call 37) 1)
  c0 : FnOk C.P C.w C.K C.mg C.base (L2.CX C.P C.w) k (ad 0) (fdt 0) ["number"] (spOf C (fn.call 0) 1)
  c19 : FnOk C.P C.w C.K C.mg C.base (L2.CX C.P C.w) k (ad 19) (fdt 19) ["number"] (spOf C (fn.call 19) 1)
  c20 : FnOk C.P C.w C.K C.mg C.base (L2.CX C.P C.w) k (ad 20) (fdt 20) ["number"] (spOf C (fn.call 20) 1)
  c38 : FnOk C.P C.w C.K C.mg C.base (L2.CX C.P C.w) k (ad 38) (fdt 38) ["many"] (spOf C (fn.call 38) 1)
  c39 : FnOk C.P C.w C.K C.mg C.base (L2.CX C.P C.w) k (ad 39) (fdt 39) ["most", "most_taps"] (spOf C (fn.call 39) 2)
  c49 : FnOk C.P C.w C.K C.mg C.base (L2.CX C.P C.w) k (ad 49) (fdt 49) ["text"] (spOf C (fn.call 49) 1)
  c4 : FnOk C.P C.w C.K C.mg C.base (L2.CX C.P C.w) k (ad 4) (fdt 4) ["_law_script", "_law_k"] (spOf C (fn.call 4) 2)
  c5 : FnOk C.P C.w C.K C.mg C.base (L2.CX C.P C.w) k (ad 5) (fdt 5) ["_law_script", "_law_k"] (spOf C (fn.call 5) 2)
  c6 : FnOk C.P C.w C.K C.mg C.base (L2.CX C.P C.w) k (ad 6) (fdt 6) ["_law_number_here", "_law_k"] (spOf C (fn.call 6) 2)
  c7 : FnOk C.P C.w C.K C.mg C.base (L2.CX C.P C.w) k (ad 7) (fdt 7) ["_law_number_here", "_law_most"] (spOf C (fn.call 7) 2)
  c51 : FnOk C.P C.w C.K C.mg C.base (L2.CX C.P C.w) k (ad 51) (fdt 51) ["_law_script"] (spOf C (fn.call 51) 1)
section
variable {C : Cs} {ad : Nat → Addr} {fdt : Nat → FuncData} {fn : Fns} {kk : Nat} {X : Cx} {W : WX}
theorem body28 (g : Gl C ad fdt) (c : Cal C ad fdt fn kk) (h : XOk C (ckOf N28 (tp 13)) kk W X) (hp : PassesOwn (model X.prog X.w) X.A X.env X.xe) : PSs X (defBody (tp 13)) (tSs C W fn d28.body) :=
  (dss_cons (ds_ret (de_and h (du_isa h (by decide +kernel) g.nisinstance (by decide +kernel) g.nint (ty := .int) (de_var h (i := 0) (by decide +kernel) (by decide +kernel) (by decide +kernel) (by decide +kernel)) (by decide +kernel) rfl (by decide) rfl rfl rfl) (de_and h (de_not h (du_isa h (by decide +kernel) g.nisinstance (by decide +kernel) g.nbool (ty := .bool) (de_var h (i := 0) (by decide +kernel) (by decide +kernel) (by decide +kernel) (by decide +kernel)) (by decide +kernel) rfl (by decide) rfl rfl rfl)) (du_and1 (de_cmp2 h (o := .le) (p := .le) (de_var h (i := 1) (by decide +kernel) (by decide +kernel) (by decide +kernel) (by decide +kernel)) (de_var h (i := 0) (by decide +kernel) (by decide +kernel) (by decide +kernel) (by decide +kernel)) (de_var h (i := 2) (by decide +kernel) (by decide +kernel) (by decide +kernel) (by decide +kernel)) rfl))))) dss_nil)
theorem body37 (g : Gl C ad fdt) (c : Cal C ad fdt fn kk) (h : XOk C (ckOf N37 (tp 14)) kk W X) (hp : PassesOwn (model X.prog X.w) X.A X.env X.xe) : PSs X (defBody (tp 14)) (tSs C W fn d37.body) :=
  (dss_cons (ds_ife h (PW.pt (dw_or (dt_not (dt_val h (du_isa h (by decide +kernel) g.nisinstance (by decide +kernel) g.ntuple (ty := .tuple) (de_var h (i := 0) (by decide +kernel) (by decide +kernel) (by decide +kernel) (by decide +kernel)) (by decide +kernel) rfl (by decide) rfl rfl rfl) (fun _ => rfl))) (pw_or1 (dt_not (dt_cmp2 h (o := .le) (p := .le) de_int (du_len h (by decide +kernel) g.nlen (da_cons (de_var h (i := 0) (by decide +kernel) (by decide +kernel) (by decide +kernel) (by decide +kernel)) da_nil rfl) rfl rfl) (du_gint h (by decide +kernel) g.cMOST_COUNTS (by decide +kernel)) rfl))))) (dss_cons (ds_ret de_bl) dss_nil) dss_nil) (dss_cons (ds_ret (du_all h (by decide +kernel) g.nall (da_cons (de_comp h (own := [("count", 1)]) (t := (.n 1)) (di_plain h (de_var h (i := 0) (by decide +kernel) (by decide +kernel) (by decide +kernel) (by decide +kernel))) (by decide +kernel) (fun _ h' => (dg_one h' (i := 1) (by decide +kernel) (by decide +kernel))) (fun _ h' => dts_nil) (fun _ h' => (de_call h' c.c28 (by decide +kernel) g.m28 g.f28.kp g.i28 (df_cons (de_var h' (i := 1) (by decide +kernel) (by decide +kernel) (by decide +kernel) (by decide +kernel)) (df_cons de_int (df_cons (du_gint h' (by decide +kernel) g.cMOST_COUNT (by decide +kernel)) df_nil rfl) rfl) rfl) rfl (by decide +kernel) rfl rfl)) (by decide +kernel) (fun _ => rfl)) da_nil rfl) rfl rfl)) dss_nil))
theorem body0 (g : Gl C ad fdt) (c : Cal C ad fdt fn kk) (h : XOk C (ckOf N0 (tp 15)) kk W X) (hp : PassesOwn (model X.prog X.w) X.A X.env X.xe) : PSs X (defBody (tp 15)) (tSs C W fn d0.body) :=
  (dss_cons (ds_ret (du_join h (du_gstr h (by decide +kernel) g.cPAUSE (by decide +kernel)) (de_comp h (own := [("count", 1)]) (t := (.n 1)) (di_plain h (de_var h (i := 0) (by decide +kernel) (by decide +kernel) (by decide +kernel) (by decide +kernel))) (by decide +kernel) (fun _ h' => (dg_one h' (i := 1) (by decide +kernel) (by decide +kernel))) (fun _ h' => dts_nil) (fun _ h' => (du_join h' (du_gstr h' (by decide +kernel) g.cQUIET (by decide +kernel)) (de_bin h' (o := .mul) (du_gstr h' (by decide +kernel) g.cTAP (by decide +kernel)) (de_var h' (i := 1) (by decide +kernel) (by decide +kernel) (by decide +kernel) (by decide +kernel))) rfl rfl rfl)) (by decide +kernel) (fun _ => rfl)) rfl rfl rfl)) dss_nil)
theorem body19 (g : Gl C ad fdt) (c : Cal C ad fdt fn kk) (h : XOk C (ckOf N19 (tp 16)) kk W X) (hp : PassesOwn (model X.prog X.w) X.A X.env X.xe) : PSs X (defBody (tp 16)) (tSs C W fn d19.body) :=
  (dss_cons (ds_ret (du_sum h (by decide +kernel) g.nsum (da_cons (de_var h (i := 0) (by decide +kernel) (by decide +kernel) (by decide +kernel) (by decide +kernel)) da_nil rfl) rfl rfl)) dss_nil)
theorem body20 (g : Gl C ad fdt) (c : Cal C ad fdt fn kk) (h : XOk C (ckOf N20 (tp 17)) kk W X) (hp : PassesOwn (model X.prog X.w) X.A X.env X.xe) : PSs X (defBody (tp 17)) (tSs C W fn d20.body) :=
  (dss_cons (ds_ret (du_len h (by decide +kernel) g.nlen (da_cons (de_call h c.c0 (by decide +kernel) g.m0 g.f0.kp g.i0 (df_cons (de_var h (i := 0) (by decide +kernel) (by decide +kernel) (by decide +kernel) (by decide +kernel)) df_nil rfl) rfl (by decide +kernel) rfl rfl) da_nil rfl) rfl rfl)) dss_nil)
theorem body38 (g : Gl C ad fdt) (c : Cal C ad fdt fn kk) (h : XOk C (ckOf N38 (tp 18)) kk W X) (hp : PassesOwn (model X.prog X.w) X.A X.env X.xe) : PSs X (defBody (tp 18)) (tSs C W fn d38.body) :=
  (dss_cons (ds_set h (i := 1) (by decide +kernel) (by decide +kernel) (du_lst (df_cons (du_tup df_nil (by decide +kernel) rfl) df_nil rfl) (by decide +kernel) rfl) rfl rfl) (dss_cons (ds_for h hp (di_range1 h (by decide +kernel) g.nrange (de_var h (i := 0) (by decide +kernel) (by decide +kernel) (by decide +kernel) (by decide +kernel)) rfl) (dg_one h (i := 2) (by decide +kernel) (by decide +kernel)) (dss_cons (ds_own h (i := 3) (by decide +kernel) (by decide +kernel) (dn_lst df_nil (by decide +kernel) rfl) rfl rfl) (dss_cons (ds_for h hp (di_plain h (de_var h (i := 1) (by decide +kernel) (by decide +kernel) (by decide +kernel) (by decide +kernel))) (dg_one h (i := 4) (by decide +kernel) (by decide +kernel)) (dss_cons (ds_ext h (i := 3) (by decide +kernel) (by decide +kernel) (by decide +kernel) (by decide +kernel) (dn_comp h (own := [("count", 5)]) (t := (.n 5)) (di_range2 h (by decide +kernel) g.nrange de_int (de_bin h (o := .add) (du_gint h (by decide +kernel) g.cMOST_COUNT (by decide +kernel)) de_int) rfl rfl) (by decide +kernel) (fun _ h' => (dg_one h' (i := 5) (by decide +kernel) (by decide +kernel))) (fun _ h' => dts_nil) (fun _ h' => (de_bin h' (o := .add) (de_var h' (i := 4) (by decide +kernel) (by decide +kernel) (by decide +kernel) (by decide +kernel)) (du_tup (df_cons (de_var h' (i := 5) (by decide +kernel) (by decide +kernel) (by decide +kernel) (by decide +kernel)) df_nil rfl) (by decide +kernel) rfl))) (by decide +kernel) (fun _ => rfl)) rfl rfl) dss_nil) (fun _ => rfl)) (dss_frz (dss_cons (ds_set h (i := 1) (by decide +kernel) (by decide +kernel) (de_var h (i := 3) (by decide +kernel) (by decide +kernel) (by decide +kernel) (by decide +kernel)) rfl rfl) dss_nil)))) (fun _ => rfl)) (dss_cons (ds_ret (de_var h (i := 1) (by decide +kernel) (by decide +kernel) (by decide +kernel) (by decide +kernel))) dss_nil)))
theorem body39 (g : Gl C ad fdt) (c : Cal C ad fdt fn kk) (h : XOk C (ckOf N39 (tp 19)) kk W X) (hp : PassesOwn (model X.prog X.w) X.A X.env X.xe) : PSs X (defBody (tp 19)) (tSs C W fn d39.body) :=
  (dss_cons (ds_own h (i := 2) (by decide +kernel) (by decide +kernel) (dn_lst df_nil (by decide +kernel) rfl) rfl rfl) (dss_cons (ds_for h hp (di_range2 h (by decide +kernel) g.nrange de_int (de_bin h (o := .add) (de_var h (i := 0) (by decide +kernel) (by decide +kernel) (by decide +kernel) (by decide +kernel)) de_int) rfl rfl) (dg_one h (i := 3) (by decide +kernel) (by decide +kernel)) (dss_cons (ds_ext h (i := 2) (by decide +kernel) (by decide +kernel) (by decide +kernel) (by decide +kernel) (dn_comp h (own := [("number", 4)]) (t := (.n 4)) (di_plain h (de_call h c.c38 (by decide +kernel) g.m38 g.f38.kp g.i38 (df_cons (de_var h (i := 3) (by decide +kernel) (by decide +kernel) (by decide +kernel) (by decide +kernel)) df_nil rfl) rfl (by decide +kernel) rfl rfl)) (by decide +kernel) (fun _ h' => (dg_one h' (i := 4) (by decide +kernel) (by decide +kernel))) (fun _ h' => (pts_one (dt_cmp h' (o := .le) (de_call h' c.c19 (by decide +kernel) g.m19 g.f19.kp g.i19 (df_cons (de_var h' (i := 4) (by decide +kernel) (by decide +kernel) (by decide +kernel) (by decide +kernel)) df_nil rfl) rfl (by decide +kernel) rfl rfl) (de_var h' (i := 1) (by decide +kernel) (by decide +kernel) (by decide +kernel) (by decide +kernel)) rfl))) (fun _ h' => (de_var h' (i := 4) (by decide +kernel) (by decide +kernel) (by decide +kernel) (by decide +kernel))) (by decide +kernel) (fun _ => rfl)) rfl rfl) dss_nil) (fun _ => rfl)) (dss_cons (ds_ret (du_tuple h (by decide +kernel) g.ntuple (da_cons (du_sorted h (by decide +kernel) g.nsorted (da_cons (de_var h (i := 2) (by decide +kernel) (by decide +kernel) (by decide +kernel) (by decide +kernel)) da_nil rfl) rfl rfl) da_nil rfl) rfl rfl)) dss_nil)))
theorem body49 (g : Gl C ad fdt) (c : Cal C ad fdt fn kk) (h : XOk C (ckOf N49 (tp 20)) kk W X) (hp : PassesOwn (model X.prog X.w) X.A X.env X.xe) : PSs X (defBody (tp 20)) (tSs C W fn d49.body) :=
  (dss_cons (ds_for h hp (di_plain h (de_call h c.c39 (by decide +kernel) g.m39 g.f39.kp g.i39 (df_cons (du_gint h (by decide +kernel) g.cMOST_COUNTS (by decide +kernel)) (df_cons (de_bin h (o := .mul) (du_gint h (by decide +kernel) g.cMOST_COUNTS (by decide +kernel)) (du_gint h (by decide +kernel) g.cMOST_COUNT (by decide +kernel))) df_nil rfl) rfl) rfl (by decide +kernel) rfl rfl)) (dg_one h (i := 1) (by decide +kernel) (by decide +kernel)) (dss_cons (ds_ife h (dt_cmp h (o := .eq) (de_call h c.c0 (by decide +kernel) g.m0 g.f0.kp g.i0 (df_cons (de_var h (i := 1) (by decide +kernel) (by decide +kernel) (by decide +kernel) (by decide +kernel)) df_nil rfl) rfl (by decide +kernel) rfl rfl) (de_var h (i := 0) (by decide +kernel) (by decide +kernel) (by decide +kernel) (by decide +kernel)) rfl) (dss_cons (ds_ret (de_var h (i := 1) (by decide +kernel) (by decide +kernel) (by decide +kernel) (by decide +kernel))) dss_nil) dss_nil) dss_nil) (fun _ => rfl)) (dss_cons (ds_raise h (n := 1) PySem.F.excBase_ValueError g.x1 g.t1 g.k1 (raises_own (by rw [h.K]; exact g.b1) (by rw [h.K]; exact g.y1)) (by decide +kernel) (by decide +kernel)) dss_nil))
theorem body4 (g : Gl C ad fdt) (c : Cal C ad fdt fn kk) (h : XOk C (ckOf N4 (tp 22)) kk W X) (hp : PassesOwn (model X.prog X.w) X.A X.env X.xe) : PSs X (defBody (tp 22)) (tSs C W fn d4.body) :=
  (dss_cons (ds_ife h (dt_cmp h (o := .lt) (de_var h (i := 1) (by decide +kernel) (by decide +kernel) (by decide +kernel) (by decide +kernel)) (du_len h (by decide +kernel) g.nlen (da_cons (de_var h (i := 0) (by decide +kernel) (by decide +kernel) (by decide +kernel) (by decide +kernel)) da_nil rfl) rfl rfl) rfl) (dss_cons (ds_ret (de_idx h (de_var h (i := 0) (by decide +kernel) (by decide +kernel) (by decide +kernel) (by decide +kernel)) (de_var h (i := 1) (by decide +kernel) (by decide +kernel) (by decide +kernel) (by decide +kernel)) (fun _ _ => rfl))) dss_nil) dss_nil) (dss_cons (ds_ret de_int) dss_nil))
theorem body5 (g : Gl C ad fdt) (c : Cal C ad fdt fn kk) (h : XOk C (ckOf N5 (tp 23)) kk W X) (hp : PassesOwn (model X.prog X.w) X.A X.env X.xe) : PSs X (defBody (tp 23)) (tSs C W fn d5.body) :=
  (dss_cons (ds_set h (i := 2) (by decide +kernel) (by decide +kernel) (de_bin h (o := .mod) (de_bin h (o := .mul) (de_bin h (o := .add) (de_bin h (o := .add) (de_call h c.c4 (by decide +kernel) g.m4 g.f4.kp g.i4 (df_cons (de_var h (i := 0) (by decide +kernel) (by decide +kernel) (by decide +kernel) (by decide +kernel)) (df_cons (de_var h (i := 1) (by decide +kernel) (by decide +kernel) (by decide +kernel) (by decide +kernel)) df_nil rfl) rfl) rfl (by decide +kernel) rfl rfl) (de_bin h (o := .mul) de_int (de_var h (i := 1) (by decide +kernel) (by decide +kernel) (by decide +kernel) (by decide +kernel)))) de_int) de_int) de_int) rfl rfl) (dss_cons (ds_ret (de_bin h (o := .mod) (de_bin h (o := .add) (de_bin h (o := .add) (de_bin h (o := .mul) (de_var h (i := 2) (by decide +kernel) (by decide +kernel) (by decide +kernel) (by decide +kernel)) (de_var h (i := 2) (by decide +kernel) (by decide +kernel) (by decide +kernel) (by decide +kernel))) (de_bin h (o := .mul) de_int (de_var h (i := 2) (by decide +kernel) (by decide +kernel) (by decide +kernel) (by decide +kernel)))) (de_var h (i := 1) (by decide +kernel) (by decide +kernel) (by decide +kernel) (by decide +kernel))) de_int)) dss_nil))
theorem body6 (g : Gl C ad fdt) (c : Cal C ad fdt fn kk) (h : XOk C (ckOf N6 (tp 24)) kk W X) (hp : PassesOwn (model X.prog X.w) X.A X.env X.xe) : PSs X (defBody (tp 24)) (tSs C W fn d6.body) :=
  (dss_cons (ds_set h (i := 2) (by decide +kernel) (by decide +kernel) (de_bin h (o := .mod) (de_bin h (o := .mul) (de_bin h (o := .add) (de_bin h (o := .add) (de_var h (i := 0) (by decide +kernel) (by decide +kernel) (by decide +kernel) (by decide +kernel)) (de_bin h (o := .mul) de_int (de_var h (i := 1) (by decide +kernel) (by decide +kernel) (by decide +kernel) (by decide +kernel)))) de_int) de_int) de_int) rfl rfl) (dss_cons (ds_ret (de_bin h (o := .mod) (de_bin h (o := .add) (de_bin h (o := .add) (de_bin h (o := .mul) (de_var h (i := 2) (by decide +kernel) (by decide +kernel) (by decide +kernel) (by decide +kernel)) (de_var h (i := 2) (by decide +kernel) (by decide +kernel) (by decide +kernel) (by decide +kernel))) (de_bin h (o := .mul) de_int (de_var h (i := 2) (by decide +kernel) (by decide +kernel) (by decide +kernel) (by decide +kernel)))) (de_var h (i := 1) (by decide +kernel) (by decide +kernel) (by decide +kernel) (by decide +kernel))) de_int)) dss_nil))
theorem body7 (g : Gl C ad fdt) (c : Cal C ad fdt fn kk) (h : XOk C (ckOf N7 (tp 25)) kk W X) (hp : PassesOwn (model X.prog X.w) X.A X.env X.xe) : PSs X (defBody (tp 25)) (tSs C W fn d7.body) :=
  (dss_cons (ds_ret (du_tuple h (by decide +kernel) g.ntuple (da_cons (de_comp h (own := [("_law_k", 2)]) (t := (.n 2)) (di_range1 h (by decide +kernel) g.nrange (de_bin h (o := .add) de_int (de_bin h (o := .mod) (de_bin h (o := .fdiv) (de_var h (i := 0) (by decide +kernel) (by decide +kernel) (by decide +kernel) (by decide +kernel)) de_int) (de_var h (i := 1) (by decide +kernel) (by decide +kernel) (by decide +kernel) (by decide +kernel)))) rfl) (by decide +kernel) (fun _ h' => (dg_one h' (i := 2) (by decide +kernel) (by decide +kernel))) (fun _ h' => dts_nil) (fun _ h' => (de_bin h' (o := .add) de_int (de_bin h' (o := .mod) (de_bin h' (o := .fdiv) (de_call h' c.c6 (by decide +kernel) g.m6 g.f6.kp g.i6 (df_cons (de_var h' (i := 0) (by decide +kernel) (by decide +kernel) (by decide +kernel) (by decide +kernel)) (df_cons (de_var h' (i := 2) (by decide +kernel) (by decide +kernel) (by decide +kernel) (by decide +kernel)) df_nil rfl) rfl) rfl (by decide +kernel) rfl rfl) de_int) de_int))) (by decide +kernel) (fun _ => rfl)) da_nil rfl) rfl rfl)) dss_nil)
theorem body51 (g : Gl C ad fdt) (c : Cal C ad fdt fn kk) (hk : XOk C (ckOf N51 (tp 27)) (kk + 2) W X) (h : XOk C (ckOf N51 (tp 27)) kk W X) (hl : LamOk C X) (hp : PassesOwn (model X.prog X.w) X.A X.env X.xe) : PSs X (defBody (tp 27)) (tSs C W fn d51.body) :=
  (dss_cons (ds_set h (i := 1) (by decide +kernel) (by decide +kernel) (de_call h c.c7 (by decide +kernel) g.m7 g.f7.kp g.i7 (df_cons (de_call h c.c5 (by decide +kernel) g.m5 g.f5.kp g.i5 (df_cons (de_var h (i := 0) (by decide +kernel) (by decide +kernel) (by decide +kernel) (by decide +kernel)) (df_cons de_int df_nil rfl) rfl) rfl (by decide +kernel) rfl rfl) (df_cons de_int df_nil rfl) rfl) rfl (by decide +kernel) rfl rfl) rfl rfl) (dss_cons (ds_set h (i := 2) (by decide +kernel) (by decide +kernel) (de_call h c.c7 (by decide +kernel) g.m7 g.f7.kp g.i7 (df_cons (de_call h c.c5 (by decide +kernel) g.m5 g.f5.kp g.i5 (df_cons (de_var h (i := 0) (by decide +kernel) (by decide +kernel) (by decide +kernel) (by decide +kernel)) (df_cons de_int df_nil rfl) rfl) rfl (by decide +kernel) rfl rfl) (df_cons de_int df_nil rfl) rfl) rfl (by decide +kernel) rfl rfl) rfl rfl) (dss_cons (ds_set h (i := 3) (by decide +kernel) (by decide +kernel) (de_call h c.c0 (by decide +kernel) g.m0 g.f0.kp g.i0 (df_cons (de_var h (i := 1) (by decide +kernel) (by decide +kernel) (by decide +kernel) (by decide +kernel)) df_nil rfl) rfl (by decide +kernel) rfl rfl) rfl rfl) (dss_cons (ds_ife h (PW.pt (dw_or (dt_cmp h (o := .ne) (de_var h (i := 3) (by decide +kernel) (by decide +kernel) (by decide +kernel) (by decide +kernel)) (du_join h (de_str (by decide +kernel)) (de_comp h (own := [("_law_count", 8)]) (t := (.n 8)) (di_plain h (de_var h (i := 1) (by decide +kernel) (by decide +kernel) (by decide +kernel) (by decide +kernel))) (by decide +kernel) (fun _ h' => (dg_one h' (i := 8) (by decide +kernel) (by decide +kernel))) (fun _ h' => dts_nil) (fun _ h' => (de_call h' c.c0 (by decide +kernel) g.m0 g.f0.kp g.i0 (df_cons (du_tup (df_cons (de_var h' (i := 8) (by decide +kernel) (by decide +kernel) (by decide +kernel) (by decide +kernel)) df_nil rfl) (by decide +kernel) rfl) df_nil rfl) rfl (by decide +kernel) rfl rfl)) (by decide +kernel) (fun _ => rfl)) rfl rfl rfl) rfl) (pw_or1 (dt_cmp h (o := .ne) (de_call h c.c0 (by decide +kernel) g.m0 g.f0.kp g.i0 (df_cons (du_rev h (de_var h (i := 1) (by decide +kernel) (by decide +kernel) (by decide +kernel) (by decide +kernel)) rfl) df_nil rfl) rfl (by decide +kernel) rfl rfl) (du_rev h (de_var h (i := 3) (by decide +kernel) (by decide +kernel) (by decide +kernel) (by decide +kernel)) rfl) rfl)))) (dss_cons (ds_ret de_bl) dss_nil) dss_nil) (dss_cons (ds_ife h (PW.pt (dw_or (dt_cmp h (o := .ne) (de_call h c.c19 (by decide +kernel) g.m19 g.f19.kp g.i19 (df_cons (de_var h (i := 1) (by decide +kernel) (by decide +kernel) (by decide +kernel) (by decide +kernel)) df_nil rfl) rfl (by decide +kernel) rfl rfl) (du_sum h (by decide +kernel) g.nsum (da_cons (de_var h (i := 1) (by decide +kernel) (by decide +kernel) (by decide +kernel) (by decide +kernel)) da_nil rfl) rfl rfl) rfl) (dw_or (dt_cmp h (o := .ne) (du_count h (de_var h (i := 3) (by decide +kernel) (by decide +kernel) (by decide +kernel) (by decide +kernel)) (de_str (by decide +kernel)) rfl rfl rfl) (du_sum h (by decide +kernel) g.nsum (da_cons (de_var h (i := 1) (by decide +kernel) (by decide +kernel) (by decide +kernel) (by decide +kernel)) da_nil rfl) rfl rfl) rfl) (pw_or1 (dt_cmp h (o := .ne) (de_call h c.c20 (by decide +kernel) g.m20 g.f20.kp g.i20 (df_cons (de_var h (i := 1) (by decide +kernel) (by decide +kernel) (by decide +kernel) (by decide +kernel)) df_nil rfl) rfl (by decide +kernel) rfl rfl) (du_len h (by decide +kernel) g.nlen (da_cons (de_var h (i := 3) (by decide +kernel) (by decide +kernel) (by decide +kernel) (by decide +kernel)) da_nil rfl) rfl rfl) rfl))))) (dss_cons (ds_ret de_bl) dss_nil) dss_nil) (dss_cons (ds_ife h (dt_cmp h (o := .ne) (de_call h c.c20 (by decide +kernel) g.m20 g.f20.kp g.i20 (df_cons (de_var h (i := 1) (by decide +kernel) (by decide +kernel) (by decide +kernel) (by decide +kernel)) df_nil rfl) rfl (by decide +kernel) rfl rfl) (de_bin h (o := .add) (de_bin h (o := .sub) (de_bin h (o := .mul) de_int (du_sum h (by decide +kernel) g.nsum (da_cons (de_var h (i := 1) (by decide +kernel) (by decide +kernel) (by decide +kernel) (by decide +kernel)) da_nil rfl) rfl rfl)) (du_len h (by decide +kernel) g.nlen (da_cons (de_var h (i := 1) (by decide +kernel) (by decide +kernel) (by decide +kernel) (by decide +kernel)) da_nil rfl) rfl rfl)) (de_bin h (o := .mul) de_int (de_bin h (o := .sub) (du_len h (by decide +kernel) g.nlen (da_cons (de_var h (i := 1) (by decide +kernel) (by decide +kernel) (by decide +kernel) (by decide +kernel)) da_nil rfl) rfl rfl) de_int))) rfl) (dss_cons (ds_ret de_bl) dss_nil) dss_nil) (dss_cons (ds_ife h (PW.pt (dw_or (dt_cmp h (o := .ne) (de_call h c.c49 (by decide +kernel) g.m49 g.f49.kp g.i49 (df_cons (de_var h (i := 3) (by decide +kernel) (by decide +kernel) (by decide +kernel) (by decide +kernel)) df_nil rfl) rfl (by decide +kernel) rfl rfl) (de_var h (i := 1) (by decide +kernel) (by decide +kernel) (by decide +kernel) (by decide +kernel)) rfl) (pw_or1 (dt_cmp h (o := .ne) (de_cmp h (o := .eq) (de_call h c.c0 (by decide +kernel) g.m0 g.f0.kp g.i0 (df_cons (de_var h (i := 2) (by decide +kernel) (by decide +kernel) (by decide +kernel) (by decide +kernel)) df_nil rfl) rfl (by decide +kernel) rfl rfl) (de_var h (i := 3) (by decide +kernel) (by decide +kernel) (by decide +kernel) (by decide +kernel)) rfl) (de_cmp h (o := .eq) (de_var h (i := 2) (by decide +kernel) (by decide +kernel) (by decide +kernel) (by decide +kernel)) (de_var h (i := 1) (by decide +kernel) (by decide +kernel) (by decide +kernel) (by decide +kernel)) rfl) rfl)))) (dss_cons (ds_ret de_bl) dss_nil) dss_nil) (dss_cons (ds_for h hp (di_range1 h (by decide +kernel) g.nrange (du_len h (by decide +kernel) g.nlen (da_cons (de_var h (i := 3) (by decide +kernel) (by decide +kernel) (by decide +kernel) (by decide +kernel)) da_nil rfl) rfl rfl) rfl) (dg_one h (i := 4) (by decide +kernel) (by decide +kernel)) (dss_cons (ds_set h (i := 6) (by decide +kernel) (by decide +kernel) (de_bin h (o := .add) (de_bin h (o := .add) (de_sl h (de_var h (i := 3) (by decide +kernel) (by decide +kernel) (by decide +kernel) (by decide +kernel)) (dp_none rfl) (dp_some rfl (de_var h (i := 4) (by decide +kernel) (by decide +kernel) (by decide +kernel) (by decide +kernel)))) (de_idx h (de_str (by decide +kernel)) (du_int h (by decide +kernel) g.nint (da_cons (de_idx h (de_var h (i := 3) (by decide +kernel) (by decide +kernel) (by decide +kernel) (by decide +kernel)) (de_var h (i := 4) (by decide +kernel) (by decide +kernel) (by decide +kernel) (by decide +kernel)) (fun _ _ => rfl)) da_nil rfl) rfl rfl) (fun _ _ => rfl))) (de_sl h (de_var h (i := 3) (by decide +kernel) (by decide +kernel) (by decide +kernel) (by decide +kernel)) (dp_some rfl (de_bin h (o := .add) (de_var h (i := 4) (by decide +kernel) (by decide +kernel) (by decide +kernel) (by decide +kernel)) de_int)) (dp_none rfl))) rfl rfl) (dss_cons (ds_set h (i := 7) (by decide +kernel) (by decide +kernel) (du_told hk hl g.told (by decide +kernel) (by decide +kernel) rfl (fun _ _ _ _ _ => rfl) (fun _ _ h' => (de_call h' c.c49 (by decide +kernel) g.m49 g.f49.kp g.i49 (df_cons (de_var h' (i := 6) (by decide +kernel) (by decide +kernel) (by decide +kernel) (by decide +kernel)) df_nil rfl) rfl (by decide +kernel) rfl rfl)) (fun _ => rfl)) rfl rfl) (dss_cons (ds_ife h (PW.pt (dw_and (dt_cmp h (o := .eq) (de_idx h (de_var h (i := 7) (by decide +kernel) (by decide +kernel) (by decide +kernel) (by decide +kernel)) de_int (fun _ _ => rfl)) (de_str (by decide +kernel)) rfl) (pw_and1 (PW.pt (dw_or (dt_cmp h (o := .isnt) (de_call h c.c37 (by decide +kernel) g.m37 g.f37.kp g.i37 (df_cons (de_idx h (de_var h (i := 7) (by decide +kernel) (by decide +kernel) (by decide +kernel) (by decide +kernel)) de_int (fun _ _ => rfl)) df_nil rfl) rfl (by decide +kernel) rfl rfl) de_bl rfl) (pw_or1 (dt_cmp h (o := .ne) (de_call h c.c0 (by decide +kernel) g.m0 g.f0.kp g.i0 (df_cons (de_idx h (de_var h (i := 7) (by decide +kernel) (by decide +kernel) (by decide +kernel) (by decide +kernel)) de_int (fun _ _ => rfl)) df_nil rfl) rfl (by decide +kernel) rfl rfl) (de_var h (i := 6) (by decide +kernel) (by decide +kernel) (by decide +kernel) (by decide +kernel)) rfl))))))) (dss_cons (ds_ret de_bl) dss_nil) dss_nil) (dss_cons (ds_ife h (PW.pt (dw_and (dt_cmp h (o := .eq) (de_idx h (de_var h (i := 7) (by decide +kernel) (by decide +kernel) (by decide +kernel) (by decide +kernel)) de_int (fun _ _ => rfl)) (de_str (by decide +kernel)) rfl) (pw_and1 (dt_cmp h (o := .ne) (de_var h (i := 7) (by decide +kernel) (by decide +kernel) (by decide +kernel) (by decide +kernel)) (du_tup (df_cons (de_str (by decide +kernel)) (df_cons de_int df_nil rfl) rfl) (by decide +kernel) rfl) rfl)))) (dss_cons (ds_ret de_bl) dss_nil) dss_nil) dss_nil)))) (fun _ => rfl)) (dss_cons (ds_for h hp (di_plain h (du_tup (df_cons (de_str (by decide +kernel)) (df_cons (de_str (by decide +kernel)) (df_cons (de_bin h (o := .add) (de_var h (i := 3) (by decide +kernel) (by decide +kernel) (by decide +kernel) (by decide +kernel)) (de_str (by decide +kernel))) (df_cons (de_bin h (o := .add) (de_str (by decide +kernel)) (de_var h (i := 3) (by decide +kernel) (by decide +kernel) (by decide +kernel) (by decide +kernel))) (df_cons (de_bin h (o := .add) (de_bin h (o := .add) (de_var h (i := 3) (by decide +kernel) (by decide +kernel) (by decide +kernel) (by decide +kernel)) (de_str (by decide +kernel))) (de_var h (i := 3) (by decide +kernel) (by decide +kernel) (by decide +kernel) (by decide +kernel))) (df_cons (de_bin h (o := .add) (de_bin h (o := .add) (de_var h (i := 3) (by decide +kernel) (by decide +kernel) (by decide +kernel) (by decide +kernel)) (de_str (by decide +kernel))) (de_var h (i := 3) (by decide +kernel) (by decide +kernel) (by decide +kernel) (by decide +kernel))) df_nil rfl) rfl) rfl) rfl) rfl) rfl) (by decide +kernel) rfl)) (dg_one h (i := 5) (by decide +kernel) (by decide +kernel)) (dss_cons (ds_set h (i := 7) (by decide +kernel) (by decide +kernel) (du_told hk hl g.told (by decide +kernel) (by decide +kernel) rfl (fun _ _ _ _ _ => rfl) (fun _ _ h' => (de_call h' c.c49 (by decide +kernel) g.m49 g.f49.kp g.i49 (df_cons (de_var h' (i := 5) (by decide +kernel) (by decide +kernel) (by decide +kernel) (by decide +kernel)) df_nil rfl) rfl (by decide +kernel) rfl rfl)) (fun _ => rfl)) rfl rfl) (dss_cons (ds_ife h (dt_cmp h (o := .ne) (de_var h (i := 7) (by decide +kernel) (by decide +kernel) (by decide +kernel) (by decide +kernel)) (du_tup (df_cons (de_str (by decide +kernel)) (df_cons de_int df_nil rfl) rfl) (by decide +kernel) rfl) rfl) (dss_cons (ds_ret de_bl) dss_nil) dss_nil) dss_nil)) (fun _ => rfl)) (dss_cons (ds_ret (de_and h (de_cmp h (o := .eq) (de_call h c.c0 (by decide +kernel) g.m0 g.f0.kp g.i0 (df_cons (du_tup (df_cons de_int df_nil rfl) (by decide +kernel) rfl) df_nil rfl) rfl (by decide +kernel) rfl rfl) (de_str (by decide +kernel)) rfl) (du_and1 (de_cmp h (o := .eq) (de_call h c.c0 (by decide +kernel) g.m0 g.f0.kp g.i0 (df_cons (du_tup (df_cons de_int (df_cons de_int df_nil rfl) rfl) (by decide +kernel) rfl) df_nil rfl) rfl (by decide +kernel) rfl rfl) (de_str (by decide +kernel)) rfl)))) dss_nil))))))))))
end
theorem all (C : Cs) (ad : Nat → Addr) (fdt : Nat → FuncData) (g : Gl C ad fdt) : ∀ k, Cal C ad fdt ⟨run PP 7 k, newOb (run PP 7 k) 7⟩ (3 * k)
  | 0 => ⟨fn_zero fun _ => rfl, fn_zero fun _ => rfl, fn_zero fun _ => rfl, fn_zero fun _ => rfl, fn_zero fun _ => rfl, fn_zero fun _ => rfl, fn_zero fun _ => rfl, fn_zero fun _ => rfl, fn_zero fun _ => rfl, fn_zero fun _ => rfl, fn_zero fun _ => rfl, fn_zero fun _ => rfl, fn_zero fun _ => rfl⟩
  | k + 1 =>
    have c := all C ad fdt g k
    ⟨fn_df3 _ d28 g.f28 sc28 rfl rfl fun X W h hp => body28 g c h hp,
     fn_df3 _ d37 g.f37 sc37 rfl rfl fun X W h hp => body37 g c h hp,
     fn_df3 _ d0 g.f0 sc0 rfl rfl fun X W h hp => body0 g c h hp,
     fn_df3 _ d19 g.f19 sc19 rfl rfl fun X W h hp => body19 g c h hp,
     fn_df3 _ d20 g.f20 sc20 rfl rfl fun X W h hp => body20 g c h hp,
     fn_df3 _ d38 g.f38 sc38 rfl rfl fun X W h hp => body38 g c h hp,
     fn_df3 _ d39 g.f39 sc39 rfl rfl fun X W h hp => body39 g c h hp,
     fn_df3 _ d49 g.f49 sc49 rfl rfl fun X W h hp => body49 g c h hp,
     fn_df3 _ d4 g.f4 sc4 rfl rfl fun X W h hp => body4 g c h hp,
     fn_df3 _ d5 g.f5 sc5 rfl rfl fun X W h hp => body5 g c h hp,
     fn_df3 _ d6 g.f6 sc6 rfl rfl fun X W h hp => body6 g c h hp,
     fn_df3 _ d7 g.f7 sc7 rfl rfl fun X W h hp => body7 g c h hp,
     fn_dfL _ d51 g.l51 sc51 rfl rfl fun X W h hl hp => body51 g c h h.low hl hp⟩
end K02
end
section
set_option Elab.async false
set_option linter.all false
set_option maxRecDepth 100000
/-! Evaluating: equations for simp. -/
namespace TD
section
variable {fn : Fns} {ρ : Env} {S : Sto} {α β : Type}
theorem bindS (m : M α) (f : α → M β) (S : Sto) : M.bind m f S = match m S with
  | .ok a S' => f a S'
  | .xc c S' => .xc c S'
  | .bad => .bad := rfl
theorem seqS (m : M α) (f : α → M β) (S : Sto) : (m >>= f) S = M.bind m f S := rfl
theorem pureS (a : α) (S : Sto) : (pure a : M α) S = .ok a S := rfl
theorem retS (a : α) (S : Sto) : (M.ret a : M α) S = .ok a S := rfl
theorem askT (S : Sto) : M.ask true S = .ok () S := rfl
theorem ask_of {b : Bool} (h : b = true) (S : Sto) : M.ask b S = .ok () S := by rw [h]; rfl
theorem ofS (a : α) (S : Sto) : M.of (some a) S = .ok a S := rfl
theorem noXS (m : M α) (S : Sto) : m.noX S = match m S with
  | .ok a S' => .ok a S'
  | _ => .bad := rfl
theorem truB (b : Bool) (S : Sto) : (D.bl b).truthy S = .ok b S := rfl
/-! ### one construct after another (a comprehension stays as it is) -/
variable {a b c o : E} {l r : Es}
theorem xVar {i : Nat} : ev fn ρ (.var i) S = match slot ρ i with
  | .no => .bad
  | .fz d => .ok d S
  | .ow d => .ok d S := by
  unfold ev
  cases slot ρ i <;> rfl
theorem xCon {d : D} : ev fn ρ (.con d) S = .ok d S := by unfold ev; rfl
theorem xBin {p : Op} : ev fn ρ (.bin p a b) S = M.bind (ev fn ρ a) (fun x => M.bind (ev fn ρ b) fun y => p.run x y) S := by
  conv => lhs; unfold ev
  rfl
theorem xNeg {i : Int} (h : ev fn ρ a S = .ok (.int i) S) : ev fn ρ (.neg a) S = .ok (.int (-i)) S := by
  unfold ev
  rw [seqS, bindS, h]; rfl
theorem xNot : ev fn ρ (.not a) S = M.bind (ev fn ρ a) (fun x => M.bind x.truthy fun b => M.ret (.bl (!b))) S := by
  conv => lhs; unfold ev
  rfl
theorem xAnd : ev fn ρ (.and a b) S = M.bind (M.ask (!isOwn ρ a && !isOwn ρ b)) (fun _ => M.bind (ev fn ρ a) fun x => M.bind x.truthy fun t => if t then ev fn ρ b else M.ret x) S := by
  conv => lhs; unfold ev
  rfl
theorem xOr : ev fn ρ (.or a b) S = M.bind (M.ask (!isOwn ρ a && !isOwn ρ b)) (fun _ => M.bind (ev fn ρ a) fun x => M.bind x.truthy fun t => if t then M.ret x else ev fn ρ b) S := by
  conv => lhs; unfold ev
  rfl
theorem xCmp {p : Cm} : ev fn ρ (.cmp p a b) S = M.bind (ev fn ρ a) (fun x => M.bind (ev fn ρ b) fun y => M.bind (p.run x y) fun r => M.ret (.bl r)) S := by
  conv => lhs; unfold ev
  rfl
theorem xIdx : ev fn ρ (.idx a b) S = M.bind (ev fn ρ a) (fun x => M.bind (ev fn ρ b) fun y => x.item y) S := by
  conv => lhs; unfold ev
  rfl
theorem xSl : ev fn ρ (.sl a b c) S = M.bind (ev fn ρ a) (fun x => M.bind (ev fn ρ b) fun y => M.bind (partOk b y) fun y => M.bind (ev fn ρ c) fun z => M.bind (partOk c z) fun z => x.slice y z) S := by
  conv => lhs; unfold ev
  rfl
theorem xTup : ev fn ρ (.tup l) S = M.bind (evF fn ρ l) (fun ds => M.ret (.tup ds)) S := by
  conv => lhs; unfold ev
  rfl
theorem xLst : ev fn ρ (.lst l) S = M.bind (evF fn ρ l) (fun ds => M.ret (.lst ds)) S := by
  conv => lhs; unfold ev
  rfl
theorem xDic0 : ev fn ρ (.dic .nil .nil) S = .ok (.dct []) S := by unfold ev evF; rfl
theorem xLcat : ev fn ρ (.lcat a b) S = M.bind (ev fn ρ a) (fun x => M.bind (ev fn ρ b) fun y => lcatD x y) S := by
  conv => lhs; unfold ev
  rfl
theorem xLrep : ev fn ρ (.lrep l b) S = M.bind (evF fn ρ l) (fun ds => M.bind (ev fn ρ b) fun x => lrepD ds x) S := by
  conv => lhs; unfold ev
  rfl
theorem xRng {i j : Int} (h1 : ev fn ρ a S = .ok (.int i) S) (h2 : ev fn ρ b S = .ok (.int j) S) (h : rangeOk i j = true) : ev fn ρ (.rng a b) S = .ok (.lst (rangeD i j)) S := by
  unfold ev
  rw [seqS, bindS, h1]
  show M.bind (ev fn ρ b) _ S = _
  rw [bindS, h2]
  show M.bind (M.ask (rangeOk i j)) _ S = _
  rw [bindS, ask_of h]; rfl
theorem xEnu : ev fn ρ (.enu a) S = M.bind (M.ask (!isOwn ρ a)) (fun _ => M.bind (ev fn ρ a) fun x => M.bind x.items fun its => M.ret (.lst (enumD its))) S := by
  conv => lhs; unfold ev
  rfl
theorem xZip : ev fn ρ (.zip a b) S = M.bind (M.ask (!isOwn ρ a && !isOwn ρ b)) (fun _ => M.bind (ev fn ρ a) fun x => M.bind (ev fn ρ b) fun y => M.bind x.items fun xs => M.bind y.items fun ys => M.ret (.lst (pairsD xs ys))) S := by
  conv => lhs; unfold ev
  rfl
theorem xCall {n : Nat} : ev fn ρ (.call n l) S = M.bind (evF fn ρ l) (fun ds => fn.call n ds) S := by
  conv => lhs; unfold ev
  rfl
theorem xBi {p : Bi} : ev fn ρ (.bi p l) S = M.bind (evs fn ρ l) (fun ds => p.run ds) S := by
  conv => lhs; unfold ev
  rfl
theorem xMe {m : Me} : ev fn ρ (.me m o l) S = M.bind (ev fn ρ o) (fun x => M.bind (M.ask (m.recv x)) fun _ => M.bind (evs fn ρ l) fun ds => m.run x ds) S := by
  conv => lhs; unfold ev
  rfl
theorem xsN : evs fn ρ .nil S = .ok [] S := by unfold evs; rfl
theorem xsC : evs fn ρ (.cons a r) S = M.bind (ev fn ρ a) (fun x => M.bind (evs fn ρ r) fun xs => M.ret (x :: xs)) S := by
  conv => lhs; unfold evs
  rfl
theorem xFN : evF fn ρ .nil S = .ok [] S := by unfold evF; rfl
theorem xFC : evF fn ρ (.cons a r) S = M.bind (M.ask (!isOwn ρ a)) (fun _ => M.bind (ev fn ρ a) fun x => M.bind (evF fn ρ r) fun xs => M.ret (x :: xs)) S := by
  conv => lhs; unfold evF
  rfl
/-! ### numbers -/
theorem addI (a b : Int) (S : Sto) : Op.run .add (.int a) (.int b) S = .ok (.int (a + b)) S := rfl
theorem subI (a b : Int) (S : Sto) : Op.run .sub (.int a) (.int b) S = .ok (.int (a - b)) S := rfl
theorem mulR (a b : Int) (h : b.natAbs < 2 ^ 64) (S : Sto) : Op.run .mul (.int a) (.int b) S = .ok (.int (a * b)) S := by
  show M.bind (M.ask (wideOk a b)) _ S = _
  rw [bindS, ask_of (by simp [wideOk, h])]
  rfl
theorem mulL (a b : Int) (h : a.natAbs < 2 ^ 64) (S : Sto) : Op.run .mul (.int a) (.int b) S = .ok (.int (a * b)) S := by
  show M.bind (M.ask (wideOk a b)) _ S = _
  rw [bindS, ask_of (by simp [wideOk, h])]
  rfl
theorem modI (a b : Int) (h : 0 < b) (S : Sto) : Op.run .mod (.int a) (.int b) S = .ok (.int (a % b)) S := by
  show M.bind (M.ask (decide (0 < b))) _ S = _
  rw [bindS, ask_of (by simp [h])]
  rfl
theorem divI (a b : Int) (h : 0 < b) (h2 : b < 1073741824) (S : Sto) : Op.run .fdiv (.int a) (.int b) S = .ok (.int (a / b)) S := by
  show M.bind (M.ask (decide (0 < b) && decide (b < 1073741824))) _ S = _
  rw [bindS, ask_of (by simp [h, h2])]
  rfl
theorem ltI (a b : Int) (S : Sto) : Cm.run .lt (.int a) (.int b) S = .ok (decide (a < b)) S := by simp [Cm.run, seqS, bindS, pureS, M.ask, D.plain, D.okN, D.alike, D.isNon, D.lt, M.ret]
theorem gtI (a b : Int) (S : Sto) : Cm.run .gt (.int a) (.int b) S = .ok (decide (b < a)) S := by simp [Cm.run, seqS, bindS, pureS, M.ask, D.plain, D.okN, D.alike, D.isNon, D.lt, M.ret]
theorem leI (a b : Int) (S : Sto) : Cm.run .le (.int a) (.int b) S = .ok (!decide (b < a)) S := by simp [Cm.run, seqS, bindS, pureS, M.ask, D.plain, D.okN, D.alike, D.isNon, D.lt, M.ret]
theorem geI (a b : Int) (S : Sto) : Cm.run .ge (.int a) (.int b) S = .ok (!decide (a < b)) S := by simp [Cm.run, seqS, bindS, pureS, M.ask, D.plain, D.okN, D.alike, D.isNon, D.lt, M.ret]
theorem eqI (a b : Int) (S : Sto) : Cm.run .eq (.int a) (.int b) S = .ok (a == b) S := by simp [Cm.run, seqS, bindS, pureS, M.ask, D.plain, D.okN, D.eqv, M.ret]
theorem neI (a b : Int) (S : Sto) : Cm.run .ne (.int a) (.int b) S = .ok (!(a == b)) S := by simp [Cm.run, seqS, bindS, pureS, M.ask, D.plain, D.okN, D.eqv, M.ret]
theorem eqS (a b : Sx) (S : Sto) : Cm.run .eq (.str a) (.str b) S = .ok (a == b) S := by simp [Cm.run, seqS, bindS, pureS, M.ask, D.plain, D.okN, D.eqv, M.ret]
theorem neS (a b : Sx) (S : Sto) : Cm.run .ne (.str a) (.str b) S = .ok (!(a == b)) S := by simp [Cm.run, seqS, bindS, pureS, M.ask, D.plain, D.okN, D.eqv, M.ret]
theorem eqB (a b : Bool) (S : Sto) : Cm.run .eq (.bl a) (.bl b) S = .ok (a == b) S := by simp [Cm.run, seqS, bindS, pureS, M.ask, D.plain, D.okN, D.eqv, M.ret]
theorem neB (a b : Bool) (S : Sto) : Cm.run .ne (.bl a) (.bl b) S = .ok (!(a == b)) S := by simp [Cm.run, seqS, bindS, pureS, M.ask, D.plain, D.okN, D.eqv, M.ret]
theorem cmpEq (a b : D) (h : a.plain = true) (h2 : b.plain = true) (S : Sto) : Cm.run .eq a b S = .ok (a.eqv b) S := by simp [Cm.run, seqS, bindS, pureS, M.ask, h, h2, M.ret]
theorem cmpNe (a b : D) (h : a.plain = true) (h2 : b.plain = true) (S : Sto) : Cm.run .ne a b S = .ok (!a.eqv b) S := by simp [Cm.run, seqS, bindS, pureS, M.ask, h, h2, M.ret]
theorem getAt_nat {α : Type} (l : List α) (k : Nat) : getAt l (k : Int) = l[k]? := by
  unfold getAt ixAt
  by_cases h : k < l.length
  · simp [h]
  · simp [h, List.getElem?_eq_none (by omega : l.length ≤ k)]
/-- a comprehension whose items are all told by g, the state as it was -/
theorem filtM_eq {f : D → M (Option D)} {g : D → Option D} {S : Sto} : ∀ {l : List D}, (∀ d ∈ l, f d S = .ok (g d) S) → filtM f l S = .ok (l.filterMap g) S
  | [], _ => rfl
  | d :: l, h => by
    unfold filtM
    rw [seqS, bindS, h d (by simp)]
    show M.bind (filtM f l) _ S = _
    rw [bindS, filtM_eq fun d hd => h d (by simp [hd])]
    show R.ok ((g d).toList ++ l.filterMap g) S = _
    cases e : g d <;> simp [e]
/-- what one item of a comprehension gives -/
def itemE (fn : Fns) (ρ : Env) (own : List Nat) (t : T) (c elt : E) (d : D) : M (Option D) := do
  let ρ' ← M.of (t.put d (wipeE ρ own))
  let b ← (ev fn ρ' c).noX
  let k ← b.truthy.noX
  if k then do M.ask (!isOwn ρ' elt); let y ← (ev fn ρ' elt).noX; pure (some y) else pure none
theorem evComp {elt c src : E} {t : T} {own : List Nat} {x : D} {its : List D} {S : Sto} (h : ev fn ρ src S = .ok x S) (hi : x.items S = .ok its S) (hf : fits its = true) {g : D → Option D} (hg : ∀ d ∈ its, itemE fn ρ own t c elt d S = .ok (g d) S) :
    ev fn ρ (.comp elt t src c own) S = .ok (.lst (its.filterMap g)) S := by
  unfold ev
  rw [seqS, bindS, h]
  show M.bind x.items _ S = _
  rw [bindS, hi]
  show M.bind (M.ask (fits its)) _ S = _
  rw [bindS, ask_of hf]
  show M.bind (filtM (itemE fn ρ own t c elt) its) _ S = _
  rw [bindS, filtM_eq hg]
  rfl
theorem filterMap_some {α β : Type} (f : α → β) (l : List α) : l.filterMap (fun a => some (f a)) = l.map f := by
  induction l with
  | nil => rfl
  | cons a l ih => simp
theorem itemsL (l : List D) (S : Sto) : (D.lst l).items S = .ok l S := rfl
theorem itemsT (l : List D) (S : Sto) : (D.tup l).items S = .ok l S := rfl
theorem itemsS (l : Sx) (S : Sto) : (D.str l).items S = .ok (l.map fun c => .str [c]) S := rfl
theorem fits_le {α : Type} {l : List α} (h : l.length ≤ 16000000) : fits l = true := by simp [fits, maxLen, h]
/-! ### statements, one after another -/
variable {s : TD.S} {q q2 : Ss} {i j : Nat} {t : T}
theorem yN : exs fn .nil ρ S = .nx ρ S := by
  conv => lhs; unfold exs
theorem yC : exs fn (.cons s q) ρ S = (ex fn s ρ S).seq (exs fn q) := by
  conv => lhs; unfold exs
theorem ySet : ex fn (.set i a) ρ S = if isOwn ρ a then .bad else .of (ev fn ρ a S) fun d S => .nx (ρ.set i (.fz d)) S := by
  conv => lhs; unfold ex
theorem yOwn : ex fn (.own i a) ρ S = .of (ev fn ρ a S) fun d S => .nx (ρ.set i (.ow d)) S := by
  conv => lhs; unfold ex
theorem yPar : ex fn (.par i j a b) ρ S = if isOwn ρ a || isOwn ρ b then .bad else .of (ev fn ρ a S) fun x S => .of (ev fn ρ b S) fun y S => .nx ((ρ.set i (.fz x)).set j (.fz y)) S := by
  conv => lhs; unfold ex
theorem yApp : ex fn (.app i a) ρ S = match slot ρ i with
  | .ow (.lst l) => if isOwn ρ a then .bad else .of (ev fn ρ a S) fun d S => if fits l then .nx (ρ.set i (.ow (.lst (l ++ [d])))) S else .bad
  | _ => .bad := by
  conv => lhs; unfold ex
  try rfl
theorem yPut : ex fn (.put i b a) ρ S = match slot ρ i with
  | .ow o => if isOwn ρ a then .bad else .of (ev fn ρ a S) fun d S => .of (ev fn ρ b S) fun k S => putO ρ i o k d S
  | _ => .bad := by
  conv => lhs; unfold ex
  try rfl
theorem yIfe : ex fn (.ife a q q2) ρ S = .of (ev fn ρ a S) fun d S => .of (d.truthy S) fun k S => if k then exs fn q ρ S else exs fn q2 ρ S := by
  conv => lhs; unfold ex
theorem yFor : ex fn (.for_ t a q) ρ S = if isOwn ρ a then .bad else .of (ev fn ρ a S) fun d S => .of (d.items S) fun its S => loopO t (exs fn q) its ρ S := by
  conv => lhs; unfold ex
theorem yRet : ex fn (.ret a) ρ S = if isOwn ρ a then .bad else .of (ev fn ρ a S) fun d S => .rt d S := by
  conv => lhs; unfold ex
theorem yRaise : ex fn (.raise i) ρ S = .xc i S := by
  conv => lhs; unfold ex
theorem yCont : ex fn .cont ρ S = .ct ρ S := by
  conv => lhs; unfold ex
theorem yPass : ex fn .pass ρ S = .nx ρ S := by
  conv => lhs; unfold ex
theorem seqN (f : Env → Sto → O) : O.seq (.nx ρ S) f = f ρ S := rfl
theorem seqR (f : Env → Sto → O) (d : D) : O.seq (.rt d S) f = .rt d S := rfl
theorem seqC (f : Env → Sto → O) : O.seq (.ct ρ S) f = .ct ρ S := rfl
theorem ofK {α : Type} (a : α) (f : α → Sto → O) : O.of (.ok a S) f = f a S := rfl
/-! ### loops -/
theorem loop_eq {α : Type} {t : T} {body : Env → Sto → O} {S : Sto} {enc : α → Env} {step : α → D → α} {Inv : α → Prop} : ∀ {ds : List D} {a : α}, Inv a →
    (∀ a d, d ∈ ds → Inv a → Inv (step a d) ∧ ∃ ρ', t.put d (enc a) = some ρ' ∧ (body ρ' S = .nx (enc (step a d)) S ∨ body ρ' S = .ct (enc (step a d)) S)) →
    loopO t body ds (enc a) S = .nx (enc (ds.foldl step a)) S ∧ Inv (ds.foldl step a)
  | [], a, ha, _ => ⟨rfl, ha⟩
  | d :: ds, a, ha, h => by
    obtain ⟨hi, ρ', e1, e2⟩ := h a d (by simp) ha
    have ih := loop_eq (t := t) (body := body) (S := S) (enc := enc) (step := step) (Inv := Inv) (ds := ds) (a := step a d) hi fun b e he hb => h b e (by simp [he]) hb
    refine ⟨?_, ih.2⟩
    show (match t.put d (enc a) with | some ρ' => (body ρ' S).turn (loopO t body ds) | none => .bad) = _
    rw [e1]
    rcases e2 with e2 | e2
    · show (body ρ' S).turn _ = _
      rw [e2]; exact ih.1
    · show (body ρ' S).turn _ = _
      rw [e2]; exact ih.1
theorem loop_ex {t : T} {body : Env → Sto → O} {S : Sto} (Inv : Nat → Env → Prop) : ∀ {ds : List D} {n : Nat} {ρ : Env}, Inv n ρ →
    (∀ i ρ d, ds[i]? = some d → Inv (n + i) ρ → ∃ ρ' ρ'', t.put d ρ = some ρ' ∧ (body ρ' S = .nx ρ'' S ∨ body ρ' S = .ct ρ'' S) ∧ Inv (n + i + 1) ρ'') →
    ∃ ρ', loopO t body ds ρ S = .nx ρ' S ∧ Inv (n + ds.length) ρ'
  | [], n, ρ, h0, _ => ⟨ρ, rfl, h0⟩
  | d :: ds, n, ρ, h0, h => by
    obtain ⟨ρ', ρ'', e1, e2, h1⟩ := h 0 ρ d rfl h0
    obtain ⟨ρ3, e3, h3⟩ := loop_ex Inv (ds := ds) (n := n + 1) (ρ := ρ'') h1 fun i ρ e he hi => by
      have := h (i + 1) ρ e (by simpa using he) (by rw [show n + (i + 1) = n + 1 + i by omega]; exact hi)
      rw [show n + (i + 1) + 1 = n + 1 + i + 1 by omega] at this
      exact this
    refine ⟨ρ3, ?_, by rw [List.length_cons, show n + (ds.length + 1) = n + 1 + ds.length by omega]; exact h3⟩
    show (match t.put d ρ with | some ρ' => (body ρ' S).turn (loopO t body ds) | none => .bad) = _
    rw [e1]
    rcases e2 with e2 | e2
    · show (body ρ' S).turn _ = _
      rw [e2]; exact e3
    · show (body ρ' S).turn _ = _
      rw [e2]; exact e3
theorem enumD_get {xs : List D} {i : Nat} {d : D} (h : (enumD xs)[i]? = some d) : ∃ x, xs[i]? = some x ∧ d = .tup [.int (i : Nat), x] := by
  unfold enumD at h
  rw [List.getElem?_zipWith] at h
  cases e : xs[i]? with
  | none => rw [e] at h; cases q : (List.range xs.length)[i]? <;> rw [q] at h <;> cases h
  | some d =>
    have hlt := (List.getElem?_eq_some_iff.mp e).1
    rw [e, List.getElem?_range hlt] at h
    exact ⟨d, rfl, (Option.some.inj h).symm⟩
theorem enumD_len (xs : List D) : (enumD xs).length = xs.length := by simp [enumD]
/-! ### lists of numbers, of texts -/
theorem plains_int (ns : List Int) : plains (ns.map .int) = true := by
  unfold plains
  rw [List.all_map]
  exact List.all_eq_true.mpr fun _ _ => rfl
theorem sortable_int (ns : List Int) : sortable (ns.map .int) = true := by
  simp only [sortable, Bool.and_eq_true]
  refine ⟨⟨?_, plains_int ns⟩, ?_⟩
  · unfold allAlike
    rw [List.all_map]
    refine List.all_eq_true.mpr fun x _ => ?_
    show (List.all _ _) = true
    rw [List.all_map]
    exact List.all_eq_true.mpr fun y _ => by simp [D.alike]
  · rw [List.all_map]
    exact List.all_eq_true.mpr fun _ _ => rfl
def maxI (x : Int) (l : List Int) : Int := l.foldl (fun m y => if m < y then y else m) x
def minI (x : Int) (l : List Int) : Int := l.foldl (fun m y => if y < m then y else m) x
theorem maxD_int : ∀ (l : List Int) (x : Int), maxD (.int x) (l.map .int) = .int (maxI x l)
  | [], x => rfl
  | y :: l, x => by
    show maxD (if (D.int x).lt (.int y) then .int y else .int x) (l.map .int) = .int (maxI (if x < y then y else x) l)
    by_cases h : x < y
    · rw [if_pos (by simp [D.lt, h]), if_pos h]; exact maxD_int l y
    · rw [if_neg (by simp [D.lt, h]), if_neg h]; exact maxD_int l x
theorem minD_int : ∀ (l : List Int) (x : Int), minD (.int x) (l.map .int) = .int (minI x l)
  | [], x => rfl
  | y :: l, x => by
    show minD (if (D.int y).lt (.int x) then .int y else .int x) (l.map .int) = .int (minI (if y < x then y else x) l)
    by_cases h : y < x
    · rw [if_pos (by simp [D.lt, h]), if_pos h]; exact minD_int l y
    · rw [if_neg (by simp [D.lt, h]), if_neg h]; exact minD_int l x
theorem maxI_le : ∀ (l : List Int) (x : Int), x ≤ maxI x l ∧ ∀ y ∈ l, y ≤ maxI x l
  | [], x => ⟨Int.le_refl _, fun _ h => by simp at h⟩
  | y :: l, x => by
    have ih := maxI_le l (if x < y then y else x)
    show x ≤ maxI (if x < y then y else x) l ∧ ∀ z ∈ y :: l, z ≤ maxI (if x < y then y else x) l
    refine ⟨?_, fun z hz => ?_⟩
    · have := ih.1; split at this <;> omega
    · rcases List.mem_cons.mp hz with e | e
      · subst e; have := ih.1; split at this <;> omega
      · exact ih.2 z e
theorem maxI_mem : ∀ (l : List Int) (x : Int), maxI x l = x ∨ maxI x l ∈ l
  | [], x => .inl rfl
  | y :: l, x => by
    show maxI (if x < y then y else x) l = x ∨ maxI (if x < y then y else x) l ∈ y :: l
    rcases maxI_mem l (if x < y then y else x) with e | e
    · rw [e]
      by_cases h : x < y
      · rw [if_pos h]; exact .inr (by simp)
      · rw [if_neg h]; exact .inl rfl
    · exact .inr (by simp [e])
theorem minI_le : ∀ (l : List Int) (x : Int), minI x l ≤ x ∧ ∀ y ∈ l, minI x l ≤ y
  | [], x => ⟨Int.le_refl _, fun _ h => by simp at h⟩
  | y :: l, x => by
    have ih := minI_le l (if y < x then y else x)
    show minI (if y < x then y else x) l ≤ x ∧ ∀ z ∈ y :: l, minI (if y < x then y else x) l ≤ z
    refine ⟨?_, fun z hz => ?_⟩
    · have := ih.1; split at this <;> omega
    · rcases List.mem_cons.mp hz with e | e
      · subst e; have := ih.1; split at this <;> omega
      · exact ih.2 z e
theorem minI_mem : ∀ (l : List Int) (x : Int), minI x l = x ∨ minI x l ∈ l
  | [], x => .inl rfl
  | y :: l, x => by
    show minI (if y < x then y else x) l = x ∨ minI (if y < x then y else x) l ∈ y :: l
    rcases minI_mem l (if y < x then y else x) with e | e
    · rw [e]
      by_cases h : y < x
      · rw [if_pos h]; exact .inr (by simp)
      · rw [if_neg h]; exact .inl rfl
    · exact .inr (by simp [e])
theorem maxS (x : Int) (l : List Int) (S : Sto) : Bi.run1 .max (.lst (.int x :: l.map .int)) S = .ok (.int (maxI x l)) S := by
  show M.bind (M.ask (sortable (.int x :: l.map .int))) (fun _ => M.ret (maxD (.int x) (l.map .int))) S = _
  have e : sortable (.int x :: l.map .int) = true := sortable_int (x :: l)
  rw [bindS, ask_of e, maxD_int]
theorem minS (x : Int) (l : List Int) (S : Sto) : Bi.run1 .min (.lst (.int x :: l.map .int)) S = .ok (.int (minI x l)) S := by
  show M.bind (M.ask (sortable (.int x :: l.map .int))) (fun _ => M.ret (minD (.int x) (l.map .int))) S = _
  have e : sortable (.int x :: l.map .int) = true := sortable_int (x :: l)
  rw [bindS, ask_of e, minD_int]
end
end TD
end
section
set_option Elab.async false
set_option linter.all false
set_option maxRecDepth 100000
/-! Walking a body of the little language: one rule a construct, the state threaded. -/
namespace TD
section
variable {fn : Fns} {ρ : Env} {S S1 S2 S3 S4 S5 : Sto} {a b c o e : E} {l r : Es} {x y z v : D}
theorem vF {i : Nat} (h : slot ρ i = .fz x) : ev fn ρ (.var i) S = .ok x S := by rw [xVar, h]
theorem vO {i : Nat} (h : slot ρ i = .ow x) : ev fn ρ (.var i) S = .ok x S := by rw [xVar, h]
theorem vC : ev fn ρ (.con x) S = .ok x S := xCon
theorem vBin {p : Op} (ha : ev fn ρ a S = .ok x S1) (hb : ev fn ρ b S1 = .ok y S2) (h : p.run x y S2 = .ok v S3) : ev fn ρ (.bin p a b) S = .ok v S3 := by
  rw [xBin, bindS, ha]; dsimp only; rw [bindS, hb]; exact h
theorem vNeg {i : Int} (ha : ev fn ρ a S = .ok (.int i) S1) : ev fn ρ (.neg a) S = .ok (.int (-i)) S1 := by
  unfold ev
  rw [seqS, bindS, ha]; rfl
theorem vNot {p : Bool} (ha : ev fn ρ a S = .ok x S1) (ht : x.truthy S1 = .ok p S2) : ev fn ρ (.not a) S = .ok (.bl (!p)) S2 := by
  rw [xNot, bindS, ha]; dsimp only; rw [bindS, ht]
theorem vAnd {p q : Bool} (oa : isOwn ρ a = false) (ob : isOwn ρ b = false) (ha : ev fn ρ a S = .ok (.bl p) S1) (hb : p = true → ev fn ρ b S1 = .ok (.bl q) S1) : ev fn ρ (.and a b) S = .ok (.bl (p && q)) S1 := by
  rw [xAnd, oa, ob, bindS]
  show M.bind (ev fn ρ a) _ S = _
  rw [bindS, ha]
  cases p with
  | false => rfl
  | true => exact hb rfl
theorem vOr {p q : Bool} (oa : isOwn ρ a = false) (ob : isOwn ρ b = false) (ha : ev fn ρ a S = .ok (.bl p) S1) (hb : p = false → ev fn ρ b S1 = .ok (.bl q) S1) : ev fn ρ (.or a b) S = .ok (.bl (p || q)) S1 := by
  rw [xOr, oa, ob, bindS]
  show M.bind (ev fn ρ a) _ S = _
  rw [bindS, ha]
  cases p with
  | true => rfl
  | false => exact hb rfl
theorem vCmp {p : Cm} {q : Bool} (ha : ev fn ρ a S = .ok x S1) (hb : ev fn ρ b S1 = .ok y S2) (h : p.run x y S2 = .ok q S3) : ev fn ρ (.cmp p a b) S = .ok (.bl q) S3 := by
  rw [xCmp, bindS, ha]; dsimp only; rw [bindS, hb]; dsimp only; rw [bindS, h]
theorem vCmp2 {p p2 : Cm} {q q2 : Bool} (ha : ev fn ρ a S = .ok x S1) (hb : ev fn ρ b S1 = .ok y S1) (h : p.run x y S1 = .ok q S1) (hc : q = true → ev fn ρ c S1 = .ok z S1) (h2 : q = true → p2.run y z S1 = .ok q2 S1) : ev fn ρ (.cmp2 p p2 a b c) S = .ok (.bl (q && q2)) S1 := by
  conv => lhs; unfold ev
  show M.bind (ev fn ρ a) _ S = _
  rw [bindS, ha]
  show M.bind (ev fn ρ b) _ S1 = _
  rw [bindS, hb]
  show M.bind (p.run x y) _ S1 = _
  rw [bindS, h]
  cases q with
  | false => rfl
  | true =>
    show M.bind (ev fn ρ c) _ S1 = _
    rw [bindS, hc rfl]
    show M.bind (p2.run y z) _ S1 = _
    rw [bindS, h2 rfl]; rfl
theorem vIdx (ha : ev fn ρ a S = .ok x S1) (hb : ev fn ρ b S1 = .ok y S2) (h : x.item y S2 = .ok v S2) : ev fn ρ (.idx a b) S = .ok v S2 := by
  rw [xIdx, bindS, ha]; dsimp only; rw [bindS, hb]; exact h
/-- x[lo:hi], both ints -/
theorem vSl {i j : Int} (hp1 : noPart b = false) (hp2 : noPart c = false) (ha : ev fn ρ a S = .ok x S1) (hb : ev fn ρ b S1 = .ok (.int i) S2) (hc : ev fn ρ c S2 = .ok (.int j) S3) (h : D.slice x (.int i) (.int j) S3 = .ok v S3) : ev fn ρ (.sl a b c) S = .ok v S3 := by
  have q1 : partOk b (.int i) S2 = .ok (.int i) S2 := by unfold partOk; rw [hp1]; rfl
  have q2 : partOk c (.int j) S3 = .ok (.int j) S3 := by unfold partOk; rw [hp2]; rfl
  rw [xSl, bindS, ha]; dsimp only; rw [bindS, hb]; dsimp only; rw [bindS, q1]; dsimp only; rw [bindS, hc]; dsimp only; rw [bindS, q2]; exact h
theorem vSlTo {j : Int} (hp2 : noPart c = false) (ha : ev fn ρ a S = .ok x S1) (hc : ev fn ρ c S1 = .ok (.int j) S3) (h : D.slice x .non (.int j) S3 = .ok v S3) : ev fn ρ (.sl a (.con .non) c) S = .ok v S3 := by
  have q2 : partOk c (.int j) S3 = .ok (.int j) S3 := by unfold partOk; rw [hp2]; rfl
  have q1 : partOk (.con .non) .non S1 = .ok .non S1 := rfl
  rw [xSl, bindS, ha]; dsimp only; rw [bindS, xCon]; dsimp only; rw [bindS, q1]; dsimp only; rw [bindS, hc]; dsimp only; rw [bindS, q2]; exact h
theorem vSlFrom {i : Int} (hp1 : noPart b = false) (ha : ev fn ρ a S = .ok x S1) (hb : ev fn ρ b S1 = .ok (.int i) S2) (h : D.slice x (.int i) .non S2 = .ok v S2) : ev fn ρ (.sl a b (.con .non)) S = .ok v S2 := by
  have q1 : partOk b (.int i) S2 = .ok (.int i) S2 := by unfold partOk; rw [hp1]; rfl
  rw [xSl, bindS, ha]; dsimp only; rw [bindS, hb]; dsimp only; rw [bindS, q1]; dsimp only; rw [bindS, xCon]; dsimp only; rw [bindS, show partOk (.con .non) .non S2 = .ok .non S2 from rfl]; exact h
theorem vRev (ha : ev fn ρ a S = .ok x S1) (h : x.back S1 = .ok v S1) : ev fn ρ (.rev a) S = .ok v S1 := by
  conv => lhs; unfold ev
  rw [seqS, bindS, ha]; exact h
theorem fNil : evF fn ρ .nil S = .ok [] S := xFN
theorem fCons {xs : List D} (oa : isOwn ρ a = false) (ha : ev fn ρ a S = .ok x S1) (hr : evF fn ρ r S1 = .ok xs S2) : evF fn ρ (.cons a r) S = .ok (x :: xs) S2 := by
  rw [xFC, oa, bindS]
  show M.bind (ev fn ρ a) _ S = _
  rw [bindS, ha]; dsimp only; rw [bindS, hr]
theorem sNil : evs fn ρ .nil S = .ok [] S := xsN
theorem sCons {xs : List D} (ha : ev fn ρ a S = .ok x S1) (hr : evs fn ρ r S1 = .ok xs S2) : evs fn ρ (.cons a r) S = .ok (x :: xs) S2 := by
  rw [xsC, bindS, ha]; dsimp only; rw [bindS, hr]
theorem vTup {xs : List D} (h : evF fn ρ l S = .ok xs S1) : ev fn ρ (.tup l) S = .ok (.tup xs) S1 := by
  rw [xTup, bindS, h]
theorem vLst {xs : List D} (h : evF fn ρ l S = .ok xs S1) : ev fn ρ (.lst l) S = .ok (.lst xs) S1 := by
  rw [xLst, bindS, h]
theorem vDic0 : ev fn ρ (.dic .nil .nil) S = .ok (.dct []) S := xDic0
theorem vDic {ks vs : List D} {ps : List (Ky × D)} (h1 : evF fn ρ l S = .ok ks S1) (h2 : evF fn ρ r S1 = .ok vs S2) (h : zipDic ks vs = some ps) : ev fn ρ (.dic l r) S = .ok (.dct (dictOf ps)) S2 := by
  conv => lhs; unfold ev
  rw [seqS, bindS, h1]
  show M.bind (evF fn ρ r) _ S1 = _
  rw [bindS, h2]
  show M.bind (M.of (zipDic ks vs)) _ S2 = _
  rw [h]; rfl
theorem vLcat (ha : ev fn ρ a S = .ok x S1) (hb : ev fn ρ b S1 = .ok y S2) (h : lcatD x y S2 = .ok v S2) : ev fn ρ (.lcat a b) S = .ok v S2 := by
  rw [xLcat, bindS, ha]; dsimp only; rw [bindS, hb]; exact h
theorem vLrep {xs : List D} (ha : evF fn ρ l S = .ok xs S1) (hb : ev fn ρ b S1 = .ok y S2) (h : lrepD xs y S2 = .ok v S2) : ev fn ρ (.lrep l b) S = .ok v S2 := by
  rw [xLrep, bindS, ha]; dsimp only; rw [bindS, hb]; exact h
theorem vRng {i j : Int} (ha : ev fn ρ a S = .ok (.int i) S1) (hb : ev fn ρ b S1 = .ok (.int j) S2) (h : rangeOk i j = true) : ev fn ρ (.rng a b) S = .ok (.lst (rangeD i j)) S2 := by
  unfold ev
  rw [seqS, bindS, ha]
  show M.bind (ev fn ρ b) _ S1 = _
  rw [bindS, hb]
  show M.bind (M.ask (rangeOk i j)) _ S2 = _
  rw [bindS, ask_of h]; rfl
theorem vEnu {its : List D} (oa : isOwn ρ a = false) (ha : ev fn ρ a S = .ok x S1) (hi : x.items S1 = .ok its S1) : ev fn ρ (.enu a) S = .ok (.lst (enumD its)) S1 := by
  rw [xEnu, oa, bindS]
  show M.bind (ev fn ρ a) _ S = _
  rw [bindS, ha]; dsimp only; rw [bindS, hi]
theorem vZip {xs ys : List D} (oa : isOwn ρ a = false) (ob : isOwn ρ b = false) (ha : ev fn ρ a S = .ok x S1) (hb : ev fn ρ b S1 = .ok y S2) (hi : x.items S2 = .ok xs S2) (hj : y.items S2 = .ok ys S2) : ev fn ρ (.zip a b) S = .ok (.lst (pairsD xs ys)) S2 := by
  rw [xZip, oa, ob, bindS]
  show M.bind (ev fn ρ a) _ S = _
  rw [bindS, ha]; dsimp only; rw [bindS, hb]; dsimp only; rw [bindS, hi]; dsimp only; rw [bindS, hj]
theorem vCall {n : Nat} {xs : List D} (ha : evF fn ρ l S = .ok xs S1) (h : fn.call n xs S1 = .ok v S2) : ev fn ρ (.call n l) S = .ok v S2 := by
  rw [xCall, bindS, ha]; exact h
theorem vBi {p : Bi} {xs : List D} (ha : evs fn ρ l S = .ok xs S1) (h : p.run xs S1 = .ok v S2) : ev fn ρ (.bi p l) S = .ok v S2 := by
  rw [xBi, bindS, ha]; exact h
theorem vBi1 {p : Bi} (ha : ev fn ρ a S = .ok x S1) (h : p.run1 x S1 = .ok v S2) : ev fn ρ (.bi p (.cons a .nil)) S = .ok v S2 := vBi (sCons ha sNil) h
theorem vBi2 {p : Bi} (ha : ev fn ρ a S = .ok x S1) (hb : ev fn ρ b S1 = .ok y S2) (h : p.run2 x y S2 = .ok v S3) : ev fn ρ (.bi p (.cons a (.cons b .nil))) S = .ok v S3 := vBi (sCons ha (sCons hb sNil)) h
theorem vMe1 {m : Me} (ho : ev fn ρ o S = .ok x S1) (hr : m.recv x = true) (ha : ev fn ρ a S1 = .ok y S2) (h : m.run1 x y S2 = .ok v S3) : ev fn ρ (.me m o (.cons a .nil)) S = .ok v S3 := by
  rw [xMe, bindS, ho]; dsimp only; rw [hr, bindS]
  show M.bind (evs fn ρ (.cons a .nil)) _ S1 = _
  rw [bindS, sCons ha sNil]; exact h
theorem vMe2 {m : Me} (ho : ev fn ρ o S = .ok x S1) (hr : m.recv x = true) (ha : ev fn ρ a S1 = .ok y S2) (hb : ev fn ρ b S2 = .ok z S3) (h : m.run2 x y z S3 = .ok v S4) : ev fn ρ (.me m o (.cons a (.cons b .nil))) S = .ok v S4 := by
  rw [xMe, bindS, ho]; dsimp only; rw [hr, bindS]
  show M.bind (evs fn ρ (.cons a (.cons b .nil))) _ S1 = _
  rw [bindS, sCons ha (sCons hb sNil)]; exact h
theorem vIsa {ty : Ty} (ha : ev fn ρ a S = .ok x S1) (h : x.isObj = false) : ev fn ρ (.isa a ty) S = .ok (.bl (ty.run x)) S1 := by
  conv => lhs; unfold ev
  rw [seqS, bindS, ha]
  show M.bind (M.ask (!x.isObj)) _ S1 = _
  rw [h]; rfl
theorem vSset {xs : List D} (ha : ev fn ρ a S = .ok x S1) (hl : lstOf x S1 = .ok xs S1) (h : (sortOk xs && fits xs) = true) : ev fn ρ (.sset a) S = .ok (.lst (sortD (dedup xs))) S1 := by
  conv => lhs; unfold ev
  rw [seqS, bindS, ha]
  show M.bind (lstOf x) _ S1 = _
  rw [bindS, hl]
  show M.bind (M.ask _) _ S1 = _
  rw [bindS, ask_of h]; rfl
theorem vLset {xs : List D} (ha : ev fn ρ a S = .ok x S1) (hl : lstOf x S1 = .ok xs S1) (h : (sortOk xs && fits xs) = true) : ev fn ρ (.lset a) S = .ok (.int (dedup xs).length) S1 := by
  conv => lhs; unfold ev
  rw [seqS, bindS, ha]
  show M.bind (lstOf x) _ S1 = _
  rw [bindS, hl]
  show M.bind (M.ask _) _ S1 = _
  rw [bindS, ask_of h]; rfl
theorem vKeys {ks : List (Ky × D)} (ha : ev fn ρ a S = .ok (.dct ks) S1) : ev fn ρ (.keys a) S = .ok (.lst (ks.map fun p => p.1.toD)) S1 := by
  conv => lhs; unfold ev
  rw [seqS, bindS, ha]; rfl
theorem vSortK {xs : List D} {ss : List Sx} (ha : ev fn ρ a S = .ok x S1) (hl : lstOf x S1 = .ok xs S1) (hs : allSome strOf xs = some ss) (h : (fits xs && ss.all fun s => fits s) = true) : ev fn ρ (.sortK a) S = .ok (.lst ((sortLen ss).map .str)) S1 := by
  conv => lhs; unfold ev
  rw [seqS, bindS, ha]
  show M.bind (lstOf x) _ S1 = _
  rw [bindS, hl]
  show M.bind (M.of (allSome strOf xs)) _ S1 = _
  rw [hs]
  show M.bind (M.ask _) _ S1 = _
  rw [bindS, ask_of h]; rfl
theorem vToldOk (ha : ev fn ρ a S = .ok x S1) : ev fn ρ (.told a) S = .ok (.tup [.str [116, 111, 108, 100], x]) S1 := by
  conv => lhs; unfold ev
  rw [ha]
theorem vToldX {c : Nat} (hc : c + 1 ≤ 5) (ha : ev fn ρ a S = .xc (c + 1) S1) : ev fn ρ (.told a) S = .ok (.tup [.str [114, 101, 102, 117, 115, 101, 100], .int c]) S1 := by
  conv => lhs; unfold ev
  rw [ha]
  show (if 1 ≤ c + 1 ∧ c + 1 ≤ 5 then R.ok _ S1 else _) = _
  rw [if_pos ⟨by omega, hc⟩]
  have : (((c + 1 : Nat) : Int) - 1) = (c : Int) := by omega
  rw [this]
theorem vTwiceOk (ha : ev fn ρ a S = .ok x S1) : ev fn ρ (.twice a) S = .ok (.tup [.str [116, 111, 108, 100], x]) S1 := by
  conv => lhs; unfold ev
  rw [ha]
theorem vCallX {n c : Nat} {xs : List D} (ha : evF fn ρ l S = .ok xs S1) (h : fn.call n xs S1 = .xc c S2) : ev fn ρ (.call n l) S = .xc c S2 := by
  rw [xCall, bindS, ha]; exact h
/-! ### comprehensions over what is told by a list of some kind -/
variable {α β γ : Type}
theorem filtM_map {f : D → M (Option D)} {enc : α → D} {p : α → Bool} {q : α → D} {S : Sto} : ∀ {l : List α}, (∀ a ∈ l, f (enc a) S = .ok (if p a then some (q a) else none) S) → filtM f (l.map enc) S = .ok ((l.filter p).map q) S
  | [], _ => rfl
  | a :: l, h => by
    show filtM f (enc a :: l.map enc) S = _
    unfold filtM
    rw [seqS, bindS, h a (by simp)]
    show M.bind (filtM f (l.map enc)) _ S = _
    rw [bindS, filtM_map fun d hd => h d (by simp [hd])]
    show R.ok ((if p a then some (q a) else none).toList ++ (l.filter p).map q) S = _
    cases e : p a <;> simp [e]
theorem item_eq {own : List Nat} {t : T} {d : D} {ρ' : Env} {p : Bool} {q : D} (h1 : t.put d (wipeE ρ own) = some ρ') (hc : ev fn ρ' c S = .ok (.bl p) S) (ho : isOwn ρ' e = false) (he : p = true → ev fn ρ' e S = .ok q S) :
    itemE fn ρ own t c e d S = .ok (if p then some q else none) S := by
  unfold itemE
  rw [seqS, h1]
  show M.bind (ev fn ρ' c).noX _ S = _
  rw [bindS, noXS, hc]
  show M.bind (D.bl p).truthy.noX _ S = _
  rw [bindS, noXS, truB]
  dsimp only
  cases p with
  | false => rfl
  | true =>
    show M.bind (M.ask (!isOwn ρ' e)) _ S = _
    rw [ho, bindS]
    show M.bind (ev fn ρ' e).noX _ S = _
    rw [bindS, noXS, he rfl]; rfl
theorem vCompF {own : List Nat} {t : T} {enc : α → D} {ls : List α} {p : α → Bool} {q : α → D} {ρ' : α → Env}
    (h : ev fn ρ a S = .ok x S1) (hi : x.items S1 = .ok (ls.map enc) S1) (hf : ls.length ≤ 16000000)
    (hp : ∀ d : α, t.put (enc d) (wipeE ρ own) = some (ρ' d)) (ho : ∀ d : α, isOwn (ρ' d) e = false)
    (hc : ∀ d ∈ ls, ev fn (ρ' d) c S1 = .ok (.bl (p d)) S1)
    (he : ∀ d ∈ ls, p d = true → ev fn (ρ' d) e S1 = .ok (q d) S1) :
    ev fn ρ (.comp e t a c own) S = .ok (.lst ((ls.filter p).map q)) S1 := by
  conv => lhs; unfold ev
  rw [seqS, bindS, h]
  show M.bind x.items _ S1 = _
  rw [bindS, hi]
  show M.bind (M.ask (fits (ls.map enc))) _ S1 = _
  rw [bindS, ask_of (fits_le (by rw [List.length_map]; exact hf))]
  show M.bind (filtM (itemE fn ρ own t c e) (ls.map enc)) _ S1 = _
  rw [bindS, filtM_map fun d hd => item_eq (hp d) (hc d hd) (ho d) (he d hd)]
  rfl
theorem vComp {own : List Nat} {t : T} {enc : α → D} {ls : List α} {q : α → D} {ρ' : α → Env}
    (h : ev fn ρ a S = .ok x S1) (hi : x.items S1 = .ok (ls.map enc) S1) (hf : ls.length ≤ 16000000)
    (hp : ∀ d : α, t.put (enc d) (wipeE ρ own) = some (ρ' d)) (ho : ∀ d : α, isOwn (ρ' d) e = false)
    (he : ∀ d ∈ ls, ev fn (ρ' d) e S1 = .ok (q d) S1) :
    ev fn ρ (.comp e t a (.con (.bl true)) own) S = .ok (.lst (ls.map q)) S1 := by
  have := vCompF (p := fun _ => true) h hi hf hp ho (fun d _ => vC) (fun d hd _ => he d hd)
  rw [List.filter_eq_self.mpr fun _ _ => rfl] at this
  exact this
theorem callGuard {f : Fns} {n : Nat} {xs : List D} {r : R D} (h : f.call n xs S = r) : f.call n xs S = r := h
/-! ### objects -/
theorem vGet {n f : Nat} (ho : ev fn ρ o S = .ok (.obj n) S1) (h : slot (S1.getD n []) f = .fz x ∨ slot (S1.getD n []) f = .ow x) : ev fn ρ (.get o f) S = .ok x S1 := by
  conv => lhs; unfold ev
  rw [seqS, bindS, ho]
  show (match slot (S1.getD n []) f with | .no => _ | .fz d => _ | .ow d => _) = _
  rcases h with h | h <;> rw [h]
theorem vOmt {n : Nat} {xs : List D} (oo : isOwn ρ o = false) (ho : ev fn ρ o S = .ok x S1) (ha : evF fn ρ l S1 = .ok xs S2) (h : fn.call n (x :: xs) S2 = .ok v S3) : ev fn ρ (.omt n o l) S = .ok v S3 := by
  conv => lhs; unfold ev
  rw [oo]
  show M.bind (M.ask true) _ S = _
  rw [bindS]
  show M.bind (ev fn ρ o) _ S = _
  rw [bindS, ho]
  show M.bind (evF fn ρ l) _ S1 = _
  rw [bindS, ha]; exact h
theorem vNew {n : Nat} {xs : List D} (ha : evF fn ρ l S = .ok xs S1) (h : fn.new n xs S1 = .ok v S2) : ev fn ρ (.new n l) S = .ok v S2 := by
  conv => lhs; unfold ev
  rw [seqS, bindS, ha]; exact h
end
/-! ### statements: what holds of how they end -/
def Wp (o : O) (Q : O → Prop) : Prop := Q o
/-- .. with more statements behind -/
def SeqQ (fn : Fns) (q : Ss) (Q : O → Prop) (o : O) : Prop := Wp (o.seq (exs fn q)) Q
/-- a turn's end -/
inductive TurnQ (P : Env → Sto → Prop) (Q : O → Prop) : O → Prop
  | nx {ρ : Env} {S : Sto} (h : P ρ S) : TurnQ P Q (.nx ρ S)
  | ct {ρ : Env} {S : Sto} (h : P ρ S) : TurnQ P Q (.ct ρ S)
  | rt {d : D} {S : Sto} (h : Q (.rt d S)) : TurnQ P Q (.rt d S)
  | xc {c : Nat} {S : Sto} (h : Q (.xc c S)) : TurnQ P Q (.xc c S)
/-- a loop's end -/
inductive LoopQ (P : Env → Sto → Prop) (Q : O → Prop) : O → Prop
  | nx {ρ : Env} {S : Sto} (h : P ρ S) : LoopQ P Q (.nx ρ S)
  | rt {d : D} {S : Sto} (h : Q (.rt d S)) : LoopQ P Q (.rt d S)
  | xc {c : Nat} {S : Sto} (h : Q (.xc c S)) : LoopQ P Q (.xc c S)
/-- ρ with s at i -/
inductive SetE : Env → Nat → Sl → Env → Prop
  | z {a s : Sl} {r : Env} : SetE (a :: r) 0 s (s :: r)
  | s {a s : Sl} {r r' : Env} {i : Nat} (h : SetE r i s r') : SetE (a :: r) (i + 1) s (a :: r')
theorem SetE.eq {ρ ρ' : Env} {i : Nat} {s : Sl} (h : SetE ρ i s ρ') : ρ.set i s = ρ' := by
  induction h with
  | z => rfl
  | s _ ih => rw [List.set_cons_succ, ih]
section
variable {fn : Fns} {ρ ρ' ρ2 : Env} {S S1 S2 S3 : Sto} {e e2 : E} {q a a2 : Ss} {x y v : D} {i j : Nat} {Q : O → Prop}
theorem wp_set (h : ev fn ρ e S = .ok x S1) (o : isOwn ρ e = false) (hs : SetE ρ i (.fz x) ρ') (k : Wp (exs fn q ρ' S1) Q) : Wp (exs fn (.cons (.set i e) q) ρ S) Q := by
  rw [yC, ySet, o, h]
  show Wp (exs fn q (ρ.set i (.fz x)) S1) Q
  rw [hs.eq]; exact k
theorem wp_own (h : ev fn ρ e S = .ok x S1) (hs : SetE ρ i (.ow x) ρ') (k : Wp (exs fn q ρ' S1) Q) : Wp (exs fn (.cons (.own i e) q) ρ S) Q := by
  rw [yC, yOwn, h]
  show Wp (exs fn q (ρ.set i (.ow x)) S1) Q
  rw [hs.eq]; exact k
theorem wp_par (o1 : isOwn ρ e = false) (o2 : isOwn ρ e2 = false) (h1 : ev fn ρ e S = .ok x S1) (h2 : ev fn ρ e2 S1 = .ok y S2) (hs1 : SetE ρ i (.fz x) ρ') (hs2 : SetE ρ' j (.fz y) ρ2) (k : Wp (exs fn q ρ2 S2) Q) : Wp (exs fn (.cons (.par i j e e2) q) ρ S) Q := by
  rw [yC, yPar, o1, o2]
  show Wp ((O.of (ev fn ρ e S) _).seq _) Q
  rw [h1]
  show Wp ((O.of (ev fn ρ e2 S1) _).seq _) Q
  rw [h2]
  show Wp (exs fn q ((ρ.set i (.fz x)).set j (.fz y)) S2) Q
  rw [hs1.eq, hs2.eq]; exact k
theorem wp_tset {is : List Nat} {ds : List D} (h : ev fn ρ e S = .ok (.tup ds) S1) (o : isOwn ρ e = false) (hs : setAll is ds ρ = some ρ') (k : Wp (exs fn q ρ' S1) Q) : Wp (exs fn (.cons (.tset is e) q) ρ S) Q := by
  rw [yC]
  unfold ex
  rw [o]
  show Wp ((O.of (ev fn ρ e S) _).seq _) Q
  rw [h]
  show Wp ((match setAll is ds ρ with | some ρ' => O.nx ρ' S1 | none => .bad).seq _) Q
  rw [hs]; exact k
theorem wp_tsetL {is : List Nat} {ds : List D} (h : ev fn ρ e S = .ok (.lst ds) S1) (o : isOwn ρ e = false) (hs : setAll is ds ρ = some ρ') (k : Wp (exs fn q ρ' S1) Q) : Wp (exs fn (.cons (.tsetL is e) q) ρ S) Q := by
  rw [yC]
  unfold ex
  rw [o]
  show Wp ((O.of (ev fn ρ e S) _).seq _) Q
  rw [h]
  show Wp ((match setAll is ds ρ with | some ρ' => O.nx ρ' S1 | none => .bad).seq _) Q
  rw [hs]; exact k
theorem wp_parO (o2 : isOwn ρ e2 = false) (h1 : ev fn ρ e S = .ok x S1) (h2 : ev fn ρ e2 S1 = .ok y S2) (hs1 : SetE ρ i (.ow x) ρ') (hs2 : SetE ρ' j (.fz y) ρ2) (k : Wp (exs fn q ρ2 S2) Q) : Wp (exs fn (.cons (.parO i j e e2) q) ρ S) Q := by
  rw [yC]
  unfold ex
  rw [o2]
  show Wp ((O.of (ev fn ρ e S) _).seq _) Q
  rw [h1]
  show Wp ((O.of (ev fn ρ e2 S1) _).seq _) Q
  rw [h2]
  show Wp (exs fn q ((ρ.set i (.ow x)).set j (.fz y)) S2) Q
  rw [hs1.eq, hs2.eq]; exact k
theorem wp_setX {c : Nat} (o : isOwn ρ e = false) (h : ev fn ρ e S = .xc c S1) (k : Q (.xc c S1)) : Wp (exs fn (.cons (.set i e) q) ρ S) Q := by
  rw [yC, ySet, o, h]; exact k
theorem wp_retX {c : Nat} (o : isOwn ρ e = false) (h : ev fn ρ e S = .xc c S1) (k : Q (.xc c S1)) : Wp (exs fn (.cons (.ret e) q) ρ S) Q := by
  rw [yC, yRet, o, h]; exact k
theorem wp_app {l : List D} (h0 : slot ρ i = .ow (.lst l)) (h : ev fn ρ e S = .ok x S1) (o : isOwn ρ e = false) (hf : l.length ≤ 16000000) (hs : SetE ρ i (.ow (.lst (l ++ [x]))) ρ') (k : Wp (exs fn q ρ' S1) Q) : Wp (exs fn (.cons (.app i e) q) ρ S) Q := by
  rw [yC, yApp, h0]
  dsimp only
  rw [o, h]
  show Wp ((if fits l = true then O.nx (ρ.set i (.ow (.lst (l ++ [x])))) S1 else .bad).seq _) Q
  rw [if_pos (fits_le hf), hs.eq]; exact k
theorem wp_ext {l m : List D} (h0 : slot ρ i = .ow (.lst l)) (h : ev fn ρ e S = .ok (.lst m) S1) (hf : l.length + m.length ≤ 16000000) (hs : SetE ρ i (.ow (.lst (l ++ m))) ρ') (k : Wp (exs fn q ρ' S1) Q) : Wp (exs fn (.cons (.ext i e) q) ρ S) Q := by
  rw [yC]
  unfold ex
  rw [h0]
  dsimp only
  rw [h]
  show Wp ((if fits (l ++ m) = true then O.nx (ρ.set i (.ow (.lst (l ++ m)))) S1 else .bad).seq _) Q
  rw [if_pos (fits_le (by rw [List.length_append]; exact hf)), hs.eq]; exact k
theorem wp_putD {l : List (Ky × D)} {k : Ky} (h0 : slot ρ i = .ow (.dct l)) (o : isOwn ρ e = false) (h : ev fn ρ e S = .ok x S1) (h2 : ev fn ρ e2 S1 = .ok y S2) (hk : Ky.ofD y = some k) (hf : l.length ≤ 16000000) (hs : SetE ρ i (.ow (.dct (putK k x l))) ρ') (kk : Wp (exs fn q ρ' S2) Q) : Wp (exs fn (.cons (.put i e2 e) q) ρ S) Q := by
  rw [yC, yPut, h0]
  dsimp only
  rw [o, h]
  show Wp ((O.of (ev fn ρ e2 S1) _).seq _) Q
  rw [h2]
  show Wp ((match Ky.ofD y with | some k => if fits l then O.nx (ρ.set i (.ow (.dct (putK k x l)))) S2 else .bad | none => .bad).seq _) Q
  rw [hk]
  show Wp ((if fits l then O.nx (ρ.set i (.ow (.dct (putK k x l)))) S2 else .bad).seq _) Q
  rw [if_pos (fits_le hf), hs.eq]; exact kk
theorem wp_putL {l : List D} {n : Int} {m : Nat} (h0 : slot ρ i = .ow (.lst l)) (o : isOwn ρ e = false) (h : ev fn ρ e S = .ok x S1) (h2 : ev fn ρ e2 S1 = .ok (.int n) S2) (hk : ixAt l.length n = some m) (hs : SetE ρ i (.ow (.lst (l.set m x))) ρ') (kk : Wp (exs fn q ρ' S2) Q) : Wp (exs fn (.cons (.put i e2 e) q) ρ S) Q := by
  rw [yC, yPut, h0]
  dsimp only
  rw [o, h]
  show Wp ((O.of (ev fn ρ e2 S1) _).seq _) Q
  rw [h2]
  show Wp ((match ixAt l.length n with | some j => O.nx (ρ.set i (.ow (.lst (l.set j x)))) S2 | none => .bad).seq _) Q
  rw [hk]
  show Wp (exs fn q (ρ.set i (.ow (.lst (l.set m x)))) S2) Q
  rw [hs.eq]; exact kk
theorem wp_exp (h : ev fn ρ e S = .ok x S1) (k : Wp (exs fn q ρ S1) Q) : Wp (exs fn (.cons (.exp e) q) ρ S) Q := by
  rw [yC]
  unfold ex
  rw [h]; exact k
theorem wp_frz (h : slot ρ i = .ow x) (hs : SetE ρ i (.fz x) ρ') (k : Wp (exs fn q ρ' S) Q) : Wp (exs fn (.cons (.frz i) q) ρ S) Q := by
  rw [yC]
  unfold ex
  rw [h]
  show Wp (exs fn q (ρ.set i (.fz x)) S) Q
  rw [hs.eq]; exact k
theorem wp_if {b : Bool} (h : ev fn ρ e S = .ok x S1) (ht : x.truthy S1 = .ok b S1) (h1 : b = true → Wp (exs fn a ρ S1) (SeqQ fn q Q)) (h2 : b = false → Wp (exs fn a2 ρ S1) (SeqQ fn q Q)) : Wp (exs fn (.cons (.ife e a a2) q) ρ S) Q := by
  rw [yC, yIfe, h]
  show Wp ((O.of (x.truthy S1) fun k S => if k then exs fn a ρ S else exs fn a2 ρ S).seq _) Q
  rw [ht]
  cases b with
  | true => exact h1 rfl
  | false => exact h2 rfl
theorem wp_ifT (h : ev fn ρ e S = .ok x S1) (ht : x.truthy S1 = .ok true S1) (k : Wp (exs fn a ρ S1) (SeqQ fn q Q)) : Wp (exs fn (.cons (.ife e a a2) q) ρ S) Q := wp_if h ht (fun _ => k) (fun z => by cases z)
theorem wp_ifF {b : Bool} (h : ev fn ρ e S = .ok (.bl b) S1) (hb : b = false) (k : Wp (exs fn q ρ S1) Q) : Wp (exs fn (.cons (.ife e a .nil) q) ρ S) Q :=
  wp_if h (truB b S1) (fun z => by rw [hb] at z; cases z) (fun _ => by rw [yN]; exact k)
theorem wp_ifTb {b : Bool} (h : ev fn ρ e S = .ok (.bl b) S1) (hb : b = true) (k : Wp (exs fn a ρ S1) (SeqQ fn q Q)) : Wp (exs fn (.cons (.ife e a a2) q) ρ S) Q := wp_if h (truB b S1) (fun _ => k) (fun z => by rw [hb] at z; cases z)
theorem wp_ret (h : ev fn ρ e S = .ok x S1) (o : isOwn ρ e = false) (k : Q (.rt x S1)) : Wp (exs fn (.cons (.ret e) q) ρ S) Q := by
  rw [yC, yRet, o, h]; exact k
theorem wp_raise (k : Q (.xc i S)) : Wp (exs fn (.cons (.raise i) q) ρ S) Q := by
  rw [yC, yRaise]; exact k
theorem wp_pass (k : Wp (exs fn q ρ S) Q) : Wp (exs fn (.cons .pass q) ρ S) Q := by
  rw [yC, yPass]; exact k
theorem wp_cont (k : Q (.ct ρ S)) : Wp (exs fn (.cons .cont q) ρ S) Q := by
  rw [yC, yCont]; exact k
theorem wp_nil (k : Q (.nx ρ S)) : Wp (exs fn .nil ρ S) Q := by
  rw [yN]; exact k
theorem wp_end {q : Ss} (k : Wp (exs fn q ρ S) Q) : Wp (exs fn .nil ρ S) (SeqQ fn q Q) := by
  rw [yN]; exact k
theorem loop_wp {α : Type} {t : T} {enc : α → D} {b : Ss} (Inv : Nat → Env → Sto → Prop) : ∀ {ls : List α} {n : Nat} {ρ : Env} {S : Sto}, Inv n ρ S →
    (∀ k x ρ1 S1, ls[k]? = some x → Inv (n + k) ρ1 S1 → ∃ ρ2, t.put (enc x) ρ1 = some ρ2 ∧ Wp (exs fn b ρ2 S1) (TurnQ (Inv (n + k + 1)) Q)) →
    LoopQ (Inv (n + ls.length)) Q (loopO t (exs fn b) (ls.map enc) ρ S)
  | [], n, ρ, S, h0, _ => .nx h0
  | x :: ls, n, ρ, S, h0, h => by
    obtain ⟨ρ2, e1, w⟩ := h 0 x ρ S rfl h0
    have hn : ∀ ρ3 S3, Inv (n + 1) ρ3 S3 → LoopQ (Inv (n + (x :: ls).length)) Q (loopO t (exs fn b) (ls.map enc) ρ3 S3) := fun ρ3 S3 h3 => by
      have := loop_wp (t := t) (enc := enc) (b := b) Inv (ls := ls) (n := n + 1) h3 fun k y ρ1 S1 hy hi => by
        have := h (k + 1) y ρ1 S1 (by simpa using hy) (by rw [show n + (k + 1) = n + 1 + k by omega]; exact hi)
        rw [show n + (k + 1) + 1 = n + 1 + k + 1 by omega] at this
        exact this
      rw [show n + 1 + ls.length = n + (x :: ls).length by simp; omega] at this
      exact this
    show LoopQ _ Q (match t.put (enc x) ρ with | some ρ' => (exs fn b ρ' S).turn (loopO t (exs fn b) (ls.map enc)) | none => .bad)
    rw [e1]
    show LoopQ _ Q ((exs fn b ρ2 S).turn (loopO t (exs fn b) (ls.map enc)))
    unfold Wp at w
    generalize exs fn b ρ2 S = oo at w
    cases w with
    | nx h => exact hn _ _ h
    | ct h => exact hn _ _ h
    | rt h => exact .rt h
    | xc h => exact .xc h
theorem wp_for {α : Type} {t : T} {enc : α → D} {ls : List α} {b : Ss} (Inv : Nat → Env → Sto → Prop) (h : ev fn ρ e S = .ok x S1) (o : isOwn ρ e = false) (hi : x.items S1 = .ok (ls.map enc) S1)
    (h0 : Inv 0 ρ S1) (hs : ∀ k y ρ1 S1, ls[k]? = some y → Inv k ρ1 S1 → ∃ ρ2, t.put (enc y) ρ1 = some ρ2 ∧ Wp (exs fn b ρ2 S1) (TurnQ (Inv (k + 1)) Q))
    (hk : ∀ ρ' S', Inv ls.length ρ' S' → Wp (exs fn q ρ' S') Q) : Wp (exs fn (.cons (.for_ t e b) q) ρ S) Q := by
  rw [yC, yFor, o, h]
  show Wp ((O.of (x.items S1) fun its S => loopO t (exs fn b) its ρ S).seq _) Q
  rw [hi]
  show Wp ((loopO t (exs fn b) (ls.map enc) ρ S1).seq (exs fn q)) Q
  have L := loop_wp (fn := fn) (Q := Q) (t := t) (enc := enc) (b := b) Inv (ls := ls) (n := 0) (ρ := ρ) (S := S1) h0 fun k y ρ1 S1 hy hi => by
    rw [Nat.zero_add] at hi ⊢
    exact hs k y ρ1 S1 hy hi
  rw [Nat.zero_add] at L
  unfold Wp
  generalize loopO t (exs fn b) (ls.map enc) ρ S1 = oo at L
  have L' : LoopQ (Inv ls.length) Q oo := L
  cases oo with
  | nx ρ3 S3 =>
    cases L' with
    | nx h => exact hk _ _ h
  | rt d S3 =>
    cases L' with
    | rt h => exact h
  | xc d S3 =>
    cases L' with
    | xc h => exact h
  | ct ρ3 S3 => cases L'
  | bad => cases L'
theorem flatMap_take {α β : Type} {l : List α} {i : Nat} {x : α} (g : α → List β) (h : l[i]? = some x) : (l.take (i + 1)).flatMap g = (l.take i).flatMap g ++ g x := by
  rw [List.take_add_one, h, List.flatMap_append]; simp
theorem flatMap_take_len {α β : Type} (g : α → List β) (l : List α) (i : Nat) : ((l.take i).flatMap g).length ≤ (l.flatMap g).length := by
  have : (l.flatMap g).length = ((l.take i).flatMap g).length + ((l.drop i).flatMap g).length := by
    rw [← List.length_append, ← List.flatMap_append, List.take_append_drop]
  omega
theorem map_take1 {α β : Type} {l : List α} {i : Nat} {x : α} (g : α → β) (h : l[i]? = some x) : (l.take (i + 1)).map g = (l.take i).map g ++ [g x] := by
  rw [List.take_add_one, h, List.map_append]; rfl
end
end TD
end
section
set_option Elab.async false
set_option linter.all false
set_option maxRecDepth 100000
/-! What the laws draw: _law_cell_at, _law_mixed, _law_drawn, _law_number. -/
namespace TD
section
variable {P : Nat → Option Df} {f k : Nat} {S : Sto}
theorem run_of {i : Nat} {df : Df} (h : P i = some df) (ds : List D) : run P f (k + 1) i ds = df.run ⟨run P f k, newOb (run P f k) f⟩ ds := by
  show (match P i with | some df => _ | none => _) = _
  rw [h]
def cellAt (ns : List Int) (k : Nat) : Int := ns.getD k 0
theorem r4 (h4 : P 4 = some d4) (ns : List Int) (j : Nat) : run P f (k + 1) 4 [.lst (ns.map .int), .int j] S = .ok (.int (cellAt ns j)) S := by
  rw [run_of h4]
  simp only [Df.run, d4, exs, ex, ev, evs, evF, slot, List.length, if_true, seqS, bindS, pureS, retS, O.of, O.seq, Bi.run, Bi.run1, ltI, D.item, List.map, List.cons_append, List.nil_append, List.getD_cons_zero, List.getD_cons_succ, isOwn, truB, getAt_nat]
  unfold cellAt
  by_cases h : j < ns.length
  · have h2 : ((j : Int) < ((ns.map D.int).length : Nat)) := by rw [List.length_map]; omega
    simp [h2, h, List.getElem?_eq_getElem h, ofS, O.end_]
  · have h2 : ¬ ((j : Int) < ((ns.map D.int).length : Nat)) := by rw [List.length_map]; omega
    simp [h2, h, O.end_, List.getElem?_eq_none (by omega : ns.length ≤ j)]
def mixed (ns : List Int) (k : Nat) : Int :=
  let d := (cellAt ns k + 7919 * k + 1) * 48271 % 2147483647
  (d * d + 7 * d + k) % 2147483629
theorem r5 (h4 : P 4 = some d4) (h5 : P 5 = some d5) (ns : List Int) (j : Nat) (hj : j < 1000) : run P f (k + 2) 5 [.lst (ns.map .int), .int j] S = .ok (.int (mixed ns j)) S := by
  rw [run_of h5]
  have hd : ∀ x : Int, (x % 2147483647).natAbs < 2 ^ 64 := fun x => by omega
  simp only [Df.run, d5, exs, ex, ev, evs, evF, slot, List.length, if_true, seqS, bindS, pureS, retS, O.of, O.seq, List.map, List.cons_append, List.nil_append, List.getD_cons_zero, List.getD_cons_succ, isOwn, truB, List.replicate, Bool.not_false, askT, r4 h4, addI, List.set_cons_zero, List.set_cons_succ, mulL 7919 _ (by decide), mulR _ 48271 (by decide), modI _ 2147483647 (by decide), modI _ 2147483629 (by decide), mulL 7 _ (by decide), mulL _ _ (hd _), Bool.false_eq_true, if_false]
  rfl
def drawn (n k : Int) : Int :=
  let d := (n + 104729 * k + 17) * 69621 % 2147483647
  (d * d + 3 * d + k) % 2147483629
theorem r6 (h6 : P 6 = some d6) (n j : Int) : run P f (k + 1) 6 [.int n, .int j] S = .ok (.int (drawn n j)) S := by
  rw [run_of h6]
  have hd : ∀ x : Int, (x % 2147483647).natAbs < 2 ^ 64 := fun x => by omega
  simp only [Df.run, d6, exs, ex, ev, evs, evF, slot, List.length, if_true, seqS, bindS, pureS, retS, O.of, O.seq, List.map, List.cons_append, List.nil_append, List.getD_cons_zero, List.getD_cons_succ, isOwn, truB, List.replicate, Bool.not_false, askT, addI, List.set_cons_zero, List.set_cons_succ, mulL 104729 _ (by decide), mulR _ 69621 (by decide), modI _ 2147483647 (by decide), modI _ 2147483629 (by decide), mulL 3 _ (by decide), mulL _ _ (hd _), Bool.false_eq_true, if_false]
  rfl
theorem mixed_nonneg (ns : List Int) (k : Nat) : 0 ≤ mixed ns k := Int.emod_nonneg _ (by decide)
theorem drawn_nonneg (n k : Int) : 0 ≤ drawn n k := Int.emod_nonneg _ (by decide)
/-- a drawn number: so many counts of 1 to 4 -/
def number (n most : Int) : List Int := (List.range (1 + n / 16 % most).toNat).map fun (k : Nat) => 1 + drawn n k / 16 % 4
theorem r7 (h6 : P 6 = some d6) (h7 : P 7 = some d7) (n most : Int) (hm : 0 < most) (hm2 : most < 1000) (hn : 0 ≤ n) : run P f (k + 2) 7 [.int n, .int most] S = .ok (.tup ((number n most).map .int)) S := by
  rw [run_of h7]
  have b1 : 0 ≤ n / 16 % most := Int.emod_nonneg _ (by omega)
  have b2 : n / 16 % most < most := Int.emod_lt_of_pos _ hm
  have hr : rangeOk 0 (1 + n / 16 % most) = true := by simp [rangeOk]; omega
  have hc : ev ⟨run P f (k + 1), newOb (run P f (k + 1)) f⟩ [.fz (.int n), .fz (.int most), .no] (.comp (.bin .add (.con (.int 1)) (.bin .mod (.bin .fdiv (.call 6 (.cons (.var 0) (.cons (.var 2) .nil))) (.con (.int 16))) (.con (.int 4)))) (.n 2) (.rng (.con (.int 0)) (.bin .add (.con (.int 1)) (.bin .mod (.bin .fdiv (.var 0) (.con (.int 16))) (.var 1)))) (.con (.bl true)) [2]) S = .ok (.lst ((number n most).map .int)) S := by
    have := evComp (fn := ⟨run P f (k + 1), newOb (run P f (k + 1)) f⟩) (ρ := [.fz (.int n), .fz (.int most), .no]) (elt := (.bin .add (.con (.int 1)) (.bin .mod (.bin .fdiv (.call 6 (.cons (.var 0) (.cons (.var 2) .nil))) (.con (.int 16))) (.con (.int 4))))) (t := .n 2) (src := (.rng (.con (.int 0)) (.bin .add (.con (.int 1)) (.bin .mod (.bin .fdiv (.var 0) (.con (.int 16))) (.var 1))))) (c := .con (.bl true)) (own := [2]) (x := .lst (rangeD 0 (1 + n / 16 % most))) (its := rangeD 0 (1 + n / 16 % most)) (S := S)
      (g := fun d => match d with | .int i => some (.int (1 + drawn n i / 16 % 4)) | _ => none) ?_ rfl ?_ ?_
    · rw [this]
      congr 2
      simp only [rangeD, number, List.filterMap_map, List.map_map, Int.sub_zero]
      rw [← filterMap_some]
      congr 1
      funext i
      simp
    · simp only [ev, slot, seqS, bindS, pureS, retS, List.getD_cons_zero, List.getD_cons_succ, divI _ 16 (by decide) (by decide), modI _ _ hm, addI, ask_of hr]
    · refine fits_le ?_
      simp [rangeD]; omega
    · intro d hd
      simp only [rangeD, List.mem_map, List.mem_range] at hd
      obtain ⟨i, hi, rfl⟩ := hd
      simp only [itemE, T.put, wipeE, List.set_cons_zero, List.set_cons_succ, ofS, ev, evF, slot, seqS, bindS, pureS, retS, noXS, List.getD_cons_zero, List.getD_cons_succ, truB, isOwn, Bool.not_false, askT, if_true, r6 h6, divI _ 16 (by decide) (by decide), modI _ 4 (by decide), addI, Int.zero_add]
  simp only [Df.run, d7, exs, ex, evs, List.length, if_true, seqS, bindS, pureS, retS, O.of, O.seq, List.map, List.cons_append, List.nil_append, isOwn, List.replicate, Bool.false_eq_true, if_false]
  conv => lhs; unfold ev
  simp only [seqS, bindS, evs, hc, pureS]
  rfl
end
end TD
end
section
set_option Elab.async false
set_option linter.all false
set_option maxRecDepth 100000
/-! beats, number_for, heard, alone. -/
namespace TD
section
variable {P : Nat → Option Df} {f k : Nat} {S : Sto}
/-- n taps -/
def tapsX (n : Nat) : Sx := joinS [48] (List.replicate n [49])
def beats (cs : List Int) : Sx := joinS [48, 48, 48] (cs.map fun c => tapsX c.toNat)
theorem joinS_len (s : Sx) : ∀ l : List Sx, (joinS s l).length ≤ (l.map (·.length)).sum + l.length * s.length
  | [] => by simp [joinS]
  | [x] => by simp [joinS]
  | x :: y :: l => by
    have := joinS_len s (y :: l)
    simp only [joinS, List.length_append, List.map_cons, List.sum_cons, List.length_cons] at this ⊢
    rw [Nat.add_mul (l.length + 1) 1]
    omega
theorem tapsX_len (n : Nat) : (tapsX n).length ≤ 2 * n := by
  have h := joinS_len [48] (List.replicate n [49])
  simp at h
  unfold tapsX
  omega
theorem sum_le {α : Type} (g : α → Nat) (b : Nat) : ∀ l : List α, (∀ x ∈ l, g x ≤ b) → (l.map g).sum ≤ l.length * b
  | [], _ => by simp
  | x :: l, h => by
    have := sum_le g b l fun y hy => h y (by simp [hy])
    have := h x (by simp)
    simp only [List.map_cons, List.sum_cons, List.length_cons]
    rw [Nat.add_mul]
    omega
/-- a number as drawn: few small counts -/
def Small (cs : List Int) : Prop := cs.length ≤ 100 ∧ ∀ c ∈ cs, 0 ≤ c ∧ c ≤ 100
theorem beats_len {cs : List Int} (h : Small cs) : (beats cs).length ≤ 20300 := by
  have h1 := joinS_len [48, 48, 48] (cs.map fun c => tapsX c.toNat)
  have h2 := sum_le (fun c : Int => (tapsX c.toNat).length) 200 cs fun c hc => by
    have := tapsX_len c.toNat
    have := h.2 c hc
    omega
  rw [List.map_map, List.length_map] at h1
  have h3 : cs.length * 200 ≤ 100 * 200 := Nat.mul_le_mul_right _ h.1
  have h4 : cs.length * 3 ≤ 100 * 3 := Nat.mul_le_mul_right _ h.1
  unfold beats
  have e : (List.map ((fun x : Sx => x.length) ∘ fun c : Int => tapsX c.toNat) cs).sum = (cs.map fun c : Int => (tapsX c.toNat).length).sum := rfl
  simp only [List.length_cons, List.length_nil] at h1
  omega
theorem strsOf_map {α : Type} (g : α → Sx) : ∀ l : List α, allSome strOf (l.map fun a => D.str (g a)) = some (l.map g)
  | [] => rfl
  | x :: l => by simp [allSome, strOf, strsOf_map g l]
theorem rep_one (n : Int) : rep n [49] = List.replicate n.toNat 49 := by
  unfold rep
  induction n.toNat with
  | zero => rfl
  | succ n ih => rw [List.replicate_succ, List.flatten_cons, ih]; rfl
theorem r0 (h0 : P 0 = some d0) (cs : List Int) (h : Small cs) : run P f (k + 1) 0 [.tup (cs.map .int)] S = .ok (.str (beats cs)) S := by
  rw [run_of h0]
  have hc : ev ⟨run P f k, newOb (run P f k) f⟩ [.fz (.tup (cs.map .int)), .no] (.comp (.me .join (.con (.str [48])) (.cons (.bin .mul (.con (.str [49])) (.var 1)) .nil)) (.n 1) (.var 0) (.con (.bl true)) [1]) S = .ok (.lst (cs.map fun c => D.str (tapsX c.toNat))) S := by
    have := evComp (fn := ⟨run P f k, newOb (run P f k) f⟩) (ρ := [.fz (.tup (cs.map .int)), .no]) (elt := (.me .join (.con (.str [48])) (.cons (.bin .mul (.con (.str [49])) (.var 1)) .nil))) (t := .n 1) (src := .var 0) (c := .con (.bl true)) (own := [1]) (x := .tup (cs.map .int)) (its := cs.map .int) (S := S)
      (g := fun d => match d with | .int i => some (.str (tapsX i.toNat)) | _ => none) ?_ rfl ?_ ?_
    · rw [this, List.filterMap_map]
      congr 2
      exact filterMap_some (fun c : Int => D.str (tapsX c.toNat)) cs
    · simp only [ev, slot, pureS, List.getD_cons_zero]
    · exact fits_le (by rw [List.length_map]; have := h.1; omega)
    · intro d hd
      obtain ⟨i, hi, rfl⟩ := List.mem_map.mp hd
      have b := h.2 i hi
      have m : Op.run .mul (.str [49]) (.int i) S = .ok (.str (List.replicate i.toNat 49)) S := by
        show M.bind (M.ask (decide (i ≤ 100000) && decide (-100000 ≤ i) && decide (1 ≤ 100))) (fun _ => M.ret (D.str (rep i [49]))) S = _
        rw [bindS, ask_of (by simp; omega), rep_one]
      have j : Me.run1 .join (.str [48]) (.str (List.replicate i.toNat 49)) S = .ok (.str (tapsX i.toNat)) S := by
        show M.bind (M.ask (decide ((List.replicate i.toNat 49).length + (List.replicate i.toNat 49).length * 1 ≤ maxLen))) (fun _ => M.ret (D.str (joinS [48] ((List.replicate i.toNat 49).map fun c => [c])))) S = _
        rw [bindS, ask_of (by simp [maxLen]; omega), List.map_replicate]; rfl
      simp only [itemE, T.put, wipeE, List.set_cons_zero, List.set_cons_succ, ofS, ev, evs, slot, seqS, bindS, pureS, retS, noXS, List.getD_cons_zero, List.getD_cons_succ, truB, isOwn, Bool.not_false, askT, if_true, m, Me.recv, Me.run, j]
  simp only [Df.run, d0, exs, ex, List.length, if_true, seqS, bindS, pureS, retS, O.of, O.seq, List.map, List.cons_append, List.nil_append, isOwn, List.replicate, Bool.false_eq_true, if_false]
  have j : Me.run1 .join (.str [48, 48, 48]) (.lst (cs.map fun c => D.str (tapsX c.toNat))) S = .ok (.str (beats cs)) S := by
    show M.bind (M.of (allSome strOf (cs.map fun c => D.str (tapsX c.toNat)))) (fun xs => M.bind (M.ask (decide ((xs.map (·.length)).sum + xs.length * 3 ≤ maxLen))) fun _ => M.ret (D.str (joinS [48, 48, 48] xs))) S = _
    rw [strsOf_map (fun c : Int => tapsX c.toNat) cs]
    show M.bind (M.ask _) (fun _ => M.ret (D.str (joinS [48, 48, 48] (cs.map fun c => tapsX c.toNat)))) S = _
    rw [bindS, ask_of ?_]
    · rfl
    · have h2 := sum_le (fun c : Int => (tapsX c.toNat).length) 200 cs fun c hc => by
        have := tapsX_len c.toNat
        have := h.2 c hc
        omega
      have h3 : cs.length * 200 ≤ 100 * 200 := Nat.mul_le_mul_right _ h.1
      have h1 := h.1
      rw [decide_eq_true_eq, List.map_map, List.length_map]
      show (cs.map fun c : Int => (tapsX c.toNat).length).sum + cs.length * 3 ≤ 16000000
      omega
  simp only [xMe, xCon, xsC, xsN, bindS, pureS, retS, Me.recv, askT, hc, Me.run, j, O.end_]
end
end TD
end
section
set_option Elab.async false
set_option linter.all false
set_option maxRecDepth 100000
/-! number_for, heard, alone. -/
namespace TD
abbrev Lot := List (Sx × List Int)
abbrev Calls := List (Sx × Int)
def numD (cs : List Int) : D := .tup (cs.map .int)
def lotD (l : Lot) : D := .tup (l.map fun b => .tup [.str b.1, numD b.2])
def callsD (l : Calls) : D := .tup (l.map fun c => .tup [.str c.1, .int c.2])
def look (l : Lot) (nm : Sx) : Option (List Int) := (l.find? fun b => decide (b.1 = nm)).map (·.2)
def lotK (l : Lot) : List (Ky × D) := l.map fun b => (.kS b.1, numD b.2)
theorem pairs_lot : ∀ l : Lot, allSome pairOf (l.map fun b => D.tup [.str b.1, numD b.2]) = some (lotK l)
  | [] => rfl
  | b :: l => by simp [allSome, pairOf, Ky.ofD, pairs_lot l, lotK]
theorem putK_new {l : List (Ky × D)} {k : Ky} {d : D} (h : ∀ p ∈ l, p.1 ≠ k) : putK k d l = l ++ [(k, d)] := by
  unfold putK
  rw [if_neg]
  simp only [List.any_eq_true, decide_eq_true_eq, not_exists, not_and]
  exact h
theorem dictOf_nodup : ∀ (l acc : List (Ky × D)), (l.map (·.1)).Nodup → (∀ p ∈ acc, p.1 ∉ l.map (·.1)) → l.foldl (fun m p => putK p.1 p.2 m) acc = acc ++ l
  | [], acc, _, _ => by simp
  | p :: l, acc, hn, ha => by
    simp only [List.map_cons, List.nodup_cons] at hn
    show l.foldl (fun m p => putK p.1 p.2 m) (putK p.1 p.2 acc) = _
    rw [putK_new fun q hq e => ha q hq (by simp [e])]
    rw [dictOf_nodup l _ hn.2 fun q hq => by
      rcases List.mem_append.mp hq with z | z
      · exact fun y => ha q z (by simp [y])
      · have : q = p := by simpa using z
        rw [this]; exact hn.1]
    simp
theorem dict_lot {l : Lot} (hn : (l.map (·.1)).Nodup) (S : Sto) : Bi.run1 .dict (lotD l) S = .ok (.dct (lotK l)) S := by
  show M.bind (M.of (allSome pairOf (l.map fun b => D.tup [.str b.1, numD b.2]))) (fun ps => M.ret (D.dct (dictOf ps))) S = _
  rw [pairs_lot]
  show R.ok (D.dct (dictOf (lotK l))) S = _
  unfold dictOf
  rw [dictOf_nodup _ _ (by
    unfold lotK
    rw [List.map_map]
    have := List.Pairwise.map (R := fun a b : Sx => a ≠ b) (S := fun a b : Ky => a ≠ b) Ky.kS (fun a b h e => h (by cases e; rfl)) hn
    rw [List.map_map] at this
    exact this) (by simp)]
  rfl
theorem look_lot (l : Lot) (nm : Sx) : lookK (.kS nm) (lotK l) = (look l nm).map numD := by
  unfold lookK look lotK
  induction l with
  | nil => rfl
  | cons b l ih =>
    simp only [List.map_cons, List.find?_cons]
    by_cases h : b.1 = nm
    · simp [h]
    · have h' : ¬ (Ky.kS b.1 = Ky.kS nm) := fun e => h (by cases e; rfl)
      simp only [h, h', decide_false]
      exact ih
section
variable {P : Nat → Option Df} {f k : Nat} {S : Sto}
theorem notinD (l : List (Ky × D)) (nm : Sx) : Cm.run .notin (.str nm) (.dct l) S = .ok (!(lookK (.kS nm) l).isSome) S := rfl
theorem isinD (l : List (Ky × D)) (i : Int) : Cm.run .isin (.int i) (.dct l) S = .ok (lookK (.kI i) l).isSome S := rfl
theorem r1 (h1 : P 1 = some d1) {l : Lot} {nm : Sx} {cs : List Int} (hn : (l.map (·.1)).Nodup) (h : look l nm = some cs) : run P f (k + 1) 1 [lotD l, .str nm] S = .ok (numD cs) S := by
  rw [run_of h1]
  have e := look_lot l nm
  rw [h] at e
  have it : D.item (.dct (lotK l)) (.str nm) S = .ok (numD cs) S := by
    show M.of (lookK (.kS nm) (lotK l)) S = _
    rw [e]; rfl
  simp only [Df.run, d1, exs, ex, List.length, if_true, O.of, O.seq, List.map, List.cons_append, List.nil_append, isOwn, List.replicate, Bool.false_eq_true, if_false, xCmp, xVar, xBi, xsC, xsN, slot, List.getD_cons_zero, List.getD_cons_succ, bindS, retS, Bi.run, dict_lot hn, notinD, e, Option.map_some, Option.isSome_some, Bool.not_true, truB, xIdx, it, O.end_]
theorem len_le_of_nodup : ∀ (B : Nat) (l : List Nat), l.Nodup → (∀ x ∈ l, x < B) → l.length ≤ B
  | 0, l, _, h => by
    cases l with
    | nil => simp
    | cons x l => have := h x (by simp); omega
  | B + 1, l, hn, h => by
    have h1 := len_le_of_nodup B (l.erase B) (hn.erase B) fun x hx => by
      have := (hn.mem_erase_iff).mp hx
      have := h x this.2
      omega
    have h2 : l.length ≤ (l.erase B).length + 1 := by
      rw [List.length_erase]; split <;> omega
    omega
theorem len_le_ints {B : Nat} {l : List Int} (hn : l.Nodup) (h : ∀ x ∈ l, 0 ≤ x ∧ x < B) : l.length ≤ B := by
  have := len_le_of_nodup B (l.map Int.toNat) (by
    rw [List.Nodup, List.pairwise_map]
    refine List.Pairwise.imp_of_mem (fun {a b} ha hb hne e => hne ?_) hn
    have := h a ha; have := h b hb; omega) fun x hx => by
      obtain ⟨y, hy, rfl⟩ := List.mem_map.mp hx
      have := h y hy; omega
  simpa using this
/-! ### heard -/
def addT (ks : List Int) (t : Int) : List Int := if t ∈ ks then ks else ks ++ [t]
def timesK (ks : List Int) : List (Ky × D) := ks.map fun t => (.kI t, .bl true)
theorem putT (ks : List Int) (t : Int) : putK (.kI t) (.bl true) (timesK ks) = timesK (addT ks t) := by
  unfold addT
  by_cases h : t ∈ ks
  · rw [if_pos h]
    unfold putK
    rw [if_pos (by
      simp only [timesK, List.any_map, List.any_eq_true, Function.comp]
      exact ⟨t, h, by simp⟩)]
    unfold timesK
    rw [List.map_map]
    apply List.map_congr_left
    intro a _
    simp only [Function.comp]
    split
    · rename_i e; exact e ▸ rfl
    · rfl
  · rw [if_neg h, putK_new]
    · simp [timesK]
    · intro p hp e
      obtain ⟨a, ha, rfl⟩ := List.mem_map.mp hp
      simp only [Ky.kI.injEq] at e
      exact h (e ▸ ha)
theorem mem_addT {ks : List Int} {t x : Int} : x ∈ addT ks t ↔ x ∈ ks ∨ x = t := by
  unfold addT
  split
  · rename_i h
    exact ⟨.inl, fun z => z.elim id fun e => e ▸ h⟩
  · simp
theorem nodup_addT {ks : List Int} {t : Int} (h : ks.Nodup) : (addT ks t).Nodup := by
  unfold addT
  split
  · exact h
  · rename_i z
    rw [List.nodup_append]
    refine ⟨h, by simp, fun a ha b hb e => z ?_⟩
    have : b = t := by simpa using hb
    rw [← this, ← e]; exact ha
theorem look_times (ks : List Int) (t : Int) : (lookK (.kI t) (timesK ks)).isSome = decide (t ∈ ks) := by
  unfold lookK timesK
  induction ks with
  | nil => rfl
  | cons a ks ih =>
    simp only [List.map_cons, List.find?_cons]
    by_cases h : a = t
    · simp [h]
    · have h' : ¬ (Ky.kI a = Ky.kI t) := fun e => h (by cases e; rfl)
      simp only [h', decide_false]
      rw [ih]
      have : ¬ t = a := fun e => h e.symm
      simp [this]
end
end TD
end
section
set_option Elab.async false
set_option linter.all false
set_option maxRecDepth 100000
/-! heard, alone. -/
namespace TD
/-- a number as drawn -/
def Good (cs : List Int) : Prop := cs ≠ [] ∧ cs.length ≤ 100 ∧ ∀ c ∈ cs, 1 ≤ c ∧ c ≤ 100
theorem Good.small {cs : List Int} (h : Good cs) : Small cs := ⟨h.2.1, fun c hc => by have := h.2.2 c hc; omega⟩
def num (l : Lot) (nm : Sx) : List Int := (look l nm).getD []
def GoodLot (l : Lot) : Prop := (l.map (·.1)).Nodup ∧ ∀ b ∈ l, Good b.2
theorem look_mem {l : Lot} {nm : Sx} {cs : List Int} (h : look l nm = some cs) : (nm, cs) ∈ l := by
  unfold look at h
  cases e : l.find? fun b => decide (b.1 = nm) with
  | none => rw [e] at h; cases h
  | some b =>
    rw [e] at h
    cases h
    have h1 := List.mem_of_find?_eq_some e
    have h2 := List.find?_some e
    simp only [decide_eq_true_eq] at h2
    rw [← h2]; exact h1
theorem look_num {l : Lot} {nm : Sx} (h : (look l nm).isSome = true) : look l nm = some (num l nm) := by
  unfold num
  cases e : look l nm with
  | none => rw [e] at h; cases h
  | some c => rfl
theorem num_good {l : Lot} (g : GoodLot l) {nm : Sx} (h : (look l nm).isSome = true) : Good (num l nm) := g.2 _ (look_mem (look_num h))
/-- a call of the lot -/
def CallOk (l : Lot) (c : Sx × Int) : Prop := (look l c.1).isSome = true ∧ 0 ≤ c.2 ∧ c.2 ≤ 1000
/-- a tap of the call is heard at x -/
def hitC (l : Lot) (c : Sx × Int) (x : Int) : Prop := ∃ i : Nat, (beats (num l c.1))[i]? = some 49 ∧ x = c.2 + i
section
variable {P : Nat → Option Df} {f k : Nat} {S : Sto}
theorem strS_get (bs : Sx) {i : Nat} {d : D} (h : (bs.map fun c => D.str [c])[i]? = some d) : ∃ c, bs[i]? = some c ∧ d = .str [c] := by
  rw [List.getElem?_map] at h
  cases e : bs[i]? with
  | none => rw [e] at h; cases h
  | some c => rw [e] at h; exact ⟨c, rfl, (Option.some.inj h).symm⟩
/-- what heard makes of keys -/
def textOf (ks : List Int) : Sx := (List.range ((maxI (ks.headD (-1)) (ks.tail ++ [-1])) + 1).toNat).map fun (t : Nat) => if (t : Int) ∈ ks then 49 else 48
theorem max_keys (ks : List Int) (S : Sto) : Bi.run1 .max (.lst ((ks ++ [-1]).map .int)) S = .ok (.int (maxI (ks.headD (-1)) (ks.tail ++ [-1]))) S := by
  cases ks with
  | nil => exact maxS (-1) [] S
  | cons x r => exact maxS x (r ++ [-1]) S
theorem joinS_one : ∀ x : Sx, joinS [] (x.map fun c => [c]) = x
  | [] => rfl
  | [c] => rfl
  | c :: d :: x => by
    have := joinS_one (d :: x)
    simp only [List.map_cons, joinS] at this ⊢
    rw [this]; rfl
theorem r2 (h0 : P 0 = some d0) (h1 : P 1 = some d1) (h2 : P 2 = some d2) {l : Lot} {cl : Calls} (g : GoodLot l) (hc : ∀ c ∈ cl, CallOk l c) :
    ∃ ks : List Int, ks.Nodup ∧ (∀ x, x ∈ ks ↔ ∃ c ∈ cl, hitC l c x) ∧ run P f (k + 2) 2 [lotD l, callsD cl] S = .ok (.str (textOf ks)) S := by
  rw [run_of h2]
  generalize hfn : (⟨run P f (k + 1), newOb (run P f (k + 1)) f⟩ : Fns) = fn
  have c0 : ∀ cs : List Int, Good cs → fn.call 0 [numD cs] S = .ok (.str (beats cs)) S := fun cs h => by rw [← hfn]; exact r0 h0 cs h.small
  have c1 : ∀ nm : Sx, (look l nm).isSome = true → fn.call 1 [lotD l, .str nm] S = .ok (numD (num l nm)) S := fun nm h => by rw [← hfn]; exact r1 h1 g.1 (look_num h)
  have L := loop_ex (t := .t [3, 4]) (S := S) (body := exs fn (.cons (.for_ (.t [5, 6]) (.enu (.call 0 (.cons (.call 1 (.cons (.var 0) (.cons (.var 3) .nil))) .nil))) (.cons (.ife (.cmp .eq (.var 6) (.con (.str [49]))) (.cons (.put 2 (.bin .add (.var 4) (.var 5)) (.con (.bl true))) .nil) .nil) .nil)) .nil))
    (ds := cl.map fun c => .tup [.str c.1, .int c.2]) (n := 0) (ρ := [.fz (lotD l), .fz (callsD cl), .ow (.dct (timesK [])), .no, .no, .no, .no, .no])
    (fun i ρ => ∃ ks s3 s4 s5 s6, ρ = [.fz (lotD l), .fz (callsD cl), .ow (.dct (timesK ks)), s3, s4, s5, s6, .no] ∧ ks.Nodup ∧ (∀ x ∈ ks, 0 ≤ x ∧ x < 25000) ∧ ∀ x, x ∈ ks ↔ ∃ c ∈ cl.take i, hitC l c x)
    ⟨[], .no, .no, .no, .no, rfl, .nil, by simp, by simp⟩ ?_
  · obtain ⟨ρ', e, ks, s3, s4, s5, s6, rfl, hn, hb, hm⟩ := L
    refine ⟨ks, hn, fun x => by rw [hm x]; simp, ?_⟩
    have hk : ks.length ≤ 25000 := len_le_ints hn hb
    generalize hM : maxI (ks.headD (-1)) (ks.tail ++ [-1]) = mx
    have hM2 : -1 ≤ mx ∧ mx < 25000 := by
      rw [← hM]
      cases ks with
      | nil => exact ⟨by decide, by decide⟩
      | cons x r =>
        refine ⟨(maxI_le (r ++ [-1]) x).2 (-1) (by simp), ?_⟩
        rcases maxI_mem (r ++ [-1]) x with e | e
        · show maxI x (r ++ [-1]) < 25000
          rw [e]; exact (hb x (by simp)).2
        · show maxI x (r ++ [-1]) < 25000
          rcases List.mem_append.mp e with z | z
          · exact (hb _ (by simp [z])).2
          · have : maxI x (r ++ [-1]) = -1 := by simpa using z
            omega
    have hmax := max_keys ks S
    rw [hM] at hmax
    have hl : Bi.run1 .list (.dct (timesK ks)) S = .ok (.lst (ks.map .int)) S := by
      show R.ok (D.lst ((timesK ks).map fun p => p.1.toD)) S = _
      unfold timesK
      rw [List.map_map]; rfl
    have had : Op.run .add (.lst (ks.map .int)) (.lst [.int (-1)]) S = .ok (.lst ((ks ++ [-1]).map .int)) S := by
      show M.bind (M.ask (fits (ks.map .int ++ [D.int (-1)]))) (fun _ => M.ret (D.lst (ks.map .int ++ [D.int (-1)]))) S = _
      rw [bindS, ask_of (fits_le (by simp; omega))]
      simp [retS]
    generalize hρ : ([.fz (lotD l), .fz (callsD cl), .ow (.dct (timesK ks)), s3, s4, s5, s6, .no] : Env) = ρ at e
    have hcomp : ev fn ρ (.comp (.idx (.lst (.cons (.con (.str [48])) (.cons (.con (.str [49])) .nil))) (.bi .int (.cons (.cmp .isin (.var 7) (.var 2)) .nil))) (.n 7) (.rng (.con (.int 0)) (.bin .add (.bi .max (.cons (.bin .add (.bi .list (.cons (.var 2) .nil)) (.lst (.cons (.neg (.con (.int 1))) .nil))) .nil)) (.con (.int 1)))) (.con (.bl true)) [7]) S = .ok (.lst ((textOf ks).map fun c => D.str [c])) S := by
      rw [evComp (x := .lst (rangeD 0 (mx + 1))) (its := rangeD 0 (mx + 1)) (g := fun d => match d with | .int t => some (.str [if t ∈ ks then 49 else 48]) | _ => none) ?_ rfl ?_ ?_]
      · congr 2
        unfold textOf rangeD
        rw [hM, List.filterMap_map, List.map_map, ← filterMap_some, Int.sub_zero]
        congr 1
        funext t
        simp
      · refine xRng xCon ?_ (by simp [rangeOk]; omega)
        have hneg : ev fn ρ (.neg (.con (.int 1))) S = .ok (.int (-1)) S := xNeg xCon
        rw [← hρ] at hneg ⊢
        simp only [xBin, xBi, xsC, xsN, xVar, xLst, xFC, xFN, xCon, slot, List.getD_cons_zero, List.getD_cons_succ, bindS, retS, Bi.run, hl, isOwn, Bool.not_false, askT, hneg, had, hmax, addI]
      · exact fits_le (by simp [rangeD]; omega)
      · intro d hd
        simp only [rangeD, List.mem_map, List.mem_range] at hd
        obtain ⟨t, ht, rfl⟩ := hd
        have hin : ∀ x : Int, Cm.run .isin (.int x) (.dct (timesK ks)) S = .ok (decide (x ∈ ks)) S := fun x => by rw [isinD, look_times]
        have hint : ∀ b : Bool, Bi.run1 .int (.bl b) S = .ok (.int (b2i b)) S := fun b => rfl
        have hix : ∀ b : Bool, D.item (.lst [.str [48], .str [49]]) (.int (b2i b)) S = .ok (.str [if b then 49 else 48]) S := fun b => by cases b <;> rfl
        rw [← hρ]
        simp only [itemE, T.put, wipeE, List.set_cons_zero, List.set_cons_succ, ofS, seqS, bindS, pureS, retS, noXS, truB, isOwn, Bool.not_false, askT, if_true, xIdx, xLst, xFC, xFN, xBi, xsC, xsN, xCmp, xVar, xCon, slot, List.getD_cons_zero, List.getD_cons_succ, Bi.run, hin, hint, hix, Int.zero_add, decide_eq_true_eq]
    have hj : Me.run1 .join (.str []) (.lst ((textOf ks).map fun c => D.str [c])) S = .ok (.str (textOf ks)) S := by
      show M.bind (M.of (allSome strOf ((textOf ks).map fun c => D.str [c]))) (fun xs => M.bind (M.ask (decide ((xs.map (·.length)).sum + xs.length * 0 ≤ maxLen))) fun _ => M.ret (D.str (joinS [] xs))) S = _
      rw [strsOf_map (fun c : Nat => [c]) (textOf ks)]
      show M.bind (M.ask _) (fun _ => M.ret (D.str (joinS [] ((textOf ks).map fun c => [c])))) S = _
      rw [bindS, ask_of ?_, joinS_one]
      · have hlt : (textOf ks).length ≤ 25000 := by unfold textOf; rw [hM]; simp; omega
        have := sum_le (fun c : Nat => ([c] : Sx).length) 1 (textOf ks) fun _ _ => Nat.le_refl _
        rw [decide_eq_true_eq, List.map_map]
        show ((textOf ks).map fun c : Nat => ([c] : Sx).length).sum + _ * 0 ≤ 16000000
        omega
    have hloop : exs fn d2.body [.fz (lotD l), .fz (callsD cl), .no, .no, .no, .no, .no, .no] S = .rt (.str (textOf ks)) S := by
      unfold d2
      have hit : (callsD cl).items S = .ok (cl.map fun c => .tup [.str c.1, .int c.2]) S := rfl
      have hdic : ev fn [.fz (lotD l), .fz (callsD cl), .no, .no, .no, .no, .no, .no] (.dic .nil .nil) S = .ok (.dct []) S := xDic0
      simp only [yC, yOwn, hdic, ofK, seqN, yFor, isOwn, List.set_cons_zero, List.set_cons_succ, xVar, slot, List.getD_cons_zero, List.getD_cons_succ, Bool.false_eq_true, if_false, hit]
      rw [show (.ow (.dct []) : Sl) = .ow (.dct (timesK [])) from rfl, e]
      simp only [seqN, yC, yN, yRet, isOwn, Bool.false_eq_true, if_false, xMe, xCon, xsC, xsN, bindS, retS, Me.recv, askT, hcomp, Me.run, hj, ofK, seqR]
    unfold Df.run
    simp only [List.length, if_true]
    show (exs fn d2.body [.fz (lotD l), .fz (callsD cl), .no, .no, .no, .no, .no, .no] S).end_ = _
    rw [hloop]; rfl
  · rintro i ρ d hd ⟨ks, s3, s4, s5, s6, rfl, hn, hb, hm⟩
    rw [List.getElem?_map] at hd
    cases ec : cl[i]? with
    | none => rw [ec] at hd; cases hd
    | some cc =>
    rw [ec] at hd
    cases hd
    obtain ⟨nm, b⟩ := cc
    have ok := hc (nm, b) (List.mem_of_getElem? ec)
    have gn : Good (num l nm) := num_good g ok.1
    have hlen : (beats (num l nm)).length ≤ 20300 := beats_len gn.small
    have L2 := loop_ex (t := .t [5, 6]) (S := S) (body := exs fn (.cons (.ife (.cmp .eq (.var 6) (.con (.str [49]))) (.cons (.put 2 (.bin .add (.var 4) (.var 5)) (.con (.bl true))) .nil) .nil) .nil))
      (ds := enumD ((beats (num l nm)).map fun c => D.str [c])) (n := 0) (ρ := [.fz (lotD l), .fz (callsD cl), .ow (.dct (timesK ks)), .fz (.str nm), .fz (.int b), s5, s6, .no])
      (fun j ρ => ∃ ks' s5 s6, ρ = [.fz (lotD l), .fz (callsD cl), .ow (.dct (timesK ks')), .fz (.str nm), .fz (.int b), s5, s6, .no] ∧ ks'.Nodup ∧ (∀ x ∈ ks', 0 ≤ x ∧ x < 25000) ∧ ∀ x, x ∈ ks' ↔ x ∈ ks ∨ ∃ j' : Nat, j' < j ∧ (beats (num l nm))[j']? = some 49 ∧ x = b + j')
      ⟨ks, s5, s6, rfl, hn, hb, by simp⟩ ?_
    · obtain ⟨ρ', e, ks', s5', s6', rfl, hn', hb', hm'⟩ := L2
      refine ⟨_, _, rfl, .inl ?_, ks', .fz (.str nm), .fz (.int b), s5', s6', rfl, hn', hb', fun x => ?_⟩
      · simp only [yN, yC, yFor, isOwn, List.set_cons_zero, List.set_cons_succ, setAll, xEnu, xCall, xFC, xFN, xVar, slot, List.getD_cons_zero, List.getD_cons_succ, bindS, retS, Bool.not_false, askT, c1 nm ok.1, c0 _ gn, itemsS, itemsL, Bool.false_eq_true, if_false, ofK]
        rw [e]; rfl
      · rw [hm' x, hm x]
        have e0 : 0 + i = i := by omega
        rw [e0, List.take_add_one, ec]
        constructor
        · rintro (⟨c, hc1, hc2⟩ | ⟨j', hj, hj2, hj3⟩)
          · exact ⟨c, List.mem_append_left _ hc1, hc2⟩
          · exact ⟨(nm, b), by simp, j', hj2, hj3⟩
        · rintro ⟨c, hc1, hc2⟩
          rcases List.mem_append.mp hc1 with z | z
          · exact .inl ⟨c, z, hc2⟩
          · have : c = (nm, b) := by simpa using z
            subst this
            obtain ⟨j', h1, h2⟩ := hc2
            have h4 : j' < (beats (num l nm)).length := (List.getElem?_eq_some_iff.mp h1).1
            exact .inr ⟨j', by rw [enumD_len, List.length_map]; omega, h1, h2⟩
    · rintro j ρ d hd ⟨ks', s5, s6, rfl, hn', hb', hm'⟩
      obtain ⟨x, hx, rfl⟩ := enumD_get hd
      obtain ⟨c, hcc, rfl⟩ := strS_get _ hx
      have hj : j < (beats (num l nm)).length := (List.getElem?_eq_some_iff.mp hcc).1
      have e0 : 0 + j = j := by omega
      by_cases hc49 : c = 49
      · subst hc49
        refine ⟨_, _, rfl, .inl ?_, addT ks' (b + j), .fz (.int j), .fz (.str [49]), rfl, nodup_addT hn', fun x hx => ?_, fun x => ?_⟩
        · have hf : fits (timesK ks') = true := fits_le (by
            unfold timesK
            rw [List.length_map]
            have h3 : ks'.length ≤ 25000 := len_le_ints hn' hb'
            omega)
          simp only [yN, yC, yIfe, yPut, isOwn, List.set_cons_zero, List.set_cons_succ, setAll, xCmp, xCon, xBin, xVar, slot, List.getD_cons_zero, List.getD_cons_succ, bindS, retS, eqS, truB, addI, Bool.false_eq_true, if_false, ofK, putO, Ky.ofD, hf, if_true, putT, beq_self_eq_true, seqN]
        · rcases mem_addT.mp hx with z | z
          · exact hb' x z
          · rw [z]
            have h1 : 0 ≤ b := ok.2.1
            have h2 : b ≤ 1000 := ok.2.2
            omega
        · rw [mem_addT, hm' x, e0]
          constructor
          · rintro ((z | ⟨j', h1, h2, h3⟩) | z)
            · exact .inl z
            · exact .inr ⟨j', by omega, h2, h3⟩
            · exact .inr ⟨j, by omega, hcc, z⟩
          · rintro (z | ⟨j', h1, h2, h3⟩)
            · exact .inl (.inl z)
            · by_cases ej : j' = j
              · subst ej; exact .inr h3
              · exact .inl (.inr ⟨j', by omega, h2, h3⟩)
      · refine ⟨_, _, rfl, .inl ?_, ks', .fz (.int j), .fz (.str [c]), rfl, hn', hb', fun x => ?_⟩
        · have hq : ((([c] : Sx) == [49]) = false) := by simp [hc49]
          simp only [yN, yC, yIfe, yPut, isOwn, List.set_cons_zero, List.set_cons_succ, setAll, xCmp, xCon, xBin, xVar, slot, List.getD_cons_zero, List.getD_cons_succ, bindS, retS, eqS, truB, Bool.false_eq_true, if_false, ofK, hq, seqN]
        · rw [hm' x, e0]
          constructor
          · rintro (z | ⟨j', h1, h2, h3⟩)
            · exact .inl z
            · exact .inr ⟨j', by omega, h2, h3⟩
          · rintro (z | ⟨j', h1, h2, h3⟩)
            · exact .inl z
            · by_cases ej : j' = j
              · subst ej
                rw [hcc] at h2
                exact absurd (Option.some.inj h2) hc49
              · exact .inr ⟨j', by omega, h2, h3⟩
end
end TD
end
section
set_option Elab.async false
set_option linter.all false
set_option maxRecDepth 100000
/-! What is heard, told by its taps; _law_lot. -/
namespace TD
/-- T is what is heard of the calls -/
structure Heard (l : Lot) (cl : Calls) (T : Sx) : Prop where
  signs : ∀ c ∈ T, c = 48 ∨ c = 49
  taps : ∀ t : Nat, T[t]? = some 49 ↔ ∃ c ∈ cl, hitC l c t
  last : T ≠ [] → T.getLast? = some 49
  size : T.length ≤ 25000
theorem heard_of {l : Lot} {cl : Calls} {ks : List Int} (h : ∀ x, x ∈ ks ↔ ∃ c ∈ cl, hitC l c x) (hb : ∀ x ∈ ks, 0 ≤ x ∧ x < 25000) : Heard l cl (textOf ks) := by
  have hM : ∀ x ∈ ks, x ≤ maxI (ks.headD (-1)) (ks.tail ++ [-1]) := fun x hx => by
    cases ks with
    | nil => simp at hx
    | cons y r =>
      rcases List.mem_cons.mp hx with e | e
      · rw [e]; exact (maxI_le (r ++ [-1]) y).1
      · exact (maxI_le (r ++ [-1]) y).2 x (by simp [e])
  have hM1 : maxI (ks.headD (-1)) (ks.tail ++ [-1]) = -1 ∨ maxI (ks.headD (-1)) (ks.tail ++ [-1]) ∈ ks := by
    cases ks with
    | nil => exact .inl rfl
    | cons y r =>
      rcases maxI_mem (r ++ [-1]) y with e | e
      · exact .inr (by show maxI y (r ++ [-1]) ∈ _; rw [e]; simp)
      · rcases List.mem_append.mp e with z | z
        · exact .inr (List.mem_cons_of_mem _ z)
        · exact .inl (by simpa using z)
  unfold textOf
  generalize maxI (ks.headD (-1)) (ks.tail ++ [-1]) = mx at hM hM1
  have hs : (mx + 1).toNat ≤ 25000 := by
    rcases hM1 with e | e
    · rw [e]; decide
    · have := hb _ e; omega
  refine ⟨fun c hc => ?_, fun t => ?_, fun hne => ?_, by simpa using hs⟩
  · obtain ⟨t, _, rfl⟩ := List.mem_map.mp hc
    split
    · exact .inr rfl
    · exact .inl rfl
  · rw [List.getElem?_map]
    by_cases ht : t < (mx + 1).toNat
    · rw [List.getElem?_range ht, ← h]
      by_cases e : (t : Int) ∈ ks <;> simp [e]
    · rw [List.getElem?_eq_none (by simpa using ht), ← h]
      constructor
      · intro z; cases z
      · intro z
        have := hM _ z
        omega
  · have hpos : 0 < (mx + 1).toNat := by
      cases e : (mx + 1).toNat with
      | zero => rw [e] at hne; exact absurd rfl hne
      | succ n => omega
    rw [List.getLast?_eq_getElem?, List.getElem?_map, List.length_map, List.length_range, List.getElem?_range (by omega)]
    rcases hM1 with e | e
    · rw [e] at hpos; simp at hpos
    · have e2 : (((mx + 1).toNat - 1 : Nat) : Int) = mx := by omega
      simp [e2, e]
section
variable {P : Nat → Option Df} {f k : Nat} {S : Sto}
theorem r2h (h0 : P 0 = some d0) (h1 : P 1 = some d1) (h2 : P 2 = some d2) {l : Lot} {cl : Calls} (g : GoodLot l) (hc : ∀ c ∈ cl, CallOk l c) :
    ∃ T, Heard l cl T ∧ run P f (k + 2) 2 [lotD l, callsD cl] S = .ok (.str T) S := by
  obtain ⟨ks, hn, hm, e⟩ := r2 (k := k) (S := S) (f := f) h0 h1 h2 g hc
  refine ⟨_, heard_of hm fun x hx => ?_, e⟩
  obtain ⟨c, hcm, i, hi, rfl⟩ := (hm x).mp hx
  have ok := hc c hcm
  have h3 := beats_len (num_good g ok.1).small
  have h4 := (List.getElem?_eq_some_iff.mp hi).1
  have := ok.2
  omega
theorem r3h (h0 : P 0 = some d0) (h1 : P 1 = some d1) (h2 : P 2 = some d2) (h3 : P 3 = some d3) {l : Lot} {nm : Sx} (g : GoodLot l) (hc : (look l nm).isSome = true) :
    ∃ T, Heard l [(nm, 0)] T ∧ run P f (k + 3) 3 [lotD l, .str nm] S = .ok (.str T) S := by
  obtain ⟨T, hT, e⟩ := r2h (k := k) (S := S) (f := f) h0 h1 h2 (cl := [(nm, 0)]) g fun c hcc => by
    have : c = (nm, 0) := by simpa using hcc
    subst this
    exact ⟨hc, Int.le_refl _, by show (0 : Int) ≤ 1000; decide⟩
  refine ⟨T, hT, ?_⟩
  rw [run_of h3]
  have e2 : run P f (k + 2) 2 [lotD l, .tup [.tup [.str nm, .int 0]]] S = .ok (.str T) S := e
  simp only [Df.run, d3, List.length, if_true, List.map, List.cons_append, List.nil_append, List.replicate, yC, yRet, isOwn, Bool.false_eq_true, if_false, xCall, xFC, xFN, xVar, xTup, xCon, slot, List.getD_cons_zero, List.getD_cons_succ, bindS, retS, Bool.not_false, askT, e2, ofK, seqR, O.end_]
/-! ### _law_number, _law_lot -/
theorem number_good (n most : Int) (h1 : 0 < most) (h2 : most ≤ 99) : Good (number n most) := by
  have b1 : 0 ≤ n / 16 % most := Int.emod_nonneg _ (by omega)
  have b2 : n / 16 % most < most := Int.emod_lt_of_pos _ h1
  refine ⟨fun e => ?_, ?_, fun c hc => ?_⟩
  · have := congrArg List.length e
    simp [number] at this
    omega
  · simp [number]; omega
  · unfold number at hc
    obtain ⟨i, _, rfl⟩ := List.mem_map.mp hc
    have := Int.emod_nonneg (drawn n i / 16) (by decide : (4 : Int) ≠ 0)
    have := Int.emod_lt_of_pos (drawn n i / 16) (by decide : (0 : Int) < 4)
    omega
theorem numD_plain (cs : List Int) : (numD cs).plain = true := by
  unfold numD D.plain
  rw [D.okN, List.all_map]
  exact List.all_eq_true.mpr fun _ _ => rfl
theorem notinL (x : D) (l : List D) (h : x.plain = true) (h2 : plains l = true) : Cm.run .notin x (.lst l) S = .ok (!(l.any fun y => y.eqv x)) S := by
  show M.bind (M.bind (M.ask (x.plain && plains l)) fun _ => M.ret (l.any fun y => y.eqv x)) (fun r => M.ret (!r)) S = _
  rw [bindS, bindS, ask_of (by simp [h, h2])]
def sixNames : List Sx := [[97], [98], [98, 111, 120], [99], [122, 122], [122, 122, 122, 122]]
theorem slice_to {l : List D} {i : Int} (h : 0 ≤ i) : D.slice (.tup l) .non (.int i) S = .ok (.tup (l.take i.toNat)) S := by
  show M.of ((cut l .non (.int i)).map D.tup) S = _
  have : cut l .non (.int i) = some (l.take i.toNat) := by
    unfold cut slAt
    have h' : ¬ i < 0 := by omega
    simp [h', List.take_eq_take_iff]
  rw [this]; rfl

theorem plains_num {qs : List (List Int)} : plains (qs.map numD) = true := by
  unfold plains
  rw [List.all_map]
  refine List.all_eq_true.mpr fun cs _ => ?_
  have := numD_plain cs
  unfold D.plain at this
  exact this
theorem lotK_app (ms : Lot) (nm : Sx) (cs : List Int) (h : nm ∉ ms.map (·.1)) : putK (.kS nm) (numD cs) (lotK ms) = lotK (ms ++ [(nm, cs)]) := by
  rw [putK_new]
  · simp [lotK]
  · intro p hp e
    obtain ⟨b, hb, rfl⟩ := List.mem_map.mp hp
    simp only [Ky.kS.injEq] at e
    exact h (List.mem_map.mpr ⟨b, hb, e⟩)
theorem txt_lot : ∀ ms : Lot, allSome Ky.txt (lotK ms) = some (ms.map (·.1))
  | [] => rfl
  | b :: r => by
    have ih := txt_lot r
    simp only [lotK, List.map_cons, allSome, Ky.txt] at ih ⊢
    rw [ih]
theorem num_self : ∀ cs : List Int, (numD cs).eqv (numD cs) = true := by
  intro cs
  show eqvs (cs.map .int) (cs.map .int) = true
  induction cs with
  | nil => rfl
  | cons c cs ih => simp [eqvs, D.eqv, ih]
/-- a lot as drawn -/
structure DrawnLot (l : Lot) (boxes most : Int) : Prop where
  good : GoodLot l
  len : l.length ≤ boxes.toNat
  pos : l ≠ []
  rise : (l.map (·.1)).Pairwise fun a b => a < b
  six : ∀ b ∈ l, b.1 ∈ sixNames
  num : ∀ b ∈ l, ∃ m, 0 ≤ m ∧ b.2 = number m most
  uniq : (l.map (·.2)).Nodup
theorem name_rise (ks : List Sx) (hn : ks.Nodup) : (ks.mergeSort fun a b => decide (a ≤ b)).Pairwise fun a b => a < b := by
  have h1 := List.pairwise_mergeSort (le := fun a b : Sx => decide (a ≤ b)) (fun a b c p q => by simp only [decide_eq_true_eq] at *; exact List.le_trans p q) (fun a b => by simp only [Bool.or_eq_true, decide_eq_true_eq]; exact List.le_total a b) ks
  have h2 := (List.mergeSort_perm ks fun a b => decide (a ≤ b)).nodup_iff.mpr hn
  refine (List.Pairwise.and h1 h2).imp fun {a b} q => ?_
  have q1 : a ≤ b := by simpa using q.1
  exact Decidable.byContradiction fun z => q.2 (List.le_antisymm q1 (List.not_lt.mp z))
theorem r8x (h6 : P 6 = some d6) (h7 : P 7 = some d7) (h8 : P 8 = some d8) (n boxes most : Int) (hn : 0 ≤ n) (hb : 0 < boxes) (hb2 : boxes ≤ 6) (hm : 0 < most) (hm2 : most ≤ 99) :
    ∃ l : Lot, DrawnLot l boxes most ∧ run P f (k + 3) 8 [.int n, .int boxes, .int most] S = .ok (lotD l) S := by
  rw [run_of h8]
  generalize hfn : (⟨run P f (k + 2), newOb (run P f (k + 2)) f⟩ : Fns) = fn
  have c6 : ∀ a b : Int, fn.call 6 [.int a, .int b] S = .ok (.int (drawn a b)) S := fun a b => by rw [← hfn]; exact r6 h6 a b
  have c7 : ∀ a : Int, 0 ≤ a → fn.call 7 [.int a, .int most] S = .ok (numD (number a most)) S := fun a ha => by rw [← hfn]; exact r7 h6 h7 a most hm (by omega) ha
  have b1 : 0 ≤ n / 16 % boxes := Int.emod_nonneg _ (by omega)
  have b2 : n / 16 % boxes < boxes := Int.emod_lt_of_pos _ hb
  generalize hq : (1 + n / 16 % boxes).toNat = q
  have hq6 : q ≤ boxes.toNat := by omega
  have hsrc : ev fn [.fz (.int n), .fz (.int boxes), .fz (.int most), .ow (.dct (lotK [])), .ow (.lst (([] : List (List Int)).map numD)), .no, .no, .no] (.enu (.sl (.tup (.cons (.con (.str [97])) (.cons (.con (.str [98])) (.cons (.con (.str [98, 111, 120])) (.cons (.con (.str [99])) (.cons (.con (.str [122, 122])) (.cons (.con (.str [122, 122, 122, 122])) .nil))))))) (.con .non) (.bin .add (.con (.int 1)) (.bin .mod (.bin .fdiv (.var 0) (.con (.int 16))) (.var 1))))) S = .ok (.lst (enumD ((sixNames.take q).map .str))) S := by
    simp only [xEnu, xSl, xTup, xFC, xFN, xCon, xBin, xVar, slot, List.getD_cons_zero, List.getD_cons_succ, bindS, retS, isOwn, Bool.not_false, askT, partOk, noPart, if_true, Bool.false_eq_true, if_false, divI _ 16 (by decide) (by decide), modI _ _ hb, addI, pureS, slice_to (show 0 ≤ 1 + n / 16 % boxes by omega), itemsT, hq]
    rw [List.map_take]; rfl
  have L := loop_ex (t := .t [5, 6]) (S := S) (body := exs fn (.cons (.set 7 (.call 7 (.cons (.call 6 (.cons (.var 0) (.cons (.bin .add (.con (.int 20)) (.var 5)) .nil))) (.cons (.var 2) .nil)))) (.cons (.ife (.cmp .notin (.var 7) (.var 4)) (.cons (.app 4 (.var 7)) (.cons (.put 3 (.var 6) (.var 7)) .nil)) .nil) .nil)))
    (ds := enumD ((sixNames.take q).map .str)) (n := 0) (ρ := [.fz (.int n), .fz (.int boxes), .fz (.int most), .ow (.dct (lotK [])), .ow (.lst (([] : List (List Int)).map numD)), .no, .no, .no])
    (fun i ρ => ∃ (ms : Lot) (qs : List (List Int)) (s5 s6 s7 : Sl), ρ = [.fz (.int n), .fz (.int boxes), .fz (.int most), .ow (.dct (lotK ms)), .ow (.lst (qs.map numD)), s5, s6, s7] ∧ (ms.map (·.1)).Nodup ∧ (∀ b ∈ ms, (∃ m, 0 ≤ m ∧ b.2 = number m most) ∧ b.1 ∈ sixNames.take i) ∧ ms.length ≤ i ∧ qs.length ≤ i ∧ qs = ms.map (·.2) ∧ qs.Nodup ∧ (0 < i → ms ≠ []))
    ⟨[], [], .no, .no, .no, rfl, .nil, by simp, Nat.le_refl _, Nat.le_refl _, rfl, .nil, by simp⟩ ?_
  · obtain ⟨ρ', e, ms, qs, s5, s6, s7, rfl, hnd, hg, hl1, hl2, hqs, hqn, hne⟩ := L
    rw [enumD_len, List.length_map, List.length_take] at hl1 hl2 hg hne
    -- sorted(found)
    let ks := (ms.map (·.1)).mergeSort fun a b => decide (a ≤ b)
    have hks : ks.Perm (ms.map (·.1)) := List.mergeSort_perm _ _
    have hsort : Bi.run1 .sorted (.dct (lotK ms)) S = .ok (.lst (ks.map .str)) S := by
      have ht := txt_lot ms
      show M.bind (M.of (allSome Ky.txt (lotK ms))) (fun k => M.bind (M.ask (decide (k.length < 64))) fun _ => M.ret (D.lst ((k.mergeSort fun a b => decide (a ≤ b)).map .str))) S = _
      rw [ht]
      show M.bind (M.ask _) _ S = _
      rw [bindS, ask_of (by simp; omega)]
    have hmem : ∀ nm ∈ ks, look ms nm = some (num ms nm) := fun nm hk => by
      have h1 := hks.mem_iff.mp hk
      obtain ⟨b, hb, rfl⟩ := List.mem_map.mp h1
      refine look_num ?_
      unfold look
      rw [Option.isSome_map, List.find?_isSome]
      exact ⟨b, hb, by simp⟩
    let l : Lot := ks.map fun nm => (nm, num ms nm)
    have hl : GoodLot l := by
      refine ⟨?_, fun b hb => ?_⟩
      · show ((ks.map fun nm => (nm, num ms nm)).map (·.1)).Nodup
        rw [List.map_map, show ((fun b : Sx × List Int => b.1) ∘ fun nm => (nm, num ms nm)) = id from rfl, List.map_id]
        exact hks.nodup_iff.mpr hnd
      · obtain ⟨nm, hk, rfl⟩ := List.mem_map.mp hb
        obtain ⟨m, h0, e⟩ := (hg _ (look_mem (hmem nm hk))).1
        show Good (num ms nm)
        rw [show num ms nm = number m most from e]
        exact number_good m most hm hm2
    have hl1' : l.map (·.1) = ks := by
      show (ks.map fun nm => (nm, num ms nm)).map (·.1) = ks
      rw [List.map_map, show ((fun b : Sx × List Int => b.1) ∘ fun nm => (nm, num ms nm)) = id from rfl, List.map_id]
    have hlp : l.Perm ms := by
      have h1 : l.Perm ((ms.map (·.1)).map fun nm => (nm, num ms nm)) := hks.map _
      have h2 : ((ms.map (·.1)).map fun nm => (nm, num ms nm)) = ms := by
        rw [List.map_map]
        conv => rhs; rw [← List.map_id ms]
        refine List.map_congr_left fun b hb => ?_
        show (b.1, num ms b.1) = b
        have h3 := look_num (l := ms) (nm := b.1) (by unfold look; rw [Option.isSome_map, List.find?_isSome]; exact ⟨b, hb, by simp⟩)
        have h4 := look_mem h3
        have h5 : ∀ {xs : Lot}, (xs.map (·.1)).Nodup → ∀ {u v : Sx × List Int}, u ∈ xs → v ∈ xs → u.1 = v.1 → u = v := by
          intro xs
          induction xs with
          | nil => intro _ u v hu; cases hu
          | cons x xs ih =>
            intro hn u v hu hv e
            rw [List.map_cons, List.nodup_cons] at hn
            rcases List.mem_cons.mp hu with z | z
            · rcases List.mem_cons.mp hv with y | y
              · rw [z, y]
              · exact absurd (List.mem_map.mpr ⟨v, y, by rw [← e, z]⟩) hn.1
            · rcases List.mem_cons.mp hv with y | y
              · exact absurd (List.mem_map.mpr ⟨u, z, by rw [e, y]⟩) hn.1
              · exact ih hn.2 z y e
        exact h5 hnd h4 hb rfl
      exact h2 ▸ h1
    refine ⟨l, ⟨hl, ?_, fun e => hne (by have : sixNames.length = 6 := rfl; omega) (by rw [e] at hlp; exact hlp.symm.eq_nil), ?_, fun b hb => ?_, fun b hb => (hg b (hlp.mem_iff.mp hb)).1, ?_⟩, ?_⟩
    · rw [hlp.length_eq]
      omega
    · rw [hl1']
      exact name_rise _ hnd
    · exact List.take_subset _ _ (hg b (hlp.mem_iff.mp hb)).2
    · rw [(hlp.map _).nodup_iff, ← hqs]
      exact hqn
    · generalize hρ : ([.fz (.int n), .fz (.int boxes), .fz (.int most), .ow (.dct (lotK ms)), .ow (.lst (qs.map numD)), s5, s6, s7] : Env) = ρ at e
      have hcomp : ev fn ρ (.comp (.tup (.cons (.var 6) (.cons (.idx (.var 3) (.var 6)) .nil))) (.n 6) (.bi .sorted (.cons (.var 3) .nil)) (.con (.bl true)) [6]) S = .ok (.lst (l.map fun b => .tup [.str b.1, numD b.2])) S := by
        rw [evComp (x := .lst (ks.map .str)) (its := ks.map .str) (g := fun d => match d with | .str nm => some (.tup [.str nm, numD (num ms nm)]) | _ => none) ?_ rfl ?_ ?_]
        · congr 2
          show _ = (ks.map fun nm => (nm, num ms nm)).map _
          rw [List.filterMap_map, List.map_map, ← filterMap_some]
          rfl
        · rw [← hρ]
          simp only [xBi, xsC, xsN, xVar, slot, List.getD_cons_zero, List.getD_cons_succ, bindS, retS, Bi.run, hsort]
        · refine fits_le ?_
          rw [List.length_map, hks.length_eq, List.length_map]; omega
        · intro d hd
          obtain ⟨nm, hk, rfl⟩ := List.mem_map.mp hd
          have hit : D.item (.dct (lotK ms)) (.str nm) S = .ok (numD (num ms nm)) S := by
            show M.of (lookK (.kS nm) (lotK ms)) S = _
            rw [look_lot, hmem nm hk]; rfl
          rw [← hρ]
          simp only [itemE, T.put, wipeE, List.set_cons_zero, List.set_cons_succ, ofS, seqS, bindS, pureS, retS, noXS, truB, isOwn, slot, List.getD_cons_zero, List.getD_cons_succ, Bool.not_false, askT, if_true, xTup, xFC, xFN, xIdx, xVar, xCon, hit]
      have hbody : exs fn d8.body [.fz (.int n), .fz (.int boxes), .fz (.int most), .no, .no, .no, .no, .no] S = .rt (lotD l) S := by
        unfold d8
        have hd0 : ev fn [.fz (.int n), .fz (.int boxes), .fz (.int most), .no, .no, .no, .no, .no] (.dic .nil .nil) S = .ok (.dct []) S := xDic0
        have hl0 : ∀ ρ : Env, ev fn ρ (.lst .nil) S = .ok (.lst []) S := fun ρ => by simp only [xLst, xFN, bindS, retS]
        simp only [yC, yOwn, hd0, hl0, ofK, seqN, yFor, isOwn, List.set_cons_zero, List.set_cons_succ, Bool.false_eq_true, if_false]
        rw [show (.ow (.dct []) : Sl) = .ow (.dct (lotK [])) from rfl, show (.ow (.lst []) : Sl) = .ow (.lst (([] : List (List Int)).map numD)) from rfl, hsrc]
        simp only [ofK, itemsL]
        rw [e]
        have htup : Bi.run1 .tuple (.lst (l.map fun b => .tup [.str b.1, numD b.2])) S = .ok (lotD l) S := rfl
        simp only [seqN, yC, yN, yRet, isOwn, Bool.false_eq_true, if_false, xBi, xsC, xsN, bindS, retS, hcomp, Bi.run, htup, ofK, seqR]
      unfold Df.run
      simp only [List.length, if_true]
      show (exs fn d8.body [.fz (.int n), .fz (.int boxes), .fz (.int most), .no, .no, .no, .no, .no] S).end_ = _
      rw [hbody]; rfl
  · rintro i ρ d hd ⟨ms, qs, s5, s6, s7, rfl, hnd, hg, hl1, hl2, hqs, hqn, hne⟩
    obtain ⟨x, hx, rfl⟩ := enumD_get hd
    rw [List.getElem?_map] at hx
    cases ex : (sixNames.take q)[i]? with
    | none => rw [ex] at hx; cases hx
    | some nm =>
    rw [ex] at hx
    cases hx
    have e0 : 0 + i = i := by omega
    rw [e0] at hg hl1 hl2
    have hi6 : i < q ∧ sixNames[i]? = some nm := by
      rw [List.getElem?_take] at ex
      split at ex
      · exact ⟨by assumption, ex⟩
      · cases ex
    have hi7 : i < 6 := (List.getElem?_eq_some_iff.mp hi6.2).1
    have hnew : nm ∉ ms.map (·.1) := fun hm => by
      obtain ⟨b, hb, rfl⟩ := List.mem_map.mp hm
      have h1 := (hg b hb).2
      have nd : sixNames.Nodup := by decide
      obtain ⟨j, hj⟩ := List.mem_iff_getElem?.mp h1
      rw [List.getElem?_take] at hj
      split at hj
      · rename_i hlt
        have h2 := List.nodup_iff_pairwise_ne.mp nd
        have h3 := (List.getElem?_eq_some_iff.mp hj)
        have h4 := (List.getElem?_eq_some_iff.mp hi6.2)
        have := List.pairwise_iff_getElem.mp nd j i h3.1 h4.1 hlt
        exact this (h3.2.trans h4.2.symm)
      · cases hj
    have hgn := number_good (drawn n (20 + i)) most hm hm2
    have hc7 := c7 (drawn n (20 + i)) (drawn_nonneg _ _)
    have hin := notinL (S := S) (numD (number (drawn n (20 + i)) most)) (qs.map numD) (numD_plain _) plains_num
    cases hany : (qs.map numD).any fun y => y.eqv (numD (number (drawn n (20 + i)) most)) with
    | true =>
      refine ⟨_, _, rfl, .inl ?_, ms, qs, .fz (.int i), .fz (.str nm), .fz (numD (number (drawn n (20 + i)) most)), rfl, hnd, fun b hb => ⟨(hg b hb).1, ?_⟩, by omega, by omega, hqs, hqn, fun _ e => ?_⟩
      · rw [hany] at hin
        simp only [yN, yC, ySet, yIfe, isOwn, List.set_cons_zero, List.set_cons_succ, setAll, xCall, xFC, xFN, xCmp, xCon, xBin, xVar, slot, List.getD_cons_zero, List.getD_cons_succ, bindS, retS, Bool.not_false, askT, c6, hc7, addI, Bool.false_eq_true, if_false, ofK, hin, Bool.not_true, truB, seqN]
      · have := (hg b hb).2
        rw [e0]
        exact List.take_subset_take_left _ (by omega) this
      · rw [hqs, e] at hany
        cases hany
    | false =>
      refine ⟨_, _, rfl, .inl ?_, ms ++ [(nm, number (drawn n (20 + i)) most)], qs ++ [number (drawn n (20 + i)) most], .fz (.int i), .fz (.str nm), .fz (numD (number (drawn n (20 + i)) most)), rfl, ?_, fun b hb => ?_, by simp; omega, by simp; omega, by rw [hqs]; simp, ?_, fun _ => by simp⟩
      · rw [hany] at hin
        have hf1 : fits (qs.map numD) = true := fits_le (by rw [List.length_map]; omega)
        have hf2 : fits (lotK ms) = true := fits_le (by unfold lotK; rw [List.length_map]; omega)
        simp only [yN, yC, ySet, yIfe, yApp, yPut, isOwn, List.set_cons_zero, List.set_cons_succ, setAll, xCall, xFC, xFN, xCmp, xCon, xBin, xVar, slot, List.getD_cons_zero, List.getD_cons_succ, bindS, retS, Bool.not_false, askT, c6, hc7, addI, Bool.false_eq_true, if_false, ofK, hin, if_true, truB, seqN, hf1, putO, Ky.ofD, hf2, lotK_app ms nm _ hnew, List.map_append, List.map_cons, List.map_nil]
      · rw [List.map_append, List.nodup_append]
        refine ⟨hnd, by simp, fun a ha b hb e => hnew ?_⟩
        have : b = nm := by simpa using hb
        rw [← this, ← e]; exact ha
      · rcases List.mem_append.mp hb with z | z
        · exact ⟨(hg b z).1, by rw [e0]; exact List.take_subset_take_left _ (by omega) (hg b z).2⟩
        · have : b = (nm, number (drawn n (20 + i)) most) := by simpa using z
          subst this
          refine ⟨⟨_, drawn_nonneg _ _, rfl⟩, ?_⟩
          rw [e0, List.take_add_one, hi6.2]
          simp
      · rw [List.nodup_append]
        refine ⟨hqn, by simp, fun a ha b hb e => ?_⟩
        have eb : b = number (drawn n (20 + i)) most := by simpa using hb
        have : ((qs.map numD).any fun y => y.eqv (numD (number (drawn n (20 + i)) most))) = true := by
          rw [List.any_map, List.any_eq_true]
          exact ⟨a, ha, by rw [← eb, ← e]; exact num_self a⟩
        rw [this] at hany
        cases hany
theorem r8 (h6 : P 6 = some d6) (h7 : P 7 = some d7) (h8 : P 8 = some d8) (n boxes most : Int) (hn : 0 ≤ n) (hb : 0 < boxes) (hb2 : boxes ≤ 6) (hm : 0 < most) (hm2 : most ≤ 99) :
    ∃ l : Lot, GoodLot l ∧ l.length ≤ boxes.toNat ∧ run P f (k + 3) 8 [.int n, .int boxes, .int most] S = .ok (lotD l) S := by
  obtain ⟨l, d, e⟩ := r8x (f := f) (k := k) (S := S) h6 h7 h8 n boxes most hn hb hb2 hm hm2
  exact ⟨l, d.good, d.len, e⟩
end
end TD
end
section
set_option Elab.async false
set_option linter.all false
set_option maxRecDepth 100000
/-! _law_calls, _law_made_calls. -/
namespace TD
theorem enumD_zip (xs : List D) : enumD xs = xs.zipIdx.map fun p => .tup [.int (p.2 : Nat), p.1] := by
  apply List.ext_getElem?
  intro i
  cases e : (enumD xs)[i]? with
  | none =>
    have h1 := List.getElem?_eq_none_iff.mp e
    rw [enumD_len] at h1
    rw [List.getElem?_eq_none (by simpa using h1)]
  | some d =>
    obtain ⟨x, hx, rfl⟩ := enumD_get e
    rw [List.getElem?_map, List.getElem?_zipIdx, hx]
    simp
theorem fm_congr {α β : Type} {f g : α → Option β} : ∀ {l : List α}, (∀ x ∈ l, f x = g x) → l.filterMap f = l.filterMap g
  | [], _ => rfl
  | x :: l, h => by
    rw [List.filterMap_cons, List.filterMap_cons, h x (by simp), fm_congr fun y hy => h y (by simp [hy])]
theorem pick_sub (q : Nat → Bool) : ∀ (l : Lot) (o : Nat), ∃ ns : List Sx, ns.Sublist (l.map (·.1)) ∧ ((l.map fun b => D.tup [.str b.1, numD b.2]).zipIdx o).filterMap (fun p => match p.1 with
    | .tup [.str nm, _] => if q p.2 then some (.str nm) else none
    | _ => none) = ns.map D.str
  | [], _ => ⟨[], .slnil, rfl⟩
  | b :: l, o => by
    obtain ⟨ns, h1, h2⟩ := pick_sub q l (o + 1)
    cases e : q o with
    | true => exact ⟨b.1 :: ns, h1.cons₂ _, by simp [List.zipIdx_cons, e, h2]⟩
    | false => exact ⟨ns, h1.cons _, by simp [List.zipIdx_cons, e, h2]⟩
section
variable {P : Nat → Option Df} {f k : Nat} {S : Sto}
theorem slice_toL {l : List D} {i : Int} (h : 0 ≤ i) : D.slice (.lst l) .non (.int i) S = .ok (.lst (l.take i.toNat)) S := by
  show M.of ((cut l .non (.int i)).map D.lst) S = _
  have : cut l .non (.int i) = some (l.take i.toNat) := by
    unfold cut slAt
    have h' : ¬ i < 0 := by omega
    simp [h', List.take_eq_take_iff]
  rw [this]; rfl
theorem slice_from {l : List D} {i : Nat} (h : i ≤ l.length) : D.slice (.tup l) (.int i) .non S = .ok (.tup (l.drop i)) S := by
  show M.of ((cut l (.int i) .non).map D.tup) S = _
  have : cut l (.int i) .non = some (l.drop i) := by
    unfold cut slAt
    have h' : ¬ (i : Int) < 0 := by omega
    have h2 : (l.drop i).take (l.length - i) = l.drop i := List.take_of_length_le (by simp)
    simp [h', Nat.min_eq_left h, h2]
  rw [this]; rfl
/-- calls as drawn -/
structure CallsOk (l : Lot) (cl : Calls) (wait : Int) : Prop where
  names : (cl.map (·.1)).Nodup
  ok : ∀ c ∈ cl, (look l c.1).isSome = true ∧ 0 ≤ c.2 ∧ c.2 ≤ wait
theorem look_of_mem {l : Lot} {nm : Sx} (h : nm ∈ l.map (·.1)) : (look l nm).isSome = true := by
  obtain ⟨b, hb, rfl⟩ := List.mem_map.mp h
  unfold look
  rw [Option.isSome_map, List.find?_isSome]
  exact ⟨b, hb, by simp⟩
def drawsB (n wait : Int) (q : Nat) : List Int := (List.range q).map fun (i : Nat) => drawn n (60 + i) / 16 % (wait + 1)
def leastB (bs : List Int) : Int := minI (bs.headD 0) bs.tail
def callsB (ns : List Sx) (bs : List Int) : Calls := List.zipWith (fun nm b => (nm, b - leastB bs)) ns bs
theorem r9a (fn : Fns) (c6 : ∀ a b : Int, fn.call 6 [.int a, .int b] S = .ok (.int (drawn a b)) S) {l : Lot} (hlen : l.length ≤ 1000) (n wait : Int) : ∃ ns0 : List Sx, ns0.Sublist (l.map (·.1)) ∧ ev fn [.fz (lotD l), .fz (.int n), .fz (.int wait), .no, .no, .no, .no, .no, .no] (.comp (.idx (.var 6) (.con (.int 0))) (.t [5, 6]) (.enu (.var 0)) (.cmp .eq (.bin .mod (.bin .fdiv (.call 6 (.cons (.var 1) (.cons (.bin .add (.con (.int 40)) (.var 5)) .nil))) (.con (.int 16))) (.con (.int 2))) (.con (.int 0))) [5, 6]) S = .ok (.lst (ns0.map .str)) S := by
  obtain ⟨ns0, hsub, hns⟩ := pick_sub (fun i => drawn n (40 + i) / 16 % 2 == 0) l 0
  refine ⟨ns0, hsub, ?_⟩
  rw [evComp (x := .lst (enumD (l.map fun b => .tup [.str b.1, numD b.2]))) (its := enumD (l.map fun b => .tup [.str b.1, numD b.2])) (g := fun d => match d with
    | .tup [.int i, .tup [.str nm, _]] => if drawn n (40 + i) / 16 % 2 == 0 then some (.str nm) else none
    | _ => none) ?_ rfl ?_ ?_]
  · rw [← hns, enumD_zip, List.filterMap_map]
    refine congrArg (fun z => R.ok (D.lst z) S) ?_
    apply fm_congr
    intro p hp
    obtain ⟨x, j⟩ := p
    have hx : x ∈ l.map fun b => D.tup [.str b.1, numD b.2] := (List.mem_zipIdx' hp).2 ▸ List.getElem_mem _
    obtain ⟨b, _, rfl⟩ := List.mem_map.mp hx
    rfl
  · simp only [xEnu, xVar, slot, List.getD_cons_zero, bindS, retS, isOwn, Bool.not_false, askT, itemsT, lotD]
  · exact fits_le (by rw [enumD_len, List.length_map]; omega)
  · intro d hd
    obtain ⟨i, hi⟩ := List.mem_iff_getElem?.mp hd
    obtain ⟨x, hx, rfl⟩ := enumD_get hi
    rw [List.getElem?_map] at hx
    cases eb : l[i]? with
    | none => rw [eb] at hx; cases hx
    | some b =>
    rw [eb] at hx
    cases hx
    have hit : D.item (.tup [.str b.1, numD b.2]) (.int 0) S = .ok (.str b.1) S := rfl
    simp only [itemE, T.put, setAll, wipeE, List.set_cons_zero, List.set_cons_succ, ofS, seqS, bindS, pureS, retS, noXS, truB, isOwn, slot, List.getD_cons_zero, List.getD_cons_succ, Bool.not_false, askT, xCmp, xBin, xCall, xFC, xFN, xIdx, xVar, xCon, hit, c6, divI _ 16 (by decide) (by decide), modI _ 2 (by decide), addI, eqI]
    cases e : (drawn n (40 + (i : Int)) / 16 % 2 == 0) <;> rfl
theorem r9b (fn : Fns) (c6 : ∀ a b : Int, fn.call 6 [.int a, .int b] S = .ok (.int (drawn a b)) S) {l : Lot} (n wait : Int) (hw : 0 ≤ wait) (hw2 : wait ≤ 1000) (ns : List Sx) (hns3 : ns.length ≤ 3) : ev fn [.fz (lotD l), .fz (.int n), .fz (.int wait), .fz (.lst (ns.map .str)), .no, .no, .no, .no, .no] (.comp (.bin .mod (.bin .fdiv (.call 6 (.cons (.var 1) (.cons (.bin .add (.con (.int 60)) (.var 5)) .nil))) (.con (.int 16))) (.bin .add (.var 2) (.con (.int 1)))) (.n 5) (.rng (.con (.int 0)) (.bi .len (.cons (.var 3) .nil))) (.con (.bl true)) [5]) S = .ok (.lst ((drawsB n wait ns.length).map .int)) S := by
  have hlen2 : Bi.run1 .len (.lst (ns.map .str)) S = .ok (.int (ns.length : Nat)) S := by
    show R.ok (D.int ((ns.map D.str).length : Nat)) S = _
    rw [List.length_map]
  rw [evComp (x := .lst (rangeD 0 ns.length)) (its := rangeD 0 ns.length) (g := fun d => match d with | .int i => some (.int (drawn n (60 + i) / 16 % (wait + 1))) | _ => none) ?_ rfl ?_ ?_]
  · refine congrArg (fun z => R.ok (D.lst z) S) ?_
    show _ = ((List.range ns.length).map fun (i : Nat) => drawn n (60 + i) / 16 % (wait + 1)).map D.int
    unfold rangeD
    rw [List.filterMap_map, List.map_map, ← filterMap_some]
    have : ((ns.length : Int) - 0).toNat = ns.length := by omega
    rw [this]
    congr 1
    funext i
    simp
  · refine xRng xCon ?_ (by simp [rangeOk]; omega)
    simp only [xBi, xsC, xsN, xVar, slot, List.getD_cons_zero, List.getD_cons_succ, bindS, retS, Bi.run, hlen2]
  · exact fits_le (by simp [rangeD]; omega)
  · intro d hd
    simp only [rangeD, List.mem_map, List.mem_range] at hd
    obtain ⟨i, hi, rfl⟩ := hd
    simp only [itemE, T.put, setAll, wipeE, List.set_cons_zero, List.set_cons_succ, ofS, seqS, bindS, pureS, retS, noXS, truB, isOwn, slot, List.getD_cons_zero, List.getD_cons_succ, Bool.not_false, askT, if_true, xBin, xCall, xFC, xFN, xVar, xCon, c6, divI _ 16 (by decide) (by decide), modI _ (wait + 1) (by omega), addI, Int.zero_add]
theorem r9c (fn : Fns) {l : Lot} (n wait : Int) (ns : List Sx) (bs : List Int) (hns3 : ns.length ≤ 3) (hbl : bs.length = ns.length) : ev fn [.fz (lotD l), .fz (.int n), .fz (.int wait), .fz (.lst (ns.map .str)), .fz (.lst (bs.map .int)), .no, .no, .no, .no] (.comp (.tup (.cons (.var 7) (.cons (.bin .sub (.var 8) (.bi .min (.cons (.var 4) .nil))) .nil))) (.t [7, 8]) (.zip (.var 3) (.var 4)) (.con (.bl true)) [7, 8]) S = .ok (.lst ((callsB ns bs).map fun c => .tup [.str c.1, .int c.2])) S := by
  rw [evComp (x := .lst (pairsD (ns.map .str) (bs.map .int))) (its := pairsD (ns.map .str) (bs.map .int)) (g := fun d => match d with | .tup [.str nm, .int b] => some (.tup [.str nm, .int (b - leastB bs)]) | _ => none) ?_ rfl ?_ ?_]
  · refine congrArg (fun z => R.ok (D.lst z) S) ?_
    show _ = (List.zipWith (fun nm b => (nm, b - leastB bs)) ns bs).map _
    unfold pairsD
    rw [List.map_zipWith, List.zipWith_map]
    have : ∀ (xs : List Sx) (ys : List Int), (List.zipWith (fun (a : Sx) (b : Int) => D.tup [.str a, .int b]) xs ys).filterMap (fun d => match d with | .tup [.str nm, .int b] => some (.tup [.str nm, .int (b - leastB bs)]) | _ => none) = List.zipWith (fun (a : Sx) (b : Int) => D.tup [.str a, .int (b - leastB bs)]) xs ys := by
      intro xs
      induction xs with
      | nil => intro ys; rfl
      | cons x xs ih =>
        intro ys
        cases ys with
        | nil => rfl
        | cons y ys => simp [ih ys]
    exact this ns bs
  · simp only [xZip, xVar, slot, List.getD_cons_zero, List.getD_cons_succ, bindS, retS, isOwn, Bool.not_false, Bool.and_self, askT, itemsL]
  · exact fits_le (by simp [pairsD]; omega)
  · intro d hd
    obtain ⟨i, hi⟩ := List.mem_iff_getElem?.mp hd
    unfold pairsD at hi
    rw [List.zipWith_map, List.getElem?_zipWith] at hi
    cases e1 : ns[i]? with
    | none => rw [e1] at hi; cases e2 : bs[i]? <;> rw [e2] at hi <;> cases hi
    | some nm =>
    cases e2 : bs[i]? with
    | none => rw [e1, e2] at hi; cases hi
    | some b =>
    rw [e1, e2] at hi
    cases hi
    have hmin : Bi.run1 .min (.lst (bs.map .int)) S = .ok (.int (leastB bs)) S := by
      cases e : bs with
      | nil => rw [e] at e2; simp at e2
      | cons x r =>
        exact minS x r S
    simp only [itemE, T.put, setAll, wipeE, List.set_cons_zero, List.set_cons_succ, ofS, seqS, bindS, pureS, retS, noXS, truB, isOwn, slot, List.getD_cons_zero, List.getD_cons_succ, Bool.not_false, askT, if_true, xTup, xFC, xFN, xBin, xBi, xsC, xsN, xVar, xCon, Bi.run, hmin, subI]
end
end TD
end
section
set_option Elab.async false
set_option linter.all false
set_option maxRecDepth 100000
/-! One statement at a time. -/
namespace TD
section
variable {fn : Fns} {S S' : Sto} {ρ : Env}
theorem set_step {i : Nat} {e : E} {q : Ss} {d : D} (h : ev fn ρ e S = .ok d S') (h2 : isOwn ρ e = false) : exs fn (.cons (.set i e) q) ρ S = exs fn q (ρ.set i (.fz d)) S' := by
  rw [yC, ySet, h2, h]; rfl
theorem own_step {i : Nat} {e : E} {q : Ss} {d : D} (h : ev fn ρ e S = .ok d S') : exs fn (.cons (.own i e) q) ρ S = exs fn q (ρ.set i (.ow d)) S' := by
  rw [yC, yOwn, h]; rfl
theorem ret_step {e : E} {q : Ss} {d : D} (h : ev fn ρ e S = .ok d S') (h2 : isOwn ρ e = false) : exs fn (.cons (.ret e) q) ρ S = .rt d S' := by
  rw [yC, yRet, h2, h]; rfl
theorem if_no {e : E} {q : Ss} {a : Ss} (h : ev fn ρ e S = .ok (.bl false) S') : exs fn (.cons (.ife e a .nil) q) ρ S = exs fn q ρ S' := by
  rw [yC, yIfe, h]
  show (if false = true then exs fn a ρ S' else exs fn .nil ρ S').seq (exs fn q) = _
  rw [if_neg (by decide), yN]; rfl
theorem if_yes {e : E} {q : Ss} {a b : Ss} (h : ev fn ρ e S = .ok (.bl true) S') : exs fn (.cons (.ife e a b) q) ρ S = (exs fn a ρ S').seq (exs fn q) := by
  rw [yC, yIfe, h]
  show (if true = true then exs fn a ρ S' else exs fn b ρ S').seq (exs fn q) = _
  rw [if_pos rfl]
theorem for_step {t : T} {e : E} {b q : Ss} {d : D} {its : List D} {ρ' : Env} (h : ev fn ρ e S = .ok d S) (h2 : isOwn ρ e = false) (h3 : d.items S = .ok its S) (h4 : loopO t (exs fn b) its ρ S = .nx ρ' S) : exs fn (.cons (.for_ t e b) q) ρ S = exs fn q ρ' S := by
  rw [yC, yFor, h2, h]
  show (O.of (d.items S) fun its S => loopO t (exs fn b) its ρ S).seq _ = _
  rw [h3]
  show (loopO t (exs fn b) its ρ S).seq _ = _
  rw [h4]; rfl
theorem app_step {i : Nat} {e : E} {q : Ss} {d : D} {l : List D} (h0 : slot ρ i = .ow (.lst l)) (h : ev fn ρ e S = .ok d S') (h2 : isOwn ρ e = false) (h3 : fits l = true) : exs fn (.cons (.app i e) q) ρ S = exs fn q (ρ.set i (.ow (.lst (l ++ [d])))) S' := by
  rw [yC, yApp, h0]
  simp only [h2, Bool.false_eq_true, if_false]
  rw [h]
  show (if fits l = true then O.nx (ρ.set i (.ow (.lst (l ++ [d])))) S' else .bad).seq _ = _
  rw [if_pos h3]; rfl
theorem xBi1 {e : E} {d : D} {b : Bi} (h : ev fn ρ e S = .ok d S) : ev fn ρ (.bi b (.cons e .nil)) S = Bi.run1 b d S := by
  simp only [xBi, xsC, xsN, h, bindS, retS, Bi.run]
theorem partI {e : E} {i : Int} (h : noPart e = false) : partOk e (.int i) S = .ok (.int i) S := by
  unfold partOk
  rw [h]; rfl
theorem partN {d : D} : partOk (.con .non) d S = .ok .non S := rfl
theorem xSl_to {e e2 : E} {d d2 r : D} (hp : noPart e2 = false) (h : ev fn ρ e S = .ok d S) (h1 : ev fn ρ e2 S = .ok d2 S) (hd : ∃ i, d2 = .int i) (h2 : D.slice d .non d2 S = .ok r S) : ev fn ρ (.sl e (.con .non) e2) S = .ok r S := by
  obtain ⟨i, rfl⟩ := hd
  simp only [xSl, h, h1, partI hp, partN, xCon, bindS, h2]
theorem xSl_from {e e2 : E} {d d2 r : D} (hp : noPart e2 = false) (h : ev fn ρ e S = .ok d S) (h1 : ev fn ρ e2 S = .ok d2 S) (hd : ∃ i, d2 = .int i) (h2 : D.slice d d2 .non S = .ok r S) : ev fn ρ (.sl e e2 (.con .non)) S = .ok r S := by
  obtain ⟨i, rfl⟩ := hd
  simp only [xSl, h, h1, partI hp, partN, xCon, bindS, h2]
theorem xSl_bt {e e1 e2 : E} {d d1 d2 r : D} (hp1 : noPart e1 = false) (hp : noPart e2 = false) (h : ev fn ρ e S = .ok d S) (h0 : ev fn ρ e1 S = .ok d1 S) (h1 : ev fn ρ e2 S = .ok d2 S) (hd1 : ∃ i, d1 = .int i) (hd : ∃ i, d2 = .int i) (h2 : D.slice d d1 d2 S = .ok r S) : ev fn ρ (.sl e e1 e2) S = .ok r S := by
  obtain ⟨i, rfl⟩ := hd
  obtain ⟨i, rfl⟩ := hd1
  simp only [xSl, h, h0, h1, partI hp, partI hp1, xCon, bindS, h2]
end
end TD
end
section
set_option Elab.async false
set_option linter.all false
set_option maxRecDepth 100000
/-! _law_calls, joined. -/
namespace TD
section
variable {P : Nat → Option Df} {f k : Nat} {S : Sto}
theorem r9x (h6 : P 6 = some d6) (h9 : P 9 = some d9) {l : Lot} (g : GoodLot l) (hlen : l.length ≤ 1000) (n wait : Int) (hw : 0 ≤ wait) (hw2 : wait ≤ 1000) :
    ∃ cl : Calls, CallsOk l cl wait ∧ cl.length ≤ 3 ∧ (cl.map (·.1)).Sublist (l.map (·.1)) ∧ (cl ≠ [] → ∃ c ∈ cl, c.2 = 0) ∧ run P f (k + 2) 9 [lotD l, .int n, .int wait] S = .ok (callsD cl) S := by
  rw [run_of h9]
  generalize hfn : (⟨run P f (k + 1), newOb (run P f (k + 1)) f⟩ : Fns) = fn
  have c6 : ∀ a b : Int, fn.call 6 [.int a, .int b] S = .ok (.int (drawn a b)) S := fun a b => by rw [← hfn]; exact r6 h6 a b
  obtain ⟨ns0, hsub, hc1⟩ := r9a (S := S) fn c6 hlen n wait
  obtain ⟨ns, hnsd⟩ : ∃ ns, ns = ns0.take 3 := ⟨_, rfl⟩
  have hns3 : ns.length ≤ 3 := by rw [hnsd, List.length_take]; omega
  have hbsd : ∃ bs, bs = drawsB n wait ns.length := ⟨_, rfl⟩
  obtain ⟨bs, hbsd⟩ := hbsd
  have hbl : bs.length = ns.length := by rw [hbsd]; simp [drawsB]
  have hbb : ∀ b ∈ bs, 0 ≤ b ∧ b ≤ wait := fun b hb => by
    rw [hbsd] at hb
    obtain ⟨i, _, rfl⟩ := List.mem_map.mp hb
    have h1 := Int.emod_nonneg (drawn n (60 + (i : Int)) / 16) (by omega : wait + 1 ≠ 0)
    have h2 := Int.emod_lt_of_pos (drawn n (60 + (i : Int)) / 16) (by omega : (0 : Int) < wait + 1)
    omega
  obtain ⟨m, hmd⟩ : ∃ m, m = leastB bs := ⟨_, rfl⟩
  have hmb : ∀ b ∈ bs, m ≤ b := fun b hb => by
    cases e : bs with
    | nil => rw [e] at hb; simp at hb
    | cons x r =>
      have hm : m = minI x r := by rw [hmd]; unfold leastB; rw [e]; rfl
      rw [hm]
      rw [e] at hb
      rcases List.mem_cons.mp hb with z | z
      · rw [z]; exact (minI_le r x).1
      · exact (minI_le r x).2 b z
  have hm0 : bs ≠ [] → 0 ≤ m := fun hne => by
    cases e : bs with
    | nil => exact absurd e hne
    | cons x r =>
      have hm : m = minI x r := by rw [hmd]; unfold leastB; rw [e]; rfl
      rw [hm]
      rcases minI_mem r x with z | z
      · rw [z]; exact (hbb x (by rw [e]; simp)).1
      · exact (hbb _ (by rw [e]; simp [z])).1
  obtain ⟨cl, hcld⟩ : ∃ cl, cl = List.zipWith (fun nm b => (nm, b - m)) ns bs := ⟨_, rfl⟩
  have hcln : cl.map (·.1) = ns := by
    rw [hcld, List.map_zipWith]
    apply List.ext_getElem?
    intro i
    rw [List.getElem?_zipWith]
    cases e : ns[i]? with
    | none => simp
    | some nm =>
      have : i < bs.length := by rw [hbl]; exact (List.getElem?_eq_some_iff.mp e).1
      rw [List.getElem?_eq_getElem this]
  have hsub2 : ns.Sublist (l.map (·.1)) := hnsd ▸ (List.take_sublist 3 ns0).trans hsub
  have hz : cl ≠ [] → ∃ c ∈ cl, c.2 = 0 := fun hne => by
    have hbn : bs ≠ [] := fun e => hne (by rw [hcld, e]; simp)
    have hmin : m ∈ bs := by
      cases e : bs with
      | nil => exact absurd e hbn
      | cons x r =>
        have hm : m = minI x r := by rw [hmd]; unfold leastB; rw [e]; rfl
        rw [hm]
        rcases minI_mem r x with z | z
        · rw [z]; simp
        · simp [z]
    obtain ⟨i, hi⟩ := List.mem_iff_getElem?.mp hmin
    have hlt := (List.getElem?_eq_some_iff.mp hi).1
    refine ⟨(ns[i]'(by omega), m - m), List.mem_iff_getElem?.mpr ⟨i, ?_⟩, by show m - m = 0; omega⟩
    rw [hcld, List.getElem?_zipWith, hi, List.getElem?_eq_getElem (by omega)]
  refine ⟨cl, ⟨by rw [hcln]; exact hsub2.nodup g.1, fun c hc => ?_⟩, ?_, by rw [hcln]; exact hsub2, hz, ?_⟩
  · have h1 : c.1 ∈ ns := by rw [← hcln]; exact List.mem_map.mpr ⟨c, hc, rfl⟩
    refine ⟨look_of_mem (hsub2.subset h1), ?_⟩
    obtain ⟨i, hi⟩ := List.mem_iff_getElem?.mp hc
    rw [hcld, List.getElem?_zipWith] at hi
    cases e1 : ns[i]? with
    | none => rw [e1] at hi; cases e2 : bs[i]? <;> rw [e2] at hi <;> cases hi
    | some nm =>
      cases e2 : bs[i]? with
      | none => rw [e1, e2] at hi; cases hi
      | some b =>
        rw [e1, e2] at hi
        cases hi
        have hb := List.mem_of_getElem? e2
        have := hbb b hb
        have := hmb b hb
        have := hm0 (List.ne_nil_of_mem hb)
        show 0 ≤ b - m ∧ b - m ≤ wait
        omega
  · have := congrArg List.length hcln
    rw [List.length_map] at this
    omega
  · have hc2 := r9b (S := S) fn c6 (l := l) n wait hw hw2 ns hns3
    rw [← hbsd] at hc2
    have hc3 := r9c (S := S) fn (l := l) n wait ns bs hns3 hbl
    have hcl2 : callsB ns bs = cl := by rw [hcld, hmd]; rfl
    rw [hcl2] at hc3
    have hs3 := slice_toL (S := S) (l := ns0.map D.str) (i := 3) (by decide)
    have e3 : (ns0.map D.str).take (3 : Int).toNat = ns.map D.str := by rw [← List.map_take, hnsd]; rfl
    rw [e3] at hs3
    have hbody : exs fn d9.body [.fz (lotD l), .fz (.int n), .fz (.int wait), .no, .no, .no, .no, .no, .no] S = .rt (callsD cl) S := by
      have htup : Bi.run1 .tuple (.lst (cl.map fun c => .tup [.str c.1, .int c.2])) S = .ok (callsD cl) S := rfl
      unfold d9
      refine (set_step (xSl_to rfl hc1 xCon ⟨3, rfl⟩ hs3) rfl).trans ?_
      refine (set_step hc2 rfl).trans ?_
      exact ret_step ((xBi1 hc3).trans htup) rfl
    unfold Df.run
    simp only [List.length, if_true]
    show (exs fn d9.body [.fz (lotD l), .fz (.int n), .fz (.int wait), .no, .no, .no, .no, .no, .no] S).end_ = _
    rw [hbody]; rfl
theorem r9 (h6 : P 6 = some d6) (h9 : P 9 = some d9) {l : Lot} (g : GoodLot l) (hlen : l.length ≤ 1000) (n wait : Int) (hw : 0 ≤ wait) (hw2 : wait ≤ 1000) :
    ∃ cl : Calls, CallsOk l cl wait ∧ cl.length ≤ 3 ∧ run P f (k + 2) 9 [lotD l, .int n, .int wait] S = .ok (callsD cl) S := by
  obtain ⟨cl, h1, h2, _, _, h3⟩ := r9x (f := f) (k := k) (S := S) h6 h9 g hlen n wait hw hw2
  exact ⟨cl, h1, h2, h3⟩
end
end TD
end
section
set_option Elab.async false
set_option linter.all false
set_option maxRecDepth 100000
/-! _law_made_calls. -/
namespace TD
section
variable {P : Nat → Option Df} {f k : Nat} {S : Sto}
theorem callsD_plain (cl : Calls) : (callsD cl).plain = true := by
  unfold callsD D.plain
  rw [D.okN, List.all_map]
  exact List.all_eq_true.mpr fun _ _ => rfl
theorem callsD_nil (cl : Calls) (h : cl ≠ []) : (callsD cl).eqv (.tup []) = false := by
  cases cl with
  | nil => exact absurd rfl h
  | cons c r => rfl
theorem addTup (a b : List D) (h : a.length + b.length ≤ 16000000) : Op.run .add (.tup a) (.tup b) S = .ok (.tup (a ++ b)) S := by
  show M.bind (M.ask (fits (a ++ b))) _ S = _
  rw [bindS, ask_of (fits_le (by rw [List.length_append]; exact h))]
  rfl
theorem xCall3 {fn : Fns} {ρ : Env} {n : Nat} {a b c : E} {x y z r : D} (ha : ev fn ρ a S = .ok x S) (hb : ev fn ρ b S = .ok y S) (hc : ev fn ρ c S = .ok z S) (oa : isOwn ρ a = false) (ob : isOwn ρ b = false) (oc : isOwn ρ c = false) (h : fn.call n [x, y, z] S = .ok r S) : ev fn ρ (.call n (.cons a (.cons b (.cons c .nil)))) S = .ok r S := by
  simp only [xCall, xFC, xFN, ha, hb, hc, oa, ob, oc, Bool.not_false, askT, bindS, retS, h]
theorem xVarF {fn : Fns} {ρ : Env} {i : Nat} {d : D} (h : slot ρ i = .fz d) : ev fn ρ (.var i) S = .ok d S := by
  rw [xVar, h]
theorem r10 (h6 : P 6 = some d6) (h9 : P 9 = some d9) (h10 : P 10 = some d10) {l : Lot} (g : GoodLot l) (hlen : l.length ≤ 1000) (n wait many : Int) (hw : 0 ≤ wait) (hw2 : wait ≤ 1000) (hm : 0 ≤ many) :
    ∃ cl : Calls, CallsOk l cl wait ∧ cl.length ≤ 3 ∧ (∀ c ∈ cl.head?, c.2 = 0) ∧ run P f (k + 3) 10 [lotD l, .int n, .int wait, .int many] S = .ok (callsD cl) S := by
  obtain ⟨cl, hok, hl3, he⟩ := r9 (k := k) (f := f) (S := S) h6 h9 g hlen n wait hw hw2
  rw [run_of h10]
  generalize hfn : (⟨run P f (k + 2), newOb (run P f (k + 2)) f⟩ : Fns) = fn
  have c9 : fn.call 9 [lotD l, .int n, .int wait] S = .ok (callsD cl) S := by rw [← hfn]; exact he
  obtain ⟨q, hq⟩ : ∃ q, q = cl.take many.toNat := ⟨_, rfl⟩
  have hqs : q.Sublist cl := hq ▸ List.take_sublist _ _
  have hs := slice_to (S := S) (l := cl.map fun c => D.tup [.str c.1, .int c.2]) hm
  have e1 : (cl.map fun c => D.tup [.str c.1, .int c.2]).take many.toNat = q.map fun c => D.tup [.str c.1, .int c.2] := by rw [hq, List.map_take]
  rw [e1] at hs
  have hq3 : q.length ≤ 3 := Nat.le_trans hqs.length_le hl3
  have hqn : (q.map (·.1)).Nodup := (hqs.map _).nodup hok.names
  have hqo : ∀ c ∈ q, (look l c.1).isSome = true ∧ 0 ≤ c.2 ∧ c.2 ≤ wait := fun c hc => hok.ok c (hqs.subset hc)
  have st1 : ev fn [.fz (lotD l), .fz (.int n), .fz (.int wait), .fz (.int many), .no] (.sl (.call 9 (.cons (.var 0) (.cons (.var 1) (.cons (.var 2) .nil)))) (.con .non) (.var 3)) S = .ok (callsD q) S :=
    xSl_to rfl (xCall3 (xVarF rfl) (xVarF rfl) (xVarF rfl) rfl rfl rfl c9) (xVarF rfl) ⟨many, rfl⟩ hs
  suffices hb : ∃ cl' : Calls, CallsOk l cl' wait ∧ cl'.length ≤ 3 ∧ (∀ c ∈ cl'.head?, c.2 = 0) ∧ exs fn d10.body [.fz (lotD l), .fz (.int n), .fz (.int wait), .fz (.int many), .no] S = .rt (callsD cl') S by
    obtain ⟨cl', a1, a2, a3, a4⟩ := hb
    refine ⟨cl', a1, a2, a3, ?_⟩
    unfold Df.run
    show (exs fn d10.body [.fz (lotD l), .fz (.int n), .fz (.int wait), .fz (.int many), .no] S).end_ = _
    rw [a4]; rfl
  have hcmp : ev fn [.fz (lotD l), .fz (.int n), .fz (.int wait), .fz (.int many), .fz (callsD q)] (.cmp .ne (.var 4) (.tup .nil)) S = .ok (.bl (!(callsD q).eqv (.tup []))) S := by
    simp only [xCmp, xVar, xTup, xFN, slot, List.getD_cons_zero, List.getD_cons_succ, bindS, retS, cmpNe _ _ (callsD_plain q) (show (D.tup []).plain = true from rfl)]
  cases q with
  | nil =>
    refine ⟨[], ⟨.nil, by simp⟩, by simp, by simp, ?_⟩
    unfold d10
    refine (set_step st1 rfl).trans ?_
    refine (if_no hcmp).trans ?_
    exact ret_step (xVarF rfl) rfl
  | cons c r =>
    rw [callsD_nil _ (by simp)] at hcmp
    refine ⟨(c.1, 0) :: r, ⟨hqn, fun x hx => ?_⟩, hq3, by simp, ?_⟩
    · rcases List.mem_cons.mp hx with z | z
      · rw [z]; exact ⟨(hqo c (by simp)).1, Int.le_refl _, hw⟩
      · exact hqo x (by simp [z])
    · have hs2 := slice_from (S := S) (l := (c :: r).map fun c => D.tup [.str c.1, .int c.2]) (i := 1) (by simp)
      have st2 : ev fn [.fz (lotD l), .fz (.int n), .fz (.int wait), .fz (.int many), .fz (callsD (c :: r))] (.bin .add (.tup (.cons (.tup (.cons (.idx (.idx (.var 4) (.con (.int 0))) (.con (.int 0))) (.cons (.con (.int 0)) .nil))) .nil)) (.sl (.var 4) (.con (.int 1)) (.con .non))) S = .ok (callsD ((c.1, 0) :: r)) S := by
        have hsl : ev fn [.fz (lotD l), .fz (.int n), .fz (.int wait), .fz (.int many), .fz (callsD (c :: r))] (.sl (.var 4) (.con (.int 1)) (.con .non)) S = .ok (.tup (((c :: r).map fun c => D.tup [.str c.1, .int c.2]).drop 1)) S :=
          xSl_from rfl (xVarF rfl) xCon ⟨1, rfl⟩ hs2
        have hi1 : D.item (callsD (c :: r)) (.int 0) S = .ok (.tup [.str c.1, .int c.2]) S := by
          show M.of (getAt ((c :: r).map fun c => D.tup [.str c.1, .int c.2]) ((0 : Nat) : Int)) S = _
          rw [getAt_nat]; rfl
        have hi2 : D.item (.tup [.str c.1, .int c.2]) (.int 0) S = .ok (.str c.1) S := by
          show M.of (getAt [D.str c.1, .int c.2] ((0 : Nat) : Int)) S = _
          rw [getAt_nat]; rfl
        have htp : ev fn [.fz (lotD l), .fz (.int n), .fz (.int wait), .fz (.int many), .fz (callsD (c :: r))] (.tup (.cons (.tup (.cons (.idx (.idx (.var 4) (.con (.int 0))) (.con (.int 0))) (.cons (.con (.int 0)) .nil))) .nil)) S = .ok (.tup [.tup [.str c.1, .int 0]]) S := by
          simp only [xTup, xFC, xFN, xIdx, xVar, xCon, isOwn, slot, List.getD_cons_zero, List.getD_cons_succ, Bool.not_false, askT, bindS, retS, hi1, hi2]
        rw [xBin, bindS, htp]
        dsimp only
        rw [bindS, hsl]
        dsimp only
        rw [addTup _ _ (by simp at hq3 ⊢; omega)]
        rfl
      unfold d10
      refine (set_step st1 rfl).trans ?_
      refine (if_yes hcmp).trans ?_
      rw [show exs fn (.cons (.set 4 (.bin .add (.tup (.cons (.tup (.cons (.idx (.idx (.var 4) (.con (.int 0))) (.con (.int 0))) (.cons (.con (.int 0)) .nil))) .nil)) (.sl (.var 4) (.con (.int 1)) (.con .non)))) .nil) [.fz (lotD l), .fz (.int n), .fz (.int wait), .fz (.int many), .fz (callsD (c :: r))] S = .nx [.fz (lotD l), .fz (.int n), .fz (.int wait), .fz (.int many), .fz (callsD ((c.1, 0) :: r))] S from (set_step st2 rfl).trans yN]
      rw [seqN]
      exact ret_step (xVarF rfl) rfl
end
end TD
end
section
set_option Elab.async false
set_option linter.all false
set_option maxRecDepth 100000
/-! What beats looks like. -/
namespace TD
theorem text_len {A B : Sx} (lB : B ≠ [] → B.getLast? = some 49) (taps : ∀ t : Nat, B[t]? = some 49 → A[t]? = some 49) : B.length ≤ A.length := by
  by_cases hB : B = []
  · rw [hB]; simp
  · have h1 := lB hB
    rw [List.getLast?_eq_getElem?] at h1
    have h2 := (List.getElem?_eq_some_iff.mp (taps _ h1)).1
    omega
theorem text_ext {A B : Sx} (sA : ∀ c ∈ A, c = 48 ∨ c = 49) (sB : ∀ c ∈ B, c = 48 ∨ c = 49) (lA : A ≠ [] → A.getLast? = some 49) (lB : B ≠ [] → B.getLast? = some 49) (taps : ∀ t : Nat, A[t]? = some 49 ↔ B[t]? = some 49) : A = B := by
  have h1 := text_len (A := A) lB fun t => (taps t).2
  have h2 := text_len (A := B) lA fun t => (taps t).1
  apply List.ext_getElem?
  intro t
  cases ea : A[t]? with
  | none =>
    have := List.getElem?_eq_none_iff.mp ea
    rw [List.getElem?_eq_none (by omega)]
  | some a =>
    cases eb : B[t]? with
    | none =>
      have := List.getElem?_eq_none_iff.mp eb
      have := (List.getElem?_eq_some_iff.mp ea).1
      omega
    | some b =>
      have ht := taps t
      rw [ea, eb] at ht
      rcases sA a (List.mem_of_getElem? ea) with x | x <;> rcases sB b (List.mem_of_getElem? eb) with y | y
      · rw [x, y]
      · rw [x, y] at ht; simp at ht
      · rw [x, y] at ht; simp at ht
      · rw [x, y]
/-- text of 0 and 1 that starts and ends with 1 -/
def Tap (s : Sx) : Prop := (∀ c ∈ s, c = 48 ∨ c = 49) ∧ s.head? = some 49 ∧ s.getLast? = some 49
theorem joinS_cons (s x y : Sx) (r : List Sx) : joinS s (x :: y :: r) = x ++ s ++ joinS s (y :: r) := by
  simp [joinS]
theorem Tap.glue {a b s : Sx} (ha : Tap a) (hb : Tap b) (hs : ∀ c ∈ s, c = 48 ∨ c = 49) : Tap (a ++ s ++ b) := by
  refine ⟨fun c hc => ?_, ?_, ?_⟩
  · rcases List.mem_append.mp hc with h | h
    · rcases List.mem_append.mp h with h | h
      · exact ha.1 c h
      · exact hs c h
    · exact hb.1 c h
  · rw [List.append_assoc, List.head?_append, ha.2.1]; rfl
  · rw [List.getLast?_append, hb.2.2]; rfl
theorem joinS_tap (s : Sx) (hs : ∀ c ∈ s, c = 48 ∨ c = 49) : ∀ l : List Sx, l ≠ [] → (∀ x ∈ l, Tap x) → Tap (joinS s l)
  | [], h, _ => absurd rfl h
  | [x], _, h => by
    have := h x (by simp)
    simpa [joinS] using this
  | x :: y :: r, _, h => by
    rw [joinS_cons]
    exact (h x (by simp)).glue (joinS_tap s hs (y :: r) (by simp) fun z hz => h z (by simp at hz ⊢; exact .inr hz)) hs
theorem tapsX_tap {n : Nat} (h : 0 < n) : Tap (tapsX n) := by
  unfold tapsX
  refine joinS_tap _ (by simp) _ (fun e => ?_) fun x hx => ?_
  · have := congrArg List.length e
    simp at this
    omega
  · rw [(List.mem_replicate.mp hx).2]
    exact ⟨by simp, rfl, rfl⟩
theorem beats_tap {cs : List Int} (h : Good cs) : Tap (beats cs) := by
  unfold beats
  refine joinS_tap _ (by simp) _ (fun e => ?_) fun x hx => ?_
  · have := congrArg List.length e
    simp at this
    exact h.1 this
  · obtain ⟨c, hc, rfl⟩ := List.mem_map.mp hx
    have := h.2.2 c hc
    exact tapsX_tap (by omega)
/-- alone: the beats themselves -/
theorem alone_eq {l : Lot} {nm : Sx} {T : Sx} (g : Good (num l nm)) (h : Heard l [(nm, 0)] T) : T = beats (num l nm) := by
  have hb := beats_tap g
  refine text_ext h.signs hb.1 h.last (fun _ => hb.2.2) fun t => ?_
  rw [h.taps]
  constructor
  · rintro ⟨c, hc, i, hi, e⟩
    have : c = (nm, 0) := by simpa using hc
    subst this
    have : t = i := by omega
    rw [this]; exact hi
  · intro hi
    exact ⟨(nm, 0), by simp, t, hi, by simp⟩
/-- nothing heard of no calls -/
theorem none_eq {l : Lot} {T : Sx} (h : Heard l [] T) : T = [] := by
  cases T with
  | nil => rfl
  | cons x r =>
    have h1 := h.last (by simp)
    rw [List.getLast?_eq_getElem?] at h1
    obtain ⟨c, hc, _⟩ := (h.taps _).mp h1
    simp at hc
end TD
end
section
set_option Elab.async false
set_option linter.all false
set_option maxRecDepth 100000
/-! One call's own text; what all hear. -/
namespace TD
def evT (l : Lot) (c : Sx × Int) : Sx := List.replicate c.2.toNat 48 ++ beats (num l c.1)
theorem rep_zero (n : Int) : rep n [48] = List.replicate n.toNat 48 := by
  unfold rep
  induction n.toNat with
  | zero => rfl
  | succ k ih => simp [List.replicate_succ, ih]
theorem evT_get {l : Lot} {c : Sx × Int} (h : 0 ≤ c.2) (t : Nat) : (evT l c)[t]? = some 49 ↔ hitC l c t := by
  unfold evT
  constructor
  · intro e
    by_cases ht : t < c.2.toNat
    · rw [List.getElem?_append_left (by simpa using ht), List.getElem?_replicate_of_lt ht] at e
      simp at e
    · rw [List.getElem?_append_right (by simp; omega), List.length_replicate] at e
      exact ⟨t - c.2.toNat, e, by omega⟩
  · rintro ⟨i, hi, e⟩
    rw [List.getElem?_append_right (by simp; omega), List.length_replicate, show t - c.2.toNat = i by omega]
    exact hi
theorem evT_last {l : Lot} {c : Sx × Int} (g : Good (num l c.1)) : (evT l c).getLast? = some 49 := by
  unfold evT
  rw [List.getLast?_append, (beats_tap g).2.2]; rfl
theorem evT_len {l : Lot} {c : Sx × Int} (g : Good (num l c.1)) (h : c.2 ≤ 1000) : (evT l c).length ≤ 21300 := by
  unfold evT
  have := beats_len g.small
  rw [List.length_append, List.length_replicate]
  omega
section
variable {l : Lot} {cl : Calls} {T : Sx}
theorem heard_max (g : GoodLot l) (hc : ∀ c ∈ cl, CallOk l c) (h : Heard l cl T) : (T.length : Int) = maxI 0 (cl.map fun c => ((evT l c).length : Int)) := by
  have h1 : ∀ c ∈ cl, (evT l c).length ≤ T.length := fun c hcc =>
    text_len (fun _ => evT_last (num_good g (hc c hcc).1)) fun t ht => (h.taps t).mpr ⟨c, hcc, (evT_get (hc c hcc).2.1 t).mp ht⟩
  have h2 := maxI_le (cl.map fun c => ((evT l c).length : Int)) 0
  apply Int.le_antisymm
  · by_cases hT : T = []
    · rw [hT]; exact h2.1
    · have hl := h.last hT
      rw [List.getLast?_eq_getElem?] at hl
      obtain ⟨c, hcc, hh⟩ := (h.taps _).mp hl
      have h3 := (evT_get (hc c hcc).2.1 _).mpr hh
      have h4 := (List.getElem?_eq_some_iff.mp h3).1
      have h5 := h2.2 _ (List.mem_map.mpr ⟨c, hcc, rfl⟩)
      omega
  · rcases maxI_mem (cl.map fun c => ((evT l c).length : Int)) 0 with e | e
    · rw [e]; omega
    · obtain ⟨c, hcc, e2⟩ := List.mem_map.mp e
      have := h1 c hcc
      omega
theorem heard_head (g : GoodLot l) (hc : ∀ c ∈ cl, CallOk l c) (h0 : ∀ c ∈ cl.head?, c.2 = 0) (h : Heard l cl T) (hn : T ≠ []) : T[0]? = some 49 := by
  cases cl with
  | nil => exact absurd (none_eq h) hn
  | cons c r =>
    have hb := beats_tap (num_good g (hc c (by simp)).1)
    have := h0 c (by simp)
    refine (h.taps 0).mpr ⟨c, by simp, 0, ?_, by omega⟩
    rw [← List.head?_eq_getElem?]
    exact hb.2.1
theorem heard_sub {rs : Calls} {R : Sx} (hs : ∀ c ∈ rs, c ∈ cl) (h : Heard l cl T) (hr : Heard l rs R) (t : Nat) (ht : R[t]? = some 49) : T[t]? = some 49 := by
  obtain ⟨c, hcc, hh⟩ := (hr.taps t).mp ht
  exact (h.taps t).mpr ⟨c, hs c hcc, hh⟩
end
end TD
end
section
set_option Elab.async false
set_option linter.all false
set_option maxRecDepth 100000
/-! Values of known kinds: what is gone through, operators, built-in functions. -/
namespace TD
abbrev boxD (b : Sx × List Int) : D := .tup [.str b.1, numD b.2]
abbrev callD (c : Sx × Int) : D := .tup [.str c.1, .int c.2]
/-- names -/
def namesD (l : List Sx) : D := .tup (l.map .str)
section
variable {S : Sto} {α β : Type}
/-! ### what is gone through -/
theorem itLot (l : Lot) : (lotD l).items S = .ok (l.map boxD) S := rfl
theorem itCalls (l : Calls) : (callsD l).items S = .ok (l.map callD) S := rfl
theorem itNum (l : List Int) : (numD l).items S = .ok (l.map .int) S := rfl
theorem itNames (l : List Sx) : (namesD l).items S = .ok (l.map .str) S := rfl
theorem itStr (l : Sx) : (D.str l).items S = .ok (l.map fun c => .str [c]) S := rfl
theorem itLst (l : List α) (e : α → D) : (D.lst (l.map e)).items S = .ok (l.map e) S := rfl
theorem itTup (l : List α) (e : α → D) : (D.tup (l.map e)).items S = .ok (l.map e) S := rfl
theorem itRng0 (n : Nat) : (D.lst (rangeD 0 (n : Int))).items S = .ok ((List.range n).map fun (k : Nat) => .int k) S := by
  show R.ok (rangeD 0 n) S = _
  unfold rangeD
  simp
theorem itRngI (n : Int) : (D.lst (rangeD 0 n)).items S = .ok ((List.range n.toNat).map fun (k : Nat) => .int k) S := by
  show R.ok (rangeD 0 n) S = _
  unfold rangeD
  simp
theorem itRngN (a n : Nat) : (D.lst (rangeD (a : Int) (n : Int))).items S = .ok ((List.range' a (n - a)).map fun (k : Nat) => .int k) S := by
  show R.ok (rangeD a n) S = _
  unfold rangeD
  rw [List.range'_eq_map_range, List.map_map, Int.toNat_sub]
  congr 1
theorem itRng (a n : Int) : (D.lst (rangeD a n)).items S = .ok ((List.range (n - a).toNat).map fun (k : Nat) => .int (a + k)) S := rfl
theorem enumD_map (l : List α) (e : α → D) : enumD (l.map e) = l.zipIdx.map fun p => .tup [.int (p.2 : Nat), e p.1] := by
  unfold enumD
  apply List.ext_getElem?
  intro i
  rw [List.getElem?_zipWith, List.getElem?_map, List.getElem?_map, List.getElem?_zipIdx]
  cases h : l[i]? with
  | none => cases (List.range (l.map e).length)[i]? <;> rfl
  | some a =>
    have := (List.getElem?_eq_some_iff.mp h).1
    rw [List.getElem?_range (by rw [List.length_map]; exact this)]
    simp
theorem itEnum (l : List α) (e : α → D) : (D.lst (enumD (l.map e))).items S = .ok (l.zipIdx.map fun p => .tup [.int (p.2 : Nat), e p.1]) S := by
  rw [enumD_map]; rfl
theorem itZip (l : List α) (m : List β) (e : α → D) (e2 : β → D) : (D.lst (pairsD (l.map e) (m.map e2))).items S = .ok ((l.zip m).map fun p => .tup [e p.1, e2 p.2]) S := by
  show R.ok (pairsD (l.map e) (m.map e2)) S = _
  unfold pairsD
  rw [List.zipWith_map, List.zip, List.map_zipWith]
/-! ### operators -/
theorem oAddS (a b : Sx) (h : a.length + b.length ≤ 16000000) : Op.run .add (.str a) (.str b) S = .ok (.str (a ++ b)) S := by
  show M.bind (M.ask (fits (a ++ b))) _ S = _
  rw [bindS, ask_of (fits_le (by rw [List.length_append]; exact h))]; rfl
theorem oAddT (a b : List D) (h : a.length + b.length ≤ 16000000) : Op.run .add (.tup a) (.tup b) S = .ok (.tup (a ++ b)) S := by
  show M.bind (M.ask (fits (a ++ b))) _ S = _
  rw [bindS, ask_of (fits_le (by rw [List.length_append]; exact h))]; rfl
theorem oAddL (a b : List D) (h : a.length + b.length ≤ 16000000) : Op.run .add (.lst a) (.lst b) S = .ok (.lst (a ++ b)) S := by
  show M.bind (M.ask (fits (a ++ b))) _ S = _
  rw [bindS, ask_of (fits_le (by rw [List.length_append]; exact h))]; rfl
theorem oMul (a b : Int) (h : wideOk a b = true) : Op.run .mul (.int a) (.int b) S = .ok (.int (a * b)) S := by
  show M.bind (M.ask (wideOk a b)) _ S = _
  rw [bindS, ask_of h]; rfl
theorem oMulS (a : Sx) (n : Int) (h : -100000 ≤ n ∧ n ≤ 100000) (h3 : a.length ≤ 100) : Op.run .mul (.str a) (.int n) S = .ok (.str (rep n a)) S := by
  show M.bind (M.ask _) _ S = _
  rw [bindS, ask_of (by simp; omega)]; rfl
theorem oMulC (c : Nat) (n : Int) (h : -100000 ≤ n ∧ n ≤ 100000) : Op.run .mul (.str [c]) (.int n) S = .ok (.str (List.replicate n.toNat c)) S := by
  rw [oMulS [c] n h (by simp)]
  have : rep n [c] = List.replicate n.toNat c := by
    unfold rep
    induction n.toNat with
    | zero => rfl
    | succ k ih => simp [List.replicate_succ, ih]
  rw [this]
theorem oSub (a b : Int) : Op.run .sub (.int a) (.int b) S = .ok (.int (a - b)) S := rfl
theorem oAdd (a b : Int) : Op.run .add (.int a) (.int b) S = .ok (.int (a + b)) S := rfl
theorem oMod (a b : Int) (h : 0 < b) : Op.run .mod (.int a) (.int b) S = .ok (.int (a % b)) S := modI a b h S
theorem oDiv (a b : Int) (h : 0 < b) (h2 : b < 1073741824) : Op.run .fdiv (.int a) (.int b) S = .ok (.int (a / b)) S := divI a b h h2 S
/-! ### comparisons -/
theorem num_eqv : ∀ a b : List Int, eqvs (a.map .int) (b.map .int) = decide (a = b)
  | [], [] => by simp [eqvs]
  | [], _ :: _ => by simp [eqvs]
  | _ :: _, [] => by simp [eqvs]
  | x :: a, y :: b => by
    simp only [List.map_cons, eqvs, D.eqv, num_eqv a b, List.cons.injEq]
    by_cases h : x = y <;> simp [h]
theorem numD_eqv (a b : List Int) : (numD a).eqv (numD b) = decide (a = b) := num_eqv a b
theorem names_eqv : ∀ a b : List Sx, eqvs (a.map .str) (b.map .str) = decide (a = b)
  | [], [] => by simp [eqvs]
  | [], _ :: _ => by simp [eqvs]
  | _ :: _, [] => by simp [eqvs]
  | x :: a, y :: b => by
    simp only [List.map_cons, eqvs, D.eqv, names_eqv a b, List.cons.injEq]
    by_cases h : x = y <;> simp [h]
theorem box_eqv (a b : Sx × List Int) : (boxD a).eqv (boxD b) = decide (a = b) := by
  simp only [D.eqv, eqvs, numD_eqv, Bool.and_true, Prod.ext_iff]
  by_cases h : a.1 = b.1 <;> by_cases h2 : a.2 = b.2 <;> simp [h, h2]
theorem call_eqv (a b : Sx × Int) : (callD a).eqv (callD b) = decide (a = b) := by
  simp only [D.eqv, eqvs, Bool.and_true, Prod.ext_iff]
  by_cases h : a.1 = b.1 <;> by_cases h2 : a.2 = b.2 <;> simp [h, h2]
theorem map_eqv [DecidableEq α] (e : α → D) (h : ∀ a b, (e a).eqv (e b) = decide (a = b)) : ∀ a b : List α, eqvs (a.map e) (b.map e) = decide (a = b)
  | [], [] => by simp [eqvs]
  | [], _ :: _ => by simp [eqvs]
  | _ :: _, [] => by simp [eqvs]
  | x :: a, y :: b => by
    simp only [List.map_cons, eqvs, h, map_eqv e h a b, List.cons.injEq]
    by_cases h : x = y <;> simp [h]
theorem lot_eqv (a b : Lot) : (lotD a).eqv (lotD b) = decide (a = b) := map_eqv boxD box_eqv a b
theorem calls_eqv (a b : Calls) : (callsD a).eqv (callsD b) = decide (a = b) := map_eqv callD call_eqv a b
theorem plain_map (e : α → D) (n : Nat) (h : ∀ a, (e a).okN n = true) (l : List α) : (l.map e).all (D.okN n) = true := by
  rw [List.all_map]; exact List.all_eq_true.mpr fun _ _ => h _
theorem okNum (a : List Int) (n : Nat) : (numD a).okN (n + 1) = true := by
  unfold numD D.okN
  exact plain_map _ n (fun _ => by cases n <;> rfl) a
theorem okNames (a : List Sx) (n : Nat) : (namesD a).okN (n + 1) = true := by
  unfold namesD D.okN
  exact plain_map _ n (fun _ => by cases n <;> rfl) a
theorem okBox (a : Sx × List Int) (n : Nat) : (boxD a).okN (n + 2) = true := by
  unfold boxD D.okN
  simp only [List.all_cons, List.all_nil, okNum, Bool.and_true]
  rfl
theorem okCall (a : Sx × Int) (n : Nat) : (callD a).okN (n + 2) = true := by
  unfold callD D.okN
  simp only [List.all_cons, List.all_nil, Bool.and_true]
  rfl
theorem okLot (a : Lot) (n : Nat) : (lotD a).okN (n + 3) = true := by
  unfold lotD D.okN
  exact plain_map boxD (n + 2) (fun b => okBox b n) a
theorem okCalls (a : Calls) (n : Nat) : (callsD a).okN (n + 3) = true := by
  unfold callsD D.okN
  exact plain_map callD (n + 2) (fun b => okCall b n) a
theorem okCallsT (a : List Calls) (n : Nat) : (D.tup (a.map callsD)).okN (n + 4) = true := by
  rw [D.okN]
  exact plain_map callsD (n + 3) (fun b => okCalls b n) a
theorem okCallsL (a : List Calls) (n : Nat) : (D.lst (a.map callsD)).okN (n + 4) = true := by
  rw [D.okN]
  exact plain_map callsD (n + 3) (fun b => okCalls b n) a
theorem pLot (a : Lot) : (lotD a).plain = true := okLot a 27
theorem pCalls (a : Calls) : (callsD a).plain = true := okCalls a 27
theorem pNum (a : List Int) : (numD a).plain = true := okNum a 29
theorem pNames (a : List Sx) : (namesD a).plain = true := okNames a 29
theorem pCallsT (a : List Calls) : (D.tup (a.map callsD)).plain = true := okCallsT a 26
theorem pCallsL (a : List Calls) : (D.lst (a.map callsD)).plain = true := okCallsL a 26
theorem pStrL (a : List Sx) : (D.lst (a.map .str)).plain = true := by
  unfold D.plain
  rw [D.okN]
  exact plain_map _ 29 (fun _ => rfl) a
theorem pIntL (a : List Int) : (D.lst (a.map .int)).plain = true := by
  unfold D.plain
  rw [D.okN]
  exact plain_map _ 29 (fun _ => rfl) a
theorem pNumL (a : List (List Int)) : (D.lst (a.map numD)).plain = true := by
  unfold D.plain
  rw [D.okN]
  exact plain_map _ 29 (fun x => okNum x 28) a
theorem pNumT (a : List (List Int)) : (D.tup (a.map numD)).plain = true := by
  unfold D.plain
  rw [D.okN]
  exact plain_map _ 29 (fun x => okNum x 28) a
theorem pNamesL (a : List (List Sx)) : (D.lst (a.map namesD)).plain = true := by
  unfold D.plain
  rw [D.okN]
  exact plain_map _ 29 (fun x => okNames x 28) a
theorem cEq {x y : D} {b : Bool} (h1 : x.plain = true) (h2 : y.plain = true) (h : x.eqv y = b) : Cm.run .eq x y S = .ok b S := by rw [cmpEq x y h1 h2, h]
theorem cNe {x y : D} {b : Bool} (h1 : x.plain = true) (h2 : y.plain = true) (h : x.eqv y = b) : Cm.run .ne x y S = .ok (!b) S := by rw [cmpNe x y h1 h2, h]
theorem cIsNon {x : D} : Cm.run .is_ x .non S = .ok x.isNon S := by cases x <;> rfl
theorem cIsntNon {x : D} : Cm.run .isnt x .non S = .ok (!x.isNon) S := by cases x <;> rfl
theorem cIsB {a b : Bool} : Cm.run .is_ (.bl a) (.bl b) S = .ok (a == b) S := rfl
theorem cIsntB {a b : Bool} : Cm.run .isnt (.bl a) (.bl b) S = .ok (a != b) S := rfl
/-- x in a list of things of one kind -/
theorem in_any [BEq α] [LawfulBEq α] [DecidableEq α] {e : α → D} (h : ∀ a b, (e a).eqv (e b) = decide (a = b)) (l : List α) (x : α) : ((l.map e).any fun y => y.eqv (e x)) = decide (x ∈ l) := by
  induction l with
  | nil => simp
  | cons a l ih =>
    simp only [List.map_cons, List.any_cons, h, ih, List.mem_cons]
    by_cases e1 : a = x
    · simp [e1]
    · have : ¬ x = a := fun z => e1 z.symm
      simp [e1, this]
theorem cInT [BEq α] [LawfulBEq α] [DecidableEq α] {e : α → D} {l : List α} {x : α} (h : ∀ a b, (e a).eqv (e b) = decide (a = b)) (n : Nat) (hp : ∀ a, (e a).okN 30 = true) : Cm.run .isin (e x) (.tup (l.map e)) S = .ok (decide (x ∈ l)) S := by
  show M.bind (M.ask ((e x).plain && plains (l.map e))) _ S = _
  rw [bindS, ask_of (by rw [Bool.and_eq_true]; exact ⟨hp x, plain_map e 30 hp l⟩), in_any h]; rfl
theorem cInL [BEq α] [LawfulBEq α] [DecidableEq α] {e : α → D} {l : List α} {x : α} (h : ∀ a b, (e a).eqv (e b) = decide (a = b)) (hp : ∀ a, (e a).okN 30 = true) : Cm.run .isin (e x) (.lst (l.map e)) S = .ok (decide (x ∈ l)) S := by
  show M.bind (M.ask ((e x).plain && plains (l.map e))) _ S = _
  rw [bindS, ask_of (by rw [Bool.and_eq_true]; exact ⟨hp x, plain_map e 30 hp l⟩), in_any h]; rfl
theorem cNin {x y : D} {b : Bool} (h : Cm.run .isin x y S = .ok b S) : Cm.run .notin x y S = .ok (!b) S := by
  show M.bind (isIn x y) _ S = _
  rw [bindS, show isIn x y S = .ok b S from h]; rfl
theorem str_eqvS (a b : Sx) : (D.str a).eqv (.str b) = decide (a = b) := by
  by_cases h : a = b <;> simp [D.eqv, h]
theorem cInCallsT (l : List Calls) (x : Calls) : Cm.run .isin (callsD x) (.tup (l.map callsD)) S = .ok (decide (x ∈ l)) S := cInT calls_eqv 0 fun a => okCalls a 27
theorem cInNames (l : List Sx) (x : Sx) : Cm.run .isin (.str x) (namesD l) S = .ok (decide (x ∈ l)) S := cInT (e := .str) str_eqvS 0 fun a => rfl
theorem cInStrL (l : List Sx) (x : Sx) : Cm.run .isin (.str x) (.lst (l.map .str)) S = .ok (decide (x ∈ l)) S := cInL (e := .str) str_eqvS fun a => rfl
theorem cInNumL (l : List (List Int)) (x : List Int) : Cm.run .isin (numD x) (.lst (l.map numD)) S = .ok (decide (x ∈ l)) S := cInL numD_eqv fun a => okNum a 29
theorem cInNumT (l : List (List Int)) (x : List Int) : Cm.run .isin (numD x) (.tup (l.map numD)) S = .ok (decide (x ∈ l)) S := cInT numD_eqv 0 fun a => okNum a 29
theorem cInSign (l : Sx) (c : Nat) : Cm.run .isin (.str [c]) (.str l) S = .ok (l.elem c) S := rfl
/-! ### items, slices -/
theorem gLst (l : List D) (i : Nat) {d : D} (h : l[i]? = some d) : D.item (.lst l) (.int i) S = .ok d S := by
  show M.of (getAt l i) S = _
  rw [getAt_nat, h]; rfl
theorem gTup (l : List D) (i : Nat) {d : D} (h : l[i]? = some d) : D.item (.tup l) (.int i) S = .ok d S := by
  show M.of (getAt l i) S = _
  rw [getAt_nat, h]; rfl
theorem gBit (b : Bool) : D.item (.lst [.str [48], .str [49]]) (.int (b2i b)) S = .ok (.str [if b then 49 else 48]) S := by cases b <;> rfl
theorem gStr {s : Sx} {i c : Nat} (hl : s.length ≤ 16000000) (h : s[i]? = some c) : D.item (.str s) (.int i) S = .ok (.str [c]) S := by
  show M.bind (M.ask (fits s)) _ S = _
  rw [bindS, ask_of (fits_le hl)]
  show M.of ((getAt s i).map fun c => D.str [c]) S = _
  rw [getAt_nat, h]; rfl
theorem gStr0 {s : Sx} {i c : Nat} (hl : s.length ≤ 16000000) (h : s[i]? = some c) : D.item (.str s) (.int i) S = .ok (.str [c]) S := by
  show M.bind (M.ask (fits s)) _ S = _
  rw [bindS, ask_of (fits_le hl)]
  show M.of ((getAt s i).map fun c => D.str [c]) S = _
  rw [getAt_nat, h]; rfl
theorem gTup0 (l : List D) (d : D) : D.item (.tup (d :: l)) (.int 0) S = .ok d S := gTup (d :: l) 0 rfl
theorem gTup1 (l : List D) (d e : D) : D.item (.tup (d :: e :: l)) (.int 1) S = .ok e S := gTup (d :: e :: l) 1 rfl
theorem gTup2 (l : List D) (d e f : D) : D.item (.tup (d :: e :: f :: l)) (.int 2) S = .ok f S := gTup (d :: e :: f :: l) 2 rfl
theorem gLst0 (l : List D) (d : D) : D.item (.lst (d :: l)) (.int 0) S = .ok d S := gLst (d :: l) 0 rfl
theorem gLst1 (l : List D) (d e : D) : D.item (.lst (d :: e :: l)) (.int 1) S = .ok e S := gLst (d :: e :: l) 1 rfl
theorem gMapT {l : List α} {e : α → D} {i : Nat} {x : α} (h : l[i]? = some x) : D.item (.tup (l.map e)) (.int i) S = .ok (e x) S := gTup _ i (by rw [List.getElem?_map, h]; rfl)
theorem gMapL {l : List α} {e : α → D} {i : Nat} {x : α} (h : l[i]? = some x) : D.item (.lst (l.map e)) (.int i) S = .ok (e x) S := gLst _ i (by rw [List.getElem?_map, h]; rfl)
theorem gLot {l : Lot} {i : Nat} {b : Sx × List Int} (h : l[i]? = some b) : D.item (lotD l) (.int i) S = .ok (boxD b) S := gMapT (e := boxD) h
theorem gCalls {l : Calls} {i : Nat} {b : Sx × Int} (h : l[i]? = some b) : D.item (callsD l) (.int i) S = .ok (callD b) S := gMapT (e := callD) h
theorem gNum {l : List Int} {i : Nat} {b : Int} (h : l[i]? = some b) : D.item (numD l) (.int i) S = .ok (.int b) S := gMapT (e := .int) h
theorem gLot0 {l : Lot} {b : Sx × List Int} (h : l[0]? = some b) : D.item (lotD l) (.int 0) S = .ok (boxD b) S := gLot (i := 0) h
theorem gCalls0 {l : Calls} {b : Sx × Int} (h : l[0]? = some b) : D.item (callsD l) (.int 0) S = .ok (callD b) S := gCalls (i := 0) h
theorem oAddCalls1 (n : Sx) (b : Int) (c : Calls) (h : c.length ≤ 1000000) : Op.run .add (.tup [.tup [.str n, .int b]]) (callsD c) S = .ok (callsD ((n, b) :: c)) S := oAddT _ _ (by rw [List.length_map]; simp; omega)
theorem oAddCalls (c d : Calls) (h : c.length + d.length ≤ 1000000) : Op.run .add (callsD c) (callsD d) S = .ok (callsD (c ++ d)) S := by
  unfold callsD
  rw [oAddT _ _ (by simp; omega), List.map_append]
theorem oAddNum1 (c : List Int) (b : Int) (h : c.length ≤ 1000000) : Op.run .add (numD c) (.tup [.int b]) S = .ok (numD (c ++ [b])) S := by
  unfold numD
  rw [oAddT _ _ (by simp; omega), List.map_append]; rfl
theorem gStrN {s : Sx} (i : Nat) (hl : s.length ≤ 16000000) (h : i < s.length) : D.item (.str s) (.int i) S = .ok (.str [s.getD i 0]) S := gStr0 hl (by rw [List.getD_eq_getElem?_getD, List.getElem?_eq_getElem h]; rfl)
theorem gStrI {s : Sx} (i : Int) (hl : s.length ≤ 16000000) (h0 : 0 ≤ i) (h : i < s.length) : D.item (.str s) (.int i) S = .ok (.str [s.getD i.toNat 0]) S := by
  have e : i = (i.toNat : Int) := by omega
  rw [show D.item (.str s) (.int i) = D.item (.str s) (.int (i.toNat : Int)) by rw [← e]]
  exact gStrN _ hl (by omega)
theorem gLotN {l : Lot} (i : Nat) (h : i < l.length) : D.item (lotD l) (.int i) S = .ok (boxD (l.getD i ([], []))) S := gLot (by rw [List.getD_eq_getElem?_getD, List.getElem?_eq_getElem h]; rfl)
theorem gCallsN {l : Calls} (i : Nat) (h : i < l.length) : D.item (callsD l) (.int i) S = .ok (callD (l.getD i ([], 0))) S := gCalls (by rw [List.getD_eq_getElem?_getD, List.getElem?_eq_getElem h]; rfl)
theorem gNumN {l : List Int} (i : Nat) (h : i < l.length) : D.item (numD l) (.int i) S = .ok (.int (l.getD i 0)) S := gNum (by rw [List.getD_eq_getElem?_getD, List.getElem?_eq_getElem h]; rfl)
theorem sTo {l : List D} {i : Int} (h : 0 ≤ i) : D.slice (.tup l) .non (.int i) S = .ok (.tup (l.take i.toNat)) S := slice_to h
theorem slAt_nat (n i : Nat) (d : Nat) : slAt n d (.int i) = some (min i n) := by
  unfold slAt
  have : ¬ ((i : Int) < 0) := by omega
  simp [this]
theorem cut_nat {l : List α} {i j : Nat} : cut l (.int i) (.int j) = some ((l.drop i).take (j - i)) := by
  show ((slAt l.length 0 (.int i)).bind fun a => (slAt l.length l.length (.int j)).bind fun b => some ((l.drop a).take (b - a))) = _
  rw [slAt_nat, slAt_nat]
  show some ((l.drop (min i l.length)).take (min j l.length - min i l.length)) = _
  congr 1
  by_cases hi : i ≤ l.length
  · rw [Nat.min_eq_left hi]
    by_cases hj : j ≤ l.length
    · rw [Nat.min_eq_left hj]
    · rw [Nat.min_eq_right (by omega), List.take_of_length_le (by simp), List.take_of_length_le (by simp; omega)]
  · rw [List.drop_eq_nil_of_le (by omega : l.length ≤ min i l.length), List.drop_eq_nil_of_le (by omega)]; simp
theorem cut_from {l : List α} {i : Nat} : cut l (.int i) .non = some (l.drop i) := by
  show ((slAt l.length 0 (.int i)).bind fun a => (slAt l.length l.length .non).bind fun b => some ((l.drop a).take (b - a))) = _
  rw [slAt_nat]
  show some ((l.drop (min i l.length)).take (l.length - min i l.length)) = _
  congr 1
  by_cases hi : i ≤ l.length
  · rw [Nat.min_eq_left hi, List.take_of_length_le (by simp)]
  · rw [List.drop_eq_nil_of_le (by omega : l.length ≤ min i l.length), List.drop_eq_nil_of_le (by omega)]; simp
theorem cut_to {l : List α} {j : Nat} : cut l .non (.int j) = some (l.take j) := by
  have := cut_nat (l := l) (i := 0) (j := j)
  simpa [cut, slAt] using this
theorem sTupN (l : List D) (i j : Nat) : D.slice (.tup l) (.int i) (.int j) S = .ok (.tup ((l.drop i).take (j - i))) S := by
  show M.of ((cut l (.int i) (.int j)).map D.tup) S = _
  rw [cut_nat]; rfl
theorem sTupFrom (l : List D) (i : Nat) : D.slice (.tup l) (.int i) .non S = .ok (.tup (l.drop i)) S := by
  show M.of ((cut l (.int i) .non).map D.tup) S = _
  rw [cut_from]; rfl
theorem sTupTo (l : List D) (j : Nat) : D.slice (.tup l) .non (.int j) S = .ok (.tup (l.take j)) S := by
  show M.of ((cut l .non (.int j)).map D.tup) S = _
  rw [cut_to]; rfl
theorem sLstN (l : List D) (i j : Nat) : D.slice (.lst l) (.int i) (.int j) S = .ok (.lst ((l.drop i).take (j - i))) S := by
  show M.of ((cut l (.int i) (.int j)).map D.lst) S = _
  rw [cut_nat]; rfl
theorem sLstFrom (l : List D) (i : Nat) : D.slice (.lst l) (.int i) .non S = .ok (.lst (l.drop i)) S := by
  show M.of ((cut l (.int i) .non).map D.lst) S = _
  rw [cut_from]; rfl
theorem sLstTo (l : List D) (j : Nat) : D.slice (.lst l) .non (.int j) S = .ok (.lst (l.take j)) S := by
  show M.of ((cut l .non (.int j)).map D.lst) S = _
  rw [cut_to]; rfl
theorem sLstFrom1 (l : List D) (i : Nat) : D.slice (.lst l) (.int ((i : Int) + 1)) .non S = .ok (.lst (l.drop (i + 1))) S := sLstFrom l (i + 1)
theorem sTupFrom1 (l : List D) (i : Nat) : D.slice (.tup l) (.int ((i : Int) + 1)) .non S = .ok (.tup (l.drop (i + 1))) S := sTupFrom l (i + 1)
theorem sCallsTo (l : Calls) (j : Nat) : D.slice (callsD l) .non (.int j) S = .ok (callsD (l.take j)) S := by
  unfold callsD
  rw [sTupTo, List.map_take]
theorem sCallsFrom (l : Calls) (j : Nat) : D.slice (callsD l) (.int j) .non S = .ok (callsD (l.drop j)) S := by
  unfold callsD
  rw [sTupFrom, List.map_drop]
theorem sLotTo (l : Lot) (j : Nat) : D.slice (lotD l) .non (.int j) S = .ok (lotD (l.take j)) S := by
  unfold lotD
  rw [sTupTo, List.map_take]
theorem sLotFrom (l : Lot) (j : Nat) : D.slice (lotD l) (.int j) .non S = .ok (lotD (l.drop j)) S := by
  unfold lotD
  rw [sTupFrom, List.map_drop]
theorem sStrN {l : Sx} (i j : Nat) (h : l.length ≤ 16000000) : D.slice (.str l) (.int i) (.int j) S = .ok (.str ((l.drop i).take (j - i))) S := by
  show M.bind (M.ask (fits l)) _ S = _
  rw [bindS, ask_of (fits_le h)]
  show M.of ((cut l (.int i) (.int j)).map D.str) S = _
  rw [cut_nat]; rfl
theorem sStrFrom {l : Sx} (i : Nat) (h : l.length ≤ 16000000) : D.slice (.str l) (.int i) .non S = .ok (.str (l.drop i)) S := by
  show M.bind (M.ask (fits l)) _ S = _
  rw [bindS, ask_of (fits_le h)]
  show M.of ((cut l (.int i) .non).map D.str) S = _
  rw [cut_from]; rfl
theorem sStrFrom1 {l : Sx} (i : Nat) (h : l.length ≤ 16000000) : D.slice (.str l) (.int ((i : Int) + 1)) .non S = .ok (.str (l.drop (i + 1))) S := sStrFrom (i + 1) h
theorem sStrN1 {l : Sx} (i : Nat) (h : l.length ≤ 16000000) : D.slice (.str l) (.int (i : Int)) (.int ((i : Int) + 1)) S = .ok (.str ((l.drop i).take 1)) S := by
  have := sStrN (S := S) (l := l) i (i + 1) h
  rw [show i + 1 - i = 1 by omega] at this
  exact this
theorem sCallsFrom1 (l : Calls) (j : Nat) : D.slice (callsD l) (.int ((j : Int) + 1)) .non S = .ok (callsD (l.drop (j + 1))) S := sCallsFrom l (j + 1)
theorem sLotFrom1 (l : Lot) (j : Nat) : D.slice (lotD l) (.int ((j : Int) + 1)) .non S = .ok (lotD (l.drop (j + 1))) S := sLotFrom l (j + 1)
theorem sStrTo {l : Sx} (j : Nat) (h : l.length ≤ 16000000) : D.slice (.str l) .non (.int j) S = .ok (.str (l.take j)) S := by
  show M.bind (M.ask (fits l)) _ S = _
  rw [bindS, ask_of (fits_le h)]
  show M.of ((cut l .non (.int j)).map D.str) S = _
  rw [cut_to]; rfl
/-! ### built-in functions -/
theorem bLenL (l : List D) : Bi.run1 .len (.lst l) S = .ok (.int l.length) S := rfl
theorem bLenT (l : List D) : Bi.run1 .len (.tup l) S = .ok (.int l.length) S := rfl
theorem bLenS {l : Sx} (h : l.length ≤ 16000000) : Bi.run1 .len (.str l) S = .ok (.int l.length) S := by
  show M.bind (M.ask (fits l)) _ S = _
  rw [bindS, ask_of (fits_le h)]; rfl
theorem bLenLM (l : List α) (e : α → D) : Bi.run1 .len (.lst (l.map e)) S = .ok (.int l.length) S := by
  show R.ok (D.int (l.map e).length) S = _
  rw [List.length_map]
theorem bLenTM (l : List α) (e : α → D) : Bi.run1 .len (.tup (l.map e)) S = .ok (.int l.length) S := by
  show R.ok (D.int (l.map e).length) S = _
  rw [List.length_map]
theorem bLenLot (l : Lot) : Bi.run1 .len (lotD l) S = .ok (.int l.length) S := bLenTM l boxD
theorem bLenCalls (l : Calls) : Bi.run1 .len (callsD l) S = .ok (.int l.length) S := bLenTM l callD
theorem bLenNum (l : List Int) : Bi.run1 .len (numD l) S = .ok (.int l.length) S := bLenTM l .int
theorem bLenNames (l : List Sx) : Bi.run1 .len (namesD l) S = .ok (.int l.length) S := bLenTM l .str
theorem ltC (a b : Nat) : (([a] : Sx) == [b]) = (a == b) := by simp
theorem bTupL (l : List D) : Bi.run1 .tuple (.lst l) S = .ok (.tup l) S := rfl
theorem bTupNum (l : List α) (e : α → Int) : Bi.run1 .tuple (.lst (l.map fun a => .int (e a))) S = .ok (numD (l.map e)) S := by
  show R.ok (D.tup (l.map fun a => .int (e a))) S = _
  unfold numD
  rw [List.map_map]; rfl
theorem bTupNames (l : List α) (e : α → Sx) : Bi.run1 .tuple (.lst (l.map fun a => .str (e a))) S = .ok (namesD (l.map e)) S := by
  show R.ok (D.tup (l.map fun a => .str (e a))) S = _
  unfold namesD
  rw [List.map_map]; rfl
theorem bTupLot (l : List α) (e : α → Sx) (e2 : α → List Int) : Bi.run1 .tuple (.lst (l.map fun a => .tup [.str (e a), numD (e2 a)])) S = .ok (lotD (l.map fun a => (e a, e2 a))) S := by
  show R.ok (D.tup (l.map fun a => .tup [.str (e a), numD (e2 a)])) S = _
  unfold lotD
  rw [List.map_map]; rfl
theorem bTupCalls (l : List α) (e : α → Sx) (e2 : α → Int) : Bi.run1 .tuple (.lst (l.map fun a => .tup [.str (e a), .int (e2 a)])) S = .ok (callsD (l.map fun a => (e a, e2 a))) S := by
  show R.ok (D.tup (l.map fun a => .tup [.str (e a), .int (e2 a)])) S = _
  unfold callsD
  rw [List.map_map]; rfl
theorem bListT (l : List D) : Bi.run1 .list (.tup l) S = .ok (.lst l) S := rfl
theorem bListL (l : List D) : Bi.run1 .list (.lst l) S = .ok (.lst l) S := rfl
theorem bIntB (b : Bool) : Bi.run1 .int (.bl b) S = .ok (.int (b2i b)) S := rfl
theorem bIntI (b : Int) : Bi.run1 .int (.int b) S = .ok (.int b) S := rfl
theorem bIntC (c : Nat) (h : 48 ≤ c ∧ c ≤ 57) : Bi.run1 .int (.str [c]) S = .ok (.int ((c - 48 : Nat) : Int)) S := by
  have e : readNat [c] = some (c - 48) := by simp [readNat, allSome, digit?, h]
  show M.bind (M.ask (decide (([c] : Sx).length ≤ 9))) (fun _ => M.bind (M.of (readNat [c])) fun n => M.ret (D.int (n : Nat))) S = _
  rw [e]; rfl
theorem bAbs (i : Int) : Bi.run1 .abs (.int i) S = .ok (.int (if i < 0 then -i else i)) S := rfl
theorem intsOf_map (f : α → Int) : ∀ l : List α, allSome intOf (l.map fun a => D.int (f a)) = some (l.map f)
  | [] => rfl
  | x :: l => by simp [allSome, intOf, intsOf_map f l]
theorem blsOf_map (f : α → Bool) : ∀ l : List α, allSome blOf (l.map fun a => D.bl (f a)) = some (l.map f)
  | [] => rfl
  | x :: l => by simp [allSome, blOf, blsOf_map f l]
theorem bSum (l : List α) (f : α → Int) : Bi.run1 .sum (.lst (l.map fun a => .int (f a))) S = .ok (.int (l.map f).sum) S := by
  show M.bind (M.of (allSome intOf (l.map fun a => D.int (f a)))) _ S = _
  rw [intsOf_map]; rfl
theorem bSumNum (l : List Int) : Bi.run1 .sum (numD l) S = .ok (.int l.sum) S := by
  show M.bind (M.of (allSome intOf (l.map D.int))) _ S = _
  rw [intsOf_map (fun a => a) l, List.map_id']; rfl
theorem bAll (l : List α) (f : α → Bool) : Bi.run1 .all (.lst (l.map fun a => .bl (f a))) S = .ok (.bl (l.all f)) S := by
  show M.bind (M.of (allSome blOf (l.map fun a => D.bl (f a)))) _ S = _
  rw [blsOf_map]
  show R.ok (D.bl ((l.map f).all id)) S = _
  rw [List.all_map]; rfl
theorem bAny (l : List α) (f : α → Bool) : Bi.run1 .any (.lst (l.map fun a => .bl (f a))) S = .ok (.bl (l.any f)) S := by
  show M.bind (M.of (allSome blOf (l.map fun a => D.bl (f a)))) _ S = _
  rw [blsOf_map]
  show R.ok (D.bl ((l.map f).any id)) S = _
  rw [List.any_map]; rfl
def maxL : List Int → Int
  | [] => 0
  | x :: l => maxI x l
def minL : List Int → Int
  | [] => 0
  | x :: l => minI x l
theorem bMaxL (l : List Int) (h : l ≠ []) : Bi.run1 .max (.lst (l.map .int)) S = .ok (.int (maxL l)) S := by
  cases l with
  | nil => exact absurd rfl h
  | cons x r => exact maxS x r S
theorem bMinL (l : List Int) (h : l ≠ []) : Bi.run1 .min (.lst (l.map .int)) S = .ok (.int (minL l)) S := by
  cases l with
  | nil => exact absurd rfl h
  | cons x r => exact minS x r S
theorem bMaxA (l : List α) (f : α → Int) (c : Int) : Bi.run1 .max (.lst ((l.map fun a => .int (f a)) ++ [.int c])) S = .ok (.int (maxL (l.map f ++ [c]))) S := by
  have := bMaxL (S := S) (l.map f ++ [c]) (by simp)
  rw [List.map_append, List.map_map] at this
  exact this
theorem bMinA (l : List α) (f : α → Int) (c : Int) : Bi.run1 .min (.lst ((l.map fun a => .int (f a)) ++ [.int c])) S = .ok (.int (minL (l.map f ++ [c]))) S := by
  have := bMinL (S := S) (l.map f ++ [c]) (by simp)
  rw [List.map_append, List.map_map] at this
  exact this
theorem bMaxB (l : List α) (f : α → Int) (c : Int) : Bi.run1 .max (.lst ([.int c] ++ (l.map fun a => .int (f a)))) S = .ok (.int (maxL (c :: l.map f))) S := by
  have := bMaxL (S := S) (c :: l.map f) (by simp)
  rw [List.map_cons, List.map_map] at this
  exact this
theorem bMinF (l : List α) (f : α → Int) (h : l ≠ []) : Bi.run1 .min (.lst (l.map fun a => .int (f a))) S = .ok (.int (minL (l.map f))) S := by
  have := bMinL (S := S) (l.map f) (by simpa using h)
  rw [List.map_map] at this
  exact this
theorem bMaxF (l : List α) (f : α → Int) (h : l ≠ []) : Bi.run1 .max (.lst (l.map fun a => .int (f a))) S = .ok (.int (maxL (l.map f))) S := by
  have := bMaxL (S := S) (l.map f) (by simpa using h)
  rw [List.map_map] at this
  exact this
theorem bMax2N (a b : Nat) : Bi.run2 .max2 (.int (a : Int)) (.int (b : Int)) S = .ok (.int ((max a b : Nat) : Int)) S := by
  show R.ok (D.int (if (b : Int) > a then (b : Int) else a)) S = _
  have : (if (b : Int) > a then (b : Int) else a) = ((max a b : Nat) : Int) := by split <;> omega
  rw [this]
theorem bMax2 (a b : Int) : Bi.run2 .max2 (.int a) (.int b) S = .ok (.int (if b > a then b else a)) S := rfl
/-- one text of many -/
theorem mJoin (s : Sx) (l : List α) (f : α → Sx) (h : ((l.map fun a => (f a).length).sum + l.length * s.length) ≤ 16000000) : Me.run1 .join (.str s) (.lst (l.map fun a => .str (f a))) S = .ok (.str (joinS s (l.map f))) S := by
  show M.bind (M.of (allSome strOf (l.map fun a => D.str (f a)))) _ S = _
  rw [strsOf_map]
  show M.bind (M.ask (decide (((l.map f).map (·.length)).sum + (l.map f).length * s.length ≤ maxLen))) _ S = _
  rw [bindS, ask_of (by rw [decide_eq_true_eq, List.map_map, List.length_map]; exact h)]; rfl
theorem mJoinC (l : List α) (f : α → Nat) (h : l.length ≤ 16000000) : Me.run1 .join (.str []) (.lst (l.map fun a => .str [f a])) S = .ok (.str (l.map f)) S := by
  rw [mJoin [] l (fun a => [f a]) (by
    have : (l.map fun a => ([f a] : Sx).length).sum = l.length := by
      induction l with
      | nil => rfl
      | cons a l ih => have := ih (by simp at h; omega); simp at this ⊢; omega
    rw [this]; simp; omega)]
  have := joinS_one (l.map f)
  rw [List.map_map] at this
  exact congrArg (fun z => R.ok (D.str z) S) this
theorem mIndex {l : List α} {f : α → Int} {x : Int} {i : Nat} (h : (l.map f).findIdx? (fun y => y == x) = some i) : Me.run1 .index (.lst (l.map fun a => .int (f a))) (.int x) S = .ok (.int i) S := by
  show M.bind (M.of (allSome intOf (l.map fun a => D.int (f a)))) _ S = _
  rw [intsOf_map]
  show M.bind (M.of ((l.map f).findIdx? fun y => y == x)) _ S = _
  rw [h]; rfl
theorem mCount (s : Sx) (c : Nat) : Me.run1 .count (.str s) (.str [c]) S = .ok (.int (s.count c)) S := rfl
theorem mRstrip {s : Sx} (c : Nat) (h : s.length ≤ 16000000) : Me.run1 .rstrip (.str s) (.str [c]) S = .ok (.str (rstripC c s)) S := by
  show M.bind (M.ask (fits s)) _ S = _
  rw [bindS, ask_of (fits_le h)]; rfl
theorem mSplit {s : Sx} (c : Nat) (h : s.length ≤ 16000000) : Me.run1 .split (.str s) (.str [c]) S = .ok (.lst ((splitC c s).map .str)) S := by
  show M.bind (M.ask (fits s)) _ S = _
  rw [bindS, ask_of (fits_le h)]; rfl
theorem mEndsw (s t : Sx) : Me.run1 .endswith (.str s) (.str t) S = .ok (.bl (t.isSuffixOf s)) S := rfl
theorem mReplace {s : Sx} (a b : Nat) (h : s.length ≤ 16000000) : Me.run2 .replace (.str s) (.str [a]) (.str [b]) S = .ok (.str (s.map fun c => if c = a then b else c)) S := by
  show M.bind (M.ask (fits s)) _ S = _
  rw [bindS, ask_of (fits_le h)]; rfl
end
end TD
end
section
set_option Elab.async false
set_option linter.all false
set_option maxRecDepth 100000
/-! Orders: what sorted gives, told of known kinds of things. -/
namespace TD
/-- a strict total order, told by a Bool -/
structure STO {α : Type} (lt : α → α → Bool) : Prop where
  irr : ∀ a, lt a a = false
  tr : ∀ a b c, lt a b = true → lt b c = true → lt a c = true
  tri : ∀ a b, lt a b = true ∨ a = b ∨ lt b a = true
section
variable {α β : Type} {lt : α → α → Bool}
theorem STO.asym (h : STO lt) {a b : α} (q : lt a b = true) : lt b a = false := by
  cases e : lt b a with
  | false => rfl
  | true => have := h.tr _ _ _ q e; rw [h.irr] at this; cases this
theorem STO.le_trans (h : STO lt) (a b c : α) (q : (!lt b a) = true) (r : (!lt c b) = true) : (!lt c a) = true := by
  simp only [Bool.not_eq_true'] at *
  cases e : lt c a with
  | false => rfl
  | true =>
    rcases h.tri a b with z | z | z
    · have := h.tr _ _ _ e z; rw [r] at this; cases this
    · subst z; rw [e] at r; cases r
    · rw [q] at z; cases z
theorem STO.le_total (h : STO lt) (a b : α) : ((!lt b a) || (!lt a b)) = true := by
  cases e : lt b a with
  | false => rfl
  | true => rw [h.asym e]; rfl
theorem STO.le_anti (h : STO lt) {a b : α} (q : (!lt b a) = true) (r : (!lt a b) = true) : a = b := by
  simp only [Bool.not_eq_true'] at *
  rcases h.tri a b with z | z | z
  · rw [r] at z; cases z
  · exact z
  · rw [q] at z; cases z
/-- in order -/
def sortB (lt : α → α → Bool) (l : List α) : List α := l.mergeSort fun a b => !lt b a
theorem sortB_perm (l : List α) : (sortB lt l).Perm l := List.mergeSort_perm _ _
theorem sortB_pw (h : STO lt) (l : List α) : (sortB lt l).Pairwise fun a b => (!lt b a) = true := List.pairwise_mergeSort (fun a b c => h.le_trans a b c) (fun a b => h.le_total a b) l
theorem sortB_mem {l : List α} {a : α} : a ∈ sortB lt l ↔ a ∈ l := (sortB_perm l).mem_iff
theorem sortB_uniq (h : STO lt) {l m : List α} (p : l.Perm m) (s : l.Pairwise fun a b => (!lt b a) = true) (t : m.Pairwise fun a b => (!lt b a) = true) : l = m :=
  List.Perm.eq_of_pairwise (le := fun a b => (!lt b a) = true) (fun a b _ _ q r => h.le_anti q r) s t p
theorem sortB_eq (h : STO lt) {l m : List α} (p : l.Perm m) : sortB lt l = sortB lt m := sortB_uniq h ((sortB_perm l).trans (p.trans (sortB_perm m).symm)) (sortB_pw h l) (sortB_pw h m)
theorem sortB_id (h : STO lt) {l : List α} (s : l.Pairwise fun a b => lt a b = true) : sortB lt l = l :=
  sortB_uniq h (sortB_perm l) (sortB_pw h l) (s.imp fun q => by rw [h.asym q]; rfl)
theorem sortB_lt (h : STO lt) {l : List α} (n : l.Nodup) : (sortB lt l).Pairwise fun a b => lt a b = true := by
  have n' := (sortB_perm (lt := lt) l).nodup_iff.mpr n
  refine (List.Pairwise.and (sortB_pw h l) n').imp fun {a b} q => ?_
  rcases h.tri a b with z | z | z
  · exact z
  · exact absurd z q.2
  · have := q.1; rw [z] at this; cases this
theorem pw_nodup (h : STO lt) {l : List α} (s : l.Pairwise fun a b => lt a b = true) : l.Nodup := s.imp fun {a b} q e => by
  subst e; rw [h.irr] at q; cases q
/-- rising lists with the same things are one -/
theorem rising_ext (h : STO lt) {l m : List α} (s : l.Pairwise fun a b => lt a b = true) (t : m.Pairwise fun a b => lt a b = true) (e : ∀ a, a ∈ l ↔ a ∈ m) : l = m := by
  exact sortB_uniq h ((List.perm_ext_iff_of_nodup (pw_nodup h s) (pw_nodup h t)).mpr e) (s.imp fun q => by rw [h.asym q]; rfl) (t.imp fun q => by rw [h.asym q]; rfl)
end
/-- texts -/
def ltS (a b : Sx) : Bool := decide (a < b)
def ltI' (a b : Int) : Bool := decide (a < b)
theorem sto_S : STO ltS := ⟨fun a => by simp [ltS, List.lt_irrefl], fun a b c q r => by simp only [ltS, decide_eq_true_eq] at *; exact List.lt_trans q r, fun a b => by
  simp only [ltS, decide_eq_true_eq]
  by_cases h : a < b
  · exact .inl h
  · by_cases k : b < a
    · exact .inr (.inr k)
    · exact .inr (.inl (List.le_antisymm (List.not_lt.mp k) (List.not_lt.mp h)))⟩
theorem sto_I : STO ltI' := ⟨fun a => by simp [ltI'], fun a b c q r => by simp only [ltI', decide_eq_true_eq] at *; omega, fun a b => by simp only [ltI', decide_eq_true_eq]; omega⟩
section
variable {α β : Type} [DecidableEq α] {lt : α → α → Bool} {lt2 : β → β → Bool}
/-- pairs, place by place -/
def ltP (lt : α → α → Bool) (lt2 : β → β → Bool) (a b : α × β) : Bool := if a.1 = b.1 then lt2 a.2 b.2 else lt a.1 b.1
theorem sto_P (h : STO lt) (k : STO lt2) : STO (ltP lt lt2) := by
  refine ⟨fun a => by simp [ltP, k.irr], fun a b c q r => ?_, fun a b => ?_⟩
  · unfold ltP at *
    by_cases e1 : a.1 = b.1
    · rw [if_pos e1] at q
      by_cases e2 : b.1 = c.1
      · rw [if_pos e2] at r
        rw [if_pos (e1.trans e2)]; exact k.tr _ _ _ q r
      · rw [if_neg e2] at r
        rw [if_neg (e1 ▸ e2), e1]; exact r
    · rw [if_neg e1] at q
      by_cases e2 : b.1 = c.1
      · rw [if_neg (fun z => e1 (z.trans e2.symm)), ← e2]; exact q
      · rw [if_neg e2] at r
        have := h.tr _ _ _ q r
        rw [if_neg (fun z => by rw [z, h.irr] at this; cases this)]; exact this
  · unfold ltP
    by_cases e1 : a.1 = b.1
    · rw [if_pos e1, if_pos e1.symm]
      rcases k.tri a.2 b.2 with z | z | z
      · exact .inl z
      · exact .inr (.inl (Prod.ext e1 z))
      · exact .inr (.inr z)
    · rw [if_neg e1, if_neg fun z => e1 z.symm]
      rcases h.tri a.1 b.1 with z | z | z
      · exact .inl z
      · exact absurd z e1
      · exact .inr (.inr z)
/-- lists, place by place -/
def ltL (lt : α → α → Bool) : List α → List α → Bool
  | [], [] => false
  | [], _ :: _ => true
  | _ :: _, [] => false
  | x :: xs, y :: ys => if x = y then ltL lt xs ys else lt x y
theorem ltL_irr (h : STO lt) : ∀ a : List α, ltL lt a a = false
  | [] => rfl
  | x :: a => by rw [ltL, if_pos rfl]; exact ltL_irr h a
theorem ltL_tr (h : STO lt) : ∀ a b c : List α, ltL lt a b = true → ltL lt b c = true → ltL lt a c = true
  | [], [], c, q, _ => by cases q
  | [], y :: b, [], _, r => by cases r
  | [], y :: b, z :: c, _, _ => rfl
  | x :: a, [], c, q, _ => by cases q
  | x :: a, y :: b, [], _, r => by cases r
  | x :: a, y :: b, z :: c, q, r => by
    rw [ltL] at *
    by_cases e1 : x = y
    · rw [if_pos e1] at q
      by_cases e2 : y = z
      · rw [if_pos e2] at r
        rw [if_pos (e1.trans e2)]; exact ltL_tr h a b c q r
      · rw [if_neg e2] at r
        rw [if_neg (e1 ▸ e2), e1]; exact r
    · rw [if_neg e1] at q
      by_cases e2 : y = z
      · rw [if_neg (fun z => e1 (z.trans e2.symm)), ← e2]; exact q
      · rw [if_neg e2] at r
        have := h.tr _ _ _ q r
        rw [if_neg (fun z => by rw [z, h.irr] at this; cases this)]; exact this
theorem ltL_tri (h : STO lt) : ∀ a b : List α, ltL lt a b = true ∨ a = b ∨ ltL lt b a = true
  | [], [] => .inr (.inl rfl)
  | [], _ :: _ => .inl rfl
  | _ :: _, [] => .inr (.inr rfl)
  | x :: a, y :: b => by
    rw [ltL, ltL]
    by_cases e1 : x = y
    · rw [if_pos e1, if_pos e1.symm]
      rcases ltL_tri h a b with z | z | z
      · exact .inl z
      · exact .inr (.inl (by rw [e1, z]))
      · exact .inr (.inr z)
    · rw [if_neg e1, if_neg fun z => e1 z.symm]
      rcases h.tri x y with z | z | z
      · exact .inl z
      · exact absurd z e1
      · exact .inr (.inr z)
theorem sto_L (h : STO lt) : STO (ltL lt) := ⟨ltL_irr h, ltL_tr h, ltL_tri h⟩
end
/-! ### of data -/
section
variable {α : Type} [DecidableEq α]
/-- the encoding keeps the order -/
structure Ordd (e : α → D) (lt : α → α → Bool) : Prop where
  eq : ∀ a b, (e a).eqv (e b) = decide (a = b)
  ltE : ∀ a b, (e a).lt (e b) = lt a b
  al : ∀ a b, (e a).alike (e b) = true
  nn : ∀ a, (e a).isNon = false
  sto : STO lt
variable {e : α → D} {lt : α → α → Bool}
theorem Ordd.lts (h : Ordd e lt) : ∀ a b : List α, TD.lts (a.map e) (b.map e) = ltL lt a b
  | [], [] => rfl
  | [], _ :: _ => rfl
  | _ :: _, [] => rfl
  | x :: a, y :: b => by
    show (if (e x).eqv (e y) then TD.lts (a.map e) (b.map e) else (e x).lt (e y)) = _
    rw [ltL, h.eq, h.ltE, h.lts a b]
    by_cases z : x = y
    · simp [z]
    · simp [z]
theorem Ordd.als (h : Ordd e lt) : ∀ a b : List α, alikes (a.map e) (b.map e) = true
  | [], [] => rfl
  | [], _ :: _ => rfl
  | _ :: _, [] => rfl
  | x :: a, y :: b => by
    show ((e x).alike (e y) && alikes (a.map e) (b.map e)) = true
    rw [h.al, h.als a b]; rfl
theorem Ordd.tup (h : Ordd e lt) : Ordd (fun l : List α => .tup (l.map e)) (ltL lt) :=
  ⟨fun a b => map_eqv e h.eq a b, fun a b => h.lts a b, fun a b => h.als a b, fun _ => rfl, sto_L h.sto⟩
theorem Ordd.pair {β : Type} [DecidableEq β] {e2 : β → D} {lt2 : β → β → Bool} (h : Ordd e lt) (k : Ordd e2 lt2) : Ordd (fun p : α × β => .tup [e p.1, e2 p.2]) (ltP lt lt2) := by
  refine ⟨fun a b => ?_, fun a b => ?_, fun a b => ?_, fun _ => rfl, sto_P h.sto k.sto⟩
  · simp only [D.eqv, eqvs, h.eq, k.eq, Bool.and_true, Prod.ext_iff]
    by_cases z : a.1 = b.1 <;> by_cases z2 : a.2 = b.2 <;> simp [z, z2]
  · show (if (e a.1).eqv (e b.1) then (if (e2 a.2).eqv (e2 b.2) then false else (e2 a.2).lt (e2 b.2)) else (e a.1).lt (e b.1)) = _
    unfold ltP
    rw [h.eq, k.eq, h.ltE, k.ltE]
    by_cases z : a.1 = b.1
    · simp only [z, decide_true, if_true]
      by_cases z2 : a.2 = b.2
      · simp [z2, k.sto.irr]
      · simp [z2]
    · simp [z]
  · show ((e a.1).alike (e b.1) && ((e2 a.2).alike (e2 b.2) && true)) = true
    rw [h.al, k.al]; rfl
theorem ord_S : Ordd D.str ltS := ⟨str_eqvS, fun _ _ => rfl, fun _ _ => rfl, fun _ => rfl, sto_S⟩
theorem int_eqvI (a b : Int) : (D.int a).eqv (.int b) = decide (a = b) := by
  by_cases h : a = b <;> simp [D.eqv, h]
theorem ord_I : Ordd D.int ltI' := ⟨int_eqvI, fun _ _ => rfl, fun _ _ => rfl, fun _ => rfl, sto_I⟩
def ltNum := ltL ltI'
def ltNames := ltL ltS
def ltCall := ltP ltS ltI'
def ltCalls := ltL ltCall
theorem ord_num : Ordd numD ltNum := ord_I.tup
theorem ord_names : Ordd namesD ltNames := ord_S.tup
theorem ord_call : Ordd callD ltCall := ord_S.pair ord_I
theorem ord_calls : Ordd callsD ltCalls := ord_call.tup
/-- sorted(..) of things of one kind -/
theorem sortD_map (h : Ordd e lt) (l : List α) : sortD (l.map e) = (sortB lt l).map e := by
  have := List.map_mergeSort (r := fun a b => !lt b a) (s := fun a b : D => !b.lt a) (f := e) (l := l) fun a _ b _ => by rw [h.ltE]
  exact this.symm
theorem sortable_map (h : Ordd e lt) (hp : ∀ a, (e a).okN 30 = true) (l : List α) : sortable (l.map e) = true := by
  simp only [sortable, Bool.and_eq_true]
  refine ⟨⟨?_, plain_map e 30 hp l⟩, ?_⟩
  · unfold allAlike
    rw [List.all_map]
    refine List.all_eq_true.mpr fun x _ => ?_
    show List.all _ _ = true
    rw [List.all_map]
    exact List.all_eq_true.mpr fun y _ => h.al x y
  · rw [List.all_map]
    exact List.all_eq_true.mpr fun x _ => by simp [h.nn]
variable {S : Sto}
theorem bSorted (h : Ordd e lt) (hp : ∀ a, (e a).okN 30 = true) (ht : (∀ a, (e a).isTup = true) ∨ ∀ a, (e a).isTup = false) (l : List α) (hl : l.length ≤ 16000000) : Bi.run1 .sorted (.lst (l.map e)) S = .ok (.lst ((sortB lt l).map e)) S := by
  show M.bind (M.ask (sortOk (l.map e) && fits (l.map e))) _ S = _
  rw [bindS, ask_of, ← sortD_map h]
  · rfl
  · rw [Bool.and_eq_true, sortOk, Bool.and_eq_true, Bool.or_eq_true]
    refine ⟨⟨sortable_map h hp l, ?_⟩, fits_le (by rw [List.length_map]; exact hl)⟩
    rcases ht with ht | ht
    · left; rw [List.all_map]; exact List.all_eq_true.mpr fun x _ => ht x
    · right; rw [List.all_map]; exact List.all_eq_true.mpr fun x _ => by simp [ht]
theorem bSortCalls (l : List Calls) (hl : l.length ≤ 16000000) : Bi.run1 .sorted (.lst (l.map callsD)) S = .ok (.lst ((sortB ltCalls l).map callsD)) S := bSorted ord_calls (fun a => okCalls a 27) (.inl fun _ => rfl) l hl
theorem bSortNum (l : List (List Int)) (hl : l.length ≤ 16000000) : Bi.run1 .sorted (.lst (l.map numD)) S = .ok (.lst ((sortB ltNum l).map numD)) S := bSorted ord_num (fun a => okNum a 29) (.inl fun _ => rfl) l hl
theorem bSortNames (l : List (List Sx)) (hl : l.length ≤ 16000000) : Bi.run1 .sorted (.lst (l.map namesD)) S = .ok (.lst ((sortB ltNames l).map namesD)) S := bSorted ord_names (fun a => okNames a 29) (.inl fun _ => rfl) l hl
theorem bSortS (l : List Sx) (hl : l.length ≤ 16000000) : Bi.run1 .sorted (.lst (l.map .str)) S = .ok (.lst ((sortB ltS l).map .str)) S := bSorted ord_S (fun a => rfl) (.inr fun _ => rfl) l hl
/-- the least, the first of them -/
def minB {α : Type} [Inhabited α] (lt : α → α → Bool) : List α → α
  | [] => default
  | x :: l => l.foldl (fun m y => if lt y m then y else m) x
theorem foldl_minB {α : Type} {lt : α → α → Bool} (h : STO lt) : ∀ (l : List α) (x : α), (l.foldl (fun m y => if lt y m then y else m) x) ∈ x :: l ∧ ∀ y ∈ x :: l, lt y (l.foldl (fun m y => if lt y m then y else m) x) = false
  | [], x => ⟨by simp, fun y hy => by
    have : y = x := by simpa using hy
    subst this; exact h.irr y⟩
  | z :: l, x => by
    obtain ⟨h1, h2⟩ := foldl_minB h l (if lt z x then z else x)
    refine ⟨?_, fun y hy => ?_⟩
    · show l.foldl _ (if lt z x then z else x) ∈ _
      rcases List.mem_cons.mp h1 with e | e
      · rw [e]; split <;> simp
      · exact List.mem_cons_of_mem _ (List.mem_cons_of_mem _ e)
    · show lt y (l.foldl _ (if lt z x then z else x)) = false
      have h3 := h2 (if lt z x then z else x) (by simp)
      generalize l.foldl (fun m y => if lt y m then y else m) (if lt z x then z else x) = M at h2 h3
      rcases List.mem_cons.mp hy with e | e
      · subst e
        by_cases q : lt z y = true
        · rw [if_pos q] at h3
          cases r : lt y M with
          | false => rfl
          | true => rw [h.tr _ _ _ q r] at h3; cases h3
        · rw [if_neg q] at h3; exact h3
      · rcases List.mem_cons.mp e with e | e
        · subst e
          by_cases q : lt y x = true
          · rw [if_pos q] at h3; exact h3
          · rw [if_neg q] at h3
            cases r : lt y M with
            | false => rfl
            | true =>
              rcases h.tri x y with z | z | z
              · rw [h.tr _ _ _ z r] at h3; cases h3
              · subst z; rw [r] at h3; cases h3
              · exact absurd z q
        · exact h2 y (by simp [e])
theorem minB_mem {α : Type} [Inhabited α] {lt : α → α → Bool} (h : STO lt) {l : List α} (n : l ≠ []) : minB lt l ∈ l := by
  cases l with
  | nil => exact absurd rfl n
  | cons x l => exact (foldl_minB h l x).1
theorem minB_le {α : Type} [Inhabited α] {lt : α → α → Bool} (h : STO lt) {l : List α} {y : α} (n : y ∈ l) : lt y (minB lt l) = false := by
  cases l with
  | nil => simp at n
  | cons x l => exact (foldl_minB h l x).2 y n
theorem minB_eq {α : Type} [Inhabited α] {lt : α → α → Bool} (h : STO lt) {l : List α} {x : α} (n : x ∈ l) (m : ∀ y ∈ l, lt y x = false) : minB lt l = x := by
  have n2 : l ≠ [] := List.ne_nil_of_mem n
  exact h.le_anti (by rw [minB_le h n]; rfl) (by rw [m _ (minB_mem h n2)]; rfl)
theorem minD_map {α : Type} {e : α → D} {lt : α → α → Bool} [DecidableEq α] (h : Ordd e lt) : ∀ (l : List α) (x : α), minD (e x) (l.map e) = e (l.foldl (fun m y => if lt y m then y else m) x)
  | [], x => rfl
  | y :: l, x => by
    show minD (if (e y).lt (e x) then e y else e x) (l.map e) = _
    rw [h.ltE]
    by_cases q : lt y x = true
    · rw [if_pos q, minD_map h l y]; simp [q]
    · rw [if_neg q, minD_map h l x]; simp [q]
theorem bMinO {α : Type} [Inhabited α] {e : α → D} {lt : α → α → Bool} [DecidableEq α] {S : Sto} (h : Ordd e lt) (hp : ∀ a, (e a).okN 30 = true) (l : List α) (n : l ≠ []) : Bi.run1 .min (.lst (l.map e)) S = .ok (e (minB lt l)) S := by
  cases l with
  | nil => exact absurd rfl n
  | cons x l =>
    show M.bind (M.ask (sortable (e x :: l.map e))) _ S = _
    have hs : sortable (e x :: l.map e) = true := sortable_map h hp (x :: l)
    rw [bindS, ask_of hs]
    show R.ok (minD (e x) (l.map e)) S = _
    rw [minD_map h]; rfl
/-- how far off, and calls -/
abbrev nearD (p : Int × Calls) : D := .tup [.int p.1, callsD p.2]
def ltNear := ltP ltI' ltCalls
theorem ord_near : Ordd nearD ltNear := ord_I.pair ord_calls
theorem okNear (a : Int × Calls) (n : Nat) : (nearD a).okN (n + 4) = true := by
  unfold nearD D.okN
  simp only [List.all_cons, List.all_nil, okCalls, Bool.and_true]
  rfl
theorem bMinNear {α : Type} {S : Sto} (l : List α) (f : α → Int) (g : α → Calls) (n : l ≠ []) : Bi.run1 .min (.lst (l.map fun a => .tup [.int (f a), callsD (g a)])) S = .ok (nearD (minB ltNear (l.map fun a => (f a, g a)))) S := by
  have := bMinO (S := S) ord_near (fun a => okNear a 26) (l.map fun a => (f a, g a)) (by simpa using n)
  rw [List.map_map] at this
  exact this
end
end TD
end
section
set_option Elab.async false
set_option linter.all false
set_option maxRecDepth 100000
/-! The law's own body, part by part. -/
namespace TD
section
variable {S : Sto} {l : Lot} {cl : Calls} {T : Sx} {fn : Fns}
theorem max_is {x m : Int} {q : List Int} (h1 : m ∈ x :: q) (h2 : ∀ y ∈ x :: q, y ≤ m) : maxI x q = m := by
  apply Int.le_antisymm
  · rcases maxI_mem q x with e | e
    · rw [e]; exact h2 x (by simp)
    · exact h2 _ (by simp [e])
  · rcases List.mem_cons.mp h1 with e | e
    · rw [e]; exact (maxI_le q x).1
    · exact (maxI_le q x).2 m e
theorem xCall1 {ρ : Env} {n : Nat} {a : E} {x r : D} (ha : ev fn ρ a S = .ok x S) (oa : isOwn ρ a = false) (h : fn.call n [x] S = .ok r S) : ev fn ρ (.call n (.cons a .nil)) S = .ok r S := by
  simp only [xCall, xFC, xFN, ha, oa, Bool.not_false, askT, bindS, retS, h]
theorem xCall2 {ρ : Env} {n : Nat} {a b : E} {x y r : D} (ha : ev fn ρ a S = .ok x S) (hb : ev fn ρ b S = .ok y S) (oa : isOwn ρ a = false) (ob : isOwn ρ b = false) (h : fn.call n [x, y] S = .ok r S) : ev fn ρ (.call n (.cons a (.cons b .nil))) S = .ok r S := by
  simp only [xCall, xFC, xFN, ha, hb, oa, ob, Bool.not_false, askT, bindS, retS, h]
theorem xBin2 {ρ : Env} {p : Op} {a b : E} {x y r : D} (ha : ev fn ρ a S = .ok x S) (hb : ev fn ρ b S = .ok y S) (h : p.run x y S = .ok r S) : ev fn ρ (.bin p a b) S = .ok r S := by
  simp only [xBin, ha, hb, bindS, h]
theorem xCmp2 {ρ : Env} {p : Cm} {a b : E} {x y : D} {r : Bool} (ha : ev fn ρ a S = .ok x S) (hb : ev fn ρ b S = .ok y S) (h : p.run x y S = .ok r S) : ev fn ρ (.cmp p a b) S = .ok (.bl r) S := by
  simp only [xCmp, ha, hb, bindS, retS, h]
theorem addS (a b : Sx) (h : a.length + b.length ≤ 16000000) : Op.run .add (.str a) (.str b) S = .ok (.str (a ++ b)) S := by
  show M.bind (M.ask (fits (a ++ b))) _ S = _
  rw [bindS, ask_of (fits_le (by rw [List.length_append]; exact h))]
  rfl
theorem mulS (a : Sx) (n : Int) (h : n ≤ 100000) (h2 : 0 ≤ n) (h3 : a.length ≤ 100) : Op.run .mul (.str a) (.int n) S = .ok (.str (rep n a)) S := by
  show M.bind (M.ask _) _ S = _
  rw [bindS, ask_of (by simp; omega)]
  rfl
/-- all calls' own texts -/
theorem l6 (g : GoodLot l) (hc : ∀ c ∈ cl, CallOk l c) (h3 : cl.length ≤ 1000)
    (c0 : ∀ cs, Small cs → fn.call 0 [numD cs] S = .ok (.str (beats cs)) S)
    (c1 : ∀ nm, (look l nm).isSome = true → fn.call 1 [lotD l, .str nm] S = .ok (numD (num l nm)) S)
    (c3 : ∀ nm, (look l nm).isSome = true → fn.call 3 [lotD l, .str nm] S = .ok (.str (beats (num l nm))) S)
    (a0 a2 a4 : Sl) : ∃ s8 s9 : Sl, loopO (.t [8, 9]) (exs fn (.cons (.app 5 (.bin .add (.bin .mul (.con (.str [48])) (.var 9)) (.call 0 (.cons (.call 1 (.cons (.var 1) (.cons (.var 8) .nil))) .nil)))) (.cons (.ife (.cmp .ne (.call 3 (.cons (.var 1) (.cons (.var 8) .nil))) (.call 0 (.cons (.call 1 (.cons (.var 1) (.cons (.var 8) .nil))) .nil))) (.cons (.ret (.con (.bl false))) .nil) .nil) .nil)))
      (cl.map fun c => D.tup [.str c.1, .int c.2]) [a0, .fz (lotD l), a2, .fz (callsD cl), a4, .ow (.lst []), .no, .no, .no, .no, .no, .no, .no, .no, .no, .no] S
      = .nx [a0, .fz (lotD l), a2, .fz (callsD cl), a4, .ow (.lst (cl.map fun c => .str (evT l c))), .no, .no, s8, s9, .no, .no, .no, .no, .no, .no] S := by
  have L := loop_ex (t := .t [8, 9]) (S := S) (body := exs fn (.cons (.app 5 (.bin .add (.bin .mul (.con (.str [48])) (.var 9)) (.call 0 (.cons (.call 1 (.cons (.var 1) (.cons (.var 8) .nil))) .nil)))) (.cons (.ife (.cmp .ne (.call 3 (.cons (.var 1) (.cons (.var 8) .nil))) (.call 0 (.cons (.call 1 (.cons (.var 1) (.cons (.var 8) .nil))) .nil))) (.cons (.ret (.con (.bl false))) .nil) .nil) .nil)))
    (ds := cl.map fun c => D.tup [.str c.1, .int c.2]) (n := 0) (ρ := [a0, .fz (lotD l), a2, .fz (callsD cl), a4, .ow (.lst []), .no, .no, .no, .no, .no, .no, .no, .no, .no, .no])
    (fun i ρ => ∃ s8 s9 : Sl, ρ = [a0, .fz (lotD l), a2, .fz (callsD cl), a4, .ow (.lst ((cl.take i).map fun c => .str (evT l c))), .no, .no, s8, s9, .no, .no, .no, .no, .no, .no])
    ⟨.no, .no, rfl⟩ ?_
  · obtain ⟨ρ', e, s8, s9, rfl⟩ := L
    refine ⟨s8, s9, ?_⟩
    rw [e, List.length_map, Nat.zero_add, List.take_length]
  · rintro i ρ d hd ⟨s8, s9, rfl⟩
    rw [List.getElem?_map] at hd
    cases ec : cl[i]? with
    | none => rw [ec] at hd; cases hd
    | some c =>
    rw [ec] at hd
    cases hd
    have ok := hc c (List.mem_of_getElem? ec)
    have gd := num_good g ok.1
    have hb := beats_len gd.small
    refine ⟨_, [a0, .fz (lotD l), a2, .fz (callsD cl), a4, .ow (.lst ((cl.take (0 + i + 1)).map fun c => .str (evT l c))), .no, .no, .fz (.str c.1), .fz (.int c.2), .no, .no, .no, .no, .no, .no], rfl, .inl ?_, .fz (.str c.1), .fz (.int c.2), rfl⟩
    have eb : ∀ ρ : Env, slot ρ 1 = .fz (lotD l) → slot ρ 8 = .fz (.str c.1) → ev fn ρ (.call 0 (.cons (.call 1 (.cons (.var 1) (.cons (.var 8) .nil))) .nil)) S = .ok (.str (beats (num l c.1))) S := fun ρ q1 q8 =>
      xCall1 (xCall2 (xVarF q1) (xVarF q8) (by simp only [isOwn, q1]) (by simp only [isOwn, q8]) (c1 _ ok.1)) rfl (c0 _ gd.small)
    have e1 : (cl.take (0 + i + 1)).map (fun c => D.str (evT l c)) = (cl.take (0 + i)).map (fun c => D.str (evT l c)) ++ [.str (evT l c)] := by
      rw [Nat.zero_add, List.take_succ, ec, List.map_append]; rfl
    rw [e1]
    refine (app_step rfl (xBin2 (xBin2 xCon (xVarF rfl) (mulS _ _ (by have := ok.2.2; omega) ok.2.1 (by simp))) (eb _ rfl rfl) (addS _ _ (by rw [rep_zero, List.length_replicate]; have := ok.2.2; omega))) rfl (fits_le (by rw [List.length_map, List.length_take]; omega))).trans ?_
    rw [rep_zero]
    refine (if_no (xCmp2 (xCall2 (xVarF rfl) (xVarF rfl) rfl rfl (c3 _ ok.1)) (eb _ rfl rfl) ?_)).trans yN
    rw [neS]; simp
end
end TD
end
section
set_option Elab.async false
set_option linter.all false
set_option maxRecDepth 100000
/-! The law's own body: size, tapped. -/
namespace TD
section
variable {S : Sto} {l : Lot} {cl : Calls} {T : Sx} {fn : Fns}
theorem l7 (g : GoodLot l) (hc : ∀ c ∈ cl, CallOk l c) (h3 : cl.length ≤ 1000) (hT : Heard l cl T) (ρ : Env) (h5 : slot ρ 5 = .ow (.lst (cl.map fun c => .str (evT l c)))) (h14 : 14 < ρ.length) :
    ev fn ρ (.bi .max (.cons (.bin .add (.comp (.bi .len (.cons (.var 14) .nil)) (.n 14) (.var 5) (.con (.bl true)) [14]) (.lst (.cons (.con (.int 0)) .nil))) .nil)) S = .ok (.int T.length) S := by
  have hcomp : ev fn ρ (.comp (.bi .len (.cons (.var 14) .nil)) (.n 14) (.var 5) (.con (.bl true)) [14]) S = .ok (.lst ((cl.map fun c => ((evT l c).length : Int)).map .int)) S := by
    rw [evComp (x := .lst (cl.map fun c => .str (evT l c))) (its := cl.map fun c => .str (evT l c)) (g := fun d => match d with | .str s => some (.int s.length) | _ => none) ?_ rfl ?_ ?_]
    · refine congrArg (fun z => R.ok (D.lst z) S) ?_
      rw [List.filterMap_map, List.map_map, ← filterMap_some]
      rfl
    · rw [xVar, h5]
    · exact fits_le (by rw [List.length_map]; omega)
    · intro d hd
      obtain ⟨c, hcc, rfl⟩ := List.mem_map.mp hd
      have hl := evT_len (num_good g (hc c hcc).1) (hc c hcc).2.2
      have hlen : Bi.run1 .len (.str (evT l c)) S = .ok (.int (evT l c).length) S := by
        show M.bind (M.ask (fits (evT l c))) _ S = _
        rw [bindS, ask_of (fits_le (by omega))]
        rfl
      have hs : slot ((ρ.set 14 .no).set 14 (.fz (.str (evT l c)))) 14 = .fz (.str (evT l c)) := by simp [slot, h14]
      simp only [itemE, TD.T.put, wipeE, ofS, seqS, bindS, pureS, retS, noXS, truB, isOwn, if_true, xCon, xBi1 ((xVarF hs).trans rfl), hlen, Bool.not_false, askT]
  have hmax : Bi.run1 .max (.lst ((cl.map fun c => ((evT l c).length : Int)).map .int ++ [.int 0])) S = .ok (.int T.length) S := by
    have e : (cl.map fun c => ((evT l c).length : Int)).map D.int ++ [.int 0] = ((cl.map fun c => ((evT l c).length : Int)) ++ [0]).map D.int := by simp
    rw [e]
    have hm := heard_max g hc hT
    have hb := maxI_le (cl.map fun c => ((evT l c).length : Int)) 0
    rw [← hm] at hb
    have hmem : (T.length : Int) ∈ ((cl.map fun c => ((evT l c).length : Int)) ++ [(0 : Int)] : List Int) := by
      rcases maxI_mem (cl.map fun c => ((evT l c).length : Int)) 0 with z | z
      · rw [hm, z]; simp
      · rw [hm]; exact List.mem_append_left _ z
    have hall : ∀ y ∈ ((cl.map fun c => ((evT l c).length : Int)) ++ [(0 : Int)] : List Int), y ≤ (T.length : Int) := fun y hy => by
      rcases List.mem_append.mp hy with z | z
      · exact hb.2 y z
      · have : y = 0 := by simpa using z
        rw [this]; exact hb.1
    cases eq : (cl.map fun c => ((evT l c).length : Int)) ++ [0] with
    | nil => simp at eq
    | cons x q =>
      rw [eq] at hmem hall
      rw [← max_is hmem hall]
      exact maxS x q S
  have hz : ev fn ρ (.lst (.cons (.con (.int 0)) .nil)) S = .ok (.lst [.int 0]) S := by
    simp only [xLst, xFC, xFN, xCon, isOwn, Bool.not_false, askT, bindS, retS]
  refine (xBi1 (xBin2 hcomp hz ?_)).trans hmax
  show M.bind (M.ask (fits (((cl.map fun c => ((evT l c).length : Int)).map D.int) ++ [D.int 0]))) _ S = _
  rw [bindS, ask_of (fits_le (by simp; omega))]
  rfl
theorem item_yes {ρ ρ' : Env} {own : List Nat} {t : TD.T} {c elt : E} {d y : D} (h1 : t.put d (wipeE ρ own) = some ρ') (h2 : ev fn ρ' c S = .ok (.bl true) S) (h3 : isOwn ρ' elt = false) (h4 : ev fn ρ' elt S = .ok y S) : itemE fn ρ own t c elt d S = .ok (some y) S := by
  simp only [itemE, h1, h2, h3, h4, ofS, seqS, bindS, pureS, retS, noXS, truB, if_true, Bool.not_false, askT]
theorem item_no {ρ ρ' : Env} {own : List Nat} {t : TD.T} {c elt : E} {d : D} (h1 : t.put d (wipeE ρ own) = some ρ') (h2 : ev fn ρ' c S = .ok (.bl false) S) : itemE fn ρ own t c elt d S = .ok none S := by
  simp only [itemE, h1, h2, ofS, seqS, bindS, pureS, retS, noXS, truB, Bool.false_eq_true, if_false]
theorem slS_to {l : Sx} {i : Int} (h : 0 ≤ i) (hf : l.length ≤ 16000000) : D.slice (.str l) .non (.int i) S = .ok (.str (l.take i.toNat)) S := by
  show M.bind (M.ask (fits l)) _ S = _
  rw [bindS, ask_of (fits_le hf)]
  show M.of ((cut l .non (.int i)).map D.str) S = _
  have : cut l .non (.int i) = some (l.take i.toNat) := by
    unfold cut slAt
    have h' : ¬ i < 0 := by omega
    simp [h', List.take_eq_take_iff]
  rw [this]; rfl
theorem slS_bt {l : Sx} {i : Nat} (hf : l.length ≤ 16000000) : D.slice (.str l) (.int i) (.int ((i : Int) + 1)) S = .ok (.str l[i]?.toList) S := by
  show M.bind (M.ask (fits l)) _ S = _
  rw [bindS, ask_of (fits_le hf)]
  show M.of ((cut l (.int i) (.int ((i : Int) + 1))).map D.str) S = _
  have : cut l (.int i) (.int ((i : Int) + 1)) = some l[i]?.toList := by
    have key : (l.drop (min i l.length)).take (min (i + 1) l.length - min i l.length) = l[i]?.toList := by
      by_cases hi : i < l.length
      · rw [Nat.min_eq_left (by omega), Nat.min_eq_left (by omega), List.drop_eq_getElem_cons hi, List.getElem?_eq_getElem hi, show i + 1 - i = 1 by omega]
        rfl
      · rw [Nat.min_eq_right (by omega), Nat.min_eq_right (by omega), List.drop_length, List.getElem?_eq_none (by omega)]
        simp
    unfold cut slAt
    have h' : ¬ (i : Int) < 0 := by omega
    have h2 : ¬ (i : Int) + 1 < 0 := by omega
    have t1 : ((i : Int) + 1).toNat = i + 1 := by omega
    simp only [if_neg h', if_neg h2, t1, Int.toNat_natCast]
    exact congrArg some key
  rw [this]; rfl
end
end TD
end
section
set_option Elab.async false
set_option linter.all false
set_option maxRecDepth 100000
/-! The law's own body: loop 2. -/
namespace TD
section
variable {S : Sto} {l : Lot} {cl : Calls} {T : Sx} {fn : Fns}
theorem itemS {s : Sx} {i : Nat} {c : Nat} (hf : s.length ≤ 16000000) (h : s[i]? = some c) : D.item (.str s) (.int i) S = .ok (.str [c]) S := by
  show M.bind (M.ask (fits s)) _ S = _
  rw [bindS, ask_of (fits_le hf)]
  show M.of ((getAt s (i : Int)).map fun c => D.str [c]) S = _
  rw [getAt_nat, h]; rfl
/-- which of all tap at i -/
theorem tapC (g : GoodLot l) (hc : ∀ c ∈ cl, CallOk l c) (h3 : cl.length ≤ 1000) (ρ : Env) (i : Nat) (h5 : slot ρ 5 = .ow (.lst (cl.map fun c => .str (evT l c)))) (h7 : slot ρ 7 = .fz (.int i)) (h14 : 14 < ρ.length) :
    ev fn ρ (.comp (.var 14) (.n 14) (.var 5) (.cmp .eq (.sl (.var 14) (.var 7) (.bin .add (.var 7) (.con (.int 1)))) (.con (.str [49]))) [14]) S = .ok (.lst (((cl.filter fun c => (evT l c)[i]? == some 49).map fun c => .str (evT l c)))) S := by
  rw [evComp (x := .lst (cl.map fun c => .str (evT l c))) (its := cl.map fun c => .str (evT l c)) (g := fun d => match d with | .str s => if s[i]? == some 49 then some (.str s) else none | _ => none) ?_ rfl ?_ ?_]
  · refine congrArg (fun z => R.ok (D.lst z) S) ?_
    clear hc h3 h5
    induction cl with
    | nil => rfl
    | cons c r ih =>
      rw [List.map_cons, List.filterMap_cons, ih, List.filter_cons]
      cases e : ((evT l c)[i]? == some 49) <;> simp [e]
  · rw [xVar, h5]
  · exact fits_le (by rw [List.length_map]; omega)
  · intro d hd
    obtain ⟨c, hcc, rfl⟩ := List.mem_map.mp hd
    have hl := evT_len (num_good g (hc c hcc).1) (hc c hcc).2.2
    have hs : slot ((ρ.set 14 .no).set 14 (.fz (.str (evT l c)))) 14 = .fz (.str (evT l c)) := by simp [slot, h14]
    have hs7 : slot ((ρ.set 14 .no).set 14 (.fz (.str (evT l c)))) 7 = .fz (.int i) := by
      rw [← h7]; simp [slot]
    have hcm : ev fn ((ρ.set 14 .no).set 14 (.fz (.str (evT l c)))) (.cmp .eq (.sl (.var 14) (.var 7) (.bin .add (.var 7) (.con (.int 1)))) (.con (.str [49]))) S = .ok (.bl ((evT l c)[i]?.toList == [49])) S :=
      xCmp2 (xSl_bt rfl rfl (xVarF hs) (xVarF hs7) (xBin2 (xVarF hs7) xCon (addI _ _ _)) ⟨_, rfl⟩ ⟨_, rfl⟩ (slS_bt (by omega))) xCon (eqS _ _ _)
    have hq : ((evT l c)[i]?.toList == [49]) = ((evT l c)[i]? == some 49) := by
      cases (evT l c)[i]? <;> simp
    rw [hq] at hcm
    dsimp only
    cases e : ((evT l c)[i]? == some 49) with
    | true =>
      rw [e] at hcm
      exact item_yes (ρ' := (ρ.set 14 .no).set 14 (.fz (.str (evT l c)))) rfl hcm (by simp only [isOwn, hs]) (xVarF hs)
    | false =>
      rw [e] at hcm
      exact item_no rfl hcm
end
end TD
end
section
set_option Elab.async false
set_option linter.all false
set_option maxRecDepth 100000
/-! The law's own body: loop 2, joined. -/
namespace TD
section
variable {S : Sto} {l : Lot} {cl : Calls} {T : Sx} {fn : Fns}
theorem xIdx2 {ρ : Env} {a b : E} {x y r : D} (ha : ev fn ρ a S = .ok x S) (hb : ev fn ρ b S = .ok y S) (h : D.item x y S = .ok r S) : ev fn ρ (.idx a b) S = .ok r S := by
  simp only [xIdx, ha, hb, bindS, h]
theorem strs_plain (ss : List Sx) : (D.lst (ss.map .str)).plain = true := by
  unfold D.plain
  rw [D.okN, List.all_map]
  exact List.all_eq_true.mpr fun _ _ => rfl
theorem strs_nil (ss : List Sx) : (D.lst (ss.map .str)).eqv (.lst []) = ss.isEmpty := by
  cases ss <;> rfl
theorem l9 (g : GoodLot l) (hc : ∀ c ∈ cl, CallOk l c) (h3 : cl.length ≤ 1000) (hT : Heard l cl T) (a0 a2 a6 s8 s9 : Sl) : ∃ s7 s10 : Sl,
    loopO (.n 7) (exs fn (.cons (.set 10 (.cmp .ne (.comp (.var 14) (.n 14) (.var 5) (.cmp .eq (.sl (.var 14) (.var 7) (.bin .add (.var 7) (.con (.int 1)))) (.con (.str [49]))) [14]) (.lst .nil))) (.cons (.ife (.cmp .ne (.cmp .eq (.idx (.var 4) (.var 7)) (.con (.str [49]))) (.var 10)) (.cons (.ret (.con (.bl false))) .nil) .nil) .nil))) (rangeD 0 T.length) [a0, .fz (lotD l), a2, .fz (callsD cl), .fz (.str T), .ow (.lst (cl.map fun c => .str (evT l c))), a6, .no, s8, s9, .no, .no, .no, .no, .no, .no] S = .nx [a0, .fz (lotD l), a2, .fz (callsD cl), .fz (.str T), .ow (.lst (cl.map fun c => .str (evT l c))), a6, s7, s8, s9, s10, .no, .no, .no, .no, .no] S := by
  have L := loop_ex (t := .n 7) (S := S) (body := (exs fn (.cons (.set 10 (.cmp .ne (.comp (.var 14) (.n 14) (.var 5) (.cmp .eq (.sl (.var 14) (.var 7) (.bin .add (.var 7) (.con (.int 1)))) (.con (.str [49]))) [14]) (.lst .nil))) (.cons (.ife (.cmp .ne (.cmp .eq (.idx (.var 4) (.var 7)) (.con (.str [49]))) (.var 10)) (.cons (.ret (.con (.bl false))) .nil) .nil) .nil)))) (ds := rangeD 0 T.length) (n := 0) (ρ := [a0, .fz (lotD l), a2, .fz (callsD cl), .fz (.str T), .ow (.lst (cl.map fun c => .str (evT l c))), a6, .no, s8, s9, .no, .no, .no, .no, .no, .no]) (fun i ρ => ∃ s7 s10 : Sl, ρ = [a0, .fz (lotD l), a2, .fz (callsD cl), .fz (.str T), .ow (.lst (cl.map fun c => .str (evT l c))), a6, s7, s8, s9, s10, .no, .no, .no, .no, .no]) ⟨.no, .no, rfl⟩ ?_
  · obtain ⟨ρ', e, s7, s10, rfl⟩ := L
    exact ⟨s7, s10, e⟩
  · rintro i ρ d hd ⟨s7, s10, rfl⟩
    unfold rangeD at hd
    rw [List.getElem?_map] at hd
    by_cases hi : i < ((T.length : Int) - 0).toNat
    · rw [List.getElem?_range hi] at hd
      cases hd
      have hi2 : i < T.length := by omega
      obtain ⟨q, hq⟩ : ∃ q, T[i]? = some q := ⟨_, List.getElem?_eq_getElem hi2⟩
      have hz : (0 : Int) + (i : Nat) = (i : Nat) := by omega
      have hte : (q == 49) = !(cl.filter fun c => (evT l c)[i]? == some 49).isEmpty := by
        have h1 := hT.taps i
        rw [hq] at h1
        cases e : cl.filter fun c => (evT l c)[i]? == some 49 with
        | nil =>
          have : ¬ q = 49 := fun h => by
            obtain ⟨c, hcc, hh⟩ := h1.mp (by rw [h])
            have h2 := List.filter_eq_nil_iff.mp e c hcc
            rw [(evT_get (hc c hcc).2.1 i).mpr hh] at h2
            simp at h2
          simp [this]
        | cons c r =>
          have hm : c ∈ cl.filter fun c => (evT l c)[i]? == some 49 := by rw [e]; simp
          have hm2 := List.mem_filter.mp hm
          have h2 : (evT l c)[i]? = some 49 := by simpa using hm2.2
          have h4 := h1.mpr ⟨c, hm2.1, (evT_get (hc c hm2.1).2.1 i).mp h2⟩
          have : q = 49 := Option.some.inj h4
          simp [this]
      refine ⟨_, [a0, .fz (lotD l), a2, .fz (callsD cl), .fz (.str T), .ow (.lst (cl.map fun c => .str (evT l c))), a6, .fz (.int i), s8, s9, .fz (.bl (q == 49)), .no, .no, .no, .no, .no], rfl, .inl ?_, .fz (.int i), .fz (.bl (q == 49)), rfl⟩
      dsimp only [List.set_cons_zero, List.set_cons_succ]
      rw [hz]
      have hcp := tapC (S := S) (fn := fn) g hc h3 ([a0, .fz (lotD l), a2, .fz (callsD cl), .fz (.str T), .ow (.lst (cl.map fun c => .str (evT l c))), a6, .fz (.int i), s8, s9, s10, .no, .no, .no, .no, .no] : Env) i rfl rfl (by simp)
      have hl0 : ev fn ([a0, .fz (lotD l), a2, .fz (callsD cl), .fz (.str T), .ow (.lst (cl.map fun c => .str (evT l c))), a6, .fz (.int i), s8, s9, s10, .no, .no, .no, .no, .no] : Env) (.lst .nil) S = .ok (.lst []) S := by simp only [xLst, xFN, bindS, retS]
      have hpl := strs_plain ((cl.filter fun c => (evT l c)[i]? == some 49).map (evT l))
      rw [List.map_map] at hpl
      have hen := strs_nil ((cl.filter fun c => (evT l c)[i]? == some 49).map (evT l))
      rw [List.map_map] at hen
      have hne := cmpNe _ _ hpl (show (D.lst []).plain = true from rfl) S
      rw [hen, List.isEmpty_map, ← hte] at hne
      refine (set_step (xCmp2 hcp hl0 hne) rfl).trans ?_
      refine (if_no (xCmp2 (xCmp2 (r := q == 49) (xIdx2 (xVarF rfl) (xVarF rfl) (itemS (by have := hT.size; omega) hq)) xCon ?_) (xVarF rfl) ?_)).trans yN
      · rw [eqS]; simp
      · rw [neB]; simp
    · rw [List.getElem?_eq_none (by simpa using hi)] at hd
      cases hd
end
end TD
end
section
set_option Elab.async false
set_option linter.all false
set_option maxRecDepth 100000
/-! The law's own body: what the rest hears is heard. -/
namespace TD
section
variable {S : Sto} {l : Lot} {cl : Calls} {T : Sx} {fn : Fns}
theorem fm_none {α β : Type} (l : List α) : l.filterMap (fun _ => (none : Option β)) = [] := by
  induction l with
  | nil => rfl
  | cons a r ih => rw [List.filterMap_cons, ih]
theorem lenS {s : Sx} (h : s.length ≤ 16000000) : Bi.run1 .len (.str s) S = .ok (.int s.length) S := by
  show M.bind (M.ask (fits s)) _ S = _
  rw [bindS, ask_of (fits_le h)]
  rfl
theorem notC {rs : Calls} {R : Sx} (hs : ∀ c ∈ rs, c ∈ cl) (hT : Heard l cl T) (hr : Heard l rs R) (ρ : Env) (h4 : slot ρ 4 = .fz (.str T)) (h13 : slot ρ 13 = .fz (.str R)) (h15 : 15 < ρ.length) :
    ev fn ρ (.comp (.var 15) (.n 15) (.rng (.con (.int 0)) (.bi .len (.cons (.var 13) .nil))) (.and (.cmp .eq (.idx (.var 13) (.var 15)) (.con (.str [49]))) (.cmp .ne (.idx (.var 4) (.var 15)) (.con (.str [49])))) [15]) S = .ok (.lst []) S := by
  have hR := hr.size
  have hT2 := hT.size
  rw [evComp (x := .lst (rangeD 0 R.length)) (its := rangeD 0 R.length) (g := fun _ => none) ?_ rfl ?_ ?_, fm_none]
  · exact xRng xCon ((xBi1 (xVarF h13)).trans (lenS (by omega))) (by simp [rangeOk]; omega)
  · exact fits_le (by simp [rangeD]; omega)
  · intro d hd
    simp only [rangeD, List.mem_map, List.mem_range] at hd
    obtain ⟨i, hi, rfl⟩ := hd
    have hi2 : i < R.length := by omega
    obtain ⟨q, hq⟩ : ∃ q, R[i]? = some q := ⟨_, List.getElem?_eq_getElem hi2⟩
    have hz : (0 : Int) + (i : Nat) = (i : Nat) := by omega
    rw [hz]
    have s15 : slot ((ρ.set 15 .no).set 15 (.fz (.int i))) 15 = .fz (.int i) := by simp [slot, h15]
    have s13 : slot ((ρ.set 15 .no).set 15 (.fz (.int i))) 13 = .fz (.str R) := by rw [← h13]; simp [slot]
    have s4 : slot ((ρ.set 15 .no).set 15 (.fz (.int i))) 4 = .fz (.str T) := by rw [← h4]; simp [slot]
    refine item_no (ρ' := (ρ.set 15 .no).set 15 (.fz (.int i))) rfl ?_
    have e1 := xCmp2 (S := S) (fn := fn) (xIdx2 (xVarF s13) (xVarF s15) (itemS (S := S) (by omega) hq)) xCon (eqS [q] [49] S)
    rw [xAnd]
    simp only [isOwn, Bool.not_false, Bool.and_self, askT, bindS, e1, truB]
    cases eq : ([q] == ([49] : Sx)) with
    | false => simp only [Bool.false_eq_true, if_false, retS]
    | true =>
      have hq49 : q = 49 := by simpa using eq
      have ht := heard_sub hs hT hr i (by rw [hq, hq49])
      have e2 := xCmp2 (S := S) (fn := fn) (xIdx2 (xVarF s4) (xVarF s15) (itemS (S := S) (by omega) ht)) xCon (neS [49] [49] S)
      simp only [if_true, e2]
      rfl
end
end TD
end
section
set_option Elab.async false
set_option linter.all false
set_option maxRecDepth 100000
/-! The law's own body: loop 3. -/
namespace TD
section
variable {S : Sto} {l : Lot} {cl : Calls} {T : Sx} {fn : Fns}
theorem callsD_eqv (rs : Calls) : (callsD rs).eqv (.tup []) = rs.isEmpty := by
  cases rs <;> rfl
theorem begC {rs : Calls} (h3 : rs.length ≤ 1000) (ρ : Env) (h11 : slot ρ 11 = .fz (callsD rs)) (h9 : 9 < ρ.length) :
    ev fn ρ (.bi .min (.cons (.bin .add (.comp (.var 9) (.t [8, 9]) (.var 11) (.con (.bl true)) [8, 9]) (.lst (.cons (.con (.int 99)) .nil))) .nil)) S = .ok (.int (leastB (rs.map (·.2) ++ [99]))) S := by
  have hcomp : ev fn ρ (.comp (.var 9) (.t [8, 9]) (.var 11) (.con (.bl true)) [8, 9]) S = .ok (.lst ((rs.map (·.2)).map .int)) S := by
    rw [evComp (x := callsD rs) (its := rs.map fun c => D.tup [.str c.1, .int c.2]) (g := fun d => match d with | .tup [.str nm, .int b] => some (.int b) | _ => none) (xVarF h11) rfl ?_ ?_]
    · refine congrArg (fun z => R.ok (D.lst z) S) ?_
      rw [List.filterMap_map, List.map_map, ← filterMap_some]
      rfl
    · exact fits_le (by rw [List.length_map]; omega)
    · intro d hd
      obtain ⟨c, hcc, rfl⟩ := List.mem_map.mp hd
      have hs : slot ((((ρ.set 9 .no).set 8 .no).set 8 (.fz (.str c.1))).set 9 (.fz (.int c.2))) 9 = .fz (.int c.2) := by simp [slot, h9]
      exact item_yes (ρ' := (((ρ.set 9 .no).set 8 .no).set 8 (.fz (.str c.1))).set 9 (.fz (.int c.2))) rfl xCon (by simp only [isOwn, hs]) (xVarF hs)
  have hz : ev fn ρ (.lst (.cons (.con (.int 99)) .nil)) S = .ok (.lst [.int 99]) S := by
    simp only [xLst, xFC, xFN, xCon, isOwn, Bool.not_false, askT, bindS, retS]
  refine (xBi1 (xBin2 hcomp hz (r := .lst ((rs.map (fun c : Sx × Int => c.2) ++ [99]).map .int)) ?_)).trans ?_
  · show M.bind (M.ask (fits (((rs.map (·.2)).map D.int) ++ [D.int 99]))) _ S = _
    rw [bindS, ask_of (fits_le (by simp; omega)), List.map_append]
    rfl
  · cases eq : rs.map (·.2) ++ [99] with
    | nil => simp at eq
    | cons x q => exact minS x q S
end
end TD
end
section
set_option Elab.async false
set_option linter.all false
set_option maxRecDepth 100000
/-! The law's own body: loop 3. -/
namespace TD
section
variable {S : Sto} {l : Lot} {cl : Calls} {T : Sx} {fn : Fns}
theorem l10 (hc : ∀ c ∈ cl, CallOk l c) (h3 : cl.length ≤ 1000) (hT : Heard l cl T)
    (c2 : ∀ rs : Calls, (∀ c ∈ rs, CallOk l c) → ∃ R, Heard l rs R ∧ fn.call 2 [lotD l, callsD rs] S = .ok (.str R) S) (a0 a2 a5 a6 s7 s8 s9 a10 : Sl) : ∃ t7 s11 s12 s13 : Sl,
    loopO (.n 7) (exs fn (.cons (.set 11 (.bin .add (.sl (.var 3) (.con .non) (.var 7)) (.sl (.var 3) (.bin .add (.var 7) (.con (.int 1))) (.con .non)))) (.cons (.set 12 (.bi .min (.cons (.bin .add (.comp (.var 9) (.t [8, 9]) (.var 11) (.con (.bl true)) [8, 9]) (.lst (.cons (.con (.int 99)) .nil))) .nil))) (.cons (.ife (.or (.cmp .eq (.var 11) (.tup .nil)) (.cmp .gt (.var 12) (.con (.int 0)))) (.cons .cont .nil) .nil) (.cons (.set 13 (.call 2 (.cons (.var 1) (.cons (.var 11) .nil)))) (.cons (.ife (.cmp .ne (.comp (.var 15) (.n 15) (.rng (.con (.int 0)) (.bi .len (.cons (.var 13) .nil))) (.and (.cmp .eq (.idx (.var 13) (.var 15)) (.con (.str [49]))) (.cmp .ne (.idx (.var 4) (.var 15)) (.con (.str [49])))) [15]) (.lst .nil)) (.cons (.ret (.con (.bl false))) .nil) .nil) .nil)))))) (rangeD 0 cl.length) [a0, .fz (lotD l), a2, .fz (callsD cl), .fz (.str T), a5, a6, s7, s8, s9, a10, .no, .no, .no, .no, .no] S = .nx [a0, .fz (lotD l), a2, .fz (callsD cl), .fz (.str T), a5, a6, t7, s8, s9, a10, s11, s12, s13, .no, .no] S := by
  have L := loop_ex (t := .n 7) (S := S) (body := (exs fn (.cons (.set 11 (.bin .add (.sl (.var 3) (.con .non) (.var 7)) (.sl (.var 3) (.bin .add (.var 7) (.con (.int 1))) (.con .non)))) (.cons (.set 12 (.bi .min (.cons (.bin .add (.comp (.var 9) (.t [8, 9]) (.var 11) (.con (.bl true)) [8, 9]) (.lst (.cons (.con (.int 99)) .nil))) .nil))) (.cons (.ife (.or (.cmp .eq (.var 11) (.tup .nil)) (.cmp .gt (.var 12) (.con (.int 0)))) (.cons .cont .nil) .nil) (.cons (.set 13 (.call 2 (.cons (.var 1) (.cons (.var 11) .nil)))) (.cons (.ife (.cmp .ne (.comp (.var 15) (.n 15) (.rng (.con (.int 0)) (.bi .len (.cons (.var 13) .nil))) (.and (.cmp .eq (.idx (.var 13) (.var 15)) (.con (.str [49]))) (.cmp .ne (.idx (.var 4) (.var 15)) (.con (.str [49])))) [15]) (.lst .nil)) (.cons (.ret (.con (.bl false))) .nil) .nil) .nil))))))) (ds := rangeD 0 cl.length) (n := 0) (ρ := [a0, .fz (lotD l), a2, .fz (callsD cl), .fz (.str T), a5, a6, s7, s8, s9, a10, .no, .no, .no, .no, .no]) (fun i ρ => ∃ t7 s11 s12 s13 : Sl, ρ = [a0, .fz (lotD l), a2, .fz (callsD cl), .fz (.str T), a5, a6, t7, s8, s9, a10, s11, s12, s13, .no, .no]) ⟨s7, .no, .no, .no, rfl⟩ ?_
  · obtain ⟨ρ', e, t7, s11, s12, s13, rfl⟩ := L
    exact ⟨t7, s11, s12, s13, e⟩
  · rintro i ρ d hd ⟨t7, s11, s12, s13, rfl⟩
    unfold rangeD at hd
    rw [List.getElem?_map] at hd
    by_cases hi : i < ((cl.length : Int) - 0).toNat
    · rw [List.getElem?_range hi] at hd
      cases hd
      have hi2 : i < cl.length := by omega
      have hz : (0 : Int) + (i : Nat) = (i : Nat) := by omega
      obtain ⟨rs, hrs⟩ : ∃ rs, rs = cl.take i ++ cl.drop (i + 1) := ⟨_, rfl⟩
      have hsub : ∀ c ∈ rs, c ∈ cl := fun c hcc => by
        rw [hrs] at hcc
        rcases List.mem_append.mp hcc with z | z
        · exact List.mem_of_mem_take z
        · exact List.mem_of_mem_drop z
      have hlen : rs.length ≤ 1000 := by
        rw [hrs, List.length_append, List.length_take, List.length_drop]; omega
      obtain ⟨R, hR, e2⟩ := c2 rs fun c hcc => hc c (hsub c hcc)
      have st1 : ev fn ([a0, .fz (lotD l), a2, .fz (callsD cl), .fz (.str T), a5, a6, .fz (.int i), s8, s9, a10, s11, s12, s13, .no, .no] : Env) (.bin .add (.sl (.var 3) (.con .non) (.var 7)) (.sl (.var 3) (.bin .add (.var 7) (.con (.int 1))) (.con .non))) S = .ok (callsD rs) S := by
        have h1 := slice_to (S := S) (l := cl.map fun c => D.tup [.str c.1, .int c.2]) (i := (i : Int)) (by omega)
        have h2 := slice_from (S := S) (l := cl.map fun c => D.tup [.str c.1, .int c.2]) (i := i + 1) (by rw [List.length_map]; omega)
        refine xBin2 (xSl_to rfl (xVarF rfl) (xVarF rfl) ⟨_, rfl⟩ h1) (xSl_from rfl (xVarF rfl) (xBin2 (xVarF rfl) xCon (addI _ _ _)) ⟨_, rfl⟩ h2) ?_
        rw [addTup _ _ (by simp only [List.length_take, List.length_drop, List.length_map]; omega), hrs]
        unfold callsD
        rw [List.map_append, List.map_take, List.map_drop]
        rfl
      have hb := begC (S := S) (fn := fn) hlen ([a0, .fz (lotD l), a2, .fz (callsD cl), .fz (.str T), a5, a6, .fz (.int i), s8, s9, a10, .fz (callsD rs), s12, s13, .no, .no] : Env) rfl (by simp)
      obtain ⟨m, hm⟩ : ∃ m, m = leastB (rs.map (·.2) ++ [99]) := ⟨_, rfl⟩
      rw [← hm] at hb
      have hq : ∃ q : Bool, ev fn ([a0, .fz (lotD l), a2, .fz (callsD cl), .fz (.str T), a5, a6, .fz (.int i), s8, s9, a10, .fz (callsD rs), .fz (.int m), s13, .no, .no] : Env) (.or (.cmp .eq (.var 11) (.tup .nil)) (.cmp .gt (.var 12) (.con (.int 0)))) S = .ok (.bl q) S := by
        have hA := xCmp2 (S := S) (fn := fn) (ρ := ([a0, .fz (lotD l), a2, .fz (callsD cl), .fz (.str T), a5, a6, .fz (.int i), s8, s9, a10, .fz (callsD rs), .fz (.int m), s13, .no, .no] : Env)) (a := .var 11) (b := .tup .nil) (xVarF rfl) (by simp only [xTup, xFN, bindS, retS]) (cmpEq _ _ (callsD_plain rs) (show (D.tup []).plain = true from rfl) S)
        have hB := xCmp2 (S := S) (fn := fn) (ρ := ([a0, .fz (lotD l), a2, .fz (callsD cl), .fz (.str T), a5, a6, .fz (.int i), s8, s9, a10, .fz (callsD rs), .fz (.int m), s13, .no, .no] : Env)) (a := .var 12) (b := .con (.int 0)) (xVarF rfl) xCon (gtI m 0 S)
        rw [xOr]
        simp only [isOwn, Bool.not_false, Bool.and_self, askT, bindS, hA, truB]
        cases (callsD rs).eqv (.tup []) with
        | true => exact ⟨true, rfl⟩
        | false => exact ⟨_, by simp only [Bool.false_eq_true, if_false]; exact hB⟩
      obtain ⟨q, hq⟩ := hq
      cases q with
      | true =>
        refine ⟨_, ([a0, .fz (lotD l), a2, .fz (callsD cl), .fz (.str T), a5, a6, .fz (.int i), s8, s9, a10, .fz (callsD rs), .fz (.int m), s13, .no, .no] : Env), rfl, .inr ?_, .fz (.int i), .fz (callsD rs), .fz (.int m), s13, rfl⟩
        dsimp only [List.set_cons_zero, List.set_cons_succ]
        rw [hz]
        refine (set_step st1 rfl).trans ?_
        refine (set_step hb rfl).trans ?_
        refine (if_yes hq).trans ?_
        rw [yC, yCont, seqC]
        rfl
      | false =>
        refine ⟨_, ([a0, .fz (lotD l), a2, .fz (callsD cl), .fz (.str T), a5, a6, .fz (.int i), s8, s9, a10, .fz (callsD rs), .fz (.int m), .fz (.str R), .no, .no] : Env), rfl, .inl ?_, .fz (.int i), .fz (callsD rs), .fz (.int m), .fz (.str R), rfl⟩
        dsimp only [List.set_cons_zero, List.set_cons_succ]
        rw [hz]
        refine (set_step st1 rfl).trans ?_
        refine (set_step hb rfl).trans ?_
        refine (if_no hq).trans ?_
        refine (set_step (xCall2 (xVarF rfl) (xVarF rfl) rfl rfl e2) rfl).trans ?_
        have hl0 : ev fn ([a0, .fz (lotD l), a2, .fz (callsD cl), .fz (.str T), a5, a6, .fz (.int i), s8, s9, a10, .fz (callsD rs), .fz (.int m), .fz (.str R), .no, .no] : Env) (.lst .nil) S = .ok (.lst []) S := by simp only [xLst, xFN, bindS, retS]
        exact (if_no (xCmp2 (notC hsub hT hR ([a0, .fz (lotD l), a2, .fz (callsD cl), .fz (.str T), a5, a6, .fz (.int i), s8, s9, a10, .fz (callsD rs), .fz (.int m), .fz (.str R), .no, .no] : Env) rfl rfl (by simp)) hl0 (cmpNe _ _ rfl rfl S))).trans yN
    · rw [List.getElem?_eq_none (by simpa using hi)] at hd
      cases hd
end
end TD
end
section
set_option Elab.async false
set_option linter.all false
set_option maxRecDepth 100000
/-! The law's own body: the test on size, first and last sign; the whole. -/
namespace TD
section
variable {S : Sto} {l : Lot} {cl : Calls} {T : Sx} {fn : Fns}
theorem slS_last {s : Sx} (hf : s.length ≤ 16000000) : D.slice (.str s) (.int ((s.length : Int) - 1)) .non S = .ok (.str (s.drop (s.length - 1))) S := by
  show M.bind (M.ask (fits s)) _ S = _
  rw [bindS, ask_of (fits_le hf)]
  show M.of ((cut s (.int ((s.length : Int) - 1)) .non).map D.str) S = _
  have : cut s (.int ((s.length : Int) - 1)) .non = some (s.drop (s.length - 1)) := by
    have e : (if (s.length : Int) - 1 < 0 then ((s.length : Int) - 1 + s.length).toNat else min ((s.length : Int) - 1).toNat s.length) = s.length - 1 := by
      split <;> omega
    unfold cut slAt
    dsimp only
    rw [e]
    show some ((s.drop (s.length - 1)).take (s.length - (s.length - 1))) = _
    rw [List.take_of_length_le (by rw [List.length_drop]; omega)]
  rw [this]; rfl
theorem first_no (g : GoodLot l) (hc : ∀ c ∈ cl, CallOk l c) (h0 : ∀ c ∈ cl.head?, c.2 = 0) (h : Heard l cl T) : (T.take 1 == [48]) = false := by
  cases e : T with
  | nil => rfl
  | cons x r =>
    have h1 := heard_head g hc h0 h (by rw [e]; simp)
    rw [e] at h1
    have : x = 49 := by simpa using h1
    subst this
    simp
theorem last_no (h : Heard l cl T) : (T.drop (T.length - 1) == [48]) = false := by
  by_cases e : T = []
  · rw [e]; rfl
  · have h1 := h.last e
    have hp : 0 < T.length := List.length_pos_iff.mpr e
    rw [List.getLast?_eq_getElem?] at h1
    have h2 : T.length - 1 < T.length := by omega
    rw [List.drop_eq_getElem_cons h2]
    have h3 : T[T.length - 1] = 49 := (List.getElem?_eq_some_iff.mp h1).2
    rw [h3]
    simp
theorem l8 (g : GoodLot l) (hc : ∀ c ∈ cl, CallOk l c) (h0 : ∀ c ∈ cl.head?, c.2 = 0) (h : Heard l cl T) (ρ : Env) (h4 : slot ρ 4 = .fz (.str T)) (h6 : slot ρ 6 = .fz (.int T.length)) :
    ev fn ρ (.or (.cmp .ne (.bi .len (.cons (.var 4) .nil)) (.var 6)) (.or (.cmp .eq (.sl (.var 4) (.con .non) (.con (.int 1))) (.con (.str [48]))) (.cmp .eq (.sl (.var 4) (.bin .sub (.bi .len (.cons (.var 4) .nil)) (.con (.int 1))) (.con .non)) (.con (.str [48]))))) S = .ok (.bl false) S := by
  have hz := h.size
  have el : ev fn ρ (.bi .len (.cons (.var 4) .nil)) S = .ok (.int T.length) S := (xBi1 (xVarF h4)).trans (lenS (by omega))
  have a1 := xCmp2 (S := S) (fn := fn) (ρ := ρ) el (xVarF h6) (neI T.length T.length S)
  have a2 := xCmp2 (S := S) (fn := fn) (ρ := ρ) (b := .con (.str [48])) (xSl_to (e2 := .con (.int 1)) rfl (xVarF h4) xCon ⟨1, rfl⟩ (slS_to (S := S) (l := T) (i := 1) (by decide) (by omega))) xCon (eqS _ _ S)
  have a3 := xCmp2 (S := S) (fn := fn) (ρ := ρ) (b := .con (.str [48])) (xSl_from (e2 := .bin .sub (.bi .len (.cons (.var 4) .nil)) (.con (.int 1))) rfl (xVarF h4) (xBin2 el xCon (subI _ _ _)) ⟨_, rfl⟩ (slS_last (S := S) (s := T) (by omega))) xCon (eqS _ _ S)
  rw [show (1 : Int).toNat = 1 from rfl, first_no g hc h0 h] at a2
  rw [last_no h] at a3
  simp only [xOr, isOwn, Bool.not_false, Bool.and_self, askT, bindS, a1, a2, a3, truB, beq_self_eq_true, Bool.not_true, Bool.false_eq_true, if_false]
end
end TD
end
section
set_option Elab.async false
set_option linter.all false
set_option maxRecDepth 100000
/-! law k15's own body, joined. -/
namespace TD
section
variable {P : Nat → Option Df} {f k : Nat} {S : Sto}
theorem xCall4 {fn : Fns} {ρ : Env} {n : Nat} {a b c e : E} {x y z w r : D} (ha : ev fn ρ a S = .ok x S) (hb : ev fn ρ b S = .ok y S) (hc : ev fn ρ c S = .ok z S) (he : ev fn ρ e S = .ok w S) (oa : isOwn ρ a = false) (ob : isOwn ρ b = false) (oc : isOwn ρ c = false) (oe : isOwn ρ e = false) (h : fn.call n [x, y, z, w] S = .ok r S) : ev fn ρ (.call n (.cons a (.cons b (.cons c (.cons e .nil))))) S = .ok r S := by
  simp only [xCall, xFC, xFN, ha, hb, hc, he, oa, ob, oc, oe, Bool.not_false, askT, bindS, retS, h]
theorem r11 (h0 : P 0 = some d0) (h1 : P 1 = some d1) (h2 : P 2 = some d2) (h3 : P 3 = some d3) (h4 : P 4 = some d4) (h5 : P 5 = some d5) (h6 : P 6 = some d6) (h7 : P 7 = some d7) (h8 : P 8 = some d8) (h9 : P 9 = some d9) (h10 : P 10 = some d10) (h11 : P 11 = some d11) (ns : List Int) :
    run P f (k + 4) 11 [.lst (ns.map .int)] S = .ok (.bl true) S := by
  obtain ⟨l, g, hl4, e8⟩ := r8 (k := k) (f := f) (S := S) h6 h7 h8 (mixed ns 0) 4 3 (mixed_nonneg ns 0) (by decide) (by decide) (by decide) (by decide)
  have hl : l.length ≤ 1000 := Nat.le_trans hl4 (by decide)
  obtain ⟨w, hw⟩ : ∃ w, w = mixed ns 1 % 13 := ⟨_, rfl⟩
  have hw0 : 0 ≤ w := by omega
  have hw1 : w ≤ 1000 := by omega
  obtain ⟨cl, hok, hcl3, hhead, e10⟩ := r10 (k := k) (f := f) (S := S) h6 h9 h10 g hl (mixed ns 2) w 3 hw0 hw1 (by decide)
  have hc : ∀ c ∈ cl, CallOk l c := fun c hcc => ⟨(hok.ok c hcc).1, (hok.ok c hcc).2.1, by have := (hok.ok c hcc).2.2; omega⟩
  have hcl : cl.length ≤ 1000 := Nat.le_trans hcl3 (by decide)
  obtain ⟨T, hT, e2⟩ := r2h (k := k + 1) (f := f) (S := S) h0 h1 h2 g hc
  obtain ⟨T0, hT0, e20⟩ := r2h (k := k + 1) (f := f) (S := S) h0 h1 h2 g (cl := []) (by simp)
  have hT0n := none_eq hT0
  subst hT0n
  rw [run_of h11]
  generalize hfn : (⟨run P f (k + 3), newOb (run P f (k + 3)) f⟩ : Fns) = fn
  have c0 : ∀ cs, Small cs → fn.call 0 [numD cs] S = .ok (.str (beats cs)) S := fun cs h => by rw [← hfn]; exact r0 h0 cs h
  have c1 : ∀ nm, (look l nm).isSome = true → fn.call 1 [lotD l, .str nm] S = .ok (numD (num l nm)) S := fun nm h => by rw [← hfn]; exact r1 h1 g.1 (look_num h)
  have c2 : ∀ rs : Calls, (∀ c ∈ rs, CallOk l c) → ∃ R, Heard l rs R ∧ fn.call 2 [lotD l, callsD rs] S = .ok (.str R) S := fun rs h => by rw [← hfn]; exact r2h h0 h1 h2 g h
  have c3 : ∀ nm, (look l nm).isSome = true → fn.call 3 [lotD l, .str nm] S = .ok (.str (beats (num l nm))) S := fun nm h => by
    obtain ⟨T, hT, e⟩ := r3h (k := k) (f := f) (S := S) h0 h1 h2 h3 g h
    rw [← hfn, ← alone_eq (num_good g h) hT]; exact e
  have c5 : ∀ j : Nat, j < 1000 → fn.call 5 [.lst (ns.map .int), .int j] S = .ok (.int (mixed ns j)) S := fun j h => by rw [← hfn]; exact r5 h4 h5 ns j h
  have c8 : fn.call 8 [.int (mixed ns 0), .int 4, .int 3] S = .ok (lotD l) S := by rw [← hfn]; exact e8
  have c10 : fn.call 10 [lotD l, .int (mixed ns 2), .int w, .int 3] S = .ok (callsD cl) S := by rw [← hfn]; exact e10
  have c2a : fn.call 2 [lotD l, callsD cl] S = .ok (.str T) S := by rw [← hfn]; exact e2
  have c2b : fn.call 2 [lotD l, .tup []] S = .ok (.str []) S := by rw [← hfn]; exact e20
  suffices hb : exs fn d11.body (.fz (.lst (ns.map .int)) :: List.replicate 15 .no) S = .rt (.bl true) S by
    unfold Df.run
    show (exs fn d11.body (.fz (.lst (ns.map .int)) :: List.replicate 15 .no) S).end_ = _
    rw [hb]; rfl
  unfold d11
  refine (set_step (xCall3 (xCall2 (xVarF rfl) xCon rfl rfl (c5 0 (by decide))) xCon xCon rfl rfl rfl c8) rfl).trans ?_
  refine (set_step (xBin2 (xCall2 (xVarF rfl) xCon rfl rfl (c5 1 (by decide))) xCon (modI _ 13 (by decide) S)) rfl).trans ?_
  rw [← hw]
  refine (set_step (xCall4 (xVarF rfl) (xCall2 (xVarF rfl) xCon rfl rfl (c5 2 (by decide))) (xVarF rfl) xCon rfl rfl rfl rfl c10) rfl).trans ?_
  refine (set_step (xCall2 (xVarF rfl) (xVarF rfl) rfl rfl c2a) rfl).trans ?_
  refine (own_step (S' := S) (d := .lst []) (by simp only [xLst, xFN, bindS, retS])).trans ?_
  obtain ⟨s8, s9, e6⟩ := l6 (S := S) (fn := fn) g hc hcl c0 c1 c3 (.fz (.lst (ns.map .int))) (.fz (.int w)) (.fz (.str T))
  refine (for_step (xVarF rfl) rfl (itemsT _ _) e6).trans ?_
  refine (set_step (l7 g hc hcl hT _ rfl (by simp)) rfl).trans ?_
  refine (if_no (l8 g hc hhead hT _ rfl rfl)).trans ?_
  obtain ⟨s7, s10, e9⟩ := l9 (S := S) (fn := fn) g hc hcl hT (.fz (.lst (ns.map .int))) (.fz (.int w)) (.fz (.int T.length)) s8 s9
  refine (for_step (xRng xCon (xVarF rfl) (by have := hT.size; simp [rangeOk]; omega)) rfl (itemsL _ _) e9).trans ?_
  obtain ⟨t7, s11, s12, s13, e10'⟩ := l10 (S := S) (fn := fn) hc hcl hT c2 (.fz (.lst (ns.map .int))) (.fz (.int w)) (.ow (.lst (cl.map fun c => .str (evT l c)))) (.fz (.int T.length)) s7 s8 s9 s10
  have hlen : Bi.run1 .len (callsD cl) S = .ok (.int cl.length) S := by
    show R.ok (D.int ((cl.map fun c => D.tup [.str c.1, .int c.2]).length : Nat)) S = _
    rw [List.length_map]
  refine (for_step (xRng xCon ((xBi1 (xVarF rfl)).trans hlen) (by simp [rangeOk]; omega)) rfl (itemsL _ _) e10').trans ?_
  exact ret_step (xCmp2 (xCall2 (xVarF rfl) (by simp only [xTup, xFN, bindS, retS]) rfl rfl c2b) xCon (eqS [] [] S)) rfl
end
end TD
end
section
set_option Elab.async false
set_option linter.all false
set_option maxRecDepth 100000
set_option hygiene false in
local macro_rules | `(tactic| walk_at "side") => `(tactic| first | assumption | omega | (simp only [List.length_map, List.length_range, List.length_append, List.length_take, List.length_drop, List.length_cons, List.length_nil, List.length_replicate, List.length_zipIdx, List.length_zip]; omega))
local macro_rules | `(tactic| walk_at "it") => `(tactic| with_reducible first | exact TD.itLot _ | exact TD.itCalls _ | exact TD.itNum _ | exact TD.itNames _ | exact TD.itRng0 _ | exact TD.itRngI _ | exact TD.itRngN _ _ | exact TD.itRng _ _ | exact TD.itEnum _ _ | exact TD.itZip _ _ _ _ | exact TD.itLst _ _ | exact TD.itTup _ _ | exact TD.itStr _)
local macro_rules | `(tactic| walk_at "op") => `(tactic| with_reducible first | exact TD.oAdd _ _ | exact TD.oSub _ _ | apply TD.oMod | apply TD.oDiv | apply TD.oMul | apply TD.oAddS | apply TD.oAddCalls1 | apply TD.oAddCalls | apply TD.oAddNum1 | apply TD.oAddT | apply TD.oAddL | apply TD.oMulC | apply TD.oMulS)
local macro_rules | `(tactic| walk_at "cm") => `(tactic| with_reducible first | exact TD.eqI _ _ _ | exact TD.neI _ _ _ | exact TD.ltI _ _ _ | exact TD.gtI _ _ _ | exact TD.leI _ _ _ | exact TD.geI _ _ _ | exact TD.eqS _ _ _ | exact TD.neS _ _ _ | exact TD.eqB _ _ _ | exact TD.neB _ _ _ | exact TD.cIsNon | exact TD.cIsntNon | exact TD.cIsB | exact TD.cIsntB | exact TD.cInCallsT _ _ | exact TD.cInNames _ _ | exact TD.cInStrL _ _ | exact TD.cInNumL _ _ | exact TD.cInNumT _ _ | exact TD.cInSign _ _ | exact TD.cNin (TD.cInCallsT _ _) | exact TD.cNin (TD.cInNames _ _) | exact TD.cNin (TD.cInStrL _ _) | exact TD.cNin (TD.cInNumL _ _) | exact TD.cNin (TD.cInNumT _ _) | exact TD.cEq (TD.pNum _) (TD.pNum _) (TD.numD_eqv _ _) | exact TD.cNe (TD.pNum _) (TD.pNum _) (TD.numD_eqv _ _) | exact TD.cEq (TD.pLot _) (TD.pLot _) (TD.lot_eqv _ _) | exact TD.cNe (TD.pLot _) (TD.pLot _) (TD.lot_eqv _ _) | exact TD.cEq (TD.pCalls _) (TD.pCalls _) (TD.calls_eqv _ _) | exact TD.cNe (TD.pCalls _) (TD.pCalls _) (TD.calls_eqv _ _))
local macro_rules | `(tactic| walk_at "bi") => `(tactic| with_reducible first | exact TD.bLenLot _ | exact TD.bLenCalls _ | exact TD.bLenNum _ | exact TD.bLenNames _ | exact TD.bLenLM _ _ | exact TD.bLenTM _ _ | exact TD.bLenL _ | exact TD.bLenT _ | apply TD.bLenS | exact TD.bTupNum _ _ | exact TD.bTupNames _ _ | exact TD.bTupLot _ _ _ | exact TD.bTupCalls _ _ _ | exact TD.bIntB _ | exact TD.bIntI _ | apply TD.bIntC | exact TD.bAbs _ | apply TD.bSortCalls | apply TD.bSortNum | apply TD.bSortNames | apply TD.bSortS | exact TD.bSumNum _ | exact TD.bSum _ _ | exact TD.bAll _ _ | exact TD.bAny _ _ | exact TD.bMaxA _ _ _ | exact TD.bMinA _ _ _ | exact TD.bMaxB _ _ _ | apply TD.bMinNear | apply TD.bMinF | apply TD.bMaxF | exact TD.bMax2N _ _ | exact TD.bMax2 _ _ | exact TD.bListT _ | exact TD.bListL _ | exact TD.bTupL _)
local macro_rules | `(tactic| walk_at "ix") => `(tactic| with_reducible first | exact TD.gBit _ | exact TD.gTup0 _ _ | exact TD.gTup1 _ _ _ | exact TD.gTup2 _ _ _ _ | exact TD.gLst0 _ _ | exact TD.gLst1 _ _ _ | exact TD.gLot0 (by assumption) | exact TD.gCalls0 (by assumption) | exact TD.gLot (by assumption) | exact TD.gCalls (by assumption) | exact TD.gNum (by assumption) | exact TD.gMapT (by assumption) | exact TD.gMapL (by assumption) | apply TD.gLst | apply TD.gTup | exact TD.gStr (by walk_at "side") (by assumption) | apply TD.gStrN | apply TD.gStrI | apply TD.gLotN | apply TD.gCallsN | apply TD.gNumN | exact TD.sCallsTo _ _ | exact TD.sCallsFrom _ _ | exact TD.sLotTo _ _ | exact TD.sLotFrom _ _ | exact TD.sTupTo _ _ | exact TD.sTupFrom _ _ | exact TD.sTupN _ _ _ | exact TD.sLstTo _ _ | exact TD.sLstFrom _ _ | exact TD.sLstN _ _ _ | apply TD.sStrFrom1 | apply TD.sStrN1 | exact TD.sCallsFrom1 _ _ | exact TD.sLotFrom1 _ _ | exact TD.sLstFrom1 _ _ | exact TD.sTupFrom1 _ _ | apply TD.sStrTo | apply TD.sStrFrom | apply TD.sStrN)
local macro_rules | `(tactic| walk_at "me") => `(tactic| with_reducible first | apply TD.mJoinC | apply TD.mJoin | apply TD.mIndex | exact TD.mCount _ _ | apply TD.mRstrip | apply TD.mSplit | exact TD.mEndsw _ _ | apply TD.mReplace)
local macro_rules | `(tactic| walk_at "e1") => `(tactic| first
  | with_reducible exact TD.vC
  | ((with_reducible apply TD.vF); rfl)
  | ((with_reducible apply TD.vO); rfl)
  | (with_reducible apply TD.vCall)
  | (with_reducible apply TD.vBin)
  | (with_reducible apply TD.vCmp)
  | (with_reducible apply TD.vAnd)
  | (with_reducible apply TD.vOr)
  | (with_reducible apply TD.vNot)
  | (with_reducible apply TD.vIdx)
  | (with_reducible apply TD.vBi1)
  | (with_reducible apply TD.vBi2)
  | (with_reducible apply TD.vComp)
  | (with_reducible apply TD.vCompF)
  | (with_reducible apply TD.vRng)
  | (with_reducible apply TD.vEnu)
  | (with_reducible apply TD.vZip)
  | (with_reducible apply TD.vTup)
  | (with_reducible apply TD.vLst)
  | (with_reducible apply TD.vMe1)
  | (with_reducible apply TD.vMe2)
  | (with_reducible apply TD.vSlTo)
  | (with_reducible apply TD.vSlFrom)
  | (with_reducible apply TD.vSl)
  | (with_reducible apply TD.vRev)
  | (with_reducible apply TD.vCmp2)
  | (with_reducible apply TD.vNeg)
  | (with_reducible apply TD.vIsa)
  | (with_reducible apply TD.vLcat)
  | (with_reducible apply TD.vLrep)
  | (with_reducible apply TD.fCons)
  | (with_reducible apply TD.vKeys)
  | (with_reducible apply TD.vSortK)
  | (with_reducible apply TD.vGet)
  | (with_reducible apply TD.vOmt)
  | (with_reducible apply TD.vSset)
  | (with_reducible apply TD.vLset)
  | with_reducible exact TD.vDic0
  | with_reducible exact TD.fNil
  | with_reducible exact TD.truB _ _
  | ((with_reducible show TD.isOwn _ _ = false); rfl)
  | ((with_reducible show TD.noPart _ = false); rfl)
  | ((with_reducible show TD.D.isObj _ = false); rfl)
  | ((with_reducible show TD.slot _ _ = _); rfl)
  | ((with_reducible show TD.Me.recv _ _ = true); rfl)
  | with_reducible exact TD.SetE.z
  | with_reducible apply TD.SetE.s
  | walk_at "op" | walk_at "cm" | walk_at "bi" | walk_at "ix" | walk_at "me" | walk_at "it"
  | ((with_reducible show ∀ _, TD.T.put _ _ _ = _); intro _; rfl)
  | ((with_reducible show ∀ _, TD.isOwn _ _ = _); intro _; rfl)
  | walk_at "call"
  | ((with_reducible show _ ≤ _); walk_at "side")
  | ((with_reducible show _ < _); walk_at "side")
  | ((with_reducible show TD.rangeOk _ _ = true); simp only [TD.rangeOk, Bool.and_eq_true, decide_eq_true_eq]; omega)
  | ((with_reducible show _[_]? = some _); first | rfl | assumption)
  | ((with_reducible show _ ≠ _); assumption)
  | ((with_reducible show TD.GoodLot _); assumption)
  | ((with_reducible show TD.CallsOf _ _); assumption)
  | ((with_reducible show _ ∧ _); walk_at "side")
  | ((with_reducible show ∀ _ ∈ List.range _, _); intro d hd; rw [List.mem_range] at hd)
  | ((with_reducible show ∀ _ ∈ _, _); intro _ _)
  | ((with_reducible show _ = true → _); intro _)
  | ((with_reducible show _ = false → _); intro _))
local macro_rules | `(tactic| walk_at "ev") => `(tactic| repeat' walk_at "e1")
local macro_rules | `(tactic| walk_at "st") => `(tactic| (first
  | (with_reducible apply TD.wp_set)
  | (with_reducible apply TD.wp_own)
  | (with_reducible apply TD.wp_par)
  | (with_reducible apply TD.wp_parO)
  | (with_reducible apply TD.wp_app)
  | (with_reducible apply TD.wp_ext)
  | (with_reducible apply TD.wp_putD)
  | (with_reducible apply TD.wp_exp)
  | (with_reducible apply TD.wp_frz)
  | (with_reducible apply TD.wp_ret)
  | (with_reducible apply TD.wp_tset)
  | (with_reducible apply TD.wp_tsetL)
  | (with_reducible apply TD.wp_ifF)
  | with_reducible refine TD.wp_end ?_ | with_reducible refine TD.wp_pass ?_) <;> walk_at "ev")
set_option hygiene false in
local macro_rules | `(tactic| walk_at "call") => `(tactic| ((with_reducible apply TD.callGuard); first | assumption | with_reducible apply TD.q0 | with_reducible apply TD.q1 | with_reducible apply TD.q2 | with_reducible apply TD.q3 | with_reducible exact TD.q6 _ _ | with_reducible apply TD.q14 | with_reducible apply TD.q16 | with_reducible exact TD.q17 _ | with_reducible apply TD.q5 | with_reducible apply TD.q15 | with_reducible apply TD.q19 | with_reducible apply TD.q20 | with_reducible apply TD.q22))
/-! The defs' own calls; what the first of them tell. -/
namespace TD
/-- a call of the def i, with room for k calls -/
@[irreducible] def cf (k i : Nat) (ds : List D) : M D := run PP 7 k i ds
@[reducible] def fnK (k : Nat) : Fns := ⟨cf k, newOb (cf k) 7⟩
theorem cf_eq (k i : Nat) (ds : List D) (S : Sto) : cf k i ds S = run PP 7 k i ds S := by unfold cf; rfl
theorem cf_run (k : Nat) : cf k = run PP 7 k := by funext i ds; unfold cf; rfl
theorem cf_of {i k : Nat} {df : Df} {ds : List D} {ρ : Env} {S : Sto} {r : R D} (h : PP i = some df) (hl : ds.length = df.ps) (hρ : ds.map .fz ++ List.replicate df.ns .no = ρ) (w : Wp (exs (fnK k) df.body ρ S) fun o => o.end_ = r) : cf (k + 1) i ds S = r := by
  rw [cf_eq, run_of h]
  unfold Df.run
  rw [if_pos hl, hρ]
  unfold Wp fnK at w
  rw [cf_run] at w
  exact w
section
variable {k : Nat} {S : Sto}
theorem q0 (cs : List Int) (h : Small cs) : cf (k + 1) 0 [numD cs] S = .ok (.str (beats cs)) S := by rw [cf_eq]; exact r0 rfl cs h
theorem q1 {l : Lot} {nm : Sx} (g : GoodLot l) (h : (look l nm).isSome = true) : cf (k + 1) 1 [lotD l, .str nm] S = .ok (numD (num l nm)) S := by rw [cf_eq]; exact r1 rfl g.1 (look_num h)
theorem q4 (ns : List Int) (j : Nat) : cf (k + 1) 4 [.lst (ns.map .int), .int j] S = .ok (.int (cellAt ns j)) S := by rw [cf_eq]; exact r4 rfl ns j
theorem q5 (ns : List Int) (j : Nat) (hj : j < 1000) : cf (k + 2) 5 [.lst (ns.map .int), .int j] S = .ok (.int (mixed ns j)) S := by rw [cf_eq]; exact r5 rfl rfl ns j hj
theorem q6 (n j : Int) : cf (k + 1) 6 [.int n, .int j] S = .ok (.int (drawn n j)) S := by rw [cf_eq]; exact r6 rfl n j
theorem q7 (n most : Int) (hm : 0 < most) (hm2 : most < 1000) (hn : 0 ≤ n) : cf (k + 2) 7 [.int n, .int most] S = .ok (numD (number n most)) S := by rw [cf_eq]; exact r7 rfl rfl n most hm hm2 hn
/-- what is heard of the calls is one text -/
theorem heard_uniq {l : Lot} {cl : Calls} {T U : Sx} (h : Heard l cl T) (k : Heard l cl U) : T = U :=
  text_ext h.signs k.signs h.last k.last fun t => (h.taps t).trans (k.taps t).symm
open Classical in
noncomputable def heardF (l : Lot) (cl : Calls) : Sx := if h : ∃ T, Heard l cl T then h.choose else []
theorem heardF_eq {l : Lot} {cl : Calls} {T : Sx} (h : Heard l cl T) : heardF l cl = T := by
  unfold heardF
  rw [dif_pos ⟨T, h⟩]
  exact heard_uniq (Exists.choose_spec ⟨T, h⟩) h
def CallsOf (l : Lot) (cl : Calls) : Prop := ∀ c ∈ cl, CallOk l c
theorem q2 {l : Lot} {cl : Calls} (g : GoodLot l) (hc : CallsOf l cl) : cf (k + 2) 2 [lotD l, callsD cl] S = .ok (.str (heardF l cl)) S := by
  obtain ⟨T, hT, e⟩ := r2h (P := PP) (f := 7) (k := k) (S := S) rfl rfl rfl g hc
  rw [cf_eq, heardF_eq hT]; exact e
theorem heardF_ok {l : Lot} {cl : Calls} (g : GoodLot l) (hc : CallsOf l cl) : Heard l cl (heardF l cl) := by
  obtain ⟨T, hT, e⟩ := r2h (P := PP) (f := 7) (k := 0) (S := []) rfl rfl rfl g hc
  rw [heardF_eq hT]; exact hT
theorem q3 {l : Lot} {nm : Sx} (g : GoodLot l) (h : (look l nm).isSome = true) : cf (k + 3) 3 [lotD l, .str nm] S = .ok (.str (beats (num l nm))) S := by
  obtain ⟨T, hT, e⟩ := r3h (P := PP) (f := 7) (k := k) (S := S) rfl rfl rfl rfl g h
  rw [cf_eq, ← alone_eq (num_good g h) hT]; exact e
theorem q8 (n boxes most : Int) (hn : 0 ≤ n) (hb : 0 < boxes) (hb2 : boxes ≤ 6) (hm : 0 < most) (hm2 : most ≤ 99) :
    ∃ l : Lot, GoodLot l ∧ l.length ≤ boxes.toNat ∧ cf (k + 3) 8 [.int n, .int boxes, .int most] S = .ok (lotD l) S := by
  rw [cf_eq]; exact r8 rfl rfl rfl n boxes most hn hb hb2 hm hm2
theorem q9 {l : Lot} (g : GoodLot l) (hlen : l.length ≤ 1000) (n wait : Int) (hw : 0 ≤ wait) (hw2 : wait ≤ 1000) :
    ∃ cl : Calls, CallsOk l cl wait ∧ cl.length ≤ 3 ∧ cf (k + 2) 9 [lotD l, .int n, .int wait] S = .ok (callsD cl) S := by
  rw [cf_eq]; exact r9 rfl rfl g hlen n wait hw hw2
theorem q10 {l : Lot} (g : GoodLot l) (hlen : l.length ≤ 1000) (n wait many : Int) (hw : 0 ≤ wait) (hw2 : wait ≤ 1000) (hm : 0 ≤ many) :
    ∃ cl : Calls, CallsOk l cl wait ∧ cl.length ≤ 3 ∧ (∀ c ∈ cl.head?, c.2 = 0) ∧ cf (k + 3) 10 [lotD l, .int n, .int wait, .int many] S = .ok (callsD cl) S := by
  rw [cf_eq]; exact r10 rfl rfl rfl g hlen n wait many hw hw2 hm
/-! ### off -/
def padX (s : Sx) (n : Nat) : Sx := s ++ List.replicate (n - s.length) 48
def offF (a b : Sx) : Nat := (((padX a (max a.length b.length)).zip (padX b (max a.length b.length))).filter fun p => !([p.1] == [p.2])).length
theorem q14 (a b : Sx) (ha : a.length ≤ 30000) (hb : b.length ≤ 30000) : cf (k + 1) 14 [.str a, .str b] S = .ok (.int (offF a b)) S := by
  refine cf_of (df := d14) rfl rfl rfl ?_
  unfold d14
  dsimp only [List.replicate, List.map, List.cons_append, List.nil_append]
  walk_at "st"
  walk_at "st"
  walk_at "st"
  walk_at "st"
  show R.ok (D.int _) S = _
  unfold offF padX
  rw [Int.toNat_sub, Int.toNat_sub]
end
end TD
end
section
set_option Elab.async false
set_option linter.all false
set_option maxRecDepth 100000
set_option hygiene false in
local macro_rules | `(tactic| walk_at "side") => `(tactic| first | assumption | omega | (simp only [List.length_map, List.length_range, List.length_append, List.length_take, List.length_drop, List.length_cons, List.length_nil, List.length_replicate, List.length_zipIdx, List.length_zip]; omega))
local macro_rules | `(tactic| walk_at "it") => `(tactic| with_reducible first | exact TD.itLot _ | exact TD.itCalls _ | exact TD.itNum _ | exact TD.itNames _ | exact TD.itRng0 _ | exact TD.itRngI _ | exact TD.itRngN _ _ | exact TD.itRng _ _ | exact TD.itEnum _ _ | exact TD.itZip _ _ _ _ | exact TD.itLst _ _ | exact TD.itTup _ _ | exact TD.itStr _)
local macro_rules | `(tactic| walk_at "op") => `(tactic| with_reducible first | exact TD.oAdd _ _ | exact TD.oSub _ _ | apply TD.oMod | apply TD.oDiv | apply TD.oMul | apply TD.oAddS | apply TD.oAddCalls1 | apply TD.oAddCalls | apply TD.oAddNum1 | apply TD.oAddT | apply TD.oAddL | apply TD.oMulC | apply TD.oMulS)
local macro_rules | `(tactic| walk_at "cm") => `(tactic| with_reducible first | exact TD.eqI _ _ _ | exact TD.neI _ _ _ | exact TD.ltI _ _ _ | exact TD.gtI _ _ _ | exact TD.leI _ _ _ | exact TD.geI _ _ _ | exact TD.eqS _ _ _ | exact TD.neS _ _ _ | exact TD.eqB _ _ _ | exact TD.neB _ _ _ | exact TD.cIsNon | exact TD.cIsntNon | exact TD.cIsB | exact TD.cIsntB | exact TD.cInCallsT _ _ | exact TD.cInNames _ _ | exact TD.cInStrL _ _ | exact TD.cInNumL _ _ | exact TD.cInNumT _ _ | exact TD.cInSign _ _ | exact TD.cNin (TD.cInCallsT _ _) | exact TD.cNin (TD.cInNames _ _) | exact TD.cNin (TD.cInStrL _ _) | exact TD.cNin (TD.cInNumL _ _) | exact TD.cNin (TD.cInNumT _ _) | exact TD.cEq (TD.pNum _) (TD.pNum _) (TD.numD_eqv _ _) | exact TD.cNe (TD.pNum _) (TD.pNum _) (TD.numD_eqv _ _) | exact TD.cEq (TD.pLot _) (TD.pLot _) (TD.lot_eqv _ _) | exact TD.cNe (TD.pLot _) (TD.pLot _) (TD.lot_eqv _ _) | exact TD.cEq (TD.pCalls _) (TD.pCalls _) (TD.calls_eqv _ _) | exact TD.cNe (TD.pCalls _) (TD.pCalls _) (TD.calls_eqv _ _))
local macro_rules | `(tactic| walk_at "bi") => `(tactic| with_reducible first | exact TD.bLenLot _ | exact TD.bLenCalls _ | exact TD.bLenNum _ | exact TD.bLenNames _ | exact TD.bLenLM _ _ | exact TD.bLenTM _ _ | exact TD.bLenL _ | exact TD.bLenT _ | apply TD.bLenS | exact TD.bTupNum _ _ | exact TD.bTupNames _ _ | exact TD.bTupLot _ _ _ | exact TD.bTupCalls _ _ _ | exact TD.bIntB _ | exact TD.bIntI _ | apply TD.bIntC | exact TD.bAbs _ | apply TD.bSortCalls | apply TD.bSortNum | apply TD.bSortNames | apply TD.bSortS | exact TD.bSumNum _ | exact TD.bSum _ _ | exact TD.bAll _ _ | exact TD.bAny _ _ | exact TD.bMaxA _ _ _ | exact TD.bMinA _ _ _ | exact TD.bMaxB _ _ _ | apply TD.bMinNear | apply TD.bMinF | apply TD.bMaxF | exact TD.bMax2N _ _ | exact TD.bMax2 _ _ | exact TD.bListT _ | exact TD.bListL _ | exact TD.bTupL _)
local macro_rules | `(tactic| walk_at "ix") => `(tactic| with_reducible first | exact TD.gBit _ | exact TD.gTup0 _ _ | exact TD.gTup1 _ _ _ | exact TD.gTup2 _ _ _ _ | exact TD.gLst0 _ _ | exact TD.gLst1 _ _ _ | exact TD.gLot0 (by assumption) | exact TD.gCalls0 (by assumption) | exact TD.gLot (by assumption) | exact TD.gCalls (by assumption) | exact TD.gNum (by assumption) | exact TD.gMapT (by assumption) | exact TD.gMapL (by assumption) | apply TD.gLst | apply TD.gTup | exact TD.gStr (by walk_at "side") (by assumption) | apply TD.gStrN | apply TD.gStrI | apply TD.gLotN | apply TD.gCallsN | apply TD.gNumN | exact TD.sCallsTo _ _ | exact TD.sCallsFrom _ _ | exact TD.sLotTo _ _ | exact TD.sLotFrom _ _ | exact TD.sTupTo _ _ | exact TD.sTupFrom _ _ | exact TD.sTupN _ _ _ | exact TD.sLstTo _ _ | exact TD.sLstFrom _ _ | exact TD.sLstN _ _ _ | apply TD.sStrFrom1 | apply TD.sStrN1 | exact TD.sCallsFrom1 _ _ | exact TD.sLotFrom1 _ _ | exact TD.sLstFrom1 _ _ | exact TD.sTupFrom1 _ _ | apply TD.sStrTo | apply TD.sStrFrom | apply TD.sStrN)
local macro_rules | `(tactic| walk_at "me") => `(tactic| with_reducible first | apply TD.mJoinC | apply TD.mJoin | apply TD.mIndex | exact TD.mCount _ _ | apply TD.mRstrip | apply TD.mSplit | exact TD.mEndsw _ _ | apply TD.mReplace)
local macro_rules | `(tactic| walk_at "e1") => `(tactic| first
  | with_reducible exact TD.vC
  | ((with_reducible apply TD.vF); rfl)
  | ((with_reducible apply TD.vO); rfl)
  | (with_reducible apply TD.vCall)
  | (with_reducible apply TD.vBin)
  | (with_reducible apply TD.vCmp)
  | (with_reducible apply TD.vAnd)
  | (with_reducible apply TD.vOr)
  | (with_reducible apply TD.vNot)
  | (with_reducible apply TD.vIdx)
  | (with_reducible apply TD.vBi1)
  | (with_reducible apply TD.vBi2)
  | (with_reducible apply TD.vComp)
  | (with_reducible apply TD.vCompF)
  | (with_reducible apply TD.vRng)
  | (with_reducible apply TD.vEnu)
  | (with_reducible apply TD.vZip)
  | (with_reducible apply TD.vTup)
  | (with_reducible apply TD.vLst)
  | (with_reducible apply TD.vMe1)
  | (with_reducible apply TD.vMe2)
  | (with_reducible apply TD.vSlTo)
  | (with_reducible apply TD.vSlFrom)
  | (with_reducible apply TD.vSl)
  | (with_reducible apply TD.vRev)
  | (with_reducible apply TD.vCmp2)
  | (with_reducible apply TD.vNeg)
  | (with_reducible apply TD.vIsa)
  | (with_reducible apply TD.vLcat)
  | (with_reducible apply TD.vLrep)
  | (with_reducible apply TD.fCons)
  | (with_reducible apply TD.vKeys)
  | (with_reducible apply TD.vSortK)
  | (with_reducible apply TD.vGet)
  | (with_reducible apply TD.vOmt)
  | (with_reducible apply TD.vSset)
  | (with_reducible apply TD.vLset)
  | with_reducible exact TD.vDic0
  | with_reducible exact TD.fNil
  | with_reducible exact TD.truB _ _
  | ((with_reducible show TD.isOwn _ _ = false); rfl)
  | ((with_reducible show TD.noPart _ = false); rfl)
  | ((with_reducible show TD.D.isObj _ = false); rfl)
  | ((with_reducible show TD.slot _ _ = _); rfl)
  | ((with_reducible show TD.Me.recv _ _ = true); rfl)
  | with_reducible exact TD.SetE.z
  | with_reducible apply TD.SetE.s
  | walk_at "op" | walk_at "cm" | walk_at "bi" | walk_at "ix" | walk_at "me" | walk_at "it"
  | ((with_reducible show ∀ _, TD.T.put _ _ _ = _); intro _; rfl)
  | ((with_reducible show ∀ _, TD.isOwn _ _ = _); intro _; rfl)
  | walk_at "call"
  | ((with_reducible show _ ≤ _); walk_at "side")
  | ((with_reducible show _ < _); walk_at "side")
  | ((with_reducible show TD.rangeOk _ _ = true); simp only [TD.rangeOk, Bool.and_eq_true, decide_eq_true_eq]; omega)
  | ((with_reducible show _[_]? = some _); first | rfl | assumption)
  | ((with_reducible show _ ≠ _); assumption)
  | ((with_reducible show TD.GoodLot _); assumption)
  | ((with_reducible show TD.CallsOf _ _); assumption)
  | ((with_reducible show _ ∧ _); walk_at "side")
  | ((with_reducible show ∀ _ ∈ List.range _, _); intro d hd; rw [List.mem_range] at hd)
  | ((with_reducible show ∀ _ ∈ _, _); intro _ _)
  | ((with_reducible show _ = true → _); intro _)
  | ((with_reducible show _ = false → _); intro _))
local macro_rules | `(tactic| walk_at "ev") => `(tactic| repeat' walk_at "e1")
local macro_rules | `(tactic| walk_at "st") => `(tactic| (first
  | (with_reducible apply TD.wp_set)
  | (with_reducible apply TD.wp_own)
  | (with_reducible apply TD.wp_par)
  | (with_reducible apply TD.wp_parO)
  | (with_reducible apply TD.wp_app)
  | (with_reducible apply TD.wp_ext)
  | (with_reducible apply TD.wp_putD)
  | (with_reducible apply TD.wp_exp)
  | (with_reducible apply TD.wp_frz)
  | (with_reducible apply TD.wp_ret)
  | (with_reducible apply TD.wp_tset)
  | (with_reducible apply TD.wp_tsetL)
  | (with_reducible apply TD.wp_ifF)
  | with_reducible refine TD.wp_end ?_ | with_reducible refine TD.wp_pass ?_) <;> walk_at "ev")
set_option hygiene false in
local macro_rules | `(tactic| walk_at "call") => `(tactic| ((with_reducible apply TD.callGuard); first | assumption | with_reducible apply TD.q0 | with_reducible apply TD.q1 | with_reducible apply TD.q2 | with_reducible apply TD.q3 | with_reducible exact TD.q6 _ _ | with_reducible apply TD.q14 | with_reducible apply TD.q16 | with_reducible exact TD.q17 _ | with_reducible apply TD.q5 | with_reducible apply TD.q15 | with_reducible apply TD.q19 | with_reducible apply TD.q20 | with_reducible apply TD.q22))
/-! calls_from, all_calls, nearest, may_be. -/
namespace TD
section
variable {k : Nat} {S : Sto}
/-- the name at a place -/
def nameAt (l : Lot) (i : Nat) : Sx := (l.getD i ([], [])).1
/-- calls of up to m boxes, from a box on -/
def cfrom (l : Lot) (w : Nat) : Nat → Nat → List Calls
  | 0, _ => [[]]
  | m + 1, first => [] :: (List.range' first (l.length - first)).flatMap fun i => (List.range (w + 1)).flatMap fun (b : Nat) => (cfrom l w m (i + 1)).map fun c => (nameAt l i, (b : Int)) :: c
theorem cfrom_len (l : Lot) (w : Nat) (hw : w ≤ 12) (hl : l.length ≤ 6) : ∀ m first, m ≤ 3 → (cfrom l w m first).length ≤ 80 ^ m
  | 0, _, _ => by simp [cfrom]
  | m + 1, first, hm => by
    have ih := fun f => cfrom_len l w hw hl m f (by omega)
    have hp : 1 ≤ 80 ^ m := Nat.one_le_pow _ _ (by decide)
    have h1 : ∀ i, ((List.range (w + 1)).flatMap fun (b : Nat) => (cfrom l w m (i + 1)).map fun c => (nameAt l i, (b : Int)) :: c).length ≤ 13 * 80 ^ m := fun i => by
      rw [List.length_flatMap]
      have := sum_le (fun b : Nat => ((cfrom l w m (i + 1)).map fun c => (nameAt l i, (b : Int)) :: c).length) (80 ^ m) (List.range (w + 1)) fun b _ => by rw [List.length_map]; exact ih _
      rw [List.length_range] at this
      have h3 : (w + 1) * 80 ^ m ≤ 13 * 80 ^ m := Nat.mul_le_mul_right _ (by omega)
      exact Nat.le_trans this h3
    have h2 : ((List.range' first (l.length - first)).flatMap fun i => (List.range (w + 1)).flatMap fun (b : Nat) => (cfrom l w m (i + 1)).map fun c => (nameAt l i, (b : Int)) :: c).length ≤ 78 * 80 ^ m := by
      rw [List.length_flatMap]
      have := sum_le (fun i : Nat => ((List.range (w + 1)).flatMap fun (b : Nat) => (cfrom l w m (i + 1)).map fun c => (nameAt l i, (b : Int)) :: c).length) (13 * 80 ^ m) (List.range' first (l.length - first)) fun i _ => h1 i
      rw [List.length_range'] at this
      have h3 : (l.length - first) * (13 * 80 ^ m) ≤ 6 * (13 * 80 ^ m) := Nat.mul_le_mul_right _ (by omega)
      omega
    show (_ :: _).length ≤ _
    rw [List.length_cons, Nat.pow_succ]
    omega
def cfI (l : Lot) (w m i : Nat) : List Calls := (List.range (w + 1)).flatMap fun (b : Nat) => (cfrom l w m (i + 1)).map fun c => (nameAt l i, (b : Int)) :: c
theorem cfrom_succ (l : Lot) (w m first : Nat) : cfrom l w (m + 1) first = [] :: (List.range' first (l.length - first)).flatMap (cfI l w m) := rfl
theorem cfrom_each (l : Lot) (w : Nat) : ∀ m first, ∀ c ∈ cfrom l w m first, c.length ≤ m
  | 0, _, c, h => by simp [cfrom] at h; subst h; simp
  | m + 1, first, c, h => by
    rw [cfrom_succ] at h
    rcases List.mem_cons.mp h with e | e
    · subst e; simp
    · obtain ⟨i, _, e⟩ := List.mem_flatMap.mp e
      obtain ⟨b, _, e⟩ := List.mem_flatMap.mp e
      obtain ⟨d, hd, rfl⟩ := List.mem_map.mp e
      have := cfrom_each l w m (i + 1) d hd
      simp; omega
/-- calls_from -/
theorem q12 (l : Lot) (w : Nat) (hw : w ≤ 12) (hl : l.length ≤ 6) : ∀ m first k : Nat, m ≤ 3 → first ≤ 6 → cf (k + m + 1) 12 [lotD l, .int first, .int m, .int w] S = .ok (.lst ((cfrom l w m first).map callsD)) S
  | 0, first, k, _, _ => by
    refine cf_of (df := d12) rfl rfl rfl ?_
    unfold d12
    dsimp only [List.replicate, List.map, List.cons_append, List.nil_append]
    walk_at "st"
    apply wp_ifTb <;> walk_at "ev"
    · rfl
    · walk_at "st"
      walk_at "st"
      rfl
  | m + 1, first, k, hm, hf => by
    refine cf_of (df := d12) rfl rfl rfl ?_
    unfold d12
    dsimp only [List.replicate, List.map, List.cons_append, List.nil_append]
    have ih := fun f (hf : f ≤ 6) => q12 l w hw hl m f k (by omega) hf
    walk_at "st"
    walk_at "st"
    · simp; omega
    apply wp_for (fun i ρ S' => S' = S ∧ ∃ s5 s6 s7 s8 : Sl, ρ = [.fz (lotD l), .fz (.int first), .fz (.int (m + 1 : Nat)), .fz (.int w), .ow (.lst (([] :: ((List.range' first (l.length - first)).take i).flatMap (cfI l w m)).map callsD)), s5, s6, s7, s8]) <;> walk_at "ev"
    · exact ⟨rfl, _, _, _, _, rfl⟩
    · rintro i x ρ1 S1 hx ⟨rfl, s5, s6, s7, s8, rfl⟩
      refine ⟨_, rfl, ?_⟩
      dsimp only [List.set_cons_zero, List.set_cons_succ]
      have hx2 : x < l.length ∧ first ≤ x := by
        have := List.mem_of_getElem? hx
        rw [List.mem_range'] at this
        obtain ⟨j, h1, h2⟩ := this
        omega
      obtain ⟨bx, hbx⟩ : ∃ bx, l[x]? = some bx := ⟨_, List.getElem?_eq_getElem hx2.1⟩
      have hnm : nameAt l x = bx.1 := by unfold nameAt; rw [List.getD_eq_getElem?_getD, hbx]; rfl
      have c12 : (fnK (k + (m + 1))).call 12 [lotD l, .int ((x : Int) + 1), .int ((m + 1 : Nat) - 1), .int w] S1 = .ok (.lst ((cfrom l w m (x + 1)).map callsD)) S1 := by
        have := ih (x + 1) (by omega)
        show cf (k + (m + 1)) 12 _ S1 = _
        rw [← this]
        have e1 : (x : Int) + 1 = ((x + 1 : Nat) : Int) := rfl
        have e2 : ((m + 1 : Nat) : Int) - 1 = (m : Int) := by omega
        rw [e1, e2]; rfl
      walk_at "st"
      apply wp_for (fun j ρ S' => S' = S1 ∧ ∃ s7 s8 : Sl, ρ = [.fz (lotD l), .fz (.int first), .fz (.int (m + 1 : Nat)), .fz (.int w), .ow (.lst ((([] :: ((List.range' first (l.length - first)).take i).flatMap (cfI l w m)) ++ ((List.range (w + 1)).take j).flatMap fun (b : Nat) => (cfrom l w m (x + 1)).map fun c => (nameAt l x, (b : Int)) :: c).map callsD)), .fz (.int x), .fz (.lst ((cfrom l w m (x + 1)).map callsD)), s7, s8]) <;> walk_at "ev"
      · exact ⟨rfl, s7, s8, by simp⟩
      · rintro j y ρ1 S2 hy ⟨rfl, s7, s8, rfl⟩
        refine ⟨_, rfl, ?_⟩
        dsimp only [List.set_cons_zero, List.set_cons_succ]
        have hy2 : (List.range (w + 1))[j]? = some y := hy
        have hcl := cfrom_len l w hw hl m (x + 1) (by omega)
        have h480 : 80 ^ m ≤ 512000 := Nat.pow_le_pow_right (by decide) (by omega : m ≤ 3)
        walk_at "st"
        · rename_i c hc
          have := cfrom_each l w m _ c hc; omega
        · have h1 := cfrom_len l w hw hl (m + 1) first (by omega)
          have h2 := cfrom_len l w hw hl m (x + 1) (by omega)
          have h3 : 80 ^ (m + 1) ≤ 512000 := Nat.pow_le_pow_right (by decide) hm
          rw [cfrom_succ] at h1
          have h5 := flatMap_take_len (cfI l w m) (List.range' first (l.length - first)) i
          have h6 : (((List.range (w + 1)).take j).flatMap fun (b : Nat) => (cfrom l w m (x + 1)).map fun c => (nameAt l x, (b : Int)) :: c).length ≤ 13 * 512000 := by
            rw [List.length_flatMap]
            have := sum_le (fun b : Nat => ((cfrom l w m (x + 1)).map fun c => (nameAt l x, (b : Int)) :: c).length) 512000 ((List.range (w + 1)).take j) fun b _ => by rw [List.length_map]; omega
            have h7 : ((List.range (w + 1)).take j).length ≤ 13 := by rw [List.length_take, List.length_range]; omega
            have h8 : ((List.range (w + 1)).take j).length * 512000 ≤ 13 * 512000 := Nat.mul_le_mul_right 512000 h7
            exact Nat.le_trans this h8
          simp only [List.length_map, List.length_append, List.length_cons] at h1 ⊢
          omega
        · refine wp_nil (TurnQ.nx ⟨rfl, .fz (.int y), s8, ?_⟩)
          rw [flatMap_take _ hy2, hnm]
          simp only [List.map_append, List.map_map, List.append_assoc]
          rfl
      · rintro ρ1 S2 ⟨rfl, s7, s8, rfl⟩
        refine wp_nil (TurnQ.nx ⟨rfl, .fz (.int x), .fz (.lst ((cfrom l w m (x + 1)).map callsD)), s7, s8, ?_⟩)
        have e0 : (List.range ((w : Int) + 1).toNat).length = w + 1 := by rw [List.length_range]; rfl
        have e1 : (List.range (w + 1)).take (w + 1) = List.range (w + 1) := List.take_of_length_le (by simp)
        rw [e0, e1, flatMap_take (cfI l w m) hx]
        rfl
    · rintro ρ1 S1 ⟨rfl, s5, s6, s7, s8, rfl⟩
      walk_at "st"
      walk_at "st"
      rw [List.take_of_length_le (by simp), ← cfrom_succ]
      rfl
end
end TD
end
section
set_option Elab.async false
set_option linter.all false
set_option maxRecDepth 100000
set_option hygiene false in
local macro_rules | `(tactic| walk_at "side") => `(tactic| first | assumption | omega | (simp only [List.length_map, List.length_range, List.length_append, List.length_take, List.length_drop, List.length_cons, List.length_nil, List.length_replicate, List.length_zipIdx, List.length_zip]; omega))
local macro_rules | `(tactic| walk_at "it") => `(tactic| with_reducible first | exact TD.itLot _ | exact TD.itCalls _ | exact TD.itNum _ | exact TD.itNames _ | exact TD.itRng0 _ | exact TD.itRngI _ | exact TD.itRngN _ _ | exact TD.itRng _ _ | exact TD.itEnum _ _ | exact TD.itZip _ _ _ _ | exact TD.itLst _ _ | exact TD.itTup _ _ | exact TD.itStr _)
local macro_rules | `(tactic| walk_at "op") => `(tactic| with_reducible first | exact TD.oAdd _ _ | exact TD.oSub _ _ | apply TD.oMod | apply TD.oDiv | apply TD.oMul | apply TD.oAddS | apply TD.oAddCalls1 | apply TD.oAddCalls | apply TD.oAddNum1 | apply TD.oAddT | apply TD.oAddL | apply TD.oMulC | apply TD.oMulS)
local macro_rules | `(tactic| walk_at "cm") => `(tactic| with_reducible first | exact TD.eqI _ _ _ | exact TD.neI _ _ _ | exact TD.ltI _ _ _ | exact TD.gtI _ _ _ | exact TD.leI _ _ _ | exact TD.geI _ _ _ | exact TD.eqS _ _ _ | exact TD.neS _ _ _ | exact TD.eqB _ _ _ | exact TD.neB _ _ _ | exact TD.cIsNon | exact TD.cIsntNon | exact TD.cIsB | exact TD.cIsntB | exact TD.cInCallsT _ _ | exact TD.cInNames _ _ | exact TD.cInStrL _ _ | exact TD.cInNumL _ _ | exact TD.cInNumT _ _ | exact TD.cInSign _ _ | exact TD.cNin (TD.cInCallsT _ _) | exact TD.cNin (TD.cInNames _ _) | exact TD.cNin (TD.cInStrL _ _) | exact TD.cNin (TD.cInNumL _ _) | exact TD.cNin (TD.cInNumT _ _) | exact TD.cEq (TD.pNum _) (TD.pNum _) (TD.numD_eqv _ _) | exact TD.cNe (TD.pNum _) (TD.pNum _) (TD.numD_eqv _ _) | exact TD.cEq (TD.pLot _) (TD.pLot _) (TD.lot_eqv _ _) | exact TD.cNe (TD.pLot _) (TD.pLot _) (TD.lot_eqv _ _) | exact TD.cEq (TD.pCalls _) (TD.pCalls _) (TD.calls_eqv _ _) | exact TD.cNe (TD.pCalls _) (TD.pCalls _) (TD.calls_eqv _ _))
local macro_rules | `(tactic| walk_at "bi") => `(tactic| with_reducible first | exact TD.bLenLot _ | exact TD.bLenCalls _ | exact TD.bLenNum _ | exact TD.bLenNames _ | exact TD.bLenLM _ _ | exact TD.bLenTM _ _ | exact TD.bLenL _ | exact TD.bLenT _ | apply TD.bLenS | exact TD.bTupNum _ _ | exact TD.bTupNames _ _ | exact TD.bTupLot _ _ _ | exact TD.bTupCalls _ _ _ | exact TD.bIntB _ | exact TD.bIntI _ | apply TD.bIntC | exact TD.bAbs _ | apply TD.bSortCalls | apply TD.bSortNum | apply TD.bSortNames | apply TD.bSortS | exact TD.bSumNum _ | exact TD.bSum _ _ | exact TD.bAll _ _ | exact TD.bAny _ _ | exact TD.bMaxA _ _ _ | exact TD.bMinA _ _ _ | exact TD.bMaxB _ _ _ | apply TD.bMinNear | apply TD.bMinF | apply TD.bMaxF | exact TD.bMax2N _ _ | exact TD.bMax2 _ _ | exact TD.bListT _ | exact TD.bListL _ | exact TD.bTupL _)
local macro_rules | `(tactic| walk_at "ix") => `(tactic| with_reducible first | exact TD.gBit _ | exact TD.gTup0 _ _ | exact TD.gTup1 _ _ _ | exact TD.gTup2 _ _ _ _ | exact TD.gLst0 _ _ | exact TD.gLst1 _ _ _ | exact TD.gLot0 (by assumption) | exact TD.gCalls0 (by assumption) | exact TD.gLot (by assumption) | exact TD.gCalls (by assumption) | exact TD.gNum (by assumption) | exact TD.gMapT (by assumption) | exact TD.gMapL (by assumption) | apply TD.gLst | apply TD.gTup | exact TD.gStr (by walk_at "side") (by assumption) | apply TD.gStrN | apply TD.gStrI | apply TD.gLotN | apply TD.gCallsN | apply TD.gNumN | exact TD.sCallsTo _ _ | exact TD.sCallsFrom _ _ | exact TD.sLotTo _ _ | exact TD.sLotFrom _ _ | exact TD.sTupTo _ _ | exact TD.sTupFrom _ _ | exact TD.sTupN _ _ _ | exact TD.sLstTo _ _ | exact TD.sLstFrom _ _ | exact TD.sLstN _ _ _ | apply TD.sStrFrom1 | apply TD.sStrN1 | exact TD.sCallsFrom1 _ _ | exact TD.sLotFrom1 _ _ | exact TD.sLstFrom1 _ _ | exact TD.sTupFrom1 _ _ | apply TD.sStrTo | apply TD.sStrFrom | apply TD.sStrN)
local macro_rules | `(tactic| walk_at "me") => `(tactic| with_reducible first | apply TD.mJoinC | apply TD.mJoin | apply TD.mIndex | exact TD.mCount _ _ | apply TD.mRstrip | apply TD.mSplit | exact TD.mEndsw _ _ | apply TD.mReplace)
local macro_rules | `(tactic| walk_at "e1") => `(tactic| first
  | with_reducible exact TD.vC
  | ((with_reducible apply TD.vF); rfl)
  | ((with_reducible apply TD.vO); rfl)
  | (with_reducible apply TD.vCall)
  | (with_reducible apply TD.vBin)
  | (with_reducible apply TD.vCmp)
  | (with_reducible apply TD.vAnd)
  | (with_reducible apply TD.vOr)
  | (with_reducible apply TD.vNot)
  | (with_reducible apply TD.vIdx)
  | (with_reducible apply TD.vBi1)
  | (with_reducible apply TD.vBi2)
  | (with_reducible apply TD.vComp)
  | (with_reducible apply TD.vCompF)
  | (with_reducible apply TD.vRng)
  | (with_reducible apply TD.vEnu)
  | (with_reducible apply TD.vZip)
  | (with_reducible apply TD.vTup)
  | (with_reducible apply TD.vLst)
  | (with_reducible apply TD.vMe1)
  | (with_reducible apply TD.vMe2)
  | (with_reducible apply TD.vSlTo)
  | (with_reducible apply TD.vSlFrom)
  | (with_reducible apply TD.vSl)
  | (with_reducible apply TD.vRev)
  | (with_reducible apply TD.vCmp2)
  | (with_reducible apply TD.vNeg)
  | (with_reducible apply TD.vIsa)
  | (with_reducible apply TD.vLcat)
  | (with_reducible apply TD.vLrep)
  | (with_reducible apply TD.fCons)
  | (with_reducible apply TD.vKeys)
  | (with_reducible apply TD.vSortK)
  | (with_reducible apply TD.vGet)
  | (with_reducible apply TD.vOmt)
  | (with_reducible apply TD.vSset)
  | (with_reducible apply TD.vLset)
  | with_reducible exact TD.vDic0
  | with_reducible exact TD.fNil
  | with_reducible exact TD.truB _ _
  | ((with_reducible show TD.isOwn _ _ = false); rfl)
  | ((with_reducible show TD.noPart _ = false); rfl)
  | ((with_reducible show TD.D.isObj _ = false); rfl)
  | ((with_reducible show TD.slot _ _ = _); rfl)
  | ((with_reducible show TD.Me.recv _ _ = true); rfl)
  | with_reducible exact TD.SetE.z
  | with_reducible apply TD.SetE.s
  | walk_at "op" | walk_at "cm" | walk_at "bi" | walk_at "ix" | walk_at "me" | walk_at "it"
  | ((with_reducible show ∀ _, TD.T.put _ _ _ = _); intro _; rfl)
  | ((with_reducible show ∀ _, TD.isOwn _ _ = _); intro _; rfl)
  | walk_at "call"
  | ((with_reducible show _ ≤ _); walk_at "side")
  | ((with_reducible show _ < _); walk_at "side")
  | ((with_reducible show TD.rangeOk _ _ = true); simp only [TD.rangeOk, Bool.and_eq_true, decide_eq_true_eq]; omega)
  | ((with_reducible show _[_]? = some _); first | rfl | assumption)
  | ((with_reducible show _ ≠ _); assumption)
  | ((with_reducible show TD.GoodLot _); assumption)
  | ((with_reducible show TD.CallsOf _ _); assumption)
  | ((with_reducible show _ ∧ _); walk_at "side")
  | ((with_reducible show ∀ _ ∈ List.range _, _); intro d hd; rw [List.mem_range] at hd)
  | ((with_reducible show ∀ _ ∈ _, _); intro _ _)
  | ((with_reducible show _ = true → _); intro _)
  | ((with_reducible show _ = false → _); intro _))
local macro_rules | `(tactic| walk_at "ev") => `(tactic| repeat' walk_at "e1")
local macro_rules | `(tactic| walk_at "st") => `(tactic| (first
  | (with_reducible apply TD.wp_set)
  | (with_reducible apply TD.wp_own)
  | (with_reducible apply TD.wp_par)
  | (with_reducible apply TD.wp_parO)
  | (with_reducible apply TD.wp_app)
  | (with_reducible apply TD.wp_ext)
  | (with_reducible apply TD.wp_putD)
  | (with_reducible apply TD.wp_exp)
  | (with_reducible apply TD.wp_frz)
  | (with_reducible apply TD.wp_ret)
  | (with_reducible apply TD.wp_tset)
  | (with_reducible apply TD.wp_tsetL)
  | (with_reducible apply TD.wp_ifF)
  | with_reducible refine TD.wp_end ?_ | with_reducible refine TD.wp_pass ?_) <;> walk_at "ev")
set_option hygiene false in
local macro_rules | `(tactic| walk_at "call") => `(tactic| ((with_reducible apply TD.callGuard); first | assumption | with_reducible apply TD.q0 | with_reducible apply TD.q1 | with_reducible apply TD.q2 | with_reducible apply TD.q3 | with_reducible exact TD.q6 _ _ | with_reducible apply TD.q14 | with_reducible apply TD.q16 | with_reducible exact TD.q17 _ | with_reducible apply TD.q5 | with_reducible apply TD.q15 | with_reducible apply TD.q19 | with_reducible apply TD.q20 | with_reducible apply TD.q22))
/-! all_calls, may_be, nearest. -/
namespace TD
section
variable {k : Nat} {S : Sto}
/-- all calls of up to m boxes -/
def zeroB (c : Calls) : Bool := (c.length : Int) == 0 || minL (c.map (·.2)) == 0
def allc (l : Lot) (m w : Nat) : List Calls := sortB ltCalls ((cfrom l w m 0).filter zeroB)
theorem q13 (l : Lot) (m w : Nat) (hw : w ≤ 12) (hl : l.length ≤ 6) (hm : m ≤ 3) : cf (k + m + 2) 13 [lotD l, .int m, .int w] S = .ok (.tup ((allc l m w).map callsD)) S := by
  refine cf_of (df := d13) rfl rfl rfl ?_
  unfold d13
  dsimp only [List.replicate, List.map, List.cons_append, List.nil_append]
  have h1 := cfrom_len l w hw hl m 0 hm
  have h3 : 80 ^ m ≤ 512000 := Nat.pow_le_pow_right (by decide) hm
  have c12 : (fnK (k + m + 1)).call 12 [lotD l, .int 0, .int m, .int w] S = .ok (.lst ((cfrom l w m 0).map callsD)) S := q12 l w hw hl m 0 k hm (by omega)
  walk_at "st"
  walk_at "st"
  · rename_i c hc _
    have := cfrom_each l w m 0 c hc; omega
  · rename_i c hc hz
    intro e; subst e; simp at hz
  · refine Nat.le_trans (List.length_filter_le _ _) ?_
    omega
  · rfl
theorem cfrom_calls {l : Lot} {w : Nat} (hw : w ≤ 12) : ∀ m first, ∀ c ∈ cfrom l w m first, ∀ x ∈ c, x.1 ∈ l.map (·.1) ∧ 0 ≤ x.2 ∧ x.2 ≤ w
  | 0, _, c, h => by simp [cfrom] at h; subst h; simp
  | m + 1, first, c, h => by
    rw [cfrom_succ] at h
    rcases List.mem_cons.mp h with e | e
    · subst e; simp
    · obtain ⟨i, hi, e⟩ := List.mem_flatMap.mp e
      obtain ⟨b, hb, e⟩ := List.mem_flatMap.mp e
      obtain ⟨d, hd, rfl⟩ := List.mem_map.mp e
      intro x hx
      rcases List.mem_cons.mp hx with e | e
      · subst e
        rw [List.mem_range'] at hi
        obtain ⟨j, h1, h2⟩ := hi
        have hlt : i < l.length := by omega
        rw [List.mem_range] at hb
        refine ⟨List.mem_map.mpr ⟨l[i], List.getElem_mem _, ?_⟩, by show (0 : Int) ≤ b; omega, by show (b : Int) ≤ w; omega⟩
        unfold nameAt
        rw [List.getD_eq_getElem?_getD, List.getElem?_eq_getElem hlt]; rfl
      · exact cfrom_calls hw m (i + 1) d hd x e
theorem cfrom_of {l : Lot} {w : Nat} (hw : w ≤ 12) {m first : Nat} {c : Calls} (h : c ∈ cfrom l w m first) : CallsOf l c := fun x hx => by
  have := cfrom_calls hw m first c h x hx
  exact ⟨look_of_mem this.1, this.2.1, by omega⟩
theorem allc_mem {l : Lot} {m w : Nat} {c : Calls} : c ∈ allc l m w ↔ c ∈ cfrom l w m 0 ∧ zeroB c = true := by
  unfold allc
  rw [sortB_mem, List.mem_filter]
theorem allc_of {l : Lot} {m w : Nat} (hw : w ≤ 12) {c : Calls} (h : c ∈ allc l m w) : CallsOf l c := cfrom_of hw (allc_mem.mp h).1
theorem allc_len (l : Lot) (m w : Nat) (hw : w ≤ 12) (hl : l.length ≤ 6) (hm : m ≤ 3) : (allc l m w).length ≤ 512000 := by
  unfold allc
  rw [(sortB_perm _).length_eq]
  have h1 := cfrom_len l w hw hl m 0 hm
  have h3 : 80 ^ m ≤ 512000 := Nat.pow_le_pow_right (by decide) hm
  exact Nat.le_trans (List.length_filter_le _ _) (by omega)
theorem heard_len {l : Lot} {cl : Calls} (g : GoodLot l) (hc : CallsOf l cl) : (heardF l cl).length ≤ 25000 := (heardF_ok g hc).size
/-! ### may_be -/
noncomputable def maybeF (l : Lot) (m w : Nat) (T : Sx) : List Calls := (allc l m w).filter fun c => heardF l c == T
theorem q21 {l : Lot} (g : GoodLot l) (m w : Nat) (hw : w ≤ 12) (hl : l.length ≤ 6) (hm : m ≤ 3) (T : Sx) : cf (k + m + 3) 21 [lotD l, .int m, .int w, .str T] S = .ok (.tup ((maybeF l m w T).map callsD)) S := by
  refine cf_of (df := d21) rfl rfl rfl ?_
  unfold d21
  dsimp only [List.replicate, List.map, List.cons_append, List.nil_append]
  have c13 : (fnK (k + m + 2)).call 13 [lotD l, .int m, .int w] S = .ok (.tup ((allc l m w).map callsD)) S := q13 l m w hw hl hm
  have hal := allc_len l m w hw hl hm
  walk_at "st"
  · rename_i c hc
    exact allc_of hw hc
  · rfl
/-! ### nearest -/
theorem nil_allc (l : Lot) (m w : Nat) : [] ∈ allc l m w := by
  rw [allc_mem]
  refine ⟨?_, rfl⟩
  cases m with
  | zero => simp [cfrom]
  | succ m => rw [cfrom_succ]; simp
theorem allc_ne (l : Lot) (m w : Nat) : allc l m w ≠ [] := List.ne_nil_of_mem (nil_allc l m w)
noncomputable def nearF (l : Lot) (m w : Nat) (T : Sx) : Int × Calls := minB ltNear ((allc l m w).map fun c => ((offF T (heardF l c) : Int), c))
theorem q15 {l : Lot} (g : GoodLot l) (m w : Nat) (hw : w ≤ 12) (hl : l.length ≤ 6) (hm : m ≤ 3) (T : Sx) (hT : T.length ≤ 30000) : cf (k + m + 3) 15 [lotD l, .int m, .int w, .str T] S = .ok (nearD (nearF l m w T)) S := by
  refine cf_of (df := d15) rfl rfl rfl ?_
  unfold d15
  dsimp only [List.replicate, List.map, List.cons_append, List.nil_append]
  have c13 : (fnK (k + m + 2)).call 13 [lotD l, .int m, .int w] S = .ok (.tup ((allc l m w).map callsD)) S := q13 l m w hw hl hm
  have hal := allc_len l m w hw hl hm
  have hne := allc_ne l m w
  walk_at "st"
  · rename_i c hc
    exact allc_of hw hc
  · rename_i c hc
    have := heard_len g (allc_of hw hc); omega
  · rfl
end
end TD
end
section
set_option Elab.async false
set_option linter.all false
set_option maxRecDepth 100000
set_option hygiene false in
local macro_rules | `(tactic| walk_at "side") => `(tactic| first | assumption | omega | (simp only [List.length_map, List.length_range, List.length_append, List.length_take, List.length_drop, List.length_cons, List.length_nil, List.length_replicate, List.length_zipIdx, List.length_zip]; omega))
local macro_rules | `(tactic| walk_at "it") => `(tactic| with_reducible first | exact TD.itLot _ | exact TD.itCalls _ | exact TD.itNum _ | exact TD.itNames _ | exact TD.itRng0 _ | exact TD.itRngI _ | exact TD.itRngN _ _ | exact TD.itRng _ _ | exact TD.itEnum _ _ | exact TD.itZip _ _ _ _ | exact TD.itLst _ _ | exact TD.itTup _ _ | exact TD.itStr _)
local macro_rules | `(tactic| walk_at "op") => `(tactic| with_reducible first | exact TD.oAdd _ _ | exact TD.oSub _ _ | apply TD.oMod | apply TD.oDiv | apply TD.oMul | apply TD.oAddS | apply TD.oAddCalls1 | apply TD.oAddCalls | apply TD.oAddNum1 | apply TD.oAddT | apply TD.oAddL | apply TD.oMulC | apply TD.oMulS)
local macro_rules | `(tactic| walk_at "cm") => `(tactic| with_reducible first | exact TD.eqI _ _ _ | exact TD.neI _ _ _ | exact TD.ltI _ _ _ | exact TD.gtI _ _ _ | exact TD.leI _ _ _ | exact TD.geI _ _ _ | exact TD.eqS _ _ _ | exact TD.neS _ _ _ | exact TD.eqB _ _ _ | exact TD.neB _ _ _ | exact TD.cIsNon | exact TD.cIsntNon | exact TD.cIsB | exact TD.cIsntB | exact TD.cInCallsT _ _ | exact TD.cInNames _ _ | exact TD.cInStrL _ _ | exact TD.cInNumL _ _ | exact TD.cInNumT _ _ | exact TD.cInSign _ _ | exact TD.cNin (TD.cInCallsT _ _) | exact TD.cNin (TD.cInNames _ _) | exact TD.cNin (TD.cInStrL _ _) | exact TD.cNin (TD.cInNumL _ _) | exact TD.cNin (TD.cInNumT _ _) | exact TD.cEq (TD.pNum _) (TD.pNum _) (TD.numD_eqv _ _) | exact TD.cNe (TD.pNum _) (TD.pNum _) (TD.numD_eqv _ _) | exact TD.cEq (TD.pLot _) (TD.pLot _) (TD.lot_eqv _ _) | exact TD.cNe (TD.pLot _) (TD.pLot _) (TD.lot_eqv _ _) | exact TD.cEq (TD.pCalls _) (TD.pCalls _) (TD.calls_eqv _ _) | exact TD.cNe (TD.pCalls _) (TD.pCalls _) (TD.calls_eqv _ _))
local macro_rules | `(tactic| walk_at "bi") => `(tactic| with_reducible first | exact TD.bLenLot _ | exact TD.bLenCalls _ | exact TD.bLenNum _ | exact TD.bLenNames _ | exact TD.bLenLM _ _ | exact TD.bLenTM _ _ | exact TD.bLenL _ | exact TD.bLenT _ | apply TD.bLenS | exact TD.bTupNum _ _ | exact TD.bTupNames _ _ | exact TD.bTupLot _ _ _ | exact TD.bTupCalls _ _ _ | exact TD.bIntB _ | exact TD.bIntI _ | apply TD.bIntC | exact TD.bAbs _ | apply TD.bSortCalls | apply TD.bSortNum | apply TD.bSortNames | apply TD.bSortS | exact TD.bSumNum _ | exact TD.bSum _ _ | exact TD.bAll _ _ | exact TD.bAny _ _ | exact TD.bMaxA _ _ _ | exact TD.bMinA _ _ _ | exact TD.bMaxB _ _ _ | apply TD.bMinNear | apply TD.bMinF | apply TD.bMaxF | exact TD.bMax2N _ _ | exact TD.bMax2 _ _ | exact TD.bListT _ | exact TD.bListL _ | exact TD.bTupL _)
local macro_rules | `(tactic| walk_at "ix") => `(tactic| with_reducible first | exact TD.gBit _ | exact TD.gTup0 _ _ | exact TD.gTup1 _ _ _ | exact TD.gTup2 _ _ _ _ | exact TD.gLst0 _ _ | exact TD.gLst1 _ _ _ | exact TD.gLot0 (by assumption) | exact TD.gCalls0 (by assumption) | exact TD.gLot (by assumption) | exact TD.gCalls (by assumption) | exact TD.gNum (by assumption) | exact TD.gMapT (by assumption) | exact TD.gMapL (by assumption) | apply TD.gLst | apply TD.gTup | exact TD.gStr (by walk_at "side") (by assumption) | apply TD.gStrN | apply TD.gStrI | apply TD.gLotN | apply TD.gCallsN | apply TD.gNumN | exact TD.sCallsTo _ _ | exact TD.sCallsFrom _ _ | exact TD.sLotTo _ _ | exact TD.sLotFrom _ _ | exact TD.sTupTo _ _ | exact TD.sTupFrom _ _ | exact TD.sTupN _ _ _ | exact TD.sLstTo _ _ | exact TD.sLstFrom _ _ | exact TD.sLstN _ _ _ | apply TD.sStrFrom1 | apply TD.sStrN1 | exact TD.sCallsFrom1 _ _ | exact TD.sLotFrom1 _ _ | exact TD.sLstFrom1 _ _ | exact TD.sTupFrom1 _ _ | apply TD.sStrTo | apply TD.sStrFrom | apply TD.sStrN)
local macro_rules | `(tactic| walk_at "me") => `(tactic| with_reducible first | apply TD.mJoinC | apply TD.mJoin | apply TD.mIndex | exact TD.mCount _ _ | apply TD.mRstrip | apply TD.mSplit | exact TD.mEndsw _ _ | apply TD.mReplace)
local macro_rules | `(tactic| walk_at "e1") => `(tactic| first
  | with_reducible exact TD.vC
  | ((with_reducible apply TD.vF); rfl)
  | ((with_reducible apply TD.vO); rfl)
  | (with_reducible apply TD.vCall)
  | (with_reducible apply TD.vBin)
  | (with_reducible apply TD.vCmp)
  | (with_reducible apply TD.vAnd)
  | (with_reducible apply TD.vOr)
  | (with_reducible apply TD.vNot)
  | (with_reducible apply TD.vIdx)
  | (with_reducible apply TD.vBi1)
  | (with_reducible apply TD.vBi2)
  | (with_reducible apply TD.vComp)
  | (with_reducible apply TD.vCompF)
  | (with_reducible apply TD.vRng)
  | (with_reducible apply TD.vEnu)
  | (with_reducible apply TD.vZip)
  | (with_reducible apply TD.vTup)
  | (with_reducible apply TD.vLst)
  | (with_reducible apply TD.vMe1)
  | (with_reducible apply TD.vMe2)
  | (with_reducible apply TD.vSlTo)
  | (with_reducible apply TD.vSlFrom)
  | (with_reducible apply TD.vSl)
  | (with_reducible apply TD.vRev)
  | (with_reducible apply TD.vCmp2)
  | (with_reducible apply TD.vNeg)
  | (with_reducible apply TD.vIsa)
  | (with_reducible apply TD.vLcat)
  | (with_reducible apply TD.vLrep)
  | (with_reducible apply TD.fCons)
  | (with_reducible apply TD.vKeys)
  | (with_reducible apply TD.vSortK)
  | (with_reducible apply TD.vGet)
  | (with_reducible apply TD.vOmt)
  | (with_reducible apply TD.vSset)
  | (with_reducible apply TD.vLset)
  | with_reducible exact TD.vDic0
  | with_reducible exact TD.fNil
  | with_reducible exact TD.truB _ _
  | ((with_reducible show TD.isOwn _ _ = false); rfl)
  | ((with_reducible show TD.noPart _ = false); rfl)
  | ((with_reducible show TD.D.isObj _ = false); rfl)
  | ((with_reducible show TD.slot _ _ = _); rfl)
  | ((with_reducible show TD.Me.recv _ _ = true); rfl)
  | with_reducible exact TD.SetE.z
  | with_reducible apply TD.SetE.s
  | walk_at "op" | walk_at "cm" | walk_at "bi" | walk_at "ix" | walk_at "me" | walk_at "it"
  | ((with_reducible show ∀ _, TD.T.put _ _ _ = _); intro _; rfl)
  | ((with_reducible show ∀ _, TD.isOwn _ _ = _); intro _; rfl)
  | walk_at "call"
  | ((with_reducible show _ ≤ _); walk_at "side")
  | ((with_reducible show _ < _); walk_at "side")
  | ((with_reducible show TD.rangeOk _ _ = true); simp only [TD.rangeOk, Bool.and_eq_true, decide_eq_true_eq]; omega)
  | ((with_reducible show _[_]? = some _); first | rfl | assumption)
  | ((with_reducible show _ ≠ _); assumption)
  | ((with_reducible show TD.GoodLot _); assumption)
  | ((with_reducible show TD.CallsOf _ _); assumption)
  | ((with_reducible show _ ∧ _); walk_at "side")
  | ((with_reducible show ∀ _ ∈ List.range _, _); intro d hd; rw [List.mem_range] at hd)
  | ((with_reducible show ∀ _ ∈ _, _); intro _ _)
  | ((with_reducible show _ = true → _); intro _)
  | ((with_reducible show _ = false → _); intro _))
local macro_rules | `(tactic| walk_at "ev") => `(tactic| repeat' walk_at "e1")
local macro_rules | `(tactic| walk_at "st") => `(tactic| (first
  | (with_reducible apply TD.wp_set)
  | (with_reducible apply TD.wp_own)
  | (with_reducible apply TD.wp_par)
  | (with_reducible apply TD.wp_parO)
  | (with_reducible apply TD.wp_app)
  | (with_reducible apply TD.wp_ext)
  | (with_reducible apply TD.wp_putD)
  | (with_reducible apply TD.wp_exp)
  | (with_reducible apply TD.wp_frz)
  | (with_reducible apply TD.wp_ret)
  | (with_reducible apply TD.wp_tset)
  | (with_reducible apply TD.wp_tsetL)
  | (with_reducible apply TD.wp_ifF)
  | with_reducible refine TD.wp_end ?_ | with_reducible refine TD.wp_pass ?_) <;> walk_at "ev")
set_option hygiene false in
local macro_rules | `(tactic| walk_at "call") => `(tactic| ((with_reducible apply TD.callGuard); first | assumption | with_reducible apply TD.q0 | with_reducible apply TD.q1 | with_reducible apply TD.q2 | with_reducible apply TD.q3 | with_reducible exact TD.q6 _ _ | with_reducible apply TD.q14 | with_reducible apply TD.q16 | with_reducible exact TD.q17 _ | with_reducible apply TD.q5 | with_reducible apply TD.q15 | with_reducible apply TD.q19 | with_reducible apply TD.q20 | with_reducible apply TD.q22))
/-! Lots and calls as drawn; refused names; _law_beats. -/
namespace TD
section
variable {k : Nat} {S : Sto}
theorem q8x (n boxes most : Int) (hn : 0 ≤ n) (hb : 0 < boxes) (hb2 : boxes ≤ 6) (hm : 0 < most) (hm2 : most ≤ 99) :
    ∃ l : Lot, DrawnLot l boxes most ∧ cf (k + 3) 8 [.int n, .int boxes, .int most] S = .ok (lotD l) S := by
  rw [cf_eq]; exact r8x rfl rfl rfl n boxes most hn hb hb2 hm hm2
theorem q9x {l : Lot} (g : GoodLot l) (hlen : l.length ≤ 1000) (n wait : Int) (hw : 0 ≤ wait) (hw2 : wait ≤ 1000) :
    ∃ cl : Calls, CallsOk l cl wait ∧ cl.length ≤ 3 ∧ (cl.map (·.1)).Sublist (l.map (·.1)) ∧ (cl ≠ [] → ∃ c ∈ cl, c.2 = 0) ∧ cf (k + 2) 9 [lotD l, .int n, .int wait] S = .ok (callsD cl) S := by
  rw [cf_eq]; exact r9x rfl rfl g hlen n wait hw hw2
/-! ### a name of no box -/
theorem cNotinLot (l : Lot) (nm : Sx) : Cm.run .notin (.str nm) (.dct (lotK l)) S = .ok (!(look l nm).isSome) S := by
  rw [notinD, look_lot, Option.isSome_map]
theorem q1n {l : Lot} {nm : Sx} (g : GoodLot l) (h : look l nm = none) : cf (k + 1) 1 [lotD l, .str nm] S = .xc 2 S := by
  refine cf_of (df := d1) rfl rfl rfl ?_
  unfold d1
  dsimp only [List.replicate, List.map, List.cons_append, List.nil_append]
  refine wp_ifTb (b := !(look l nm).isSome) ?_ (by rw [h]; rfl) (wp_raise rfl)
  refine vCmp (TD.vF rfl) ?_ (cNotinLot l nm)
  exact vBi1 (TD.vF rfl) (dict_lot g.1 S)
theorem fConsX {fn : Fns} {ρ : Env} {e : E} {r : Es} {c : Nat} {S S1 : Sto} (o : isOwn ρ e = false) (h : ev fn ρ e S = .xc c S1) : evF fn ρ (.cons e r) S = .xc c S1 := by
  unfold evF
  show M.bind (M.ask (!isOwn ρ e)) _ S = _
  rw [bindS, o, show M.ask (!false) S = .ok () S from rfl]
  show M.bind (ev fn ρ e) _ S = _
  rw [bindS, h]
theorem vCallA {fn : Fns} {ρ : Env} {l : Es} {n c : Nat} {S S1 : Sto} (h : evF fn ρ l S = .xc c S1) : ev fn ρ (.call n l) S = .xc c S1 := by
  rw [xCall, bindS, h]
theorem vEnuX {fn : Fns} {ρ : Env} {e : E} {c : Nat} {S S1 : Sto} (o : isOwn ρ e = false) (h : ev fn ρ e S = .xc c S1) : ev fn ρ (.enu e) S = .xc c S1 := by
  conv => lhs; unfold ev
  show M.bind (M.ask (!isOwn ρ e)) _ S = _
  rw [bindS, o, show M.ask (!false) S = .ok () S from rfl]
  show M.bind (ev fn ρ e) _ S = _
  rw [bindS, h]
theorem wp_forX {fn : Fns} {ρ : Env} {e : E} {t : T} {b q : Ss} {c : Nat} {S S1 : Sto} {Q : O → Prop} (o : isOwn ρ e = false) (h : ev fn ρ e S = .xc c S1) (k : Q (.xc c S1)) : Wp (exs fn (.cons (.for_ t e b) q) ρ S) Q := by
  rw [yC, yFor, o, h]; exact k
theorem q3n {l : Lot} {nm : Sx} (g : GoodLot l) (h : look l nm = none) : cf (k + 3) 3 [lotD l, .str nm] S = .xc 2 S := by
  refine cf_of (df := d3) rfl rfl rfl ?_
  unfold d3
  dsimp only [List.replicate, List.map, List.cons_append, List.nil_append]
  refine wp_retX rfl (vCallX (n := 2) (S1 := S) (xs := [lotD l, .tup [.tup [.str nm, .int 0]]]) ?_ ?_) rfl
  · walk_at "ev"
  show cf (k + 2) 2 [lotD l, callsD [(nm, 0)]] S = _
  refine cf_of (df := d2) rfl rfl rfl ?_
  unfold d2
  dsimp only [List.replicate, List.map, List.cons_append, List.nil_append]
  walk_at "st"
  apply wp_for (fun i ρ S' => i = 0 ∧ S' = S ∧ ρ = [.fz (lotD l), .fz (callsD [(nm, 0)]), .ow (.dct []), .no, .no, .no, .no, .no]) <;> walk_at "ev"
  · exact ⟨rfl, rfl, rfl⟩
  · rintro i x ρ1 S1 hx ⟨rfl, rfl, rfl⟩
    cases hx
    refine ⟨_, rfl, ?_⟩
    dsimp only [List.set_cons_zero, List.set_cons_succ]
    refine wp_forX rfl (vEnuX rfl (vCallA (fConsX rfl (vCallX (n := 1) (xs := [lotD l, .str nm]) ?_ (q1n g h))))) (.xc rfl)
    walk_at "ev"
  · rintro ρ' S' ⟨h0, _⟩
    cases h0
/-! ### _law_beats -/
theorem joinS_snoc (s : Sx) : ∀ (l : List Sx) (x : Sx), joinS s (l ++ [x]) = if l = [] then x else joinS s l ++ s ++ x
  | [], x => rfl
  | [y], x => by simp [joinS]
  | y :: z :: l, x => by
    have ih := joinS_snoc s (z :: l) x
    simp only [List.cons_append] at ih ⊢
    rw [joinS, ih]
    · simp [joinS]
    · simp
theorem tapsX_ne {n : Nat} (h : 0 < n) : tapsX n ≠ [] := by
  cases n with
  | zero => omega
  | succ n => cases n <;> simp [tapsX, List.replicate_succ, joinS]
theorem beats_ne {cs : List Int} (g : Good cs) : beats cs ≠ [] := by
  obtain ⟨h1, _, h2⟩ := g
  cases cs with
  | nil => exact absurd rfl h1
  | cons c r =>
    have hc := h2 c (by simp)
    have := tapsX_ne (n := c.toNat) (by omega)
    unfold beats
    cases r with
    | nil => simpa [joinS] using this
    | cons d r => simp [joinS]
theorem rep_taps : ∀ n : Nat, (List.replicate (n + 1) ([49, 48] : Sx)).flatten = tapsX (n + 1) ++ [48]
  | 0 => rfl
  | n + 1 => by
    rw [List.replicate_succ, List.flatten_cons, rep_taps n]
    unfold tapsX
    rw [List.replicate_succ (n := n + 1), List.replicate_succ (n := n)]
    simp [joinS]
theorem sStrLast {l : Sx} (h : l.length ≤ 16000000) (h0 : l ≠ []) : D.slice (.str l) .non (.int (-1)) S = .ok (.str l.dropLast) S := by
  show M.bind (M.ask (fits l)) _ S = _
  rw [bindS, ask_of (fits_le h)]
  have hp := List.length_pos_iff.mpr h0
  have : cut l .non (.int (-1)) = some l.dropLast := by
    unfold cut slAt
    have e1 : (-1 : Int) < 0 := by decide
    simp only [e1, if_true, Option.bind_some]
    have e3 : ((-1 : Int) + (l.length : Int)).toNat = l.length - 1 := by omega
    simp [List.dropLast_eq_take, e3]
  show M.of ((cut l .non (.int (-1))).map D.str) S = _
  rw [this]; rfl
theorem beats_snoc (cs : List Int) (c : Int) : beats (cs ++ [c]) = if cs = [] then tapsX c.toNat else beats cs ++ [48, 48, 48] ++ tapsX c.toNat := by
  unfold beats
  rw [List.map_append, List.map_cons, List.map_nil, joinS_snoc]
  by_cases h : cs = [] <;> simp [h]
theorem q44 {cs : List Int} (g : Good cs) : cf (k + 1) 44 [numD cs] S = .ok (.str (beats cs)) S := by
  refine cf_of (df := d44) rfl rfl rfl ?_
  unfold d44
  dsimp only [List.replicate, List.map, List.cons_append, List.nil_append]
  walk_at "st"
  apply wp_for (fun i ρ S' => S' = S ∧ ∃ s2 : Sl, ρ = [.fz (numD cs), .fz (.str (beats (cs.take i))), s2]) <;> walk_at "ev"
  · exact ⟨rfl, _, rfl⟩
  · rintro i c ρ1 S1 hx ⟨rfl, s2, rfl⟩
    refine ⟨_, rfl, ?_⟩
    dsimp only [List.set_cons_zero, List.set_cons_succ]
    have hc := g.2.2 c (List.mem_of_getElem? hx)
    have hg : Small (cs.take i) := ⟨by rw [List.length_take]; have := g.2.1; omega, fun x hx => by have := g.2.2 x (List.mem_of_mem_take hx); omega⟩
    have hlen := beats_len hg
    have hr : rep c ([49, 48] : Sx) = tapsX c.toNat ++ [48] := by
      unfold rep
      obtain ⟨n, hn⟩ : ∃ n, c.toNat = n + 1 := ⟨c.toNat - 1, by omega⟩
      rw [hn]; exact rep_taps n
    have ht := tapsX_len c.toNat
    have hl : D.slice (.str (rep c ([49, 48] : Sx))) .non (.int (-1)) S1 = .ok (.str (tapsX c.toNat)) S1 := by
      rw [hr, sStrLast (by rw [List.length_append]; simp; omega) (by simp)]
      simp
    have hrl : (rep c ([49, 48] : Sx)).length ≤ 201 := by rw [hr, List.length_append]; simp; omega
    refine wp_set (x := .str (beats (cs.take (i + 1)))) ?_ rfl (SetE.s SetE.z) (wp_nil (TurnQ.nx ⟨rfl, _, rfl⟩))
    refine vBin (vBin (vF rfl) (vBin vC (vBi1 (vCmp (vF rfl) vC (neS _ _ _)) (bIntB _)) (oMulS _ _ ?_ (by decide))) (oAddS _ _ ?_)) (vSlTo rfl (vBin vC (vF rfl) (oMulS _ _ (by omega) (by decide))) (vNeg vC) hl) ?_
    · cases (!_) <;> decide
    · have : (rep (b2i (!(beats (cs.take i) == []))) ([48, 48, 48] : Sx)).length ≤ 3 := by cases (!_) <;> decide
      omega
    · have e1 : cs.take (i + 1) = cs.take i ++ [c] := by rw [List.take_add_one, hx]; rfl
      rw [e1, beats_snoc]
      have h3 : (rep (b2i (!(beats (cs.take i) == []))) ([48, 48, 48] : Sx)).length ≤ 3 := by cases (!_) <;> decide
      rw [oAddS _ _ (by rw [List.length_append]; omega)]
      by_cases h0 : cs.take i = []
      · rw [h0, if_pos rfl]; rfl
      · have hb := beats_ne (cs := cs.take i) ⟨h0, hg.1, fun x hx => g.2.2 x (List.mem_of_mem_take hx)⟩
        rw [if_neg h0, beq_eq_false_iff_ne.mpr hb]; rfl
  · rintro ρ' S' ⟨rfl, s2, rfl⟩
    rw [List.take_length]
    walk_at "st"
    rfl
end
end TD
end
section
set_option Elab.async false
set_option linter.all false
set_option maxRecDepth 100000
set_option hygiene false in
local macro_rules | `(tactic| walk_at "side") => `(tactic| first | assumption | omega | (simp only [List.length_map, List.length_range, List.length_append, List.length_take, List.length_drop, List.length_cons, List.length_nil, List.length_replicate, List.length_zipIdx, List.length_zip]; omega))
local macro_rules | `(tactic| walk_at "it") => `(tactic| with_reducible first | exact TD.itLot _ | exact TD.itCalls _ | exact TD.itNum _ | exact TD.itNames _ | exact TD.itRng0 _ | exact TD.itRngI _ | exact TD.itRngN _ _ | exact TD.itRng _ _ | exact TD.itEnum _ _ | exact TD.itZip _ _ _ _ | exact TD.itLst _ _ | exact TD.itTup _ _ | exact TD.itStr _)
local macro_rules | `(tactic| walk_at "op") => `(tactic| with_reducible first | exact TD.oAdd _ _ | exact TD.oSub _ _ | apply TD.oMod | apply TD.oDiv | apply TD.oMul | apply TD.oAddS | apply TD.oAddCalls1 | apply TD.oAddCalls | apply TD.oAddNum1 | apply TD.oAddT | apply TD.oAddL | apply TD.oMulC | apply TD.oMulS)
local macro_rules | `(tactic| walk_at "cm") => `(tactic| with_reducible first | exact TD.eqI _ _ _ | exact TD.neI _ _ _ | exact TD.ltI _ _ _ | exact TD.gtI _ _ _ | exact TD.leI _ _ _ | exact TD.geI _ _ _ | exact TD.eqS _ _ _ | exact TD.neS _ _ _ | exact TD.eqB _ _ _ | exact TD.neB _ _ _ | exact TD.cIsNon | exact TD.cIsntNon | exact TD.cIsB | exact TD.cIsntB | exact TD.cInCallsT _ _ | exact TD.cInNames _ _ | exact TD.cInStrL _ _ | exact TD.cInNumL _ _ | exact TD.cInNumT _ _ | exact TD.cInSign _ _ | exact TD.cNin (TD.cInCallsT _ _) | exact TD.cNin (TD.cInNames _ _) | exact TD.cNin (TD.cInStrL _ _) | exact TD.cNin (TD.cInNumL _ _) | exact TD.cNin (TD.cInNumT _ _) | exact TD.cEq (TD.pNum _) (TD.pNum _) (TD.numD_eqv _ _) | exact TD.cNe (TD.pNum _) (TD.pNum _) (TD.numD_eqv _ _) | exact TD.cEq (TD.pLot _) (TD.pLot _) (TD.lot_eqv _ _) | exact TD.cNe (TD.pLot _) (TD.pLot _) (TD.lot_eqv _ _) | exact TD.cEq (TD.pCalls _) (TD.pCalls _) (TD.calls_eqv _ _) | exact TD.cNe (TD.pCalls _) (TD.pCalls _) (TD.calls_eqv _ _))
local macro_rules | `(tactic| walk_at "bi") => `(tactic| with_reducible first | exact TD.bLenLot _ | exact TD.bLenCalls _ | exact TD.bLenNum _ | exact TD.bLenNames _ | exact TD.bLenLM _ _ | exact TD.bLenTM _ _ | exact TD.bLenL _ | exact TD.bLenT _ | apply TD.bLenS | exact TD.bTupNum _ _ | exact TD.bTupNames _ _ | exact TD.bTupLot _ _ _ | exact TD.bTupCalls _ _ _ | exact TD.bIntB _ | exact TD.bIntI _ | apply TD.bIntC | exact TD.bAbs _ | apply TD.bSortCalls | apply TD.bSortNum | apply TD.bSortNames | apply TD.bSortS | exact TD.bSumNum _ | exact TD.bSum _ _ | exact TD.bAll _ _ | exact TD.bAny _ _ | exact TD.bMaxA _ _ _ | exact TD.bMinA _ _ _ | exact TD.bMaxB _ _ _ | apply TD.bMinNear | apply TD.bMinF | apply TD.bMaxF | exact TD.bMax2N _ _ | exact TD.bMax2 _ _ | exact TD.bListT _ | exact TD.bListL _ | exact TD.bTupL _)
local macro_rules | `(tactic| walk_at "ix") => `(tactic| with_reducible first | exact TD.gBit _ | exact TD.gTup0 _ _ | exact TD.gTup1 _ _ _ | exact TD.gTup2 _ _ _ _ | exact TD.gLst0 _ _ | exact TD.gLst1 _ _ _ | exact TD.gLot0 (by assumption) | exact TD.gCalls0 (by assumption) | exact TD.gLot (by assumption) | exact TD.gCalls (by assumption) | exact TD.gNum (by assumption) | exact TD.gMapT (by assumption) | exact TD.gMapL (by assumption) | apply TD.gLst | apply TD.gTup | exact TD.gStr (by walk_at "side") (by assumption) | apply TD.gStrN | apply TD.gStrI | apply TD.gLotN | apply TD.gCallsN | apply TD.gNumN | exact TD.sCallsTo _ _ | exact TD.sCallsFrom _ _ | exact TD.sLotTo _ _ | exact TD.sLotFrom _ _ | exact TD.sTupTo _ _ | exact TD.sTupFrom _ _ | exact TD.sTupN _ _ _ | exact TD.sLstTo _ _ | exact TD.sLstFrom _ _ | exact TD.sLstN _ _ _ | apply TD.sStrFrom1 | apply TD.sStrN1 | exact TD.sCallsFrom1 _ _ | exact TD.sLotFrom1 _ _ | exact TD.sLstFrom1 _ _ | exact TD.sTupFrom1 _ _ | apply TD.sStrTo | apply TD.sStrFrom | apply TD.sStrN)
local macro_rules | `(tactic| walk_at "me") => `(tactic| with_reducible first | apply TD.mJoinC | apply TD.mJoin | apply TD.mIndex | exact TD.mCount _ _ | apply TD.mRstrip | apply TD.mSplit | exact TD.mEndsw _ _ | apply TD.mReplace)
local macro_rules | `(tactic| walk_at "e1") => `(tactic| first
  | with_reducible exact TD.vC
  | ((with_reducible apply TD.vF); rfl)
  | ((with_reducible apply TD.vO); rfl)
  | (with_reducible apply TD.vCall)
  | (with_reducible apply TD.vBin)
  | (with_reducible apply TD.vCmp)
  | (with_reducible apply TD.vAnd)
  | (with_reducible apply TD.vOr)
  | (with_reducible apply TD.vNot)
  | (with_reducible apply TD.vIdx)
  | (with_reducible apply TD.vBi1)
  | (with_reducible apply TD.vBi2)
  | (with_reducible apply TD.vComp)
  | (with_reducible apply TD.vCompF)
  | (with_reducible apply TD.vRng)
  | (with_reducible apply TD.vEnu)
  | (with_reducible apply TD.vZip)
  | (with_reducible apply TD.vTup)
  | (with_reducible apply TD.vLst)
  | (with_reducible apply TD.vMe1)
  | (with_reducible apply TD.vMe2)
  | (with_reducible apply TD.vSlTo)
  | (with_reducible apply TD.vSlFrom)
  | (with_reducible apply TD.vSl)
  | (with_reducible apply TD.vRev)
  | (with_reducible apply TD.vCmp2)
  | (with_reducible apply TD.vNeg)
  | (with_reducible apply TD.vIsa)
  | (with_reducible apply TD.vLcat)
  | (with_reducible apply TD.vLrep)
  | (with_reducible apply TD.fCons)
  | (with_reducible apply TD.vKeys)
  | (with_reducible apply TD.vSortK)
  | (with_reducible apply TD.vGet)
  | (with_reducible apply TD.vOmt)
  | (with_reducible apply TD.vSset)
  | (with_reducible apply TD.vLset)
  | with_reducible exact TD.vDic0
  | with_reducible exact TD.fNil
  | with_reducible exact TD.truB _ _
  | ((with_reducible show TD.isOwn _ _ = false); rfl)
  | ((with_reducible show TD.noPart _ = false); rfl)
  | ((with_reducible show TD.D.isObj _ = false); rfl)
  | ((with_reducible show TD.slot _ _ = _); rfl)
  | ((with_reducible show TD.Me.recv _ _ = true); rfl)
  | with_reducible exact TD.SetE.z
  | with_reducible apply TD.SetE.s
  | walk_at "op" | walk_at "cm" | walk_at "bi" | walk_at "ix" | walk_at "me" | walk_at "it"
  | ((with_reducible show ∀ _, TD.T.put _ _ _ = _); intro _; rfl)
  | ((with_reducible show ∀ _, TD.isOwn _ _ = _); intro _; rfl)
  | walk_at "call"
  | ((with_reducible show _ ≤ _); walk_at "side")
  | ((with_reducible show _ < _); walk_at "side")
  | ((with_reducible show TD.rangeOk _ _ = true); simp only [TD.rangeOk, Bool.and_eq_true, decide_eq_true_eq]; omega)
  | ((with_reducible show _[_]? = some _); first | rfl | assumption)
  | ((with_reducible show _ ≠ _); assumption)
  | ((with_reducible show TD.GoodLot _); assumption)
  | ((with_reducible show TD.CallsOf _ _); assumption)
  | ((with_reducible show _ ∧ _); walk_at "side")
  | ((with_reducible show ∀ _ ∈ List.range _, _); intro d hd; rw [List.mem_range] at hd)
  | ((with_reducible show ∀ _ ∈ _, _); intro _ _)
  | ((with_reducible show _ = true → _); intro _)
  | ((with_reducible show _ = false → _); intro _))
local macro_rules | `(tactic| walk_at "ev") => `(tactic| repeat' walk_at "e1")
local macro_rules | `(tactic| walk_at "st") => `(tactic| (first
  | (with_reducible apply TD.wp_set)
  | (with_reducible apply TD.wp_own)
  | (with_reducible apply TD.wp_par)
  | (with_reducible apply TD.wp_parO)
  | (with_reducible apply TD.wp_app)
  | (with_reducible apply TD.wp_ext)
  | (with_reducible apply TD.wp_putD)
  | (with_reducible apply TD.wp_exp)
  | (with_reducible apply TD.wp_frz)
  | (with_reducible apply TD.wp_ret)
  | (with_reducible apply TD.wp_tset)
  | (with_reducible apply TD.wp_tsetL)
  | (with_reducible apply TD.wp_ifF)
  | with_reducible refine TD.wp_end ?_ | with_reducible refine TD.wp_pass ?_) <;> walk_at "ev")
set_option hygiene false in
local macro_rules | `(tactic| walk_at "call") => `(tactic| ((with_reducible apply TD.callGuard); first | assumption | with_reducible apply TD.q0 | with_reducible apply TD.q1 | with_reducible apply TD.q2 | with_reducible apply TD.q3 | with_reducible exact TD.q6 _ _ | with_reducible apply TD.q14 | with_reducible apply TD.q16 | with_reducible exact TD.q17 _ | with_reducible apply TD.q5 | with_reducible apply TD.q15 | with_reducible apply TD.q19 | with_reducible apply TD.q20 | with_reducible apply TD.q22))
/-! _law_heard. -/
namespace TD
/-- F with the first j taps of T put over it -/
def overX (F T : Sx) (j : Nat) : Sx := (List.range (max F.length T.length)).map fun t => if t < j ∧ T[t]? = some 49 then 49 else F.getD t 48
theorem overX_len (F T : Sx) (j : Nat) : (overX F T j).length = max F.length T.length := by simp [overX]
theorem overX_get {F T : Sx} {j t : Nat} (h : t < max F.length T.length) : (overX F T j)[t]? = some (if t < j ∧ T[t]? = some 49 then 49 else F.getD t 48) := by
  unfold overX
  rw [List.getElem?_map, List.getElem?_range h]; rfl
theorem overX_zero (F T : Sx) : F ++ List.replicate (T.length - F.length) 48 = overX F T 0 := by
  apply List.ext_getElem?
  intro t
  by_cases h : t < max F.length T.length
  · rw [overX_get h]
    by_cases hf : t < F.length
    · rw [List.getElem?_append_left hf, List.getElem?_eq_getElem hf, List.getD_eq_getElem?_getD, List.getElem?_eq_getElem hf]; simp
    · rw [List.getElem?_append_right (by omega), List.getElem?_replicate, List.getD_eq_getElem?_getD, List.getElem?_eq_none (by omega : F.length ≤ t)]
      have : t - F.length < T.length - F.length := by omega
      simp [this]
  · rw [List.getElem?_eq_none (by rw [List.length_append, List.length_replicate]; omega), List.getElem?_eq_none (by rw [overX_len]; omega)]
theorem overX_tap {F T : Sx} {j : Nat} (h : T[j]? = some 49) : (overX F T j).set j 49 = overX F T (j + 1) := by
  have hj := (List.getElem?_eq_some_iff.mp h).1
  apply List.ext_getElem?
  intro t
  rw [List.getElem?_set]
  by_cases ht : t < max F.length T.length
  · rw [overX_get ht]
    by_cases e : j = t
    · subst e
      rw [if_pos rfl, overX_len, if_pos ht]
      first | done | (rw [overX_get ht, if_pos ⟨Nat.lt_succ_self j, h⟩]) | (rw [if_pos ⟨Nat.lt_succ_self j, h⟩])
    · rw [if_neg e, overX_get ht]
      by_cases h1 : t < j
      · simp [h1, show t < j + 1 by omega]
      · simp [h1, show ¬ t < j + 1 by omega]
  · rw [List.getElem?_eq_none (by rw [overX_len]; omega)]
    have e : j ≠ t := by omega
    rw [if_neg e, List.getElem?_eq_none (by rw [overX_len]; omega)]
theorem overX_quiet {F T : Sx} {j : Nat} (h : T[j]? ≠ some 49) : overX F T j = overX F T (j + 1) := by
  unfold overX
  apply List.map_congr_left
  intro t _
  by_cases e : t = j
  · subst e; simp [h]
  · by_cases h1 : t < j
    · simp [h1, show t < j + 1 by omega]
    · simp [h1, show ¬ t < j + 1 by omega]
theorem heard_over {l : Lot} {cl : Calls} {F : Sx} {c : Sx × Int} (g : GoodLot l) (ok : CallOk l c) (h : Heard l cl F) : Heard l (cl ++ [c]) (overX F (evT l c) (evT l c).length) := by
  have hl := evT_last (l := l) (c := c) (num_good g ok.1)
  have hn := evT_len (num_good g ok.1) ok.2.2
  have hg := fun t => evT_get (l := l) (c := c) ok.2.1 t
  generalize evT l c = T at hl hn hg ⊢
  have ht : ∀ t : Nat, (overX F T T.length)[t]? = some 49 ↔ F[t]? = some 49 ∨ T[t]? = some 49 := fun t => by
    by_cases hm : t < max F.length T.length
    · rw [overX_get hm]
      by_cases e : T[t]? = some 49
      · have := (List.getElem?_eq_some_iff.mp e).1
        rw [if_pos ⟨this, e⟩]
        exact ⟨fun _ => .inr e, fun _ => rfl⟩
      · simp only [e, and_false, if_false, or_false, Option.some.injEq]
        rw [List.getD_eq_getElem?_getD]
        cases q : F[t]? with
        | none => simp
        | some x => simp
    · rw [List.getElem?_eq_none (by rw [overX_len]; omega), List.getElem?_eq_none (by omega : F.length ≤ t), List.getElem?_eq_none (by omega : T.length ≤ t)]
      simp
  refine ⟨fun x hx => ?_, fun t => ?_, fun hne => ?_, ?_⟩
  · obtain ⟨t, htm, rfl⟩ := List.mem_map.mp hx
    split
    · exact .inr rfl
    · rw [List.getD_eq_getElem?_getD]
      cases q : F[t]? with
      | none => exact .inl rfl
      | some y => exact h.signs y (List.mem_of_getElem? q)
  · rw [ht, h.taps, hg]
    simp only [List.mem_append, List.mem_singleton]
    constructor
    · rintro (⟨d, hd, e⟩ | e)
      · exact ⟨d, .inl hd, e⟩
      · exact ⟨c, .inr rfl, e⟩
    · rintro ⟨d, hd | rfl, e⟩
      · exact .inl ⟨d, hd, e⟩
      · exact .inr e
  · rw [List.getLast?_eq_getElem?, overX_len, ht]
    rw [List.getLast?_eq_getElem?] at hl
    have hT : 0 < T.length := by
      cases T with
      | nil => simp at hl
      | cons => simp
    by_cases hm : F.length ≤ T.length
    · right
      rw [Nat.max_eq_right hm]; exact hl
    · left
      rw [Nat.max_eq_left (by omega), ← List.getLast?_eq_getElem?]
      exact h.last (by intro e; rw [e] at hm; simp at hm)
  · rw [overX_len]
    have := h.size
    omega
theorem heard_nil (l : Lot) : Heard l [] [] := ⟨by simp, fun t => by simp, by simp, by simp⟩
section
variable {k : Nat} {S : Sto}
abbrev FD (F : Sx) : D := .lst (F.map fun c => .str [c])
theorem q45 {l : Lot} {cl : Calls} (g : GoodLot l) (hc : CallsOf l cl) : cf (k + 2) 45 [lotD l, callsD cl] S = .ok (.str (heardF l cl)) S := by
  refine cf_of (df := d45) rfl rfl rfl ?_
  unfold d45
  dsimp only [List.replicate, List.map, List.cons_append, List.nil_append]
  refine wp_set (vBi1 (vF rfl) (dict_lot g.1 S)) rfl (.s (.s .z)) ?_
  walk_at "st"
  apply wp_for (fun i ρ S' => S' = S ∧ ∃ (F : Sx) (s4 s5 s6 s7 s8 : Sl), Heard l (cl.take i) F ∧ ρ = [.fz (lotD l), .fz (callsD cl), .fz (.dct (lotK l)), .ow (FD F), s4, s5, s6, s7, s8]) <;> walk_at "ev"
  · exact ⟨rfl, [], .no, .no, .no, .no, .no, heard_nil l, rfl⟩
  · rintro i c ρ1 S1 hx ⟨rfl, F, s4, s5, s6, s7, s8, hF, rfl⟩
    refine ⟨_, rfl, ?_⟩
    dsimp only [List.set_cons_zero, List.set_cons_succ]
    have ok := hc c (List.mem_of_getElem? hx)
    have hn := evT_len (num_good g ok.1) ok.2.2
    have hsz := hF.size
    have hb := beats_len (num_good g ok.1).small
    have hit : D.item (.dct (lotK l)) (.str c.1) S1 = .ok (numD (num l c.1)) S1 := by
      show M.of (lookK (.kS c.1) (lotK l)) S1 = _
      rw [look_lot, look_num ok.1]; rfl
    have c44 : (fnK (k + 1)).call 44 [numD (num l c.1)] S1 = .ok (.str (beats (num l c.1))) S1 := q44 (num_good g ok.1)
    have e6 : rep c.2 ([48] : Sx) ++ beats (num l c.1) = evT l c := by rw [rep_zero]; rfl
    have hrp : rep ((evT l c).length - F.length : Int) [D.str [48]] = (List.replicate ((evT l c).length - F.length) (48 : Nat)).map fun x => D.str [x] := by
      unfold rep
      rw [List.map_replicate, show ((evT l c).length - F.length : Int).toNat = (evT l c).length - F.length by omega]
      induction (evT l c).length - F.length with
      | zero => rfl
      | succ n ih => rw [List.replicate_succ, List.flatten_cons, ih]; rfl
    refine wp_set (S1 := S1) (x := .str (evT l c)) ?_ rfl (.s (.s (.s (.s (.s (.s .z)))))) ?_
    · rw [← e6]
      refine vBin (vBin vC (vF rfl) (oMulS _ _ (by have := ok.2; omega) (by decide))) (vCall (fCons rfl (vIdx (vF rfl) (vF rfl) hit) fNil) c44) (oAddS _ _ ?_)
      have := congrArg List.length e6
      rw [List.length_append] at this
      omega
    refine wp_own (S1 := S1) (x := FD (overX F (evT l c) 0)) ?_ (.s (.s (.s .z))) ?_
    · rw [← overX_zero]
      refine vLcat (vO rfl) (vLrep (fCons rfl vC fNil) (vBin (vBi1 (vF rfl) (bLenS (by omega))) (vBi1 (vO rfl) (bLenLM _ _)) (oSub _ _)) (v := .lst (rep ((evT l c).length - F.length : Int) [D.str [48]])) ?_) ?_
      · show M.bind (M.ask _) _ S1 = _
        rw [bindS, ask_of (by simp; omega)]; rfl
      · rw [hrp]
        show M.bind (M.ask (fits _)) _ S1 = _
        rw [bindS, ask_of (fits_le (by simp; omega))]
        show R.ok (D.lst (F.map (fun c => D.str [c]) ++ (List.replicate ((evT l c).length - F.length) (48 : Nat)).map fun c => D.str [c])) S1 = _
        rw [← List.map_append]
    apply wp_for (fun j ρ S' => S' = S1 ∧ ∃ (s7 s8 : Sl), ρ = [.fz (lotD l), .fz (callsD cl), .fz (.dct (lotK l)), .ow (FD (overX F (evT l c) j)), .fz (.str c.1), .fz (.int c.2), .fz (.str (evT l c)), s7, s8]) <;> walk_at "ev"
    · exact ⟨rfl, _, _, rfl⟩
    · rintro j x ρ2 S2 hx2 ⟨rfl, s7, s8, rfl⟩
      refine ⟨_, rfl, ?_⟩
      dsimp only [List.set_cons_zero, List.set_cons_succ]
      have hj : (evT l c)[x.2]? = some x.1 ∧ x.2 = j := by
        rw [List.getElem?_zipIdx] at hx2
        cases e : (evT l c)[j]? with
        | none => rw [e] at hx2; cases hx2
        | some y => rw [e] at hx2; cases hx2; exact ⟨by simpa using e, by simp⟩
      obtain ⟨hj1, hj2⟩ := hj
      rw [hj2] at hj1
      have hjl := (List.getElem?_eq_some_iff.mp hj1).1
      refine wp_if (vCmp (vF rfl) vC (eqS _ _ _)) (truB _ _) (fun hb1 => ?_) (fun hb0 => ?_)
      · have h49 : x.1 = 49 := by simpa using hb1
        rw [h49] at hj1
        refine wp_putL (x := .str [49]) (n := x.2) (m := j) rfl rfl vC (vF rfl) ?_ (.s (.s (.s .z))) (wp_end (wp_nil (TurnQ.nx ⟨rfl, .fz (.int x.2), .fz (.str [x.1]), ?_⟩)))
        · rw [List.length_map, overX_len, hj2]
          unfold ixAt
          rw [if_pos (by omega), if_pos (by omega)]
          simp
        · rw [← overX_tap hj1]
          have : ∀ G : Sx, (G.map fun c => D.str [c]).set j (D.str [49]) = (G.set j 49).map fun c => D.str [c] := fun G => by rw [List.map_set]
          rw [this]
      · have h49 : x.1 ≠ 49 := by simpa using hb0
        refine wp_end (wp_nil (TurnQ.nx ⟨rfl, .fz (.int x.2), .fz (.str [x.1]), ?_⟩))
        rw [← overX_quiet (by rw [hj1]; intro e; exact h49 (Option.some.inj e))]
    · rintro ρ' S' ⟨rfl, s7, s8, rfl⟩
      refine wp_nil (TurnQ.nx ⟨rfl, _, _, _, _, _, _, ?_, rfl⟩)
      rw [List.take_add_one, hx, List.length_zipIdx]
      exact heard_over g ok hF
  · rintro ρ' S' ⟨rfl, F, s4, s5, s6, s7, s8, hF, rfl⟩
    rw [List.take_length] at hF
    rw [heardF_eq hF]
    have := hF.size
    walk_at "st"
    rw [List.map_id']
    rfl
end
end TD
end
section
set_option Elab.async false
set_option linter.all false
set_option maxRecDepth 100000
set_option hygiene false in
local macro_rules | `(tactic| walk_at "side") => `(tactic| first | assumption | omega | (simp only [List.length_map, List.length_range, List.length_append, List.length_take, List.length_drop, List.length_cons, List.length_nil, List.length_replicate, List.length_zipIdx, List.length_zip]; omega))
local macro_rules | `(tactic| walk_at "it") => `(tactic| with_reducible first | exact TD.itLot _ | exact TD.itCalls _ | exact TD.itNum _ | exact TD.itNames _ | exact TD.itRng0 _ | exact TD.itRngI _ | exact TD.itRngN _ _ | exact TD.itRng _ _ | exact TD.itEnum _ _ | exact TD.itZip _ _ _ _ | exact TD.itLst _ _ | exact TD.itTup _ _ | exact TD.itStr _)
local macro_rules | `(tactic| walk_at "op") => `(tactic| with_reducible first | exact TD.oAdd _ _ | exact TD.oSub _ _ | apply TD.oMod | apply TD.oDiv | apply TD.oMul | apply TD.oAddS | apply TD.oAddCalls1 | apply TD.oAddCalls | apply TD.oAddNum1 | apply TD.oAddT | apply TD.oAddL | apply TD.oMulC | apply TD.oMulS)
local macro_rules | `(tactic| walk_at "cm") => `(tactic| with_reducible first | exact TD.eqI _ _ _ | exact TD.neI _ _ _ | exact TD.ltI _ _ _ | exact TD.gtI _ _ _ | exact TD.leI _ _ _ | exact TD.geI _ _ _ | exact TD.eqS _ _ _ | exact TD.neS _ _ _ | exact TD.eqB _ _ _ | exact TD.neB _ _ _ | exact TD.cIsNon | exact TD.cIsntNon | exact TD.cIsB | exact TD.cIsntB | exact TD.cInCallsT _ _ | exact TD.cInNames _ _ | exact TD.cInStrL _ _ | exact TD.cInNumL _ _ | exact TD.cInNumT _ _ | exact TD.cInSign _ _ | exact TD.cNin (TD.cInCallsT _ _) | exact TD.cNin (TD.cInNames _ _) | exact TD.cNin (TD.cInStrL _ _) | exact TD.cNin (TD.cInNumL _ _) | exact TD.cNin (TD.cInNumT _ _) | exact TD.cEq (TD.pNum _) (TD.pNum _) (TD.numD_eqv _ _) | exact TD.cNe (TD.pNum _) (TD.pNum _) (TD.numD_eqv _ _) | exact TD.cEq (TD.pLot _) (TD.pLot _) (TD.lot_eqv _ _) | exact TD.cNe (TD.pLot _) (TD.pLot _) (TD.lot_eqv _ _) | exact TD.cEq (TD.pCalls _) (TD.pCalls _) (TD.calls_eqv _ _) | exact TD.cNe (TD.pCalls _) (TD.pCalls _) (TD.calls_eqv _ _))
local macro_rules | `(tactic| walk_at "bi") => `(tactic| with_reducible first | exact TD.bLenLot _ | exact TD.bLenCalls _ | exact TD.bLenNum _ | exact TD.bLenNames _ | exact TD.bLenLM _ _ | exact TD.bLenTM _ _ | exact TD.bLenL _ | exact TD.bLenT _ | apply TD.bLenS | exact TD.bTupNum _ _ | exact TD.bTupNames _ _ | exact TD.bTupLot _ _ _ | exact TD.bTupCalls _ _ _ | exact TD.bIntB _ | exact TD.bIntI _ | apply TD.bIntC | exact TD.bAbs _ | apply TD.bSortCalls | apply TD.bSortNum | apply TD.bSortNames | apply TD.bSortS | exact TD.bSumNum _ | exact TD.bSum _ _ | exact TD.bAll _ _ | exact TD.bAny _ _ | exact TD.bMaxA _ _ _ | exact TD.bMinA _ _ _ | exact TD.bMaxB _ _ _ | apply TD.bMinNear | apply TD.bMinF | apply TD.bMaxF | exact TD.bMax2N _ _ | exact TD.bMax2 _ _ | exact TD.bListT _ | exact TD.bListL _ | exact TD.bTupL _)
local macro_rules | `(tactic| walk_at "ix") => `(tactic| with_reducible first | exact TD.gBit _ | exact TD.gTup0 _ _ | exact TD.gTup1 _ _ _ | exact TD.gTup2 _ _ _ _ | exact TD.gLst0 _ _ | exact TD.gLst1 _ _ _ | exact TD.gLot0 (by assumption) | exact TD.gCalls0 (by assumption) | exact TD.gLot (by assumption) | exact TD.gCalls (by assumption) | exact TD.gNum (by assumption) | exact TD.gMapT (by assumption) | exact TD.gMapL (by assumption) | apply TD.gLst | apply TD.gTup | exact TD.gStr (by walk_at "side") (by assumption) | apply TD.gStrN | apply TD.gStrI | apply TD.gLotN | apply TD.gCallsN | apply TD.gNumN | exact TD.sCallsTo _ _ | exact TD.sCallsFrom _ _ | exact TD.sLotTo _ _ | exact TD.sLotFrom _ _ | exact TD.sTupTo _ _ | exact TD.sTupFrom _ _ | exact TD.sTupN _ _ _ | exact TD.sLstTo _ _ | exact TD.sLstFrom _ _ | exact TD.sLstN _ _ _ | apply TD.sStrFrom1 | apply TD.sStrN1 | exact TD.sCallsFrom1 _ _ | exact TD.sLotFrom1 _ _ | exact TD.sLstFrom1 _ _ | exact TD.sTupFrom1 _ _ | apply TD.sStrTo | apply TD.sStrFrom | apply TD.sStrN)
local macro_rules | `(tactic| walk_at "me") => `(tactic| with_reducible first | apply TD.mJoinC | apply TD.mJoin | apply TD.mIndex | exact TD.mCount _ _ | apply TD.mRstrip | apply TD.mSplit | exact TD.mEndsw _ _ | apply TD.mReplace)
local macro_rules | `(tactic| walk_at "e1") => `(tactic| first
  | with_reducible exact TD.vC
  | ((with_reducible apply TD.vF); rfl)
  | ((with_reducible apply TD.vO); rfl)
  | (with_reducible apply TD.vCall)
  | (with_reducible apply TD.vBin)
  | (with_reducible apply TD.vCmp)
  | (with_reducible apply TD.vAnd)
  | (with_reducible apply TD.vOr)
  | (with_reducible apply TD.vNot)
  | (with_reducible apply TD.vIdx)
  | (with_reducible apply TD.vBi1)
  | (with_reducible apply TD.vBi2)
  | (with_reducible apply TD.vComp)
  | (with_reducible apply TD.vCompF)
  | (with_reducible apply TD.vRng)
  | (with_reducible apply TD.vEnu)
  | (with_reducible apply TD.vZip)
  | (with_reducible apply TD.vTup)
  | (with_reducible apply TD.vLst)
  | (with_reducible apply TD.vMe1)
  | (with_reducible apply TD.vMe2)
  | (with_reducible apply TD.vSlTo)
  | (with_reducible apply TD.vSlFrom)
  | (with_reducible apply TD.vSl)
  | (with_reducible apply TD.vRev)
  | (with_reducible apply TD.vCmp2)
  | (with_reducible apply TD.vNeg)
  | (with_reducible apply TD.vIsa)
  | (with_reducible apply TD.vLcat)
  | (with_reducible apply TD.vLrep)
  | (with_reducible apply TD.fCons)
  | (with_reducible apply TD.vKeys)
  | (with_reducible apply TD.vSortK)
  | (with_reducible apply TD.vGet)
  | (with_reducible apply TD.vOmt)
  | (with_reducible apply TD.vSset)
  | (with_reducible apply TD.vLset)
  | with_reducible exact TD.vDic0
  | with_reducible exact TD.fNil
  | with_reducible exact TD.truB _ _
  | ((with_reducible show TD.isOwn _ _ = false); rfl)
  | ((with_reducible show TD.noPart _ = false); rfl)
  | ((with_reducible show TD.D.isObj _ = false); rfl)
  | ((with_reducible show TD.slot _ _ = _); rfl)
  | ((with_reducible show TD.Me.recv _ _ = true); rfl)
  | with_reducible exact TD.SetE.z
  | with_reducible apply TD.SetE.s
  | walk_at "op" | walk_at "cm" | walk_at "bi" | walk_at "ix" | walk_at "me" | walk_at "it"
  | ((with_reducible show ∀ _, TD.T.put _ _ _ = _); intro _; rfl)
  | ((with_reducible show ∀ _, TD.isOwn _ _ = _); intro _; rfl)
  | walk_at "call"
  | ((with_reducible show _ ≤ _); walk_at "side")
  | ((with_reducible show _ < _); walk_at "side")
  | ((with_reducible show TD.rangeOk _ _ = true); simp only [TD.rangeOk, Bool.and_eq_true, decide_eq_true_eq]; omega)
  | ((with_reducible show _[_]? = some _); first | rfl | assumption)
  | ((with_reducible show _ ≠ _); assumption)
  | ((with_reducible show TD.GoodLot _); assumption)
  | ((with_reducible show TD.CallsOf _ _); assumption)
  | ((with_reducible show _ ∧ _); walk_at "side")
  | ((with_reducible show ∀ _ ∈ List.range _, _); intro d hd; rw [List.mem_range] at hd)
  | ((with_reducible show ∀ _ ∈ _, _); intro _ _)
  | ((with_reducible show _ = true → _); intro _)
  | ((with_reducible show _ = false → _); intro _))
local macro_rules | `(tactic| walk_at "ev") => `(tactic| repeat' walk_at "e1")
local macro_rules | `(tactic| walk_at "st") => `(tactic| (first
  | (with_reducible apply TD.wp_set)
  | (with_reducible apply TD.wp_own)
  | (with_reducible apply TD.wp_par)
  | (with_reducible apply TD.wp_parO)
  | (with_reducible apply TD.wp_app)
  | (with_reducible apply TD.wp_ext)
  | (with_reducible apply TD.wp_putD)
  | (with_reducible apply TD.wp_exp)
  | (with_reducible apply TD.wp_frz)
  | (with_reducible apply TD.wp_ret)
  | (with_reducible apply TD.wp_tset)
  | (with_reducible apply TD.wp_tsetL)
  | (with_reducible apply TD.wp_ifF)
  | with_reducible refine TD.wp_end ?_ | with_reducible refine TD.wp_pass ?_) <;> walk_at "ev")
set_option hygiene false in
local macro_rules | `(tactic| walk_at "call") => `(tactic| ((with_reducible apply TD.callGuard); first | assumption | with_reducible apply TD.q0 | with_reducible apply TD.q1 | with_reducible apply TD.q2 | with_reducible apply TD.q3 | with_reducible exact TD.q6 _ _ | with_reducible apply TD.q14 | with_reducible apply TD.q16 | with_reducible exact TD.q17 _ | with_reducible apply TD.q5 | with_reducible apply TD.q15 | with_reducible apply TD.q19 | with_reducible apply TD.q20 | with_reducible apply TD.q22))
/-! are_calls. -/
namespace TD
theorem ltSS (a b : Sx) (S : Sto) : Cm.run .lt (.str a) (.str b) S = .ok (ltS a b) S := by simp [Cm.run, seqS, bindS, pureS, M.ask, D.plain, D.okN, D.alike, D.isNon, D.lt, M.ret, ltS]
theorem gtSS (a b : Sx) (S : Sto) : Cm.run .gt (.str a) (.str b) S = .ok (ltS b a) S := by simp [Cm.run, seqS, bindS, pureS, M.ask, D.plain, D.okN, D.alike, D.isNon, D.lt, M.ret, ltS]
theorem cut_last {α : Type} (l : List α) : cut l .non (.int (-1)) = some l.dropLast := by
  unfold cut slAt
  have e1 : (-1 : Int) < 0 := by decide
  simp only [e1, if_true, Option.bind_some]
  have e3 : ((-1 : Int) + (l.length : Int)).toNat = l.length - 1 := by omega
  simp [List.dropLast_eq_take, e3]
theorem sLstLastM {α : Type} {S : Sto} (l : List α) (e : α → D) : D.slice (.lst (l.map e)) .non (.int (-1)) S = .ok (.lst (l.dropLast.map e)) S := by
  show M.of ((cut (l.map e) .non (.int (-1))).map D.lst) S = _
  rw [cut_last, List.map_dropLast]; rfl
theorem sLstFromM {α : Type} {S : Sto} (l : List α) (e : α → D) : D.slice (.lst (l.map e)) (.int 1) .non S = .ok (.lst ((l.drop 1).map e)) S := by
  rw [show D.slice (.lst (l.map e)) (.int 1) .non S = .ok (.lst ((l.map e).drop 1)) S from sLstFrom _ 1, List.map_drop]
theorem minL_zero {xs : List Int} (h : 0 ∈ xs) (h2 : ∀ x ∈ xs, 0 ≤ x) : minL xs = 0 := by
  cases xs with
  | nil => cases h
  | cons x r =>
    show minI x r = 0
    have h3 : minI x r ≤ 0 := by
      rcases List.mem_cons.mp h with e | e
      · rw [e]; exact (minI_le r x).1
      · exact (minI_le r x).2 0 e
    have h4 : 0 ≤ minI x r := by
      rcases minI_mem r x with e | e
      · rw [e]; exact h2 x (by simp)
      · exact h2 _ (by simp [e])
    omega
section
variable {k : Nat} {S : Sto}
theorem q28 (x lo hi : Int) : cf (k + 1) 28 [.int x, .int lo, .int hi] S = .ok (.bl (!decide (x < lo) && !decide (hi < x))) S := by
  refine cf_of (df := d28) rfl rfl rfl ?_
  unfold d28
  dsimp only [List.replicate, List.map, List.cons_append, List.nil_append]
  walk_at "st"
  · rfl
theorem q29 (a b : D) : cf (k + 1) 29 [.tup [a, b]] S = .ok (.bl true) S := by
  refine cf_of (df := d29) rfl rfl rfl ?_
  unfold d29
  dsimp only [List.replicate, List.map, List.cons_append, List.nil_append]
  walk_at "st"
  · rfl
theorem bDict {l : Lot} (g : GoodLot l) : Bi.run1 .dict (lotD l) S = .ok (.dct (lotK l)) S := dict_lot g.1 S
theorem cInLot (l : Lot) (nm : Sx) : Cm.run .isin (.str nm) (.dct (lotK l)) S = .ok (look l nm).isSome S := by
  show R.ok (lookK (.kS nm) (lotK l)).isSome S = _
  rw [look_lot, Option.isSome_map]
set_option hygiene false in
local macro_rules | `(tactic| walk_at "bi") => `(tactic| with_reducible first | exact TD.bDict (by assumption))
set_option hygiene false in
local macro_rules | `(tactic| walk_at "ix") => `(tactic| with_reducible first | exact TD.sLstLastM _ _ | exact TD.sLstFromM _ _)
set_option hygiene false in
local macro_rules | `(tactic| walk_at "cm") => `(tactic| with_reducible first | exact TD.ltSS _ _ _ | exact TD.gtSS _ _ _ | exact TD.cInLot _ _ | exact TD.cNotinLot _ _)
set_option hygiene false in
local macro_rules | `(tactic| walk_at "call") => `(tactic| ((with_reducible apply TD.callGuard); first | with_reducible exact TD.q28 _ _ _ | with_reducible exact TD.q29 _ _ | with_reducible apply TD.q30))
def risesB (ns : List Sx) : Bool := (ns.dropLast.zip (ns.drop 1)).all fun p => ltS p.1 p.2
theorem q30 (ns : List Sx) (h : ns.length ≤ 1000) : cf (k + 1) 30 [.lst (ns.map .str)] S = .ok (.bl (risesB ns)) S := by
  refine cf_of (df := d30) rfl rfl rfl ?_
  unfold d30
  dsimp only [List.replicate, List.map, List.cons_append, List.nil_append]
  walk_at "st"
  · rfl
theorem rises_of {ns : List Sx} (h : ns.Pairwise fun a b => a < b) : risesB ns = true := by
  unfold risesB
  rw [List.all_eq_true]
  intro p hp
  obtain ⟨i, hi⟩ := List.mem_iff_getElem?.mp hp
  rw [List.getElem?_zip_eq_some] at hi
  obtain ⟨h1, h2⟩ := hi
  rw [List.getElem?_drop] at h2
  rw [List.dropLast_eq_take, List.getElem?_take] at h1
  split at h1
  · obtain ⟨l1, e1⟩ := List.getElem?_eq_some_iff.mp h1
    obtain ⟨l2, e2⟩ := List.getElem?_eq_some_iff.mp h2
    have := List.pairwise_iff_getElem.mp h i (1 + i) l1 l2 (by omega)
    rw [e1, e2] at this
    unfold ltS
    exact decide_eq_true this
  · cases h1
theorem q31 {l : Lot} {cl : Calls} {w : Int} (g : GoodLot l) (h3 : cl.length ≤ 3) (hc : ∀ c ∈ cl, (look l c.1).isSome = true ∧ 0 ≤ c.2 ∧ c.2 ≤ w) (hr : (cl.map (·.1)).Pairwise fun a b => a < b) (hz : cl ≠ [] → ∃ c ∈ cl, c.2 = 0) :
    cf (k + 2) 31 [lotD l, .int w, callsD cl] S = .ok (.bl true) S := by
  refine cf_of (df := d31) rfl rfl rfl ?_
  unfold d31
  dsimp only [List.replicate, List.map, List.cons_append, List.nil_append]
  have hn : ((cl.map (·.1)).length : Nat) ≤ 1000 := by rw [List.length_map]; omega
  have c30 : (fnK (k + 1)).call 30 [.lst ((cl.map (·.1)).map .str)] S = .ok (.bl (risesB (cl.map (·.1)))) S := q30 _ hn
  rw [List.map_map] at c30
  walk_at "st"
  · show (!true || decide ((3 : Int) < cl.length)) = false
    simp
    omega
  walk_at "st"
  · rw [Bool.not_eq_false', List.all_eq_true]
    intro c hcm
    have := hc c hcm
    show (true && (true && (!decide (c.2 < 0) && !decide (w < c.2)))) = true
    simp
    omega
  walk_at "st"
  · have h1 : (cl.all fun x => (look l x.1).isSome) = true := List.all_eq_true.mpr fun c hcm => (hc c hcm).1
    rw [h1, rises_of hr]; rfl
  walk_at "st"
  · rename_i hb
    intro e
    rw [e] at hb
    cases hb
  · have : (((cl.length : Int) == 0) || (minL (cl.map fun x => x.2) == 0)) = true := by
      cases cl with
      | nil => rfl
      | cons c r =>
        obtain ⟨d, hd, e0⟩ := hz (by simp)
        rw [minL_zero (List.mem_map.mpr ⟨d, hd, e0⟩) (fun x hx => by
          obtain ⟨y, hy, rfl⟩ := List.mem_map.mp hx
          exact (hc y hy).2.1)]
        simp
    show R.ok (D.bl _) S = _
    rw [this]
end
end TD
end
section
set_option Elab.async false
set_option linter.all false
set_option maxRecDepth 100000
/-! All calls, made from the lot box by box or call by call. -/
namespace TD
theorem nodup_fm {α β : Type} {f : α → List β} : ∀ {l : List α}, l.Nodup → (∀ x ∈ l, (f x).Nodup) → (∀ x ∈ l, ∀ y ∈ l, ∀ c, c ∈ f x → c ∈ f y → x = y) → (l.flatMap f).Nodup
  | [], _, _, _ => by simp
  | a :: l, h, hf, hd => by
    rw [List.nodup_cons] at h
    rw [List.flatMap_cons, List.nodup_append]
    refine ⟨hf a (by simp), nodup_fm h.2 (fun x hx => hf x (by simp [hx])) (fun x hx y hy => hd x (by simp [hx]) y (by simp [hy])), fun c hc d hd' e => ?_⟩
    subst e
    obtain ⟨y, hy, hyc⟩ := List.mem_flatMap.mp hd'
    have := hd a (by simp) y (by simp [hy]) c hc hyc
    subst this
    exact h.1 hy
abbrev RiseL (l : Lot) : Prop := (l.map (·.1)).Pairwise fun a b => a < b
theorem nameAt_get {l : Lot} {i : Nat} (h : i < l.length) : (l.map (·.1))[i]'(by simpa using h) = nameAt l i := by
  unfold nameAt
  rw [List.getElem_map, List.getD_eq_getElem?_getD, List.getElem?_eq_getElem h]; rfl
theorem name_lt {l : Lot} (r : RiseL l) {i j : Nat} (h : i < j) (hj : j < l.length) : nameAt l i < nameAt l j := by
  have := List.pairwise_iff_getElem.mp r i j (by simp; omega) (by simpa using hj) h
  rw [nameAt_get (by omega), nameAt_get hj] at this
  exact this
theorem name_inj {l : Lot} (r : RiseL l) {i j : Nat} (hi : i < l.length) (hj : j < l.length) (e : nameAt l i = nameAt l j) : i = j := by
  rcases Nat.lt_trichotomy i j with h | h | h
  · have := name_lt r h hj; rw [e] at this; exact absurd this (List.lt_irrefl _)
  · exact h
  · have := name_lt r h hi; rw [e] at this; exact absurd this (List.lt_irrefl _)
theorem mem_dropN {l : Lot} {f : Nat} {n : Sx} : n ∈ (l.drop f).map (·.1) ↔ ∃ i, f ≤ i ∧ i < l.length ∧ n = nameAt l i := by
  rw [List.map_drop]
  constructor
  · intro h
    obtain ⟨j, hj, e⟩ := List.mem_iff_getElem.mp h
    rw [List.length_drop, List.length_map] at hj
    rw [List.getElem_drop, nameAt_get (by omega)] at e
    exact ⟨f + j, by omega, by omega, e.symm⟩
  · rintro ⟨i, h1, h2, rfl⟩
    refine List.mem_iff_getElem.mpr ⟨i - f, by simp; omega, ?_⟩
    rw [List.getElem_drop, ← nameAt_get h2]
    congr 1; omega
/-- calls of boxes from f on -/
def OkC (l : Lot) (w f : Nat) (c : Calls) : Prop := (c.map (·.1)).Pairwise (fun a b => a < b) ∧ ∀ x ∈ c, x.1 ∈ (l.drop f).map (·.1) ∧ ∃ b : Nat, b ≤ w ∧ x.2 = b
theorem cfrom_iff {l : Lot} {w : Nat} (r : RiseL l) : ∀ {m f : Nat} {c : Calls}, c ∈ cfrom l w m f ↔ c.length ≤ m ∧ OkC l w f c
  | 0, f, c => by
    show c ∈ [[]] ↔ _
    rw [List.mem_singleton]
    constructor
    · rintro rfl; exact ⟨by simp, by simp, by simp⟩
    · rintro ⟨h, _⟩; exact List.length_eq_zero_iff.mp (by omega)
  | m + 1, f, c => by
    rw [cfrom_succ, List.mem_cons, List.mem_flatMap]
    constructor
    · rintro (rfl | ⟨i, hi, hc⟩)
      · exact ⟨by simp, by simp, by simp⟩
      · obtain ⟨b, hb, hc⟩ := List.mem_flatMap.mp hc
        obtain ⟨d, hd, rfl⟩ := List.mem_map.mp hc
        obtain ⟨h1, h2, h3⟩ := (cfrom_iff r).mp hd
        rw [List.mem_range'_1] at hi
        rw [List.mem_range] at hb
        refine ⟨by simp; omega, ?_, fun x hx => ?_⟩
        · rw [List.map_cons, List.pairwise_cons]
          refine ⟨fun n hn => ?_, h2⟩
          obtain ⟨x, hx, rfl⟩ := List.mem_map.mp hn
          obtain ⟨j, j1, j2, e⟩ := mem_dropN.mp (h3 x hx).1
          rw [e]
          exact name_lt r (by omega) j2
        · rcases List.mem_cons.mp hx with rfl | hx
          · exact ⟨mem_dropN.mpr ⟨i, hi.1, by omega, rfl⟩, b, by omega, rfl⟩
          · obtain ⟨j, j1, j2, e⟩ := mem_dropN.mp (h3 x hx).1
            exact ⟨mem_dropN.mpr ⟨j, by omega, j2, e⟩, (h3 x hx).2⟩
    · rintro ⟨h1, h2, h3⟩
      cases c with
      | nil => exact .inl rfl
      | cons x d =>
        right
        rw [List.map_cons, List.pairwise_cons] at h2
        obtain ⟨⟨i, i1, i2, e⟩, b, hb, eb⟩ := (⟨mem_dropN.mp (h3 x (by simp)).1, (h3 x (by simp)).2⟩ : (∃ i, f ≤ i ∧ i < l.length ∧ x.1 = nameAt l i) ∧ ∃ b : Nat, b ≤ w ∧ x.2 = b)
        refine ⟨i, by rw [List.mem_range'_1]; omega, List.mem_flatMap.mpr ⟨b, by rw [List.mem_range]; omega, List.mem_map.mpr ⟨d, (cfrom_iff r).mpr ⟨by simp at h1; omega, h2.2, fun y hy => ?_⟩, ?_⟩⟩⟩
        · obtain ⟨j, j1, j2, ej⟩ := mem_dropN.mp (h3 y (by simp [hy])).1
          have hlt := h2.1 y.1 (List.mem_map.mpr ⟨y, hy, rfl⟩)
          refine ⟨mem_dropN.mpr ⟨j, ?_, j2, ej⟩, (h3 y (by simp [hy])).2⟩
          apply Nat.lt_of_not_le
          intro hle
          rcases Nat.lt_or_eq_of_le hle with q | q
          · have := name_lt r q i2
            rw [← ej, ← e] at this
            exact absurd (List.lt_trans this hlt) (List.lt_irrefl _)
          · rw [ej, e, q] at hlt
            exact absurd hlt (List.lt_irrefl _)
        · rw [← e, ← eb]
theorem cfrom_nodup {l : Lot} {w : Nat} (r : RiseL l) : ∀ m f, (cfrom l w m f).Nodup
  | 0, f => by simp [cfrom]
  | m + 1, f => by
    rw [cfrom_succ, List.nodup_cons]
    refine ⟨fun h => ?_, nodup_fm (List.nodup_range') (fun i hi => nodup_fm List.nodup_range (fun b hb => ?_) fun b hb b' hb' c h1 h2 => ?_) fun i hi j hj c h1 h2 => ?_⟩
    · obtain ⟨i, _, h⟩ := List.mem_flatMap.mp h
      obtain ⟨b, _, h⟩ := List.mem_flatMap.mp h
      obtain ⟨d, _, h⟩ := List.mem_map.mp h
      cases h
    · have := cfrom_nodup (w := w) r m (i + 1)
      exact List.Pairwise.map (R := fun a b : Calls => a ≠ b) _ (fun a b h e => h (by cases e; rfl)) this
    · obtain ⟨d, _, rfl⟩ := List.mem_map.mp h1
      obtain ⟨d', _, e⟩ := List.mem_map.mp h2
      cases e; rfl
    · obtain ⟨b, _, h1⟩ := List.mem_flatMap.mp h1
      obtain ⟨d, _, rfl⟩ := List.mem_map.mp h1
      obtain ⟨b', _, h2⟩ := List.mem_flatMap.mp h2
      obtain ⟨d', _, e⟩ := List.mem_map.mp h2
      rw [List.mem_range'_1] at hi hj
      have e1 : nameAt l j = nameAt l i := by injection e with e1; injection e1
      exact (name_inj r (by omega) (by omega) e1).symm
/-! ### call by call -/
def lastLt (c : Calls) (n : Sx) : Bool := match c.getLast? with
  | none => true
  | some x => ltS x.1 n
def stepB (w : Nat) (c : Calls) (b : Sx × List Int) : List Calls := if lastLt c b.1 then (List.range (w + 1)).map fun (x : Nat) => c ++ [(b.1, (x : Int))] else []
def stepC (l : Lot) (w : Nat) (c : Calls) : List Calls := l.flatMap (stepB w c)
def layC (l : Lot) (w : Nat) : Nat → List Calls
  | 0 => [[]]
  | j + 1 => (layC l w j).flatMap (stepC l w)
def foundC (l : Lot) (w m : Nat) : List Calls := (List.range (m + 1)).flatMap (layC l w)
theorem mem_step {l : Lot} {w : Nat} {c d : Calls} : d ∈ stepC l w c ↔ ∃ n ∈ l.map (·.1), lastLt c n = true ∧ ∃ x : Nat, x ≤ w ∧ d = c ++ [(n, (x : Int))] := by
  unfold stepC
  rw [List.mem_flatMap]
  constructor
  · rintro ⟨b, hb, h⟩
    unfold stepB at h
    split at h
    · obtain ⟨x, hx, rfl⟩ := List.mem_map.mp h
      rw [List.mem_range] at hx
      exact ⟨b.1, List.mem_map.mpr ⟨b, hb, rfl⟩, by assumption, x, by omega, rfl⟩
    · cases h
  · rintro ⟨n, hn, h1, x, hx, rfl⟩
    obtain ⟨b, hb, rfl⟩ := List.mem_map.mp hn
    refine ⟨b, hb, ?_⟩
    unfold stepB
    rw [if_pos h1]
    exact List.mem_map.mpr ⟨x, by rw [List.mem_range]; omega, rfl⟩
theorem rise_snoc {c : Calls} {n : Sx} {x : Int} : ((c ++ [(n, x)]).map (·.1)).Pairwise (fun a b => a < b) ↔ (c.map (·.1)).Pairwise (fun a b => a < b) ∧ lastLt c n = true := by
  rw [List.map_append, List.pairwise_append]
  simp only [List.map_cons, List.map_nil, List.pairwise_singleton, List.mem_singleton, forall_eq, true_and]
  refine and_congr_right fun hp => ?_
  unfold lastLt
  constructor
  · intro h
    split
    · rfl
    · rename_i y hy
      exact decide_eq_true (h y.1 (List.mem_map.mpr ⟨y, List.mem_of_getLast? hy, rfl⟩))
  · intro h a ha
    split at h
    · rename_i hn
      rw [List.getLast?_eq_none_iff.mp hn] at ha
      cases ha
    · rename_i y hy
      have h : y.1 < n := of_decide_eq_true h
      obtain ⟨ys, rfl⟩ : ∃ ys, c = ys ++ [y] := List.getLast?_eq_some_iff.mp hy
      rw [List.map_append, List.pairwise_append] at hp
      rw [List.map_append, List.mem_append] at ha
      rcases ha with ha | ha
      · exact List.lt_trans (hp.2.2 a ha y.1 (by simp)) h
      · have : a = y.1 := by simpa using ha
        rw [this]; exact h
theorem lay_iff {l : Lot} {w : Nat} : ∀ {j : Nat} {c : Calls}, c ∈ layC l w j ↔ c.length = j ∧ OkC l w 0 c
  | 0, c => by
    show c ∈ [[]] ↔ _
    rw [List.mem_singleton]
    constructor
    · rintro rfl; exact ⟨rfl, by simp, by simp⟩
    · rintro ⟨h, _⟩; exact List.length_eq_zero_iff.mp h
  | j + 1, c => by
    show c ∈ (layC l w j).flatMap (stepC l w) ↔ _
    rw [List.mem_flatMap]
    constructor
    · rintro ⟨d, hd, h⟩
      obtain ⟨h1, h2, h3⟩ := lay_iff.mp hd
      obtain ⟨n, hn, hl, x, hx, rfl⟩ := mem_step.mp h
      refine ⟨by simp [h1], rise_snoc.mpr ⟨h2, hl⟩, fun y hy => ?_⟩
      rcases List.mem_append.mp hy with hy | hy
      · exact h3 y hy
      · have : y = (n, (x : Int)) := by simpa using hy
        rw [this]
        exact ⟨hn, x, hx, rfl⟩
    · rintro ⟨h1, h2, h3⟩
      obtain ⟨d, y, rfl⟩ : ∃ d y, c = d ++ [y] := by
        rcases List.eq_nil_or_concat c with e | ⟨d, y, e⟩
        · rw [e] at h1; cases h1
        · exact ⟨d, y, by simpa using e⟩
      obtain ⟨n, z⟩ := y
      obtain ⟨h4, h5⟩ := rise_snoc.mp h2
      obtain ⟨h6, b, hb, eb⟩ := h3 (n, z) (by simp)
      have eb : z = (b : Int) := eb
      refine ⟨d, lay_iff.mpr ⟨by simp at h1; omega, h4, fun x hx => h3 x (by simp [hx])⟩, mem_step.mpr ⟨n, h6, h5, b, hb, by rw [eb]⟩⟩
theorem lay_nodup {l : Lot} {w : Nat} (r : RiseL l) : ∀ j, (layC l w j).Nodup
  | 0 => by simp [layC]
  | j + 1 => by
    refine nodup_fm (lay_nodup r j) (fun c _ => nodup_fm ?_ (fun b _ => ?_) fun b hb b' hb' d h1 h2 => ?_) fun c hc c' hc' d h1 h2 => ?_
    · exact (List.Pairwise.of_map (S := fun a b : Sx => a ≠ b) (·.1) (fun a b h e => h (by rw [e])) (r.imp fun {a b} h e => by rw [e] at h; exact List.lt_irrefl _ h))
    · unfold stepB
      split
      · exact List.Pairwise.map (R := fun a b : Nat => a ≠ b) _ (fun a b h e => h (Int.ofNat_inj.mp (by simpa using e))) List.nodup_range
      · exact .nil
    · unfold stepB at h1 h2
      split at h1
      · obtain ⟨x, _, rfl⟩ := List.mem_map.mp h1
        split at h2
        · obtain ⟨x', _, e⟩ := List.mem_map.mp h2
          have e : b'.1 = b.1 := by simp at e; exact e.1
          have hn : (l.map (·.1)).Nodup := r.imp fun {a b} h e => by rw [e] at h; exact List.lt_irrefl _ h
          obtain ⟨i, hi, ei⟩ := List.mem_iff_getElem.mp hb
          obtain ⟨i', hi', ei'⟩ := List.mem_iff_getElem.mp hb'
          have h5 := name_inj r hi hi' (by rw [← nameAt_get hi, ← nameAt_get hi', List.getElem_map, List.getElem_map, ei, ei', e])
          subst h5
          rw [← ei, ← ei']
        · cases h2
      · cases h1
    · obtain ⟨n, _, _, x, _, rfl⟩ := mem_step.mp h1
      obtain ⟨n', _, _, x', _, e⟩ := mem_step.mp h2
      have := List.append_inj' e rfl
      exact this.1
theorem found_perm {l : Lot} {w m : Nat} (r : RiseL l) : (cfrom l w m 0).Perm (foundC l w m) := by
  refine (List.perm_ext_iff_of_nodup (cfrom_nodup r m 0) (nodup_fm List.nodup_range (fun j _ => lay_nodup r j) fun i _ j _ c h1 h2 => ?_)).mpr fun c => ?_
  · rw [← (lay_iff.mp h1).1, ← (lay_iff.mp h2).1]
  · rw [cfrom_iff r]
    rw [List.mem_flatMap]
    constructor
    · rintro ⟨h1, h2⟩
      exact ⟨c.length, by rw [List.mem_range]; omega, lay_iff.mpr ⟨rfl, h2⟩⟩
    · rintro ⟨j, hj, h⟩
      rw [List.mem_range] at hj
      obtain ⟨h1, h2⟩ := lay_iff.mp h
      exact ⟨by omega, h2⟩
theorem every_eq {l : Lot} {w m : Nat} (r : RiseL l) : sortB ltCalls ((foundC l w m).filter zeroB) = allc l m w :=
  (sortB_eq ord_calls.sto ((found_perm r).filter _)).symm
end TD
end
section
set_option Elab.async false
set_option linter.all false
set_option maxRecDepth 100000
set_option hygiene false in
local macro_rules | `(tactic| walk_at "side") => `(tactic| first | assumption | omega | (simp only [List.length_map, List.length_range, List.length_append, List.length_take, List.length_drop, List.length_cons, List.length_nil, List.length_replicate, List.length_zipIdx, List.length_zip]; omega))
local macro_rules | `(tactic| walk_at "it") => `(tactic| with_reducible first | exact TD.itLot _ | exact TD.itCalls _ | exact TD.itNum _ | exact TD.itNames _ | exact TD.itRng0 _ | exact TD.itRngI _ | exact TD.itRngN _ _ | exact TD.itRng _ _ | exact TD.itEnum _ _ | exact TD.itZip _ _ _ _ | exact TD.itLst _ _ | exact TD.itTup _ _ | exact TD.itStr _)
local macro_rules | `(tactic| walk_at "op") => `(tactic| with_reducible first | exact TD.oAdd _ _ | exact TD.oSub _ _ | apply TD.oMod | apply TD.oDiv | apply TD.oMul | apply TD.oAddS | apply TD.oAddCalls1 | apply TD.oAddCalls | apply TD.oAddNum1 | apply TD.oAddT | apply TD.oAddL | apply TD.oMulC | apply TD.oMulS)
local macro_rules | `(tactic| walk_at "cm") => `(tactic| with_reducible first | exact TD.eqI _ _ _ | exact TD.neI _ _ _ | exact TD.ltI _ _ _ | exact TD.gtI _ _ _ | exact TD.leI _ _ _ | exact TD.geI _ _ _ | exact TD.eqS _ _ _ | exact TD.neS _ _ _ | exact TD.eqB _ _ _ | exact TD.neB _ _ _ | exact TD.cIsNon | exact TD.cIsntNon | exact TD.cIsB | exact TD.cIsntB | exact TD.cInCallsT _ _ | exact TD.cInNames _ _ | exact TD.cInStrL _ _ | exact TD.cInNumL _ _ | exact TD.cInNumT _ _ | exact TD.cInSign _ _ | exact TD.cNin (TD.cInCallsT _ _) | exact TD.cNin (TD.cInNames _ _) | exact TD.cNin (TD.cInStrL _ _) | exact TD.cNin (TD.cInNumL _ _) | exact TD.cNin (TD.cInNumT _ _) | exact TD.cEq (TD.pNum _) (TD.pNum _) (TD.numD_eqv _ _) | exact TD.cNe (TD.pNum _) (TD.pNum _) (TD.numD_eqv _ _) | exact TD.cEq (TD.pLot _) (TD.pLot _) (TD.lot_eqv _ _) | exact TD.cNe (TD.pLot _) (TD.pLot _) (TD.lot_eqv _ _) | exact TD.cEq (TD.pCalls _) (TD.pCalls _) (TD.calls_eqv _ _) | exact TD.cNe (TD.pCalls _) (TD.pCalls _) (TD.calls_eqv _ _))
local macro_rules | `(tactic| walk_at "bi") => `(tactic| with_reducible first | exact TD.bLenLot _ | exact TD.bLenCalls _ | exact TD.bLenNum _ | exact TD.bLenNames _ | exact TD.bLenLM _ _ | exact TD.bLenTM _ _ | exact TD.bLenL _ | exact TD.bLenT _ | apply TD.bLenS | exact TD.bTupNum _ _ | exact TD.bTupNames _ _ | exact TD.bTupLot _ _ _ | exact TD.bTupCalls _ _ _ | exact TD.bIntB _ | exact TD.bIntI _ | apply TD.bIntC | exact TD.bAbs _ | apply TD.bSortCalls | apply TD.bSortNum | apply TD.bSortNames | apply TD.bSortS | exact TD.bSumNum _ | exact TD.bSum _ _ | exact TD.bAll _ _ | exact TD.bAny _ _ | exact TD.bMaxA _ _ _ | exact TD.bMinA _ _ _ | exact TD.bMaxB _ _ _ | apply TD.bMinNear | apply TD.bMinF | apply TD.bMaxF | exact TD.bMax2N _ _ | exact TD.bMax2 _ _ | exact TD.bListT _ | exact TD.bListL _ | exact TD.bTupL _)
local macro_rules | `(tactic| walk_at "ix") => `(tactic| with_reducible first | exact TD.gBit _ | exact TD.gTup0 _ _ | exact TD.gTup1 _ _ _ | exact TD.gTup2 _ _ _ _ | exact TD.gLst0 _ _ | exact TD.gLst1 _ _ _ | exact TD.gLot0 (by assumption) | exact TD.gCalls0 (by assumption) | exact TD.gLot (by assumption) | exact TD.gCalls (by assumption) | exact TD.gNum (by assumption) | exact TD.gMapT (by assumption) | exact TD.gMapL (by assumption) | apply TD.gLst | apply TD.gTup | exact TD.gStr (by walk_at "side") (by assumption) | apply TD.gStrN | apply TD.gStrI | apply TD.gLotN | apply TD.gCallsN | apply TD.gNumN | exact TD.sCallsTo _ _ | exact TD.sCallsFrom _ _ | exact TD.sLotTo _ _ | exact TD.sLotFrom _ _ | exact TD.sTupTo _ _ | exact TD.sTupFrom _ _ | exact TD.sTupN _ _ _ | exact TD.sLstTo _ _ | exact TD.sLstFrom _ _ | exact TD.sLstN _ _ _ | apply TD.sStrFrom1 | apply TD.sStrN1 | exact TD.sCallsFrom1 _ _ | exact TD.sLotFrom1 _ _ | exact TD.sLstFrom1 _ _ | exact TD.sTupFrom1 _ _ | apply TD.sStrTo | apply TD.sStrFrom | apply TD.sStrN)
local macro_rules | `(tactic| walk_at "me") => `(tactic| with_reducible first | apply TD.mJoinC | apply TD.mJoin | apply TD.mIndex | exact TD.mCount _ _ | apply TD.mRstrip | apply TD.mSplit | exact TD.mEndsw _ _ | apply TD.mReplace)
local macro_rules | `(tactic| walk_at "e1") => `(tactic| first
  | with_reducible exact TD.vC
  | ((with_reducible apply TD.vF); rfl)
  | ((with_reducible apply TD.vO); rfl)
  | (with_reducible apply TD.vCall)
  | (with_reducible apply TD.vBin)
  | (with_reducible apply TD.vCmp)
  | (with_reducible apply TD.vAnd)
  | (with_reducible apply TD.vOr)
  | (with_reducible apply TD.vNot)
  | (with_reducible apply TD.vIdx)
  | (with_reducible apply TD.vBi1)
  | (with_reducible apply TD.vBi2)
  | (with_reducible apply TD.vComp)
  | (with_reducible apply TD.vCompF)
  | (with_reducible apply TD.vRng)
  | (with_reducible apply TD.vEnu)
  | (with_reducible apply TD.vZip)
  | (with_reducible apply TD.vTup)
  | (with_reducible apply TD.vLst)
  | (with_reducible apply TD.vMe1)
  | (with_reducible apply TD.vMe2)
  | (with_reducible apply TD.vSlTo)
  | (with_reducible apply TD.vSlFrom)
  | (with_reducible apply TD.vSl)
  | (with_reducible apply TD.vRev)
  | (with_reducible apply TD.vCmp2)
  | (with_reducible apply TD.vNeg)
  | (with_reducible apply TD.vIsa)
  | (with_reducible apply TD.vLcat)
  | (with_reducible apply TD.vLrep)
  | (with_reducible apply TD.fCons)
  | (with_reducible apply TD.vKeys)
  | (with_reducible apply TD.vSortK)
  | (with_reducible apply TD.vGet)
  | (with_reducible apply TD.vOmt)
  | (with_reducible apply TD.vSset)
  | (with_reducible apply TD.vLset)
  | with_reducible exact TD.vDic0
  | with_reducible exact TD.fNil
  | with_reducible exact TD.truB _ _
  | ((with_reducible show TD.isOwn _ _ = false); rfl)
  | ((with_reducible show TD.noPart _ = false); rfl)
  | ((with_reducible show TD.D.isObj _ = false); rfl)
  | ((with_reducible show TD.slot _ _ = _); rfl)
  | ((with_reducible show TD.Me.recv _ _ = true); rfl)
  | with_reducible exact TD.SetE.z
  | with_reducible apply TD.SetE.s
  | walk_at "op" | walk_at "cm" | walk_at "bi" | walk_at "ix" | walk_at "me" | walk_at "it"
  | ((with_reducible show ∀ _, TD.T.put _ _ _ = _); intro _; rfl)
  | ((with_reducible show ∀ _, TD.isOwn _ _ = _); intro _; rfl)
  | walk_at "call"
  | ((with_reducible show _ ≤ _); walk_at "side")
  | ((with_reducible show _ < _); walk_at "side")
  | ((with_reducible show TD.rangeOk _ _ = true); simp only [TD.rangeOk, Bool.and_eq_true, decide_eq_true_eq]; omega)
  | ((with_reducible show _[_]? = some _); first | rfl | assumption)
  | ((with_reducible show _ ≠ _); assumption)
  | ((with_reducible show TD.GoodLot _); assumption)
  | ((with_reducible show TD.CallsOf _ _); assumption)
  | ((with_reducible show _ ∧ _); walk_at "side")
  | ((with_reducible show ∀ _ ∈ List.range _, _); intro d hd; rw [List.mem_range] at hd)
  | ((with_reducible show ∀ _ ∈ _, _); intro _ _)
  | ((with_reducible show _ = true → _); intro _)
  | ((with_reducible show _ = false → _); intro _))
local macro_rules | `(tactic| walk_at "ev") => `(tactic| repeat' walk_at "e1")
local macro_rules | `(tactic| walk_at "st") => `(tactic| (first
  | (with_reducible apply TD.wp_set)
  | (with_reducible apply TD.wp_own)
  | (with_reducible apply TD.wp_par)
  | (with_reducible apply TD.wp_parO)
  | (with_reducible apply TD.wp_app)
  | (with_reducible apply TD.wp_ext)
  | (with_reducible apply TD.wp_putD)
  | (with_reducible apply TD.wp_exp)
  | (with_reducible apply TD.wp_frz)
  | (with_reducible apply TD.wp_ret)
  | (with_reducible apply TD.wp_tset)
  | (with_reducible apply TD.wp_tsetL)
  | (with_reducible apply TD.wp_ifF)
  | with_reducible refine TD.wp_end ?_ | with_reducible refine TD.wp_pass ?_) <;> walk_at "ev")
set_option hygiene false in
local macro_rules | `(tactic| walk_at "call") => `(tactic| ((with_reducible apply TD.callGuard); first | assumption | with_reducible apply TD.q0 | with_reducible apply TD.q1 | with_reducible apply TD.q2 | with_reducible apply TD.q3 | with_reducible exact TD.q6 _ _ | with_reducible apply TD.q14 | with_reducible apply TD.q16 | with_reducible exact TD.q17 _ | with_reducible apply TD.q5 | with_reducible apply TD.q15 | with_reducible apply TD.q19 | with_reducible apply TD.q20 | with_reducible apply TD.q22))
/-! _law_every. -/
namespace TD
theorem oAddCallsR {S : Sto} (c : Calls) (n : Sx) (b : Int) (h : c.length ≤ 1000) : Op.run .add (callsD c) (.tup [.tup [.str n, .int b]]) S = .ok (callsD (c ++ [(n, b)])) S := by
  have := oAddCalls (S := S) c [(n, b)] (by simp; omega)
  exact this
theorem cNilCalls {S : Sto} (c : Calls) : Cm.run .eq (callsD c) (.tup []) S = .ok c.isEmpty S := by
  have := cEq (S := S) (pCalls c) (pCalls []) (calls_eqv c [])
  rw [show (D.tup [] : D) = callsD [] from rfl, this]
  cases c <;> rfl
theorem gCallsLast {S : Sto} {c : Calls} {x : Sx × Int} (h : c.getLast? = some x) : D.item (callsD c) (.int (-1)) S = .ok (callD x) S := by
  obtain ⟨ys, rfl⟩ : ∃ ys, c = ys ++ [x] := List.getLast?_eq_some_iff.mp h
  show M.of (getAt ((ys ++ [x]).map callD) (-1)) S = _
  have : getAt ((ys ++ [x]).map callD) (-1) = some (callD x) := by
    unfold getAt ixAt
    have h1 : ¬ (0 : Int) ≤ -1 := by decide
    have hlen : ((ys ++ [x]).map callD).length = ys.length + 1 := by simp
    rw [hlen, if_neg h1, if_pos (by omega)]
    show ((ys ++ [x]).map callD)[((-1 : Int) + ((ys.length + 1 : Nat) : Int)).toNat]? = _
    rw [show ((-1 : Int) + ((ys.length + 1 : Nat) : Int)).toNat = ys.length by omega]
    simp
  rw [this]; rfl
theorem lay_len (l : Lot) (w : Nat) (hw : w ≤ 12) (hl : l.length ≤ 6) : ∀ j, (layC l w j).length ≤ 78 ^ j
  | 0 => by simp [layC]
  | j + 1 => by
    have ih := lay_len l w hw hl j
    show ((layC l w j).flatMap (stepC l w)).length ≤ _
    have h1 : ∀ c, (stepC l w c).length ≤ 78 := fun c => by
      unfold stepC
      rw [List.length_flatMap]
      have := sum_le (fun b => (stepB w c b).length) 13 l fun b _ => by
        unfold stepB
        split
        · simp; omega
        · simp
      omega
    rw [List.length_flatMap]
    have := sum_le (fun c => (stepC l w c).length) 78 (layC l w j) fun c _ => h1 c
    rw [Nat.pow_succ]
    omega
theorem found_succ (l : Lot) (w m : Nat) : foundC l w (m + 1) = foundC l w m ++ layC l w (m + 1) := by
  unfold foundC
  rw [List.range_succ (n := m + 1), List.flatMap_append]; simp
theorem found_len (l : Lot) (w : Nat) (hw : w ≤ 12) (hl : l.length ≤ 6) : ∀ m, (foundC l w m).length ≤ 80 ^ m
  | 0 => by simp [foundC, layC]
  | m + 1 => by
    rw [found_succ, List.length_append]
    have h1 := found_len l w hw hl m
    have h2 := lay_len l w hw hl (m + 1)
    have h3 : 78 ^ m ≤ 80 ^ m := Nat.pow_le_pow_left (by decide) m
    rw [Nat.pow_succ] at *
    omega
section
variable {k : Nat} {S : Sto}
set_option hygiene false in
local macro_rules | `(tactic| walk_at "op") => `(tactic| with_reducible first | apply TD.oAddCallsR)
set_option hygiene false in
local macro_rules | `(tactic| walk_at "cm") => `(tactic| with_reducible first | exact TD.cNilCalls _ | exact TD.gtSS _ _ _)
theorem q46 (l : Lot) (m w : Nat) (hw : w ≤ 12) (hl : l.length ≤ 6) (hm : m ≤ 3) (r : RiseL l) : cf (k + 1) 46 [lotD l, .int m, .int w] S = .ok (.lst ((allc l m w).map callsD)) S := by
  refine cf_of (df := d46) rfl rfl rfl ?_
  unfold d46
  dsimp only [List.replicate, List.map, List.cons_append, List.nil_append]
  walk_at "st"
  walk_at "st"
  apply wp_for (fun i ρ S' => S' = S ∧ ∃ (s5 s6 s7 s8 s9 s10 s11 : Sl), ρ = [.fz (lotD l), .fz (.int m), .fz (.int w), .fz (.lst ((foundC l w i).map callsD)), .fz (.lst ((layC l w i).map callsD)), s5, s6, s7, s8, s9, s10, s11]) <;> walk_at "ev"
  · exact ⟨rfl, _, _, _, _, _, _, _, rfl⟩
  · rintro i x ρ1 S1 hx ⟨rfl, s5, s6, s7, s8, s9, s10, s11, rfl⟩
    refine ⟨_, rfl, ?_⟩
    dsimp only [List.set_cons_zero, List.set_cons_succ]
    have him : i < m := by
      have := (List.getElem?_eq_some_iff.mp hx).1
      simpa using this
    have hlay := lay_len l w hw hl i
    have hlay1 := lay_len l w hw hl (i + 1)
    have hfound := found_len l w hw hl i
    have hp1 : 78 ^ (i + 1) ≤ 78 ^ 3 := Nat.pow_le_pow_right (by decide) (by omega)
    have hp2 : 80 ^ i ≤ 80 ^ 3 := Nat.pow_le_pow_right (by decide) (by omega)
    walk_at "st"
    apply wp_for (fun p ρ S' => S' = S1 ∧ ∃ (s7 s8 s9 s10 s11 : Sl), ρ = [.fz (lotD l), .fz (.int m), .fz (.int w), .fz (.lst ((foundC l w i).map callsD)), .fz (.lst ((layC l w i).map callsD)), .fz (.int x), .ow (.lst ((((layC l w i).take p).flatMap (stepC l w)).map callsD)), s7, s8, s9, s10, s11]) <;> walk_at "ev"
    · exact ⟨rfl, _, _, _, _, _, rfl⟩
    · rintro p c ρ2 S2 hc ⟨rfl, s7, s8, s9, s10, s11, rfl⟩
      refine ⟨_, rfl, ?_⟩
      dsimp only [List.set_cons_zero, List.set_cons_succ]
      have hcl : c.length ≤ 3 := by have := (lay_iff.mp (List.mem_of_getElem? hc)).1; omega
      have htk := flatMap_take (stepC l w) hc
      have htl := flatMap_take_len (stepC l w) (layC l w i) (p + 1)
      have hfl : ((layC l w i).flatMap (stepC l w)).length ≤ 78 ^ 3 := Nat.le_trans hlay1 hp1
      rw [htk, List.length_append] at htl
      apply wp_for (fun q ρ S' => S' = S2 ∧ ∃ (s8 s9 s10 s11 : Sl), ρ = [.fz (lotD l), .fz (.int m), .fz (.int w), .fz (.lst ((foundC l w i).map callsD)), .fz (.lst ((layC l w i).map callsD)), .fz (.int x), .ow (.lst ((((layC l w i).take p).flatMap (stepC l w) ++ (l.take q).flatMap (stepB w c)).map callsD)), .fz (callsD c), s8, s9, s10, s11]) <;> walk_at "ev"
      · exact ⟨rfl, s8, s9, s10, s11, by simp⟩
      · rintro q b ρ3 S3 hb ⟨rfl, s8, s9, s10, s11, rfl⟩
        refine ⟨_, rfl, ?_⟩
        dsimp only [List.set_cons_zero, List.set_cons_succ]
        have htb := flatMap_take (stepB w c) hb
        have htc := flatMap_take_len (stepB w c) l (q + 1)
        have hsc : (l.flatMap (stepB w c)).length = (stepC l w c).length := rfl
        rw [htb, List.length_append] at htc
        refine wp_if (b := lastLt c b.1) (x := .bl (lastLt c b.1)) (S1 := S3) ?_ (truB _ _) (fun h1 => ?_) (fun h0 => ?_)
        · cases e : c.getLast? with
          | none =>
            have e0 := List.getLast?_eq_none_iff.mp e
            have : lastLt c b.1 = (c.isEmpty || true) := by unfold lastLt; rw [e]; cases c.isEmpty <;> rfl
            rw [this]
            refine vOr rfl rfl (vCmp (vF rfl) (vTup fNil) (cNilCalls c)) (fun z => ?_)
            rw [e0] at z; cases z
          | some y =>
            have : lastLt c b.1 = (c.isEmpty || ltS y.1 b.1) := by
              unfold lastLt; rw [e]
              have : c.isEmpty = false := by cases c with
                | nil => cases e
                | cons => rfl
              rw [this]; rfl
            rw [this]
            exact vOr rfl rfl (vCmp (vF rfl) (vTup fNil) (cNilCalls c)) fun _ => vCmp (vF rfl) (vIdx (vIdx (vF rfl) (vNeg vC) (gCallsLast e)) vC (gTup0 _ _)) (gtSS _ _ _)
        · have hsb : stepB w c b = (List.range (w + 1)).map fun (x : Nat) => c ++ [(b.1, (x : Int))] := by unfold stepB; rw [if_pos h1]
          refine wp_ext (l := (((layC l w i).take p).flatMap (stepC l w) ++ (l.take q).flatMap (stepB w c)).map callsD) (m := (stepB w c b).map callsD) rfl ?_ ?_ (.s (.s (.s (.s (.s (.s .z)))))) (wp_end (wp_nil (TurnQ.nx ⟨rfl, .fz (.str b.1), .fz (numD b.2), s10, s11, ?_⟩)))
          · rw [hsb, List.map_map]
            have hi : (D.lst (rangeD 0 ((w : Int) + 1))).items S3 = .ok ((List.range (w + 1)).map fun (k : Nat) => .int k) S3 := itRng0 (S := S3) (w + 1)
            refine vComp (enc := fun k : Nat => .int k) (ls := List.range (w + 1)) (vRng vC (vBin (vF rfl) vC (oAdd _ _)) ?_) hi ?_ (fun _ => rfl) (fun _ => rfl) (fun d hd => ?_)
            · simp only [rangeOk, Bool.and_eq_true, decide_eq_true_eq]; omega
            · rw [List.length_range]; omega
            · exact vBin (vF rfl) (vTup (fCons rfl (vTup (fCons rfl (vF rfl) (fCons rfl (vF rfl) fNil))) fNil)) (oAddCallsR c b.1 d (by omega))
          · rw [List.length_map, List.length_map, List.length_append]
            rw [← hsc] at htl
            omega
          · rw [htb, ← List.append_assoc, List.map_append (l₂ := stepB w c b)]
        · have hsb : stepB w c b = [] := by unfold stepB; rw [if_neg (by rw [h0]; decide)]
          refine wp_end (wp_nil (TurnQ.nx ⟨rfl, .fz (.str b.1), .fz (numD b.2), s10, s11, ?_⟩))
          rw [htb, hsb, List.append_nil]
      · rintro ρ' S' ⟨rfl, s8, s9, s10, s11, rfl⟩
        refine wp_nil (TurnQ.nx ⟨rfl, .fz (callsD c), s8, s9, s10, s11, ?_⟩)
        rw [List.take_length, htk]
        rfl
    · rintro ρ' S' ⟨rfl, s7, s8, s9, s10, s11, rfl⟩
      rw [List.take_length]
      walk_at "st"
      walk_at "st"
      walk_at "st"
      · have hfl : ((layC l w i).flatMap (stepC l w)).length ≤ 78 ^ 3 := Nat.le_trans hlay1 hp1
        rw [List.length_map, List.length_map]
        omega
      · refine wp_nil (TurnQ.nx ⟨rfl, .fz (.int x), .fz (.lst (((layC l w i).flatMap (stepC l w)).map callsD)), s7, s8, s9, s10, s11, ?_⟩)
        rw [found_succ, List.map_append]
        rfl
  · rintro ρ' S' ⟨rfl, s5, s6, s7, s8, s9, s10, s11, rfl⟩
    rw [List.length_range]
    have hfound := found_len l w hw hl m
    have hp2 : 80 ^ m ≤ 80 ^ 3 := Nat.pow_le_pow_right (by decide) (by omega)
    walk_at "st"
    · rename_i c hc _
      obtain ⟨j, hj, h⟩ := List.mem_flatMap.mp hc
      have := (lay_iff.mp h).1
      rw [List.mem_range] at hj
      omega
    · rename_i c hc hz
      intro e
      subst e
      cases hz
    · refine Nat.le_trans (List.length_filter_le _ _) ?_
      omega
    · have hf : ((foundC l w m).filter fun x => List.isEmpty x || minL (List.map Prod.snd x) == 0) = (foundC l w m).filter zeroB := by
        apply List.filter_congr
        intro c _
        unfold zeroB
        cases c <;> rfl
      rw [hf, every_eq r]
      rfl
end
end TD
end
section
set_option Elab.async false
set_option linter.all false
set_option maxRecDepth 100000
set_option maxHeartbeats 0
set_option pp.deepTerms false
set_option pp.deepTerms.threshold 5
set_option hygiene false in
local macro_rules | `(tactic| walk_at "side") => `(tactic| first | assumption | omega | (simp only [List.length_map, List.length_range, List.length_append, List.length_take, List.length_drop, List.length_cons, List.length_nil, List.length_replicate, List.length_zipIdx, List.length_zip]; omega))
local macro_rules | `(tactic| walk_at "it") => `(tactic| with_reducible first | exact TD.itLot _ | exact TD.itCalls _ | exact TD.itNum _ | exact TD.itNames _ | exact TD.itRng0 _ | exact TD.itRngI _ | exact TD.itRngN _ _ | exact TD.itRng _ _ | exact TD.itEnum _ _ | exact TD.itZip _ _ _ _ | exact TD.itLst _ _ | exact TD.itTup _ _ | exact TD.itStr _)
local macro_rules | `(tactic| walk_at "op") => `(tactic| with_reducible first | exact TD.oAdd _ _ | exact TD.oSub _ _ | apply TD.oMod | apply TD.oDiv | apply TD.oMul | apply TD.oAddS | apply TD.oAddCalls1 | apply TD.oAddCalls | apply TD.oAddNum1 | apply TD.oAddT | apply TD.oAddL | apply TD.oMulC | apply TD.oMulS)
local macro_rules | `(tactic| walk_at "cm") => `(tactic| with_reducible first | exact TD.eqI _ _ _ | exact TD.neI _ _ _ | exact TD.ltI _ _ _ | exact TD.gtI _ _ _ | exact TD.leI _ _ _ | exact TD.geI _ _ _ | exact TD.eqS _ _ _ | exact TD.neS _ _ _ | exact TD.eqB _ _ _ | exact TD.neB _ _ _ | exact TD.cIsNon | exact TD.cIsntNon | exact TD.cIsB | exact TD.cIsntB | exact TD.cInCallsT _ _ | exact TD.cInNames _ _ | exact TD.cInStrL _ _ | exact TD.cInNumL _ _ | exact TD.cInNumT _ _ | exact TD.cInSign _ _ | exact TD.cNin (TD.cInCallsT _ _) | exact TD.cNin (TD.cInNames _ _) | exact TD.cNin (TD.cInStrL _ _) | exact TD.cNin (TD.cInNumL _ _) | exact TD.cNin (TD.cInNumT _ _) | exact TD.cEq (TD.pNum _) (TD.pNum _) (TD.numD_eqv _ _) | exact TD.cNe (TD.pNum _) (TD.pNum _) (TD.numD_eqv _ _) | exact TD.cEq (TD.pLot _) (TD.pLot _) (TD.lot_eqv _ _) | exact TD.cNe (TD.pLot _) (TD.pLot _) (TD.lot_eqv _ _) | exact TD.cEq (TD.pCalls _) (TD.pCalls _) (TD.calls_eqv _ _) | exact TD.cNe (TD.pCalls _) (TD.pCalls _) (TD.calls_eqv _ _))
local macro_rules | `(tactic| walk_at "bi") => `(tactic| with_reducible first | exact TD.bLenLot _ | exact TD.bLenCalls _ | exact TD.bLenNum _ | exact TD.bLenNames _ | exact TD.bLenLM _ _ | exact TD.bLenTM _ _ | exact TD.bLenL _ | exact TD.bLenT _ | apply TD.bLenS | exact TD.bTupNum _ _ | exact TD.bTupNames _ _ | exact TD.bTupLot _ _ _ | exact TD.bTupCalls _ _ _ | exact TD.bIntB _ | exact TD.bIntI _ | apply TD.bIntC | exact TD.bAbs _ | apply TD.bSortCalls | apply TD.bSortNum | apply TD.bSortNames | apply TD.bSortS | exact TD.bSumNum _ | exact TD.bSum _ _ | exact TD.bAll _ _ | exact TD.bAny _ _ | exact TD.bMaxA _ _ _ | exact TD.bMinA _ _ _ | exact TD.bMaxB _ _ _ | apply TD.bMinNear | apply TD.bMinF | apply TD.bMaxF | exact TD.bMax2N _ _ | exact TD.bMax2 _ _ | exact TD.bListT _ | exact TD.bListL _ | exact TD.bTupL _)
local macro_rules | `(tactic| walk_at "ix") => `(tactic| with_reducible first | exact TD.gBit _ | exact TD.gTup0 _ _ | exact TD.gTup1 _ _ _ | exact TD.gTup2 _ _ _ _ | exact TD.gLst0 _ _ | exact TD.gLst1 _ _ _ | exact TD.gLot0 (by assumption) | exact TD.gCalls0 (by assumption) | exact TD.gLot (by assumption) | exact TD.gCalls (by assumption) | exact TD.gNum (by assumption) | exact TD.gMapT (by assumption) | exact TD.gMapL (by assumption) | apply TD.gLst | apply TD.gTup | exact TD.gStr (by walk_at "side") (by assumption) | apply TD.gStrN | apply TD.gStrI | apply TD.gLotN | apply TD.gCallsN | apply TD.gNumN | exact TD.sCallsTo _ _ | exact TD.sCallsFrom _ _ | exact TD.sLotTo _ _ | exact TD.sLotFrom _ _ | exact TD.sTupTo _ _ | exact TD.sTupFrom _ _ | exact TD.sTupN _ _ _ | exact TD.sLstTo _ _ | exact TD.sLstFrom _ _ | exact TD.sLstN _ _ _ | apply TD.sStrFrom1 | apply TD.sStrN1 | exact TD.sCallsFrom1 _ _ | exact TD.sLotFrom1 _ _ | exact TD.sLstFrom1 _ _ | exact TD.sTupFrom1 _ _ | apply TD.sStrTo | apply TD.sStrFrom | apply TD.sStrN)
local macro_rules | `(tactic| walk_at "me") => `(tactic| with_reducible first | apply TD.mJoinC | apply TD.mJoin | apply TD.mIndex | exact TD.mCount _ _ | apply TD.mRstrip | apply TD.mSplit | exact TD.mEndsw _ _ | apply TD.mReplace)
local macro_rules | `(tactic| walk_at "e1") => `(tactic| first
  | with_reducible exact TD.vC
  | ((with_reducible apply TD.vF); rfl)
  | ((with_reducible apply TD.vO); rfl)
  | (with_reducible apply TD.vCall)
  | (with_reducible apply TD.vBin)
  | (with_reducible apply TD.vCmp)
  | (with_reducible apply TD.vAnd)
  | (with_reducible apply TD.vOr)
  | (with_reducible apply TD.vNot)
  | (with_reducible apply TD.vIdx)
  | (with_reducible apply TD.vBi1)
  | (with_reducible apply TD.vBi2)
  | (with_reducible apply TD.vComp)
  | (with_reducible apply TD.vCompF)
  | (with_reducible apply TD.vRng)
  | (with_reducible apply TD.vEnu)
  | (with_reducible apply TD.vZip)
  | (with_reducible apply TD.vTup)
  | (with_reducible apply TD.vLst)
  | (with_reducible apply TD.vMe1)
  | (with_reducible apply TD.vMe2)
  | (with_reducible apply TD.vSlTo)
  | (with_reducible apply TD.vSlFrom)
  | (with_reducible apply TD.vSl)
  | (with_reducible apply TD.vRev)
  | (with_reducible apply TD.vCmp2)
  | (with_reducible apply TD.vNeg)
  | (with_reducible apply TD.vIsa)
  | (with_reducible apply TD.vLcat)
  | (with_reducible apply TD.vLrep)
  | (with_reducible apply TD.fCons)
  | (with_reducible apply TD.vKeys)
  | (with_reducible apply TD.vSortK)
  | (with_reducible apply TD.vGet)
  | (with_reducible apply TD.vOmt)
  | (with_reducible apply TD.vSset)
  | (with_reducible apply TD.vLset)
  | with_reducible exact TD.vDic0
  | with_reducible exact TD.fNil
  | with_reducible exact TD.truB _ _
  | ((with_reducible show TD.isOwn _ _ = false); rfl)
  | ((with_reducible show TD.noPart _ = false); rfl)
  | ((with_reducible show TD.D.isObj _ = false); rfl)
  | ((with_reducible show TD.slot _ _ = _); rfl)
  | ((with_reducible show TD.Me.recv _ _ = true); rfl)
  | with_reducible exact TD.SetE.z
  | with_reducible apply TD.SetE.s
  | walk_at "op" | walk_at "cm" | walk_at "bi" | walk_at "ix" | walk_at "me" | walk_at "it"
  | ((with_reducible show ∀ _, TD.T.put _ _ _ = _); intro _; rfl)
  | ((with_reducible show ∀ _, TD.isOwn _ _ = _); intro _; rfl)
  | walk_at "call"
  | ((with_reducible show _ ≤ _); walk_at "side")
  | ((with_reducible show _ < _); walk_at "side")
  | ((with_reducible show TD.rangeOk _ _ = true); simp only [TD.rangeOk, Bool.and_eq_true, decide_eq_true_eq]; omega)
  | ((with_reducible show _[_]? = some _); first | rfl | assumption)
  | ((with_reducible show _ ≠ _); assumption)
  | ((with_reducible show TD.GoodLot _); assumption)
  | ((with_reducible show TD.CallsOf _ _); assumption)
  | ((with_reducible show _ ∧ _); walk_at "side")
  | ((with_reducible show ∀ _ ∈ List.range _, _); intro d hd; rw [List.mem_range] at hd)
  | ((with_reducible show ∀ _ ∈ _, _); intro _ _)
  | ((with_reducible show _ = true → _); intro _)
  | ((with_reducible show _ = false → _); intro _))
local macro_rules | `(tactic| walk_at "ev") => `(tactic| repeat' walk_at "e1")
local macro_rules | `(tactic| walk_at "st") => `(tactic| (first
  | (with_reducible apply TD.wp_set)
  | (with_reducible apply TD.wp_own)
  | (with_reducible apply TD.wp_par)
  | (with_reducible apply TD.wp_parO)
  | (with_reducible apply TD.wp_app)
  | (with_reducible apply TD.wp_ext)
  | (with_reducible apply TD.wp_putD)
  | (with_reducible apply TD.wp_exp)
  | (with_reducible apply TD.wp_frz)
  | (with_reducible apply TD.wp_ret)
  | (with_reducible apply TD.wp_tset)
  | (with_reducible apply TD.wp_tsetL)
  | (with_reducible apply TD.wp_ifF)
  | with_reducible refine TD.wp_end ?_ | with_reducible refine TD.wp_pass ?_) <;> walk_at "ev")
set_option hygiene false in
local macro_rules | `(tactic| walk_at "call") => `(tactic| ((with_reducible apply TD.callGuard); first | assumption | with_reducible apply TD.q0 | with_reducible apply TD.q1 | with_reducible apply TD.q2 | with_reducible apply TD.q3 | with_reducible exact TD.q6 _ _ | with_reducible apply TD.q14 | with_reducible apply TD.q16 | with_reducible exact TD.q17 _ | with_reducible apply TD.q5 | with_reducible apply TD.q15 | with_reducible apply TD.q19 | with_reducible apply TD.q20 | with_reducible apply TD.q22))
/-! law k11, joined. -/
namespace TD
theorem callsT_self (X : List Calls) : (D.tup (X.map callsD)).eqv (.tup (X.map callsD)) = true := by
  show eqvs (X.map callsD) (X.map callsD) = true
  rw [map_eqv callsD calls_eqv]; simp
theorem none_not {l : Lot} {boxes most : Int} (d : DrawnLot l boxes most) {nm : Sx} (h : nm ∉ sixNames) : look l nm = none := by
  cases e : look l nm with
  | none => rfl
  | some cs => exact absurd (d.six _ (look_mem e)) h
theorem num_of {l : Lot} (g : GoodLot l) {b : Sx × List Int} (hb : b ∈ l) : num l b.1 = b.2 := by
  have h1 := look_num (look_of_mem (List.mem_map.mpr ⟨b, hb, rfl⟩))
  have h2 := look_mem h1
  have hn := g.1
  clear h1 g
  generalize num l b.1 = x at h2
  induction l with
  | nil => cases hb
  | cons y l ih =>
    rw [List.map_cons, List.nodup_cons] at hn
    rcases List.mem_cons.mp hb with e | e
    · rcases List.mem_cons.mp h2 with z | z
      · rw [e, ← z]
      · exact absurd (List.mem_map.mpr ⟨_, z, by rw [e]⟩) hn.1
    · rcases List.mem_cons.mp h2 with z | z
      · exact absurd (List.mem_map.mpr ⟨b, e, by rw [← z]⟩) hn.1
      · exact ih e hn.2 z
section
variable {k : Nat} {S : Sto}
theorem told_eq {fn : Fns} {ρ : Env} {e : E} {S : Sto} (h : ev fn ρ e S = .xc 2 S) : ev fn ρ (.cmp .ne (.told e) (.tup (.cons (.con (.str [114, 101, 102, 117, 115, 101, 100])) (.cons (.con (.int 1)) .nil)))) S = .ok (.bl false) S :=
  vCmp (vToldX (c := 1) (by decide) h) (vTup (fCons rfl vC (fCons rfl vC fNil))) (cNe (b := true) rfl rfl (by decide))
theorem q48 (ns : List Int) : cf (k + 8) 48 [.lst (ns.map .int)] S = .ok (.bl true) S := by
  refine cf_of (df := d48) rfl rfl rfl ?_
  unfold d48
  dsimp only [List.replicate, List.map, List.cons_append, List.nil_append]
  obtain ⟨l, dl, c8⟩ := q8x (k := k + 4) (S := S) (mixed ns 0) 4 3 (mixed_nonneg ns 0) (by decide) (by decide) (by decide) (by decide)
  have g := dl.good
  have hl4 : l.length ≤ 4 := dl.len
  have hn0 := mixed_nonneg ns 1
  obtain ⟨w, hw, hw12⟩ : ∃ w : Nat, mixed ns 1 / 16 % 13 = (w : Int) ∧ w ≤ 12 := ⟨(mixed ns 1 / 16 % 13).toNat, by omega, by omega⟩
  obtain ⟨m, hm, hm1, hm3⟩ : ∃ m : Nat, 1 + mixed ns 1 / 512 % 3 = (m : Int) ∧ 1 ≤ m ∧ m ≤ 3 := ⟨(1 + mixed ns 1 / 512 % 3).toNat, by omega, by omega, by omega⟩
  obtain ⟨cl, okc, hc3, hsub, hz, c9⟩ := q9x (k := k + 5) (S := S) g (by omega) (mixed ns 2) w (by omega) (by omega)
  have hcalls : CallsOf l cl := fun c hc => by
    have := okc.ok c hc
    exact ⟨this.1, this.2.1, by omega⟩
  have hrise : (cl.map (·.1)).Pairwise fun a b => a < b := dl.rise.sublist hsub
  have c45 : (fnK (k + 7)).call 45 [lotD l, callsD cl] S = .ok (.str (heardF l cl)) S := q45 (k := k + 5) g hcalls
  have c31 : (fnK (k + 7)).call 31 [lotD l, .int w, callsD cl] S = .ok (.bl true) S := q31 (k := k + 5) g hc3 okc.ok hrise hz
  have c8' : (fnK (k + 7)).call 8 [.int (mixed ns 0), .int 4, .int 3] S = .ok (lotD l) S := c8
  have c9' : (fnK (k + 7)).call 9 [lotD l, .int (mixed ns 2), .int w] S = .ok (callsD cl) S := c9
  have c50 : (fnK (k + 7)).call 5 [.lst (ns.map .int), .int 0] S = .ok (.int (mixed ns 0)) S := q5 (k := k + 5) ns 0 (by decide)
  have c51 : (fnK (k + 7)).call 5 [.lst (ns.map .int), .int 1] S = .ok (.int (mixed ns 1)) S := q5 (k := k + 5) ns 1 (by decide)
  have c52 : (fnK (k + 7)).call 5 [.lst (ns.map .int), .int 2] S = .ok (.int (mixed ns 2)) S := q5 (k := k + 5) ns 2 (by decide)
  walk_at "st"
  walk_at "st"
  walk_at "st"
  rw [hw]
  walk_at "st"
  walk_at "st"
  · simp
  have hnone : look l [110, 111, 110, 101] = none := none_not dl (by decide)
  have e1n : cf (k + 7) 1 [lotD l, .str [110, 111, 110, 101]] S = .xc 2 S := q1n (k := k + 6) g hnone
  have e3n : cf (k + 7) 3 [lotD l, .str [110, 111, 110, 101]] S = .xc 2 S := q3n (k := k + 4) g hnone
  apply wp_for (fun i ρ S' => S' = S ∧ ∃ s7 s8 : Sl, ρ = [.fz (.lst (ns.map .int)), .fz (lotD l), .fz (.int (mixed ns 1)), .fz (.int w), .fz (callsD cl), .no, .no, s7, s8]) <;> walk_at "ev"
  · exact ⟨rfl, _, _, rfl⟩
  · rintro i b ρ1 S1 hx ⟨rfl, s7, s8, rfl⟩
    refine ⟨_, rfl, ?_⟩
    dsimp only [List.set_cons_zero, List.set_cons_succ]
    have hb := List.mem_of_getElem? hx
    have hlk : (look l b.1).isSome = true := look_of_mem (List.mem_map.mpr ⟨b, hb, rfl⟩)
    have hnum : num l b.1 = b.2 := num_of g hb
    have c1 : (fnK (k + 7)).call 1 [lotD l, .str b.1] S1 = .ok (numD b.2) S1 := by rw [← hnum]; exact q1 (k := k + 6) g hlk
    have c3 : (fnK (k + 7)).call 3 [lotD l, .str b.1] S1 = .ok (.str (beats b.2)) S1 := by rw [← hnum]; exact q3 (k := k + 4) g hlk
    have c44 : (fnK (k + 7)).call 44 [numD b.2] S1 = .ok (.str (beats b.2)) S1 := q44 (k := k + 6) (g.2 b hb)
    walk_at "st"
    · simp
    exact wp_nil (TurnQ.nx ⟨rfl, .fz (.str b.1), .fz (numD b.2), rfl⟩)
  rintro ρ' S' ⟨rfl, s7, s8, rfl⟩
  refine wp_ifF (b := false) (told_eq (vCallX (n := 1) (S1 := S') (xs := [lotD l, .str [110, 111, 110, 101]]) (fCons rfl (vF rfl) (fCons rfl vC fNil)) e1n)) rfl ?_
  refine wp_ifF (b := false) (told_eq (vCallX (n := 3) (S1 := S') (xs := [lotD l, .str [110, 111, 110, 101]]) (fCons rfl (vF rfl) (fCons rfl vC fNil)) e3n)) rfl ?_
  obtain ⟨f, hf, hf12⟩ : ∃ f : Nat, D.item (.tup [.int (w : Int), .int ((w : Int) % 4), .int ((w : Int) % 3)]) (.int ((m : Int) - 1)) S' = .ok (.int (f : Int)) S' ∧ f ≤ 12 := by
    rcases (by omega : m = 1 ∨ m = 2 ∨ m = 3) with h | h | h <;> subst h
    · exact ⟨w, rfl, hw12⟩
    · exact ⟨w % 4, by rw [show (((w % 4 : Nat)) : Int) = (w : Int) % 4 by omega]; rfl, by omega⟩
    · exact ⟨w % 3, by rw [show (((w % 3 : Nat)) : Int) = (w : Int) % 3 by omega]; rfl, by omega⟩
  have c13 : (fnK (k + 7)).call 13 [lotD l, .int m, .int f] S' = .ok (.tup ((allc l m f).map callsD)) S' := by
    have := q13 (k := k + 5 - m) (S := S') l m f hf12 (by omega) hm3
    rw [show k + 5 - m + m + 2 = k + 7 by omega] at this
    exact this
  have c46 : (fnK (k + 7)).call 46 [lotD l, .int m, .int f] S' = .ok (.lst ((allc l m f).map callsD)) S' := q46 (k := k + 6) l m f hf12 (by omega) hm3 dl.rise
  walk_at "st"
  rw [hm]
  refine wp_set (S1 := S') (x := .int (f : Int)) (vIdx (vTup (fCons rfl (vF rfl) (fCons rfl (vBin (vF rfl) vC (oMod _ _ (by decide))) (fCons rfl (vBin (vF rfl) vC (oMod _ _ (by decide))) fNil)))) (vBin (vF rfl) vC (oSub _ _)) hf) rfl (.s (.s (.s (.s (.s (.s .z)))))) ?_
  refine wp_ret (S1 := S') (x := .bl true) (vCmp (vCall (fCons rfl (vF rfl) (fCons rfl (vF rfl) (fCons rfl (vF rfl) fNil))) c13) (vBi1 (vCall (fCons rfl (vF rfl) (fCons rfl (vF rfl) (fCons rfl (vF rfl) fNil))) c46) (bTupL _)) (cEq (pCallsT _) (pCallsT _) (callsT_self _))) rfl rfl
end
end TD
end
section
set_option Elab.async false
set_option linter.all false
set_option maxRecDepth 100000
set_option hygiene false in
local macro_rules | `(tactic| walk_at "side") => `(tactic| first | assumption | omega | (simp only [List.length_map, List.length_range, List.length_append, List.length_take, List.length_drop, List.length_cons, List.length_nil, List.length_replicate, List.length_zipIdx, List.length_zip]; omega))
local macro_rules | `(tactic| walk_at "it") => `(tactic| with_reducible first | exact TD.itLot _ | exact TD.itCalls _ | exact TD.itNum _ | exact TD.itNames _ | exact TD.itRng0 _ | exact TD.itRngI _ | exact TD.itRngN _ _ | exact TD.itRng _ _ | exact TD.itEnum _ _ | exact TD.itZip _ _ _ _ | exact TD.itLst _ _ | exact TD.itTup _ _ | exact TD.itStr _)
local macro_rules | `(tactic| walk_at "op") => `(tactic| with_reducible first | exact TD.oAdd _ _ | exact TD.oSub _ _ | apply TD.oMod | apply TD.oDiv | apply TD.oMul | apply TD.oAddS | apply TD.oAddCalls1 | apply TD.oAddCalls | apply TD.oAddNum1 | apply TD.oAddT | apply TD.oAddL | apply TD.oMulC | apply TD.oMulS)
local macro_rules | `(tactic| walk_at "cm") => `(tactic| with_reducible first | exact TD.eqI _ _ _ | exact TD.neI _ _ _ | exact TD.ltI _ _ _ | exact TD.gtI _ _ _ | exact TD.leI _ _ _ | exact TD.geI _ _ _ | exact TD.eqS _ _ _ | exact TD.neS _ _ _ | exact TD.eqB _ _ _ | exact TD.neB _ _ _ | exact TD.cIsNon | exact TD.cIsntNon | exact TD.cIsB | exact TD.cIsntB | exact TD.cInCallsT _ _ | exact TD.cInNames _ _ | exact TD.cInStrL _ _ | exact TD.cInNumL _ _ | exact TD.cInNumT _ _ | exact TD.cInSign _ _ | exact TD.cNin (TD.cInCallsT _ _) | exact TD.cNin (TD.cInNames _ _) | exact TD.cNin (TD.cInStrL _ _) | exact TD.cNin (TD.cInNumL _ _) | exact TD.cNin (TD.cInNumT _ _) | exact TD.cEq (TD.pNum _) (TD.pNum _) (TD.numD_eqv _ _) | exact TD.cNe (TD.pNum _) (TD.pNum _) (TD.numD_eqv _ _) | exact TD.cEq (TD.pLot _) (TD.pLot _) (TD.lot_eqv _ _) | exact TD.cNe (TD.pLot _) (TD.pLot _) (TD.lot_eqv _ _) | exact TD.cEq (TD.pCalls _) (TD.pCalls _) (TD.calls_eqv _ _) | exact TD.cNe (TD.pCalls _) (TD.pCalls _) (TD.calls_eqv _ _))
local macro_rules | `(tactic| walk_at "bi") => `(tactic| with_reducible first | exact TD.bLenLot _ | exact TD.bLenCalls _ | exact TD.bLenNum _ | exact TD.bLenNames _ | exact TD.bLenLM _ _ | exact TD.bLenTM _ _ | exact TD.bLenL _ | exact TD.bLenT _ | apply TD.bLenS | exact TD.bTupNum _ _ | exact TD.bTupNames _ _ | exact TD.bTupLot _ _ _ | exact TD.bTupCalls _ _ _ | exact TD.bIntB _ | exact TD.bIntI _ | apply TD.bIntC | exact TD.bAbs _ | apply TD.bSortCalls | apply TD.bSortNum | apply TD.bSortNames | apply TD.bSortS | exact TD.bSumNum _ | exact TD.bSum _ _ | exact TD.bAll _ _ | exact TD.bAny _ _ | exact TD.bMaxA _ _ _ | exact TD.bMinA _ _ _ | exact TD.bMaxB _ _ _ | apply TD.bMinNear | apply TD.bMinF | apply TD.bMaxF | exact TD.bMax2N _ _ | exact TD.bMax2 _ _ | exact TD.bListT _ | exact TD.bListL _ | exact TD.bTupL _)
local macro_rules | `(tactic| walk_at "ix") => `(tactic| with_reducible first | exact TD.gBit _ | exact TD.gTup0 _ _ | exact TD.gTup1 _ _ _ | exact TD.gTup2 _ _ _ _ | exact TD.gLst0 _ _ | exact TD.gLst1 _ _ _ | exact TD.gLot0 (by assumption) | exact TD.gCalls0 (by assumption) | exact TD.gLot (by assumption) | exact TD.gCalls (by assumption) | exact TD.gNum (by assumption) | exact TD.gMapT (by assumption) | exact TD.gMapL (by assumption) | apply TD.gLst | apply TD.gTup | exact TD.gStr (by walk_at "side") (by assumption) | apply TD.gStrN | apply TD.gStrI | apply TD.gLotN | apply TD.gCallsN | apply TD.gNumN | exact TD.sCallsTo _ _ | exact TD.sCallsFrom _ _ | exact TD.sLotTo _ _ | exact TD.sLotFrom _ _ | exact TD.sTupTo _ _ | exact TD.sTupFrom _ _ | exact TD.sTupN _ _ _ | exact TD.sLstTo _ _ | exact TD.sLstFrom _ _ | exact TD.sLstN _ _ _ | apply TD.sStrFrom1 | apply TD.sStrN1 | exact TD.sCallsFrom1 _ _ | exact TD.sLotFrom1 _ _ | exact TD.sLstFrom1 _ _ | exact TD.sTupFrom1 _ _ | apply TD.sStrTo | apply TD.sStrFrom | apply TD.sStrN)
local macro_rules | `(tactic| walk_at "me") => `(tactic| with_reducible first | apply TD.mJoinC | apply TD.mJoin | apply TD.mIndex | exact TD.mCount _ _ | apply TD.mRstrip | apply TD.mSplit | exact TD.mEndsw _ _ | apply TD.mReplace)
local macro_rules | `(tactic| walk_at "e1") => `(tactic| first
  | with_reducible exact TD.vC
  | ((with_reducible apply TD.vF); rfl)
  | ((with_reducible apply TD.vO); rfl)
  | (with_reducible apply TD.vCall)
  | (with_reducible apply TD.vBin)
  | (with_reducible apply TD.vCmp)
  | (with_reducible apply TD.vAnd)
  | (with_reducible apply TD.vOr)
  | (with_reducible apply TD.vNot)
  | (with_reducible apply TD.vIdx)
  | (with_reducible apply TD.vBi1)
  | (with_reducible apply TD.vBi2)
  | (with_reducible apply TD.vComp)
  | (with_reducible apply TD.vCompF)
  | (with_reducible apply TD.vRng)
  | (with_reducible apply TD.vEnu)
  | (with_reducible apply TD.vZip)
  | (with_reducible apply TD.vTup)
  | (with_reducible apply TD.vLst)
  | (with_reducible apply TD.vMe1)
  | (with_reducible apply TD.vMe2)
  | (with_reducible apply TD.vSlTo)
  | (with_reducible apply TD.vSlFrom)
  | (with_reducible apply TD.vSl)
  | (with_reducible apply TD.vRev)
  | (with_reducible apply TD.vCmp2)
  | (with_reducible apply TD.vNeg)
  | (with_reducible apply TD.vIsa)
  | (with_reducible apply TD.vLcat)
  | (with_reducible apply TD.vLrep)
  | (with_reducible apply TD.fCons)
  | (with_reducible apply TD.vKeys)
  | (with_reducible apply TD.vSortK)
  | (with_reducible apply TD.vGet)
  | (with_reducible apply TD.vOmt)
  | (with_reducible apply TD.vSset)
  | (with_reducible apply TD.vLset)
  | with_reducible exact TD.vDic0
  | with_reducible exact TD.fNil
  | with_reducible exact TD.truB _ _
  | ((with_reducible show TD.isOwn _ _ = false); rfl)
  | ((with_reducible show TD.noPart _ = false); rfl)
  | ((with_reducible show TD.D.isObj _ = false); rfl)
  | ((with_reducible show TD.slot _ _ = _); rfl)
  | ((with_reducible show TD.Me.recv _ _ = true); rfl)
  | with_reducible exact TD.SetE.z
  | with_reducible apply TD.SetE.s
  | walk_at "op" | walk_at "cm" | walk_at "bi" | walk_at "ix" | walk_at "me" | walk_at "it"
  | ((with_reducible show ∀ _, TD.T.put _ _ _ = _); intro _; rfl)
  | ((with_reducible show ∀ _, TD.isOwn _ _ = _); intro _; rfl)
  | walk_at "call"
  | ((with_reducible show _ ≤ _); walk_at "side")
  | ((with_reducible show _ < _); walk_at "side")
  | ((with_reducible show TD.rangeOk _ _ = true); simp only [TD.rangeOk, Bool.and_eq_true, decide_eq_true_eq]; omega)
  | ((with_reducible show _[_]? = some _); first | rfl | assumption)
  | ((with_reducible show _ ≠ _); assumption)
  | ((with_reducible show TD.GoodLot _); assumption)
  | ((with_reducible show TD.CallsOf _ _); assumption)
  | ((with_reducible show _ ∧ _); walk_at "side")
  | ((with_reducible show ∀ _ ∈ List.range _, _); intro d hd; rw [List.mem_range] at hd)
  | ((with_reducible show ∀ _ ∈ _, _); intro _ _)
  | ((with_reducible show _ = true → _); intro _)
  | ((with_reducible show _ = false → _); intro _))
local macro_rules | `(tactic| walk_at "ev") => `(tactic| repeat' walk_at "e1")
local macro_rules | `(tactic| walk_at "st") => `(tactic| (first
  | (with_reducible apply TD.wp_set)
  | (with_reducible apply TD.wp_own)
  | (with_reducible apply TD.wp_par)
  | (with_reducible apply TD.wp_parO)
  | (with_reducible apply TD.wp_app)
  | (with_reducible apply TD.wp_ext)
  | (with_reducible apply TD.wp_putD)
  | (with_reducible apply TD.wp_exp)
  | (with_reducible apply TD.wp_frz)
  | (with_reducible apply TD.wp_ret)
  | (with_reducible apply TD.wp_tset)
  | (with_reducible apply TD.wp_tsetL)
  | (with_reducible apply TD.wp_ifF)
  | with_reducible refine TD.wp_end ?_ | with_reducible refine TD.wp_pass ?_) <;> walk_at "ev")
set_option hygiene false in
local macro_rules | `(tactic| walk_at "call") => `(tactic| ((with_reducible apply TD.callGuard); first | assumption | with_reducible apply TD.q0 | with_reducible apply TD.q1 | with_reducible apply TD.q2 | with_reducible apply TD.q3 | with_reducible exact TD.q6 _ _ | with_reducible apply TD.q14 | with_reducible apply TD.q16 | with_reducible exact TD.q17 _ | with_reducible apply TD.q5 | with_reducible apply TD.q15 | with_reducible apply TD.q19 | with_reducible apply TD.q20 | with_reducible apply TD.q22))
/-! taps, long, all_of, all_numbers, number_of, is_number. -/
namespace TD
section
variable {k : Nat} {S : Sto}
/-! ### all numbers -/
def stepQ (x : List Int) : List (List Int) := (List.range 4).map fun (j : Nat) => x ++ [1 + (j : Int)]
def allOf : Nat → List (List Int)
  | 0 => [[]]
  | n + 1 => (allOf n).flatMap stepQ
theorem allOf_len : ∀ n, (allOf n).length = 4 ^ n
  | 0 => rfl
  | n + 1 => by
    show ((allOf n).flatMap stepQ).length = _
    rw [List.length_flatMap]
    have : ∀ l : List (List Int), (l.map fun x => (stepQ x).length).sum = l.length * 4 := fun l => by
      induction l with
      | nil => rfl
      | cons a l ih => simp only [List.map_cons, List.sum_cons, ih, List.length_cons]; simp [stepQ]; omega
    rw [this, allOf_len n, Nat.pow_succ]
theorem mem_stepQ {x y : List Int} : y ∈ stepQ x ↔ ∃ c : Int, 1 ≤ c ∧ c ≤ 4 ∧ y = x ++ [c] := by
  unfold stepQ
  rw [List.mem_map]
  constructor
  · rintro ⟨j, hj, rfl⟩
    rw [List.mem_range] at hj
    exact ⟨1 + j, by omega, by omega, rfl⟩
  · rintro ⟨c, h1, h2, rfl⟩
    exact ⟨(c - 1).toNat, by rw [List.mem_range]; omega, by rw [show 1 + (((c - 1).toNat : Nat) : Int) = c by omega]⟩
theorem mem_allOf : ∀ {n : Nat} {x : List Int}, x ∈ allOf n ↔ x.length = n ∧ ∀ c ∈ x, 1 ≤ c ∧ c ≤ 4
  | 0, x => by
    show x ∈ [[]] ↔ _
    rw [List.mem_singleton, List.length_eq_zero_iff]
    constructor
    · rintro rfl; simp
    · exact fun h => h.1
  | n + 1, x => by
    show x ∈ (allOf n).flatMap stepQ ↔ _
    rw [List.mem_flatMap]
    constructor
    · rintro ⟨y, hy, hx⟩
      obtain ⟨c, h1, h2, rfl⟩ := mem_stepQ.mp hx
      obtain ⟨a, b⟩ := mem_allOf.mp hy
      refine ⟨by simp [a], fun d hd => ?_⟩
      rcases List.mem_append.mp hd with h | h
      · exact b d h
      · rw [List.mem_singleton.mp h]; exact ⟨h1, h2⟩
    · rintro ⟨h1, h2⟩
      have hne : x ≠ [] := fun z => by rw [z] at h1; simp at h1
      have e := List.dropLast_concat_getLast hne
      refine ⟨x.dropLast, mem_allOf.mpr ⟨by rw [List.length_dropLast]; omega, fun c hc => h2 c (List.dropLast_subset x hc)⟩, mem_stepQ.mpr ⟨x.getLast hne, (h2 _ (List.getLast_mem hne)).1, (h2 _ (List.getLast_mem hne)).2, e.symm⟩⟩
def allN (m : Nat) (t : Int) : List (List Int) := (List.range' 1 m).flatMap fun j => (allOf j).filter fun x => !decide (t < x.sum)
def allF (m : Nat) (t : Int) : List (List Int) := sortB ltNum (allN m t)
/-- numbers -/
def IsNum (x : List Int) : Prop := 1 ≤ x.length ∧ x.length ≤ 3 ∧ ∀ c ∈ x, 1 ≤ c ∧ c ≤ 4
theorem mem_allN {m : Nat} {t : Int} {x : List Int} : x ∈ allN m t ↔ 1 ≤ x.length ∧ x.length ≤ m ∧ (∀ c ∈ x, 1 ≤ c ∧ c ≤ 4) ∧ x.sum ≤ t := by
  unfold allN
  rw [List.mem_flatMap]
  constructor
  · rintro ⟨j, hj, h⟩
    rw [List.mem_filter, mem_allOf] at h
    rw [List.mem_range'] at hj
    obtain ⟨i, h1, h2⟩ := hj
    obtain ⟨⟨h3, h4⟩, h5⟩ := h
    refine ⟨by omega, by omega, h4, ?_⟩
    simpa using h5
  · rintro ⟨h1, h2, h3, h4⟩
    refine ⟨x.length, List.mem_range'.mpr ⟨x.length - 1, by omega, by omega⟩, ?_⟩
    rw [List.mem_filter, mem_allOf]
    exact ⟨⟨rfl, h3⟩, by simpa using h4⟩
theorem mem_allF {m : Nat} {t : Int} {x : List Int} : x ∈ allF m t ↔ 1 ≤ x.length ∧ x.length ≤ m ∧ (∀ c ∈ x, 1 ≤ c ∧ c ≤ 4) ∧ x.sum ≤ t := by
  unfold allF
  rw [sortB_mem, mem_allN]
theorem allN_len (m : Nat) (t : Int) (hm : m ≤ 4) : (allN m t).length ≤ 1024 := by
  unfold allN
  rw [List.length_flatMap]
  have := sum_le (fun j => ((allOf j).filter fun x => !decide (t < x.sum)).length) 256 (List.range' 1 m) fun j hj => by
    rw [List.mem_range'] at hj
    obtain ⟨i, h1, h2⟩ := hj
    have h3 := allOf_len j
    have h4 : 4 ^ j ≤ 4 ^ 4 := Nat.pow_le_pow_right (by decide) (by omega)
    have h5 := List.length_filter_le (fun x : List Int => !decide (t < x.sum)) (allOf j)
    show ((allOf j).filter _).length ≤ 256
    omega
  rw [List.length_range'] at this
  omega
theorem allF_len (m : Nat) (t : Int) (hm : m ≤ 4) : (allF m t).length ≤ 1024 := by
  unfold allF
  rw [(sortB_perm _).length_eq]; exact allN_len m t hm
theorem allOf_nodup : ∀ n, (allOf n).Nodup
  | 0 => by simp [allOf]
  | n + 1 => by
    show ((allOf n).flatMap stepQ).Nodup
    refine nodup_fm (allOf_nodup n) (fun x _ => ?_) fun x _ y _ c h1 h2 => ?_
    · unfold stepQ
      refine List.Pairwise.map _ (fun a b hne e => hne ?_) (List.nodup_range (n := 4))
      have := List.append_cancel_left e
      simp at this
      omega
    · obtain ⟨a, _, _, e1⟩ := mem_stepQ.mp h1
      obtain ⟨b, _, _, e2⟩ := mem_stepQ.mp h2
      have := e1.symm.trans e2
      exact (List.append_inj' this rfl).1
theorem allN_nodup (m : Nat) (t : Int) : (allN m t).Nodup := by
  refine nodup_fm (List.nodup_range') (fun j _ => (allOf_nodup j).filter _) fun i _ j _ c h1 h2 => ?_
  rw [List.mem_filter, mem_allOf] at h1 h2
  omega
theorem allF_nodup (m : Nat) (t : Int) : (allF m t).Nodup := (sortB_perm _).nodup_iff.mpr (allN_nodup m t)
theorem allF_lt (m : Nat) (t : Int) : (allF m t).Pairwise fun a b => ltNum a b = true := sortB_lt ord_num.sto (allN_nodup m t)
/-! ### the defs -/
theorem q19 (x : List Int) : cf (k + 1) 19 [numD x] S = .ok (.int x.sum) S := by
  refine cf_of (df := d19) rfl rfl rfl ?_
  unfold d19
  dsimp only [List.replicate, List.map, List.cons_append, List.nil_append]
  walk_at "st"
  rfl
theorem q20 (x : List Int) (h : Small x) : cf (k + 2) 20 [numD x] S = .ok (.int (beats x).length) S := by
  refine cf_of (df := d20) rfl rfl rfl ?_
  unfold d20
  dsimp only [List.replicate, List.map, List.cons_append, List.nil_append]
  have hb := beats_len h
  walk_at "st"
  · exact h
  · rfl
theorem q38 (n : Nat) (hn : n ≤ 4) : cf (k + 1) 38 [.int n] S = .ok (.lst ((allOf n).map numD)) S := by
  refine cf_of (df := d38) rfl rfl rfl ?_
  unfold d38
  dsimp only [List.replicate, List.map, List.cons_append, List.nil_append]
  walk_at "st"
  apply wp_for (fun i ρ S' => S' = S ∧ ∃ (s3 s4 s5 s6 : Sl), ρ = [.fz (.int n), .fz (.lst ((allOf i).map numD)), s3, s4, s5, s6]) <;> walk_at "ev"
  · exact ⟨rfl, _, _, _, _, rfl⟩
  · rintro i x ρ1 S1 hx ⟨rfl, s3, s4, s5, s6, rfl⟩
    refine ⟨_, rfl, ?_⟩
    dsimp only [List.set_cons_zero, List.set_cons_succ]
    have him : i < n := by
      have := (List.getElem?_eq_some_iff.mp hx).1
      simpa using this
    have hl := allOf_len i
    have hp : 4 ^ i ≤ 4 ^ 4 := Nat.pow_le_pow_right (by decide) (by omega)
    have hl1 := allOf_len (i + 1)
    have hp1 : 4 ^ (i + 1) ≤ 4 ^ 4 := Nat.pow_le_pow_right (by decide) (by omega)
    have hl1 : ((allOf i).flatMap stepQ).length = 4 ^ (i + 1) := hl1
    walk_at "st"
    apply wp_for (fun p ρ S' => S' = S1 ∧ ∃ (s5 s6 : Sl), ρ = [.fz (.int n), .fz (.lst ((allOf i).map numD)), .fz (.int x), .ow (.lst ((((allOf i).take p).flatMap stepQ).map numD)), s5, s6]) <;> walk_at "ev"
    · exact ⟨rfl, _, _, rfl⟩
    · rintro p c ρ2 S2 hc ⟨rfl, s5, s6, rfl⟩
      refine ⟨_, rfl, ?_⟩
      dsimp only [List.set_cons_zero, List.set_cons_succ]
      have hcl : c.length = i := (mem_allOf.mp (List.mem_of_getElem? hc)).1
      have htk := flatMap_take stepQ hc
      have htl := flatMap_take_len stepQ (allOf i) (p + 1)
      rw [htk, List.length_append] at htl
      refine wp_ext (l := (((allOf i).take p).flatMap stepQ).map numD) (m := (stepQ c).map numD) rfl ?_ ?_ (.s (.s (.s .z))) (wp_nil (TurnQ.nx ⟨rfl, .fz (numD c), s6, ?_⟩))
      · have e : (stepQ c).map numD = (List.range 4).map fun (j : Nat) => numD (c ++ [1 + (j : Int)]) := by unfold stepQ; rw [List.map_map]; rfl
        rw [e]
        refine vComp (enc := fun (j : Nat) => .int (1 + (j : Int))) (ls := List.range 4) (vRng vC (vBin vC vC (oAdd _ _)) ?_) (itRng 1 (4 + 1)) (by decide) (fun _ => rfl) (fun _ => rfl) (fun d hd => ?_)
        · rfl
        · exact vBin (vF rfl) (vTup (fCons rfl (vF rfl) fNil)) (oAddNum1 c (1 + (d : Int)) (by omega))
      · rw [List.length_map, List.length_map]; omega
      · rw [htk, List.map_append]
    · rintro ρ' S' ⟨rfl, s5, s6, rfl⟩
      rw [List.take_length]
      walk_at "st"
      walk_at "st"
      exact wp_nil (TurnQ.nx ⟨rfl, .fz (.int x), .fz (.lst (((allOf i).flatMap stepQ).map numD)), s5, s6, rfl⟩)
  · rintro ρ' S' ⟨rfl, s3, s4, s5, s6, rfl⟩
    rw [List.length_range]
    walk_at "st"
    rfl
set_option hygiene false in
local macro_rules | `(tactic| walk_at "call") => `(tactic| ((with_reducible apply TD.callGuard); first | assumption | with_reducible exact TD.q19 _ | with_reducible apply TD.q38))
theorem q39 (m : Nat) (t : Int) (hm : m ≤ 4) : cf (k + 2) 39 [.int m, .int t] S = .ok (.tup ((allF m t).map numD)) S := by
  refine cf_of (df := d39) rfl rfl rfl ?_
  unfold d39
  dsimp only [List.replicate, List.map, List.cons_append, List.nil_append]
  have hN := allN_len m t hm
  walk_at "st"
  apply wp_for (ls := List.range' 1 m) (enc := fun (j : Nat) => .int j) (fun i ρ S' => S' = S ∧ ∃ (s4 s5 : Sl), ρ = [.fz (.int m), .fz (.int t), .ow (.lst ((((List.range' 1 m).take i).flatMap fun j => (allOf j).filter fun x => !decide (t < x.sum)).map numD)), s4, s5]) <;> walk_at "ev"
  · have := itRngN (S := S) 1 (m + 1)
    rw [Nat.add_sub_cancel] at this
    exact this
  · exact ⟨rfl, _, _, rfl⟩
  · rintro i x ρ1 S1 hx ⟨rfl, s4, s5, rfl⟩
    refine ⟨_, rfl, ?_⟩
    dsimp only [List.set_cons_zero, List.set_cons_succ]
    have hxm : x ≤ m := by
      have := List.mem_of_getElem? hx
      rw [List.mem_range'] at this
      omega
    have htk := flatMap_take (fun j => (allOf j).filter fun x => !decide (t < x.sum)) hx
    have htl := flatMap_take_len (fun j => (allOf j).filter fun x => !decide (t < x.sum)) (List.range' 1 m) (i + 1)
    rw [htk, List.length_append] at htl
    have htl : (((List.range' 1 m).take i).flatMap fun j => (allOf j).filter fun x => !decide (t < x.sum)).length + ((allOf x).filter fun x => !decide (t < x.sum)).length ≤ (allN m t).length := htl
    have hl := allOf_len x
    have hp : 4 ^ x ≤ 4 ^ 4 := Nat.pow_le_pow_right (by decide) (by omega)
    walk_at "st"
    refine wp_nil (TurnQ.nx ⟨rfl, .fz (.int x), s5, ?_⟩)
    rw [htk, List.map_append]
  · rintro ρ' S' ⟨rfl, s4, s5, rfl⟩
    rw [List.length_range', List.take_of_length_le (by simp)]
    have e : ((List.range' 1 m).flatMap fun j => (allOf j).filter fun x => !decide (t < x.sum)) = allN m t := rfl
    rw [e]
    walk_at "st"
    rfl
/-! ### the number of a text -/
theorem beats_inj : ∀ x ∈ allN 3 12, ∀ y ∈ allN 3 12, beats x = beats y → x = y := by decide +kernel
theorem num_in {x : List Int} (h : IsNum x) : x ∈ allN 3 12 := by
  refine mem_allN.mpr ⟨h.1, h.2.1, h.2.2, ?_⟩
  obtain ⟨h1, h2, h3⟩ := h
  match x, h1, h2, h3 with
  | [a], _, _, h3 => have := h3 a (by simp); simp; omega
  | [a, b], _, _, h3 => have := h3 a (by simp); have := h3 b (by simp); simp; omega
  | [a, b, c], _, _, h3 => have := h3 a (by simp); have := h3 b (by simp); have := h3 c (by simp); simp; omega
  | _ :: _ :: _ :: _ :: _, _, h2, _ => simp at h2
theorem beats_uniq {x y : List Int} (h : IsNum x) (h' : IsNum y) (e : beats x = beats y) : x = y := beats_inj x (num_in h) y (num_in h') e
theorem IsNum.small {x : List Int} (h : IsNum x) : Small x := ⟨by have := h.2.1; omega, fun c hc => by have := h.2.2 c hc; omega⟩
theorem IsNum.of {x : List Int} (h : x ∈ allF 3 12) : IsNum x := by
  have := mem_allF.mp h
  exact ⟨this.1, this.2.1, this.2.2.1⟩
theorem num_inF {x : List Int} (h : IsNum x) : x ∈ allF 3 12 := by
  unfold allF; rw [sortB_mem]; exact num_in h
theorem q49x (T : Sx) (r : R D) (hyes : ∀ x, IsNum x → beats x = T → r = .ok (numD x) S) (hno : (∀ x, IsNum x → beats x ≠ T) → r = .xc 1 S) : cf (k + 3) 49 [.str T] S = r := by
  refine cf_of (df := d49) rfl rfl rfl ?_
  unfold d49
  dsimp only [List.replicate, List.map, List.cons_append, List.nil_append]
  have c39 : (fnK (k + 2)).call 39 [.int 3, .int (3 * 4)] S = .ok (.tup ((allF 3 12).map numD)) S := q39 3 12 (by decide)
  apply wp_for (fun i ρ S' => S' = S ∧ (∀ x ∈ (allF 3 12).take i, beats x ≠ T) ∧ ∃ (s1 : Sl), ρ = [.fz (.str T), s1]) <;> walk_at "ev"
  · rfl
  · exact ⟨rfl, fun x h => by simp at h, _, rfl⟩
  · rintro i x ρ1 S1 hx ⟨rfl, hn, s1, rfl⟩
    refine ⟨_, rfl, ?_⟩
    dsimp only [List.set_cons_zero, List.set_cons_succ]
    have hxn : IsNum x := IsNum.of (List.mem_of_getElem? hx)
    have c0 : (fnK (k + 2)).call 0 [numD x] S1 = .ok (.str (beats x)) S1 := q0 x hxn.small
    refine wp_if (S1 := S1) (vCmp (vCall (fCons rfl (vF rfl) fNil) c0) (vF rfl) (eqS _ _ _)) (truB _ _) (fun h => ?_) (fun h => ?_)
    · refine wp_ret (vF rfl) rfl ?_
      refine TurnQ.rt ?_
      exact (hyes x hxn (by simpa using h)).symm
    · refine wp_end (wp_nil (TurnQ.nx ⟨rfl, fun y hy => ?_, .fz (numD x), rfl⟩))
      rw [List.take_add_one, hx] at hy
      rcases List.mem_append.mp hy with h1 | h1
      · exact hn y h1
      · simp at h1
        subst h1
        simpa using h
  · rintro ρ' S' ⟨rfl, hn, s1, rfl⟩
    rw [List.take_length] at hn
    refine wp_raise ?_
    exact (hno fun x hx => hn x (num_inF hx)).symm
theorem q49 {x : List Int} (h : IsNum x) : cf (k + 3) 49 [.str (beats x)] S = .ok (numD x) S :=
  q49x _ _ (fun y hy e => by rw [beats_uniq hy h e]) fun z => absurd rfl (z x h)
theorem q49n {T : Sx} (h : ∀ x, IsNum x → beats x ≠ T) : cf (k + 3) 49 [.str T] S = .xc 1 S :=
  q49x _ _ (fun y hy e => absurd e (h y hy)) fun _ => rfl
theorem number_isnum (n most : Int) (hn : 0 ≤ n) (hm : 0 < most) (hm3 : most ≤ 3) : IsNum (number n most) := by
  have h0 := Int.emod_nonneg (n / 16) (by omega : most ≠ 0)
  have h1 := Int.emod_lt_of_pos (n / 16) hm
  unfold number
  refine ⟨by simp; omega, by simp; omega, fun c hc => ?_⟩
  obtain ⟨j, _, rfl⟩ := List.mem_map.mp hc
  have h2 := Int.emod_nonneg (drawn n j / 16) (by decide : (4 : Int) ≠ 0)
  have h3 := Int.emod_lt_of_pos (drawn n j / 16) (by decide : (0 : Int) < 4)
  omega
end
end TD
end
section
set_option Elab.async false
set_option linter.all false
set_option maxRecDepth 100000
set_option maxHeartbeats 0
set_option pp.deepTerms false
set_option pp.deepTerms.threshold 5
set_option hygiene false in
local macro_rules | `(tactic| walk_at "side") => `(tactic| first | assumption | omega | (simp only [List.length_map, List.length_range, List.length_append, List.length_take, List.length_drop, List.length_cons, List.length_nil, List.length_replicate, List.length_zipIdx, List.length_zip]; omega))
local macro_rules | `(tactic| walk_at "it") => `(tactic| with_reducible first | exact TD.itLot _ | exact TD.itCalls _ | exact TD.itNum _ | exact TD.itNames _ | exact TD.itRng0 _ | exact TD.itRngI _ | exact TD.itRngN _ _ | exact TD.itRng _ _ | exact TD.itEnum _ _ | exact TD.itZip _ _ _ _ | exact TD.itLst _ _ | exact TD.itTup _ _ | exact TD.itStr _)
local macro_rules | `(tactic| walk_at "op") => `(tactic| with_reducible first | exact TD.oAdd _ _ | exact TD.oSub _ _ | apply TD.oMod | apply TD.oDiv | apply TD.oMul | apply TD.oAddS | apply TD.oAddCalls1 | apply TD.oAddCalls | apply TD.oAddNum1 | apply TD.oAddT | apply TD.oAddL | apply TD.oMulC | apply TD.oMulS)
local macro_rules | `(tactic| walk_at "cm") => `(tactic| with_reducible first | exact TD.eqI _ _ _ | exact TD.neI _ _ _ | exact TD.ltI _ _ _ | exact TD.gtI _ _ _ | exact TD.leI _ _ _ | exact TD.geI _ _ _ | exact TD.eqS _ _ _ | exact TD.neS _ _ _ | exact TD.eqB _ _ _ | exact TD.neB _ _ _ | exact TD.cIsNon | exact TD.cIsntNon | exact TD.cIsB | exact TD.cIsntB | exact TD.cInCallsT _ _ | exact TD.cInNames _ _ | exact TD.cInStrL _ _ | exact TD.cInNumL _ _ | exact TD.cInNumT _ _ | exact TD.cInSign _ _ | exact TD.cNin (TD.cInCallsT _ _) | exact TD.cNin (TD.cInNames _ _) | exact TD.cNin (TD.cInStrL _ _) | exact TD.cNin (TD.cInNumL _ _) | exact TD.cNin (TD.cInNumT _ _) | exact TD.cEq (TD.pNum _) (TD.pNum _) (TD.numD_eqv _ _) | exact TD.cNe (TD.pNum _) (TD.pNum _) (TD.numD_eqv _ _) | exact TD.cEq (TD.pLot _) (TD.pLot _) (TD.lot_eqv _ _) | exact TD.cNe (TD.pLot _) (TD.pLot _) (TD.lot_eqv _ _) | exact TD.cEq (TD.pCalls _) (TD.pCalls _) (TD.calls_eqv _ _) | exact TD.cNe (TD.pCalls _) (TD.pCalls _) (TD.calls_eqv _ _))
local macro_rules | `(tactic| walk_at "bi") => `(tactic| with_reducible first | exact TD.bLenLot _ | exact TD.bLenCalls _ | exact TD.bLenNum _ | exact TD.bLenNames _ | exact TD.bLenLM _ _ | exact TD.bLenTM _ _ | exact TD.bLenL _ | exact TD.bLenT _ | apply TD.bLenS | exact TD.bTupNum _ _ | exact TD.bTupNames _ _ | exact TD.bTupLot _ _ _ | exact TD.bTupCalls _ _ _ | exact TD.bIntB _ | exact TD.bIntI _ | apply TD.bIntC | exact TD.bAbs _ | apply TD.bSortCalls | apply TD.bSortNum | apply TD.bSortNames | apply TD.bSortS | exact TD.bSumNum _ | exact TD.bSum _ _ | exact TD.bAll _ _ | exact TD.bAny _ _ | exact TD.bMaxA _ _ _ | exact TD.bMinA _ _ _ | exact TD.bMaxB _ _ _ | apply TD.bMinNear | apply TD.bMinF | apply TD.bMaxF | exact TD.bMax2N _ _ | exact TD.bMax2 _ _ | exact TD.bListT _ | exact TD.bListL _ | exact TD.bTupL _)
local macro_rules | `(tactic| walk_at "ix") => `(tactic| with_reducible first | exact TD.gBit _ | exact TD.gTup0 _ _ | exact TD.gTup1 _ _ _ | exact TD.gTup2 _ _ _ _ | exact TD.gLst0 _ _ | exact TD.gLst1 _ _ _ | exact TD.gLot0 (by assumption) | exact TD.gCalls0 (by assumption) | exact TD.gLot (by assumption) | exact TD.gCalls (by assumption) | exact TD.gNum (by assumption) | exact TD.gMapT (by assumption) | exact TD.gMapL (by assumption) | apply TD.gLst | apply TD.gTup | exact TD.gStr (by walk_at "side") (by assumption) | apply TD.gStrN | apply TD.gStrI | apply TD.gLotN | apply TD.gCallsN | apply TD.gNumN | exact TD.sCallsTo _ _ | exact TD.sCallsFrom _ _ | exact TD.sLotTo _ _ | exact TD.sLotFrom _ _ | exact TD.sTupTo _ _ | exact TD.sTupFrom _ _ | exact TD.sTupN _ _ _ | exact TD.sLstTo _ _ | exact TD.sLstFrom _ _ | exact TD.sLstN _ _ _ | apply TD.sStrFrom1 | apply TD.sStrN1 | exact TD.sCallsFrom1 _ _ | exact TD.sLotFrom1 _ _ | exact TD.sLstFrom1 _ _ | exact TD.sTupFrom1 _ _ | apply TD.sStrTo | apply TD.sStrFrom | apply TD.sStrN)
local macro_rules | `(tactic| walk_at "me") => `(tactic| with_reducible first | apply TD.mJoinC | apply TD.mJoin | apply TD.mIndex | exact TD.mCount _ _ | apply TD.mRstrip | apply TD.mSplit | exact TD.mEndsw _ _ | apply TD.mReplace)
local macro_rules | `(tactic| walk_at "e1") => `(tactic| first
  | with_reducible exact TD.vC
  | ((with_reducible apply TD.vF); rfl)
  | ((with_reducible apply TD.vO); rfl)
  | (with_reducible apply TD.vCall)
  | (with_reducible apply TD.vBin)
  | (with_reducible apply TD.vCmp)
  | (with_reducible apply TD.vAnd)
  | (with_reducible apply TD.vOr)
  | (with_reducible apply TD.vNot)
  | (with_reducible apply TD.vIdx)
  | (with_reducible apply TD.vBi1)
  | (with_reducible apply TD.vBi2)
  | (with_reducible apply TD.vComp)
  | (with_reducible apply TD.vCompF)
  | (with_reducible apply TD.vRng)
  | (with_reducible apply TD.vEnu)
  | (with_reducible apply TD.vZip)
  | (with_reducible apply TD.vTup)
  | (with_reducible apply TD.vLst)
  | (with_reducible apply TD.vMe1)
  | (with_reducible apply TD.vMe2)
  | (with_reducible apply TD.vSlTo)
  | (with_reducible apply TD.vSlFrom)
  | (with_reducible apply TD.vSl)
  | (with_reducible apply TD.vRev)
  | (with_reducible apply TD.vCmp2)
  | (with_reducible apply TD.vNeg)
  | (with_reducible apply TD.vIsa)
  | (with_reducible apply TD.vLcat)
  | (with_reducible apply TD.vLrep)
  | (with_reducible apply TD.fCons)
  | (with_reducible apply TD.vKeys)
  | (with_reducible apply TD.vSortK)
  | (with_reducible apply TD.vGet)
  | (with_reducible apply TD.vOmt)
  | (with_reducible apply TD.vSset)
  | (with_reducible apply TD.vLset)
  | with_reducible exact TD.vDic0
  | with_reducible exact TD.fNil
  | with_reducible exact TD.truB _ _
  | ((with_reducible show TD.isOwn _ _ = false); rfl)
  | ((with_reducible show TD.noPart _ = false); rfl)
  | ((with_reducible show TD.D.isObj _ = false); rfl)
  | ((with_reducible show TD.slot _ _ = _); rfl)
  | ((with_reducible show TD.Me.recv _ _ = true); rfl)
  | with_reducible exact TD.SetE.z
  | with_reducible apply TD.SetE.s
  | walk_at "op" | walk_at "cm" | walk_at "bi" | walk_at "ix" | walk_at "me" | walk_at "it"
  | ((with_reducible show ∀ _, TD.T.put _ _ _ = _); intro _; rfl)
  | ((with_reducible show ∀ _, TD.isOwn _ _ = _); intro _; rfl)
  | walk_at "call"
  | ((with_reducible show _ ≤ _); walk_at "side")
  | ((with_reducible show _ < _); walk_at "side")
  | ((with_reducible show TD.rangeOk _ _ = true); simp only [TD.rangeOk, Bool.and_eq_true, decide_eq_true_eq]; omega)
  | ((with_reducible show _[_]? = some _); first | rfl | assumption)
  | ((with_reducible show _ ≠ _); assumption)
  | ((with_reducible show TD.GoodLot _); assumption)
  | ((with_reducible show TD.CallsOf _ _); assumption)
  | ((with_reducible show _ ∧ _); walk_at "side")
  | ((with_reducible show ∀ _ ∈ List.range _, _); intro d hd; rw [List.mem_range] at hd)
  | ((with_reducible show ∀ _ ∈ _, _); intro _ _)
  | ((with_reducible show _ = true → _); intro _)
  | ((with_reducible show _ = false → _); intro _))
local macro_rules | `(tactic| walk_at "ev") => `(tactic| repeat' walk_at "e1")
local macro_rules | `(tactic| walk_at "st") => `(tactic| (first
  | (with_reducible apply TD.wp_set)
  | (with_reducible apply TD.wp_own)
  | (with_reducible apply TD.wp_par)
  | (with_reducible apply TD.wp_parO)
  | (with_reducible apply TD.wp_app)
  | (with_reducible apply TD.wp_ext)
  | (with_reducible apply TD.wp_putD)
  | (with_reducible apply TD.wp_exp)
  | (with_reducible apply TD.wp_frz)
  | (with_reducible apply TD.wp_ret)
  | (with_reducible apply TD.wp_tset)
  | (with_reducible apply TD.wp_tsetL)
  | (with_reducible apply TD.wp_ifF)
  | with_reducible refine TD.wp_end ?_ | with_reducible refine TD.wp_pass ?_) <;> walk_at "ev")
set_option hygiene false in
local macro_rules | `(tactic| walk_at "call") => `(tactic| ((with_reducible apply TD.callGuard); first | assumption | with_reducible apply TD.q0 | with_reducible apply TD.q1 | with_reducible apply TD.q2 | with_reducible apply TD.q3 | with_reducible exact TD.q6 _ _ | with_reducible apply TD.q14 | with_reducible apply TD.q16 | with_reducible exact TD.q17 _ | with_reducible apply TD.q5 | with_reducible apply TD.q15 | with_reducible apply TD.q19 | with_reducible apply TD.q20 | with_reducible apply TD.q22))
/-! law k10. -/
namespace TD
section
variable {k : Nat} {S : Sto}
def innerN (i j : Nat) : List (List Int) := [1 + (i : Int), 1 + (j : Int)] :: (List.range 4).map fun (m : Nat) => [1 + (i : Int), 1 + (j : Int), 1 + (m : Int)]
def midN (i : Nat) : List (List Int) := [1 + (i : Int)] :: (List.range 4).flatMap (innerN i)
def everyN : List (List Int) := (List.range 4).flatMap midN
theorem every_perm : everyN.Perm (allN 3 12) := by decide +kernel
theorem every_num {x : List Int} : x ∈ everyN ↔ IsNum x := by
  rw [every_perm.mem_iff]
  exact ⟨fun h => IsNum.of (by unfold allF; rw [sortB_mem]; exact h), num_in⟩
theorem every_sort : sortB ltNum everyN = allF 3 12 := sortB_eq ord_num.sto every_perm
theorem every_nodup : everyN.Nodup := every_perm.nodup_iff.mpr (allN_nodup 3 12)
theorem all_cut (m : Nat) (t : Int) (hm : m ≤ 3) : allF m t = (allF 3 12).filter fun x => !decide ((m : Int) < (x.length : Int)) && !decide (t < x.sum) := by
  refine sortB_uniq ord_num.sto ((List.perm_ext_iff_of_nodup (allF_nodup m t) ((allF_nodup 3 12).filter _)).mpr fun x => ?_) (sortB_pw ord_num.sto _) ((sortB_pw ord_num.sto _).filter _)
  rw [List.mem_filter, mem_allF, mem_allF]
  simp only [Bool.and_eq_true, Bool.not_eq_true', decide_eq_false_iff_not, Int.not_lt]
  constructor
  · rintro ⟨h1, h2, h3, h4⟩
    have := mem_allN.mp (num_in ⟨h1, by omega, h3⟩)
    exact ⟨⟨h1, by omega, h3, this.2.2.2⟩, by omega, h4⟩
  · rintro ⟨⟨h1, h2, h3, h4⟩, h5, h6⟩
    exact ⟨h1, by omega, h3, h6⟩
theorem good_num {x : List Int} (h : IsNum x) : Good x := ⟨fun e => by have := h.1; rw [e] at this; simp at this, by have := h.2.1; omega, fun c hc => by have := h.2.2 c hc; omega⟩
theorem count_app (a b : Sx) (c : Nat) : (a ++ b).count c = a.count c + b.count c := List.count_append
theorem joinS_count (s : Sx) (hs : s.count 49 = 0) : ∀ l : List Sx, (joinS s l).count 49 = (l.map fun x => x.count 49).sum
  | [] => rfl
  | [x] => by simp [joinS]
  | x :: y :: r => by
    rw [joinS_cons, count_app, count_app, hs, joinS_count s hs (y :: r)]
    simp
theorem tapsX_count (n : Nat) : (tapsX n).count 49 = n := by
  unfold tapsX
  rw [joinS_count [48] (by decide)]
  induction n with
  | zero => rfl
  | succ n ih => rw [List.replicate_succ, List.map_cons, List.sum_cons, ih]; simp; omega
theorem beats_count {x : List Int} (h : ∀ c ∈ x, 0 ≤ c) : ((beats x).count 49 : Int) = x.sum := by
  unfold beats
  rw [joinS_count [48, 48, 48] (by decide), List.map_map]
  have e : ((fun x : Sx => List.count 49 x) ∘ fun c : Int => tapsX c.toNat) = fun c : Int => c.toNat := funext fun c => tapsX_count _
  rw [e]
  induction x with
  | nil => rfl
  | cons c x ih =>
    have := ih fun d hd => h d (by simp [hd])
    have h0 := h c (by simp)
    simp only [List.map_cons, List.sum_cons]
    omega
theorem cNumL0 (l : List (List Int)) : Cm.run .ne (.lst (l.map numD)) (.lst []) S = .ok (!l.isEmpty) S := by
  refine cNe (pNumL l) rfl ?_
  cases l <;> rfl
theorem same_one {T : Sx} {x y : List Int} {r : List (List Int)} (e : everyN.filter (fun z => beats z == T) = x :: r) : r = [] ∧ IsNum x ∧ beats x = T := by
  have hx : x ∈ everyN.filter (fun z => beats z == T) := by rw [e]; simp
  rw [List.mem_filter] at hx
  have hx2 : beats x = T := by simpa using hx.2
  refine ⟨?_, every_num.mp hx.1, hx2⟩
  cases r with
  | nil => rfl
  | cons z r =>
    exfalso
    have hz : z ∈ everyN.filter (fun z => beats z == T) := by rw [e]; simp
    rw [List.mem_filter] at hz
    have hz2 : beats z = T := by simpa using hz.2
    have : x = z := beats_uniq (every_num.mp hx.1) (every_num.mp hz.1) (hx2.trans hz2.symm)
    have nd := (every_nodup.filter fun z => beats z == T)
    rw [e, this] at nd
    simp at nd
theorem q50 (ns : List Int) : cf (k + 9) 50 [.lst (ns.map .int)] S = .ok (.bl true) S := by
  refine cf_of (df := d50) rfl rfl rfl ?_
  unfold d50
  dsimp only [List.replicate, List.map, List.cons_append, List.nil_append]
  have hx : IsNum (number (mixed ns 0) 3) := number_isnum _ _ (mixed_nonneg ns 0) (by decide) (by decide)
  have c7 : (fnK (k + 8)).call 7 [.int (mixed ns 0), .int 3] S = .ok (numD (number (mixed ns 0) 3)) S := q7 (k := k + 6) _ _ (by decide) (by decide) (mixed_nonneg ns 0)
  generalize number (mixed ns 0) 3 = x at hx c7
  have hs := hx.small
  have hg := good_num hx
  have hb := beats_len hs
  have hn0 := mixed_nonneg ns 1
  have c50 : (fnK (k + 8)).call 5 [.lst (ns.map .int), .int 0] S = .ok (.int (mixed ns 0)) S := q5 (k := k + 6) ns 0 (by decide)
  have c51 : (fnK (k + 8)).call 5 [.lst (ns.map .int), .int 1] S = .ok (.int (mixed ns 1)) S := q5 (k := k + 6) ns 1 (by decide)
  have c0 : (fnK (k + 8)).call 0 [numD x] S = .ok (.str (beats x)) S := q0 x hs
  have c44 : (fnK (k + 8)).call 44 [numD x] S = .ok (.str (beats x)) S := q44 hg
  have c19 : (fnK (k + 8)).call 19 [numD x] S = .ok (.int x.sum) S := q19 x
  have c20 : (fnK (k + 8)).call 20 [numD x] S = .ok (.int (beats x).length) S := q20 (k := k + 6) x hs
  have c49 : (fnK (k + 8)).call 49 [.str (beats x)] S = .ok (numD x) S := q49 (k := k + 5) hx
  have hcnt := beats_count fun c hc => (hs.2 c hc).1
  walk_at "st"
  walk_at "st"
  refine wp_ifF (S1 := S) (b := false) (vOr rfl rfl (p := false) (q := false) (vCmp (vCall (fCons rfl (vF rfl) fNil) c0) (vF rfl) ?_) fun _ => vOr rfl rfl (p := false) (q := false) (vCmp (vCall (fCons rfl (vF rfl) fNil) c19) (vMe1 (vF rfl) rfl vC (mCount _ _)) ?_) fun _ => vOr rfl rfl (p := false) (q := false) (vCmp (vCall (fCons rfl (vF rfl) fNil) c20) (vBi1 (vF rfl) (bLenS (by omega))) ?_) fun _ => vCmp (vCall (fCons rfl (vF rfl) fNil) c49) (vF rfl) (cNe (b := true) (pNum _) (pNum _) (num_self x))) rfl ?_
  · rw [neS]; simp
  · rw [neI, hcnt]; simp
  · rw [neI]; simp
  generalize hT : beats x = T at *
  have ha0 := Int.emod_nonneg (mixed ns 1 / 16) (by omega : ((T.length : Int) + 1) ≠ 0)
  have ha1 := Int.emod_lt_of_pos (mixed ns 1 / 16) (by omega : (0 : Int) < (T.length : Int) + 1)
  obtain ⟨a, ha⟩ : ∃ a : Nat, mixed ns 1 / 16 % ((T.length : Int) + 1) = (a : Int) := ⟨(mixed ns 1 / 16 % ((T.length : Int) + 1)).toNat, by omega⟩
  walk_at "st"
  walk_at "st"
  -- all numbers
  apply wp_for (ls := List.range 4) (enc := fun (j : Nat) => .int (1 + (j : Int))) (fun i ρ S' => S' = S ∧ ∃ (s5 s6 s7 s8 s9 s10 s11 s12 s13 s14 s15 : Sl), ρ = [.fz (.lst (ns.map .int)), .fz (numD x), .fz (.str T), .fz (.int (mixed ns 1)), .ow (.lst ((((List.range 4).take i).flatMap midN).map numD)), s5, s6, s7, s8, s9, s10, s11, s12, s13, s14, s15]) <;> walk_at "ev"
  · exact itRng 1 5
  · exact ⟨rfl, _, _, _, _, _, _, _, _, _, _, _, rfl⟩
  · rintro i y ρ1 S1 hy ⟨rfl, s5, s6, s7, s8, s9, s10, s11, s12, s13, s14, s15, rfl⟩
    refine ⟨_, rfl, ?_⟩
    dsimp only [List.set_cons_zero, List.set_cons_succ]
    have hml : ∀ (n : Nat) (l : List Nat), l.length ≤ 4 → (l.flatMap midN).length ≤ 100 := fun n l hl => by
      rw [List.length_flatMap]
      have := sum_le (fun j => (midN j).length) 21 l fun j _ => Nat.le_of_eq rfl
      omega
    have htk := flatMap_take midN hy
    have hl4 := hml 0 ((List.range 4).take i) (by rw [List.length_take, List.length_range]; omega)
    refine wp_app (l := (((List.range 4).take i).flatMap midN).map numD) (x := numD [1 + (y : Int)]) rfl (vTup (fCons rfl (vF rfl) fNil)) rfl (by rw [List.length_map]; omega) (.s (.s (.s (.s .z)))) ?_
    apply wp_for (ls := List.range 4) (enc := fun (j : Nat) => .int (1 + (j : Int))) (fun p ρ S' => S' = S1 ∧ ∃ (s6 s7 s8 s9 s10 s11 s12 s13 s14 s15 : Sl), ρ = [.fz (.lst (ns.map .int)), .fz (numD x), .fz (.str T), .fz (.int (mixed ns 1)), .ow (.lst ((((List.range 4).take i).flatMap midN ++ ([1 + (y : Int)] :: ((List.range 4).take p).flatMap (innerN y))).map numD)), .fz (.int (1 + (y : Int))), s6, s7, s8, s9, s10, s11, s12, s13, s14, s15]) <;> walk_at "ev"
    · exact itRng 1 5
    · refine ⟨rfl, s6, s7, s8, s9, s10, s11, s12, s13, s14, s15, ?_⟩
      simp
    · rintro p z ρ2 S2 hz ⟨rfl, s6, s7, s8, s9, s10, s11, s12, s13, s14, s15, rfl⟩
      refine ⟨_, rfl, ?_⟩
      dsimp only [List.set_cons_zero, List.set_cons_succ]
      have htk2 := flatMap_take (innerN y) hz
      have hil : (((List.range 4).take p).flatMap (innerN y)).length ≤ 100 := by
        rw [List.length_flatMap]
        have := sum_le (fun j => (innerN y j).length) 5 ((List.range 4).take p) fun j _ => by simp [innerN]
        have h2 : ((List.range 4).take p).length ≤ 4 := by rw [List.length_take, List.length_range]; omega
        omega
      refine wp_app (l := (((List.range 4).take i).flatMap midN ++ ([1 + (y : Int)] :: ((List.range 4).take p).flatMap (innerN y))).map numD) (x := numD [1 + (y : Int), 1 + (z : Int)]) rfl (vTup (fCons rfl (vF rfl) (fCons rfl (vF rfl) fNil))) rfl (by rw [List.length_map, List.length_append, List.length_cons]; omega) (.s (.s (.s (.s .z)))) ?_
      refine wp_ext (m := (List.range 4).map fun (m : Nat) => numD [1 + (y : Int), 1 + (z : Int), 1 + (m : Int)]) rfl ?_ ?_ (.s (.s (.s (.s .z)))) (wp_nil (TurnQ.nx ⟨rfl, s6, s7, s8, s9, s10, s11, s12, .fz (.int (1 + (z : Int))), s14, s15, ?_⟩))
      · exact vComp (enc := fun (j : Nat) => .int (1 + (j : Int))) (ls := List.range 4) (vRng vC vC rfl) (itRng 1 5) (by decide) (fun _ => rfl) (fun _ => rfl) (fun d hd => vTup (fCons rfl (vF rfl) (fCons rfl (vF rfl) (fCons rfl (vF rfl) fNil))))
      · rw [List.length_append, List.length_map, List.length_append, List.length_cons, List.length_map]
        simp only [List.length_range, List.length_cons, List.length_nil]
        omega
      · rw [htk2]
        simp [innerN, List.map_append]
    · rintro ρ' S' ⟨rfl, s6, s7, s8, s9, s10, s11, s12, s13, s14, s15, rfl⟩
      refine wp_nil (TurnQ.nx ⟨rfl, .fz (.int (1 + (y : Int))), s6, s7, s8, s9, s10, s11, s12, s13, s14, s15, ?_⟩)
      rw [htk]
      rfl
  · rintro ρ' S' ⟨rfl, s5, s6, s7, s8, s9, s10, s11, s12, s13, s14, s15, rfl⟩
    have e0 : ((List.range 4).take (List.range 4).length).flatMap midN = everyN := rfl
    rw [e0]
    clear e0
    have hel : everyN.length = 84 := by decide +kernel
    refine wp_set (S1 := S') (x := .int (a : Int)) ?_ rfl (.s (.s (.s (.s (.s (.s .z)))))) ?_
    · rw [← ha]
      exact vBin (vBin (vF rfl) vC (oDiv _ _ (by decide) (by decide))) (vBin (vBi1 (vF rfl) (bLenS (by omega))) vC (oAdd _ _)) (oMod _ _ (by omega))
    refine wp_set (S1 := S') (x := .tup [.str (T.take a ++ T.drop (a + 1)), .str (T.take a ++ [48] ++ T.drop a), .str (T.take a ++ [49] ++ T.drop a), .str [], .str (T ++ [48]), .str [120]]) ?_ rfl (.s (.s (.s (.s (.s (.s (.s .z))))))) ?_
    · have st := sStrTo (S := S') a (by omega : T.length ≤ 16000000)
      have sf := sStrFrom (S := S') a (by omega : T.length ≤ 16000000)
      have sf1 := sStrFrom1 (S := S') a (by omega : T.length ≤ 16000000)
      refine vTup (fCons rfl (vBin (vSlTo rfl (vF rfl) (vF rfl) st) (vSlFrom rfl (vF rfl) (vBin (vF rfl) vC (oAdd _ _)) sf1) (oAddS _ _ ?_))
        (fCons rfl (vBin (vBin (vSlTo rfl (vF rfl) (vF rfl) st) vC (oAddS _ _ ?_)) (vSlFrom rfl (vF rfl) (vF rfl) sf) (oAddS _ _ ?_))
        (fCons rfl (vBin (vBin (vSlTo rfl (vF rfl) (vF rfl) st) vC (oAddS _ _ ?_)) (vSlFrom rfl (vF rfl) (vF rfl) sf) (oAddS _ _ ?_))
        (fCons rfl vC (fCons rfl (vBin (vF rfl) vC (oAddS _ _ ?_)) (fCons rfl vC fNil)))))) <;> simp <;> omega
    obtain ⟨U, hU, hUl⟩ : ∃ U : Sx, D.item (.tup [.str (T.take a ++ T.drop (a + 1)), .str (T.take a ++ [48] ++ T.drop a), .str (T.take a ++ [49] ++ T.drop a), .str [], .str (T ++ [48]), .str [120]]) (.int (mixed ns 1 / 512 % 6)) S' = .ok (.str U) S' ∧ U.length ≤ 50000 := by
      have h0 := Int.emod_nonneg (mixed ns 1 / 512) (by decide : (6 : Int) ≠ 0)
      have h1 := Int.emod_lt_of_pos (mixed ns 1 / 512) (by decide : (0 : Int) < 6)
      generalize mixed ns 1 / 512 % 6 = t at h0 h1
      rcases (by omega : t = 0 ∨ t = 1 ∨ t = 2 ∨ t = 3 ∨ t = 4 ∨ t = 5) with h | h | h | h | h | h <;> subst h
      · exact ⟨_, rfl, by simp; omega⟩
      · exact ⟨_, rfl, by simp; omega⟩
      · exact ⟨_, rfl, by simp; omega⟩
      · exact ⟨_, rfl, by simp⟩
      · exact ⟨_, rfl, by simp; omega⟩
      · exact ⟨_, rfl, by simp⟩
    refine wp_set (S1 := S') (x := .str U) (vIdx (vF rfl) (vBin (vBin (vF rfl) vC (oDiv _ _ (by decide) (by decide))) vC (oMod _ _ (by decide))) hU) rfl (.s (.s (.s (.s (.s (.s (.s (.s .z)))))))) ?_
    refine wp_set (S1 := S') (x := .lst ((everyN.filter fun z => beats z == U).map numD)) ?_ rfl (.s (.s (.s (.s (.s (.s (.s (.s (.s .z))))))))) ?_
    · refine vCompF (enc := numD) (ls := everyN) (p := fun z => beats z == U) (vO rfl) (itLst _ _) (by omega) (fun _ => rfl) (fun _ => rfl) (fun d hd => ?_) (fun d hd _ => vF rfl)
      exact vCmp (vCall (fCons rfl (vF rfl) fNil) (q44 (good_num (every_num.mp hd)))) (vF rfl) (eqS _ _ _)
    refine wp_set (S1 := S') (x := callD ([114, 101, 102, 117, 115, 101, 100], 0)) (vTup (fCons rfl vC (fCons rfl vC fNil))) rfl (.s (.s (.s (.s (.s (.s (.s (.s (.s (.s .z)))))))))) ?_
    -- the end
    obtain ⟨m, hm, hm1, hm2⟩ : ∃ m : Nat, 1 + mixed ns 1 / 4096 % 3 = (m : Int) ∧ 1 ≤ m ∧ m ≤ 3 := ⟨(1 + mixed ns 1 / 4096 % 3).toNat, by omega, by omega, by omega⟩
    have c39 : (fnK (k + 8)).call 39 [.int m, .int (mixed ns 1 / 16384 % 14)] S' = .ok (.tup ((allF m (mixed ns 1 / 16384 % 14)).map numD)) S' := q39 (k := k + 6) m _ (by omega)
    have hfin : ∀ s10 : Sl, Wp (exs (fnK (k + 8)) (.cons (.set 11 (.bin .add (.con (.int 1)) (.bin .mod (.bin .fdiv (.var 3) (.con (.int 4096))) (.con (.int 3))))) (.cons (.set 12 (.bin .mod (.bin .fdiv (.var 3) (.con (.int 16384))) (.con (.int 14)))) (.cons (.ret (.cmp .eq (.call 39 (.cons (.var 11) (.cons (.var 12) .nil))) (.bi .tuple (.cons (.comp (.var 14) (.n 14) (.bi .sorted (.cons (.var 4) .nil)) (.and (.cmp .le (.bi .len (.cons (.var 14) .nil)) (.var 11)) (.cmp .le (.bi .sum (.cons (.var 14) .nil)) (.var 12))) [14]) .nil)))) .nil))) [.fz (.lst (ns.map .int)), .fz (numD x), .fz (.str T), .fz (.int (mixed ns 1)), .ow (.lst (everyN.map numD)), s5, .fz (.int a), .fz (.tup [.str (T.take a ++ T.drop (a + 1)), .str (T.take a ++ [48] ++ T.drop a), .str (T.take a ++ [49] ++ T.drop a), .str [], .str (T ++ [48]), .str [120]]), .fz (.str U), .fz (.lst ((everyN.filter fun z => beats z == U).map numD)), s10, s11, s12, s13, s14, s15] S') (fun o => o.end_ = .ok (.bl true) S') := fun s10 => by
      walk_at "st"
      rw [hm]
      walk_at "st"
      refine wp_ret (S1 := S') (x := .bl true) (vCmp (vCall (fCons rfl (vF rfl) (fCons rfl (vF rfl) fNil)) c39) (vBi1 (x := .lst ((allF m (mixed ns 1 / 16384 % 14)).map numD)) ?_ (bTupL _)) (cEq (pNumT _) (pNumT _) ?_)) rfl rfl
      · have := all_cut m (mixed ns 1 / 16384 % 14) hm2
        rw [this, ← every_sort]
        refine vCompF (enc := numD) (ls := sortB ltNum everyN) (p := fun x => !decide ((m : Int) < (x.length : Int)) && !decide (mixed ns 1 / 16384 % 14 < x.sum)) (vBi1 (vO rfl) (bSortNum everyN (by omega))) (itLst _ _) (by rw [(sortB_perm _).length_eq]; omega) (fun _ => rfl) (fun _ => rfl) (fun d hd => ?_) (fun d hd _ => vF rfl)
        exact vAnd rfl rfl (vCmp (vBi1 (vF rfl) (bLenNum _)) (vF rfl) (leI _ _ _)) fun _ => vCmp (vBi1 (vF rfl) (bSumNum _)) (vF rfl) (leI _ _ _)
      · have := map_eqv numD numD_eqv (allF m (mixed ns 1 / 16384 % 14)) (allF m (mixed ns 1 / 16384 % 14))
        show eqvs _ _ = true
        rw [this]; simp
    refine wp_if (S1 := S') (vCmp (vF rfl) (vLst fNil) (cNumL0 _)) (truB _ _) (fun h => ?_) (fun h => wp_end ?_)
    · obtain ⟨y, r, e⟩ : ∃ y r, everyN.filter (fun z => beats z == U) = y :: r := by
        cases e : everyN.filter (fun z => beats z == U) with
        | nil => rw [e] at h; cases h
        | cons y r => exact ⟨y, r, rfl⟩
      obtain ⟨rfl, h1, h2⟩ := same_one (y := y) e
      refine wp_set (S1 := S') (x := boxD ([116, 111, 108, 100], y)) (vTup (fCons rfl vC (fCons rfl (vIdx (vF rfl) vC ?_) fNil))) rfl (.s (.s (.s (.s (.s (.s (.s (.s (.s (.s .z)))))))))) (wp_end ?_)
      · rw [e]; exact gLst0 _ _
      refine wp_ifF (S1 := S') (b := false) (vOr rfl rfl (p := false) (q := false) (vCmp (vBi1 (vF rfl) (bLenLM _ _)) vC ?_) fun _ => vCmp (vToldOk (vCall (fCons rfl (vF rfl) fNil) ?_)) (vF rfl) (cNe (x := boxD ([116, 111, 108, 100], y)) (b := true) (okBox _ 28) (okBox _ 28) (by rw [box_eqv]; simp))) rfl (hfin _)
      · rw [e]; exact gtI _ _ _
      · have := q49 (k := k + 5) (S := S') h1
        rw [h2] at this; exact this
    · have e : everyN.filter (fun z => beats z == U) = [] := by simpa using h
      have hno : ∀ y, IsNum y → beats y ≠ U := fun y hy z => by
        have : y ∈ everyN.filter (fun z => beats z == U) := List.mem_filter.mpr ⟨every_num.mpr hy, by simpa using z⟩
        rw [e] at this; simp at this
      refine wp_ifF (S1 := S') (b := false) (vOr rfl rfl (p := false) (q := false) (vCmp (vBi1 (vF rfl) (bLenLM _ _)) vC ?_) fun _ => vCmp (vToldX (c := 0) (by decide) (vCallX (fCons rfl (vF rfl) fNil) (q49n (k := k + 5) (S := S') hno))) (vF rfl) (cNe (x := callD ([114, 101, 102, 117, 115, 101, 100], 0)) (b := true) (okCall _ 28) (okCall _ 28) (by rw [call_eqv]; simp))) rfl (hfin _)
      · rw [e]; exact gtI _ _ _
end
end TD
end
section
set_option Elab.async false
set_option linter.all false
set_option maxRecDepth 100000
set_option maxHeartbeats 0
set_option pp.deepTerms false
set_option pp.deepTerms.threshold 5
set_option hygiene false in
local macro_rules | `(tactic| walk_at "side") => `(tactic| first | assumption | omega | (simp only [List.length_map, List.length_range, List.length_append, List.length_take, List.length_drop, List.length_cons, List.length_nil, List.length_replicate, List.length_zipIdx, List.length_zip]; omega))
local macro_rules | `(tactic| walk_at "it") => `(tactic| with_reducible first | exact TD.itLot _ | exact TD.itCalls _ | exact TD.itNum _ | exact TD.itNames _ | exact TD.itRng0 _ | exact TD.itRngI _ | exact TD.itRngN _ _ | exact TD.itRng _ _ | exact TD.itEnum _ _ | exact TD.itZip _ _ _ _ | exact TD.itLst _ _ | exact TD.itTup _ _ | exact TD.itStr _)
local macro_rules | `(tactic| walk_at "op") => `(tactic| with_reducible first | exact TD.oAdd _ _ | exact TD.oSub _ _ | apply TD.oMod | apply TD.oDiv | apply TD.oMul | apply TD.oAddS | apply TD.oAddCalls1 | apply TD.oAddCalls | apply TD.oAddNum1 | apply TD.oAddT | apply TD.oAddL | apply TD.oMulC | apply TD.oMulS)
local macro_rules | `(tactic| walk_at "cm") => `(tactic| with_reducible first | exact TD.eqI _ _ _ | exact TD.neI _ _ _ | exact TD.ltI _ _ _ | exact TD.gtI _ _ _ | exact TD.leI _ _ _ | exact TD.geI _ _ _ | exact TD.eqS _ _ _ | exact TD.neS _ _ _ | exact TD.eqB _ _ _ | exact TD.neB _ _ _ | exact TD.cIsNon | exact TD.cIsntNon | exact TD.cIsB | exact TD.cIsntB | exact TD.cInCallsT _ _ | exact TD.cInNames _ _ | exact TD.cInStrL _ _ | exact TD.cInNumL _ _ | exact TD.cInNumT _ _ | exact TD.cInSign _ _ | exact TD.cNin (TD.cInCallsT _ _) | exact TD.cNin (TD.cInNames _ _) | exact TD.cNin (TD.cInStrL _ _) | exact TD.cNin (TD.cInNumL _ _) | exact TD.cNin (TD.cInNumT _ _) | exact TD.cEq (TD.pNum _) (TD.pNum _) (TD.numD_eqv _ _) | exact TD.cNe (TD.pNum _) (TD.pNum _) (TD.numD_eqv _ _) | exact TD.cEq (TD.pLot _) (TD.pLot _) (TD.lot_eqv _ _) | exact TD.cNe (TD.pLot _) (TD.pLot _) (TD.lot_eqv _ _) | exact TD.cEq (TD.pCalls _) (TD.pCalls _) (TD.calls_eqv _ _) | exact TD.cNe (TD.pCalls _) (TD.pCalls _) (TD.calls_eqv _ _))
local macro_rules | `(tactic| walk_at "bi") => `(tactic| with_reducible first | exact TD.bLenLot _ | exact TD.bLenCalls _ | exact TD.bLenNum _ | exact TD.bLenNames _ | exact TD.bLenLM _ _ | exact TD.bLenTM _ _ | exact TD.bLenL _ | exact TD.bLenT _ | apply TD.bLenS | exact TD.bTupNum _ _ | exact TD.bTupNames _ _ | exact TD.bTupLot _ _ _ | exact TD.bTupCalls _ _ _ | exact TD.bIntB _ | exact TD.bIntI _ | apply TD.bIntC | exact TD.bAbs _ | apply TD.bSortCalls | apply TD.bSortNum | apply TD.bSortNames | apply TD.bSortS | exact TD.bSumNum _ | exact TD.bSum _ _ | exact TD.bAll _ _ | exact TD.bAny _ _ | exact TD.bMaxA _ _ _ | exact TD.bMinA _ _ _ | exact TD.bMaxB _ _ _ | apply TD.bMinNear | apply TD.bMinF | apply TD.bMaxF | exact TD.bMax2N _ _ | exact TD.bMax2 _ _ | exact TD.bListT _ | exact TD.bListL _ | exact TD.bTupL _)
local macro_rules | `(tactic| walk_at "ix") => `(tactic| with_reducible first | exact TD.gBit _ | exact TD.gTup0 _ _ | exact TD.gTup1 _ _ _ | exact TD.gTup2 _ _ _ _ | exact TD.gLst0 _ _ | exact TD.gLst1 _ _ _ | exact TD.gLot0 (by assumption) | exact TD.gCalls0 (by assumption) | exact TD.gLot (by assumption) | exact TD.gCalls (by assumption) | exact TD.gNum (by assumption) | exact TD.gMapT (by assumption) | exact TD.gMapL (by assumption) | apply TD.gLst | apply TD.gTup | exact TD.gStr (by walk_at "side") (by assumption) | apply TD.gStrN | apply TD.gStrI | apply TD.gLotN | apply TD.gCallsN | apply TD.gNumN | exact TD.sCallsTo _ _ | exact TD.sCallsFrom _ _ | exact TD.sLotTo _ _ | exact TD.sLotFrom _ _ | exact TD.sTupTo _ _ | exact TD.sTupFrom _ _ | exact TD.sTupN _ _ _ | exact TD.sLstTo _ _ | exact TD.sLstFrom _ _ | exact TD.sLstN _ _ _ | apply TD.sStrFrom1 | apply TD.sStrN1 | exact TD.sCallsFrom1 _ _ | exact TD.sLotFrom1 _ _ | exact TD.sLstFrom1 _ _ | exact TD.sTupFrom1 _ _ | apply TD.sStrTo | apply TD.sStrFrom | apply TD.sStrN)
local macro_rules | `(tactic| walk_at "me") => `(tactic| with_reducible first | apply TD.mJoinC | apply TD.mJoin | apply TD.mIndex | exact TD.mCount _ _ | apply TD.mRstrip | apply TD.mSplit | exact TD.mEndsw _ _ | apply TD.mReplace)
local macro_rules | `(tactic| walk_at "e1") => `(tactic| first
  | with_reducible exact TD.vC
  | ((with_reducible apply TD.vF); rfl)
  | ((with_reducible apply TD.vO); rfl)
  | (with_reducible apply TD.vCall)
  | (with_reducible apply TD.vBin)
  | (with_reducible apply TD.vCmp)
  | (with_reducible apply TD.vAnd)
  | (with_reducible apply TD.vOr)
  | (with_reducible apply TD.vNot)
  | (with_reducible apply TD.vIdx)
  | (with_reducible apply TD.vBi1)
  | (with_reducible apply TD.vBi2)
  | (with_reducible apply TD.vComp)
  | (with_reducible apply TD.vCompF)
  | (with_reducible apply TD.vRng)
  | (with_reducible apply TD.vEnu)
  | (with_reducible apply TD.vZip)
  | (with_reducible apply TD.vTup)
  | (with_reducible apply TD.vLst)
  | (with_reducible apply TD.vMe1)
  | (with_reducible apply TD.vMe2)
  | (with_reducible apply TD.vSlTo)
  | (with_reducible apply TD.vSlFrom)
  | (with_reducible apply TD.vSl)
  | (with_reducible apply TD.vRev)
  | (with_reducible apply TD.vCmp2)
  | (with_reducible apply TD.vNeg)
  | (with_reducible apply TD.vIsa)
  | (with_reducible apply TD.vLcat)
  | (with_reducible apply TD.vLrep)
  | (with_reducible apply TD.fCons)
  | (with_reducible apply TD.vKeys)
  | (with_reducible apply TD.vSortK)
  | (with_reducible apply TD.vGet)
  | (with_reducible apply TD.vOmt)
  | (with_reducible apply TD.vSset)
  | (with_reducible apply TD.vLset)
  | with_reducible exact TD.vDic0
  | with_reducible exact TD.fNil
  | with_reducible exact TD.truB _ _
  | ((with_reducible show TD.isOwn _ _ = false); rfl)
  | ((with_reducible show TD.noPart _ = false); rfl)
  | ((with_reducible show TD.D.isObj _ = false); rfl)
  | ((with_reducible show TD.slot _ _ = _); rfl)
  | ((with_reducible show TD.Me.recv _ _ = true); rfl)
  | with_reducible exact TD.SetE.z
  | with_reducible apply TD.SetE.s
  | walk_at "op" | walk_at "cm" | walk_at "bi" | walk_at "ix" | walk_at "me" | walk_at "it"
  | ((with_reducible show ∀ _, TD.T.put _ _ _ = _); intro _; rfl)
  | ((with_reducible show ∀ _, TD.isOwn _ _ = _); intro _; rfl)
  | walk_at "call"
  | ((with_reducible show _ ≤ _); walk_at "side")
  | ((with_reducible show _ < _); walk_at "side")
  | ((with_reducible show TD.rangeOk _ _ = true); simp only [TD.rangeOk, Bool.and_eq_true, decide_eq_true_eq]; omega)
  | ((with_reducible show _[_]? = some _); first | rfl | assumption)
  | ((with_reducible show _ ≠ _); assumption)
  | ((with_reducible show TD.GoodLot _); assumption)
  | ((with_reducible show TD.CallsOf _ _); assumption)
  | ((with_reducible show _ ∧ _); walk_at "side")
  | ((with_reducible show ∀ _ ∈ List.range _, _); intro d hd; rw [List.mem_range] at hd)
  | ((with_reducible show ∀ _ ∈ _, _); intro _ _)
  | ((with_reducible show _ = true → _); intro _)
  | ((with_reducible show _ = false → _); intro _))
local macro_rules | `(tactic| walk_at "ev") => `(tactic| repeat' walk_at "e1")
local macro_rules | `(tactic| walk_at "st") => `(tactic| (first
  | (with_reducible apply TD.wp_set)
  | (with_reducible apply TD.wp_own)
  | (with_reducible apply TD.wp_par)
  | (with_reducible apply TD.wp_parO)
  | (with_reducible apply TD.wp_app)
  | (with_reducible apply TD.wp_ext)
  | (with_reducible apply TD.wp_putD)
  | (with_reducible apply TD.wp_exp)
  | (with_reducible apply TD.wp_frz)
  | (with_reducible apply TD.wp_ret)
  | (with_reducible apply TD.wp_tset)
  | (with_reducible apply TD.wp_tsetL)
  | (with_reducible apply TD.wp_ifF)
  | with_reducible refine TD.wp_end ?_ | with_reducible refine TD.wp_pass ?_) <;> walk_at "ev")
set_option hygiene false in
local macro_rules | `(tactic| walk_at "call") => `(tactic| ((with_reducible apply TD.callGuard); first | assumption | with_reducible apply TD.q0 | with_reducible apply TD.q1 | with_reducible apply TD.q2 | with_reducible apply TD.q3 | with_reducible exact TD.q6 _ _ | with_reducible apply TD.q14 | with_reducible apply TD.q16 | with_reducible exact TD.q17 _ | with_reducible apply TD.q5 | with_reducible apply TD.q15 | with_reducible apply TD.q19 | with_reducible apply TD.q20 | with_reducible apply TD.q22))
/-! law k02. -/
namespace TD
section
variable {k : Nat} {S : Sto}
theorem num_facts : ∀ x ∈ allN 3 12, beats x.reverse = (beats x).reverse ∧ ((beats x).length : Int) = 2 * x.sum - x.length + 3 * (x.length - 1) ∧ joinS [48, 48, 48] (x.map fun c => beats [c]) = beats x := by decide +kernel
theorem num_apart : ∀ x ∈ allN 3 12, ∀ y ∈ allN 3 12, beats y ≠ beats x ++ [48, 48] ++ beats x ∧ beats y ≠ beats x ++ [48, 48, 48, 48] ++ beats x := by decide +kernel
theorem q37 {x : List Int} (h : IsNum x) : cf (k + 2) 37 [numD x] S = .ok (.bl true) S := by
  refine cf_of (df := d37) rfl rfl rfl ?_
  unfold d37
  dsimp only [List.replicate, List.map, List.cons_append, List.nil_append]
  obtain ⟨h1, h2, h3⟩ := h
  refine wp_ifF (S1 := S) (b := false) (vOr rfl rfl (p := false) (q := false) (vNot (p := true) (vIsa (vF rfl) rfl) (truB _ _)) fun _ => vNot (p := true) (vCmp2 (q := true) (q2 := true) vC (vBi1 (vF rfl) (bLenNum _)) ?_ (fun _ => vC) fun _ => ?_) (truB _ _)) rfl ?_
  · rw [leI]; simp; omega
  · rw [leI]; simp; omega
  refine wp_ret (S1 := S) (x := .bl true) (vBi1 (vComp (enc := .int) (ls := x) (q := fun c => .bl (!decide (c < 1) && !decide (4 < c))) (vF rfl) (itNum _) (by omega) (fun _ => rfl) (fun _ => rfl) (fun d hd => vCall (fCons rfl (vF rfl) (fCons rfl vC (fCons rfl vC fNil))) (q28 d 1 4))) ?_) rfl rfl
  rw [bAll]
  have : (x.all fun c => !decide (c < 1) && !decide (4 < c)) = true := by
    rw [List.all_eq_true]
    intro c hc
    have := h3 c hc
    simp
    omega
  rw [this]
theorem bkNum (x : List Int) : D.back (numD x) S = .ok (numD x.reverse) S := by
  show R.ok (D.tup (x.map .int).reverse) S = _
  rw [← List.map_reverse]; rfl
theorem bkStr {T : Sx} (h : T.length ≤ 16000000) : D.back (.str T) S = .ok (.str T.reverse) S := by
  show M.bind (M.ask (fits T)) _ S = _
  rw [bindS, ask_of (fits_le h)]; rfl
theorem num_bad {x y : List Int} (hx : IsNum x) (hy : IsNum y) {B : Sx} (hB : B ∈ [[], [48], beats x ++ [48], [48] ++ beats x, beats x ++ [48, 48] ++ beats x, beats x ++ [48, 48, 48, 48] ++ beats x]) : beats y ≠ B := fun e => by
  have ty := beats_tap (good_num hy)
  have tx := beats_tap (good_num hx)
  have ap := num_apart x (num_in hx) y (num_in hy)
  simp only [List.mem_cons, List.not_mem_nil, or_false] at hB
  rcases hB with h | h | h | h | h | h
  · have := ty.2.1; rw [e, h] at this; simp at this
  · have := ty.2.1; rw [e, h] at this; simp at this
  · have := ty.2.2; rw [e, h] at this; simp at this
  · have := ty.2.1; rw [e, h] at this; simp at this
  · exact ap.1 (e.trans h)
  · exact ap.2 (e.trans h)
theorem told_num (T : Sx) : (∃ y, IsNum y ∧ beats y = T ∧ ∀ {fn : Fns} {ρ : Env} {e : E}, ev fn ρ e S = cf (k + 3) 49 [.str T] S → ev fn ρ (.told e) S = .ok (boxD ([116, 111, 108, 100], y)) S) ∨ ((∀ y, IsNum y → beats y ≠ T) ∧ ∀ {fn : Fns} {ρ : Env} {e : E}, ev fn ρ e S = cf (k + 3) 49 [.str T] S → ev fn ρ (.told e) S = .ok (callD ([114, 101, 102, 117, 115, 101, 100], 0)) S) := by
  by_cases h : ∃ y, IsNum y ∧ beats y = T
  · obtain ⟨y, h1, h2⟩ := h
    refine .inl ⟨y, h1, h2, fun {fn ρ e} he => vToldOk ?_⟩
    rw [he, ← h2]; exact q49 h1
  · have hn : ∀ y, IsNum y → beats y ≠ T := fun y hy z => h ⟨y, hy, z⟩
    refine .inr ⟨hn, fun {fn ρ e} he => vToldX (c := 0) (by decide) ?_⟩
    rw [he]; exact q49n hn
theorem q51 (ns : List Int) : cf (k + 9) 51 [.lst (ns.map .int)] S = .ok (.bl true) S := by
  refine cf_of (df := d51) rfl rfl rfl ?_
  unfold d51
  dsimp only [List.replicate, List.map, List.cons_append, List.nil_append]
  have hx : IsNum (number (mixed ns 0) 3) := number_isnum _ _ (mixed_nonneg ns 0) (by decide) (by decide)
  have hy : IsNum (number (mixed ns 1) 3) := number_isnum _ _ (mixed_nonneg ns 1) (by decide) (by decide)
  have c7 : (fnK (k + 8)).call 7 [.int (mixed ns 0), .int 3] S = .ok (numD (number (mixed ns 0) 3)) S := q7 (k := k + 6) _ _ (by decide) (by decide) (mixed_nonneg ns 0)
  have c71 : (fnK (k + 8)).call 7 [.int (mixed ns 1), .int 3] S = .ok (numD (number (mixed ns 1) 3)) S := q7 (k := k + 6) _ _ (by decide) (by decide) (mixed_nonneg ns 1)
  generalize number (mixed ns 0) 3 = x at hx c7
  generalize number (mixed ns 1) 3 = y at hy c71
  have hs := hx.small
  have hg := good_num hx
  have hb := beats_len hs
  have c50 : (fnK (k + 8)).call 5 [.lst (ns.map .int), .int 0] S = .ok (.int (mixed ns 0)) S := q5 (k := k + 6) ns 0 (by decide)
  have c51 : (fnK (k + 8)).call 5 [.lst (ns.map .int), .int 1] S = .ok (.int (mixed ns 1)) S := q5 (k := k + 6) ns 1 (by decide)
  have c0 : (fnK (k + 8)).call 0 [numD x] S = .ok (.str (beats x)) S := q0 x hs
  have c0y : (fnK (k + 8)).call 0 [numD y] S = .ok (.str (beats y)) S := q0 y hy.small
  have hsr : Small x.reverse := ⟨by rw [List.length_reverse]; exact hs.1, fun c hc => hs.2 c (List.mem_reverse.mp hc)⟩
  have c0r : (fnK (k + 8)).call 0 [numD x.reverse] S = .ok (.str (beats x.reverse)) S := q0 _ hsr
  have c19 : (fnK (k + 8)).call 19 [numD x] S = .ok (.int x.sum) S := q19 x
  have c20 : (fnK (k + 8)).call 20 [numD x] S = .ok (.int (beats x).length) S := q20 (k := k + 6) x hs
  have c49 : (fnK (k + 8)).call 49 [.str (beats x)] S = .ok (numD x) S := q49 (k := k + 5) hx
  have hcnt := beats_count fun c hc => (hs.2 c hc).1
  obtain ⟨f1, f2, f3⟩ := num_facts x (num_in hx)
  have hsum := (mem_allN.mp (num_in hx)).2.2.2
  have hx3 := hx.2.1
  have hx1 := hx.1
  have hxb : beats y = beats x ↔ y = x := ⟨fun e => beats_uniq hy hx e, fun e => by rw [e]⟩
  have hsig := (beats_tap hg).1
  have hbad := fun (B : Sx) hB (z : List Int) (hz : IsNum z) => num_bad hx hz (B := B) hB
  walk_at "st"
  walk_at "st"
  walk_at "st"
  -- text
  refine wp_ifF (S1 := S) (b := false) (vOr rfl rfl (p := false) (q := false) (vCmp (vF rfl) (vMe1 (x := .str [48, 48, 48]) vC rfl (vComp (enc := .int) (ls := x) (q := fun c => .str (beats [c])) (vF rfl) (itNum _) (by omega) (fun _ => rfl) (fun _ => rfl) (fun d hd => vCall (fCons rfl (vTup (fCons rfl (vF rfl) fNil)) fNil) (q0 [d] ⟨by simp, fun c hc => by rw [List.mem_singleton.mp hc]; exact hs.2 d hd⟩))) (mJoin [48, 48, 48] x (fun c => beats [c]) ?_)) ?_)
    fun _ => vCmp (vCall (fCons rfl (vRev (vF rfl) (bkNum x)) fNil) c0r) (vRev (vF rfl) (bkStr (by omega))) ?_) rfl ?_
  · have := sum_le (fun c => (beats [c]).length) 20300 x fun c hc => beats_len ⟨by simp, fun d hd => by rw [List.mem_singleton.mp hd]; exact hs.2 c hc⟩
    have h2 : x.length * 20300 ≤ 3 * 20300 := Nat.mul_le_mul_right _ hx3
    simp only [List.length_cons, List.length_nil]
    omega
  · rw [f3, neS]; simp
  · rw [f1, neS]; simp
  refine wp_ifF (S1 := S) (b := false) (vOr rfl rfl (p := false) (q := false) (vCmp (vCall (fCons rfl (vF rfl) fNil) c19) (vBi1 (vF rfl) (bSumNum _)) ?_) fun _ => vOr rfl rfl (p := false) (q := false) (vCmp (vMe1 (vF rfl) rfl vC (mCount _ _)) (vBi1 (vF rfl) (bSumNum _)) ?_) fun _ => vCmp (vCall (fCons rfl (vF rfl) fNil) c20) (vBi1 (vF rfl) (bLenS (by omega))) ?_) rfl ?_
  · rw [neI]; simp
  · rw [neI, hcnt]; simp
  · rw [neI]; simp
  refine wp_ifF (S1 := S) (b := false) (vCmp (vCall (fCons rfl (vF rfl) fNil) c20) (vBin (vBin (vBin vC (vBi1 (vF rfl) (bSumNum _)) (oMul _ _ ?_)) (vBi1 (vF rfl) (bLenNum _)) (oSub _ _)) (vBin vC (vBin (vBi1 (vF rfl) (bLenNum _)) vC (oSub _ _)) (oMul _ _ ?_)) (oAdd _ _)) ?_) rfl ?_
  · rfl
  · rfl
  · rw [neI, f2]; simp
  refine wp_ifF (S1 := S) (b := false) (vOr rfl rfl (p := false) (q := false) (vCmp (vCall (fCons rfl (vF rfl) fNil) c49) (vF rfl) (cNe (b := true) (pNum _) (pNum _) (num_self x))) fun _ => vCmp (vCmp (vCall (fCons rfl (vF rfl) fNil) c0y) (vF rfl) (eqS _ _ _)) (vCmp (vF rfl) (vF rfl) (cEq (pNum _) (pNum _) (numD_eqv _ _))) ?_) rfl ?_
  · rw [neB]
    congr 1
    by_cases e : y = x
    · simp [e]
    · have : beats y ≠ beats x := fun z => e (hxb.mp z)
      simp [e, this]
  generalize hT : beats x = T at *
  -- a beat changed
  apply wp_for (ls := List.range T.length) (enc := fun (j : Nat) => .int (j : Int)) (fun i ρ S' => S' = S ∧ ∃ (s4 s5 s6 s7 s8 : Sl), ρ = [.fz (.lst (ns.map .int)), .fz (numD x), .fz (numD y), .fz (.str T), s4, s5, s6, s7, s8]) <;> walk_at "ev"
  · exact ⟨rfl, _, _, _, _, _, rfl⟩
  · rintro i a ρ1 S1 ha ⟨rfl, s4, s5, s6, s7, s8, rfl⟩
    refine ⟨_, rfl, ?_⟩
    dsimp only [List.set_cons_zero, List.set_cons_succ]
    have ha : a < T.length := by
      have := List.mem_of_getElem? ha
      rwa [List.mem_range] at this
    have hc : T.getD a 0 = 48 ∨ T.getD a 0 = 49 := by
      have e : T.getD a 0 = T[a] := by rw [List.getD_eq_getElem?_getD, List.getElem?_eq_getElem ha]; rfl
      rw [e]; exact hsig _ (List.getElem_mem ha)
    obtain ⟨u, hu⟩ : ∃ u : Nat, D.item (.str [49, 48]) (.int ((T.getD a 0 - 48 : Nat) : Int)) S1 = .ok (.str [u]) S1 := by
      rcases hc with h | h <;> rw [h]
      · exact ⟨49, rfl⟩
      · exact ⟨48, rfl⟩
    refine wp_set (S1 := S1) (x := .str (T.take a ++ [u] ++ T.drop (a + 1))) (vBin (vBin (vSlTo rfl (vF rfl) (vF rfl) (sStrTo a (by omega))) (vIdx vC (vBi1 (vIdx (vF rfl) (vF rfl) (gStrN a (by omega) ha)) (bIntC _ (by omega))) hu) (oAddS _ _ ?_)) (vSlFrom rfl (vF rfl) (vBin (vF rfl) vC (oAdd _ _)) (sStrFrom1 a (by omega))) (oAddS _ _ ?_)) rfl (.s (.s (.s (.s (.s (.s .z)))))) ?_
    · simp; omega
    · simp; omega
    generalize T.take a ++ [u] ++ T.drop (a + 1) = B
    rcases told_num (k := k + 5) (S := S1) B with ⟨z, h1, h2, h3⟩ | ⟨h1, h3⟩
    · refine wp_set (S1 := S1) (x := boxD ([116, 111, 108, 100], z)) (h3 (by rw [xCall, bindS, fCons rfl (vF rfl) fNil])) rfl (.s (.s (.s (.s (.s (.s (.s .z))))))) ?_
      refine wp_ifF (S1 := S1) (b := false) (vAnd rfl rfl (p := true) (q := false) (vCmp (vIdx (vF rfl) vC (gTup0 _ _)) vC (eqS _ _ _)) fun _ => vOr rfl rfl (p := false) (q := false) (vCmp (vCall (fCons rfl (vIdx (vF rfl) vC (gTup1 _ _ _)) fNil) (q37 (k := k + 6) h1)) vC cIsntB) fun _ => vCmp (vCall (fCons rfl (vIdx (vF rfl) vC (gTup1 _ _ _)) fNil) (q0 z h1.small)) (vF rfl) ?_) rfl ?_
      · rw [h2, neS]; simp
      refine wp_ifF (S1 := S1) (b := false) (vAnd rfl rfl (p := false) (q := false) (vCmp (vIdx (vF rfl) vC (gTup0 _ _)) vC (eqS _ _ _)) fun z => by cases z) rfl ?_
      exact wp_nil (TurnQ.nx ⟨rfl, _, _, _, _, _, rfl⟩)
    · refine wp_set (S1 := S1) (x := callD ([114, 101, 102, 117, 115, 101, 100], 0)) (h3 (by rw [xCall, bindS, fCons rfl (vF rfl) fNil])) rfl (.s (.s (.s (.s (.s (.s (.s .z))))))) ?_
      refine wp_ifF (S1 := S1) (b := false) (vAnd rfl rfl (p := false) (q := false) (vCmp (vIdx (vF rfl) vC (gTup0 _ _)) vC (eqS _ _ _)) fun z => by cases z) rfl ?_
      refine wp_ifF (S1 := S1) (b := false) (vAnd rfl rfl (p := true) (q := false) (vCmp (vIdx (vF rfl) vC (gTup0 _ _)) vC (eqS _ _ _)) fun _ => vCmp (vF rfl) (vTup (fCons rfl vC (fCons rfl vC fNil))) (cNe (x := callD ([114, 101, 102, 117, 115, 101, 100], 0)) (y := callD ([114, 101, 102, 117, 115, 101, 100], 0)) (b := true) (okCall _ 28) (okCall _ 28) (by rw [call_eqv]; simp))) rfl ?_
      exact wp_nil (TurnQ.nx ⟨rfl, _, _, _, _, _, rfl⟩)
  · rintro ρ' S' ⟨rfl, s4, s5, s6, s7, s8, rfl⟩
    -- no numbers
    refine wp_for (ls := ([[], [48], T ++ [48], [48] ++ T, T ++ [48, 48] ++ T, T ++ [48, 48, 48, 48] ++ T] : List Sx)) (enc := .str) (fun i ρ S'' => S'' = S' ∧ ∃ (s4 s5 s6 s7 s8 : Sl), ρ = [.fz (.lst (ns.map .int)), .fz (numD x), .fz (numD y), .fz (.str T), s4, s5, s6, s7, s8])
      (vTup (fCons rfl vC (fCons rfl vC (fCons rfl (vBin (vF rfl) vC (oAddS _ _ ?_)) (fCons rfl (vBin vC (vF rfl) (oAddS _ _ ?_)) (fCons rfl (vBin (vBin (vF rfl) vC (oAddS _ _ ?_)) (vF rfl) (oAddS _ _ ?_)) (fCons rfl (vBin (vBin (vF rfl) vC (oAddS _ _ ?_)) (vF rfl) (oAddS _ _ ?_)) fNil))))))) rfl rfl ?_ ?_ ?_
    · simp; omega
    · simp; omega
    · simp; omega
    · simp; omega
    · simp; omega
    · simp; omega
    · exact ⟨rfl, _, _, _, _, _, rfl⟩
    · rintro i B ρ1 S1 hB ⟨rfl, s4, s5, s6, s7, s8, rfl⟩
      refine ⟨_, rfl, ?_⟩
      dsimp only [List.set_cons_zero, List.set_cons_succ]
      have hB := hbad B (List.mem_of_getElem? hB)
      rcases told_num (k := k + 5) (S := S1) B with ⟨z, h1, h2, h3⟩ | ⟨h1, h3⟩
      · exact absurd h2 (hB z h1)
      refine wp_set (S1 := S1) (x := callD ([114, 101, 102, 117, 115, 101, 100], 0)) (h3 (by rw [xCall, bindS, fCons rfl (vF rfl) fNil])) rfl (.s (.s (.s (.s (.s (.s (.s .z))))))) ?_
      refine wp_ifF (S1 := S1) (b := false) (vCmp (vF rfl) (vTup (fCons rfl vC (fCons rfl vC fNil))) (cNe (x := callD ([114, 101, 102, 117, 115, 101, 100], 0)) (y := callD ([114, 101, 102, 117, 115, 101, 100], 0)) (b := true) (okCall _ 28) (okCall _ 28) (by rw [call_eqv]; simp))) rfl ?_
      exact wp_nil (TurnQ.nx ⟨rfl, _, _, _, _, _, rfl⟩)
    · rintro ρ' S'' ⟨rfl, s4, s5, s6, s7, s8, rfl⟩
      refine wp_ret (S1 := S'') (x := .bl true) (vAnd (p := true) (q := true) rfl rfl (vCmp (vCall (fCons rfl (vTup (fCons rfl vC fNil)) fNil) (q0 [1] ⟨by decide, by decide⟩)) vC ?_) fun _ => vCmp (vCall (fCons rfl (vTup (fCons rfl vC (fCons rfl vC fNil))) fNil) (q0 [2, 1] ⟨by decide, by decide⟩)) vC ?_) rfl rfl
      · rw [eqS]; rfl
      · rw [eqS]; rfl
end
end TD
end
section
set_option Elab.async false
set_option linter.all false
namespace K02
open TD
theorem law_true (ns : List Int) (h : ns.length ≤ 63) : ∃ S, run PP 7 10 51 [.lst (ns.map .int)] [] = .ok (.bl true) S :=
  ⟨[], by rw [← cf_eq]; exact q51 (k := 1) ns⟩
end K02
end
set_option Elab.async false
set_option linter.all false
set_option maxRecDepth 1000000
set_option maxHeartbeats 4000000
namespace K02
open PySem L2 PySem.Spec TD
open PyProof.Rows hiding St
theorem all_mk {l : PySem.W.OpenLaw} {w : World} {K : PySem.W.Frag} {h : Heap} {mg : Str → Option Value} {fa : Addr} (X : K.In h) (G : h.Ns mainGlobals mg) (hfa : mg "law" = some (.ref fa))
    {q28 : Addr} {od28 an28 : Option Addr} {sl28 : Array (Option Value)} {oc28 kV28 dc28 pm28 ct28 : Value} {cd28 : Value}
    {q37 : Addr} {od37 an37 : Option Addr} {sl37 : Array (Option Value)} {oc37 kV37 dc37 pm37 ct37 : Value} {cd37 : Value}
    {q0 : Addr} {od0 an0 : Option Addr} {sl0 : Array (Option Value)} {oc0 kV0 dc0 pm0 ct0 : Value} {cd0 : Value}
    {q19 : Addr} {od19 an19 : Option Addr} {sl19 : Array (Option Value)} {oc19 kV19 dc19 pm19 ct19 : Value} {cd19 : Value}
    {q20 : Addr} {od20 an20 : Option Addr} {sl20 : Array (Option Value)} {oc20 kV20 dc20 pm20 ct20 : Value} {cd20 : Value}
    {q38 : Addr} {od38 an38 : Option Addr} {sl38 : Array (Option Value)} {oc38 kV38 dc38 pm38 ct38 : Value} {cd38 : Value}
    {q39 : Addr} {od39 an39 : Option Addr} {sl39 : Array (Option Value)} {oc39 kV39 dc39 pm39 ct39 : Value} {cd39 : Value}
    {q49 : Addr} {od49 an49 : Option Addr} {sl49 : Array (Option Value)} {oc49 kV49 dc49 pm49 ct49 : Value} {cd49 : Value}
    {q4 : Addr} {od4 an4 : Option Addr} {sl4 : Array (Option Value)} {oc4 kV4 dc4 pm4 ct4 : Value} {cd4 : Value}
    {q5 : Addr} {od5 an5 : Option Addr} {sl5 : Array (Option Value)} {oc5 kV5 dc5 pm5 ct5 : Value} {cd5 : Value}
    {q6 : Addr} {od6 an6 : Option Addr} {sl6 : Array (Option Value)} {oc6 kV6 dc6 pm6 ct6 : Value} {cd6 : Value}
    {q7 : Addr} {od7 an7 : Option Addr} {sl7 : Array (Option Value)} {oc7 kV7 dc7 pm7 ct7 : Value} {cd7 : Value}
    {q51 : Addr} {od51 an51 : Option Addr} {sl51 : Array (Option Value)} {oc51 kV51 dc51 pm51 ct51 : Value} {cc51 P51 : Addr} {vs51 : Array Value} {oo51 : Value} {oe51 : Option Addr} {os51 : Array (Option Value)}
    {uMOST_COUNT : Value}
    {uMOST_COUNTS : Value}
    {uPAUSE : Value}
    {uQUIET : Value}
    {uTAP : Value}
    {e1 : Addr}
    {e0 : Addr}
    {e2 : Addr}
    {e3 : Addr}
    {e4 : Addr}
    {e5 : Addr}
    {qT : Addr} {odT anT : Option Addr} {slT : Array (Option Value)} {ocT kVT dcT pmT ctT cdT : Value}
    (a28 : PySem.W.nsIn K mainGlobals "is_whole" = some (some (.ref q28))) (l28 : K.lookup q28 = some ⟨oc28, od28, .func (PySem.W.fnOf "is_whole" "is_whole" (defArgs (tp 13)) (defBody (tp 13)) (defScope (tp 13)) .none kV28 dc28 pm28 an28 cd28 ct28), sl28⟩) (c28 : PySem.W.codeIn K cd28 "is_whole" = true) (k28 : PySem.W.keepIn K (.ref q28) = true)
    (a37 : PySem.W.nsIn K mainGlobals "is_number" = some (some (.ref q37))) (l37 : K.lookup q37 = some ⟨oc37, od37, .func (PySem.W.fnOf "is_number" "is_number" (defArgs (tp 14)) (defBody (tp 14)) (defScope (tp 14)) .none kV37 dc37 pm37 an37 cd37 ct37), sl37⟩) (c37 : PySem.W.codeIn K cd37 "is_number" = true) (k37 : PySem.W.keepIn K (.ref q37) = true)
    (a0 : PySem.W.nsIn K mainGlobals "beats" = some (some (.ref q0))) (l0 : K.lookup q0 = some ⟨oc0, od0, .func (PySem.W.fnOf "beats" "beats" (defArgs (tp 15)) (defBody (tp 15)) (defScope (tp 15)) .none kV0 dc0 pm0 an0 cd0 ct0), sl0⟩) (c0 : PySem.W.codeIn K cd0 "beats" = true) (k0 : PySem.W.keepIn K (.ref q0) = true)
    (a19 : PySem.W.nsIn K mainGlobals "taps" = some (some (.ref q19))) (l19 : K.lookup q19 = some ⟨oc19, od19, .func (PySem.W.fnOf "taps" "taps" (defArgs (tp 16)) (defBody (tp 16)) (defScope (tp 16)) .none kV19 dc19 pm19 an19 cd19 ct19), sl19⟩) (c19 : PySem.W.codeIn K cd19 "taps" = true) (k19 : PySem.W.keepIn K (.ref q19) = true)
    (a20 : PySem.W.nsIn K mainGlobals "long" = some (some (.ref q20))) (l20 : K.lookup q20 = some ⟨oc20, od20, .func (PySem.W.fnOf "long" "long" (defArgs (tp 17)) (defBody (tp 17)) (defScope (tp 17)) .none kV20 dc20 pm20 an20 cd20 ct20), sl20⟩) (c20 : PySem.W.codeIn K cd20 "long" = true) (k20 : PySem.W.keepIn K (.ref q20) = true)
    (a38 : PySem.W.nsIn K mainGlobals "all_of" = some (some (.ref q38))) (l38 : K.lookup q38 = some ⟨oc38, od38, .func (PySem.W.fnOf "all_of" "all_of" (defArgs (tp 18)) (defBody (tp 18)) (defScope (tp 18)) .none kV38 dc38 pm38 an38 cd38 ct38), sl38⟩) (c38 : PySem.W.codeIn K cd38 "all_of" = true) (k38 : PySem.W.keepIn K (.ref q38) = true)
    (a39 : PySem.W.nsIn K mainGlobals "all_numbers" = some (some (.ref q39))) (l39 : K.lookup q39 = some ⟨oc39, od39, .func (PySem.W.fnOf "all_numbers" "all_numbers" (defArgs (tp 19)) (defBody (tp 19)) (defScope (tp 19)) .none kV39 dc39 pm39 an39 cd39 ct39), sl39⟩) (c39 : PySem.W.codeIn K cd39 "all_numbers" = true) (k39 : PySem.W.keepIn K (.ref q39) = true)
    (a49 : PySem.W.nsIn K mainGlobals "number_of" = some (some (.ref q49))) (l49 : K.lookup q49 = some ⟨oc49, od49, .func (PySem.W.fnOf "number_of" "number_of" (defArgs (tp 20)) (defBody (tp 20)) (defScope (tp 20)) .none kV49 dc49 pm49 an49 cd49 ct49), sl49⟩) (c49 : PySem.W.codeIn K cd49 "number_of" = true) (k49 : PySem.W.keepIn K (.ref q49) = true)
    (a4 : PySem.W.nsIn K mainGlobals "_law_cell_at" = some (some (.ref q4))) (l4 : K.lookup q4 = some ⟨oc4, od4, .func (PySem.W.fnOf "_law_cell_at" "_law_cell_at" (defArgs (tp 22)) (defBody (tp 22)) (defScope (tp 22)) .none kV4 dc4 pm4 an4 cd4 ct4), sl4⟩) (c4 : PySem.W.codeIn K cd4 "_law_cell_at" = true) (k4 : PySem.W.keepIn K (.ref q4) = true)
    (a5 : PySem.W.nsIn K mainGlobals "_law_mixed" = some (some (.ref q5))) (l5 : K.lookup q5 = some ⟨oc5, od5, .func (PySem.W.fnOf "_law_mixed" "_law_mixed" (defArgs (tp 23)) (defBody (tp 23)) (defScope (tp 23)) .none kV5 dc5 pm5 an5 cd5 ct5), sl5⟩) (c5 : PySem.W.codeIn K cd5 "_law_mixed" = true) (k5 : PySem.W.keepIn K (.ref q5) = true)
    (a6 : PySem.W.nsIn K mainGlobals "_law_drawn" = some (some (.ref q6))) (l6 : K.lookup q6 = some ⟨oc6, od6, .func (PySem.W.fnOf "_law_drawn" "_law_drawn" (defArgs (tp 24)) (defBody (tp 24)) (defScope (tp 24)) .none kV6 dc6 pm6 an6 cd6 ct6), sl6⟩) (c6 : PySem.W.codeIn K cd6 "_law_drawn" = true) (k6 : PySem.W.keepIn K (.ref q6) = true)
    (a7 : PySem.W.nsIn K mainGlobals "_law_number" = some (some (.ref q7))) (l7 : K.lookup q7 = some ⟨oc7, od7, .func (PySem.W.fnOf "_law_number" "_law_number" (defArgs (tp 25)) (defBody (tp 25)) (defScope (tp 25)) .none kV7 dc7 pm7 an7 cd7 ct7), sl7⟩) (c7 : PySem.W.codeIn K cd7 "_law_number" = true) (k7 : PySem.W.keepIn K (.ref q7) = true)
    (a51 : PySem.W.nsIn K mainGlobals "law" = some (some (.ref q51))) (l51 : K.lookup q51 = some ⟨oc51, od51, .func (PySem.W.fnOf "law" "law" (defArgs (tp 27)) (defBody (tp 27)) (defScope (tp 27)) .none kV51 dc51 pm51 an51 (.ref cc51) ct51), sl51⟩) (c51 : PySem.W.codeIn K (.ref cc51) "law" = true) (k51 : PySem.W.keepIn K (.ref q51) = true)
    (lc51 : K.lookup cc51 = some ⟨oo51, oe51, .fields vs51, os51⟩) (pv51 : vs51[11]? = some (.ref P51)) (hd51 : PySem.W.codeHdIn K cc51 P51 = true) (np51 : K.lookup P51 = none) (tt51 : h.get? P51 = some (PySem.W.tabObj #[]))
    (vMOST_COUNT : PySem.W.nsIn K mainGlobals "MOST_COUNT" = some (some uMOST_COUNT)) (rMOST_COUNT : L2.RelV (.int 4) uMOST_COUNT)
    (vMOST_COUNTS : PySem.W.nsIn K mainGlobals "MOST_COUNTS" = some (some uMOST_COUNTS)) (rMOST_COUNTS : L2.RelV (.int 3) uMOST_COUNTS)
    (vPAUSE : PySem.W.nsIn K mainGlobals "PAUSE" = some (some uPAUSE)) (rPAUSE : L2.RelV (.str (toS [48, 48, 48])) uPAUSE)
    (vQUIET : PySem.W.nsIn K mainGlobals "QUIET" = some (some uQUIET)) (rQUIET : L2.RelV (.str (toS [48])) uQUIET)
    (vTAP : PySem.W.nsIn K mainGlobals "TAP" = some (some uTAP)) (rTAP : L2.RelV (.str (toS [49])) uTAP)
    (zValueError : PySem.W.nsIn K mainGlobals "ValueError" = some none)
    (zall : PySem.W.nsIn K mainGlobals "all" = some none)
    (zbool : PySem.W.nsIn K mainGlobals "bool" = some none)
    (zint : PySem.W.nsIn K mainGlobals "int" = some none)
    (zisinstance : PySem.W.nsIn K mainGlobals "isinstance" = some none)
    (zlen : PySem.W.nsIn K mainGlobals "len" = some none)
    (zrange : PySem.W.nsIn K mainGlobals "range" = some none)
    (zsorted : PySem.W.nsIn K mainGlobals "sorted" = some none)
    (zsum : PySem.W.nsIn K mainGlobals "sum" = some none)
    (ztuple : PySem.W.nsIn K mainGlobals "tuple" = some none)
    (g1 : PySem.W.nsIn K mainGlobals "NoNumber" = some (some (.ref e1))) (xE1 : PySem.W.excIn K e1 [.type "ValueError", .type "Exception", .type "BaseException", .type "object"] "ValueError.__new__" = true) (kE1 : PySem.W.keepIn K (.ref e1) = true) (bE1 : PySem.W.subIn K (.ref e1) (.type "BaseException") = some true) (yE1 : PySem.W.typeIn K (.ref e1) = some (.type "type"))
    (g0 : PySem.W.nsIn K mainGlobals "TapError" = some (some (.ref e0)))
    (g2 : PySem.W.nsIn K mainGlobals "NoName" = some (some (.ref e2)))
    (g3 : PySem.W.nsIn K mainGlobals "NoCalls" = some (some (.ref e3)))
    (g4 : PySem.W.nsIn K mainGlobals "NoDeal" = some (some (.ref e4)))
    (g5 : PySem.W.nsIn K mainGlobals "NoText" = some (some (.ref e5)))
    (nd : [e1, e2, e3, e4, e5].Nodup) (xT : xtB K e0 e1 e2 e3 e4 e5 = true)
    (aT : PySem.W.nsIn K mainGlobals "_law_told" = some (some (.ref qT))) (lT : K.lookup qT = some ⟨ocT, odT, .func (PySem.W.fnOf "_law_told" "_law_told" (defArgs (tp 26)) (defBody (tp 26)) (defScope (tp 26)) .none kVT dcT pmT anT cdT ctT), slT⟩) (cT : PySem.W.codeIn K cdT "_law_told" = true) (kT : PySem.W.keepIn K (.ref qT) = true)
    : LamX.LawAtS l w K (L2.CX l.prog w) 30 63 "_law_script" mg fa h := by
  have e := hfa.symm.trans (PySem.W.mg_of X G a51)
  cases e
  refine ⟨(PySem.W.fnOf "law" "law" (defArgs (tp 27)) (defBody (tp 27)) (defScope (tp 27)) .none kV51 dc51 pm51 an51 (.ref cc51) ct51), [(cc51, P51)], spLawT [(cc51, P51)] K, List.forall_mem_cons.mpr ⟨tt51, fun _ h => nomatch h⟩, List.forall_mem_cons.mpr ⟨np51, fun _ h => nomatch h⟩, List.forall_mem_cons.mpr ⟨PySem.W.codeHd_of_K X hd51, fun _ h => nomatch h⟩, fun s v => .of_eq rfl, fun H a ns hl _ hT hS => ⟨a, ns, rfl, hT, hS, hl, fun _ => rfl⟩, fun base _ _ TB => ?_⟩
  have xt : XTab ⟨l.prog, w, K, mg, base, fun n => [e0, e1, e2, e3, e4, e5].getD n 0, 0, [], [(P51, (("law" : Str) ++ ".<locals>.") ++ "<lambda>")]⟩ := xtab_of rfl nd xT (PySem.W.mg_of X G g0) (PySem.W.mg_of X G g1) (PySem.W.mg_of X G g2) (PySem.W.mg_of X G g3) (PySem.W.mg_of X G g4) (PySem.W.mg_of X G g5) (PySem.W.mg_none_of X G zisinstance) (PySem.W.mg_none_of X G zValueError)
  have tk : ToldOk ⟨l.prog, w, K, mg, base, fun n => [e0, e1, e2, e3, e4, e5].getD n 0, 0, [], [(P51, (("law" : Str) ++ ".<locals>.") ++ "<lambda>")]⟩ := ⟨qT, _, _, _, _, _, _, _, _, _, _, _, _, PySem.W.mg_of X G aT, kT, lT, cT, (fun_mk (st := tp 26) lT cT kT).binds (ps := ["_law_deed"]) fun _ _ _ _ _ _ us hl => match us, hl with | [_], _ => rfl, fun X q hK hmg => told_givesD xt hK hmg rfl rfl rfl⟩
  have g : Gl ⟨l.prog, w, K, mg, base, fun n => [e0, e1, e2, e3, e4, e5].getD n 0, 0, [], [(P51, (("law" : Str) ++ ".<locals>.") ++ "<lambda>")]⟩ (fun i => match i with | 28 => q28 | 37 => q37 | 0 => q0 | 19 => q19 | 20 => q20 | 38 => q38 | 39 => q39 | 49 => q49 | 4 => q4 | 5 => q5 | 6 => q6 | 7 => q7 | 51 => fa | _ => 0) (fun i => match i with | 28 => (PySem.W.fnOf "is_whole" "is_whole" (defArgs (tp 13)) (defBody (tp 13)) (defScope (tp 13)) .none kV28 dc28 pm28 an28 cd28 ct28) | 37 => (PySem.W.fnOf "is_number" "is_number" (defArgs (tp 14)) (defBody (tp 14)) (defScope (tp 14)) .none kV37 dc37 pm37 an37 cd37 ct37) | 0 => (PySem.W.fnOf "beats" "beats" (defArgs (tp 15)) (defBody (tp 15)) (defScope (tp 15)) .none kV0 dc0 pm0 an0 cd0 ct0) | 19 => (PySem.W.fnOf "taps" "taps" (defArgs (tp 16)) (defBody (tp 16)) (defScope (tp 16)) .none kV19 dc19 pm19 an19 cd19 ct19) | 20 => (PySem.W.fnOf "long" "long" (defArgs (tp 17)) (defBody (tp 17)) (defScope (tp 17)) .none kV20 dc20 pm20 an20 cd20 ct20) | 38 => (PySem.W.fnOf "all_of" "all_of" (defArgs (tp 18)) (defBody (tp 18)) (defScope (tp 18)) .none kV38 dc38 pm38 an38 cd38 ct38) | 39 => (PySem.W.fnOf "all_numbers" "all_numbers" (defArgs (tp 19)) (defBody (tp 19)) (defScope (tp 19)) .none kV39 dc39 pm39 an39 cd39 ct39) | 49 => (PySem.W.fnOf "number_of" "number_of" (defArgs (tp 20)) (defBody (tp 20)) (defScope (tp 20)) .none kV49 dc49 pm49 an49 cd49 ct49) | 4 => (PySem.W.fnOf "_law_cell_at" "_law_cell_at" (defArgs (tp 22)) (defBody (tp 22)) (defScope (tp 22)) .none kV4 dc4 pm4 an4 cd4 ct4) | 5 => (PySem.W.fnOf "_law_mixed" "_law_mixed" (defArgs (tp 23)) (defBody (tp 23)) (defScope (tp 23)) .none kV5 dc5 pm5 an5 cd5 ct5) | 6 => (PySem.W.fnOf "_law_drawn" "_law_drawn" (defArgs (tp 24)) (defBody (tp 24)) (defScope (tp 24)) .none kV6 dc6 pm6 an6 cd6 ct6) | 7 => (PySem.W.fnOf "_law_number" "_law_number" (defArgs (tp 25)) (defBody (tp 25)) (defScope (tp 25)) .none kV7 dc7 pm7 an7 cd7 ct7) | 51 => (PySem.W.fnOf "law" "law" (defArgs (tp 27)) (defBody (tp 27)) (defScope (tp 27)) .none kV51 dc51 pm51 an51 (.ref cc51) ct51) | _ => (PySem.W.fnOf "law" "law" (defArgs (tp 27)) (defBody (tp 27)) (defScope (tp 27)) .none kV51 dc51 pm51 an51 (.ref cc51) ct51)) :=
    ⟨fun_mk l28 c28 k28, PySem.W.mg_of X G a28, (fun_mk (st := tp 13) l28 c28 k28).binds (ps := ["thing", "low", "high"]) fun _ _ _ _ _ _ us hl => match us, hl with | [_, _, _], _ => rfl,
     fun_mk l37 c37 k37, PySem.W.mg_of X G a37, (fun_mk (st := tp 14) l37 c37 k37).binds (ps := ["thing"]) fun _ _ _ _ _ _ us hl => match us, hl with | [_], _ => rfl,
     fun_mk l0 c0 k0, PySem.W.mg_of X G a0, (fun_mk (st := tp 15) l0 c0 k0).binds (ps := ["number"]) fun _ _ _ _ _ _ us hl => match us, hl with | [_], _ => rfl,
     fun_mk l19 c19 k19, PySem.W.mg_of X G a19, (fun_mk (st := tp 16) l19 c19 k19).binds (ps := ["number"]) fun _ _ _ _ _ _ us hl => match us, hl with | [_], _ => rfl,
     fun_mk l20 c20 k20, PySem.W.mg_of X G a20, (fun_mk (st := tp 17) l20 c20 k20).binds (ps := ["number"]) fun _ _ _ _ _ _ us hl => match us, hl with | [_], _ => rfl,
     fun_mk l38 c38 k38, PySem.W.mg_of X G a38, (fun_mk (st := tp 18) l38 c38 k38).binds (ps := ["many"]) fun _ _ _ _ _ _ us hl => match us, hl with | [_], _ => rfl,
     fun_mk l39 c39 k39, PySem.W.mg_of X G a39, (fun_mk (st := tp 19) l39 c39 k39).binds (ps := ["most", "most_taps"]) fun _ _ _ _ _ _ us hl => match us, hl with | [_, _], _ => rfl,
     fun_mk l49 c49 k49, PySem.W.mg_of X G a49, (fun_mk (st := tp 20) l49 c49 k49).binds (ps := ["text"]) fun _ _ _ _ _ _ us hl => match us, hl with | [_], _ => rfl,
     fun_mk l4 c4 k4, PySem.W.mg_of X G a4, (fun_mk (st := tp 22) l4 c4 k4).binds (ps := ["_law_script", "_law_k"]) fun _ _ _ _ _ _ us hl => match us, hl with | [_, _], _ => rfl,
     fun_mk l5 c5 k5, PySem.W.mg_of X G a5, (fun_mk (st := tp 23) l5 c5 k5).binds (ps := ["_law_script", "_law_k"]) fun _ _ _ _ _ _ us hl => match us, hl with | [_, _], _ => rfl,
     fun_mk l6 c6 k6, PySem.W.mg_of X G a6, (fun_mk (st := tp 24) l6 c6 k6).binds (ps := ["_law_number_here", "_law_k"]) fun _ _ _ _ _ _ us hl => match us, hl with | [_, _], _ => rfl,
     fun_mk l7 c7 k7, PySem.W.mg_of X G a7, (fun_mk (st := tp 25) l7 c7 k7).binds (ps := ["_law_number_here", "_law_most"]) fun _ _ _ _ _ _ us hl => match us, hl with | [_, _], _ => rfl,
     fun_mk l51 c51 k51, PySem.W.mg_of X G a51, (fun_mk (st := tp 27) l51 c51 k51).binds (ps := ["_law_script"]) fun _ _ _ _ _ _ us hl => match us, hl with | [_], _ => rfl,
     ⟨_, PySem.W.mg_of X G vMOST_COUNT, rMOST_COUNT⟩,
     ⟨_, PySem.W.mg_of X G vMOST_COUNTS, rMOST_COUNTS⟩,
     ⟨_, PySem.W.mg_of X G vPAUSE, rPAUSE⟩,
     ⟨_, PySem.W.mg_of X G vQUIET, rQUIET⟩,
     ⟨_, PySem.W.mg_of X G vTAP, rTAP⟩,
     PySem.W.mg_none_of X G zValueError,
     PySem.W.mg_none_of X G zall,
     PySem.W.mg_none_of X G zbool,
     PySem.W.mg_none_of X G zint,
     PySem.W.mg_none_of X G zisinstance,
     PySem.W.mg_none_of X G zlen,
     PySem.W.mg_none_of X G zrange,
     PySem.W.mg_none_of X G zsorted,
     PySem.W.mg_none_of X G zsum,
     PySem.W.mg_none_of X G ztuple,
     xE1, PySem.W.mg_of X G g1, kE1, bE1, yE1,
     xt,
     tk,
     ⟨oc51, kV51, dc51, pm51, ct51, od51, an51, cc51, P51, sl51, rfl, l51, c51, TB (cc51, P51) (.head _), .head _, fun p hp _ => by rw [List.mem_singleton.mp hp]⟩⟩
  exact (all _ _ _ g 10).c51.imp fun vs H Q E h => to_lawT (C := ⟨l.prog, w, K, mg, base, fun n => [e0, e1, e2, e3, e4, e5].getD n 0, 0, [], [(P51, (("law" : Str) ++ ".<locals>.") ++ "<lambda>")]⟩) law_true (List.forall_mem_cons.mpr ⟨⟨(cc51, P51), .head _, rfl⟩, fun _ h => nomatch h⟩) vs H Q E h
end K02
open PySem PySem.W PyProof.Rows
set_option maxHeartbeats 0 in
theorem PySem.Challenge.cw_tapdeal_k02_whole_beats_of_counts_holds : PySem.Challenge.rw_tapdeal_k02_whole_beats_of_counts.Holds := by
  w_on; o_law; k_head; (case hw => w_witness2)
  k_fill
  refine LamX.walk_ofTs (l := PySem.Challenge.rw_tapdeal_k02_whole_beats_of_counts) (n := 63) (k := 30) (x := "_law_script") (CX := fun w => L2.CX PySem.Challenge.rw_tapdeal_k02_whole_beats_of_counts.prog w) rfl (by decide) rfl ⟨rfl, by decide, by decide⟩ (fun w h Y => PySem.W.km_in_of Y) ?F (fun _ _ _ _ _ h => by
    obtain ⟨_, _, _, _, _, _, _, _, _, _, _, _, z⟩ := h
    exact z)
  case F =>
    intro w mg fa h Y KX G hmg
    refine' K02.all_mk KX G hmg ?y_a28 ?y_l28 ?y_c28 ?y_k28 ?y_a37 ?y_l37 ?y_c37 ?y_k37 ?y_a0 ?y_l0 ?y_c0 ?y_k0 ?y_a19 ?y_l19 ?y_c19 ?y_k19 ?y_a20 ?y_l20 ?y_c20 ?y_k20 ?y_a38 ?y_l38 ?y_c38 ?y_k38 ?y_a39 ?y_l39 ?y_c39 ?y_k39 ?y_a49 ?y_l49 ?y_c49 ?y_k49 ?y_a4 ?y_l4 ?y_c4 ?y_k4 ?y_a5 ?y_l5 ?y_c5 ?y_k5 ?y_a6 ?y_l6 ?y_c6 ?y_k6 ?y_a7 ?y_l7 ?y_c7 ?y_k7 ?y_a51 ?y_l51 ?y_c51 ?y_k51 ?y_lc51 ?y_pv51 ?y_hd51 ?y_np51 ?y_tt51 ?y_vMOST_COUNT ?y_rMOST_COUNT ?y_vMOST_COUNTS ?y_rMOST_COUNTS ?y_vPAUSE ?y_rPAUSE ?y_vQUIET ?y_rQUIET ?y_vTAP ?y_rTAP ?y_zValueError ?y_zall ?y_zbool ?y_zint ?y_zisinstance ?y_zlen ?y_zrange ?y_zsorted ?y_zsum ?y_ztuple ?y_g1 ?y_xE1 ?y_kE1 ?y_bE1 ?y_yE1 ?y_g0 ?y_g2 ?y_g3 ?y_g4 ?y_g5 ?y_nd ?y_xT ?y_aT ?y_lT ?y_cT ?y_kT
    (case y_a28 => k_is); (case y_l28 => k_is); (case y_c28 => k_is); (case y_k28 => k_is); (case y_a37 => k_is); (case y_l37 => k_is); (case y_c37 => k_is); (case y_k37 => k_is); (case y_a0 => k_is); (case y_l0 => k_is); (case y_c0 => k_is); (case y_k0 => k_is); (case y_a19 => k_is); (case y_l19 => k_is); (case y_c19 => k_is); (case y_k19 => k_is); (case y_a20 => k_is); (case y_l20 => k_is); (case y_c20 => k_is); (case y_k20 => k_is); (case y_a38 => k_is); (case y_l38 => k_is); (case y_c38 => k_is); (case y_k38 => k_is); (case y_a39 => k_is); (case y_l39 => k_is); (case y_c39 => k_is); (case y_k39 => k_is); (case y_a49 => k_is); (case y_l49 => k_is); (case y_c49 => k_is); (case y_k49 => k_is); (case y_a4 => k_is); (case y_l4 => k_is); (case y_c4 => k_is); (case y_k4 => k_is); (case y_a5 => k_is); (case y_l5 => k_is); (case y_c5 => k_is); (case y_k5 => k_is); (case y_a6 => k_is); (case y_l6 => k_is); (case y_c6 => k_is); (case y_k6 => k_is); (case y_a7 => k_is); (case y_l7 => k_is); (case y_c7 => k_is); (case y_k7 => k_is); (case y_a51 => k_is); (case y_l51 => k_is); (case y_c51 => k_is); (case y_k51 => k_is); (case y_lc51 => k_is); (case y_pv51 => exact rfl); (case y_hd51 => kernel_rfl); (case y_np51 => kernel_rfl); (case y_tt51 => exact PySem.W.km_tabs_of Y _ (by decide)); (case y_vMOST_COUNT => k_is); (case y_rMOST_COUNT => exact ⟨_, rfl⟩); (case y_vMOST_COUNTS => k_is); (case y_rMOST_COUNTS => exact ⟨_, rfl⟩); (case y_vPAUSE => k_is); (case y_rPAUSE => exact ⟨_, rfl⟩); (case y_vQUIET => k_is); (case y_rQUIET => exact ⟨_, rfl⟩); (case y_vTAP => k_is); (case y_rTAP => exact ⟨_, rfl⟩); (case y_zValueError => k_is); (case y_zall => k_is); (case y_zbool => k_is); (case y_zint => k_is); (case y_zisinstance => k_is); (case y_zlen => k_is); (case y_zrange => k_is); (case y_zsorted => k_is); (case y_zsum => k_is); (case y_ztuple => k_is); (case y_g1 => k_is); (case y_xE1 => k_exc); (case y_kE1 => k_is); (case y_bE1 => k_is); (case y_yE1 => k_is); (case y_g0 => k_is); (case y_g2 => k_is); (case y_g3 => k_is); (case y_g4 => k_is); (case y_g5 => k_is); (case y_nd => decide); (case y_xT => kernel_rfl); (case y_aT => k_is); (case y_lT => k_is); (case y_cT => k_is); (case y_kT => k_is)
