import PyProof.Rows.All
import Wide.All
import OpenK.AllK
import Wide.FinOn
import HandS.ForMost
import KE.KDictKeyed
import KE.KDictLaw
import HandS.Exc
import HandS.ExcOwn
import HandS.TryOnly
import HandS.TryMany
import HandS.CallSlots
import HandS.TupAny
import HandS.TupMul
import KE.DataCmp
import KE.DataEq
import KE.SortData
import KE.KeyNested
import HandS.Text
import HandS.Comp
import HandS.Records
import HandS.Iter
import HandS.Zip
import HandS.IsInst
import HandS.RaiseMore
import HandS.TupSets
import HandS.Words
import HandS.Ends
import HandS.EndBits
import PySem.Challenge.RW_joinward_k00_schemas_bases_and_queries
set_option Elab.async false
set_option maxRecDepth 100000
set_option linter.all false
/-! JDen: values, the compact form of a def, and what it computes (no heap of the model in sight) -/
namespace J
open PySem

/-- a value: tuples, lists, dicts, sets that nobody changes any more are told by what they hold; ref: an object that may change -/
inductive D where
  | non | bl (b : Bool) | int (i : Int) | str (x : Str)
  | tup (xs : List D) | lst (xs : List D) | dic (kvs : List (D × D)) | set (xs : List D) | ref (l : Nat)
  | kls (xs : List D)

/-- an object that may change -/
inductive MO where
  | lst (xs : List D) | dic (kvs : List (D × D)) | ins (c : Nat) (fs : List (Str × D))
abbrev Store := List MO
structure Exn where
  cls : Nat
  arg : Option D
inductive Res (α : Type) where
  | ok (a : α) (st : Store) | exc (x : Exn) (st : Store) | bad
inductive Slot where
  | un | val (d : D) | own (o : MO)
abbrev Env := List Slot
inductive Fl where
  | nx | ret (d : D) | brk | ct
inductive RS where
  | ok (f : Fl) (env : Env) (st : Store) | exc (x : Exn) (env : Env) (st : Store) | bad

/-- the longest list, text -/
abbrev SZ : Nat := 16777216
def loopMax : Nat := 1000000

/-! ### equality, keys, order -/
def b2z (b : Bool) : Int := if b then 1 else 0
mutual
/-- Python's == of data; none: not served -/
def eqD : D → D → Bool
  | .non, .non => true
  | .bl a, .bl b => a == b
  | .bl a, .int j => b2z a == j
  | .int i, .bl b => i == b2z b
  | .int i, .int j => i == j
  | .str x, .str y => decide (x = y)
  | .tup xs, .tup ys => eqDs xs ys
  | .lst xs, .lst ys => eqDs xs ys
  | _, _ => false
def eqDs : List D → List D → Bool
  | [], [] => true
  | x :: xs, y :: ys => eqD x y && eqDs xs ys
  | _, _ => false
end
mutual
/-- data of none, bools, ints, texts, tuples, lists alone: how deep; none: holds something else -/
def deep : D → Option Nat
  | .non => some 0
  | .bl _ => some 0
  | .int _ => some 0
  | .str _ => some 0
  | .tup xs => (deeps xs).map (· + 1)
  | .lst xs => (deeps xs).map (· + 1)
  | _ => none
def deeps : List D → Option Nat
  | [] => some 0
  | x :: xs => match deep x, deeps xs with
    | some a, some b => some (max a b)
    | _, _ => none
end
def plain (d : D) : Bool := match deep d with
  | some n => n ≤ 60
  | none => false
mutual
/-- what may be a key of a dict, an item of a set -/
def hashable : D → Bool
  | .non => true
  | .bl _ => true
  | .int _ => true
  | .str _ => true
  | .tup xs => hashables xs
  | _ => false
def hashables : List D → Bool
  | [] => true
  | x :: xs => hashable x && hashables xs
end
def keyOk (d : D) : Bool := hashable d && (match deep d with | some n => n ≤ 8 | none => false)
/-- the ones that are not equal to an earlier one -/
def memD (x : D) : List D → Bool
  | [] => false
  | y :: r => eqD y x || memD x r
def dedupGo (seen : List D) : List D → List D
  | [] => []
  | x :: r => if memD x seen then dedupGo seen r else x :: dedupGo (seen ++ [x]) r
def dedup (xs : List D) : List D := dedupGo [] xs
def dget (k : D) : List (D × D) → Option D
  | [] => none
  | (k', v) :: r => if eqD k' k then some v else dget k r
def dput (k v : D) : List (D × D) → List (D × D)
  | [] => [(k, v)]
  | (k', w) :: r => if eqD k' k then (k', v) :: r else (k', w) :: dput k v r
def ddel (k : D) : List (D × D) → List (D × D)
  | [] => []
  | (k', w) :: r => if eqD k' k then r else (k', w) :: ddel k r
def dputs : List (D × D) → List (D × D) → List (D × D)
  | acc, [] => acc
  | acc, (k, v) :: r => dputs (dput k v acc) r

/-- the order of code points -/
def ltNs : List Nat → List Nat → Bool
  | [], [] => false
  | [], _ :: _ => true
  | _ :: _, [] => false
  | a :: as, b :: bs => if a = b then ltNs as bs else a < b
mutual
/-- a < b; none: not served (data of unlike kinds) -/
def ltD : D → D → Option Bool
  | .bl a, .bl b => some (decide (b2z a < b2z b))
  | .int i, .int j => some (decide (i < j))
  | .bl a, .int j => some (decide (b2z a < j))
  | .int i, .bl b => some (decide (i < b2z b))
  | .str x, .str y => some (ltNs x.cps.toList y.cps.toList)
  | .tup xs, .tup ys => ltDs xs ys
  | .lst xs, .lst ys => ltDs xs ys
  | _, _ => none
def ltDs : List D → List D → Option Bool
  | [], [] => some false
  | [], _ :: _ => some true
  | _ :: _, [] => some false
  | x :: xs, y :: ys => if eqD x y then ltDs xs ys else ltD x y
end
end J

namespace J
open PySem L2

mutual
/-- can be compared by <, place by place -/
def alikeD : D → D → Bool
  | .non, .non => true
  | .bl _, .bl _ => true
  | .int _, .int _ => true
  | .str _, .str _ => true
  | .lst xs, .lst ys => alikeDs xs ys
  | .tup xs, .tup ys => alikeDs xs ys
  | _, _ => false
def alikeDs : List D → List D → Bool
  | x :: xs, y :: ys => alikeD x y && alikeDs xs ys
  | [], _ => true
  | _ :: _, [] => true
end
mutual
def ltB : D → D → Bool
  | .bl a, .bl b => decide (b2z a < b2z b)
  | .int i, .int j => decide (i < j)
  | .str x, .str y => ltNs x.cps.toList y.cps.toList
  | .lst xs, .lst ys => ltBs xs ys
  | .tup xs, .tup ys => ltBs xs ys
  | _, _ => false
def ltBs : List D → List D → Bool
  | [], [] => false
  | [], _ :: _ => true
  | _ :: _, [] => false
  | x :: xs, y :: ys => if eqD x y then ltBs xs ys else ltB x y
end
def isNon : D → Bool
  | .non => true
  | _ => false
def canLt (a b : D) : Bool := plain a && plain b && alikeD a b && !isNon a
/-- sorted, stable -/
def insD (x : D) : List D → List D
  | [] => [x]
  | y :: r => if ltB x y then x :: y :: r else y :: insD x r
def isortGo : List D → List D → List D
  | acc, [] => acc
  | acc, x :: r => isortGo (insD x acc) r
def isort (xs : List D) : List D := isortGo [] xs
def someTup : D → Bool
  | .tup (_ :: _) => true
  | _ => false
def noTup : D → Bool
  | .tup _ => false
  | .non => false
  | _ => true
def sortOk (xs : List D) : Bool := xs.all plain && (xs.all someTup || xs.all noTup) && xs.all fun x => xs.all fun y => alikeD x y
def sortD (xs : List D) : Option (List D) := if sortOk xs && decide (xs.length ≤ SZ) then some (isort xs) else none

/-! ### operators on what the operands are just now (snapshots) -/
inductive Bop where
  | add | sub | mul | fdiv | mod | pow
inductive Cop where
  | eq | ne | lt | le | gt | ge | is | isnot | inn | notin

def truth : D → Option Bool
  | .non => some false
  | .bl b => some b
  | .int i => some (i != 0)
  | .str x => if x.length ≤ SZ then some (x.length != 0) else none
  | .tup xs => some (!xs.isEmpty)
  | .lst xs => some (!xs.isEmpty)
  | .dic kvs => some (!kvs.isEmpty)
  | _ => none
def repS (x : Str) (k : Nat) : Str := ⟨((List.replicate k x.cps.toList).flatten).toArray⟩
def binD : Bop → D → D → Option D
  | .add, .int i, .int j => some (.int (i + j))
  | .add, .str x, .str y => if x.length + y.length ≤ SZ then some (.str (x ++ y)) else none
  | .add, .tup xs, .tup ys => if xs.length + ys.length ≤ SZ then some (.tup (xs ++ ys)) else none
  | .add, .lst xs, .lst ys => if xs.length + ys.length ≤ SZ then some (.lst (xs ++ ys)) else none
  | .sub, .int i, .int j => some (.int (i - j))
  | .mul, .int i, .int j => if (-(2 ^ 64) < i ∧ i < 2 ^ 64) ∨ (-(2 ^ 64) < j ∧ j < 2 ^ 64) then some (.int (i * j)) else none
  | .mul, .tup xs, .int k => if 2 ≤ k ∧ k ≤ 1000 ∧ xs.length ≤ 1000 ∧ xs.isEmpty = false then some (.tup (List.replicate k.toNat xs).flatten) else none
  | .mul, .str x, .int k => if 0 ≤ k ∧ k < 100000 ∧ x.length * k.toNat ≤ SZ then some (.str (repS x k.toNat)) else none
  | .fdiv, .int i, .int j => if j ≠ 0 ∧ j.natAbs < 1073741824 then some (.int (i.fdiv j)) else none
  | .mod, .int i, .int j => if j ≠ 0 then some (.int (i.fmod j)) else none
  | .pow, .int i, .int j => if 0 ≤ j ∧ j ≤ 1000000 ∧ i.natAbs < 2 ^ 64 then some (.int (i ^ j.toNat)) else none
  | _, _, _ => none
def inStr (x z : Str) : Bool := !(Builtin.Str.occurrences z x 0 z.length 1).isEmpty
def inD (x : D) : D → Option Bool
  | .lst ys => if plain x && ys.all plain then some (memD x ys) else none
  | .tup ys => if plain x && ys.all plain then some (memD x ys) else none
  | .set ys => if keyOk x then some (memD x ys) else none
  | .dic kvs => if keyOk x then some (dget x kvs).isSome else none
  | .str z => match x with
    | .str y => some (inStr y z)
    | _ => none
  | _ => none
def cmpD : Cop → D → D → Option Bool
  | .eq, a, b => if plain a && plain b then some (eqD a b) else none
  | .ne, a, b => if plain a && plain b then some (!eqD a b) else none
  | .lt, a, b => if canLt a b then some (ltB a b) else none
  | .gt, a, b => if canLt a b then some (ltB b a) else none
  | .le, a, b => if canLt a b then some (!ltB b a) else none
  | .ge, a, b => if canLt a b then some (!ltB a b) else none
  | .is, a, .non => some (isNon a)
  | .isnot, a, .non => some (!isNon a)
  | .inn, a, b => inD a b
  | .notin, a, b => (inD a b).map (!·)
  | _, _, _ => none
def ixD : D → D → Option D
  | .lst xs, .int i => atI xs i
  | .tup xs, .int i => atI xs i
  | .str z, .int i => if z.length ≤ SZ then (atI z.cps.toList i).map fun c => .str ⟨#[c]⟩ else none
  | .dic kvs, k => if keyOk k then dget k kvs else none
  | _, _ => none
def cutD (xs : List D) (lo hi : Option Int) : List D := (xs.drop (HT.sIx xs.length 0 lo)).take (HT.sIx xs.length xs.length hi - HT.sIx xs.length 0 lo)
def sliceD : D → Option Int → Option Int → Option D
  | .lst xs, lo, hi => some (.lst (cutD xs lo hi))
  | .tup xs, lo, hi => some (.tup (cutD xs lo hi))
  | .str z, lo, hi => if z.length ≤ SZ then some (.str (cutS z lo hi)) else none
  | _, _, _ => none
end J

namespace J
open PySem L2

/-! ### built-ins, by snapshots -/
inductive Ty where
  | int | str | bool | tuple | list | dict
def isTy : Ty → D → Option Bool
  | _, .ref _ => none
  | _, .set _ => none
  | _, .kls _ => none
  | .int, .int _ => some true
  | .int, .bl _ => some true
  | .bool, .bl _ => some true
  | .str, .str _ => some true
  | .tuple, .tup _ => some true
  | .list, .lst _ => some true
  | .dict, .dic _ => some true
  | _, _ => some false
inductive Bt where
  | abs | all | any | int | len | list | max | min | set | sorted | str | sum | tuple | dict
  | isi (t : Ty)
def ints? : List D → Option (List Int)
  | [] => some []
  | .int i :: r => (ints? r).map (i :: ·)
  | _ => none
def bls? : List D → Option (List Bool)
  | [] => some []
  | .bl b :: r => (bls? r).map (b :: ·)
  | _ => none
def strs? : List D → Option (List Str)
  | [] => some []
  | .str x :: r => (strs? r).map (x :: ·)
  | _ => none
def seq? : D → Option (List D)
  | .lst xs => some xs
  | .tup xs => some xs
  | _ => none
/-- the first of the least (greatest) ones -/
def leastD (m : D) : List D → D
  | [] => m
  | x :: r => leastD (if ltB x m then x else m) r
def mostD (m : D) : List D → D
  | [] => m
  | x :: r => mostD (if ltB m x then x else m) r
def pairs? : List D → Option (List (D × D))
  | [] => some []
  | .tup [a, b] :: r => (pairs? r).map ((a, b) :: ·)
  | _ => none
def absB : List D → Option D
  | [.int i] => some (.int (if i < 0 then -i else i))
  | _ => none
def allB : List D → Option D
  | [.lst xs] => (bls? xs).map fun bs => .bl (bs.all id)
  | _ => none
def anyB : List D → Option D
  | [.lst xs] => (bls? xs).map fun bs => .bl (bs.any id)
  | _ => none
def intB : List D → Option D
  | [.int i] => some (.int i)
  | [.bl b] => some (.int (b2z b))
  | [.str x] => if x.length ≤ 640 then (PySem.intText? x).map .int else none
  | _ => none
def lenB : List D → Option D
  | [.str x] => if x.length ≤ SZ then some (.int x.length) else none
  | [.tup xs] => some (.int xs.length)
  | [.lst xs] => some (.int xs.length)
  | [.dic kvs] => some (.int kvs.length)
  | [.set xs] => some (.int xs.length)
  | [.kls xs] => some (.int xs.length)
  | _ => none
def listB : List D → Option D
  | [.lst xs] => some (.lst xs)
  | [.tup xs] => some (.lst xs)
  | _ => none
def tupleB : List D → Option D
  | [.lst xs] => some (.tup xs)
  | [.tup xs] => some (.tup xs)
  | [.dic kvs] => some (.tup (kvs.map (·.1)))
  | _ => none
def maxB : List D → Option D
  | [.int i, .int j] => some (.int (if j > i then j else i))
  | [.lst xs] => (ints? xs).bind fun is => match is with
    | [] => none
    | m :: r => some (.int (r.foldl max m))
  | _ => none
def minB : List D → Option D
  | [.int i, .int j] => some (.int (if j < i then j else i))
  | [.lst xs] => (ints? xs).bind fun is => match is with
    | [] => none
    | m :: r => some (.int (r.foldl min m))
  | _ => none
def setB : List D → Option D
  | [.lst xs] => if xs.all keyOk && decide (xs.length < 64) then some (.set (dedup xs)) else none
  | [.tup xs] => if xs.all keyOk && decide (xs.length < 64) then some (.set (dedup xs)) else none
  | _ => none
def sortedB : List D → Option D
  | [.lst xs] => (sortD xs).map .lst
  | _ => none
def strB : List D → Option D
  | [.int i] => if i.natAbs.log2 < 1920 then some (.str (toString i)) else none
  | [.str x] => some (.str x)
  | _ => none
def sumB : List D → Option D
  | [.lst xs] => (ints? xs).map fun is => .int is.sum
  | [.tup xs] => (ints? xs).map fun is => .int is.sum
  | _ => none
def dictB : List D → Option D
  | [.dic kvs] => some (.dic kvs)
  | [.lst xs] => (pairs? xs).bind fun ps => if ps.all (fun p => keyOk p.1) then some (.dic (dputs [] ps)) else none
  | _ => none
def isiD (t : Ty) : List D → Option D
  | [d] => (isTy t d).map .bl
  | _ => none
def btD : Bt → List D → Option D
  | .abs => absB
  | .all => allB
  | .any => anyB
  | .int => intB
  | .len => lenB
  | .list => listB
  | .tuple => tupleB
  | .max => maxB
  | .min => minB
  | .set => setB
  | .sorted => sortedB
  | .str => strB
  | .sum => sumB
  | .dict => dictB
  | .isi t => isiD t

/-- what may be put into a set here -/
def isI : D → Bool
  | .int _ => true
  | _ => false
def isS : D → Bool
  | .str _ => true
  | _ => false
def isTp : D → Bool
  | .tup _ => true
  | _ => false
def okSet (xs : List D) : Bool := xs.all keyOk && ((xs.all isTp && decide ((dedup xs).length < 64)) || ((xs.all isI || xs.all isS) && decide ((dedup xs).length ≤ 4000)))
def srtL (xs : List D) : Option (List D) := if okSet xs && ((xs.all someTup || xs.all noTup) && xs.all fun x => xs.all fun y => alikeD x y) then some (isort (dedup xs)) else none
def srtD (d : D) : Option D := (seq? d).bind fun xs => (srtL xs).map .lst
def lsetD (d : D) : Option D := (seq? d).bind fun xs => if okSet xs then some (.int (dedup xs).length) else none

/-- methods of built-in values that change nothing -/
inductive Bm where
  | get | index | count | join | split | partition | find | ljust | rjust | rstrip | lstrip | lower | upper | strip
def indexD (x : D) : Nat → List D → Option D
  | _, [] => none
  | i, y :: r => if eqD y x then some (.int i) else indexD x (i + 1) r
def sumLens (k : Nat) : List Str → Nat
  | [] => 0
  | x :: r => x.length + k + sumLens k r
def bmD : Bm → List D → Option D
  | .get, [.dic kvs, k] => if keyOk k then some ((dget k kvs).getD .non) else none
  | .get, [.dic kvs, k, x] => if keyOk k then some ((dget k kvs).getD x) else none
  | .index, [.lst xs, x] => if plain x && xs.all plain then indexD x 0 xs else none
  | .index, [.tup xs, x] => if plain x && xs.all plain then indexD x 0 xs else none
  | .join, [.str a, .lst xs] => (strs? xs).bind fun ss => if sumLens a.length ss ≤ SZ then some (.str (Txt.join a ss)) else none
  | .split, [.str a, .str b] => if b.length ≠ 0 ∧ a.length + 2 ≤ SZ then some (.lst ((Txt.split a b).map .str)) else none
  | .find, [.str a, .str b] => some (.int (Txt.find a b))
  | _, _ => none
end J

namespace J
open PySem L2

/-! ### the compact form -/
inductive Tg where
  | name (i : Nat) | tup (ts : List Tg)
mutual
inductive Ex where
  | int (i : Int) | str (x : Str) | bl (b : Bool) | non
  | var (i : Nat)
  | bor (i : Nat)
  | glo (k : Nat)
  | tup (es : Exs) | lst (es : Exs)
  | bin (o : Bop) (a b : Ex)
  | cmp (o : Cop) (a b : Ex)
  | chain (o p : Cop) (a b c : Ex)
  | neg (a : Ex)
  | ands (es : Exs) | ors (es : Exs) | not (a : Ex)
  | ite (t : Te) (a b : Ex)
  | ix (a i : Ex)
  | slc (a : Ex) (lo hi : Option Ex)
  | fn (k : Nat) (es : Exs)
  | bt (f : Bt) (es : Exs)
  | bm (m : Bm) (o : Ex) (es : Exs)
  | me (m : Nat) (o : Ex) (es : Exs)
  | mk (c : Nat) (es : Exs)
  | att (o : Ex) (f : Str)
  | lc (elt : Ex) (g : Gen)
  | lc2 (elt : Ex) (g g2 : Gen)
  | dc (k v : Ex) (g : Gen)
  | dict (es : Exs)
  | fs (es : Exs)
  | itl (f : Bt) (t : It)
  | srt (e : Ex)
  | new (es : Exs)
  | lset (e : Ex)
inductive Exs where
  | nil | cons (e : Ex) (r : Exs)
inductive It where
  | ex (e : Ex) | rng (es : Exs) | zip (a b : Ex) | enum (e : Ex) | items (e : Ex) | vals (e : Ex) | rev (e : Ex)
inductive Gen where
  | mk (t : Tg) (i : It) (ifs : Te) (own : List Nat)
inductive Te where
  | yes | ex (e : Ex) | ands (ts : Tes) | ors (ts : Tes) | not (t : Te)
inductive Tes where
  | nil | cons (t : Te) (r : Tes)
end
mutual
inductive Sm where
  | asg (t : Tg) (e : Ex)
  | asgO (i : Nat) (e : Ex)
  | asgM (j i : Nat)
  | par (i j : Nat) (a b : Ex)
  | aug (i : Nat) (o : Bop) (e : Ex)
  | setO (i : Nat) (k e : Ex)
  | setR (o k e : Ex)
  | delO (i : Nat) (k : Ex)
  | app (i : Nat) (e : Ex)
  | ext (i : Nat) (e : Ex)
  | upd (i : Nat) (e : Ex)
  | pop (j i : Nat)
  | appR (o e : Ex)
  | setA (o : Ex) (f : Str) (e : Ex)
  | augA (o : Ex) (f : Str) (p : Bop) (e : Ex)
  | expr (e : Ex)
  | ret (e : Ex) | retM (i : Nat) | retN
  | iff (t : Te) (a b : Sms)
  | iffS (i : Nat) (k v c : Ex) (a b : Sms)
  | for_ (t : Tg) (i : It) (b : Sms)
  | forM (t : Tg) (i : Nat) (b : Sms)
  | while_ (t : Te) (b : Sms)
  | brk | ct | pass
  | raise (c : Nat) (a : Option Ex)
  | try_ (b : Sms) (hs : List (Nat × Hd))
inductive Sms where
  | nil | cons (s : Sm) (r : Sms)
inductive Hd where
  | ret (d : Ex) | line | raise (c : Nat) (e : Ex)
end
/-- a def: how many parameters, how many names, its body -/
structure Fn where
  np : Nat
  nn : Nat
  body : Sms

/-- what stands around a def: calls, methods by class, the module's constants -/
structure Gx where
  call : Nat → List D → Store → Res D
  meth : Nat → Nat → Option Nat
  init : Nat → Option Nat
  glo : Nat → Option D
  isa : Nat → Nat → Option Bool

/-! ### what it computes -/
/-- what simp must not look into -/
inductive Tk {α : Type} (a : α) : Type where
  | mk
def bnd {α β : Type} (x : Res α) (f : α → Store → Res β) (_t : Tk f := .mk) : Res β := match x with
  | .ok a s => f a s
  | .exc e s => .exc e s
  | .bad => .bad
def ofO {α : Type} (o : Option α) (s : Store) : Res α := match o with
  | some a => .ok a s
  | none => .bad
def frz : MO → D
  | .lst xs => .lst xs
  | .dic kvs => .dic kvs
  | .ins _ _ => .non
/-- what a value is just now -/
def snap (st : Store) : D → D
  | .ref l => match st[l]? with
    | some (.lst xs) => .lst xs
    | some (.dic kvs) => .dic kvs
    | _ => .ref l
  | d => d
def items? : D → Option (List D)
  | .lst xs => some xs
  | .kls xs => some xs
  | .tup xs => some xs
  | .str x => if x.length ≤ SZ then some (x.cps.toList.map fun c => .str ⟨#[c]⟩) else none
  | .dic kvs => some (kvs.map (·.1))
  | _ => none
def zipD (xs ys : List D) : List D := (xs.zip ys).map fun p => .tup [p.1, p.2]
def zip2? : D → D → Option (List D)
  | .lst xs, .lst ys => some (zipD xs ys)
  | .tup xs, .tup ys => some (zipD xs ys)
  | _, _ => none
def rngD (lo hi : Int) : List D := (List.range (hi - lo).toNat).map fun (i : Nat) => .int (lo + (i : Int))
def range? : List D → Option (List D)
  | [.int j] => if -(2 ^ 62) ≤ j ∧ j < 2 ^ 62 then some (rngD 0 j) else none
  | [.int i, .int j] => if -(2 ^ 62) ≤ i ∧ i < 2 ^ 62 ∧ -(2 ^ 62) ≤ j ∧ j < 2 ^ 62 then some (rngD i j) else none
  | _ => none
def enumD : Nat → List D → List D
  | _, [] => []
  | i, x :: r => .tup [.int i, x] :: enumD (i + 1) r
mutual
def asgT : Tg → D → Env → Option Env
  | .name i, d, env => if i < env.length then some (env.set i (.val d)) else none
  | .tup ts, .tup ds, env => asgTs ts ds env
  | .tup _, _, _ => none
def asgTs : List Tg → List D → Env → Option Env
  | [], [], env => some env
  | t :: ts, d :: ds, env => match asgT t d env with
    | some env' => asgTs ts ds env'
    | none => none
  | _, _, _ => none
end
def wipeE (env : Env) : List Nat → Env
  | [] => env
  | v :: vs => (wipeE env vs).set v .un
/-- the loop of a comprehension -/
def lcL (f : D → Store → Res (Option D)) : List D → List D → Store → Res (List D)
  | acc, [], st => .ok acc st
  | acc, x :: r, st => match f x st with
    | .ok none s => lcL f acc r s
    | .ok (some y) s => if acc.length < SZ then lcL f (acc ++ [y]) r s else .bad
    | .exc _ _ => .bad
    | .bad => .bad
def lcL2 (f : D → List D → Store → Res (List D)) : List D → List D → Store → Res (List D)
  | acc, [], st => .ok acc st
  | acc, x :: r, st => match f x acc st with
    | .ok acc' s => lcL2 f acc' r s
    | .exc _ _ => .bad
    | .bad => .bad
def getO (env : Env) (i : Nat) : Option MO := match env[i]? with
  | some (.own o) => some o
  | _ => none
def Ex.isBor : Ex → Bool
  | .bor _ => true
  | _ => false
def joinS : List D → Option Str
  | [] => some Str.empty
  | .str x :: r => (joinS r).bind fun y => if x.length + y.length ≤ SZ then some (x ++ y) else none
  | _ => none
/-- a field of an f-string -/
def fld? : D → Option D
  | .str x => some (.str x)
  | .int i => if i.natAbs.log2 < 1920 then some (.str (toString i)) else none
  | _ => none
def flds? : List D → Option (List D)
  | [] => some []
  | d :: r => match fld? d, flds? r with
    | some x, some y => some (x :: y)
    | _, _ => none
/-- k, v, k, v, .. -/
def alt? : List D → Option (List (D × D))
  | [] => some []
  | k :: v :: r => (alt? r).map ((k, v) :: ·)
  | _ => none
section
variable (G : Gx)
mutual
def ev : Ex → Env → Store → Res D
  | .int i, _, st => .ok (.int i) st
  | .str x, _, st => .ok (.str x) st
  | .bl b, _, st => .ok (.bl b) st
  | .non, _, st => .ok .non st
  | .var i, env, st => match env[i]? with
    | some (.val d) => .ok d st
    | _ => .bad
  | .bor i, env, st => match getO env i with
    | some o => .ok (frz o) st
    | none => .bad
  | .glo k, _, st => ofO (G.glo k) st
  | .tup es, env, st => bnd (evs es env st) fun ds s => if ds.length ≤ SZ then .ok (.tup ds) s else .bad
  | .lst es, env, st => bnd (evs es env st) fun ds s => if ds.length ≤ SZ then .ok (.lst ds) s else .bad
  | .bin o a b, env, st => bnd (ev a env st) fun x s => bnd (ev b env s) fun y s' => ofO (binD o (snap s' x) (snap s' y)) s'
  | .cmp o a b, env, st => bnd (ev a env st) fun x s => bnd (ev b env s) fun y s' => ofO ((cmpD o (snap s' x) (snap s' y)).map .bl) s'
  | .chain o p a b c, env, st => bnd (ev a env st) fun x s => bnd (ev b env s) fun y s' => match cmpD o (snap s' x) (snap s' y) with
    | some true => bnd (ev c env s') fun z s'' => ofO ((cmpD p (snap s'' y) (snap s'' z)).map .bl) s''
    | some false => .ok (.bl false) s'
    | none => .bad
  | .neg a, env, st => bnd (ev a env st) fun x s => match x with
    | .int i => .ok (.int (-i)) s
    | _ => .bad
  | .ands es, env, st => evAnd es env st
  | .ors es, env, st => evOr es env st
  | .not a, env, st => bnd (ev a env st) fun x s => match x with
    | .bl b => .ok (.bl (!b)) s
    | _ => .bad
  | .ite t a b, env, st => bnd (tst t env st) fun c s => if c then ev a env s else ev b env s
  | .ix a i, env, st => bnd (ev a env st) fun x s => bnd (ev i env s) fun y s' => ofO (ixD (snap s' x) (snap s' y)) s'
  | .slc a lo hi, env, st => bnd (ev a env st) fun x s => bnd (evO lo env s) fun l s' => bnd (evO hi env s') fun h s'' => ofO (sliceD (snap s'' x) l h) s''
  | .fn k es, env, st => bnd (evs es env st) fun ds s => G.call k ds s
  | .bt f es, env, st => bnd (evs es env st) fun ds s => ofO (btD f (ds.map (snap s))) s
  | .bm m o es, env, st => bnd (ev o env st) fun x s => bnd (evs es env s) fun ds s' => ofO (bmD m (snap s' x :: ds.map (snap s'))) s'
  | .me m o es, env, st => bnd (ev o env st) fun x s => match x with
    | .ref l => match s[l]? with
      | some (.ins c _) => match G.meth c m with
        | some k => bnd (evs es env s) fun ds s' => G.call k (.ref l :: ds) s'
        | none => .bad
      | _ => .bad
    | _ => .bad
  | .mk c es, env, st => match G.init c with
    | some k => bnd (evs es env st) fun ds s => bnd (G.call k (.ref s.length :: ds) (s ++ [.ins c []])) fun v s' => match v with
      | .non => .ok (.ref s.length) s'
      | _ => .bad
    | none => .bad
  | .att o f, env, st => bnd (ev o env st) fun x s => match x with
    | .ref l => match s[l]? with
      | some (.ins _ fs) => ofO (fs.lookup f) s
      | _ => .bad
    | _ => .bad
  | .lc e (.mk t i ifs own), env, st => bnd (itD i env st) fun xs s =>
      bnd (lcL (fun x s' => match asgT t x (wipeE env own) with
        | some env' => bnd (tst ifs env' s') fun b s2 => if b then bnd (ev e env' s2) fun y s3 => .ok (some y) s3 else .ok none s2
        | none => .bad) [] xs s) fun ys s' => .ok (.lst ys) s'
  | .lc2 e (.mk t i ifs own) (.mk t2 i2 ifs2 own2), env, st => bnd (itD i env st) fun xs s =>
      bnd (lcL2 (fun x acc s' => match asgT t x (wipeE env own) with
        | some env' => bnd (tst ifs env' s') fun b s2 => if b then bnd (itD i2 env' s2) fun zs s3 =>
            lcL (fun z s4 => match asgT t2 z (wipeE env' own2) with
              | some env2 => bnd (tst ifs2 env2 s4) fun b2 s5 => if b2 then bnd (ev e env2 s5) fun y s6 => .ok (some y) s6 else .ok none s5
              | none => .bad) acc zs s3
          else .ok acc s2
        | none => .bad) [] xs s) fun ys s' => .ok (.lst ys) s'
  | .dc k v (.mk t i ifs own), env, st => bnd (itD i env st) fun xs s =>
      bnd (lcL (fun x s' => match asgT t x (wipeE env own) with
        | some env' => bnd (tst ifs env' s') fun b s2 => if b then bnd (ev k env' s2) fun y s3 => bnd (ev v env' s3) fun z s4 => if keyOk y then .ok (some (.tup [y, z])) s4 else .bad else .ok none s2
        | none => .bad) [] xs s) fun ys s' => ofO ((pairs? ys).map fun ps => .dic (dputs [] ps)) s'
  | .dict es, env, st => bnd (evs es env st) fun ds s => ofO ((alt? ds).bind fun ps => if ps.all (fun p => keyOk p.1) && decide (ps.length ≤ 15) then some (.dic (dputs [] ps)) else none) s
  | .fs es, env, st => bnd (evs es env st) fun ds s => ofO ((flds? ds).bind fun xs => (joinS xs).map .str) s
  | .itl f t, env, st => bnd (itD t env st) fun xs s => ofO (btD f [.lst xs]) s
  | .new es, env, st => bnd (evs es env st) fun ds s => if ds.length ≤ SZ then .ok (.ref s.length) (s ++ [.lst ds]) else .bad
  | .srt e, env, st => bnd (ev e env st) fun d s => ofO (srtD (snap s d)) s
  | .lset e, env, st => bnd (ev e env st) fun d s => ofO (lsetD (snap s d)) s
def evs : Exs → Env → Store → Res (List D)
  | .nil, _, st => .ok [] st
  | .cons e r, env, st => bnd (ev e env st) fun x s => bnd (evs r env s) fun xs s' => .ok (x :: xs) s'
def evO : Option Ex → Env → Store → Res (Option Int)
  | none, _, st => .ok none st
  | some e, env, st => bnd (ev e env st) fun x s => match x with
    | .int i => .ok (some i) s
    | _ => .bad
def evAnd : Exs → Env → Store → Res D
  | .nil, _, _ => .bad
  | .cons e .nil, env, st => ev e env st
  | .cons e (.cons e2 r), env, st => bnd (ev e env st) fun x s => match x with
    | .bl true => evAnd (.cons e2 r) env s
    | .bl false => .ok (.bl false) s
    | _ => .bad
def evOr : Exs → Env → Store → Res D
  | .nil, _, _ => .bad
  | .cons e .nil, env, st => ev e env st
  | .cons e (.cons e2 r), env, st => bnd (ev e env st) fun x s => match x with
    | .bl true => .ok (.bl true) s
    | .bl false => evOr (.cons e2 r) env s
    | _ => .bad
def tst : Te → Env → Store → Res Bool
  | .yes, _, st => .ok true st
  | .ex e, env, st => bnd (ev e env st) fun x s => ofO (truth (snap s x)) s
  | .ands ts, env, st => tsAnd ts env st
  | .ors ts, env, st => tsOr ts env st
  | .not t, env, st => bnd (tst t env st) fun b s => .ok (!b) s
def tsAnd : Tes → Env → Store → Res Bool
  | .nil, _, _ => .bad
  | .cons e .nil, env, st => tst e env st
  | .cons e (.cons e2 r), env, st => bnd (tst e env st) fun b s => if b then tsAnd (.cons e2 r) env s else .ok false s
def tsOr : Tes → Env → Store → Res Bool
  | .nil, _, _ => .bad
  | .cons e .nil, env, st => tst e env st
  | .cons e (.cons e2 r), env, st => bnd (tst e env st) fun b s => if b then .ok true s else tsOr (.cons e2 r) env s
def itD : It → Env → Store → Res (List D)
  | .ex e, env, st => bnd (ev e env st) fun x s => ofO (items? x) s
  | .rng es, env, st => bnd (evs es env st) fun ds s => ofO (range? ds) s
  | .zip a b, env, st => bnd (ev a env st) fun x s => bnd (ev b env s) fun y s' => ofO (zip2? x y) s'
  | .enum e, env, st => bnd (ev e env st) fun x s => ofO ((items? x).map (enumD 0)) s
  | .items e, env, st => bnd (ev e env st) fun x s => match snap s x with
    | .dic kvs => .ok (kvs.map fun p => .tup [p.1, p.2]) s
    | _ => .bad
  | .vals e, env, st => bnd (ev e env st) fun x s => match snap s x with
    | .dic kvs => .ok (kvs.map (·.2)) s
    | _ => .bad
  | .rev e, env, st => bnd (ev e env st) fun x s => match snap s x with
    | .lst xs => .ok xs.reverse s
    | _ => .bad
end
end
end J

namespace J
open PySem L2

def bndS {α : Type} (env : Env) (x : Res α) (f : α → Store → RS) (_t : Tk f := .mk) : RS := match x with
  | .ok a s => f a s
  | .exc e s => .exc e env s
  | .bad => .bad
/-- a for's turns -/
def forL (t : Tg) (f : Env → Store → RS) : List D → Env → Store → RS
  | [], env, st => .ok .nx env st
  | x :: r, env, st => match asgT t x env with
    | some env' => match f env' st with
      | .ok .nx e s => forL t f r e s
      | .ok .ct e s => forL t f r e s
      | .ok .brk e s => .ok .nx e s
      | .ok (.ret d) e s => .ok (.ret d) e s
      | .exc x e s => .exc x e s
      | .bad => .bad
    | none => .bad
def whl (t : Env → Store → Res Bool) (f : Env → Store → RS) : Nat → Env → Store → RS
  | 0, _, _ => .bad
  | n + 1, env, st => match t env st with
    | .ok true s => match f env s with
      | .ok .nx e s => whl t f n e s
      | .ok .ct e s => whl t f n e s
      | .ok .brk e s => .ok .nx e s
      | .ok (.ret d) e s => .ok (.ret d) e s
      | .exc x e s => .exc x e s
      | .bad => .bad
    | .ok false s => .ok .nx env s
    | .exc x s => .exc x env s
    | .bad => .bad
def putA (f : Str) (d : D) : List (Str × D) → List (Str × D)
  | [] => [(f, d)]
  | (g, x) :: r => if g = f then (g, d) :: r else (g, x) :: putA f d r
def setIdx (xs : List D) (i : Int) (d : D) : Option (List D) := (ixN xs.length i).map fun j => xs.set j d
/-- a op= b of what never changes -/
def augD : Bop → D → D → Option D
  | .add, .int i, .int j => some (.int (i + j))
  | .sub, .int i, .int j => some (.int (i - j))
  | .add, .str x, .str y => if x.length + y.length ≤ SZ then some (.str (x ++ y)) else none
  | _, _, _ => none
def thn (x : RS) (f : Env → Store → RS) (_t : Tk f := .mk) : RS := match x with
  | .ok .nx e s => f e s
  | r => r
def unM : D → MO
  | .dic kvs => .dic kvs
  | .lst xs => .lst xs
  | _ => .lst []
section
variable (G : Gx)
/-- d[k] = v of an object that may change -/
def setMO (o : MO) (k d : D) : Option MO := match o with
  | .lst xs => match k with
    | .int i => (setIdx xs i d).map .lst
    | _ => none
  | .dic kvs => if keyOk k && decide (kvs.length < SZ) then some (.dic (dput k d kvs)) else none
  | .ins _ _ => none
def appMO (o : MO) (d : D) : Option MO := match o with
  | .lst xs => if xs.length < SZ then some (.lst (xs ++ [d])) else none
  | _ => none
def setSt (env : Env) (i : Nat) (o : Option MO) (st : Store) : RS := match o with
  | some o => .ok .nx (env.set i (.own o)) st
  | none => .bad
mutual
def exec : Sm → Env → Store → RS
  | .asg t e, env, st => bndS env (ev G e env st) fun x s => match asgT t x env with
    | some env' => .ok .nx env' s
    | none => .bad
  | .asgO i e, env, st => bndS env (ev G e env st) fun x s => if i < env.length then (match x with
    | .lst xs => .ok .nx (env.set i (.own (.lst xs))) s
    | .dic kvs => .ok .nx (env.set i (.own (.dic kvs))) s
    | _ => .bad) else .bad
  | .asgM j i, env, st => match getO env i with
    | some o => if j < env.length then .ok .nx ((env.set i (.val (frz o))).set j (.val (frz o))) st else .bad
    | none => .bad
  | .par i j a b, env, st => bndS env (ev G a env st) fun x s => bndS env (ev G b env s) fun y s' => if i < env.length ∧ j < env.length then .ok .nx ((env.set i (.val x)).set j (.val y)) s' else .bad
  | .aug i o e, env, st => match env[i]? with
    | some (.val x) => bndS env (ev G e env st) fun y s => match augD o x y with
      | some z => .ok .nx (env.set i (.val z)) s
      | none => .bad
    | _ => .bad
  | .setO i k e, env, st => bndS env (ev G e env st) fun y s => bndS env (ev G k env s) fun z s' => match getO env i with
    | some o => setSt env i (setMO o z y) s'
    | none => .bad
  | .setR o k e, env, st => bndS env (ev G e env st) fun y s => bndS env (ev G o env s) fun w s' => bndS env (ev G k env s') fun z s2 => match w with
    | .ref l => match s2[l]?.bind fun o => setMO o z y with
      | some o' => .ok .nx env (s2.set l o')
      | none => .bad
    | _ => .bad
  | .delO i k, env, st => bndS env (ev G k env st) fun z s => match getO env i with
    | some (.dic kvs) => if keyOk z && (dget z kvs).isSome then .ok .nx (env.set i (.own (.dic (ddel z kvs)))) s else .bad
    | _ => .bad
  | .app i e, env, st => bndS env (ev G e env st) fun y s => match getO env i with
    | some o => setSt env i (appMO o y) s
    | none => .bad
  | .ext i e, env, st => bndS env (ev G e env st) fun y s => match getO env i, snap s y with
    | some (.lst xs), .lst ys => if xs.length + ys.length ≤ SZ then .ok .nx (env.set i (.own (.lst (xs ++ ys)))) s else .bad
    | _, _ => .bad
  | .upd i e, env, st => bndS env (ev G e env st) fun y s => match getO env i, snap s y with
    | some (.dic xs), .dic ys => if xs.length + ys.length ≤ SZ then .ok .nx (env.set i (.own (.dic (dputs xs ys)))) s else .bad
    | _, _ => .bad
  | .pop j i, env, st => match getO env i with
    | some (.lst xs) => match xs.getLast? with
      | some y => if j < env.length then .ok .nx ((env.set i (.own (.lst xs.dropLast))).set j (.val y)) st else .bad
      | none => .bad
    | _ => .bad
  | .appR o e, env, st => bndS env (ev G o env st) fun w s => bndS env (ev G e env s) fun y s' => match w with
    | .ref l => match s'[l]?.bind fun o => appMO o y with
      | some o' => .ok .nx env (s'.set l o')
      | none => .bad
    | _ => .bad
  | .setA o f e, env, st => bndS env (ev G e env st) fun y s => bndS env (ev G o env s) fun w s' => match w with
    | .ref l => match s'[l]? with
      | some (.ins c fs) => if fs.length < 100 then .ok .nx env (s'.set l (.ins c (putA f y fs))) else .bad
      | _ => .bad
    | _ => .bad
  | .augA o f p e, env, st => bndS env (ev G o env st) fun w s => match w with
    | .ref l => match s[l]? with
      | some (.ins c fs) => match fs.lookup f with
        | some x => bndS env (ev G e env s) fun y s' => match s'[l]?, binD p (snap s' x) (snap s' y) with
          | some (.ins c' fs'), some z => if fs'.length < 100 then .ok .nx env (s'.set l (.ins c' (putA f z fs'))) else .bad
          | _, _ => .bad
        | none => .bad
      | _ => .bad
    | _ => .bad
  | .expr e, env, st => bndS env (ev G e env st) fun _ s => .ok .nx env s
  | .ret e, env, st => bndS env (ev G e env st) fun x s => .ok (.ret x) env s
  | .retM i, env, st => match getO env i with
    | some o => .ok (.ret (frz o)) (env.set i (.val (frz o))) st
    | none => .bad
  | .retN, env, st => .ok (.ret .non) env st
  | .iff t a b, env, st => bndS env (tst G t env st) fun c s => if c then execs a env s else execs b env s
  | .iffS i k v c a b, env, st => bndS env (ev G k env st) fun x s => bndS env (ev G v env s) fun y s' => match getO env i with
    | some (.dic kvs) => if keyOk x && decide (kvs.length < SZ) then
        (match dget x kvs with
        | some w => bndS env (ev G c env s') fun z s2 => match cmpD .ne (snap s2 w) (snap s2 z) with
          | some true => execs a env s2
          | some false => execs b env s2
          | none => .bad
        | none => bndS (env.set i (.own (.dic (kvs ++ [(x, y)])))) (ev G c (env.set i (.own (.dic (kvs ++ [(x, y)])))) s') fun z s2 => match cmpD .ne (snap s2 y) (snap s2 z) with
          | some true => execs a (env.set i (.own (.dic (kvs ++ [(x, y)])))) s2
          | some false => execs b (env.set i (.own (.dic (kvs ++ [(x, y)])))) s2
          | none => .bad)
      else .bad
    | _ => .bad
  | .for_ t i b, env, st => bndS env (itD G i env st) fun xs s => forL t (fun e s' => execs b e s') xs env s
  | .forM t i b, env, st => match getO env i with
    | some o => match items? (frz o) with
      | some xs => forL t (fun e s' => execs b e s') xs (env.set i (.val (frz o))) st
      | none => .bad
    | none => .bad
  | .while_ t b, env, st => whl (fun e s => tst G t e s) (fun e s => execs b e s) loopMax env st
  | .brk, env, st => .ok .brk env st
  | .ct, env, st => .ok .ct env st
  | .pass, env, st => .ok .nx env st
  | .raise c none, env, st => .exc ⟨c, none⟩ env st
  | .raise c (some e), env, st => bndS env (ev G e env st) fun x s => .exc ⟨c, some x⟩ env s
  | .try_ b hs, env, st => match execs b env st with
    | .exc x e s => hands hs x e s
    | r => r
def execs : Sms → Env → Store → RS
  | .nil, env, st => .ok .nx env st
  | .cons s r, env, st => thn (exec s env st) fun e s' => execs r e s'
def hands : List (Nat × Hd) → Exn → Env → Store → RS
  | [], x, env, st => .exc x env st
  | (c, h) :: r, x, env, st => match G.isa x.cls c with
    | some true => hand h x env st
    | some false => hands r x env st
    | none => .bad
def hand : Hd → Exn → Env → Store → RS
  | .ret e, _, env, st => bndS env (ev G e env st) fun d s => .ok (.ret d) env s
  | .line, x, env, st => match x.arg with
    | some d => .ok (.ret d) env st
    | none => .bad
  | .raise c e, _, env, st => bndS env (ev G e env st) fun d s => .exc ⟨c, some d⟩ env s
end
/-- a def's call -/
def runF (f : Fn) (ds : List D) (st : Store) : Res D :=
  if ds.length = f.np then
    match execs G f.body (ds.map .val ++ List.replicate (f.nn - f.np) .un) st with
    | .ok .nx _ s => .ok .non s
    | .ok (.ret d) _ s => .ok d s
    | .exc x _ s => .exc x s
    | _ => .bad
  else .bad
end
/-- a program: its defs, its classes -/
structure Prg where
  fns : List Fn
  meths : List ((Nat × Nat) × Nat)
  inits : List (Nat × Nat)
  glos : List D
  isas : List ((Nat × Nat) × Bool)
def gx (P : Prg) (call : Nat → List D → Store → Res D) : Gx := ⟨call, fun c m => P.meths.lookup (c, m), fun c => P.inits.lookup c, fun k => P.glos[k]?, fun a b => P.isas.lookup (a, b)⟩
def callF (P : Prg) : Nat → Nat → List D → Store → Res D
  | 0, _, _, _ => .bad
  | n + 1, k, ds, st => match P.fns[k]? with
    | some f => runF (gx P (callF P n)) f ds st
    | none => .bad
end J

namespace J
open PySem PySem.Spec PyProof.Rows L2

/-! ### how a value lies in the model -/
mutual
def toKey : D → Option NestedKey
  | .non => some .none
  | .bl b => some (.num (b2z b))
  | .int i => some (.num i)
  | .str x => some (.text x)
  | .tup xs => (toKeys xs).map .tup
  | _ => none
def toKeys : List D → Option (List NestedKey)
  | [] => some []
  | x :: xs => match toKey x, toKeys xs with
    | some k, some ks => some (k :: ks)
    | _, _ => none
end
def dicO (es : Array DictEntry) (ep : Nat) : Obj := { cls := .type "dict", data := .dict es ep }
def dicH (a : Addr) (es : Array DictEntry) (ep : Nat) : HO := .ext fun h => h.get? a = some (dicO es ep)
/-- what is fixed through a law -/
structure Wd where
  P : Program
  w : World
  K : PySem.W.Frag
  cls : Nat → Addr
  mg : Str → Option Value
  base : Heap
section
variable (Y : Wd) (ρ : Nat → Addr) (n : Nat) (H : Hp)
/-- a list that nobody changes -/
def SqF (H : Hp) (a : Addr) (vs : List V) : Prop := ∃ o, H a = some (.frz o (.lst vs))
/-- .. or an object of the module -/
def SqK (K : PySem.W.Frag) (H : Hp) (a : Addr) (vs : List V) : Prop := SqF H a vs ∨ SqL K (fun _ => none) a vs
mutual
def RelD : D → V → Prop
  | .non, v => v = .non
  | .bl b, v => v = .bl b
  | .int i, v => v = .int i
  | .str x, v => v = .str x
  | .tup ds, v => ∃ a vs, v = .ref a ∧ SqT Y.K H a vs ∧ RelDs ds vs
  | .lst ds, v => ∃ a vs, v = .ref a ∧ SqF H a vs ∧ RelDs ds vs
  | .kls ds, v => ∃ a vs, v = .ref a ∧ SqK Y.K H a vs ∧ RelDs ds vs
  | .dic kvs, v => False
  | .set ds, v => False
  | .ref l, v => l < n ∧ v = .ref (ρ l)
def RelDs : List D → List V → Prop
  | [], vs => vs = []
  | d :: ds, vs => ∃ v r, vs = v :: r ∧ RelD d v ∧ RelDs ds r
def RelKs : List (D × D) → List DictEntry → Prop
  | [], es => es = []
  | (k, d) :: r, es => ∃ e t kv dv nk, es = e :: t ∧ RelV kv e.key ∧ RelD k kv ∧ RelV dv e.val ∧ RelD d dv ∧ toKey k = some nk ∧ e.hash = nk.hash Y.w ∧ RelKs r t
end
/-- the object at a -/
def RelO (a : Addr) : MO → Prop
  | .lst ds => ∃ vs, H a = some (.lst vs) ∧ RelDs Y ρ n H ds vs
  | .dic kvs => False
  | .ins c fs => ∃ dx vfs, H a = some (.ins (Y.cls c) dx vfs) ∧ (∀ f, match fs.lookup f with
      | some d => ∃ v, vfs.lookup f = some v ∧ RelD Y ρ n H d v
      | none => vfs.lookup f = none) ∧ vfs.length ≤ fs.length
end
/-- what is changed by nobody -/
def Hard : HO → Bool
  | .tup _ => true
  | .frz _ _ => true
  | _ => false
/-- the objects of the store lie apart, and may be changed -/
structure StOk (Y : Wd) (ρ : Nat → Addr) (st : Store) (H : Hp) : Prop where
  rel : ∀ l o, st[l]? = some o → RelO Y ρ st.length H (ρ l) o
  inj : ∀ l l', l < st.length → l' < st.length → ρ l = ρ l' → l = l'
/-- a def's names -/
structure EnvOk (Y : Wd) (ρ : Nat → Addr) (st : Store) (H0 H : Hp) (env : Env) (σ : L2.St) : Prop where
  len : σ.length = env.length
  val : ∀ (i : Nat) d, env[i]? = some (.val d) → ∃ v, σ[i]? = some (some v) ∧ RelD Y ρ st.length H d v
  own : ∀ (i : Nat) o, env[i]? = some (.own o) → ∃ a, σ[i]? = some (some (.ref a)) ∧ RelO Y ρ st.length H a o ∧ H0 a = none ∧ (∀ l, l < st.length → ρ l ≠ a) ∧
    ∀ (j : Nat) o', env[j]? = some (.own o') → σ[j]? = some (some (.ref a)) → j = i
/-- all but the store's objects is kept -/
def Keep (ρ : Nat → Addr) (n : Nat) (H H' : Hp) : Prop := ∀ a o, H a = some o → (∀ l, l < n → ρ l ≠ a) → H' a = some o
/-- further objects -/
def Grow (ρ : Nat → Addr) (n : Nat) (ρ' : Nat → Addr) (n' : Nat) : Prop := n ≤ n' ∧ ∀ l, l < n → ρ' l = ρ l

section
variable {Y : Wd} {ρ ρ' ρ2 : Nat → Addr} {n n' n2 : Nat} {H H' H2 : Hp} {st : Store} {a : Addr}
theorem Keep.refl : Keep ρ n H H := fun _ _ e _ => e
theorem Grow.refl : Grow ρ n ρ n := ⟨Nat.le_refl _, fun _ _ => rfl⟩
theorem Grow.trans (g : Grow ρ n ρ' n') (g' : Grow ρ' n' ρ2 n2) : Grow ρ n ρ2 n2 := ⟨Nat.le_trans g.1 g'.1, fun l h => (g'.2 l (Nat.lt_of_lt_of_le h g.1)).trans (g.2 l h)⟩
/-- what hangs on the hard things alone -/
def Hk (H H' : Hp) : Prop := ∀ a o, H a = some o → Hard o = true → H' a = some o
theorem Hk.refl : Hk H H := fun _ _ e _ => e
theorem Hk.trans (a : Hk H H') (b : Hk H' H2) : Hk H H2 := fun c o e h => b c o (a c o e h) h
theorem sqT_hk {K : PySem.W.Frag} {vs : List V} (k : Hk H H') (h : SqT K H a vs) : SqT K H' a vs := by
  rcases h with (h | ⟨o, h⟩) | h
  · exact .inl (.inl (k _ _ h rfl))
  · exact .inl (.inr ⟨o, k _ _ h rfl⟩)
  · exact .inr h
theorem sqF_hk {vs : List V} (k : Hk H H') (h : SqF H a vs) : SqF H' a vs := let ⟨o, h⟩ := h; ⟨o, k _ _ h rfl⟩
theorem sqK_hk {K : PySem.W.Frag} {vs : List V} (k : Hk H H') (h : SqK K H a vs) : SqK K H' a vs := h.elim (fun h => .inl (sqF_hk k h)) .inr
theorem sqF_sql {K : PySem.W.Frag} {vs : List V} (h : SqF H a vs) : SqL K H a vs := let ⟨o, h⟩ := h; .inl (.inr ⟨o, h⟩)
theorem sqK_sql {K : PySem.W.Frag} {vs : List V} (h : SqK K H a vs) : SqL K H a vs := by
  rcases h with ⟨o, h⟩ | h
  · exact .inl (.inr ⟨o, h⟩)
  · rcases h with (h | ⟨o, h⟩) | h
    · cases h
    · cases h
    · exact .inr h
mutual
theorem RelD.mono (g : Grow ρ n ρ' n') (k : Hk H H') : ∀ (d : D) (v : V), RelD Y ρ n H d v → RelD Y ρ' n' H' d v
  | .non, _, h => by simpa only [RelD] using h
  | .bl _, _, h => by simpa only [RelD] using h
  | .int _, _, h => by simpa only [RelD] using h
  | .str _, _, h => by simpa only [RelD] using h
  | .tup ds, v, h => by
    simp only [RelD] at h ⊢
    obtain ⟨a, vs, e, q, r⟩ := h
    exact ⟨a, vs, e, sqT_hk k q, RelDs.mono g k ds vs r⟩
  | .lst ds, v, h => by
    simp only [RelD] at h ⊢
    obtain ⟨a, vs, e, q, r⟩ := h
    exact ⟨a, vs, e, sqF_hk k q, RelDs.mono g k ds vs r⟩
  | .kls ds, v, h => by
    simp only [RelD] at h ⊢
    obtain ⟨a, vs, e, q, r⟩ := h
    exact ⟨a, vs, e, sqK_hk k q, RelDs.mono g k ds vs r⟩
  | .dic kvs, v, h => by simp only [RelD] at h
  | .set _, _, h => by simp only [RelD] at h
  | .ref l, v, h => by
    simp only [RelD] at h ⊢
    exact ⟨Nat.lt_of_lt_of_le h.1 g.1, by rw [g.2 l h.1]; exact h.2⟩
theorem RelDs.mono (g : Grow ρ n ρ' n') (k : Hk H H') : ∀ (ds : List D) (vs : List V), RelDs Y ρ n H ds vs → RelDs Y ρ' n' H' ds vs
  | [], _, h => by simpa only [RelDs] using h
  | d :: ds, vs, h => by
    simp only [RelDs] at h ⊢
    obtain ⟨v, r, e, q, z⟩ := h
    exact ⟨v, r, e, RelD.mono g k d v q, RelDs.mono g k ds r z⟩
theorem RelKs.mono (g : Grow ρ n ρ' n') (k : Hk H H') : ∀ (kvs : List (D × D)) (es : List DictEntry), RelKs Y ρ n H kvs es → RelKs Y ρ' n' H' kvs es
  | [], _, h => by simpa only [RelKs] using h
  | (x, d) :: r, es, h => by
    simp only [RelKs] at h ⊢
    obtain ⟨e, t, kv, dv, nk, e1, r1, q1, r2, q2, z1, z2, z3⟩ := h
    exact ⟨e, t, kv, dv, nk, e1, r1, RelD.mono g k x kv q1, r2, RelD.mono g k d dv q2, z1, z2, RelKs.mono g k r t z3⟩
end
theorem RelO.soft {o : MO} (h : RelO Y ρ n H a o) : ∃ u, H a = some u ∧ Hard u = false ∧ Mut (some u) := by
  cases o with
  | lst ds => obtain ⟨vs, e, _⟩ := h; exact ⟨_, e, rfl, trivial⟩
  | dic kvs => exact h.elim
  | ins c fs => obtain ⟨dx, vfs, e, _⟩ := h; exact ⟨_, e, rfl, trivial⟩
theorem RelO.mono {o : MO} (g : Grow ρ n ρ' n') (k : Hk H H') (e : H' a = H a) (h : RelO Y ρ n H a o) : RelO Y ρ' n' H' a o := by
  cases o with
  | lst ds => obtain ⟨vs, q, r⟩ := h; exact ⟨vs, e.trans q, RelDs.mono g k ds vs r⟩
  | dic kvs => exact h.elim
  | ins c fs =>
    obtain ⟨dx, vfs, q, r, z⟩ := h
    refine ⟨dx, vfs, e.trans q, fun f => ?_, z⟩
    have r := r f
    cases q : fs.lookup f with
    | none => rw [q] at r; exact r
    | some d =>
      rw [q] at r
      obtain ⟨v, e1, e2⟩ := r
      exact ⟨v, e1, RelD.mono g k d v e2⟩
/-- what is kept but for the store, is kept of the hard things -/
theorem Keep.hk (s : StOk Y ρ st H) (k : Keep ρ st.length H H') : Hk H H' := fun a o e h => by
  refine k a o e fun l hl z => ?_
  obtain ⟨o', ho'⟩ : ∃ o', st[l]? = some o' := ⟨st[l], by simp [hl]⟩
  obtain ⟨u, e1, e2, _⟩ := (s.rel l o' ho').soft
  rw [z, e] at e1
  cases e1
  rw [h] at e2
  cases e2
theorem Keep.trans (g : Grow ρ n ρ' n') (a : Keep ρ n H H') (b : Keep ρ' n' H' H2) (new : ∀ l, n ≤ l → l < n' → H (ρ' l) = none) : Keep ρ n H H2 := fun c o e h => by
  refine b c o (a c o e h) fun l hl z => ?_
  by_cases q : l < n
  · exact h l q ((g.2 l q).symm.trans z)
  · have := new l (Nat.le_of_not_lt q) hl
    rw [z, e] at this
    cases this
end
end J

namespace J
open PySem PySem.Spec PyProof.Rows L2

/-- from one state to a later one -/
structure Step (Y : Wd) (ρ : Nat → Addr) (st : Store) (H : Hp) (ρ' : Nat → Addr) (st' : Store) (H' : Hp) : Prop where
  grow : Grow ρ st.length ρ' st'.length
  keep : Keep ρ st.length H H'
  new : ∀ l, st.length ≤ l → l < st'.length → H (ρ' l) = none
  ok : StOk Y ρ' st' H'
section
variable {Y : Wd} {ρ ρ1 ρ2 : Nat → Addr} {st st1 st2 : Store} {H0 H H1 H2 : Hp} {env : Env} {σ : L2.St}
theorem Step.refl (h : StOk Y ρ st H) : Step Y ρ st H ρ st H := ⟨.refl, .refl, fun _ a b => absurd (Nat.lt_of_lt_of_le b a) (Nat.lt_irrefl _), h⟩
theorem Step.trans (a : Step Y ρ st H ρ1 st1 H1) (b : Step Y ρ1 st1 H1 ρ2 st2 H2) : Step Y ρ st H ρ2 st2 H2 := by
  refine ⟨a.grow.trans b.grow, a.keep.trans a.grow b.keep a.new, fun l h1 h2 => ?_, b.ok⟩
  by_cases q : l < st1.length
  · rw [b.grow.2 l q]; exact a.new l h1 q
  · have z := b.new l (Nat.le_of_not_lt q) h2
    cases e : H (ρ2 l) with
    | none => rfl
    | some o =>
      by_cases r : ∀ m, m < st.length → ρ m ≠ ρ2 l
      · rw [a.keep _ _ e r] at z; cases z
      · have r : ∃ m, m < st.length ∧ ρ m = ρ2 l := by
          simpa [Classical.not_forall] using r
        obtain ⟨m, hm, e'⟩ := r
        obtain ⟨o', ho'⟩ : ∃ o', st1[m]? = some o' := ⟨st1[m]'(Nat.lt_of_lt_of_le hm a.grow.1), by simp [Nat.lt_of_lt_of_le hm a.grow.1]⟩
        obtain ⟨u, e1, _⟩ := (a.ok.rel m o' ho').soft
        rw [a.grow.2 m hm, e', z] at e1
        cases e1
theorem Step.hk (s : StOk Y ρ st H) (a : Step Y ρ st H ρ1 st1 H1) : Hk H H1 := a.keep.hk s
theorem Step.rel (s : StOk Y ρ st H) (a : Step Y ρ st H ρ1 st1 H1) {d : D} {v : V} (h : RelD Y ρ st.length H d v) : RelD Y ρ1 st1.length H1 d v := RelD.mono a.grow (a.hk s) d v h
theorem Step.rels (s : StOk Y ρ st H) (a : Step Y ρ st H ρ1 st1 H1) {d : List D} {v : List V} (h : RelDs Y ρ st.length H d v) : RelDs Y ρ1 st1.length H1 d v := RelDs.mono a.grow (a.hk s) d v h
theorem StOk.soft (s : StOk Y ρ st H) {l : Nat} (h : l < st.length) : ∃ u, H (ρ l) = some u ∧ Hard u = false ∧ Mut (some u) :=
  (s.rel l st[l] (by simp [h])).soft
/-- an object of one's own, apart from the store -/
theorem Step.own (s : StOk Y ρ st H) (a : Step Y ρ st H ρ1 st1 H1) {p : Addr} {o : MO} (h : RelO Y ρ st.length H p o) (n : ∀ l, l < st.length → ρ l ≠ p) : RelO Y ρ1 st1.length H1 p o ∧ ∀ l, l < st1.length → ρ1 l ≠ p := by
  obtain ⟨u, e, _⟩ := h.soft
  refine ⟨h.mono a.grow (a.hk s) ((a.keep _ _ e n).trans e.symm), fun l hl z => ?_⟩
  by_cases q : l < st.length
  · exact n l q ((a.grow.2 l q).symm.trans z)
  · have := a.new l (Nat.le_of_not_lt q) hl
    rw [z, e] at this; cases this
theorem EnvOk.step (s : StOk Y ρ st H) (a : Step Y ρ st H ρ1 st1 H1) (h : EnvOk Y ρ st H0 H env σ) : EnvOk Y ρ1 st1 H0 H1 env σ where
  len := h.len
  val := fun i d e => let ⟨v, e1, r⟩ := h.val i d e; ⟨v, e1, a.rel s r⟩
  own := fun i o e => by
    obtain ⟨p, e1, r, e0, n, u⟩ := h.own i o e
    obtain ⟨r', n'⟩ := a.own s r n
    exact ⟨p, e1, r', e0, n', u⟩

/-- an exception as it flies -/
def ExcOk (Y : Wd) (ρ : Nat → Addr) (n : Nat) (H : Hp) (x : Exn) (c : Value) (d : Option Addr) : Prop :=
  c = .ref (Y.cls x.cls) ∧ ∀ a, x.arg = some a → ∃ dd fs v, d = some dd ∧ H dd = some (.xd fs) ∧ fs.lookup ("line" : Str) = some v ∧ RelD Y ρ n H a v

/-- what is wanted behind a computation -/
def Aft {α : Type} (Y : Wd) (W : WX) (σ : L2.St) (ρ : Nat → Addr) (st : Store) (H : Hp) (r : Res α) (Φ : (Nat → Addr) → Store → Hp → α → Prop) : Prop :=
  match r with
  | .ok a st' => ∀ ρ' H', Step Y ρ st H ρ' st' H' → Φ ρ' st' H' a
  | .exc x st' => ∀ ρ' H' c d, Step Y ρ st H ρ' st' H' → ExcOk Y ρ' st'.length H' x c d → W c d σ H'
  | .bad => False
variable {α β : Type} {W : WX} {Φ Ψ : (Nat → Addr) → Store → Hp → α → Prop} {Θ : (Nat → Addr) → Store → Hp → β → Prop}
theorem Aft.later {r : Res α} (a : Step Y ρ st H ρ1 st1 H1) (h : Aft Y W σ ρ st H r Φ) : Aft Y W σ ρ1 st1 H1 r Φ := by
  cases r with
  | ok x s => exact fun ρ' H' b => h ρ' H' (a.trans b)
  | exc x s => exact fun ρ' H' c d b e => h ρ' H' c d (a.trans b) e
  | bad => exact h
theorem Aft.bnd {r : Res α} {f : α → Store → Res β} (h : Aft Y W σ ρ st H (bnd r f) Θ) : Aft Y W σ ρ st H r fun ρ1 s1 H1 a => Step Y ρ st H ρ1 s1 H1 → Aft Y W σ ρ1 s1 H1 (f a s1) Θ := by
  cases r with
  | ok x s => exact fun ρ' H' b c => h.later c
  | exc x s => exact h
  | bad => exact h
theorem Aft.imp {r : Res α} (h : Aft Y W σ ρ st H r Φ) (k : ∀ ρ1 s1 H1 a, Step Y ρ st H ρ1 s1 H1 → Φ ρ1 s1 H1 a → Ψ ρ1 s1 H1 a) : Aft Y W σ ρ st H r Ψ := by
  cases r with
  | ok x s => exact fun ρ' H' b => k _ _ _ _ b (h ρ' H' b)
  | exc x s => exact h
  | bad => exact h
theorem Aft.ofO {o : Option α} (s : StOk Y ρ st H) (h : Aft Y W σ ρ st H (ofO o st) Φ) : ∃ a, o = some a ∧ ∀ ρ' H', Step Y ρ st H ρ' st H' → Φ ρ' st H' a := by
  cases o with
  | none => exact h.elim
  | some a => exact ⟨a, rfl, h⟩
end

/-- an operand: a value, or an object of a name's own that is only read -/
def RelB (Y : Wd) (ρ : Nat → Addr) (n : Nat) (H : Hp) (d : D) (v : V) : Prop :=
  RelD Y ρ n H d v ∨ ∃ o a, d = frz o ∧ (∀ c fs, o ≠ .ins c fs) ∧ v = .ref a ∧ RelO Y ρ n H a o ∧ ∀ l, l < n → ρ l ≠ a
/-- what it is just now -/
def RelS (Y : Wd) (ρ : Nat → Addr) (n : Nat) (H : Hp) : D → V → Prop
  | .lst ds, v => ∃ a vs, v = .ref a ∧ Rd H a (.lst vs) ∧ RelDs Y ρ n H ds vs
  | .dic kvs, v => False
  | d, v => RelD Y ρ n H d v
section
variable {Y : Wd} {ρ ρ1 : Nat → Addr} {st st1 : Store} {H H1 : Hp} {n : Nat}
theorem relS_of {d : D} {v : V} (h : RelD Y ρ n H d v) : RelS Y ρ n H d v := by
  cases d with
  | lst ds =>
    simp only [RelD] at h
    obtain ⟨a, vs, e, q, r⟩ := h
    obtain ⟨o, q⟩ := q
    exact ⟨a, vs, e, .inr ⟨o, q⟩, r⟩
  | dic kvs => simp only [RelD] at h
  | _ => exact h
theorem relS_obj {o : MO} {a : Addr} (hi : ∀ c fs, o ≠ .ins c fs) (h : RelO Y ρ n H a o) : RelS Y ρ n H (frz o) (.ref a) := by
  cases o with
  | lst ds => obtain ⟨vs, e, r⟩ := h; exact ⟨a, vs, rfl, .inl e, r⟩
  | dic kvs => exact h.elim
  | ins c fs => exact absurd rfl (hi c fs)
theorem snap_frz {o : MO} (hi : ∀ c fs, o ≠ .ins c fs) : snap st (frz o) = frz o := by
  cases o with
  | ins c fs => exact absurd rfl (hi c fs)
  | _ => rfl
theorem RelB.snap (s : StOk Y ρ st H) {d : D} {v : V} (h : RelB Y ρ st.length H d v) : RelS Y ρ st.length H (snap st d) v := by
  rcases h with h | ⟨o, a, rfl, hi, rfl, r, _⟩
  · cases d with
    | ref l =>
      simp only [RelD] at h
      obtain ⟨hl, rfl⟩ := h
      have e : st[l]? = some st[l] := by simp [hl]
      have r := s.rel l _ e
      simp only [J.snap, e]
      cases q : st[l] with
      | lst xs => rw [q] at r; exact relS_obj (o := .lst xs) (fun _ _ z => nomatch z) r
      | dic xs => rw [q] at r; exact relS_obj (o := .dic xs) (fun _ _ z => nomatch z) r
      | ins c fs => exact (show RelD Y ρ st.length H (.ref l) _ from by simp only [RelD]; exact ⟨hl, trivial⟩)
    | _ => exact relS_of h
  · rw [snap_frz hi]
    exact relS_obj hi r
theorem RelB.step (s : StOk Y ρ st H) (a : Step Y ρ st H ρ1 st1 H1) {d : D} {v : V} (h : RelB Y ρ st.length H d v) : RelB Y ρ1 st1.length H1 d v := by
  rcases h with h | ⟨o, p, e, hi, e2, r, n⟩
  · exact .inl (a.rel s h)
  · obtain ⟨r', n'⟩ := a.own s r n
    exact .inr ⟨o, p, e, hi, e2, r', n'⟩
end

/-! ### the readings -/
/-- an expression gives a value -/
def EvT (Y : Wd) (W : WX) (H0 : Hp) (r : Env → Store → Res D) : TE := fun σ H Q => ∃ ρ st env, StOk Y ρ st H ∧ EnvOk Y ρ st H0 H env σ ∧
  Aft Y W σ ρ st H (r env st) fun ρ' st' H' d => ∀ v, RelD Y ρ' st'.length H' d v → Q v H'
/-- .. an operand -/
def EvB (Y : Wd) (W : WX) (H0 : Hp) (r : Env → Store → Res D) : TE := fun σ H Q => ∃ ρ st env, StOk Y ρ st H ∧ EnvOk Y ρ st H0 H env σ ∧
  Aft Y W σ ρ st H (r env st) fun ρ' st' H' d => ∀ v, RelB Y ρ' st'.length H' d v → Q v H'
/-- a test -/
def EvP (Y : Wd) (W : WX) (H0 : Hp) (r : Env → Store → Res Bool) : TT := fun σ H Q => ∃ ρ st env, StOk Y ρ st H ∧ EnvOk Y ρ st H0 H env σ ∧
  Aft Y W σ ρ st H (r env st) fun ρ' st' H' b => Q b H'
/-- arguments -/
def EvA (Y : Wd) (W : WX) (H0 : Hp) (r : Env → Store → Res (List D)) : TA := fun σ H Q => ∃ ρ st env, StOk Y ρ st H ∧ EnvOk Y ρ st H0 H env σ ∧
  Aft Y W σ ρ st H (r env st) fun ρ' st' H' ds => ∀ vs, RelDs Y ρ' st'.length H' ds vs → Q vs H'
section
variable {X : Cx} {e : Expr} {es : List Expr}
theorem pe_imp {t t' : TE} (h : PE X e t) (k : ∀ σ H Q, t' σ H Q → t σ H Q) : PE X e t' := ⟨fun pins s σ H Q I q => h.run pins s σ H Q I (k _ _ _ q)⟩
theorem pt_imp {t t' : TT} (h : PT X e t) (k : ∀ σ H Q, t' σ H Q → t σ H Q) : PT X e t' := ⟨fun pins s σ H Q I q => h.run pins s σ H Q I (k _ _ _ q)⟩
theorem pw_imp {t t' : TT} (h : PW X e t) (k : ∀ σ H Q, t' σ H Q → t σ H Q) : PW X e t' := ⟨fun wh pins s σ H Q I q => h.run wh pins s σ H Q I (k _ _ _ q)⟩
theorem pa_imp {t t' : TA} (h : PA X es t) (k : ∀ σ H Q, t' σ H Q → t σ H Q) : PA X es t' := ⟨fun pos pins s σ H Q I q => h.run pos pins s σ H Q I (k _ _ _ q)⟩
/-- a value is an operand -/
theorem pe_evB {Y : Wd} {W : WX} {H0 : Hp} {r : Env → Store → Res D} (h : PE X e (EvT Y W H0 r)) : PE X e (EvB Y W H0 r) := pe_imp h fun σ H Q ⟨ρ, st, env, s, en, a⟩ =>
  ⟨ρ, st, env, s, en, a.imp fun _ _ _ _ _ k v hv => k v (.inl hv)⟩
end
end J

namespace J
open PySem PySem.Spec PyProof.Rows L2

/-! ### an object that nobody will change any more -/
def Soft : HO → Prop
  | .lst _ => True
  | .ext _ => True
  | _ => False
section
variable {X : Cx} {pins : List (Addr × Obj)} {σ : L2.St} {H : Hp} {s : Shared} {a : Addr} {u : HO} {o : Obj}
theorem Inv.freeze (I : Inv X pins σ H s) (e : H a = some u) (hu : Soft u) (ho : s.heap.get? a = some o) : Inv X pins σ (upd H a (.frz o u)) s := by
  have ne : ∀ b, H b = none → b ≠ a := fun b h z => by rw [z, e] at h; cases h
  have neT : ∀ b xs, H b = some (.tup xs) → b ≠ a := fun b xs h z => by rw [z, e] at h; cases h; exact hu
  have neF : ∀ b o' xs, H b = some (.frz o' xs) → b ≠ a := fun b o' xs h z => by rw [z, e] at h; cases h; exact hu
  have neB : ∀ b ps, H b = some (.tbl ps) → b ≠ a := fun b ps h z => by rw [z, e] at h; cases h; exact hu
  have neO : ∀ b y, H b = some (.own y) → b ≠ a := fun b y h z => by rw [z, e] at h; cases h; exact hu
  refine ⟨I.ok, I.os, I.bare, ⟨I.base.keep, I.base.slot, fun b ob h n hx => ?_, I.base.there, fun b xs h => ?_, fun b o' xs h => ?_, fun b ps h => ?_⟩, I.loc, I.cell, ?_, fun x c h => ?_, fun p hp => ?_, fun b ob h => ?_, I.len⟩
  · have z := I.base.free b ob h n hx
    rw [upd_ne (ne b z)]; exact z
  · have z := I.base.tups b xs h
    rw [upd_ne (neT b xs z)]; exact z
  · have z := I.base.frzs b o' xs h
    rw [upd_ne (neF b o' xs z)]; exact z
  · obtain ⟨m, z⟩ := I.base.tbls b ps h
    exact ⟨m, by rw [upd_ne (neB b _ z)]; exact z⟩
  · rw [upd_ne (ne _ I.free)]; exact I.free
  · rw [upd_ne (ne _ (I.freeC x c h))]; exact I.freeC x c h
  · obtain ⟨q1, q2, q3⟩ := I.pin p hp
    exact ⟨q1, by rw [upd_ne (ne _ q2)]; exact q2, q3⟩
  · have go : ∀ b ob, ObjOk X.prog X.w H s.heap b ob → ObjOk X.prog X.w (upd H a (.frz o u)) s.heap b ob := fun b ob x =>
      x.stay (fun _ _ _ q => q) (fun c q => by rw [upd_ne (neO c b q)]; exact q) fun c xs q => by rw [upd_ne (neT c xs q)]; exact q
    by_cases hb : b = a
    · subst hb
      rw [upd_same] at h
      cases h
      exact ⟨ho, go b u (I.hok b u e)⟩
    · rw [upd_ne hb] at h
      exact go b ob (I.hok b ob h)
/-- what a rule gives, frozen -/
theorem ep_freeze {Q Q0 : VK} {v : Value} (h : EP X pins σ Q0 v s) (k : ∀ x H', Q0 x H' → ∃ a u, H' a = some u ∧ Soft u ∧ ∀ o, Q x (upd H' a (.frz o u))) : EP X pins σ Q v s := by
  obtain ⟨x, H', I, r, q⟩ := h
  obtain ⟨a, u, e, hu, q⟩ := k x H' q
  obtain ⟨o, ho⟩ := objOk_get (I.hok a u e)
  exact ⟨x, _, Inv.freeze I e hu ho, r, q o⟩
end

section
variable {Y : Wd} {ρ : Nat → Addr} {st : Store} {H : Hp} {p : Addr} {u : HO}
theorem keep_fresh {n : Nat} (hp : H p = none) : Keep ρ n H (upd H p u) := fun a o e _ => by rw [upd_ne (ne_of_none e hp)]; exact e
theorem hk_fresh (hp : H p = none) : Hk H (upd H p u) := fun a o e _ => by rw [upd_ne (ne_of_none e hp)]; exact e
theorem step_fresh (s : StOk Y ρ st H) (hp : H p = none) : Step Y ρ st H ρ st (upd H p u) where
  grow := .refl
  keep := keep_fresh hp
  new := fun _ a b => absurd (Nat.lt_of_lt_of_le b a) (Nat.lt_irrefl _)
  ok := by
    refine ⟨fun l o e => ?_, s.inj⟩
    have r := s.rel l o e
    obtain ⟨w, q, _⟩ := r.soft
    exact r.mono .refl (hk_fresh hp) (upd_ne (ne_of_none q hp))
theorem rel_tup {ds : List D} {vs : List V} {n : Nat} (hp : H p = none) (r : RelDs Y ρ n H ds vs) : RelD Y ρ n (upd H p (.tup vs)) (.tup ds) (.ref p) := by
  simp only [RelD]
  exact ⟨p, vs, rfl, .inl (.inl upd_same), RelDs.mono .refl (hk_fresh hp) ds vs r⟩
theorem rel_lst {ds : List D} {vs : List V} {n : Nat} {o : Obj} (hp : H p = none) (r : RelDs Y ρ n H ds vs) : RelD Y ρ n (upd H p (.frz o (.lst vs))) (.lst ds) (.ref p) := by
  simp only [RelD]
  exact ⟨p, vs, rfl, ⟨o, upd_same⟩, RelDs.mono .refl (hk_fresh hp) ds vs r⟩
theorem RelDs.length {Y : Wd} {ρ : Nat → Addr} {n : Nat} {H : Hp} : ∀ {ds : List D} {vs : List V}, RelDs Y ρ n H ds vs → vs.length = ds.length
  | [], vs, h => by simp only [RelDs] at h; subst h; rfl
  | d :: ds, vs, h => by
    simp only [RelDs] at h
    obtain ⟨v, r, rfl, _, z⟩ := h
    simp [RelDs.length z]
theorem RelDs.append {Y : Wd} {ρ : Nat → Addr} {n : Nat} {H : Hp} : ∀ {ds es : List D} {vs us : List V}, RelDs Y ρ n H ds vs → RelDs Y ρ n H es us → RelDs Y ρ n H (ds ++ es) (vs ++ us)
  | [], _, _, _, h, k => by simp only [RelDs] at h; subst h; exact k
  | d :: ds, _, _, _, h, k => by
    simp only [RelDs] at h
    obtain ⟨v, r, rfl, q, z⟩ := h
    simp only [List.cons_append, RelDs]
    exact ⟨v, _, rfl, q, RelDs.append z k⟩
theorem RelDs.get {Y : Wd} {ρ : Nat → Addr} {n : Nat} {H : Hp} : ∀ {ds : List D} {vs : List V} {i : Nat} {d : D}, RelDs Y ρ n H ds vs → ds[i]? = some d → ∃ v, vs[i]? = some v ∧ RelD Y ρ n H d v
  | [], _, _, _, _, e => by simp at e
  | x :: ds, vs, i, d, h, e => by
    simp only [RelDs] at h
    obtain ⟨v, r, rfl, q, z⟩ := h
    cases i with
    | zero => simp at e; subst e; exact ⟨v, rfl, q⟩
    | succ i =>
      obtain ⟨w, e1, e2⟩ := RelDs.get (i := i) z (by simpa using e)
      exact ⟨w, by simpa using e1, e2⟩
theorem RelDs.drop {Y : Wd} {ρ : Nat → Addr} {n : Nat} {H : Hp} : ∀ {ds : List D} {vs : List V} (k : Nat), RelDs Y ρ n H ds vs → RelDs Y ρ n H (ds.drop k) (vs.drop k)
  | _, _, 0, h => h
  | [], vs, k + 1, h => by simp only [RelDs] at h; subst h; simp [RelDs]
  | d :: ds, vs, k + 1, h => by
    simp only [RelDs] at h
    obtain ⟨v, r, rfl, _, z⟩ := h
    exact RelDs.drop k z
theorem RelDs.take {Y : Wd} {ρ : Nat → Addr} {n : Nat} {H : Hp} : ∀ {ds : List D} {vs : List V} (k : Nat), RelDs Y ρ n H ds vs → RelDs Y ρ n H (ds.take k) (vs.take k)
  | _, _, 0, h => by simp [RelDs]
  | [], vs, k + 1, h => by simp only [RelDs] at h; subst h; simp [RelDs]
  | d :: ds, vs, k + 1, h => by
    simp only [RelDs] at h
    obtain ⟨v, r, rfl, q, z⟩ := h
    simp only [List.take_succ_cons, RelDs]
    exact ⟨v, _, rfl, q, RelDs.take k z⟩
theorem RelDs.rep {Y : Wd} {ρ : Nat → Addr} {n : Nat} {H : Hp} {ds : List D} {vs : List V} (h : RelDs Y ρ n H ds vs) : ∀ k : Nat, RelDs Y ρ n H (List.replicate k ds).flatten (List.replicate k vs).flatten
  | 0 => by simp [RelDs]
  | k + 1 => by
    simp only [List.replicate_succ, List.flatten_cons]
    exact RelDs.append h (RelDs.rep h k)
theorem RelDs.nil_iff {Y : Wd} {ρ : Nat → Addr} {n : Nat} {H : Hp} {ds : List D} {vs : List V} (h : RelDs Y ρ n H ds vs) : vs = [] ↔ ds = [] := by
  have := RelDs.length h
  cases ds <;> cases vs <;> simp_all
end

/-! ### operators -/
def bopOf : Bop → Operator
  | .add => .Add | .sub => .Sub | .mul => .Mult | .fdiv => .FloorDiv | .mod => .Mod | .pow => .Pow
/-- a result: whatever stood stands, and it is related -/
def Fin1 (Y : Wd) (ρ : Nat → Addr) (st : Store) (H : Hp) (r : D) (Q : VK) : Prop := ∀ H' v, Step Y ρ st H ρ st H' → RelD Y ρ st.length H' r v → Q v H'
def rBin (Y : Wd) (op : Bop) : R2 := fun x y H Q => ∃ ρ st d e r, StOk Y ρ st H ∧ RelS Y ρ st.length H d x ∧ RelS Y ρ st.length H e y ∧ binD op d e = some r ∧ Fin1 Y ρ st H r Q
theorem SZ_eq : SZ = 16777216 := rfl
theorem sz_eq : sizeLine = SZ := sizeLine_eq
theorem fin_now {Y : Wd} {ρ : Nat → Addr} {st : Store} {H : Hp} {r : D} {Q : VK} (s : StOk Y ρ st H) (f : Fin1 Y ρ st H r Q) {v : V} (h : RelD Y ρ st.length H r v) : Q v H := f H v (.refl s) h
/-- add of two lists that are read -/
theorem inv_lst {X : Cx} {pins : List (Addr × Obj)} {σ : L2.St} {H : Hp} {s : Shared} (I : Inv X pins σ H s) {a : Addr} {vs : List V} (h : Rd H a (.lst vs)) :
    vs.length ≤ sizeLine ∧ ∃ (its : List Value) (n : Nat), Vals vs its ∧ vs.length = its.length ∧ s.heap.get? a = some { cls := .type "list", data := .seq its.toArray n } := by
  obtain ⟨z, its, n, r, e⟩ := h.ok I.hok
  exact ⟨z, its, n, r, r.length, e⟩
end J

namespace J
open PySem PySem.Spec PyProof.Rows L2
section
variable {X : Cx} {Y : Wd}
theorem relS_int {ρ : Nat → Addr} {n : Nat} {H : Hp} {i : Int} {v : V} (h : RelS Y ρ n H (.int i) v) : v = .int i := by simpa only [RelS, RelD] using h
theorem relS_str {ρ : Nat → Addr} {n : Nat} {H : Hp} {i : Str} {v : V} (h : RelS Y ρ n H (.str i) v) : v = .str i := by simpa only [RelS, RelD] using h
theorem relS_bl {ρ : Nat → Addr} {n : Nat} {H : Hp} {i : Bool} {v : V} (h : RelS Y ρ n H (.bl i) v) : v = .bl i := by simpa only [RelS, RelD] using h
theorem relS_tup {ρ : Nat → Addr} {n : Nat} {H : Hp} {ds : List D} {v : V} (h : RelS Y ρ n H (.tup ds) v) : ∃ a vs, v = .ref a ∧ SqT Y.K H a vs ∧ RelDs Y ρ n H ds vs := by simpa only [RelS, RelD] using h
theorem rel_int {ρ : Nat → Addr} {n : Nat} {H : Hp} {i : Int} : RelD Y ρ n H (.int i) (.int i) := by simp only [RelD]
theorem rel_str {ρ : Nat → Addr} {n : Nat} {H : Hp} {i : Str} : RelD Y ρ n H (.str i) (.str i) := by simp only [RelD]
theorem rel_bl {ρ : Nat → Addr} {n : Nat} {H : Hp} {i : Bool} : RelD Y ρ n H (.bl i) (.bl i) := by simp only [RelD]
theorem rel_non {ρ : Nat → Addr} {n : Nat} {H : Hp} : RelD Y ρ n H .non .non := by simp only [RelD]
theorem rel_tupAt {ρ : Nat → Addr} {n : Nat} {H : Hp} {ds : List D} {a : Addr} {vs : List V} (h : SqT Y.K H a vs) (r : RelDs Y ρ n H ds vs) : RelD Y ρ n H (.tup ds) (.ref a) := by
  simp only [RelD]; exact ⟨a, vs, rfl, h, r⟩

/-- a list that is made anew, then frozen -/
theorem ep_newList {pins : List (Addr × Obj)} {σ : L2.St} {H : Hp} {s : Shared} {ρ : Nat → Addr} {st : Store} {ds : List D} {vs : List V} {Q : VK} {v : Value} (so : StOk Y ρ st H) (r : RelDs Y ρ st.length H ds vs)
    (q : Fin1 Y ρ st H (.lst ds) Q) (h : EP X pins σ (fun x H' => ∃ p, H p = none ∧ x = .ref p ∧ H' = upd H p (.lst vs)) v s) : EP X pins σ Q v s := by
  refine ep_freeze h fun x H' ⟨p, hp, e1, e2⟩ => ?_
  subst e1 e2
  exact ⟨p, _, upd_same, trivial, fun o => by rw [upd_upd]; exact q _ _ (step_fresh so hp) (rel_lst hp r)⟩
theorem foldl_repN (xs : List Nat) : ∀ (m : Nat) (acc : List Nat), (List.replicate m xs.toArray).foldl (· ++ ·) acc.toArray = (acc ++ (List.replicate m xs).flatten).toArray
  | 0, acc => by simp
  | m + 1, acc => by
    simp only [List.replicate_succ, List.foldl_cons, List.flatten_cons]
    rw [show acc.toArray ++ xs.toArray = (acc ++ xs).toArray by simp, foldl_repN xs m (acc ++ xs), List.append_assoc]
theorem op_bin (hK : X.K = Y.K) (op : Bop) : OpR X (binaryOp (bopOf op)) (rBin Y op) := by
  intro pins s σ H x y v u Q I rx ry h
  obtain ⟨ρ, st, d, e, r, so, hd, he, hb, q⟩ := h
  have szl : sizeLine = 16777216 := sizeLine_eq
  have szq := SZ_eq
  cases op with
  | add =>
    cases d with
    | int i =>
      cases e with
      | int j =>
        cases hb
        exact op_add pins s σ H x y v u Q I rx ry ⟨i, j, relS_int hd, relS_int he, fin_now so q rel_int⟩
      | _ => cases hb
    | str i =>
      cases e with
      | str j =>
        simp only [binD] at hb
        split at hb
        · rename_i hz
          cases hb
          exact op_add_str pins s σ H x y v u Q I rx ry ⟨i, j, relS_str hd, relS_str he, by rw [szl]; exact hz, fin_now so q rel_str⟩
        · cases hb
      | _ => cases hb
    | tup ds =>
      cases e with
      | tup es =>
        simp only [binD] at hb
        split at hb
        · rename_i hz
          cases hb
          obtain ⟨a, vs, e1, hs, r1⟩ := relS_tup hd
          obtain ⟨b, us, e2, ht, r2⟩ := relS_tup he
          have l1 := RelDs.length r1
          have l2 := RelDs.length r2
          refine op_catA pins s σ H x y v u Q I rx ry ⟨a, b, vs, us, e1, e2, by rw [hK]; exact hs, by rw [hK]; exact ht, by rw [szl, l1, l2]; exact hz, fun z => ?_, fun z1 z2 => ?_, fun z1 z2 p hp => ?_⟩
          · have : ds = [] := (RelDs.nil_iff r1).mp z
            subst this
            exact fin_now so q (rel_tupAt ht r2)
          · have : es = [] := (RelDs.nil_iff r2).mp z2
            subst this
            rw [List.append_nil] at q
            exact fin_now so q (rel_tupAt hs r1)
          · exact q _ _ (step_fresh so hp) (rel_tup hp (RelDs.append r1 r2))
        · cases hb
      | _ => cases hb
    | lst ds =>
      cases e with
      | lst es =>
        simp only [binD] at hb
        split at hb
        · rename_i hz
          cases hb
          obtain ⟨a, vs, rfl, hs, r1⟩ := hd
          obtain ⟨b, us, rfl, ht, r2⟩ := he
          cases rx
          cases ry
          obtain ⟨z1, its, n, w1, l1, g1⟩ := inv_lst I hs
          obtain ⟨z2, its2, n2, w2, l2, g2⟩ := inv_lst I ht
          have k1 := RelDs.length r1
          have k2 := RelDs.length r2
          refine PySem.P.add_list g1 g2 ?_ (by rw [List.size_toArray, List.size_toArray, szl]; omega)
          have ea : its.toArray ++ its2.toArray = (its ++ its2).toArray := by simp
          rw [ea]
          refine ep_newList so (RelDs.append r1 r2) q ⟨.ref _, _, I.lnew (t' := s.toks) (w1.append w2) (by rw [List.length_append, szl]; omega), rfl, _, I.fresh, rfl, rfl⟩
        · cases hb
      | _ => cases hb
    | _ => cases hb
  | sub =>
    cases d with
    | int i =>
      cases e with
      | int j =>
        cases hb
        exact op_sub pins s σ H x y v u Q I rx ry ⟨i, j, relS_int hd, relS_int he, fin_now so q rel_int⟩
      | _ => cases hb
    | _ => cases hb
  | mul =>
    cases d with
    | int i =>
      cases e with
      | int j =>
        simp only [binD] at hb
        split at hb
        · rename_i hz
          cases hb
          exact op_mul pins s σ H x y v u Q I rx ry ⟨i, j, relS_int hd, relS_int he, hz, fin_now so q rel_int⟩
        · cases hb
      | _ => cases hb
    | tup ds =>
      cases e with
      | int k =>
        simp only [binD] at hb
        split at hb
        · rename_i hz
          cases hb
          obtain ⟨a, vs, e1, hs, r1⟩ := relS_tup hd
          have l1 := RelDs.length r1
          refine op_repT pins s σ H x y v u Q I rx ry ⟨a, k, vs, e1, relS_int he, by rw [hK]; exact hs, fun z => ?_, hz.1, hz.2.1, by rw [l1]; exact hz.2.2.1, fun p hp => ?_⟩
          · have := (RelDs.nil_iff r1).mp z
            subst this
            simp at hz
          · exact q _ _ (step_fresh so hp) (rel_tup hp (RelDs.rep r1 k.toNat))
        · cases hb
      | _ => cases hb
    | str z =>
      cases e with
      | int k =>
        simp only [binD] at hb
        split at hb
        · rename_i hz
          cases hb
          have ex := relS_str hd
          have ey := relS_int he
          subst ex ey
          obtain ⟨t, rfl⟩ := rx
          obtain ⟨t', rfl⟩ := ry
          obtain ⟨k0, k1, k2⟩ := hz
          refine PySem.P.mul_str (by rw [decide_eq_false (by omega), decide_eq_false (by omega)]; rfl) (fun h1 _ => ?_) (fun _ _ => ?_) ?_
          · have h3 : (z.length : Int) ≤ 16777216 := by
              have h4 : z.length * 1 ≤ z.length * k.toNat := Nat.mul_le_mul_left _ (by omega)
              omega
            have h5 : (16777216 : Int) ≤ (2 ^ 63 - 1) / k := by
              rw [Int.le_ediv_iff_mul_le (by omega)]
              omega
            omega
          · show decide _ = false
            refine decide_eq_false ?_
            rw [szl]; omega
          · have er : ∀ x : Str, (List.replicate k.toNat x.cps).foldl (· ++ ·) #[] = ((List.replicate k.toNat x.cps.toList).flatten).toArray := fun x => by
              have e := foldl_repN x.cps.toList k.toNat []
              simpa using e
            by_cases c : k < 1
            · rw [if_pos c]
              have k3 : k = 0 := by omega
              subst k3
              exact ⟨by decide, ⟨.str _, H, I.tok _, ⟨_, rfl⟩, fin_now so q rel_str⟩⟩
            · rw [if_neg c]
              by_cases c2 : (k == 1 || z.length == 0) = true
              · rw [if_pos c2]
                have e : repS z k.toNat = z := by
                  unfold repS
                  rcases Bool.or_eq_true_iff.mp c2 with c3 | c3
                  · have k3 : k = 1 := by simpa using c3
                    subst k3
                    simp
                  · have z0 : z.cps = #[] := by
                      have : z.length = 0 := by simpa using c3
                      exact Array.eq_empty_of_size_eq_zero this
                    cases z with
                    | mk cps => simp only at z0; subst z0; simp
                rw [e] at q
                exact ⟨.str z, H, I, ⟨_, rfl⟩, fin_now so q rel_str⟩
              · rw [if_neg c2]
                rw [er]
                refine ⟨?_, ⟨.str _, H, I.tok _, ⟨_, rfl⟩, fin_now so q rel_str⟩⟩
                show (List.toArray _).size ≤ sizeLine
                rw [List.size_toArray, PyProof.Rows.lm_len_rep_flat, szl, Array.length_toList, Nat.mul_comm]
                exact k2
        · cases hb
      | _ => cases hb
    | _ => cases hb
  | fdiv =>
    cases d with
    | int i =>
      cases e with
      | int j =>
        simp only [binD] at hb
        split at hb
        · rename_i hz
          cases hb
          exact op_fdivN pins s σ H x y v u Q I rx ry ⟨i, j, relS_int hd, relS_int he, hz, fin_now so q rel_int⟩
        · cases hb
      | _ => cases hb
    | _ => cases hb
  | mod =>
    cases d with
    | int i =>
      cases e with
      | int j =>
        simp only [binD] at hb
        split at hb
        · rename_i hz
          cases hb
          exact op_modN pins s σ H x y v u Q I rx ry ⟨i, j, relS_int hd, relS_int he, hz, fin_now so q rel_int⟩
        · cases hb
      | _ => cases hb
    | _ => cases hb
  | pow =>
    cases d with
    | int i =>
      cases e with
      | int j =>
        simp only [binD] at hb
        split at hb
        · rename_i hz
          cases hb
          exact op_pow pins s σ H x y v u Q I rx ry ⟨i, j, relS_int hd, relS_int he, hz, fin_now so q rel_int⟩
        · cases hb
      | _ => cases hb
    | _ => cases hb
end
end J

/-! JCmp: data as the library's data; ==, <, .. -/
namespace J
open PySem PySem.Spec PyProof.Rows L2

mutual
def toP : D → PyData
  | .non => .none
  | .bl b => .bool b
  | .int i => .int i
  | .str x => .str x
  | .tup xs => .tuple (toPs xs)
  | .lst xs => .list (toPs xs)
  | _ => .none
def toPs : List D → List PyData
  | [] => []
  | x :: xs => toP x :: toPs xs
end
theorem toPs_map : ∀ xs : List D, toPs xs = xs.map toP
  | [] => rfl
  | x :: xs => by simp only [toPs, List.map_cons, toPs_map xs]
theorem deeps_cons {d : D} {ds : List D} {k : Nat} (h : deeps (d :: ds) = some k) : ∃ a b, deep d = some a ∧ deeps ds = some b ∧ k = max a b := by
  simp only [deeps] at h
  split at h
  · rename_i a b h1 h2
    cases h
    exact ⟨a, b, h1, h2, rfl⟩
  · cases h
mutual
theorem toP_plain : ∀ (d : D) {k : Nat}, deep d = some k → (toP d).plain = true ∧ (toP d).depth ≤ k
  | .non, k, h => ⟨rfl, Nat.zero_le _⟩
  | .bl b, k, h => ⟨rfl, Nat.zero_le _⟩
  | .int i, k, h => ⟨rfl, Nat.zero_le _⟩
  | .str x, k, h => ⟨rfl, Nat.zero_le _⟩
  | .tup xs, k, h => by
    simp only [deep, Option.map_eq_some_iff] at h
    obtain ⟨m, h, rfl⟩ := h
    obtain ⟨h1, h2⟩ := toPs_plain xs h
    exact ⟨by simpa only [toP, PyData.plain] using h1, by simp only [toP, PyData.depth]; omega⟩
  | .lst xs, k, h => by
    simp only [deep, Option.map_eq_some_iff] at h
    obtain ⟨m, h, rfl⟩ := h
    obtain ⟨h1, h2⟩ := toPs_plain xs h
    exact ⟨by simpa only [toP, PyData.plain] using h1, by simp only [toP, PyData.depth]; omega⟩
  | .dic _, _, h => by simp [deep] at h
  | .set _, _, h => by simp [deep] at h
  | .ref _, _, h => by simp [deep] at h
  | .kls _, _, h => by simp [deep] at h
theorem toPs_plain : ∀ (ds : List D) {k : Nat}, deeps ds = some k → PyData.plainAll (toPs ds) = true ∧ PyData.depthAll (toPs ds) ≤ k
  | [], k, h => ⟨rfl, Nat.zero_le _⟩
  | d :: ds, k, h => by
    obtain ⟨a, b, h1, h2, rfl⟩ := deeps_cons h
    obtain ⟨p1, q1⟩ := toP_plain d h1
    obtain ⟨p2, q2⟩ := toPs_plain ds h2
    refine ⟨by simp only [toPs, PyData.plainAll, p1, p2, Bool.and_self], ?_⟩
    simp only [toPs, PyData.depthAll]
    omega
end
theorem b2z_if (b : Bool) : b2z b = if b then 1 else 0 := rfl
theorem str_beq (x y : Str) : (x == y) = decide (x = y) := by
  by_cases h : x = y
  · subst h; simp
  · simp [h]
mutual
theorem eqv_toP : ∀ (d e : D) {k m : Nat}, deep d = some k → deep e = some m → PyData.eqv (toP d) (toP e) = eqD d e
  | d, e, k, m, h, h' => by
    cases d <;> cases e <;> first
      | (simp [deep] at h; done) | (simp [deep] at h'; done)
      | rfl
      | (simp only [toP, PyData.eqv, eqD, str_beq]; done)
      | (simp only [deep, Option.map_eq_some_iff] at h h'
         obtain ⟨a, h, _⟩ := h
         obtain ⟨b, h', _⟩ := h'
         simp only [toP, PyData.eqv, eqD]
         exact eqvAll_toPs _ _ h h')
theorem eqvAll_toPs : ∀ (ds es : List D) {k m : Nat}, deeps ds = some k → deeps es = some m → PyData.eqvAll (toPs ds) (toPs es) = eqDs ds es
  | [], [], _, _, _, _ => rfl
  | [], _ :: _, _, _, _, _ => rfl
  | _ :: _, [], _, _, _, _ => rfl
  | d :: ds, e :: es, k, m, h, h' => by
    obtain ⟨a, b, h1, h2, _⟩ := deeps_cons h
    obtain ⟨a', b', h1', h2', _⟩ := deeps_cons h'
    simp only [toPs, PyData.eqvAll, eqDs, eqv_toP d e h1 h1', eqvAll_toPs ds es h2 h2']
end
theorem ltNs_lt : ∀ xs ys : List Nat, ltNs xs ys = decide (xs < ys)
  | [], [] => by simp [ltNs]
  | [], y :: ys => by simp [ltNs]
  | x :: xs, [] => by simp [ltNs]
  | x :: xs, y :: ys => by
    simp only [ltNs, List.cons_lt_cons_iff]
    by_cases h : x = y
    · subst h; simp [ltNs_lt xs ys]
    · simp [h]
mutual
theorem alike_toP : ∀ (d e : D) {k m : Nat}, deep d = some k → deep e = some m → PySem.W.alike (toP d) (toP e) = alikeD d e
  | d, e, k, m, h, h' => by
    cases d <;> cases e <;> first
      | (simp [deep] at h; done) | (simp [deep] at h'; done)
      | rfl
      | (simp only [deep, Option.map_eq_some_iff] at h h'
         obtain ⟨a, h, _⟩ := h
         obtain ⟨b, h', _⟩ := h'
         simp only [toP, PySem.W.alike, alikeD]
         exact alikeAll_toPs _ _ h h')
theorem alikeAll_toPs : ∀ (ds es : List D) {k m : Nat}, deeps ds = some k → deeps es = some m → PySem.W.alikeAll (toPs ds) (toPs es) = alikeDs ds es
  | [], [], _, _, _, _ => rfl
  | [], _ :: _, _, _, _, _ => rfl
  | _ :: _, [], _, _, _, _ => rfl
  | d :: ds, e :: es, k, m, h, h' => by
    obtain ⟨a, b, h1, h2, _⟩ := deeps_cons h
    obtain ⟨a', b', h1', h2', _⟩ := deeps_cons h'
    simp only [toPs, PySem.W.alikeAll, alikeDs, alike_toP d e h1 h1', alikeAll_toPs ds es h2 h2']
end
mutual
theorem lt_toP : ∀ (d e : D) {k m : Nat}, deep d = some k → deep e = some m → alikeD d e = true → PySem.W.dataLt (toP d) (toP e) = ltB d e
  | .non, .non, _, _, _, _, _ => by simp [toP, PySem.W.dataLt, PySem.W.keyToks, PyProof.Rows.lexLt, ltB]
  | .bl a, .bl b, _, _, _, _, _ => by
    simp only [toP, ltB, PySem.W.dataLt_bool]
    cases a <;> cases b <;> rfl
  | .int a, .int b, _, _, _, _, _ => by simp only [toP, ltB, PySem.W.dataLt_int]
  | .str a, .str b, _, _, _, _, _ => by simp only [toP, ltB, PySem.W.dataLt_str, ltNs_lt]
  | .tup xs, .tup ys, k, m, h, h', al => by
    simp only [deep, Option.map_eq_some_iff] at h h'
    obtain ⟨a, h, _⟩ := h
    obtain ⟨b, h', _⟩ := h'
    simp only [toP, PySem.W.dataLt_tuple, ltB]
    exact lts_toPs xs ys h h' (by simpa only [alikeD] using al)
  | .lst xs, .lst ys, k, m, h, h', al => by
    simp only [deep, Option.map_eq_some_iff] at h h'
    obtain ⟨a, h, _⟩ := h
    obtain ⟨b, h', _⟩ := h'
    simp only [toP, PySem.W.dataLt_list, ltB]
    exact lts_toPs xs ys h h' (by simpa only [alikeD] using al)
  | .dic _, _, _, _, h, _, _ => by simp [deep] at h
  | .set _, _, _, _, h, _, _ => by simp [deep] at h
  | .ref _, _, _, _, h, _, _ => by simp [deep] at h
  | .kls _, _, _, _, h, _, _ => by simp [deep] at h
  | .non, .bl _, _, _, _, _, al => by simp [alikeD] at al
  | .non, .int _, _, _, _, _, al => by simp [alikeD] at al
  | .non, .str _, _, _, _, _, al => by simp [alikeD] at al
  | .non, .tup _, _, _, _, _, al => by simp [alikeD] at al
  | .non, .lst _, _, _, _, _, al => by simp [alikeD] at al
  | .non, .dic _, _, _, _, _, al => by simp [alikeD] at al
  | .non, .set _, _, _, _, _, al => by simp [alikeD] at al
  | .non, .ref _, _, _, _, _, al => by simp [alikeD] at al
  | .non, .kls _, _, _, _, _, al => by simp [alikeD] at al
  | .bl _, .non, _, _, _, _, al => by simp [alikeD] at al
  | .bl _, .int _, _, _, _, _, al => by simp [alikeD] at al
  | .bl _, .str _, _, _, _, _, al => by simp [alikeD] at al
  | .bl _, .tup _, _, _, _, _, al => by simp [alikeD] at al
  | .bl _, .lst _, _, _, _, _, al => by simp [alikeD] at al
  | .bl _, .dic _, _, _, _, _, al => by simp [alikeD] at al
  | .bl _, .set _, _, _, _, _, al => by simp [alikeD] at al
  | .bl _, .ref _, _, _, _, _, al => by simp [alikeD] at al
  | .bl _, .kls _, _, _, _, _, al => by simp [alikeD] at al
  | .int _, .non, _, _, _, _, al => by simp [alikeD] at al
  | .int _, .bl _, _, _, _, _, al => by simp [alikeD] at al
  | .int _, .str _, _, _, _, _, al => by simp [alikeD] at al
  | .int _, .tup _, _, _, _, _, al => by simp [alikeD] at al
  | .int _, .lst _, _, _, _, _, al => by simp [alikeD] at al
  | .int _, .dic _, _, _, _, _, al => by simp [alikeD] at al
  | .int _, .set _, _, _, _, _, al => by simp [alikeD] at al
  | .int _, .ref _, _, _, _, _, al => by simp [alikeD] at al
  | .int _, .kls _, _, _, _, _, al => by simp [alikeD] at al
  | .str _, .non, _, _, _, _, al => by simp [alikeD] at al
  | .str _, .bl _, _, _, _, _, al => by simp [alikeD] at al
  | .str _, .int _, _, _, _, _, al => by simp [alikeD] at al
  | .str _, .tup _, _, _, _, _, al => by simp [alikeD] at al
  | .str _, .lst _, _, _, _, _, al => by simp [alikeD] at al
  | .str _, .dic _, _, _, _, _, al => by simp [alikeD] at al
  | .str _, .set _, _, _, _, _, al => by simp [alikeD] at al
  | .str _, .ref _, _, _, _, _, al => by simp [alikeD] at al
  | .str _, .kls _, _, _, _, _, al => by simp [alikeD] at al
  | .tup _, .non, _, _, _, _, al => by simp [alikeD] at al
  | .tup _, .bl _, _, _, _, _, al => by simp [alikeD] at al
  | .tup _, .str _, _, _, _, _, al => by simp [alikeD] at al
  | .tup _, .int _, _, _, _, _, al => by simp [alikeD] at al
  | .tup _, .lst _, _, _, _, _, al => by simp [alikeD] at al
  | .tup _, .dic _, _, _, _, _, al => by simp [alikeD] at al
  | .tup _, .set _, _, _, _, _, al => by simp [alikeD] at al
  | .tup _, .ref _, _, _, _, _, al => by simp [alikeD] at al
  | .tup _, .kls _, _, _, _, _, al => by simp [alikeD] at al
  | .lst _, .non, _, _, _, _, al => by simp [alikeD] at al
  | .lst _, .bl _, _, _, _, _, al => by simp [alikeD] at al
  | .lst _, .str _, _, _, _, _, al => by simp [alikeD] at al
  | .lst _, .int _, _, _, _, _, al => by simp [alikeD] at al
  | .lst _, .tup _, _, _, _, _, al => by simp [alikeD] at al
  | .lst _, .dic _, _, _, _, _, al => by simp [alikeD] at al
  | .lst _, .set _, _, _, _, _, al => by simp [alikeD] at al
  | .lst _, .ref _, _, _, _, _, al => by simp [alikeD] at al
  | .lst _, .kls _, _, _, _, _, al => by simp [alikeD] at al
theorem lts_toPs : ∀ (ds es : List D) {k m : Nat}, deeps ds = some k → deeps es = some m → alikeDs ds es = true → PyProof.Rows.lexLt PyProof.Rows.itemOrd (PySem.W.keyToksAll (toPs ds)) (PySem.W.keyToksAll (toPs es)) = ltBs ds es
  | [], [], _, _, _, _, _ => by simp [toPs, PySem.W.keyToksAll, PyProof.Rows.lexLt, ltBs, itemLt]
  | [], _ :: _, _, _, _, _, _ => by simp [toPs, PySem.W.keyToksAll, PyProof.Rows.lexLt, ltBs, itemLt]
  | _ :: _, [], _, _, _, _, _ => by simp [toPs, PySem.W.keyToksAll, PyProof.Rows.lexLt, ltBs, itemLt]
  | d :: ds, e :: es, k, m, h, h', al => by
    obtain ⟨a, b, h1, h2, _⟩ := deeps_cons h
    obtain ⟨a', b', h1', h2', _⟩ := deeps_cons h'
    simp only [alikeDs, Bool.and_eq_true] at al
    have al1 : PySem.W.alike (toP d) (toP e) = true := (alike_toP d e h1 h1').trans al.1
    simp only [toPs, ltBs]
    rw [PySem.W.dataLt_cons al1, eqv_toP d e h1 h1', lt_toP d e h1 h1' al.1, lts_toPs ds es h2 h2' al.2]
end
end J

/-! JCmp2: what a related value reads as; the comparisons -/
namespace J
open PySem PySem.Spec PyProof.Rows L2

section
variable {X : Cx} {Y : Wd} {ρ : Nat → Addr} {n : Nat} {H : Hp} {pins : List (Addr × Obj)} {σ : L2.St} {s : Shared}
mutual
theorem rel_reads (hK : X.K = Y.K) (I : Inv X pins σ H s) : ∀ (d : D) (v : V) (u : Value) {k : Nat}, RelD Y ρ n H d v → RelV v u → deep d = some k → ∃ as, Reads s.heap u (toP d) as
  | .non, v, u, _, h, r, _ => by simp only [RelD] at h; subst h; cases r; exact ⟨_, .none⟩
  | .bl b, v, u, _, h, r, _ => by simp only [RelD] at h; subst h; cases r; exact ⟨_, .bool b⟩
  | .int i, v, u, _, h, r, _ => by simp only [RelD] at h; subst h; obtain ⟨t, rfl⟩ := r; exact ⟨_, .int i t⟩
  | .str x, v, u, _, h, r, _ => by simp only [RelD] at h; subst h; obtain ⟨t, rfl⟩ := r; exact ⟨_, .str x t⟩
  | .tup ds, v, u, k, h, r, hd => by
    simp only [RelD] at h
    obtain ⟨a, vs, rfl, q, z⟩ := h
    cases r
    simp only [deep, Option.map_eq_some_iff] at hd
    obtain ⟨m, hd, _⟩ := hd
    obtain ⟨its, w, ⟨o, ho, hc, n', hdt⟩, _⟩ := I.tuple (by rw [hK]; exact q)
    obtain ⟨as, ra⟩ := rels_reads hK I ds vs its z w hd
    exact ⟨_, .tuple ho hc hdt (by simpa using ra)⟩
  | .lst ds, v, u, k, h, r, hd => by
    simp only [RelD] at h
    obtain ⟨a, vs, rfl, ⟨o, q⟩, z⟩ := h
    cases r
    simp only [deep, Option.map_eq_some_iff] at hd
    obtain ⟨m, hd, _⟩ := hd
    obtain ⟨_, its, n', w, _, e⟩ := inv_lst I (.inr ⟨o, q⟩)
    obtain ⟨as, ra⟩ := rels_reads hK I ds vs its z w hd
    exact ⟨_, .list e rfl rfl (by simpa using ra)⟩
  | .dic _, _, _, _, _, _, h => by simp [deep] at h
  | .set _, _, _, _, _, _, h => by simp [deep] at h
  | .ref _, _, _, _, _, _, h => by simp [deep] at h
  | .kls _, _, _, _, _, _, h => by simp [deep] at h
theorem rels_reads (hK : X.K = Y.K) (I : Inv X pins σ H s) : ∀ (ds : List D) (vs : List V) (us : List Value) {k : Nat}, RelDs Y ρ n H ds vs → Vals vs us → deeps ds = some k → ∃ as, ReadsAll s.heap us (toPs ds) as
  | [], vs, us, _, h, w, _ => by simp only [RelDs] at h; subst h; cases w; exact ⟨_, .nil⟩
  | d :: ds, vs, us, k, h, w, hd => by
    simp only [RelDs] at h
    obtain ⟨v, r, rfl, h1, h2⟩ := h
    cases w with
    | cons w1 w2 =>
      obtain ⟨a, b, e1, e2, _⟩ := deeps_cons hd
      obtain ⟨as, r1⟩ := rel_reads hK I d v _ h1 w1 e1
      obtain ⟨bs, r2⟩ := rels_reads hK I ds r _ h2 w2 e2
      exact ⟨_, .cons r1 r2⟩
end
/-- an operand as it is just now -/
theorem relS_reads (hK : X.K = Y.K) (I : Inv X pins σ H s) (d : D) (v : V) (u : Value) {k : Nat} (h : RelS Y ρ n H d v) (r : RelV v u) (hd : deep d = some k) : ∃ as, Reads s.heap u (toP d) as := by
  cases d with
  | lst ds =>
    obtain ⟨a, vs, rfl, q, z⟩ := h
    cases r
    simp only [deep, Option.map_eq_some_iff] at hd
    obtain ⟨m, hd, _⟩ := hd
    obtain ⟨_, its, n', w, _, e⟩ := inv_lst I q
    obtain ⟨as, ra⟩ := rels_reads hK I ds vs its z w hd
    exact ⟨_, .list e rfl rfl (by simpa using ra)⟩
  | dic _ => simp [deep] at hd
  | _ => exact rel_reads hK I _ v u (by simpa only [RelS] using h) r hd
theorem plain_deep {d : D} (h : plain d = true) : ∃ k, deep d = some k ∧ k ≤ 60 := by
  unfold plain at h
  split at h
  · rename_i k e
    exact ⟨k, e, by simpa using h⟩
  · cases h
theorem toP_non {d : D} {k : Nat} (hd : deep d = some k) (h : isNon d = false) : toP d ≠ .none := by
  cases d <;> first | (simp [isNon] at h; done) | (simp [deep] at hd; done) | (intro z; cases z)
theorem memD_any {x : D} {k : Nat} (hx : deep x = some k) : ∀ {ys : List D}, ys.all plain = true → (toPs ys).any (fun y => PyData.eqv y (toP x)) = memD x ys
  | [], _ => rfl
  | y :: ys, h => by
    rw [List.all_cons, Bool.and_eq_true] at h
    obtain ⟨a, ha, _⟩ := plain_deep h.1
    simp only [toPs, List.any_cons, memD, eqv_toP y x ha hx, memD_any hx h.2]
theorem deeps_all : ∀ {ys : List D}, ys.all plain = true → ∃ k, deeps ys = some k ∧ k ≤ 60
  | [], _ => ⟨0, rfl, by omega⟩
  | y :: ys, h => by
    rw [List.all_cons, Bool.and_eq_true] at h
    obtain ⟨a, ha, _⟩ := plain_deep h.1
    obtain ⟨b, hb, _⟩ := deeps_all h.2
    exact ⟨max a b, by simp only [deeps, ha, hb], by omega⟩
end
def copOf : Cop → CmpOp
  | .eq => .Eq | .ne => .NotEq | .lt => .Lt | .le => .LtE | .gt => .Gt | .ge => .GtE | .is => .Is | .isnot => .IsNot | .inn => .In | .notin => .NotIn
def rCmp (Y : Wd) (op : Cop) : R2 := fun x y H Q => ∃ ρ n d e b, RelS Y ρ n H d x ∧ RelS Y ρ n H e y ∧ cmpD op d e = some b ∧ Q (.bl b) H
def rRef (Y : Wd) (op : Cop) : R2 := rCmp Y op
section
variable {X : Cx} {Y : Wd}
theorem fin_b {pins : List (Addr × Obj)} {σ : L2.St} {H : Hp} {s : Shared} {Q : VK} {b : Bool} (I : Inv X pins σ H s) (q : Q (.bl b) H) : EP X pins σ Q (.bool b) s := ⟨.bl b, H, I, rfl, q⟩
theorem is_isNon {ρ : Nat → Addr} {n : Nat} {H : Hp} {d : D} {v : V} (h : RelS Y ρ n H d v) : decide (v = .non) = isNon d := by
  cases d with
  | non => have : v = .non := by simpa only [RelS, RelD] using h
           subst this; rfl
  | bl b => have : v = .bl b := by simpa only [RelS, RelD] using h
            subst this; rfl
  | int b => have : v = .int b := by simpa only [RelS, RelD] using h
             subst this; rfl
  | str b => have : v = .str b := by simpa only [RelS, RelD] using h
             subst this; rfl
  | tup ds => simp only [RelS, RelD] at h; obtain ⟨a, vs, rfl, _⟩ := h; rfl
  | kls ds => simp only [RelS, RelD] at h; obtain ⟨a, vs, rfl, _⟩ := h; rfl
  | lst ds => obtain ⟨a, vs, rfl, _⟩ := h; rfl
  | dic ds => exact h.elim
  | set ds => simp only [RelS, RelD] at h
  | ref l => simp only [RelS, RelD] at h; obtain ⟨_, rfl⟩ := h; rfl
/-- the comparisons, but not in a dict -/
theorem op_cmp (hK : X.K = Y.K) (hu : X.A.units + 200 < cLine) (op : Cop) (hdic : ∀ x kvs, op = .inn ∨ op = .notin → OpR X (compareOp (copOf op)) fun v y H Q => ∃ ρ n b, RelS Y ρ n H x v ∧ RelS Y ρ n H (.dic kvs) y ∧ cmpD op x (.dic kvs) = some b ∧ Q (.bl b) H) :
    OpR X (compareOp (copOf op)) (rCmp Y op) := by
  intro pins s σ H x y v u Q I rx ry h
  obtain ⟨ρ, n, d, e, b, hd, he, hb, q⟩ := h
  have szl : sizeLine = 16777216 := sizeLine_eq
  have szq := SZ_eq
  have ltc : ∀ {a b : D}, canLt a b = true → ∃ k m, deep a = some k ∧ deep b = some m ∧ k ≤ 60 ∧ m ≤ 60 ∧ alikeD a b = true ∧ isNon a = false := fun {a b} h => by
    simp only [canLt, Bool.and_eq_true, Bool.not_eq_true'] at h
    obtain ⟨⟨⟨h1, h2⟩, h3⟩, h4⟩ := h
    obtain ⟨k, e1, l1⟩ := plain_deep h1
    obtain ⟨m, e2, l2⟩ := plain_deep h2
    exact ⟨k, m, e1, e2, l1, l2, h3, h4⟩
  cases op with
  | eq =>
    simp only [cmpD] at hb
    split at hb
    · rename_i hp
      cases hb
      rw [Bool.and_eq_true] at hp
      obtain ⟨k, e1, l1⟩ := plain_deep hp.1
      obtain ⟨m, e2, l2⟩ := plain_deep hp.2
      obtain ⟨as, r1⟩ := relS_reads hK I d x v hd rx e1
      obtain ⟨bs, r2⟩ := relS_reads hK I e y u he ry e2
      obtain ⟨p1, z1⟩ := toP_plain d e1
      obtain ⟨p2, z2⟩ := toP_plain e e2
      exact SeqAt.eq_plain r1 r2 p1 p2 (by omega) (by rw [eqv_toP d e e1 e2]; exact fin_b I q)
    · cases hb
  | ne =>
    simp only [cmpD] at hb
    split at hb
    · rename_i hp
      cases hb
      rw [Bool.and_eq_true] at hp
      obtain ⟨k, e1, l1⟩ := plain_deep hp.1
      obtain ⟨m, e2, l2⟩ := plain_deep hp.2
      obtain ⟨as, r1⟩ := relS_reads hK I d x v hd rx e1
      obtain ⟨bs, r2⟩ := relS_reads hK I e y u he ry e2
      obtain ⟨p1, z1⟩ := toP_plain d e1
      obtain ⟨p2, z2⟩ := toP_plain e e2
      exact SeqAt.ne_plain r1 r2 p1 p2 (by omega) (by rw [eqv_toP d e e1 e2]; exact fin_b I q)
    · cases hb
  | lt =>
    simp only [cmpD] at hb
    split at hb
    · rename_i hp
      cases hb
      obtain ⟨k, m, e1, e2, l1, l2, al, nn⟩ := ltc hp
      obtain ⟨as, r1⟩ := relS_reads hK I d x v hd rx e1
      obtain ⟨bs, r2⟩ := relS_reads hK I e y u he ry e2
      obtain ⟨p1, z1⟩ := toP_plain d e1
      exact PySem.W.lt_data r1 r2 ((alike_toP d e e1 e2).trans al) (toP_non e1 nn) (by omega) (by rw [lt_toP d e e1 e2 al]; exact fin_b I q)
    · cases hb
  | gt =>
    simp only [cmpD] at hb
    split at hb
    · rename_i hp
      cases hb
      obtain ⟨k, m, e1, e2, l1, l2, al, nn⟩ := ltc hp
      obtain ⟨as, r1⟩ := relS_reads hK I d x v hd rx e1
      obtain ⟨bs, r2⟩ := relS_reads hK I e y u he ry e2
      obtain ⟨p1, z1⟩ := toP_plain d e1
      have al' : alikeD e d = true := by rw [← alike_toP e d e2 e1, PySem.W.alike_comm, alike_toP d e e1 e2]; exact al
      exact PySem.W.gt_data r1 r2 ((alike_toP d e e1 e2).trans al) (toP_non e1 nn) (by omega) (by rw [lt_toP e d e2 e1 al']; exact fin_b I q)
    · cases hb
  | le =>
    simp only [cmpD] at hb
    split at hb
    · rename_i hp
      cases hb
      obtain ⟨k, m, e1, e2, l1, l2, al, nn⟩ := ltc hp
      obtain ⟨as, r1⟩ := relS_reads hK I d x v hd rx e1
      obtain ⟨bs, r2⟩ := relS_reads hK I e y u he ry e2
      obtain ⟨p1, z1⟩ := toP_plain d e1
      have al' : alikeD e d = true := by rw [← alike_toP e d e2 e1, PySem.W.alike_comm, alike_toP d e e1 e2]; exact al
      exact PySem.W.le_data r1 r2 ((alike_toP d e e1 e2).trans al) (toP_non e1 nn) (by omega) (by rw [lt_toP e d e2 e1 al']; exact fin_b I q)
    · cases hb
  | ge =>
    simp only [cmpD] at hb
    split at hb
    · rename_i hp
      cases hb
      obtain ⟨k, m, e1, e2, l1, l2, al, nn⟩ := ltc hp
      obtain ⟨as, r1⟩ := relS_reads hK I d x v hd rx e1
      obtain ⟨bs, r2⟩ := relS_reads hK I e y u he ry e2
      obtain ⟨p1, z1⟩ := toP_plain d e1
      exact PySem.W.ge_data r1 r2 ((alike_toP d e e1 e2).trans al) (toP_non e1 nn) (by omega) (by rw [lt_toP d e e1 e2 al]; exact fin_b I q)
    · cases hb
  | is =>
    cases e with
    | non =>
      simp only [cmpD, Option.some.injEq] at hb
      subst hb
      have hy : y = .non := by simpa only [RelS, RelD] using he
      exact op_isN pins s σ H x y v u Q I rx ry ⟨hy, by rw [is_isNon hd]; exact q⟩
    | _ => simp [cmpD] at hb
  | isnot =>
    cases e with
    | non =>
      simp only [cmpD, Option.some.injEq] at hb
      subst hb
      have hy : y = .non := by simpa only [RelS, RelD] using he
      exact op_notN pins s σ H x y v u Q I rx ry ⟨hy, by rw [is_isNon hd]; exact q⟩
    | _ => simp [cmpD] at hb
  | inn =>
    cases e with
    | lst ys =>
      simp only [cmpD, inD] at hb
      split at hb
      · rename_i hp
        cases hb
        rw [Bool.and_eq_true] at hp
        obtain ⟨k, e1, l1⟩ := plain_deep hp.1
        obtain ⟨m, e2, l2⟩ := deeps_all hp.2
        have e2' : deep (.lst ys) = some (m + 1) := by simp only [deep, e2, Option.map_some]
        obtain ⟨as, r1⟩ := relS_reads hK I d x v hd rx e1
        obtain ⟨bs, r2⟩ := relS_reads hK I (.lst ys) y u he ry e2'
        obtain ⟨p1, z1⟩ := toP_plain d e1
        obtain ⟨p2, z2⟩ := toPs_plain ys e2
        exact SeqAt.in_list_data r2 r1 p2 p1 (by omega) (by rw [memD_any e1 hp.2]; exact fin_b I q)
      · cases hb
    | tup ys =>
      simp only [cmpD, inD] at hb
      split at hb
      · rename_i hp
        cases hb
        rw [Bool.and_eq_true] at hp
        obtain ⟨k, e1, l1⟩ := plain_deep hp.1
        obtain ⟨m, e2, l2⟩ := deeps_all hp.2
        have e2' : deep (.tup ys) = some (m + 1) := by simp only [deep, e2, Option.map_some]
        obtain ⟨as, r1⟩ := relS_reads hK I d x v hd rx e1
        obtain ⟨bs, r2⟩ := relS_reads hK I (.tup ys) y u he ry e2'
        obtain ⟨p1, z1⟩ := toP_plain d e1
        obtain ⟨p2, z2⟩ := toPs_plain ys e2
        exact SeqAt.in_tuple_data r2 r1 p2 p1 (by omega) (by rw [memD_any e1 hp.2]; exact fin_b I q)
      · cases hb
    | str z =>
      cases d with
      | str w =>
        simp only [cmpD, inD, Option.some.injEq] at hb
        subst hb
        exact op_in_str pins s σ H x y v u Q I rx ry ⟨w, z, relS_str hd, relS_str he, q⟩
      | _ => simp [cmpD, inD] at hb
    | dic kvs => exact hdic d kvs (.inl rfl) pins s σ H x y v u Q I rx ry ⟨ρ, n, b, hd, he, hb, q⟩
    | set ys => simp only [RelS, RelD] at he
    | _ => simp [cmpD, inD] at hb
  | notin =>
    cases e with
    | lst ys =>
      simp only [cmpD, inD] at hb
      split at hb
      · rename_i hp
        cases hb
        rw [Bool.and_eq_true] at hp
        obtain ⟨k, e1, l1⟩ := plain_deep hp.1
        obtain ⟨m, e2, l2⟩ := deeps_all hp.2
        have e2' : deep (.lst ys) = some (m + 1) := by simp only [deep, e2, Option.map_some]
        obtain ⟨as, r1⟩ := relS_reads hK I d x v hd rx e1
        obtain ⟨bs, r2⟩ := relS_reads hK I (.lst ys) y u he ry e2'
        obtain ⟨p1, z1⟩ := toP_plain d e1
        obtain ⟨p2, z2⟩ := toPs_plain ys e2
        exact SeqAt.notIn_list_data r2 r1 p2 p1 (by omega) (by rw [memD_any e1 hp.2]; exact fin_b I q)
      · cases hb
    | tup ys =>
      simp only [cmpD, inD] at hb
      split at hb
      · rename_i hp
        cases hb
        rw [Bool.and_eq_true] at hp
        obtain ⟨k, e1, l1⟩ := plain_deep hp.1
        obtain ⟨m, e2, l2⟩ := deeps_all hp.2
        have e2' : deep (.tup ys) = some (m + 1) := by simp only [deep, e2, Option.map_some]
        obtain ⟨as, r1⟩ := relS_reads hK I d x v hd rx e1
        obtain ⟨bs, r2⟩ := relS_reads hK I (.tup ys) y u he ry e2'
        obtain ⟨p1, z1⟩ := toP_plain d e1
        obtain ⟨p2, z2⟩ := toPs_plain ys e2
        exact SeqAt.notIn_tuple_data r2 r1 p2 p1 (by omega) (by rw [memD_any e1 hp.2]; exact fin_b I q)
      · cases hb
    | str z =>
      cases d with
      | str w =>
        simp only [cmpD, inD, Option.map_some, Option.some.injEq] at hb
        subst hb
        exact op_notin_str pins s σ H x y v u Q I rx ry ⟨w, z, relS_str hd, relS_str he, q⟩
      | _ => simp [cmpD, inD] at hb
    | dic kvs => exact hdic d kvs (.inr rfl) pins s σ H x y v u Q I rx ry ⟨ρ, n, b, hd, he, hb, q⟩
    | set ys => simp only [RelS, RelD] at he
    | _ => simp [cmpD, inD] at hb
end
end J

/-! JSort: isort against mergeSort -/
namespace J
open PySem PySem.Spec PyProof.Rows L2

theorem insD_perm (x : D) : ∀ l : List D, (insD x l).Perm (x :: l)
  | [] => List.Perm.refl _
  | y :: r => by
    unfold insD
    split
    · exact List.Perm.refl _
    · exact ((insD_perm x r).cons y).trans (List.Perm.swap x y r)
theorem isortGo_perm : ∀ (l acc : List D), (isortGo acc l).Perm (acc ++ l)
  | [], acc => by rw [isortGo, List.append_nil]
  | x :: r, acc => by
    rw [isortGo]
    refine (isortGo_perm r (insD x acc)).trans ?_
    exact ((insD_perm x acc).append_right r).trans (List.perm_middle (l₁ := acc) (a := x) (l₂ := r)).symm
theorem isort_perm (l : List D) : (isort l).Perm l := (isortGo_perm l [])
/-- the order on what can be compared -/
abbrev leD (a b : D) : Prop := PySem.W.dataLe false toP a b = true
theorem leD_total (a b : D) : leD a b ∨ leD b a := by
  exact (PySem.W.sortLe_total (listOrd PyProof.Rows.itemOrd) false fun b => PySem.W.keyToks (toP b)).total a b
theorem leD_trans {a b c : D} (h1 : leD a b) (h2 : leD b c) : leD a c := (PySem.W.sortLe_total (listOrd PyProof.Rows.itemOrd) false fun b => PySem.W.keyToks (toP b)).trans a b c h1 h2
/-- all can be compared -/
def Cmpb (l : List D) : Prop := (∀ d ∈ l, plain d = true) ∧ ∀ d ∈ l, ∀ e ∈ l, alikeD d e = true
theorem leD_iff {l : List D} (h : Cmpb l) {a b : D} (ha : a ∈ l) (hb : b ∈ l) : leD a b ↔ ltB b a = false := by
  obtain ⟨k, hk, _⟩ := plain_deep (h.1 a ha)
  obtain ⟨m, hm, _⟩ := plain_deep (h.1 b hb)
  show (!PySem.W.dataLt (toP b) (toP a)) = true ↔ _
  rw [lt_toP b a hm hk (h.2 b hb a ha)]
  simp
theorem insD_sorted {l : List D} (h : Cmpb l) {x : D} (hx : x ∈ l) : ∀ r : List D, (∀ y ∈ r, y ∈ l) → r.Pairwise leD → (insD x r).Pairwise leD
  | [], _, _ => by unfold insD; exact List.pairwise_singleton _ _
  | y :: r, hr, hp => by
    obtain ⟨p1, p2⟩ := List.pairwise_cons.mp hp
    have hy := hr y List.mem_cons_self
    unfold insD
    split
    · rename_i hlt
      have e : leD x y := by
        rcases leD_total x y with z | z
        · exact z
        · rw [leD_iff h hy hx, hlt] at z; cases z
      refine List.pairwise_cons.mpr ⟨fun z hz => ?_, hp⟩
      rcases List.mem_cons.mp hz with rfl | hz
      · exact e
      · exact leD_trans e (p1 z hz)
    · rename_i hlt
      have e : leD y x := (leD_iff h hy hx).2 (by simpa using hlt)
      refine List.pairwise_cons.mpr ⟨fun z hz => ?_, insD_sorted h hx r (fun z hz => hr z (List.mem_cons_of_mem _ hz)) p2⟩
      rcases List.mem_cons.mp ((insD_perm x r).mem_iff.mp hz) with rfl | hz
      · exact e
      · exact p1 z hz
theorem isortGo_sorted {l : List D} (h : Cmpb l) : ∀ (r acc : List D), (∀ y ∈ r, y ∈ l) → (∀ y ∈ acc, y ∈ l) → acc.Pairwise leD → (isortGo acc r).Pairwise leD
  | [], acc, _, _, hp => hp
  | x :: r, acc, hr, ha, hp => by
    have hx := hr x List.mem_cons_self
    rw [isortGo]
    refine isortGo_sorted h r _ (fun y hy => hr y (List.mem_cons_of_mem _ hy)) (fun y hy => ?_) (insD_sorted h hx acc ha hp)
    rcases List.mem_cons.mp ((insD_perm x acc).mem_iff.mp hy) with rfl | hy
    · exact hx
    · exact ha y hy
theorem isort_sorted {l : List D} (h : Cmpb l) : (isort l).Pairwise leD := isortGo_sorted h l [] (fun _ h => h) (fun _ h => by cases h) List.Pairwise.nil
mutual
theorem eqD_eq : ∀ d e : D, alikeD d e = true → eqD d e = true → d = e
  | .non, .non, _, _ => rfl
  | .bl a, .bl b, _, h => by simp only [eqD, beq_iff_eq] at h; rw [h]
  | .int a, .int b, _, h => by simp only [eqD, beq_iff_eq] at h; rw [h]
  | .str a, .str b, _, h => by simp only [eqD, decide_eq_true_eq] at h; rw [h]
  | .tup a, .tup b, g, h => by simp only [eqD] at h; simp only [alikeD] at g; rw [eqDs_eq a b g h]
  | .lst a, .lst b, g, h => by simp only [eqD] at h; simp only [alikeD] at g; rw [eqDs_eq a b g h]
theorem eqDs_eq : ∀ d e : List D, alikeDs d e = true → eqDs d e = true → d = e
  | [], [], _, _ => rfl
  | x :: xs, y :: ys, g, h => by
    simp only [eqDs, Bool.and_eq_true] at h
    simp only [alikeDs, Bool.and_eq_true] at g
    rw [eqD_eq x y g.1 h.1, eqDs_eq xs ys g.2 h.2]
end
mutual
theorem eqD_refl : ∀ (d : D) {k : Nat}, deep d = some k → eqD d d = true
  | .non, _, _ => rfl
  | .bl a, _, _ => by simp [eqD]
  | .int a, _, _ => by simp [eqD]
  | .str a, _, _ => by simp [eqD]
  | .tup a, k, h => by
    simp only [deep, Option.map_eq_some_iff] at h
    obtain ⟨m, h, _⟩ := h
    simp only [eqD]; exact eqDs_refl a h
  | .lst a, k, h => by
    simp only [deep, Option.map_eq_some_iff] at h
    obtain ⟨m, h, _⟩ := h
    simp only [eqD]; exact eqDs_refl a h
  | .dic _, _, h => by simp [deep] at h
  | .set _, _, h => by simp [deep] at h
  | .ref _, _, h => by simp [deep] at h
  | .kls _, _, h => by simp [deep] at h
theorem eqDs_refl : ∀ (d : List D) {k : Nat}, deeps d = some k → eqDs d d = true
  | [], _, _ => rfl
  | x :: xs, k, h => by
    obtain ⟨a, b, h1, h2, _⟩ := deeps_cons h
    simp only [eqDs, eqD_refl x h1, eqDs_refl xs h2, Bool.and_self]
end
mutual
theorem ltB_anti : ∀ (d e : D) {k m : Nat}, deep d = some k → deep e = some m → alikeD d e = true → ltB d e = false → ltB e d = false → d = e
  | .non, .non, _, _, _, _, _, _, _ => rfl
  | .bl a, .bl b, _, _, _, _, _, h1, h2 => by
    cases a <;> cases b <;> first | rfl | (simp [ltB, b2z] at h1 h2)
  | .int a, .int b, _, _, _, _, _, h1, h2 => by
    simp only [ltB, decide_eq_false_iff_not] at h1 h2
    rw [show a = b by omega]
  | .str a, .str b, _, _, _, _, _, h1, h2 => by
    simp only [ltB, ltNs_lt, decide_eq_false_iff_not] at h1 h2
    have e : a.cps.toList = b.cps.toList := by
      rcases Std.lt_trichotomy a.cps.toList b.cps.toList with h | h | h
      · exact absurd h h1
      · exact h
      · exact absurd h h2
    have e2 : a.cps = b.cps := Array.toList_inj.mp e
    obtain ⟨a⟩ := a
    obtain ⟨b⟩ := b
    dsimp only at e2
    rw [e2]
  | .tup a, .tup b, k, m, hk, hm, g, h1, h2 => by
    simp only [deep, Option.map_eq_some_iff] at hk hm
    obtain ⟨k', hk, _⟩ := hk
    obtain ⟨m', hm, _⟩ := hm
    simp only [ltB] at h1 h2
    simp only [alikeD] at g
    rw [ltBs_anti a b hk hm g h1 h2]
  | .lst a, .lst b, k, m, hk, hm, g, h1, h2 => by
    simp only [deep, Option.map_eq_some_iff] at hk hm
    obtain ⟨k', hk, _⟩ := hk
    obtain ⟨m', hm, _⟩ := hm
    simp only [ltB] at h1 h2
    simp only [alikeD] at g
    rw [ltBs_anti a b hk hm g h1 h2]
theorem ltBs_anti : ∀ (d e : List D) {k m : Nat}, deeps d = some k → deeps e = some m → alikeDs d e = true → ltBs d e = false → ltBs e d = false → d = e
  | [], [], _, _, _, _, _, _, _ => rfl
  | [], y :: ys, _, _, _, _, _, h1, _ => by simp [ltBs] at h1
  | x :: xs, [], _, _, _, _, _, _, h2 => by simp [ltBs] at h2
  | x :: xs, y :: ys, k, m, hk, hm, g, h1, h2 => by
    obtain ⟨a, b, a1, a2, _⟩ := deeps_cons hk
    obtain ⟨c, d, b1, b2, _⟩ := deeps_cons hm
    simp only [alikeDs, Bool.and_eq_true] at g
    simp only [ltBs] at h1 h2
    by_cases e : eqD x y = true
    · have e' := eqD_eq x y g.1 e
      subst e'
      rw [if_pos e] at h1 h2
      rw [ltBs_anti xs ys a2 b2 g.2 h1 h2]
    · rw [if_neg e] at h1
      have ne : ¬ eqD y x = true := fun z => e (by
        rw [← eqv_toP x y a1 b1]
        rw [← eqv_toP y x b1 a1] at z
        rw [PySem.W.eqv_comm]; exact z)
      rw [if_neg ne] at h2
      exact absurd (by rw [← ltB_anti x y a1 b1 g.1 h1 h2]; exact eqD_refl x a1) e
end
/-- any order of the same things is sorted to isort -/
theorem sort_same {β : Type} {f : β → D} {bs : List β} {xs : List D} (h : Cmpb xs) (pm : (bs.map f).Perm xs) : (bs.mergeSort (PySem.W.dataLe false fun b => toP (f b))).map f = isort xs := by
  have tot := PySem.W.sortLe_total (listOrd PyProof.Rows.itemOrd) false fun b : β => PySem.W.keyToks (toP (f b))
  have s1 : (bs.mergeSort (PySem.W.dataLe false fun b => toP (f b))).Pairwise fun a b => PySem.W.dataLe false (fun b => toP (f b)) a b = true := List.pairwise_mergeSort tot.trans (fun a b => by rw [Bool.or_eq_true]; exact tot.total a b) bs
  have s2 : ((bs.mergeSort (PySem.W.dataLe false fun b => toP (f b))).map f).Pairwise leD := List.pairwise_map.mpr s1
  have p1 : ((bs.mergeSort (PySem.W.dataLe false fun b => toP (f b))).map f).Perm xs := ((List.mergeSort_perm bs _).map f).trans pm
  refine List.Perm.eq_of_pairwise (fun a b ha hb h1 h2 => ?_) s2 (isort_sorted h) (p1.trans (isort_perm xs).symm)
  have ha := p1.mem_iff.mp ha
  have hb := (isort_perm xs).mem_iff.mp hb
  obtain ⟨k, hk, _⟩ := plain_deep (h.1 a ha)
  obtain ⟨m, hm, _⟩ := plain_deep (h.1 b hb)
  exact ltB_anti a b hk hm (h.2 a ha b hb) ((leD_iff h hb ha).1 h2) ((leD_iff h ha hb).1 h1)
end J

/-! JOps2: truth, subscripts, slices -/
namespace J
open PySem PySem.Spec PyProof.Rows L2
section
variable {X : Cx} {Y : Wd}
/-- truth -/
theorem tru_D (hK : X.K = Y.K) : TruR X (fun x H Q => ∃ ρ n d b, RelS Y ρ n H d x ∧ (∀ kvs, d ≠ .dic kvs) ∧ truth d = some b ∧ Q b H) := by
  intro pins s σ H x v Q I rx h
  obtain ⟨ρ, n, d, b, hd, hn, hb, q⟩ := h
  have szl : sizeLine = 16777216 := sizeLine_eq
  have szq := SZ_eq
  refine tru_ok pins s σ H x v Q I rx ⟨b, ?_, q⟩
  cases d with
  | non => have : x = .non := by simpa only [RelS, RelD] using hd
           subst this; simp only [truth, Option.some.injEq] at hb; exact hb.symm
  | bl k => have := relS_bl hd; subst this; simp only [truth, Option.some.injEq] at hb; exact hb.symm
  | int i => have := relS_int hd; subst this; simp only [truth, Option.some.injEq] at hb; exact hb.symm
  | str z =>
    have := relS_str hd; subst this
    simp only [truth] at hb
    split at hb
    · rename_i hz
      simp only [Option.some.injEq] at hb
      refine ⟨by omega, ?_⟩
      rw [← hb]
      cases hlen : z.length with
      | zero => rfl
      | succ k =>
        have e1 : (k + 1 != 0) = true := by simp
        have e2 : (((k + 1 : Nat) : Int) != 0) = true := by
          rw [bne_iff_ne]; omega
        rw [e1, e2]
    · cases hb
  | tup ds =>
    obtain ⟨a, vs, rfl, hs, r⟩ := relS_tup hd
    simp only [truth, Option.some.injEq] at hb
    refine .inr (.inl ⟨vs, by rw [hK]; exact hs, ?_⟩)
    rw [← hb]
    cases ds <;> cases vs <;> simp_all [RelDs]
  | lst ds =>
    obtain ⟨a, vs, rfl, hs, r⟩ := hd
    simp only [truth, Option.some.injEq] at hb
    refine .inl ⟨vs, .inl hs, ?_⟩
    rw [← hb]
    cases ds <;> cases vs <;> simp_all [RelDs]
  | dic kvs => exact absurd rfl (hn kvs)
  | _ => simp [truth] at hb
theorem relDs_atI {ρ : Nat → Addr} {n : Nat} {H : Hp} {ds : List D} {vs : List V} {i : Int} {d : D} (r : RelDs Y ρ n H ds vs) (h : atI ds i = some d) : ∃ v, atI vs i = some v ∧ RelD Y ρ n H d v := by
  unfold atI at h ⊢
  rw [RelDs.length r]
  cases e : ixN ds.length i with
  | none => rw [e] at h; cases h
  | some j =>
    rw [e] at h
    exact RelDs.get r h
/-- a subscript by values, but of dicts -/
def rIxD (Y : Wd) : R2 := fun x y H Q => ∃ ρ st d e r, StOk Y ρ st H ∧ RelS Y ρ st.length H d x ∧ RelS Y ρ st.length H e y ∧ (∀ kvs, d ≠ .dic kvs) ∧ ixD d e = some r ∧ ∀ v, RelD Y ρ st.length H r v → Q v H
theorem ix_D (hK : X.K = Y.K) : IxR X (rIxD Y) := by
  intro value slice pins s σ H x y v u Q I rx ry h hs
  obtain ⟨ρ, st, d, e, r, so, hd, he, hn, hr, q⟩ := h
  have szl : sizeLine = 16777216 := sizeLine_eq
  have szq := SZ_eq
  cases d with
  | lst ds =>
    cases e with
    | int i =>
      obtain ⟨a, vs, e1, hl, rr⟩ := hd
      obtain ⟨w, e2, rw'⟩ := relDs_atI rr hr
      exact ix_list value slice pins s σ H x y v u Q I rx ry ⟨a, vs, i, w, e1, relS_int he, .inl hl, e2, q _ rw'⟩ hs
    | _ => simp [ixD] at hr
  | tup ds =>
    cases e with
    | int i =>
      obtain ⟨a, vs, e1, hl, rr⟩ := relS_tup hd
      obtain ⟨w, e2, rw'⟩ := relDs_atI rr hr
      exact ix_tup value slice pins s σ H x y v u Q I rx ry ⟨a, vs, i, w, e1, relS_int he, by rw [hK]; exact hl, e2, q _ rw'⟩ hs
    | _ => simp [ixD] at hr
  | str z =>
    cases e with
    | int i =>
      simp only [ixD] at hr
      split at hr
      · rename_i hz
        cases hc : atI z.cps.toList i with
        | none => rw [hc] at hr; cases hr
        | some c =>
          rw [hc] at hr
          cases hr
          exact ix_str value slice pins s σ H x y v u Q I rx ry ⟨z, i, c, relS_str hd, relS_int he, by omega, hc, q _ (by simp only [RelD])⟩ hs
      · cases hr
    | _ => simp [ixD] at hr
  | dic kvs => exact absurd rfl (hn kvs)
  | _ => simp [ixD] at hr
theorem relDs_cut {ρ : Nat → Addr} {n : Nat} {H : Hp} {ds : List D} {vs : List V} (lo hi : Option Int) (r : RelDs Y ρ n H ds vs) : RelDs Y ρ n H (cutD ds lo hi) (cutV vs lo hi) := by
  unfold cutD cutV
  rw [RelDs.length r]
  exact RelDs.take _ (RelDs.drop _ r)
theorem cut_whole (ds : List D) (lo hi : Option Int) (h : HT.sIx ds.length 0 lo = 0 ∧ HT.sIx ds.length ds.length hi = ds.length) : cutD ds lo hi = ds := by
  unfold cutD
  rw [h.1, h.2]
  simp
/-- a slice by values -/
def rSlD (Y : Wd) : V → Option Int → Option Int → Hp → VK → Prop := fun x lo hi H Q => ∃ ρ st d r, StOk Y ρ st H ∧ RelS Y ρ st.length H d x ∧ sliceD d lo hi = some r ∧ Fin1 Y ρ st H r Q
theorem sl_D (hK : X.K = Y.K) : SlR X (rSlD Y) := by
  intro pins s σ H x v vl vu lo hi sl Q I rx hs pl pu h
  obtain ⟨ρ, st, d, r, so, hd, hr, q⟩ := h
  have szl : sizeLine = 16777216 := sizeLine_eq
  have szq := SZ_eq
  cases d with
  | lst ds =>
    obtain ⟨a, vs, e1, hl, rr⟩ := hd
    simp only [sliceD, Option.some.injEq] at hr
    subst hr
    obtain ⟨T, id, h1, h2, h3⟩ := sl_list (X := X) pins s σ H x v vl vu lo hi sl (fun x H' => ∃ p, H p = none ∧ x = .ref p ∧ H' = upd H p (.lst (cutV vs lo hi))) I rx hs pl pu ⟨a, vs, e1, .inl hl, fun p hp => ⟨p, hp, rfl, rfl⟩⟩
    exact ⟨T, id, h1, h2, L2.thn h3 fun u s' hh => ep_newList so (relDs_cut lo hi rr) q hh⟩
  | tup ds =>
    obtain ⟨a, vs, e1, hl, rr⟩ := relS_tup hd
    simp only [sliceD, Option.some.injEq] at hr
    subst hr
    refine sl_tupA pins s σ H x v vl vu lo hi sl Q I rx hs pl pu ⟨a, vs, e1, by rw [hK]; exact hl, fun w => ?_, fun _ p hp => ?_⟩
    · rw [RelDs.length rr] at w
      rw [cut_whole ds lo hi w] at q
      exact fin_now so q (rel_tupAt hl rr)
    · exact q _ _ (step_fresh so hp) (rel_tup hp (relDs_cut lo hi rr))
  | str z =>
    simp only [sliceD] at hr
    split at hr
    · rename_i hz
      cases hr
      exact sl_str pins s σ H x v vl vu lo hi sl Q I rx hs pl pu ⟨z, relS_str hd, by omega, fin_now so q rel_str⟩
    · cases hr
  | _ => simp [sliceD] at hr
end
end J

/-! JCtx: names' tables, the context of a body, the comparison of a row's text with the compact form -/
namespace J
open PySem PySem.Spec PyProof.Rows L2

structure Tab where
  fns : List (Str × Nat)
  bls : List Str
  glos : List (Str × Nat)
  excs : List (Str × Nat)
  clss : List (Str × Nat)
  mths : List (Str × Nat)

/-- no star, no set, no slice -/
def okE : Expr → Bool
  | .Starred _ _ => false
  | .Set _ _ _ => false
  | .Slice _ _ _ _ => false
  | _ => true
theorem star_ok {e : Expr} (h : okE e = true) (es : List Expr) (env : PySem.Env) : starEach (e :: es) env = (false, eval e env) :: starEach es env := by
  cases e <;> first | rfl | cases h
theorem behind_ok {e : Expr} (h : okE e = true) (op : CmpOp) : behindInMarks op e = false := by
  cases e <;> first | rfl | cases h
theorem ix_ok {e : Expr} (h : okE e = true) : PlainIx e := by
  cases e <;> first | exact fun _ _ => rfl | cases h
theorem folded_ok {e : Expr} (h : okE e = true) (env : PySem.Env) (x : Value) : foldedSetIterable e env x = pure x := by
  cases e <;> first | rfl | cases h
theorem stars_any : ∀ {es : List Expr} (env : PySem.Env), es.all okE = true → (starEach es env).any (·.1) = false
  | [], _, _ => rfl
  | e :: es, env, h => by
    rw [List.all_cons, Bool.and_eq_true] at h
    rw [star_ok h.1, List.any_cons, stars_any env h.2]
    rfl

def visB (sc : Scope) (x : Str) : Bool := match sc.names.lookup x with
  | some .local => true
  | some .cell => true
  | some .free => true
  | _ => false
def locB (sc : Scope) (x : Str) : Bool := match sc.names.lookup x with
  | some .local => true
  | some .cell => true
  | _ => false
def glB (sc : Scope) (x : Str) : Bool := match sc.names.lookup x with
  | some .globalImplicit => true
  | _ => false
def okN (x : Str) : Bool := !(x == ("__debug__" : Str)) && !(x == ("__classdict__" : Str)) && !(x == ("__name__" : Str))
def nmB (N : List Str) (i : Nat) (x : Str) : Bool := match N[i]? with
  | some y => y == x
  | none => false
def lkB (l : List (Str × Nat)) (x : Str) (k : Nat) : Bool := match l.lookup x with
  | some j => j == k
  | none => false
def bopB : Bop → Operator → Bool
  | .add, .Add => true | .sub, .Sub => true | .mul, .Mult => true | .fdiv, .FloorDiv => true | .mod, .Mod => true | .pow, .Pow => true
  | _, _ => false
def copB : Cop → CmpOp → Bool
  | .eq, .Eq => true | .ne, .NotEq => true | .lt, .Lt => true | .le, .LtE => true | .gt, .Gt => true | .ge, .GtE => true
  | .is, .Is => true | .isnot, .IsNot => true | .inn, .In => true | .notin, .NotIn => true
  | _, _ => false
theorem bopB_eq {o : Bop} {p : Operator} (h : bopB o p = true) : p = bopOf o := by
  cases o <;> cases p <;> first | rfl | cases h
theorem copB_eq {o : Cop} {p : CmpOp} (h : copB o p = true) : p = copOf o := by
  cases o <;> cases p <;> first | rfl | cases h
/-- the text's name of a built-in -/
def btN : Bt → Str
  | .abs => "abs" | .all => "all" | .any => "any" | .int => "int" | .len => "len" | .list => "list" | .max => "max" | .min => "min"
  | .set => "set" | .sorted => "sorted" | .str => "str" | .sum => "sum" | .tuple => "tuple" | .dict => "dict" | .isi _ => "isinstance"
def tyN : Ty → Str
  | .int => "int" | .str => "str" | .bool => "bool" | .tuple => "tuple" | .list => "list" | .dict => "dict"
/-- which built-ins are served -/
def btS : Bt → Bool
  | .abs => true | .all => true | .any => true | .int => true | .len => true | .tuple => true | .str => true | .list => true | .sorted => true
  | _ => false
def blkB (N : List Str) (sc scope : Scope) (own : List Nat) : Bool :=
  (match scope.kind with | .function => true | _ => false) &&
  (scope.names.all fun y => match scope.names.lookup y.1, y.2 with
    | some .local, .local => (own.any fun i => nmB N i y.1) || !N.contains y.1
    | some .cell, .cell => (own.any fun i => nmB N i y.1) || !N.contains y.1
    | some .free, .free => match sc.names.lookup y.1 with
      | some .cell => true
      | some .free => true
      | _ => false
    | some .globalImplicit, .globalImplicit => true
    | _, _ => false) && own.all fun i => decide (i < N.length)
mutual
def mG (N : List Str) (sc : Scope) : Tg → Expr → Bool
  | .name i, .Name x _ => nmB N i x && locB sc x && okN x
  | .tup ts, .Tuple xs _ _ => mGs N sc ts xs
  | _, _ => false
def mGs (N : List Str) (sc : Scope) : List Tg → List Expr → Bool
  | [], [] => true
  | t :: ts, x :: xs => mG N sc t x && mGs N sc ts xs
  | _, _ => false
end
mutual
def tgIx : Tg → List Nat
  | .name i => [i]
  | .tup ts => tgIxs ts
def tgIxs : List Tg → List Nat
  | [] => []
  | t :: ts => tgIx t ++ tgIxs ts
end
/-- zip's items go to a tuple of names -/
def zipT : It → Expr → Bool
  | .zip _ _, .Tuple _ _ _ => true
  | .zip _ _, _ => false
  | _, _ => true
/-- a built-in's call, but for the arguments -/
def btC (T : Tab) (sc : Scope) : Bt → Str → List Expr → Bool
  | .isi t, x, args => x == btN (.isi t) && glB sc x && T.bls.contains x && (match args with
      | [a, .Name y _] => okE a && y == tyN t && glB sc y && T.bls.contains y
      | _ => false)
  | f, x, args => btS f && x == btN f && glB sc x && T.bls.contains x && !args.isEmpty
def btA : Bt → List Expr → List Expr
  | .isi _, args => args.take 1
  | _, args => args
/-- a comprehension of two loops -/
structure Lc2 where
  el : Expr
  tg : Expr
  it : Expr
  fs : List Expr
  tg2 : Expr
  it2 : Expr
  fs2 : List Expr
  scope : Scope
def lc2Of : Expr → Option Lc2
  | .ListComp el [⟨tg, it, fs, 0⟩, ⟨tg2, it2, fs2, 0⟩] scope _ => some ⟨el, tg, it, fs, tg2, it2, fs2, scope⟩
  | _ => none
theorem lc2Of_at {e : Expr} {q : Lc2} (h : lc2Of e = some q) : ∃ pos, e = .ListComp q.el [⟨q.tg, q.it, q.fs, 0⟩, ⟨q.tg2, q.it2, q.fs2, 0⟩] q.scope pos := by
  unfold lc2Of at h
  split at h
  · cases h; exact ⟨_, rfl⟩
  · cases h
def isYes : Te → Bool
  | .yes => true
  | _ => false
/-- f(set(e)) -/
def onSet (T : Tab) (sc : Scope) (f : Str) : Expr → Option Expr
  | .Call (.Name x _) [.Call (.Name y _) [b] [] _] [] _ => if (x == f && y == ("set" : Str)) && (glB sc f && T.bls.contains f && glB sc "set" && T.bls.contains "set") then some b else none
  | _ => none
theorem onSet_at {T : Tab} {sc : Scope} {f : Str} {e b : Expr} (h : onSet T sc f e = some b) : (∃ p p2 q pos, e = .Call (.Name f p) [.Call (.Name "set" p2) [b] [] q] [] pos) ∧ glB sc f = true ∧ T.bls.contains f = true ∧ glB sc "set" = true ∧ T.bls.contains "set" = true := by
  unfold onSet at h
  split at h
  · split at h
    · rename_i c
      simp only [Bool.and_eq_true] at c
      cases h
      have e1 := eq_of_beq c.1.1
      have e2 := eq_of_beq c.1.2
      subst e1 e2
      exact ⟨⟨_, _, _, _, rfl⟩, c.2.1.1.1, c.2.1.1.2, c.2.1.2, c.2.2⟩
    · cases h
  · cases h
section
variable (T : Tab) (N : List Str)
mutual
def mE : Scope → Ex → Expr → Bool
  | sc, .int i, e => match e with
    | .Constant (.int j) _ _ => i == j
    | _ => false
  | sc, .str x, e => match e with
    | .Constant (.str y) _ _ => x == y
    | _ => false
  | sc, .bl b, e => match e with
    | .Constant (.bool c) _ _ => b == c
    | _ => false
  | sc, .non, e => match e with
    | .Constant .none _ _ => true
    | _ => false
  | sc, .var i, e => match e with
    | .Name x _ => nmB N i x && visB sc x && okN x
    | _ => false
  | sc, .bor i, e => false
  | sc, .glo k, e => match e with
    | .Name x _ => lkB T.glos x k && glB sc x && okN x
    | _ => false
  | sc, .tup es, e => match e with
    | .Tuple xs _ _ => mEs sc es xs
    | _ => false
  | sc, .lst es, e => match e with
    | .List xs _ => mEs sc es xs
    | _ => false
  | sc, .bin o a b, e => match e with
    | .BinOp x op y _ => bopB o op && mE sc a x && mE sc b y
    | _ => false
  | sc, .cmp o a b, e => match e with
    | .Compare x [op] [y] _ => copB o op && mE sc a x && mE sc b y
    | _ => false
  | sc, .chain o p a b c, e => match e with
    | .Compare x [o1, o2] [y, z] _ => copB o o1 && copB p o2 && mE sc a x && mE sc b y && mE sc c z
    | _ => false
  | sc, .neg a, e => match e with
    | .UnaryOp .USub x _ => mE sc a x
    | _ => false
  | sc, .ands es, e => match e with
    | .BoolOp .And xs _ => mEs sc es xs
    | _ => false
  | sc, .ors es, e => match e with
    | .BoolOp .Or xs _ => mEs sc es xs
    | _ => false
  | sc, .not a, e => match e with
    | .UnaryOp .Not x _ => mE sc a x
    | _ => false
  | sc, .ite t a b, e => match e with
    | .IfExp c x y _ => mT sc t c && mE sc a x && mE sc b y
    | _ => false
  | sc, .ix a i, e => match e with
    | .Subscript x y _ => mE sc a x && mE sc i y
    | _ => false
  | sc, .slc a lo hi, e => match e with
    | .Subscript x (.Slice l h none _) _ => mE sc a x && mO sc lo l && mO sc hi h
    | _ => false
  | sc, .fn k es, e => match e with
    | .Call (.Name x _) args [] _ => lkB T.fns x k && glB sc x && okN x && mEs sc es args && !args.isEmpty
    | _ => false
  | sc, .bt f es, e => match e with
    | .Call (.Name x _) args [] _ => btC T sc f x args && mEs sc es (btA f args)
    | _ => false
  | sc, .bm m o es, e => false
  | sc, .me m o es, e => false
  | sc, .mk c es, e => false
  | sc, .att o f, e => false
  | sc, .lc elt (.mk t i ifs own), e => match e with
    | .ListComp el [⟨tg, it, fs, 0⟩] scope _ => blkB N sc scope own && mG N scope t tg && mI sc i it && zipT i tg && (tgIx t).all (fun i => own.contains i) && (match fs with
      | [] => (match ifs with | .yes => true | _ => false)
      | [c] => mT scope ifs c
      | _ => false) && mE scope elt el
    | _ => false
  | sc, .lc2 elt (.mk t i ifs own) (.mk t2 i2 ifs2 own2), e => match lc2Of e with
    | some q => blkB N sc q.scope own && mG N q.scope t q.tg && mI sc i q.it && zipT i q.tg && (tgIx t).all (fun i => own.contains i) && (match q.fs with
      | [] => isYes ifs
      | [c] => mT q.scope ifs c
      | _ => false) && mG N q.scope t2 q.tg2 && mI q.scope i2 q.it2 && zipT i2 q.tg2 && (tgIx t2).all (fun i => own2.contains i) && own2.all (fun i => own.contains i) && (match q.fs2 with
      | [] => isYes ifs2
      | [c] => mT q.scope ifs2 c
      | _ => false) && mE q.scope elt q.el
    | none => false
  | sc, .dc k v g, e => false
  | sc, .dict es, e => false
  | sc, .fs es, e => false
  | sc, .itl f t, e => false
  | sc, .new es, e => match e with
    | .List xs _ => mEs sc es xs
    | _ => false
  | sc, .srt a, e => match onSet T sc "sorted" e with
    | some b => mE sc a b
    | none => false
  | sc, .lset a, e => match onSet T sc "len" e with
    | some b => mE sc a b
    | none => false
def mEs : Scope → Exs → List Expr → Bool
  | sc, .nil, es => es.isEmpty
  | sc, .cons e r, es => match es with
    | x :: xs => mE sc e x && mEs sc r xs
    | [] => false
def mO : Scope → Option Ex → Option Expr → Bool
  | sc, none, o => o.isNone
  | sc, some e, o => match o with
    | some x => mE sc e x
    | none => false
def mT : Scope → Te → Expr → Bool
  | sc, .yes, e => false
  | sc, .ex a, e => mE sc a e && (match e with
    | .Name _ _ => true
    | .Call _ _ _ _ => true
    | .Subscript _ _ _ => true
    | .Attribute _ _ _ => true
    | .Compare _ _ _ _ => true
    | _ => false)
  | sc, .ands ts, e => match e with
    | .BoolOp .And xs _ => mTs sc ts xs
    | _ => false
  | sc, .ors ts, e => match e with
    | .BoolOp .Or xs _ => mTs sc ts xs
    | _ => false
  | sc, .not t, e => match e with
    | .UnaryOp .Not x _ => mT sc t x
    | _ => false
def mTs : Scope → Tes → List Expr → Bool
  | sc, .nil, es => es.isEmpty
  | sc, .cons e r, es => match es with
    | x :: xs => mT sc e x && mTs sc r xs
    | [] => false
def mI : Scope → It → Expr → Bool
  | sc, .ex e, x => mE sc e x
  | sc, .rng es, x => match x with
    | .Call (.Name y _) args [] _ => y == ("range" : Str) && glB sc y && T.bls.contains y && mEs sc es args && (match args with
      | [_] => true
      | [_, _] => true
      | _ => false)
    | _ => false
  | sc, .zip a b, x => match x with
    | .Call (.Name y _) [p, q] [] _ => y == ("zip" : Str) && glB sc y && T.bls.contains y && mE sc a p && mE sc b q
    | _ => false
  | sc, .enum e, x => false
  | sc, .items e, x => false
  | sc, .vals e, x => false
  | sc, .rev e, x => false
end
end
end J

/-! JEv: what each form of an expression gives -/
namespace J
open PySem PySem.Spec PyProof.Rows L2

/-- what is wanted of a value -/
abbrev FinQ (Y : Wd) (Q : VK) : (Nat → Addr) → Store → Hp → D → Prop := fun ρ' st' H' d => ∀ v, RelD Y ρ' st'.length H' d v → Q v H'
/-- a def's promise: what the interpreter says -/
def spI (Y : Wd) (call : Nat → List D → Store → Res D) (k : Nat) : Sp := fun vs H Q E => ∃ ρ st ds, StOk Y ρ st H ∧ RelDs Y ρ st.length H ds vs ∧
  Aft Y (fun c d _ H' => E c d H') [] ρ st H (call k ds st) (FinQ Y Q)
theorem Aft.fn {α : Type} {Y : Wd} {W : WX} {σ : L2.St} {ρ : Nat → Addr} {st : Store} {H : Hp} {r : Res α} {Φ : (Nat → Addr) → Store → Hp → α → Prop} (h : Aft Y W σ ρ st H r Φ) : Aft Y (fun c d _ H' => W c d σ H') [] ρ st H r Φ := by
  cases r with
  | ok a s => exact h
  | exc x s => exact h
  | bad => exact h
theorem Aft.unfn {α : Type} {Y : Wd} {E : XK} {σ : L2.St} {ρ : Nat → Addr} {st : Store} {H : Hp} {r : Res α} {Φ : (Nat → Addr) → Store → Hp → α → Prop} (h : Aft Y (fun c d _ H' => E c d H') [] ρ st H r Φ) : Aft Y (fun c d _ H' => E c d H') σ ρ st H r Φ := by
  cases r with
  | ok a s => exact h
  | exc x s => exact h
  | bad => exact h

structure CtxOk (Y : Wd) (k : Nat) (N : List Str) (sc : Scope) (X : Cx) (W : WX) : Prop where
  prog : X.prog = Y.P
  w : X.w = Y.w
  K : X.K = Y.K
  mg : X.mg = Y.mg
  base : X.base = Y.base
  hN : X.N = N
  calm : X.calm = true
  nd : N.Nodup
  room : Room k X.A
  scp : ∀ x kd, sc.names.lookup x = some kd → X.env.scope.names.lookup x = some kd ∨ (kd = .free ∧ X.env.scope.names.lookup x = some .cell)
  fnx : ∀ x, sc.names.lookup x = some .cell → X.fn x = true
  takes : Takes X W
structure FnFact (Y : Wd) (call : Nat → List D → Store → Res D) (k : Nat) (x : Str) (i : Nat) : Prop where
  ex : ∃ (f : Addr) (fd : FuncData) (ps : List Str), Y.mg x = some (.ref f) ∧ PySem.W.keepIn Y.K (.ref f) = true ∧ Binds Y.K fd ps [] ∧ FnOk Y.P Y.w Y.K Y.mg Y.base (L2.CX Y.P Y.w) k f fd ps (spI Y call i)
structure TabOk (Y : Wd) (T : Tab) (G : Gx) (k : Nat) : Prop where
  fns : ∀ x i, T.fns.lookup x = some i → FnFact Y G.call k x i
  bls : ∀ x, x ∈ T.bls → Y.mg x = none
  glos : ∀ x i, T.glos.lookup x = some i → ∃ d v u, G.glo i = some d ∧ Y.mg x = some u ∧ RelV v u ∧ ∀ ρ n H, RelD Y ρ n H d v
section
variable {Y : Wd} {k : Nat} {N : List Str} {sc : Scope} {X : Cx} {W : WX}
theorem CtxOk.units (c : CtxOk Y k N sc X W) : X.A.units + 200 < cLine := by have := c.room.un; omega
theorem visB_vis (c : CtxOk Y k N sc X W) {x : Str} (h : visB sc x = true) : Vis X.env.scope x := by
  unfold visB at h
  cases e : sc.names.lookup x with
  | none => rw [e] at h; cases h
  | some kd =>
    rw [e] at h
    rcases c.scp x kd e with z | ⟨rfl, z⟩
    · cases kd <;> first | exact .inl z | exact .inr (.inl z) | exact .inr (.inr z) | cases h
    · exact .inr (.inl z)
theorem locB_loc (c : CtxOk Y k N sc X W) {x : Str} (h : locB sc x = true) : Loc X.env.scope x ∧ (X.fn x = true ∨ X.env.scope.names.lookup x = some .local) := by
  unfold locB at h
  cases e : sc.names.lookup x with
  | none => rw [e] at h; cases h
  | some kd =>
    rw [e] at h
    cases kd with
    | «local» => rcases c.scp x _ e with z | ⟨z, _⟩; exact ⟨.inl z, .inr z⟩; cases z
    | cell => rcases c.scp x _ e with z | ⟨z, _⟩; exact ⟨.inr z, .inl (c.fnx x e)⟩; cases z
    | _ => cases h
theorem glB_gl (c : CtxOk Y k N sc X W) {x : Str} (h : glB sc x = true) : Gl X x := by
  unfold glB at h
  cases e : sc.names.lookup x with
  | none => rw [e] at h; cases h
  | some kd =>
    rw [e] at h
    cases kd with
    | globalImplicit => rcases c.scp x _ e with z | ⟨z, _⟩; exact z; cases z
    | _ => cases h
theorem nmB_N (c : CtxOk Y k N sc X W) {i : Nat} {x : Str} (h : nmB N i x = true) : X.N[i]? = some x := by
  unfold nmB at h
  rw [c.hN]
  cases e : N[i]? with
  | none => rw [e] at h; cases h
  | some y => rw [e] at h; rw [eq_of_beq h]
theorem okN_at {x : Str} (h : okN x = true) : (x == ("__debug__" : Str)) = false ∧ (x == ("__classdict__" : Str)) = false ∧ x ≠ "__name__" := by
  unfold okN at h
  simp only [Bool.and_eq_true, Bool.not_eq_true'] at h
  exact ⟨h.1.1, h.1.2, fun e => by rw [e] at h; exact absurd h.2 (by simp)⟩
theorem lkB_at {l : List (Str × Nat)} {x : Str} {j : Nat} (h : lkB l x j = true) : l.lookup x = some j := by
  unfold lkB at h
  cases e : l.lookup x with
  | none => rw [e] at h; cases h
  | some m => rw [e] at h; rw [eq_of_beq h]
end

section
variable {Y : Wd} {W : WX} {H0 : Hp} {X : Cx} {e a b : Expr} {pos : Pos} {k : Nat} {N : List Str} {sc : Scope}
theorem evt_ret {t : TE} {d : D} {v : V} (h : PE X e t) (ht : ∀ σ H Q, Q v H → t σ H Q) (hr : ∀ ρ n H, RelD Y ρ n H d v) : PE X e (EvT Y W H0 fun _ st => .ok d st) := pe_imp h fun σ H Q ⟨ρ, st, env, so, en, a⟩ =>
  ht σ H Q (a ρ H (.refl so) v (hr ρ st.length H))
theorem evt_int {i : Int} {j : Nat} : PE X (.Constant (.int i) j pos) (EvT Y W H0 fun _ st => .ok (.int i) st) := evt_ret pe_int (fun _ _ _ q => q) fun _ _ _ => rel_int
theorem evt_str {i : Str} {j : Nat} : PE X (.Constant (.str i) j pos) (EvT Y W H0 fun _ st => .ok (.str i) st) := evt_ret pe_str (fun _ _ _ q => q) fun _ _ _ => rel_str
theorem evt_bl {i : Bool} {j : Nat} : PE X (.Constant (.bool i) j pos) (EvT Y W H0 fun _ st => .ok (.bl i) st) := evt_ret pe_bl (fun _ _ _ q => q) fun _ _ _ => rel_bl
theorem evt_non {j : Nat} : PE X (.Constant .none j pos) (EvT Y W H0 fun _ st => .ok .non st) := evt_ret pe_non (fun _ _ _ q => q) fun _ _ _ => rel_non
theorem evt_var {i : Nat} {x : Str} (hN : X.N[i]? = some x) (hv : Vis X.env.scope x) (h1 : (x == ("__debug__" : Str)) = false) (h2 : (x == ("__classdict__" : Str)) = false) :
    PE X (.Name x pos) (EvT Y W H0 fun env st => match env[i]? with
      | some (.val d) => .ok d st
      | _ => .bad) := pe_imp (pe_var hN hv h1 h2) fun σ H Q ⟨ρ, st, env, so, en, a⟩ => by
  cases e : env[i]? with
  | none => simp only [e] at a; exact a.elim
  | some sl =>
    simp only [e] at a
    cases sl with
    | val d =>
      obtain ⟨v, e1, r⟩ := en.val i d e
      exact ⟨v, e1, a ρ H (.refl so) v r⟩
    | _ => exact a.elim
theorem evt_glo {x : Str} {v : V} {u : Value} {o : Option D} {d : D} (hg : Gl X x) (hm : X.mg x = some u) (r : RelV v u) (hd : (x == ("__debug__" : Str)) = false) (ho : o = some d) (hr : ∀ ρ n H, RelD Y ρ n H d v) :
    PE X (.Name x pos) (EvT Y W H0 fun _ st => ofO o st) := by
  subst ho
  exact evt_ret (pe_glob hg hm r hd) (fun _ _ _ q => q) hr
/-- two operands -/
theorem evt2 {ra rb : Env → Store → Res D} {f : D → D → Store → Res D} {R : R2} {σ : L2.St} {H : Hp} {Q : VK} (h : EvT Y W H0 (fun env st => bnd (ra env st) fun x s => bnd (rb env s) fun y s' => f x y s') σ H Q)
    (k : ∀ ρ st H x y d e, StOk Y ρ st H → RelD Y ρ st.length H d x → RelD Y ρ st.length H e y → Aft Y W σ ρ st H (f d e st) (FinQ Y Q) → R x y H Q) : tOp R (EvT Y W H0 ra) (EvT Y W H0 rb) σ H Q := by
  obtain ⟨ρ, st, env, so, en, a⟩ := h
  refine ⟨ρ, st, env, so, en, a.bnd.imp fun ρ1 s1 H1 d t1 k1 v hv => ?_⟩
  refine ⟨ρ1, s1, env, t1.ok, en.step so t1, (k1 t1).bnd.imp fun ρ2 s2 H2 e t2 k2 u hu => ?_⟩
  exact k ρ2 s2 H2 v u d e t2.ok (t2.rel t1.ok hv) hu (k2 t2)
theorem evt_bin {ra rb : Env → Store → Res D} (hK : X.K = Y.K) (o : Bop) (ha : PE X a (EvT Y W H0 ra)) (hb : PE X b (EvT Y W H0 rb)) :
    PE X (.BinOp a (bopOf o) b pos) (EvT Y W H0 fun env st => bnd (ra env st) fun x s => bnd (rb env s) fun y s' => ofO (binD o (snap s' x) (snap s' y)) s') :=
  pe_imp (pe_op (op_bin hK o) ha hb) fun σ H Q h => evt2 h fun ρ st H x y d e so hx hy q => by
    obtain ⟨r, hr, q⟩ := q.ofO so
    exact ⟨ρ, st, _, _, r, so, RelB.snap so (.inl hx), RelB.snap so (.inl hy), hr, fun H' v t rv => q ρ H' t v rv⟩
theorem evt_neg {ra : Env → Store → Res D} (ha : PE X a (EvT Y W H0 ra)) : PE X (.UnaryOp .USub a pos) (EvT Y W H0 fun env st => bnd (ra env st) fun x s => match x with
    | .int i => .ok (.int (-i)) s
    | _ => .bad) := pe_imp (pe_un un_neg ha) fun σ H Q ⟨ρ, st, env, so, en, a⟩ => by
  refine ⟨ρ, st, env, so, en, a.bnd.imp fun ρ1 s1 H1 d t1 k1 v hv => ?_⟩
  have k1 := k1 t1
  cases d with
  | int i =>
    have e : v = .int i := by simpa only [RelD] using hv
    exact ⟨i, e, k1 ρ1 H1 (.refl t1.ok) _ rel_int⟩
  | _ => exact k1.elim
theorem evt_not {ra : Env → Store → Res D} (ha : PE X a (EvT Y W H0 ra)) : PE X (.UnaryOp .Not a pos) (EvT Y W H0 fun env st => bnd (ra env st) fun x s => match x with
    | .bl b => .ok (.bl (!b)) s
    | _ => .bad) := pe_imp (pe_not ha) fun σ H Q ⟨ρ, st, env, so, en, a⟩ => by
  refine ⟨ρ, st, env, so, en, a.bnd.imp fun ρ1 s1 H1 d t1 k1 v hv => ?_⟩
  have k1 := k1 t1
  cases d with
  | bl i =>
    have e : v = .bl i := by simpa only [RelD] using hv
    exact ⟨i, e, k1 ρ1 H1 (.refl t1.ok) _ rel_bl⟩
  | _ => exact k1.elim
/-- and, or -/
theorem evt_and {ra rb : Env → Store → Res D} {rest : List Expr} (ha : PE X a (EvT Y W H0 ra)) (hb : PE X (.BoolOp .And (b :: rest) pos) (EvT Y W H0 rb)) :
    PE X (.BoolOp .And (a :: b :: rest) pos) (EvT Y W H0 fun env st => bnd (ra env st) fun x s => match x with
      | .bl true => rb env s
      | .bl false => .ok (.bl false) s
      | _ => .bad) := pe_imp (pe_and ha hb) fun σ H Q ⟨ρ, st, env, so, en, a⟩ => by
  refine ⟨ρ, st, env, so, en, a.bnd.imp fun ρ1 s1 H1 d t1 k1 v hv => ?_⟩
  have k1 := k1 t1
  cases d with
  | bl i =>
    have e : v = .bl i := by simpa only [RelD] using hv
    refine ⟨i, e, ?_⟩
    cases i with
    | true => rw [if_pos rfl]; exact ⟨ρ1, s1, env, t1.ok, en.step so t1, k1⟩
    | false => rw [if_neg Bool.false_ne_true]; exact k1 ρ1 H1 (.refl t1.ok) _ rel_bl
  | _ => exact k1.elim
theorem evt_or {ra rb : Env → Store → Res D} {rest : List Expr} (ha : PE X a (EvT Y W H0 ra)) (hb : PE X (.BoolOp .Or (b :: rest) pos) (EvT Y W H0 rb)) :
    PE X (.BoolOp .Or (a :: b :: rest) pos) (EvT Y W H0 fun env st => bnd (ra env st) fun x s => match x with
      | .bl true => .ok (.bl true) s
      | .bl false => rb env s
      | _ => .bad) := pe_imp (pe_or ha hb) fun σ H Q ⟨ρ, st, env, so, en, a⟩ => by
  refine ⟨ρ, st, env, so, en, a.bnd.imp fun ρ1 s1 H1 d t1 k1 v hv => ?_⟩
  have k1 := k1 t1
  cases d with
  | bl i =>
    have e : v = .bl i := by simpa only [RelD] using hv
    refine ⟨i, e, ?_⟩
    cases i with
    | true => rw [if_pos rfl]; exact k1 ρ1 H1 (.refl t1.ok) _ rel_bl
    | false => rw [if_neg Bool.false_ne_true]; exact ⟨ρ1, s1, env, t1.ok, en.step so t1, k1⟩
  | _ => exact k1.elim
/-- a if t else b -/
theorem evt_ite {c : Expr} {rt : Env → Store → Res Bool} {ra rb : Env → Store → Res D} (ht : PT X c (EvP Y W H0 rt)) (ha : PE X a (EvT Y W H0 ra)) (hb : PE X b (EvT Y W H0 rb)) :
    PE X (.IfExp c a b pos) (EvT Y W H0 fun env st => bnd (rt env st) fun c s => if c then ra env s else rb env s) := pe_imp (pe_ifExp ht ha hb) fun σ H Q ⟨ρ, st, env, so, en, a⟩ => by
  refine ⟨ρ, st, env, so, en, a.bnd.imp fun ρ1 s1 H1 d t1 k1 => ?_⟩
  have k1 := k1 t1
  cases d with
  | true => dsimp only; rw [if_pos rfl]; exact ⟨ρ1, s1, env, t1.ok, en.step so t1, k1⟩
  | false => dsimp only; rw [if_neg Bool.false_ne_true]; exact ⟨ρ1, s1, env, t1.ok, en.step so t1, k1⟩
end
end J

/-! JEv2: comparisons, subscripts, slices, tests, displays, calls -/
namespace J
open PySem PySem.Spec PyProof.Rows L2
section
variable {Y : Wd} {W : WX} {H0 : Hp} {X : Cx} {e a b c : Expr} {pos : Pos} {k : Nat} {N : List Str} {sc : Scope}
/-- a value that is a bool, as a test -/
theorem evp_of {r : Env → Store → Res D} (hr : ∀ env st d s, r env st = .ok d s → ∃ b, d = .bl b) {σ : L2.St} {H : Hp} {Q : Bool → Hp → Prop} (h : EvP Y W H0 (fun env st => bnd (r env st) fun x s => ofO (truth (snap s x)) s) σ H Q) :
    EvT Y W H0 r σ H fun x H' => ∃ k, x = .bl k ∧ Q k H' := by
  obtain ⟨ρ, st, env, so, en, a⟩ := h
  refine ⟨ρ, st, env, so, en, ?_⟩
  dsimp only at a
  cases e : r env st with
  | ok d s =>
    obtain ⟨b, rfl⟩ := hr _ _ _ _ e
    rw [e] at a
    intro ρ' H' t v hv
    exact ⟨b, by simpa only [RelD] using hv, a ρ' H' t⟩
  | exc x s => rw [e] at a; exact a
  | bad => rw [e] at a; exact a
/-- in, not in of a dict -/
def DicIn (X : Cx) (Y : Wd) : Prop := ∀ (op : Cop) (x : D) (kvs : List (D × D)), op = .inn ∨ op = .notin → OpR X (compareOp (copOf op)) fun v y H Q => ∃ ρ n b, RelS Y ρ n H x v ∧ RelS Y ρ n H (.dic kvs) y ∧ cmpD op x (.dic kvs) = some b ∧ Q (.bl b) H
def cmpE (o : Cop) (ra rb : Env → Store → Res D) : Env → Store → Res D := fun env st => bnd (ra env st) fun x s => bnd (rb env s) fun y s' => ofO ((cmpD o (snap s' x) (snap s' y)).map .bl) s'
theorem cmp_imp {ra rb : Env → Store → Res D} {o : Cop} {σ : L2.St} {H : Hp} {Q : VK} (h : EvT Y W H0 (cmpE o ra rb) σ H Q) : tOp (rCmp Y o) (EvT Y W H0 ra) (EvT Y W H0 rb) σ H Q :=
  evt2 (f := fun x y s' => ofO ((cmpD o (snap s' x) (snap s' y)).map .bl) s') h fun ρ st H x y d e so hx hy q => by
    obtain ⟨r, hr, q⟩ := q.ofO so
    cases hc : cmpD o (snap st d) (snap st e) with
    | none => rw [hc] at hr; cases hr
    | some k =>
      rw [hc] at hr
      cases hr
      exact ⟨ρ, st.length, _, _, k, RelB.snap so (.inl hx), RelB.snap so (.inl hy), hc, q ρ H (.refl so) _ rel_bl⟩
theorem bnd_ok {α β : Type} {x : Res α} {f : α → Store → Res β} {b : β} {s : Store} (h : bnd x f = .ok b s) : ∃ a s', x = .ok a s' ∧ f a s' = .ok b s := by
  cases x with
  | ok a s' => exact ⟨a, s', rfl, h⟩
  | exc _ _ => cases h
  | bad => cases h
theorem ofO_ok {α : Type} {o : Option α} {a : α} {s s' : Store} (h : ofO o s = .ok a s') : o = some a ∧ s = s' := by
  cases o with
  | none => cases h
  | some b => cases h; exact ⟨rfl, rfl⟩
theorem cmpE_bl {ra rb : Env → Store → Res D} {o : Cop} (env : Env) (st : Store) (d : D) (s : Store) (h : cmpE o ra rb env st = .ok d s) : ∃ b, d = .bl b := by
  obtain ⟨x, s1, _, h⟩ := bnd_ok h
  obtain ⟨y, s2, _, h⟩ := bnd_ok h
  obtain ⟨h, _⟩ := ofO_ok h
  obtain ⟨b, _, e⟩ := Option.map_eq_some_iff.mp h
  exact ⟨b, e.symm⟩
theorem evt_cmp {ra rb : Env → Store → Res D} (hK : X.K = Y.K) (hu : X.A.units + 200 < cLine) (hd : DicIn X Y) (o : Cop) (ho : okE b = true) (ha : PE X a (EvT Y W H0 ra)) (hb : PE X b (EvT Y W H0 rb)) :
    PE X (.Compare a [copOf o] [b] pos) (EvT Y W H0 (cmpE o ra rb)) :=
  pe_imp (pe_cmpR (op_cmp hK hu o (hd o)) ha hb (behind_ok ho _)) fun _ _ _ h => cmp_imp h
theorem evp_cmp {ra rb : Env → Store → Res D} (hK : X.K = Y.K) (hu : X.A.units + 200 < cLine) (hd : DicIn X Y) (o : Cop) (ho : okE b = true) (ha : PE X a (EvT Y W H0 ra)) (hb : PE X b (EvT Y W H0 rb)) :
    PT X (.Compare a [copOf o] [b] pos) (EvP Y W H0 fun env st => bnd (cmpE o ra rb env st) fun x s => ofO (truth (snap s x)) s) :=
  pt_imp (pt_cmpR (op_cmp hK hu o (hd o)) ha hb (behind_ok ho _)) fun _ _ _ h => cmp_imp (evp_of cmpE_bl h)
def chE (o p : Cop) (ra rb rc : Env → Store → Res D) : Env → Store → Res D := fun env st => bnd (ra env st) fun x s => bnd (rb env s) fun y s' => match cmpD o (snap s' x) (snap s' y) with
    | some true => bnd (rc env s') fun z s'' => ofO ((cmpD p (snap s'' y) (snap s'' z)).map .bl) s''
    | some false => .ok (.bl false) s'
    | none => .bad
theorem chE_bl {ra rb rc : Env → Store → Res D} {o p : Cop} (env : Env) (st : Store) (d : D) (s : Store) (h : chE o p ra rb rc env st = .ok d s) : ∃ b, d = .bl b := by
  obtain ⟨x, s1, _, h⟩ := bnd_ok h
  obtain ⟨y, s2, _, h⟩ := bnd_ok h
  split at h
  · obtain ⟨z, s3, _, h⟩ := bnd_ok h
    obtain ⟨h, _⟩ := ofO_ok h
    obtain ⟨b, _, e⟩ := Option.map_eq_some_iff.mp h
    exact ⟨b, e.symm⟩
  · cases h; exact ⟨_, rfl⟩
  · cases h
theorem ch_imp {ra rb rc : Env → Store → Res D} {o p : Cop} {σ : L2.St} {H : Hp} {Q : VK} (h : EvT Y W H0 (chE o p ra rb rc) σ H Q) : tChain (rCmp Y o) (rCmp Y p) (EvT Y W H0 ra) (EvT Y W H0 rb) (EvT Y W H0 rc) σ H Q := by
  obtain ⟨ρ, st, env, so, en, a⟩ := h
  refine ⟨ρ, st, env, so, en, a.bnd.imp fun ρ1 s1 H1 d t1 k1 v hv => ?_⟩
  refine ⟨ρ1, s1, env, t1.ok, en.step so t1, (k1 t1).bnd.imp fun ρ2 s2 H2 e t2 k2 u hu => ?_⟩
  have k2 := k2 t2
  have hv2 := t2.rel t1.ok hv
  cases hc : cmpD o (snap s2 d) (snap s2 e) with
  | none => simp only [hc] at k2; exact k2.elim
  | some b =>
    simp only [hc] at k2
    refine ⟨ρ2, s2.length, _, _, b, RelB.snap t2.ok (.inl hv2), RelB.snap t2.ok (.inl hu), hc, b, rfl, ?_⟩
    cases b with
    | false => rw [if_neg Bool.false_ne_true]; exact k2 ρ2 H2 (.refl t2.ok) _ rel_bl
    | true =>
      rw [if_pos rfl]
      refine ⟨ρ2, s2, env, t2.ok, (en.step so t1).step t1.ok t2, (Aft.bnd k2).imp fun ρ3 s3 H3 z t3 k3 y hy => ?_⟩
      have k3 := k3 t3
      obtain ⟨r, hr, q⟩ := Aft.ofO t3.ok k3
      cases hc2 : cmpD p (snap s3 e) (snap s3 z) with
      | none => rw [hc2] at hr; cases hr
      | some b2 =>
        rw [hc2] at hr
        cases hr
        exact ⟨ρ3, s3.length, _, _, b2, RelB.snap t3.ok (.inl (t3.rel t2.ok hu)), RelB.snap t3.ok (.inl hy), hc2, q ρ3 H3 (.refl t3.ok) _ rel_bl⟩
theorem last_ok {op op' : CmpOp} (hb : okE b = true) (hc : okE c = true) : lastMarks [op, op'] [b, c] = false := behind_ok hc _
theorem evt_chain {ra rb rc : Env → Store → Res D} (hK : X.K = Y.K) (hu : X.A.units + 200 < cLine) (hd : DicIn X Y) (o p : Cop) (h1 : okE b = true) (h2 : okE c = true) (ha : PE X a (EvT Y W H0 ra)) (hb : PE X b (EvT Y W H0 rb)) (hc : PE X c (EvT Y W H0 rc)) :
    PE X (.Compare a [copOf o, copOf p] [b, c] pos) (EvT Y W H0 (chE o p ra rb rc)) :=
  pe_imp (pe_chain (op_cmp hK hu o (hd o)) (op_cmp hK hu p (hd p)) ha hb hc (last_ok h1 h2)) fun _ _ _ h => ch_imp h
theorem evp_chain {ra rb rc : Env → Store → Res D} (hK : X.K = Y.K) (hu : X.A.units + 200 < cLine) (hd : DicIn X Y) (o p : Cop) (h1 : okE b = true) (h2 : okE c = true) (ha : PE X a (EvT Y W H0 ra)) (hb : PE X b (EvT Y W H0 rb)) (hc : PE X c (EvT Y W H0 rc)) :
    PT X (.Compare a [copOf o, copOf p] [b, c] pos) (EvP Y W H0 fun env st => bnd (chE o p ra rb rc env st) fun x s => ofO (truth (snap s x)) s) :=
  pt_imp (pt_chain (op_cmp hK hu o (hd o)) (op_cmp hK hu p (hd p)) ha hb hc (last_ok h1 h2)) fun _ _ _ h => ch_imp (evp_of chE_bl h)
/-- a dict's truth, subscript -/
def DicTru (X : Cx) (Y : Wd) : Prop := TruR X (fun x H Q => ∃ ρ n kvs, RelS Y ρ n H (.dic kvs) x ∧ Q (!kvs.isEmpty) H)
def DicIx (X : Cx) (Y : Wd) : Prop := IxR X fun x y H Q => ∃ ρ st kvs e r, StOk Y ρ st H ∧ RelS Y ρ st.length H (.dic kvs) x ∧ RelS Y ρ st.length H e y ∧ ixD (.dic kvs) e = some r ∧ ∀ v, RelD Y ρ st.length H r v → Q v H
/-- a test that is a value's truth -/
theorem evp_truth {r : Env → Store → Res D} (hK : X.K = Y.K) (hd : DicTru X Y) (h : PE X e (EvT Y W H0 r)) (he : ∀ whole, isTrue e X.env whole = (do let v ← whole; standAt e.pos; holding [v] (truthy v))) :
    PT X e (EvP Y W H0 fun env st => bnd (r env st) fun x s => ofO (truth (snap s x)) s) := by
  have T : TruR X (fun x H Q => ∃ ρ n d b, RelS Y ρ n H d x ∧ truth d = some b ∧ Q b H) := fun pins s σ H x v Q I rx ⟨ρ, n, d, b, h1, h2, h3⟩ => by
    by_cases hx : ∃ kvs, d = .dic kvs
    · obtain ⟨kvs, rfl⟩ := hx
      simp only [truth, Option.some.injEq] at h2
      subst h2
      exact hd pins s σ H x v Q I rx ⟨ρ, n, kvs, h1, h3⟩
    · exact tru_D hK pins s σ H x v Q I rx ⟨ρ, n, d, b, h1, fun kvs e => hx ⟨kvs, e⟩, h2, h3⟩
  refine pt_imp (pt_truthR h T he) fun σ H Q ⟨ρ, st, env, so, en, a⟩ => ?_
  refine ⟨ρ, st, env, so, en, a.bnd.imp fun ρ1 s1 H1 d t1 k1 v hv => ?_⟩
  obtain ⟨b, hb, q⟩ := Aft.ofO t1.ok (k1 t1)
  exact ⟨ρ1, s1.length, _, b, RelB.snap t1.ok (.inl hv), hb, q ρ1 H1 (.refl t1.ok)⟩
theorem evt_ix {ra rb : Env → Store → Res D} (hK : X.K = Y.K) (hd : DicIx X Y) (ho : okE b = true) (ha : PE X a (EvT Y W H0 ra)) (hb : PE X b (EvT Y W H0 rb)) :
    PE X (.Subscript a b pos) (EvT Y W H0 fun env st => bnd (ra env st) fun x s => bnd (rb env s) fun y s' => ofO (ixD (snap s' x) (snap s' y)) s') := by
  have T : IxR X fun x y H Q => ∃ ρ st d e r, StOk Y ρ st H ∧ RelS Y ρ st.length H d x ∧ RelS Y ρ st.length H e y ∧ ixD d e = some r ∧ ∀ v, RelD Y ρ st.length H r v → Q v H := fun va sl pins s σ H x y v u Q I rx ry ⟨ρ, st, d, e, r, h1, h2, h3, h4, h5⟩ hs => by
    by_cases hx : ∃ kvs, d = .dic kvs
    · obtain ⟨kvs, rfl⟩ := hx
      exact hd va sl pins s σ H x y v u Q I rx ry ⟨ρ, st, kvs, e, r, h1, h2, h3, h4, h5⟩ hs
    · exact ix_D hK va sl pins s σ H x y v u Q I rx ry ⟨ρ, st, d, e, r, h1, h2, h3, fun kvs e => hx ⟨kvs, e⟩, h4, h5⟩ hs
  exact pe_imp (pe_ix T ha hb (ix_ok ho)) fun σ H Q h => evt2 h fun ρ st H x y d e so hx hy q => by
    obtain ⟨r, hr, q⟩ := q.ofO so
    exact ⟨ρ, st, _, _, r, so, RelB.snap so (.inl hx), RelB.snap so (.inl hy), hr, fun v rv => q ρ H (.refl so) v rv⟩
/-- a slice's part -/
def EvO (Y : Wd) (W : WX) (H0 : Hp) (r : Env → Store → Res (Option Int)) : TO := fun σ H Q => ∃ ρ st env, StOk Y ρ st H ∧ EnvOk Y ρ st H0 H env σ ∧
  Aft Y W σ ρ st H (r env st) fun ρ' st' H' o => Q o H'
theorem po_imp {o : Option Expr} {t t' : TO} (h : PO X o t) (k : ∀ σ H Q, t' σ H Q → t σ H Q) : PO X o t' := ⟨fun pins s σ H Q I q => h.run pins s σ H Q I (k _ _ _ q)⟩
theorem evo_none : PO X none (EvO Y W H0 fun _ st => .ok none st) := po_imp po_none fun σ H Q ⟨ρ, st, env, so, en, a⟩ => a ρ H (.refl so)
theorem evo_some {r : Env → Store → Res D} (h : PE X e (EvT Y W H0 r)) : PO X (some e) (EvO Y W H0 fun env st => bnd (r env st) fun x s => match x with
    | .int i => .ok (some i) s
    | _ => .bad) := po_imp (po_some h) fun σ H Q ⟨ρ, st, env, so, en, a⟩ => by
  refine ⟨ρ, st, env, so, en, a.bnd.imp fun ρ1 s1 H1 d t1 k1 v hv => ?_⟩
  have k1 := k1 t1
  cases d with
  | int i =>
    have e : v = .int i := by simpa only [RelD] using hv
    exact ⟨i, e, k1 ρ1 H1 (.refl t1.ok)⟩
  | _ => exact k1.elim
theorem evt_slc {p2 : Pos} {lo hi : Option Expr} {ra : Env → Store → Res D} {rl rh : Env → Store → Res (Option Int)} (hK : X.K = Y.K) (ha : PE X a (EvT Y W H0 ra)) (hl : PO X lo (EvO Y W H0 rl)) (hh : PO X hi (EvO Y W H0 rh)) :
    PE X (.Subscript a (.Slice lo hi none p2) pos) (EvT Y W H0 fun env st => bnd (ra env st) fun x s => bnd (rl env s) fun l s' => bnd (rh env s') fun h s'' => ofO (sliceD (snap s'' x) l h) s'') :=
  pe_imp (pe_slice (sl_D hK) ha hl hh) fun σ H Q ⟨ρ, st, env, so, en, a⟩ => by
    refine ⟨ρ, st, env, so, en, a.bnd.imp fun ρ1 s1 H1 d t1 k1 v hv => ?_⟩
    refine ⟨ρ1, s1, env, t1.ok, en.step so t1, (k1 t1).bnd.imp fun ρ2 s2 H2 l t2 k2 => ?_⟩
    refine ⟨ρ2, s2, env, t2.ok, (en.step so t1).step t1.ok t2, (k2 t2).bnd.imp fun ρ3 s3 H3 h t3 k3 => ?_⟩
    obtain ⟨r, hr, q⟩ := Aft.ofO t3.ok (k3 t3)
    exact ⟨ρ3, s3, _, r, t3.ok, RelB.snap t3.ok (.inl (t3.rel t2.ok (t2.rel t1.ok hv))), hr, fun H' v t rv => q ρ3 H' t v rv⟩
/-- arguments -/
theorem eva_nil : PA X [] (EvA Y W H0 fun _ st => .ok [] st) := pa_imp pa_nil fun σ H Q ⟨ρ, st, env, so, en, a⟩ => a ρ H (.refl so) [] (by simp only [RelDs])
theorem eva_cons {es : List Expr} {r : Env → Store → Res D} {rs : Env → Store → Res (List D)} (ho : okE e = true) (h : PE X e (EvT Y W H0 r)) (hs : PA X es (EvA Y W H0 rs)) :
    PA X (e :: es) (EvA Y W H0 fun env st => bnd (r env st) fun x s => bnd (rs env s) fun xs s' => .ok (x :: xs) s') := pa_imp (pa_cons h hs (star_ok ho es X.env)) fun σ H Q ⟨ρ, st, env, so, en, a⟩ => by
  refine ⟨ρ, st, env, so, en, a.bnd.imp fun ρ1 s1 H1 d t1 k1 v hv => ?_⟩
  refine ⟨ρ1, s1, env, t1.ok, en.step so t1, (k1 t1).bnd.imp fun ρ2 s2 H2 ds t2 k2 vs hvs => ?_⟩
  exact k2 t2 ρ2 H2 (.refl t2.ok) (v :: vs) (by simp only [RelDs]; exact ⟨v, vs, rfl, t2.rel t1.ok hv, hvs⟩)
theorem evt_tup {x1 : Nat} {es : List Expr} {rs : Env → Store → Res (List D)} (hs : PA X es (EvA Y W H0 rs)) : PE X (.Tuple es x1 pos) (EvT Y W H0 fun env st => bnd (rs env st) fun ds s => if ds.length ≤ SZ then .ok (.tup ds) s else .bad) :=
  pe_imp (pe_tup hs) fun σ H Q ⟨ρ, st, env, so, en, a⟩ => by
    refine ⟨ρ, st, env, so, en, a.bnd.imp fun ρ1 s1 H1 ds t1 k1 vs hvs => ?_⟩
    have k1 := k1 t1
    split at k1
    · rename_i hz
      have l := RelDs.length hvs
      have szq := SZ_eq
      refine ⟨by rw [sizeLine_eq, l]; omega, fun p hp => ?_⟩
      exact k1 ρ1 _ (step_fresh t1.ok hp) _ (rel_tup hp hvs)
    · exact k1.elim
/-- what is made and frozen -/
theorem pe_freeze {t0 t : TE} (h : PE X e t0) (k : ∀ σ H Q, t σ H Q → t0 σ H fun x H' => ∃ a u, H' a = some u ∧ Soft u ∧ ∀ o, Q x (upd H' a (.frz o u))) : PE X e t := ⟨fun pins s σ H Q I q =>
  L2.thn (h.run pins s σ H _ I (k σ H Q q)) fun _ _ hh => ep_freeze hh fun _ _ z => z⟩
theorem evt_lst {es : List Expr} {rs : Env → Store → Res (List D)} (hs : PA X es (EvA Y W H0 rs)) : PE X (.List es pos) (EvT Y W H0 fun env st => bnd (rs env st) fun ds s => if ds.length ≤ SZ then .ok (.lst ds) s else .bad) :=
  pe_freeze (pe_lst hs) fun σ H Q ⟨ρ, st, env, so, en, a⟩ => by
    refine ⟨ρ, st, env, so, en, a.bnd.imp fun ρ1 s1 H1 ds t1 k1 vs hvs => ?_⟩
    have k1 := k1 t1
    split at k1
    · rename_i hz
      have l := RelDs.length hvs
      have szq := SZ_eq
      refine ⟨by rw [sizeLine_eq, l]; omega, fun p hp => ⟨p, _, upd_same, trivial, fun o => ?_⟩⟩
      rw [upd_upd]
      exact k1 ρ1 _ (step_fresh t1.ok hp) _ (rel_lst hp hvs)
    · exact k1.elim
/-- a new list of the store -/
theorem step_new {ρ : Nat → Addr} {st : Store} {H : Hp} {p : Addr} {ds : List D} {vs : List V} (s : StOk Y ρ st H) (hp : H p = none) (r : RelDs Y ρ st.length H ds vs) : Step Y ρ st H (fun l => if l = st.length then p else ρ l) (st ++ [.lst ds]) (upd H p (.lst vs)) := by
  have len : (st ++ [MO.lst ds]).length = st.length + 1 := by simp
  have g : Grow ρ st.length (fun l => if l = st.length then p else ρ l) (st ++ [MO.lst ds]).length := ⟨by omega, fun l hl => if_neg (Nat.ne_of_lt hl)⟩
  have ne : ∀ l, l < st.length → ρ l ≠ p := fun l hl z => by
    obtain ⟨u, e, _⟩ := s.soft hl
    rw [z, hp] at e
    cases e
  refine ⟨g, keep_fresh hp, fun l a b => ?_, ⟨fun l o e => ?_, fun l l' a b e => ?_⟩⟩
  · have e : l = st.length := by omega
    rw [if_pos e]; exact hp
  · by_cases hl : l < st.length
    · rw [List.getElem?_append_left hl] at e
      rw [if_neg (Nat.ne_of_lt hl)]
      exact (s.rel l o e).mono g (hk_fresh hp) (upd_ne (ne l hl))
    · have hl2 : l = st.length := by
        have := (List.getElem?_eq_some_iff.mp e).1
        omega
      subst hl2
      rw [List.getElem?_append_right (Nat.le_refl _), Nat.sub_self] at e
      cases e
      rw [if_pos rfl]
      exact ⟨vs, upd_same, RelDs.mono g (hk_fresh hp) ds vs r⟩
  · rw [len] at a b
    by_cases h1 : l = st.length
    · by_cases h2 : l' = st.length
      · omega
      · rw [if_pos h1, if_neg h2] at e
        exact absurd e.symm (ne l' (by omega))
    · by_cases h2 : l' = st.length
      · rw [if_neg h1, if_pos h2] at e
        exact absurd e (ne l (by omega))
      · rw [if_neg h1, if_neg h2] at e
        exact s.inj l l' (by omega) (by omega) e
theorem evt_new {es : List Expr} {rs : Env → Store → Res (List D)} (hs : PA X es (EvA Y W H0 rs)) : PE X (.List es pos) (EvT Y W H0 fun env st => bnd (rs env st) fun ds s => if ds.length ≤ SZ then .ok (.ref s.length) (s ++ [.lst ds]) else .bad) :=
  pe_imp (pe_lst hs) fun σ H Q ⟨ρ, st, env, so, en, a⟩ => by
    refine ⟨ρ, st, env, so, en, a.bnd.imp fun ρ1 s1 H1 ds t1 k1 vs hvs => ?_⟩
    have k1 := k1 t1
    split at k1
    · rename_i hz
      have l := RelDs.length hvs
      have szq := SZ_eq
      refine ⟨by rw [sizeLine_eq, l]; omega, fun p hp => ?_⟩
      refine k1 _ _ (step_new t1.ok hp hvs) _ ?_
      simp only [RelD, List.length_append, List.length_singleton, if_true]
      exact ⟨Nat.lt_succ_self _, trivial⟩
    · exact k1.elim
theorem backTo_any {l : List (Bool × Sem Value)} (h : l.any (·.1) = false) : (backTo pos l).any (·.1) = false := by
  unfold backTo
  rw [List.any_map]
  exact h
/-- a call of a def -/
theorem evt_fn {x : Str} {p : Pos} {es : List Expr} {rs : Env → Store → Res (List D)} {G : Gx} {i : Nat} (c : CtxOk Y k N sc X W) (F : FnFact Y G.call k x i) (hg : Gl X x) (hdb : (x == ("__debug__" : Str)) = false) (ho : es.all okE = true) (hne : es ≠ []) (hs : PA X es (EvA Y W H0 rs)) :
    PE X (.Call (.Name x p) es [] pos) (EvT Y W H0 fun env st => bnd (rs env st) fun ds s => G.call i ds s) := by
  obtain ⟨f, fd, ps, hm, hk, hb, FO⟩ := F.ex
  rw [← c.prog, ← c.w, ← c.K, ← c.mg, ← c.base] at FO
  rw [← c.K] at hk hb
  rw [← c.mg] at hm
  have fin : ∀ {σ H Q}, EvT Y W H0 (fun env st => bnd (rs env st) fun ds s => G.call i ds s) σ H Q → EvA Y W H0 rs σ H fun vs H1 => spI Y G.call i vs H1 Q (WE W σ) := fun {σ H Q} ⟨ρ, st, env, so, en, a⟩ => by
    refine ⟨ρ, st, env, so, en, a.bnd.imp fun ρ1 s1 H1 ds t1 k1 vs hvs => ?_⟩
    exact ⟨ρ1, s1, ds, t1.ok, hvs, (k1 t1).fn⟩
  cases es with
  | nil => exact absurd rfl hne
  | cons e es =>
    rw [List.all_cons, Bool.and_eq_true] at ho
    exact pe_imp (pe_callS FO c.room hg hm hk hb (passAt c.takes) hs hdb (star_ok ho.1 es X.env) (by
      have := stars_any X.env ho.2
      exact backTo_any this)) fun σ H Q h => fin h
end
end J

/-! JBt: built-ins -/
namespace J
open PySem PySem.Spec PyProof.Rows L2

def RelSs (Y : Wd) (ρ : Nat → Addr) (n : Nat) (H : Hp) : List D → List V → Prop
  | [], vs => vs = []
  | d :: ds, vs => ∃ v r, vs = v :: r ∧ RelS Y ρ n H d v ∧ RelSs Y ρ n H ds r
theorem relSs_of {Y : Wd} {ρ : Nat → Addr} {st : Store} {H : Hp} (so : StOk Y ρ st H) : ∀ {ds : List D} {vs : List V}, RelDs Y ρ st.length H ds vs → RelSs Y ρ st.length H (ds.map (snap st)) vs
  | [], _, h => by simpa only [RelDs, RelSs, List.map_nil] using h
  | d :: ds, vs, h => by
    simp only [RelDs] at h
    obtain ⟨v, r, rfl, h1, h2⟩ := h
    simp only [List.map_cons, RelSs]
    exact ⟨v, r, rfl, RelB.snap so (.inl h1), relSs_of so h2⟩
def rBt (Y : Wd) (f : Bt) : List V → Hp → VK → Prop := fun xs H Q => ∃ ρ st ds r, StOk Y ρ st H ∧ RelSs Y ρ st.length H ds xs ∧ btD f ds = some r ∧ Fin1 Y ρ st H r Q
section
variable {Y : Wd} {X : Cx} {ρ : Nat → Addr} {n : Nat} {H : Hp}
theorem relSs_one {d : D} {vs : List V} (h : RelSs Y ρ n H [d] vs) : ∃ v, vs = [v] ∧ RelS Y ρ n H d v := by
  simp only [RelSs] at h
  obtain ⟨v, r, rfl, h1, rfl⟩ := h
  exact ⟨v, rfl, h1⟩
theorem rel_bls : ∀ {ds : List D} {vs : List V} {bs : List Bool}, RelDs Y ρ n H ds vs → bls? ds = some bs → vs = bs.map V.bl
  | [], vs, bs, h, e => by
    simp only [RelDs] at h
    simp only [bls?, Option.some.injEq] at e
    subst h e; rfl
  | d :: ds, vs, bs, h, e => by
    simp only [RelDs] at h
    obtain ⟨v, r, rfl, h1, h2⟩ := h
    cases d with
    | bl b =>
      simp only [bls?, Option.map_eq_some_iff] at e
      obtain ⟨cs, e, rfl⟩ := e
      have : v = .bl b := by simpa only [RelD] using h1
      rw [this, rel_bls h2 e]; rfl
    | _ => simp [bls?] at e
theorem zip_rel : ∀ {ds : List D} {vs : List V} {us : List Value}, RelDs Y ρ n H ds vs → Vals vs us → W.EachIs (fun u (b : D × V) => RelV b.2 u ∧ RelD Y ρ n H b.1 b.2) us (ds.zip vs) ∧ (ds.zip vs).map Prod.fst = ds
  | [], vs, us, h, w => by simp only [RelDs] at h; subst h; cases w; exact ⟨.nil, rfl⟩
  | d :: ds, vs, us, h, w => by
    simp only [RelDs] at h
    obtain ⟨v, r, rfl, h1, h2⟩ := h
    cases w with
    | cons w1 w2 =>
      obtain ⟨a, b⟩ := zip_rel h2 w2
      exact ⟨.cons ⟨w1, h1⟩ a, by rw [List.zip_cons_cons, List.map_cons, b]⟩
theorem each_map2 {α β : Type} {R R' : α → β → Prop} (h : ∀ x y, R x y → R' x y) : ∀ {as : List α} {bs : List β}, W.EachIs R as bs → W.EachIs R' as bs
  | _, _, .nil => .nil
  | _, _, .cons r t => .cons (h _ _ r) (each_map2 h t)
theorem each_in {α β : Type} {R : α → β → Prop} : ∀ {as : List α} {bs : List β}, W.EachIs R as bs → W.EachIs (fun x y => R x y ∧ y ∈ bs) as bs
  | _, _, .nil => .nil
  | _, _, .cons r t => .cons ⟨r, List.mem_cons_self⟩ (each_map2 (fun x y z => ⟨z.1, List.mem_cons_of_mem _ z.2⟩) (each_in t))
theorem vals_each {R : Value → D × V → Prop} (h : ∀ u b, R u b → RelV b.2 u ∧ RelD Y ρ n H b.1 b.2) : ∀ {us : List Value} {bs : List (D × V)}, W.EachIs R us bs → Vals (bs.map Prod.snd) us ∧ RelDs Y ρ n H (bs.map Prod.fst) (bs.map Prod.snd)
  | _, _, .nil => ⟨.nil, by simp only [RelDs, List.map_nil]⟩
  | _, _, .cons r t => by
    obtain ⟨a, b⟩ := vals_each h t
    obtain ⟨c, d⟩ := h _ _ r
    exact ⟨.cons c a, by simp only [RelDs, List.map_cons]; exact ⟨_, _, rfl, d, b⟩⟩
/-- sorted, of a list -/
theorem sorted_list (hK : X.K = Y.K) (hu : X.A.units + 200 < cLine) {pins : List (Addr × Obj)} {σ : L2.St} {st : Store} {s : Shared} {Q : VK} {a : Addr} {ds r : List D} {vs : List V} {us : List Value} (I : Inv X pins σ H s) (so : StOk Y ρ st H) (hl : s.heap.IsList a us.toArray) (rr : RelDs Y ρ st.length H ds vs) (w : Vals vs us)
    (h : sortD ds = some r) (q : Fin1 Y ρ st H (.lst r) Q) : wpAny (model X.prog X.w) X.A (call (.builtin "sorted") [.ref a]) (EP X pins σ Q) X.xe s := by
  unfold sortD at h
  split at h
  case isFalse => cases h
  rename_i c
  simp only [Option.some.injEq] at h
  subst h
  have szl : sizeLine = 16777216 := sizeLine_eq
  have szq := SZ_eq
  rw [Bool.and_eq_true, decide_eq_true_eq] at c
  obtain ⟨c, hz⟩ := c
  unfold sortOk at c
  rw [Bool.and_eq_true, Bool.and_eq_true, Bool.or_eq_true, List.all_eq_true, List.all_eq_true, List.all_eq_true] at c
  obtain ⟨⟨hp, kinds⟩, ali⟩ := c
  have ali : ∀ d ∈ ds, ∀ e ∈ ds, alikeD d e = true := fun d hd => by
    have := List.all_eq_true.mp ali d hd
    exact fun e he => List.all_eq_true.mp this e he
  obtain ⟨ez, em⟩ := zip_rel rr w
  have mem : ∀ b ∈ ds.zip vs, b.1 ∈ ds := fun b hb => by rw [← em]; exact List.mem_map.mpr ⟨b, hb, rfl⟩
  have len : (ds.zip vs).length = ds.length := by rw [← List.length_map (as := ds.zip vs) Prod.fst, em]
  refine W.sorted_data (enc := fun b => toP b.1) hl ez (each_map2 (fun u b z => ?_) (each_in ez)) (fun x hx y hy => ?_) ?_ (by rw [len]; omega) (fun b hb => ?_) fun out hlen hout => ?_
  · obtain ⟨m, e1, _⟩ := plain_deep (hp _ (mem b z.2))
    exact rel_reads hK I b.1 b.2 u z.1.2 z.1.1 e1
  · obtain ⟨b, hb, rfl⟩ := List.mem_map.mp hx
    obtain ⟨b', hb', rfl⟩ := List.mem_map.mp hy
    obtain ⟨m, e1, _⟩ := plain_deep (hp _ (mem b hb))
    obtain ⟨m', e2, _⟩ := plain_deep (hp _ (mem b' hb'))
    rw [alike_toP _ _ e1 e2]
    exact ali _ (mem b hb) _ (mem b' hb')
  · rcases kinds with k | k
    · refine .inl fun x hx => ?_
      obtain ⟨b, hb, rfl⟩ := List.mem_map.mp hx
      have t := k _ (mem b hb)
      generalize b.1 = d at t ⊢
      cases d with
      | tup xs => cases xs with
        | nil => cases t
        | cons y ys => exact ⟨toP y, toPs ys, by simp only [toP, toPs]⟩
      | _ => cases t
    · refine .inr fun x hx => ?_
      obtain ⟨b, hb, rfl⟩ := List.mem_map.mp hx
      have t := k _ (mem b hb)
      have t2 := hp _ (mem b hb)
      generalize b.1 = d at t t2 ⊢
      cases d <;> first | (cases t; done) | (simp [plain, deep] at t2; done) | (simp [toP])
  · obtain ⟨m, e1, e2⟩ := plain_deep (hp _ (mem b hb))
    have := (toP_plain b.1 e1).2
    omega
  · have hn : H (s.heap.objs.size + 1) = none := I.hok.fresh (Nat.le_succ _)
    have cm : Cmpb ds := ⟨hp, ali⟩
    have e := sort_same (f := Prod.fst) cm (List.Perm.of_eq em)
    obtain ⟨hv, hr⟩ := vals_each (Y := Y) (ρ := ρ) (n := st.length) (H := H) (fun u b z => z) hout
    rw [show ((ds.zip vs).mergeSort (W.dataLe false fun b => toP b.1)).map Prod.fst = isort ds from e] at hr
    generalize ((ds.zip vs).mergeSort (W.dataLe false fun b => toP b.1)).map Prod.snd = rs at hv hr
    obtain ⟨cc, hc⟩ := sortedAll_at s.heap us (List.toArray out)
    have hlen2 : rs.length ≤ sizeLine := by
      rw [RelDs.length hr, (isort_perm _).length_eq]
      omega
    have I2 : Inv X pins σ (upd H (s.heap.objs.size + 1) (.lst rs)) { s with heap := sortedAll s.heap us (List.toArray out) } :=
      I.laid (t' := s.toks) (fun b u e => sortedAll_old e) (Nat.le_succ _) ⟨hlen2, out, cc, hv, hc⟩
    exact ep_newList so hr q ⟨.ref _, _, I2, rfl, _, hn, rfl, rfl⟩
theorem call_bt (hu : X.A.units + 200 < cLine) (hK : X.K = Y.K) (hc : X.calm = true) : ∀ (f : Bt), btS f = true → (f = .int ∨ f = .tuple ∨ f = .str ∨ f = .list → ∃ T, CallR X (.type T) (rBt Y f) ∧ bootBuiltins (btN f) = some (.type T)) ∧
    (f = .abs ∨ f = .all ∨ f = .any ∨ f = .len ∨ f = .sorted → ∃ id, CallR X (.builtin id) (rBt Y f) ∧ bootBuiltins (btN f) = some (.builtin id)) := by
  have szl : sizeLine = 16777216 := sizeLine_eq
  have szq := SZ_eq
  intro f hs
  cases f with
  | abs =>
    refine ⟨fun h => by simp at h, fun _ => ⟨"abs", ?_, by first | rfl | kernel_rfl⟩⟩
    intro pins s σ H xs us Q I r h
    obtain ⟨ρ, st, ds, r', so, hr, hb, q⟩ := h
    replace hb : absB ds = some r' := hb
    unfold absB at hb
    split at hb
    · rename_i i
      obtain ⟨v, rfl, hv⟩ := relSs_one hr
      simp only [Option.some.injEq] at hb
      subst hb
      exact call_abs pins s σ H _ us Q I r ⟨i, by rw [relS_int hv], fin_now so q rel_int⟩
    · cases hb
  | all =>
    refine ⟨fun h => by simp at h, fun _ => ⟨"all", ?_, by first | rfl | kernel_rfl⟩⟩
    intro pins s σ H xs us Q I r h
    obtain ⟨ρ, st, ds, r', so, hr, hb, q⟩ := h
    replace hb : allB ds = some r' := hb
    unfold allB at hb
    split at hb
    · rename_i zs
      obtain ⟨v, rfl, hv⟩ := relSs_one hr
      simp only [Option.map_eq_some_iff] at hb
      obtain ⟨bs, hb, rfl⟩ := hb
      obtain ⟨a, vs, rfl, hl, rr⟩ := hv
      have e := rel_bls rr hb
      subst e
      exact cr_all hc pins s σ H _ us Q I r ⟨a, bs, rfl, .inl hl, fin_now so q rel_bl⟩
    · cases hb
  | any =>
    refine ⟨fun h => by simp at h, fun _ => ⟨"any", ?_, by first | rfl | kernel_rfl⟩⟩
    intro pins s σ H xs us Q I r h
    obtain ⟨ρ, st, ds, r', so, hr, hb, q⟩ := h
    replace hb : anyB ds = some r' := hb
    unfold anyB at hb
    split at hb
    · rename_i zs
      obtain ⟨v, rfl, hv⟩ := relSs_one hr
      simp only [Option.map_eq_some_iff] at hb
      obtain ⟨bs, hb, rfl⟩ := hb
      obtain ⟨a, vs, rfl, hl, rr⟩ := hv
      have e := rel_bls rr hb
      subst e
      exact cr_any hc pins s σ H _ us Q I r ⟨a, bs, rfl, .inl hl, fin_now so q rel_bl⟩
    · cases hb
  | int =>
    refine ⟨fun _ => ⟨"int", ?_, by first | rfl | kernel_rfl⟩, fun h => by simp at h⟩
    intro pins s σ H xs us Q I r h
    obtain ⟨ρ, st, ds, r', so, hr, hb, q⟩ := h
    replace hb : intB ds = some r' := hb
    unfold intB at hb
    split at hb
    · rename_i i
      obtain ⟨v, rfl, hv⟩ := relSs_one hr
      simp only [Option.some.injEq] at hb
      subst hb
      exact call_int1 pins s σ H _ us Q I r (.inl ⟨i, by rw [relS_int hv], fin_now so q rel_int⟩)
    · rename_i i
      obtain ⟨v, rfl, hv⟩ := relSs_one hr
      simp only [Option.some.injEq] at hb
      subst hb
      exact call_int1 pins s σ H _ us Q I r (.inr ⟨i, by rw [relS_bl hv], fin_now so q rel_int⟩)
    · rename_i i
      obtain ⟨v, rfl, hv⟩ := relSs_one hr
      split at hb
      · rename_i hz
        obtain ⟨m, e, rfl⟩ := Option.map_eq_some_iff.mp hb
        exact call_int_str pins s σ H _ us Q I r ⟨i, m, by rw [relS_str hv], e, hz, fin_now so q rel_int⟩
      · cases hb
    · cases hb
  | len =>
    refine ⟨fun h => by simp at h, fun _ => ⟨"len", ?_, by first | rfl | kernel_rfl⟩⟩
    intro pins s σ H xs us Q I r h
    obtain ⟨ρ, st, ds, r', so, hr, hb, q⟩ := h
    replace hb : lenB ds = some r' := hb
    unfold lenB at hb
    split at hb
    · rename_i z
      obtain ⟨v, rfl, hv⟩ := relSs_one hr
      split at hb
      · rename_i hz
        cases hb
        exact call_len pins s σ H _ us Q I r ⟨v, z.length, rfl, by rw [relS_str hv]; exact ⟨by omega, rfl⟩, fin_now so q rel_int⟩
      · cases hb
    · rename_i zs
      obtain ⟨v, rfl, hv⟩ := relSs_one hr
      simp only [Option.some.injEq] at hb
      subst hb
      obtain ⟨a, vs, rfl, hl, rr⟩ := relS_tup hv
      rw [← RelDs.length rr] at q
      exact call_len pins s σ H _ us Q I r ⟨_, vs.length, rfl, .inr ⟨vs, by rw [hK]; exact hl, rfl⟩, fin_now so q rel_int⟩
    · rename_i zs
      obtain ⟨v, rfl, hv⟩ := relSs_one hr
      simp only [Option.some.injEq] at hb
      subst hb
      obtain ⟨a, vs, rfl, hl, rr⟩ := hv
      rw [← RelDs.length rr] at q
      exact call_len pins s σ H _ us Q I r ⟨_, vs.length, rfl, .inl ⟨vs, .inl hl, rfl⟩, fin_now so q rel_int⟩
    · rename_i zs
      obtain ⟨v, rfl, hv⟩ := relSs_one hr
      exact hv.elim
    · rename_i zs
      obtain ⟨v, rfl, hv⟩ := relSs_one hr
      simp only [RelS, RelD] at hv
    · rename_i zs
      obtain ⟨v, rfl, hv⟩ := relSs_one hr
      simp only [Option.some.injEq] at hb
      subst hb
      simp only [RelS, RelD] at hv
      obtain ⟨a, vs, rfl, hl, rr⟩ := hv
      rw [← RelDs.length rr] at q
      exact call_len pins s σ H _ us Q I r ⟨_, vs.length, rfl, .inl ⟨vs, by rw [hK]; exact sqK_sql hl, rfl⟩, fin_now so q rel_int⟩
    · cases hb
  | sorted =>
    refine ⟨fun h => by simp at h, fun _ => ⟨"sorted", ?_, by first | rfl | kernel_rfl⟩⟩
    intro pins s σ H xs us Q I r h
    obtain ⟨ρ, st, ds, r', so, hr, hb, q⟩ := h
    replace hb : sortedB ds = some r' := hb
    unfold sortedB at hb
    split at hb
    · rename_i zs
      obtain ⟨v, rfl, hv⟩ := relSs_one hr
      simp only [Option.map_eq_some_iff] at hb
      obtain ⟨rs, hb, rfl⟩ := hb
      obtain ⟨a, vs, rfl, hl, rr⟩ := hv
      obtain ⟨its, w, pl, _⟩ := I.list (.inl hl)
      rw [Vals.ref1 r]
      exact sorted_list hK hu I so pl.isList rr w hb q
    · cases hb
  | tuple =>
    refine ⟨fun _ => ⟨"tuple", ?_, by first | rfl | kernel_rfl⟩, fun h => by simp at h⟩
    intro pins s σ H xs us Q I r h
    obtain ⟨ρ, st, ds, r', so, hr, hb, q⟩ := h
    replace hb : tupleB ds = some r' := hb
    unfold tupleB at hb
    split at hb
    · rename_i zs
      obtain ⟨v, rfl, hv⟩ := relSs_one hr
      simp only [Option.some.injEq] at hb
      subst hb
      obtain ⟨a, vs, rfl, hl, rr⟩ := hv
      exact call_tuple_of pins s σ H _ us Q I r ⟨a, vs, rfl, .inl ⟨.inl hl, fun p hp => q _ _ (step_fresh so hp) (rel_tup hp rr)⟩⟩
    · rename_i zs
      obtain ⟨v, rfl, hv⟩ := relSs_one hr
      simp only [Option.some.injEq] at hb
      subst hb
      obtain ⟨a, vs, rfl, hl, rr⟩ := relS_tup hv
      exact call_tuple_of pins s σ H _ us Q I r ⟨a, vs, rfl, .inr ⟨by rw [hK]; exact hl, fin_now so q (rel_tupAt hl rr)⟩⟩
    · rename_i zs
      obtain ⟨v, rfl, hv⟩ := relSs_one hr
      exact hv.elim
    · cases hb
  | list =>
    refine ⟨fun _ => ⟨"list", ?_, by first | rfl | kernel_rfl⟩, fun h => by simp at h⟩
    intro pins s σ H xs us Q I r h
    obtain ⟨ρ, st, ds, r', so, hr, hb, q⟩ := h
    replace hb : listB ds = some r' := hb
    unfold listB at hb
    split at hb
    · rename_i zs
      obtain ⟨v, rfl, hv⟩ := relSs_one hr
      simp only [Option.some.injEq] at hb
      subst hb
      obtain ⟨a, vs, rfl, hl, rr⟩ := hv
      exact L2.thn (call_list_of pins s σ H _ us (fun x H' => ∃ p, H p = none ∧ x = .ref p ∧ H' = upd H p (.lst vs)) I r ⟨a, vs, rfl, .inl (.inl hl), fun p hp => ⟨p, hp, rfl, rfl⟩⟩) fun _ _ hh => ep_newList so rr q hh
    · rename_i zs
      obtain ⟨v, rfl, hv⟩ := relSs_one hr
      simp only [Option.some.injEq] at hb
      subst hb
      obtain ⟨a, vs, rfl, hl, rr⟩ := relS_tup hv
      exact L2.thn (call_list_of pins s σ H _ us (fun x H' => ∃ p, H p = none ∧ x = .ref p ∧ H' = upd H p (.lst vs)) I r ⟨a, vs, rfl, .inr (by rw [hK]; exact hl), fun p hp => ⟨p, hp, rfl, rfl⟩⟩) fun _ _ hh => ep_newList so rr q hh
    · cases hb
  | str =>
    refine ⟨fun _ => ⟨"str", ?_, by first | rfl | kernel_rfl⟩, fun h => by simp at h⟩
    intro pins s σ H xs us Q I r h
    obtain ⟨ρ, st, ds, r', so, hr, hb, q⟩ := h
    replace hb : strB ds = some r' := hb
    unfold strB at hb
    split at hb
    · rename_i i
      obtain ⟨v, rfl, hv⟩ := relSs_one hr
      split at hb
      · rename_i hz
        cases hb
        exact call_str_int pins s σ H _ us Q I r ⟨i, by rw [relS_int hv], hz, fin_now so q rel_str⟩
      · cases hb
    · rename_i i
      obtain ⟨v, rfl, hv⟩ := relSs_one hr
      simp only [Option.some.injEq] at hb
      subst hb
      exact SkE.call_str_str pins s σ H _ us Q I r ⟨i, by rw [relS_str hv], fin_now so q rel_str⟩
    · cases hb
  | _ => cases hs

variable {W : WX} {H0 : Hp} {k : Nat} {N : List Str} {sc : Scope} {es : List Expr} {pos p : Pos} {rs : Env → Store → Res (List D)}
theorem evt_bt (c : CtxOk Y k N sc X W) (f : Bt) (hf : btS f = true) (hg : Gl X (btN f)) (hm : X.mg (btN f) = none) (ho : es.all okE = true) (hne : es ≠ []) (hs : PA X es (EvA Y W H0 rs)) :
    PE X (.Call (.Name (btN f) p) es [] pos) (EvT Y W H0 fun env st => bnd (rs env st) fun ds s => ofO (btD f (ds.map (snap s))) s) := by
  have fin : ∀ {σ H Q}, EvT Y W H0 (fun env st => bnd (rs env st) fun ds s => ofO (btD f (ds.map (snap s))) s) σ H Q → tCB (rBt Y f) (EvA Y W H0 rs) σ H Q := fun {σ H Q} ⟨ρ, st, env, so, en, a⟩ => by
    refine ⟨ρ, st, env, so, en, a.bnd.imp fun ρ1 s1 H1 ds t1 k1 vs hvs => ?_⟩
    obtain ⟨r, hr, q⟩ := Aft.ofO t1.ok (k1 t1)
    exact ⟨ρ1, s1, _, r, t1.ok, relSs_of t1.ok hvs, hr, fun H' v t rv => q ρ1 H' t v rv⟩
  cases es with
  | nil => exact absurd rfl hne
  | cons e es =>
    rw [List.all_cons, Bool.and_eq_true] at ho
    have hn : btN f ≠ "__name__" := by cases f <;> first | (cases hf; done) | decide
    have hd : (btN f == ("__debug__" : Str)) = false := by cases f <;> first | (cases hf; done) | decide
    obtain ⟨h1, h2⟩ := call_bt (X := X) (Y := Y) c.units c.K c.calm f hf
    by_cases q : f = .int ∨ f = .tuple ∨ f = .str ∨ f = .list
    · obtain ⟨T, hc, hv⟩ := h1 q
      exact pe_imp (pe_callTy hc hg hm hv hs hn hd (star_ok ho.1 es X.env) (backTo_any (stars_any X.env ho.2))) fun σ H Q h => fin h
    · have q2 : f = .abs ∨ f = .all ∨ f = .any ∨ f = .len ∨ f = .sorted := by
        cases f <;> simp at q ⊢ <;> simp [btS] at hf
      obtain ⟨T, hc, hv⟩ := h2 q2
      exact pe_imp (pe_callB hc hg hm hv hs hn hd (star_ok ho.1 es X.env) (backTo_any (stars_any X.env ho.2))) fun σ H Q h => fin h
/-! ### isinstance -/
def tyS : Ty → String
  | .int => "int" | .str => "str" | .bool => "bool" | .tuple => "tuple" | .list => "list" | .dict => "dict"
theorem ty_boot (t : Ty) : bootBuiltins (tyN t) = some (.type (tyS t)) := by cases t <;> first | rfl | kernel_rfl
theorem isi_ok {pins : List (Addr × Obj)} {σ : L2.St} {H : Hp} {s : Shared} (hK : X.K = Y.K) (I : Inv X pins σ H s) {ρ : Nat → Addr} {n : Nat} {d : D} {x : V} {t : Ty} {b : Bool} (h : RelS Y ρ n H d x) (e : isTy t d = some b) :
    ∃ T, TyX X.K H x T ∧ PySem.W.kitOne X.K T (.type (tyS t)) = some b := by
  cases d with
  | non => have : x = .non := by simpa only [RelS, RelD] using h
           subst this; exact ⟨_, .base .non, kit_ty (by cases t <;> cases e <;> decide +kernel)⟩
  | bl k => have := relS_bl h; subst this; exact ⟨_, .base (.bl k), kit_ty (by cases t <;> cases e <;> decide +kernel)⟩
  | int k => have := relS_int h; subst this; exact ⟨_, .base (.int k), kit_ty (by cases t <;> cases e <;> decide +kernel)⟩
  | str k => have := relS_str h; subst this; exact ⟨_, .base (.str k), kit_ty (by cases t <;> cases e <;> decide +kernel)⟩
  | tup ds =>
    obtain ⟨a, vs, rfl, hl, _⟩ := relS_tup h
    rw [← hK] at hl
    rcases hl with (hl | ⟨o, hl⟩) | ⟨o, its, m, hl, hc, _⟩
    · exact ⟨_, .base (.tup hl), kit_ty (by cases t <;> cases e <;> decide +kernel)⟩
    · exact ⟨_, .fTuple hl, kit_ty (by cases t <;> cases e <;> decide +kernel)⟩
    · exact ⟨_, .kTuple hl hc, kit_ty (by cases t <;> cases e <;> decide +kernel)⟩
  | lst ds =>
    obtain ⟨a, vs, rfl, hl, _⟩ := h
    rcases hl with hl | ⟨o, hl⟩
    · exact ⟨_, .base (.lst hl), kit_ty (by cases t <;> cases e <;> decide +kernel)⟩
    · exact ⟨_, .base (.frz hl), kit_ty (by cases t <;> cases e <;> decide +kernel)⟩
  | dic kvs => exact h.elim
  | set ds => cases t <;> cases e
  | ref l => cases t <;> cases e
  | kls ds => cases t <;> cases e
theorem evt_isi {a : Expr} {p2 : Pos} {ra : Env → Store → Res D} (c : CtxOk Y k N sc X W) (t : Ty) (hg : Gl X "isinstance") (hm : X.mg "isinstance" = none) (hg2 : Gl X (tyN t)) (hm2 : X.mg (tyN t) = none) (ho : okE a = true) (ha : PE X a (EvT Y W H0 ra)) :
    PE X (.Call (.Name "isinstance" p) [a, .Name (tyN t) p2] [] pos) (EvT Y W H0 fun env st => bnd (bnd (ra env st) fun x s => .ok [x] s) fun ds s => ofO (btD (.isi t) (ds.map (snap s))) s) := by
  have hn : tyN t ≠ "__name__" := by cases t <;> decide
  have hd : (tyN t == ("__debug__" : Str)) = false := by cases t <;> decide
  have hp : PE X (.Name (tyN t) p2) (tC (.ty (tyS t))) := pe_bltn hg2 hm2 (ty_boot t) rfl hn hd
  have hc : CallR X (.builtin "isinstance") (fun xs H Q => ∃ ρ n d x b, xs = [x, .ty (tyS t)] ∧ RelS Y ρ n H d x ∧ isTy t d = some b ∧ Q (.bl b) H) := fun pins s σ H xs us Q I r ⟨ρ, n, d, x, b, e1, e2, e3, e4⟩ => by
    obtain ⟨T, h1, h2⟩ := isi_ok c.K I e2 e3
    exact call_isi pins s σ H xs us Q I r ⟨x, .ty (tyS t), T, .type (tyS t), b, e1, .ty _, h1, h2, e4⟩
  refine pe_imp (pe_callB hc hg hm (by first | rfl | kernel_rfl) (pa_cons ha (pa_cons hp pa_nil) (star_ok ho _ X.env)) (by decide) (by decide) (star_ok ho _ X.env)) fun σ H Q ⟨ρ, st, env, so, en, a⟩ => ?_
  refine ⟨ρ, st, env, so, en, a.bnd.bnd.imp fun ρ1 s1 H1 d t1 k1 v hv => ?_⟩
  have k1 := k1 t1 ρ1 H1 (.refl t1.ok) t1
  obtain ⟨r, hr, q⟩ := Aft.ofO t1.ok k1
  have hr : (isTy t (snap s1 d)).map D.bl = some r := hr
  obtain ⟨b, hb, rfl⟩ := Option.map_eq_some_iff.mp hr
  exact ⟨ρ1, s1.length, _, v, b, rfl, RelB.snap t1.ok (.inl hv), hb, q ρ1 H1 (.refl t1.ok) _ rel_bl⟩
end
end J

/-! JIt: what is walked -/
namespace J
open PySem PySem.Spec PyProof.Rows L2

/-- nothing, or one new thing -/
def Fresh (H H' : Hp) : Prop := H' = H ∨ ∃ p u, H p = none ∧ H' = upd H p u
structure Yld (Y : Wd) (ρ0 : Nat → Addr) (n0 : Nat) (H0 : Hp) (J : L2.It) (xs : List D) : Prop where
  go : ∀ i ρ n H, Grow ρ0 n0 ρ n → Hk H0 H → i < xs.length → J.go i H
  stop : ∀ i ρ n H, Grow ρ0 n0 ρ n → Hk H0 H → xs.length ≤ i → J.stop i H
  yld : ∀ i ρ n H x H', Grow ρ0 n0 ρ n → Hk H0 H → i < xs.length → J.yld i H x H' → ∃ d, xs[i]? = some d ∧ Fresh H H' ∧ RelD Y ρ n H' d x
section
variable {Y : Wd} {ρ ρ0 : Nat → Addr} {n n0 : Nat} {H H0 H' : Hp} {st : Store}
theorem Fresh.step (f : Fresh H H') (so : StOk Y ρ st H) : Step Y ρ st H ρ st H' := by
  rcases f with rfl | ⟨p, u, hp, rfl⟩
  · exact .refl so
  · exact step_fresh so hp
theorem Step.mono {ρ' : Nat → Addr} {st' : Store} (so : StOk Y ρ st H) (t : Step Y ρ st H ρ' st' H') : Grow ρ st.length ρ' st'.length ∧ Hk H H' := ⟨t.grow, t.hk so⟩
theorem sqF_get {a : Addr} {vs : List V} (h : SqF H a vs) : Rd H a (.lst vs) := let ⟨o, h⟩ := h; .inr ⟨o, h⟩
theorem rd_inj {a : Addr} {vs us : List V} (h : Rd H a (.lst vs)) (h' : Rd H a (.lst us)) : vs = us := by
  rcases h with h | ⟨o, h⟩ <;> rcases h' with h' | ⟨o', h'⟩ <;> rw [h] at h' <;> cases h' <;> rfl
theorem rdT_inj {a : Addr} {vs us : List V} (h : Rd H a (.tup vs)) (h' : Rd H a (.tup us)) : vs = us := by
  rcases h with h | ⟨o, h⟩ <;> rcases h' with h' | ⟨o', h'⟩ <;> rw [h] at h' <;> cases h' <;> rfl
/-- a list at a, whatever stands there -/
theorem yld_list {K : PySem.W.Frag} {a : Addr} {ds : List D} {vs : List V} (h : ∀ H, Hk H0 H → SqL K H a vs) (r : RelDs Y ρ0 n0 H0 ds vs) : Yld Y ρ0 n0 H0 (Itl K a) ds where
  go := fun i ρ n H g k hi => by
    have l := RelDs.length r
    exact ⟨vs, vs[i]'(by omega), h H k, List.getElem?_eq_getElem (by omega)⟩
  stop := fun i ρ n H g k hi => ⟨vs, h H k, by rw [RelDs.length r]; exact hi⟩
  yld := fun i ρ n H x H' g k hi ⟨e, y⟩ => by
    have hx := y vs (h H k)
    have l := RelDs.length r
    obtain ⟨v, e1, e2⟩ := RelDs.get (i := i) r (List.getElem?_eq_getElem hi)
    rw [hx] at e1
    cases e1
    subst e
    exact ⟨_, List.getElem?_eq_getElem hi, .inl rfl, RelD.mono g k _ _ e2⟩
theorem yld_tup {K : PySem.W.Frag} {a : Addr} {ds : List D} {vs : List V} (h : SqT K H0 a vs) (r : RelDs Y ρ0 n0 H0 ds vs) : Yld Y ρ0 n0 H0 (Itt K a) ds where
  go := fun i ρ n H g k hi => by
    have l := RelDs.length r
    exact ⟨vs, vs[i]'(by omega), sqT_hk k h, List.getElem?_eq_getElem (by omega)⟩
  stop := fun i ρ n H g k hi => ⟨vs, sqT_hk k h, by rw [RelDs.length r]; exact hi⟩
  yld := fun i ρ n H x H' g k hi ⟨e, y⟩ => by
    have hx := y vs (sqT_hk k h)
    obtain ⟨v, e1, e2⟩ := RelDs.get (i := i) r (List.getElem?_eq_getElem hi)
    rw [hx] at e1
    cases e1
    subst e
    exact ⟨_, List.getElem?_eq_getElem hi, .inl rfl, RelD.mono g k _ _ e2⟩
theorem yld_str (z : Str) : Yld Y ρ0 n0 H0 (Its z) (z.cps.toList.map fun c => .str ⟨#[c]⟩) where
  go := fun i ρ n H g k hi => by
    simp only [List.length_map, Array.length_toList] at hi
    exact hi
  stop := fun i ρ n H g k hi => by
    simp only [List.length_map, Array.length_toList] at hi
    exact hi
  yld := fun i ρ n H x H' g k hi ⟨e, c, hc, ex⟩ => by
    subst e ex
    refine ⟨.str ⟨#[c]⟩, ?_, .inl rfl, rel_str⟩
    rw [List.getElem?_map, Array.getElem?_toList, hc]
    rfl
theorem yld_rng (lo hi : Int) : Yld Y ρ0 n0 H0 (Itr lo (hi - lo).toNat) (rngD lo hi) where
  go := fun i ρ n H g k h => by
    have h : i < (hi - lo).toNat := by simpa only [rngD, List.length_map, List.length_range] using h
    exact h
  stop := fun i ρ n H g k h => by
    have h : (hi - lo).toNat ≤ i := by simpa only [rngD, List.length_map, List.length_range] using h
    exact h
  yld := fun i ρ n H x H' g k h ⟨e, ex⟩ => by
    subst e ex
    refine ⟨.int (lo + i), ?_, .inl rfl, rel_int⟩
    have h : i < (hi - lo).toNat := by simpa [rngD] using h
    simp [rngD, h]
theorem zip_get {xs ys : List D} {i : Nat} (h : i < (zipD xs ys).length) : ∃ x y, xs[i]? = some x ∧ ys[i]? = some y ∧ (zipD xs ys)[i]? = some (.tup [x, y]) := by
  have h' : i < xs.length ∧ i < ys.length := by simp [zipD] at h; omega
  refine ⟨xs[i], ys[i], List.getElem?_eq_getElem h'.1, List.getElem?_eq_getElem h'.2, ?_⟩
  rw [List.getElem?_eq_getElem h]
  simp [zipD]
theorem rel_pair {p : Addr} {d e : D} {x y : V} (hp : H p = none) (h1 : RelD Y ρ n H d x) (h2 : RelD Y ρ n H e y) : RelD Y ρ n (upd H p (.tup [x, y])) (.tup [d, e]) (.ref p) :=
  rel_tup hp (by simp only [RelDs]; exact ⟨x, _, rfl, h1, y, _, rfl, h2, rfl⟩)
theorem yld_zipL {K : PySem.W.Frag} {a b : Addr} {ds es : List D} {vs us : List V} (h : ∀ H, Hk H0 H → SqL K H a vs) (h' : ∀ H, Hk H0 H → SqL K H b us) (r : RelDs Y ρ0 n0 H0 ds vs) (r' : RelDs Y ρ0 n0 H0 es us) : Yld Y ρ0 n0 H0 (Itz K a b) (zipD ds es) where
  go := fun i ρ n H g k hi => by
    obtain ⟨x, y, e1, e2, _⟩ := zip_get hi
    obtain ⟨v, q1, _⟩ := RelDs.get r e1
    obtain ⟨u, q2, _⟩ := RelDs.get r' e2
    exact ⟨vs, us, v, u, h H k, h' H k, q1, q2⟩
  stop := fun i ρ n H g k hi => by
    refine ⟨vs, us, h H k, h' H k, ?_⟩
    rw [RelDs.length r, RelDs.length r']
    simp [zipD] at hi
    omega
  yld := fun i ρ n H v H' g k hi ⟨p, x, y, ev, hp, eH, y1, y2⟩ => by
    obtain ⟨d, e, e1, e2, e3⟩ := zip_get hi
    obtain ⟨v1, q1, w1⟩ := RelDs.get r e1
    obtain ⟨u1, q2, w2⟩ := RelDs.get r' e2
    have z1 := y1 vs (h H k)
    have z2 := y2 us (h' H k)
    rw [q1] at z1
    rw [q2] at z2
    cases z1
    cases z2
    subst ev eH
    exact ⟨_, e3, .inr ⟨p, _, hp, rfl⟩, rel_pair hp (RelD.mono g k _ _ w1) (RelD.mono g k _ _ w2)⟩
theorem yld_zipT {K : PySem.W.Frag} {a b : Addr} {ds es : List D} {vs us : List V} (h : SqT K H0 a vs) (h' : SqT K H0 b us) (r : RelDs Y ρ0 n0 H0 ds vs) (r' : RelDs Y ρ0 n0 H0 es us) : Yld Y ρ0 n0 H0 (RZ.ItzT K a b) (zipD ds es) where
  go := fun i ρ n H g k hi => by
    obtain ⟨x, y, e1, e2, _⟩ := zip_get hi
    obtain ⟨v, q1, _⟩ := RelDs.get r e1
    obtain ⟨u, q2, _⟩ := RelDs.get r' e2
    exact ⟨vs, us, v, u, sqT_hk k h, sqT_hk k h', q1, q2⟩
  stop := fun i ρ n H g k hi => by
    refine ⟨vs, us, sqT_hk k h, sqT_hk k h', ?_⟩
    rw [RelDs.length r, RelDs.length r']
    simp [zipD] at hi
    omega
  yld := fun i ρ n H v H' g k hi ⟨p, x, y, ev, hp, eH, y1, y2⟩ => by
    obtain ⟨d, e, e1, e2, e3⟩ := zip_get hi
    obtain ⟨v1, q1, w1⟩ := RelDs.get r e1
    obtain ⟨u1, q2, w2⟩ := RelDs.get r' e2
    have z1 := y1 vs (sqT_hk k h)
    have z2 := y2 us (sqT_hk k h')
    rw [q1] at z1
    rw [q2] at z2
    cases z1
    cases z2
    subst ev eH
    exact ⟨_, e3, .inr ⟨p, _, hp, rfl⟩, rel_pair hp (RelD.mono g k _ _ w1) (RelD.mono g k _ _ w2)⟩
end
/-- what is walked -/
def EvI (Y : Wd) (W : WX) (H0 : Hp) (r : Env → Store → Res (List D)) : TI := fun σ H R => ∃ ρ st env, StOk Y ρ st H ∧ EnvOk Y ρ st H0 H env σ ∧
  Aft Y W σ ρ st H (r env st) fun ρ' st' H' xs => ∀ J, Yld Y ρ' st'.length H' J xs → R J H'
section
variable {Y : Wd} {W : WX} {H0 : Hp} {X : Cx} {e tg : Expr} {pos p : Pos} {k : Nat} {N : List Str} {sc : Scope}
theorem pi_imp {t t' : TI} (h : PI X tg e t) (k : ∀ σ H R, t' σ H R → t σ H R) : PI X tg e t' := ⟨fun pins s σ H R I q => h.run pins s σ H R I (k _ _ _ q)⟩
theorem evi_ex {r : Env → Store → Res D} (hK : X.K = Y.K) (h : PE X e (EvT Y W H0 r)) : PI X tg e (EvI Y W H0 fun env st => bnd (r env st) fun x s => ofO (items? x) s) := by
  refine ⟨fun pins s σ H R I hh => ?_⟩
  obtain ⟨ρ, st, env, so, en, a⟩ := hh
  dsimp only at a
  cases e1 : r env st with
  | bad => rw [e1] at a; exact a.elim
  | exc x s1 =>
    rw [e1] at a
    exact (pi_tup h).run pins s σ H R I ⟨ρ, st, env, so, en, by rw [e1]; exact a⟩
  | ok d s1 =>
    rw [e1] at a
    have a : Aft Y W σ ρ st H (ofO (items? d) s1) fun ρ' st' H' xs => ∀ J, Yld Y ρ' st'.length H' J xs → R J H' := a
    cases d with
    | lst ds =>
      refine (pi_list h).run pins s σ H R I ⟨ρ, st, env, so, en, ?_⟩
      rw [e1]
      intro ρ' H' t v hv
      simp only [RelD] at hv
      obtain ⟨b, vs, rfl, hq, rr⟩ := hv
      exact ⟨b, rfl, ⟨vs, sqF_sql hq⟩, a ρ' H' t _ (yld_list (fun H k => sqF_sql (sqF_hk k hq)) rr)⟩
    | kls ds =>
      refine (pi_list h).run pins s σ H R I ⟨ρ, st, env, so, en, ?_⟩
      rw [e1]
      intro ρ' H' t v hv
      simp only [RelD] at hv
      obtain ⟨b, vs, rfl, hq, rr⟩ := hv
      rw [← hK] at hq
      exact ⟨b, rfl, ⟨vs, sqK_sql hq⟩, a ρ' H' t _ (yld_list (fun H k => sqK_sql (sqK_hk k hq)) rr)⟩
    | tup ds =>
      refine (pi_tup h).run pins s σ H R I ⟨ρ, st, env, so, en, ?_⟩
      rw [e1]
      intro ρ' H' t v hv
      simp only [RelD] at hv
      obtain ⟨b, vs, rfl, hq, rr⟩ := hv
      rw [← hK] at hq
      exact ⟨b, rfl, ⟨vs, hq⟩, a ρ' H' t _ (yld_tup hq rr)⟩
    | str z =>
      refine (pi_str h).run pins s σ H R I ⟨ρ, st, env, so, en, ?_⟩
      rw [e1]
      intro ρ' H' t v hv
      have ev : v = .str z := by simpa only [RelD] using hv
      simp only [items?] at a
      split at a
      · exact ⟨z, ev, a ρ' H' t _ (yld_str z)⟩
      · exact a.elim
    | dic kvs =>
      refine (pi_tup h).run pins s σ H R I ⟨ρ, st, env, so, en, ?_⟩
      rw [e1]
      intro ρ' H' t v hv
      simp only [RelD] at hv
    | _ => exact a.elim
theorem relDs_ints1 {ρ : Nat → Addr} {n : Nat} {H : Hp} {i : Int} {vs : List V} (h : RelDs Y ρ n H [.int i] vs) : vs = [.int i] := by
  simp only [RelDs, RelD] at h
  obtain ⟨v, r, rfl, rfl, rfl⟩ := h
  rfl
theorem relDs_ints2 {ρ : Nat → Addr} {n : Nat} {H : Hp} {i j : Int} {vs : List V} (h : RelDs Y ρ n H [.int i, .int j] vs) : vs = [.int i, .int j] := by
  simp only [RelDs, RelD] at h
  obtain ⟨v, r, rfl, rfl, u, r', rfl, rfl, rfl⟩ := h
  rfl
theorem evi_rng1 {a : Expr} {rs : Env → Store → Res (List D)} (hg : Gl X "range") (hm : X.mg "range" = none) (ho : okE a = true) (hl : ∀ env st ds s, rs env st = .ok ds s → ds.length = 1) (ha : PA X [a] (EvA Y W H0 rs)) :
    PI X tg (.Call (.Name "range" p) [a] [] pos) (EvI Y W H0 fun env st => bnd (rs env st) fun ds s => ofO (range? ds) s) :=
  pi_imp (pi_range1 hg hm ha (star_ok ho [] X.env)) fun σ H R ⟨ρ, st, env, so, en, b⟩ => by
    refine ⟨ρ, st, env, so, en, ?_⟩
    dsimp only at b
    cases e1 : rs env st with
    | bad => rw [e1] at b; exact b.elim
    | exc x s1 => rw [e1] at b; exact b
    | ok ds s1 =>
      rw [e1] at b
      have hl := hl _ _ _ _ e1
      intro ρ' H' t vs hv
      match ds, hl with
      | [d], _ =>
        cases d with
        | int j =>
          have b : Aft Y W σ ρ st H (ofO (range? [.int j]) s1) fun ρ' st' H' xs => ∀ J, Yld Y ρ' st'.length H' J xs → R J H' := b
          simp only [range?] at b
          split at b
          · rename_i hz
            refine ⟨j, relDs_ints1 hv, hz.1, hz.2, ?_⟩
            have y := yld_rng (Y := Y) (ρ0 := ρ') (n0 := s1.length) (H0 := H') 0 j
            rw [Int.sub_zero] at y
            exact b ρ' H' t _ y
          · exact b.elim
        | _ => exact b.elim
theorem evi_rng2 {a c : Expr} {rs : Env → Store → Res (List D)} (hg : Gl X "range") (hm : X.mg "range" = none) (ho : okE a = true) (ho2 : okE c = true) (hl : ∀ env st ds s, rs env st = .ok ds s → ds.length = 2) (ha : PA X [a, c] (EvA Y W H0 rs)) :
    PI X tg (.Call (.Name "range" p) [a, c] [] pos) (EvI Y W H0 fun env st => bnd (rs env st) fun ds s => ofO (range? ds) s) :=
  pi_imp (pi_range2 hg hm ha (by rw [star_ok ho, star_ok ho2]; rfl) (star_ok ho2 [] X.env)) fun σ H R ⟨ρ, st, env, so, en, b⟩ => by
    refine ⟨ρ, st, env, so, en, ?_⟩
    dsimp only at b
    cases e1 : rs env st with
    | bad => rw [e1] at b; exact b.elim
    | exc x s1 => rw [e1] at b; exact b
    | ok ds s1 =>
      rw [e1] at b
      have hl := hl _ _ _ _ e1
      intro ρ' H' t vs hv
      match ds, hl with
      | [d, d2], _ =>
        cases d with
        | int i =>
          cases d2 with
          | int j =>
            have b : Aft Y W σ ρ st H (ofO (range? [.int i, .int j]) s1) fun ρ' st' H' xs => ∀ J, Yld Y ρ' st'.length H' J xs → R J H' := b
            simp only [range?] at b
            split at b
            · rename_i hz
              exact ⟨i, j, relDs_ints2 hv, hz, b ρ' H' t _ (yld_rng i j)⟩
            · exact b.elim
          | _ => exact b.elim
        | _ => exact b.elim
theorem evi_zip {a c : Expr} {ra rc : Env → Store → Res D} {elts : List Expr} {kk : Nat} {tpos : Pos} (hK : X.K = Y.K) (hg : Gl X "zip") (hm : X.mg "zip" = none) (ho : okE a = true) (ho2 : okE c = true) (ha : PE X a (EvT Y W H0 ra)) (hc : PE X c (EvT Y W H0 rc)) :
    PI X (.Tuple elts kk tpos) (.Call (.Name "zip" p) [a, c] [] pos) (EvI Y W H0 fun env st => bnd (ra env st) fun x s => bnd (rc env s) fun y s' => ofO (zip2? x y) s') :=
  pi_imp (RZ.pi_zipA hg hm (pa_cons ha (pa_cons hc pa_nil (star_ok ho2 [] X.env)) (star_ok ho _ X.env)) (star_ok ho _ X.env) (by rw [star_ok ho2]; rfl)) fun σ H R ⟨ρ, st, env, so, en, b⟩ => by
    refine ⟨ρ, st, env, so, en, b.bnd.imp fun ρ1 s1 H1 d t1 k1 v hv => ?_⟩
    refine ⟨ρ1, s1, env, t1.ok, en.step so t1, (k1 t1).bnd.imp fun ρ2 s2 H2 e t2 k2 u hu => ?_⟩
    obtain ⟨r, hr, q⟩ := Aft.ofO t2.ok (k2 t2)
    have hv := t2.rel t1.ok hv
    have q := q ρ2 H2 (.refl t2.ok)
    cases d with
    | lst ds =>
      cases e with
      | lst es =>
        cases hr
        simp only [RelD] at hv hu
        obtain ⟨a1, vs, rfl, h1, r1⟩ := hv
        obtain ⟨a2, us, rfl, h2, r2⟩ := hu
        exact ⟨a1, a2, vs, us, rfl, .inl ⟨sqF_sql h1, sqF_sql h2, q _ (yld_zipL (fun H k => sqF_sql (sqF_hk k h1)) (fun H k => sqF_sql (sqF_hk k h2)) r1 r2)⟩⟩
      | _ => cases hr
    | tup ds =>
      cases e with
      | tup es =>
        cases hr
        simp only [RelD] at hv hu
        obtain ⟨a1, vs, rfl, h1, r1⟩ := hv
        obtain ⟨a2, us, rfl, h2, r2⟩ := hu
        rw [← hK] at h1 h2
        exact ⟨a1, a2, vs, us, rfl, .inr ⟨h1, h2, q _ (yld_zipT h1 h2 r1 r2)⟩⟩
      | _ => cases hr
    | _ => cases hr
end
end J

/-! JTg: targets; comprehensions -/
namespace J
open PySem PySem.Spec PyProof.Rows L2

section
variable {Y : Wd} {ρ : Nat → Addr} {st : Store} {H0 H : Hp} {env : Env} {σ : L2.St}
theorem EnvOk.set {i : Nat} {d : D} {v : V} (h : EnvOk Y ρ st H0 H env σ) (r : RelD Y ρ st.length H d v) : EnvOk Y ρ st H0 H (env.set i (.val d)) (σ.set i (some v)) where
  len := by rw [List.length_set, List.length_set]; exact h.len
  val := fun j e q => by
    by_cases hj : i = j
    · subst hj
      by_cases hi : i < env.length
      · rw [List.getElem?_set_self hi] at q
        cases q
        exact ⟨v, List.getElem?_set_self (by rw [h.len]; exact hi), r⟩
      · rw [List.getElem?_eq_none (by rw [List.length_set]; omega)] at q
        cases q
    · rw [List.getElem?_set_ne hj] at q ⊢
      exact h.val j e q
  own := fun j o q => by
    by_cases hj : i = j
    · subst hj
      by_cases hi : i < env.length
      · rw [List.getElem?_set_self hi] at q
        cases q
      · rw [List.getElem?_eq_none (by rw [List.length_set]; omega)] at q
        cases q
    · rw [List.getElem?_set_ne hj] at q ⊢
      obtain ⟨a, e1, e2, e3, e4, u⟩ := h.own j o q
      refine ⟨a, e1, e2, e3, e4, fun m o' q1 q2 => ?_⟩
      by_cases hm : i = m
      · subst hm
        by_cases hi : i < env.length
        · rw [List.getElem?_set_self hi] at q1
          cases q1
        · rw [List.getElem?_eq_none (by rw [List.length_set]; omega)] at q1
          cases q1
      · rw [List.getElem?_set_ne hm] at q1 q2
        exact u m o' q1 q2
theorem EnvOk.wipe1 {i : Nat} (h : EnvOk Y ρ st H0 H env σ) : EnvOk Y ρ st H0 H (env.set i .un) (σ.set i none) where
  len := by rw [List.length_set, List.length_set]; exact h.len
  val := fun j e q => by
    by_cases hj : i = j
    · subst hj
      by_cases hi : i < env.length
      · rw [List.getElem?_set_self hi] at q
        cases q
      · rw [List.getElem?_eq_none (by rw [List.length_set]; omega)] at q
        cases q
    · rw [List.getElem?_set_ne hj] at q ⊢
      exact h.val j e q
  own := fun j o q => by
    by_cases hj : i = j
    · subst hj
      by_cases hi : i < env.length
      · rw [List.getElem?_set_self hi] at q
        cases q
      · rw [List.getElem?_eq_none (by rw [List.length_set]; omega)] at q
        cases q
    · rw [List.getElem?_set_ne hj] at q ⊢
      obtain ⟨a, e1, e2, e3, e4, u⟩ := h.own j o q
      refine ⟨a, e1, e2, e3, e4, fun m o' q1 q2 => ?_⟩
      by_cases hm : i = m
      · subst hm
        by_cases hi : i < env.length
        · rw [List.getElem?_set_self hi] at q1
          cases q1
        · rw [List.getElem?_eq_none (by rw [List.length_set]; omega)] at q1
          cases q1
      · rw [List.getElem?_set_ne hm] at q1 q2
        exact u m o' q1 q2
theorem EnvOk.wipe (h : EnvOk Y ρ st H0 H env σ) : ∀ vs : List Nat, EnvOk Y ρ st H0 H (wipeE env vs) (L2.wipe σ vs)
  | [] => h
  | v :: vs => (EnvOk.wipe h vs).wipe1
end
/-- alike but at some places -/
def Out (is : List Nat) (σ σ' : L2.St) : Prop := σ'.length = σ.length ∧ ∀ j, j ∉ is → σ'[j]? = σ[j]?
theorem Out.set {i : Nat} {v : Option V} {σ : L2.St} : Out [i] σ (σ.set i v) := ⟨List.length_set, fun j h => List.getElem?_set_ne (fun e => h (by rw [e]; exact List.mem_singleton.mpr rfl))⟩
theorem Out.trans {a b : List Nat} {σ σ1 σ2 : L2.St} (x : Out a σ σ1) (y : Out b σ1 σ2) : Out (a ++ b) σ σ2 := ⟨y.1.trans x.1, fun j h => (y.2 j fun z => h (List.mem_append_right _ z)).trans (x.2 j fun z => h (List.mem_append_left _ z))⟩
theorem wipe_at (σ : L2.St) (j : Nat) : ∀ vs : List Nat, (L2.wipe σ vs)[j]? = if j ∈ vs ∧ j < σ.length then some none else σ[j]?
  | [] => by simp [L2.wipe]
  | v :: vs => by
    show ((L2.wipe σ vs).set v none)[j]? = _
    by_cases h : v = j
    · subst h
      by_cases hl : v < σ.length
      · rw [List.getElem?_set_self (by rw [wipe_length]; exact hl), if_pos ⟨List.mem_cons_self, hl⟩]
      · rw [if_neg (fun z => hl z.2), List.getElem?_eq_none (by rw [List.length_set, wipe_length]; omega), List.getElem?_eq_none (by omega)]
    · rw [List.getElem?_set_ne h, wipe_at σ j vs]
      have e : (j ∈ v :: vs) ↔ (j ∈ vs) := by simp [Ne.symm h]
      simp only [e]
theorem Out.wipe {is vs : List Nat} {σ σ' : L2.St} (o : Out is σ σ') (h : ∀ i ∈ is, i ∈ vs) : L2.wipe σ' vs = L2.wipe σ vs := by
  refine List.ext_getElem? fun j => ?_
  rw [wipe_at, wipe_at, o.1]
  by_cases hj : j ∈ vs
  · by_cases hl : j < σ.length
    · rw [if_pos ⟨hj, hl⟩, if_pos ⟨hj, hl⟩]
    · rw [if_neg (fun z => hl z.2), if_neg (fun z => hl z.2), List.getElem?_eq_none (by rw [o.1]; omega), List.getElem?_eq_none (by omega)]
  · rw [if_neg (fun z => hj z.1), if_neg (fun z => hj z.1), o.2 j fun z => hj (h j z)]
theorem wipe_wipe (σ : L2.St) (vs : List Nat) : L2.wipe (L2.wipe σ vs) vs = L2.wipe σ vs := by
  refine List.ext_getElem? fun j => ?_
  rw [wipe_at, wipe_at, wipe_length]
  split <;> rfl
/-- a target -/
def gEv (Y : Wd) (H0 : Hp) (t : Tg) : TG := fun v σ H Q => ∃ ρ st env d env', EnvOk Y ρ st H0 H env σ ∧ RelD Y ρ st.length H d v ∧ asgT t d env = some env' ∧ ∀ σ', EnvOk Y ρ st H0 H env' σ' → Out (tgIx t) σ σ' → Q σ' H
def gEvs (Y : Wd) (H0 : Hp) (ts : List Tg) : TGs := fun vs σ H Q => ∃ ρ st env ds env', EnvOk Y ρ st H0 H env σ ∧ RelDs Y ρ st.length H ds vs ∧ asgTs ts ds env = some env' ∧ ∀ σ', EnvOk Y ρ st H0 H env' σ' → Out (tgIxs ts) σ σ' → Q σ' H
section
variable {Y : Wd} {k : Nat} {N : List Str} {sc : Scope} {X : Cx} {W : WX} {H0 : Hp}
theorem pg_imp {e : Expr} {t t' : TG} (h : PG X e t) (k : ∀ v σ H Q, t' v σ H Q → t v σ H Q) : PG X e t' := ⟨fun pins s σ H v u Q I r q => h.run pins s σ H v u Q I r (k _ _ _ _ q)⟩
theorem pgs_imp {e : List Expr} {t t' : TGs} (h : PGs X e t) (k : ∀ v σ H Q, t' v σ H Q → t v σ H Q) : PGs X e t' := ⟨fun pins s σ H v u Q I r q => h.run pins s σ H v u Q I r (k _ _ _ _ q)⟩
theorem mGs_each : ∀ {ts : List Tg} {es : List Expr}, mGs N sc ts es = true → ∀ env, (assignEach es env).map (·.2) = es.map (fun e => assign e env) ∧ (assignEach es env).findIdx? (·.1) = none ∧ (assignEach es env).length = ts.length
  | [], [], _, _ => ⟨rfl, rfl, rfl⟩
  | [], _ :: _, h, _ => by simp [mGs] at h
  | _ :: _, [], h, _ => by simp [mGs] at h
  | t :: ts, e :: es, h, env => by
    simp only [mGs, Bool.and_eq_true] at h
    obtain ⟨a, b, c⟩ := mGs_each h.2 env
    have key : assignEach (e :: es) env = (false, assign e env) :: assignEach es env := by
      cases t <;> cases e <;> first | rfl | (simp [mG] at h; done)
    rw [key, List.map_cons, a, List.map_cons, List.length_cons, List.length_cons, c]
    refine ⟨rfl, ?_, rfl⟩
    rw [List.findIdx?_cons, b]
    rfl
theorem asgTs_len : ∀ {ts : List Tg} {ds : List D} {env env' : Env}, asgTs ts ds env = some env' → ds.length = ts.length
  | [], [], _, _, _ => rfl
  | [], _ :: _, _, _, h => by simp [asgTs] at h
  | _ :: _, [], _, _, h => by simp [asgTs] at h
  | t :: ts, d :: ds, env, env', h => by
    simp only [asgTs] at h
    split at h
    · rw [List.length_cons, List.length_cons, asgTs_len h]
    · cases h
mutual
theorem pg_tg (c : CtxOk Y k N sc X W) : ∀ (t : Tg) (e : Expr), mG N sc t e = true → PG X e (gEv Y H0 t)
  | .name i, .Name x _, h => by
    simp only [mG, Bool.and_eq_true] at h
    obtain ⟨hl, hf⟩ := locB_loc c h.1.2
    exact pg_imp (pg_name (i := i) (by rw [c.hN]; exact c.nd) (nmB_N c h.1.1) hl hf) fun v σ H Q ⟨ρ, st, env, d, env', en, r, e, q⟩ => by
      simp only [asgT] at e
      split at e
      · cases e
        exact q _ (en.set r) (by simp only [tgIx]; exact .set)
      · cases e
  | .tup ts, .Tuple xs kk _, h => by
    simp only [mG] at h
    obtain ⟨_, h2, h3⟩ := mGs_each h X.env
    exact pg_imp (pg_tup c.calm (pgs_tg c ts xs h) h3 h2) fun v σ H Q ⟨ρ, st, env, d, env', en, r, e, q⟩ => by
      cases d with
      | tup ds =>
        simp only [asgT] at e
        simp only [RelD] at r
        obtain ⟨a, vs, rfl, hq, rr⟩ := r
        refine ⟨a, vs, rfl, by rw [c.K]; exact hq, ?_, ρ, st, env, ds, env', en, rr, e, fun σ' en' o => q σ' en' (by simp only [tgIx]; exact o)⟩
        rw [RelDs.length rr, asgTs_len e]
      | _ => simp [asgT] at e
  | .name _, .BoolOp _ _ _, h => by simp [mG] at h
  | .name _, .NamedExpr _ _ _, h => by simp [mG] at h
  | .name _, .BinOp _ _ _ _, h => by simp [mG] at h
  | .name _, .UnaryOp _ _ _, h => by simp [mG] at h
  | .name _, .Lambda _ _ _ _, h => by simp [mG] at h
  | .name _, .IfExp _ _ _ _, h => by simp [mG] at h
  | .name _, .Dict _ _ _, h => by simp [mG] at h
  | .name _, .Set _ _ _, h => by simp [mG] at h
  | .name _, .ListComp _ _ _ _, h => by simp [mG] at h
  | .name _, .SetComp _ _ _ _, h => by simp [mG] at h
  | .name _, .DictComp _ _ _ _ _, h => by simp [mG] at h
  | .name _, .GeneratorExp _ _ _ _, h => by simp [mG] at h
  | .name _, .Await _ _, h => by simp [mG] at h
  | .name _, .Yield _ _, h => by simp [mG] at h
  | .name _, .YieldFrom _ _, h => by simp [mG] at h
  | .name _, .Compare _ _ _ _, h => by simp [mG] at h
  | .name _, .Call _ _ _ _, h => by simp [mG] at h
  | .name _, .FormattedValue _ _ _ _, h => by simp [mG] at h
  | .name _, .JoinedStr _ _, h => by simp [mG] at h
  | .name _, .Constant _ _ _, h => by simp [mG] at h
  | .name _, .Attribute _ _ _, h => by simp [mG] at h
  | .name _, .Subscript _ _ _, h => by simp [mG] at h
  | .name _, .Starred _ _, h => by simp [mG] at h
  | .name _, .List _ _, h => by simp [mG] at h
  | .name _, .Tuple _ _ _, h => by simp [mG] at h
  | .name _, .Slice _ _ _ _, h => by simp [mG] at h
  | .tup _, .BoolOp _ _ _, h => by simp [mG] at h
  | .tup _, .NamedExpr _ _ _, h => by simp [mG] at h
  | .tup _, .BinOp _ _ _ _, h => by simp [mG] at h
  | .tup _, .UnaryOp _ _ _, h => by simp [mG] at h
  | .tup _, .Lambda _ _ _ _, h => by simp [mG] at h
  | .tup _, .IfExp _ _ _ _, h => by simp [mG] at h
  | .tup _, .Dict _ _ _, h => by simp [mG] at h
  | .tup _, .Set _ _ _, h => by simp [mG] at h
  | .tup _, .ListComp _ _ _ _, h => by simp [mG] at h
  | .tup _, .SetComp _ _ _ _, h => by simp [mG] at h
  | .tup _, .DictComp _ _ _ _ _, h => by simp [mG] at h
  | .tup _, .GeneratorExp _ _ _ _, h => by simp [mG] at h
  | .tup _, .Await _ _, h => by simp [mG] at h
  | .tup _, .Yield _ _, h => by simp [mG] at h
  | .tup _, .YieldFrom _ _, h => by simp [mG] at h
  | .tup _, .Compare _ _ _ _, h => by simp [mG] at h
  | .tup _, .Call _ _ _ _, h => by simp [mG] at h
  | .tup _, .FormattedValue _ _ _ _, h => by simp [mG] at h
  | .tup _, .JoinedStr _ _, h => by simp [mG] at h
  | .tup _, .Constant _ _ _, h => by simp [mG] at h
  | .tup _, .Attribute _ _ _, h => by simp [mG] at h
  | .tup _, .Subscript _ _ _, h => by simp [mG] at h
  | .tup _, .Starred _ _, h => by simp [mG] at h
  | .tup _, .List _ _, h => by simp [mG] at h
  | .tup _, .Name _ _, h => by simp [mG] at h
  | .tup _, .Slice _ _ _ _, h => by simp [mG] at h
theorem pgs_tg (c : CtxOk Y k N sc X W) : ∀ (ts : List Tg) (es : List Expr), mGs N sc ts es = true → PGs X es (gEvs Y H0 ts)
  | [], [], _ => pgs_imp pgs_nil fun v σ H Q ⟨ρ, st, env, ds, env', en, r, e, q⟩ => by
    cases ds with
    | nil =>
      simp only [asgTs, Option.some.injEq] at e
      subst e
      simp only [RelDs] at r
      exact ⟨r, q _ en ⟨rfl, fun _ _ => rfl⟩⟩
    | cons _ _ => simp [asgTs] at e
  | [], _ :: _, h => by simp [mGs] at h
  | _ :: _, [], h => by simp [mGs] at h
  | t :: ts, e :: es, h => by
    have h' := h
    simp only [mGs, Bool.and_eq_true] at h
    exact pgs_imp (pgs_cons (pg_tg c t e h.1) (pgs_tg c ts es h.2) (by
      rw [(mGs_each h' X.env).1, (mGs_each h.2 X.env).1]; rfl)) fun v σ H Q ⟨ρ, st, env, ds, env', en, r, e, q⟩ => by
      cases ds with
      | nil => simp [asgTs] at e
      | cons d ds =>
        simp only [asgTs] at e
        split at e
        · rename_i env1 e1
          simp only [RelDs] at r
          obtain ⟨v, rs, rfl, r1, r2⟩ := r
          exact ⟨v, rs, rfl, ρ, st, env, d, env1, en, r1, e1, fun σ' en' o => ⟨ρ, st, env1, ds, env', en', r2, e, fun σ2 en2 o2 => q σ2 en2 (by simp only [tgIxs]; exact o.trans o2)⟩⟩
        · cases e
end
end
end J

/-! JLc: list comprehensions -/
namespace J
open PySem PySem.Spec PyProof.Rows L2

abbrev WF : WX := fun _ _ _ _ => False
def ownL (N : List Str) (own : List Nat) : List (Str × Nat) := own.map fun i => (N.getD i (Str.empty), i)
theorem ownL_ix (N : List Str) (own : List Nat) : (ownL N own).map (·.2) = own := by
  unfold ownL
  rw [List.map_map]
  exact List.map_id own
section
variable {Y : Wd} {k : Nat} {N : List Str} {sc scope : Scope} {X : Cx} {W : WX} {H0 : Hp} {own : List Nat}
theorem mem_lookup_some {α : Type} : ∀ {l : List (Str × α)} {y : Str × α}, y ∈ l → ∃ v, l.lookup y.1 = some v
  | (a, b) :: r, y, h => by
    rw [List.lookup_cons]
    cases e : y.1 == a with
    | true => exact ⟨b, rfl⟩
    | false =>
      rcases List.mem_cons.mp h with z | z
      · subst z; simp at e
      · exact mem_lookup_some z
theorem blkB_ok (c : CtxOk Y k N sc X W) (h : blkB N sc scope own = true) : BlkOk X.N X.env.scope scope (ownL N own) := by
  unfold blkB at h
  simp only [Bool.and_eq_true, List.all_eq_true] at h
  obtain ⟨⟨h1, h2⟩, h3⟩ := h
  have each := fun y hy => h2 y hy
  refine ⟨?_, fun y hy => ?_, fun p hp => ?_, fun y hy e => ?_, fun y hy e => ?_⟩
  · cases q : scope.kind <;> rw [q] at h1 <;> first | rfl | cases h1
  · have z := each y hy
    split at z <;> first | (rename_i a b; rw [a, b]; done) | cases z
  · unfold ownL at hp
    obtain ⟨i, hi, e⟩ := List.mem_map.mp hp
    have hl := of_decide_eq_true (h3 i hi)
    subst e
    rw [c.hN]
    show N[i]? = some (N.getD i Str.empty)
    rw [List.getElem?_eq_getElem hl, List.getD_eq_getElem?_getD, List.getElem?_eq_getElem hl]
    rfl
  · have z := each y hy
    rw [e] at z
    cases q0 : scope.names.lookup y.1 with
    | none => rw [q0] at z; cases z
    | some kd =>
      rw [q0] at z
      cases kd <;> first
        | (cases z; done)
        | (cases q : sc.names.lookup y.1 with
          | none => rw [q] at z; cases z
          | some kd2 =>
            rw [q] at z
            rcases c.scp _ _ q with w | ⟨w, w'⟩ <;> cases kd2 <;> first | (cases z; done) | exact .inl w | exact .inr w | (cases w; done) | exact .inl w')
  · have z := each y hy
    have key : (own.any (fun i => nmB N i y.1) || !N.contains y.1) = true := by
      cases q0 : scope.names.lookup y.1 with
      | none => rw [q0] at z; cases z
      | some kd =>
        rw [q0] at z
        rcases e with e | e <;> rw [e] at z <;> cases kd <;> first | exact z | (cases z; done)
    rw [Bool.or_eq_true] at key
    rcases key with key | key
    case inr => rw [c.hN]; exact .inr (by simpa using key)
    refine .inl ?_
    obtain ⟨i, hi, e2⟩ := List.any_eq_true.mp key
    unfold nmB at e2
    cases q : N[i]? with
    | none => rw [q] at e2; cases e2
    | some x =>
      rw [q] at e2
      have e2 := eq_of_beq e2
      refine List.mem_map.mpr ⟨(N.getD i Str.empty, i), List.mem_map.mpr ⟨i, hi, rfl⟩, ?_⟩
      show N.getD i Str.empty = y.1
      rw [List.getD_eq_getElem?_getD, q, ← e2]
      rfl
theorem lookup_mapF {sc : Scope} {x : Str} : ∀ {l : List (Str × NameKind)} {kd : NameKind}, l.lookup x = some kd →
    (l.map fun (n, k) => if (k == NameKind.free && sc.kind == .function && sc.names.lookup n == some .cell) then (n, NameKind.cell) else (n, k)).lookup x = some kd ∨
    (kd = .free ∧ (l.map fun (n, k) => if (k == NameKind.free && sc.kind == .function && sc.names.lookup n == some .cell) then (n, NameKind.cell) else (n, k)).lookup x = some .cell)
  | [], _, h => by cases h
  | (n, k0) :: r, kd, h => by
    rw [List.lookup_cons] at h
    rw [List.map_cons]
    cases e : x == n with
    | true =>
      rw [e] at h
      cases h
      by_cases c : (k0 == NameKind.free && sc.kind == .function && sc.names.lookup n == some .cell) = true
      · refine .inr ⟨?_, ?_⟩
        · simp only [Bool.and_eq_true, beq_iff_eq] at c
          exact c.1.1
        · simp only [c, if_true, List.lookup_cons, e]
      · refine .inl ?_
        simp only [c, if_false, List.lookup_cons, e, Bool.false_eq_true]
    | false =>
      rw [e] at h
      have ih := lookup_mapF (sc := sc) h
      have step : ∀ q : Str × NameKind, q.1 = n → List.lookup x (q :: (r.map fun (n, k) => if (k == NameKind.free && sc.kind == .function && sc.names.lookup n == some .cell) then (n, NameKind.cell) else (n, k))) = List.lookup x (r.map fun (n, k) => if (k == NameKind.free && sc.kind == .function && sc.names.lookup n == some .cell) then (n, NameKind.cell) else (n, k)) := fun q hq => by
        obtain ⟨q1, q2⟩ := q
        simp only at hq
        subst hq
        rw [List.lookup_cons, e]
      dsimp only
      by_cases c : (k0 == NameKind.free && sc.kind == .function && sc.names.lookup n == some .cell) = true
      · rw [if_pos c, step _ rfl]; exact ih
      · rw [if_neg c, step _ rfl]; exact ih
theorem CtxOk.blk (c : CtxOk Y k N sc X W) (s : Shared) (H : Hp) (C : Addr) (cl : List (Str × Addr)) (fp : List Addr) : CtxOk Y k N scope (X.blk s H scope (compEnvC scope cl C X.env) fp) WF where
  prog := c.prog
  w := c.w
  K := c.K
  mg := c.mg
  base := c.base
  hN := c.hN
  calm := c.calm
  nd := c.nd
  room := c.room
  scp := fun x kd h => lookup_mapF h
  fnx := fun x h => by
    show (scope.names.lookup x == some NameKind.cell) = true
    rw [h]; rfl
  takes := takes_none5
/-- an object of one's own is written -/
theorem step_upd {ρ ρ1 : Nat → Addr} {st st1 : Store} {H H1 : Hp} {D : Addr} {u u0 : HO} (T : Step Y ρ1 st1 H1 ρ st H) (hD : H1 D = none) (ap : ∀ l, l < st.length → ρ l ≠ D) (h0 : H D = some u0) (hs : Hard u0 = false) :
    Step Y ρ1 st1 H1 ρ st (upd H D u) ∧ Hk H (upd H D u) := by
  have hk : Hk H (upd H D u) := fun a o e h => by
    rw [upd_ne fun z => by rw [z, h0] at e; cases e; rw [hs] at h; cases h]
    exact e
  refine ⟨⟨T.grow, fun a o e n => ?_, T.new, ⟨fun l o e => ?_, T.ok.inj⟩⟩, hk⟩
  · rw [upd_ne fun z => by rw [z, hD] at e; cases e]
    exact T.keep a o e n
  · have hl : l < st.length := (List.getElem?_eq_some_iff.mp e).1
    exact (T.ok.rel l o e).mono .refl hk (upd_ne (ap l hl))
theorem apart_none {ρ : Nat → Addr} {st : Store} {H : Hp} {D : Addr} (so : StOk Y ρ st H) (hD : H D = none) : ∀ l, l < st.length → ρ l ≠ D := fun l hl z => by
  obtain ⟨u, e, _⟩ := so.soft hl
  rw [z, hD] at e
  cases e
def lcF (t : Tg) (own : List Nat) (rt : Env → Store → Res Bool) (re : Env → Store → Res D) (env : Env) : D → Store → Res (Option D) := fun x s' => match asgT t x (wipeE env own) with
  | some env' => bnd (rt env' s') fun b s2 => if b then bnd (re env' s2) fun y s3 => .ok (some y) s3 else .ok none s2
  | none => .bad
def lcE (t : Tg) (own : List Nat) (ri : Env → Store → Res (List D)) (rt : Env → Store → Res Bool) (re : Env → Store → Res D) : Env → Store → Res D := fun env st =>
  bnd (ri env st) fun xs s => bnd (lcL (lcF t own rt re env) [] xs s) fun ys s' => .ok (.lst ys) s'
theorem lc_imp {t : Tg} {ri : Env → Store → Res (List D)} {rt : Env → Store → Res Bool} {re : Env → Store → Res D} (ht : ∀ i ∈ tgIx t, i ∈ own) {σ : L2.St} {H : Hp} {Q : VK} (h : EvT Y W H0 (lcE t own ri rt re) σ H Q) :
    tLc (EvI Y W H0 ri) (gEv Y H0 t) (EvP Y WF H0 rt) (EvT Y WF H0 re) own σ H fun x H' => ∃ a u, H' a = some u ∧ Soft u ∧ ∀ o, Q x (upd H' a (.frz o u)) := by
  have szl : sizeLine = 16777216 := sizeLine_eq
  have szq := SZ_eq
  obtain ⟨ρ, st, env, so, en, a⟩ := h
  refine ⟨ρ, st, env, so, en, a.bnd.imp fun ρ1 s1 H1 xs t1 k1 J yl D hD => ?_⟩
  have k1 := k1 t1
  have en1 := en.step so t1
  refine ⟨fun i m H' => m = xs.length - i ∧ i ≤ xs.length ∧ ∃ ρ st acc accV, Step Y ρ1 s1 H1 ρ st H' ∧ H' D = some (.lst accV) ∧ RelDs Y ρ st.length H' acc accV ∧ (∀ l, l < st.length → ρ l ≠ D) ∧
    Aft Y W σ ρ1 s1 H1 (bnd (lcL (lcF t own rt re env) acc (xs.drop i) st) fun ys s' => .ok (.lst ys) s') (FinQ Y Q), ⟨xs.length, by simp, Nat.zero_le _, ρ1, s1, [], [], step_fresh t1.ok hD, upd_same, by simp only [RelDs], apart_none t1.ok hD, (by rw [List.drop_zero]; exact k1)⟩, ?_⟩
  rintro i m H2 ⟨rfl, hle, ρ2, s2, acc, accV, T, hDl, rr, ap, A⟩
  by_cases hi2 : i < xs.length
  · refine .inr ⟨yl.go i ρ2 s2.length H2 T.grow (T.hk t1.ok) hi2, _, fun H' w => ⟨xs.length - (i + 1), by omega, w⟩, fun x H3 y => ?_⟩
    obtain ⟨d, e1, fr, rd⟩ := yl.yld i ρ2 s2.length H2 x H3 T.grow (T.hk t1.ok) hi2 y
    have ed : xs.drop i = d :: xs.drop (i + 1) := by
      have e1 := (List.getElem?_eq_some_iff.mp e1).2
      rw [List.drop_eq_getElem_cons hi2, e1]
    have T1 := fr.step T.ok
    rw [ed] at A
    simp only [lcL] at A
    cases e2 : asgT t d (wipeE env own) with
    | none => simp only [lcF, e2] at A; exact A.elim
    | some env1 =>
      have en3 : EnvOk Y ρ2 s2 H0 H3 (wipeE env own) (L2.wipe σ own) := (en1.step t1.ok (T.trans T1)).wipe own
      refine ⟨ρ2, s2, wipeE env own, d, env1, en3, rd, e2, fun σ2 en4 out => ⟨(out.wipe ht).trans (wipe_wipe σ own), ?_⟩⟩
      refine ⟨ρ2, s2, env1, T1.ok, en4, ?_⟩
      have hD3 := T1.own T.ok (o := .lst acc) ⟨accV, hDl, rr⟩ ap
      cases e3 : rt env1 s2 with
      | bad => simp only [lcF, e2, e3, bnd] at A; exact A.elim
      | exc _ _ => simp only [lcF, e2, e3, bnd] at A; exact A.elim
      | ok b s3 =>
        intro ρ3 H4 T2
        obtain ⟨⟨accV4, hD4, rr4⟩, ap4⟩ := T2.own T1.ok (o := .lst acc) hD3.1 hD3.2
        have T4 := T.trans (T1.trans T2)
        cases b with
        | false =>
          simp only [lcF, e2, e3, bnd, Bool.false_eq_true, if_false] at A
          dsimp only
          rw [if_neg Bool.false_ne_true]
          exact ⟨rfl, hi2, ρ3, s3, acc, accV4, T4, hD4, rr4, ap4, A⟩
        | true =>
          simp only [lcF, e2, e3, bnd, if_true] at A
          dsimp only
          rw [if_pos rfl]
          refine ⟨ρ3, s3, env1, T2.ok, en4.step T1.ok T2, ?_⟩
          cases e4 : re env1 s3 with
          | bad => simp only [e4] at A; exact A.elim
          | exc _ _ => simp only [e4] at A; exact A.elim
          | ok yd s4 =>
            simp only [e4] at A
            intro ρ4 H5 T3 v hv
            obtain ⟨⟨accV5, hD5, rr5⟩, ap5⟩ := T3.own T2.ok (o := .lst acc) ⟨accV4, hD4, rr4⟩ ap4
            by_cases hz : acc.length < SZ
            · simp only [hz, if_true] at A
              obtain ⟨T5, hk5⟩ := step_upd (u := .lst (accV5 ++ [v])) (T4.trans T3) hD ap5 hD5 rfl
              have l5 := RelDs.length rr5
              refine ⟨accV5, hD5, by omega, rfl, hi2, ρ4, s4, acc ++ [yd], accV5 ++ [v], T5, upd_same, RelDs.append (RelDs.mono .refl hk5 _ _ rr5) ?_, ap5, A⟩
              simp only [RelDs]
              exact ⟨v, [], rfl, RelD.mono .refl hk5 _ _ hv, rfl⟩
            · simp only [hz, if_false] at A
              exact A.elim
  · refine .inl ⟨yl.stop i ρ2 s2.length H2 T.grow (T.hk t1.ok) (by omega), D, _, hDl, trivial, fun o => ?_⟩
    rw [List.drop_eq_nil_of_le (by omega)] at A
    obtain ⟨T5, hk5⟩ := step_upd (u := .frz o (.lst accV)) T hD ap hDl rfl
    refine A ρ2 _ T5 (.ref D) ?_
    simp only [RelD]
    exact ⟨D, accV, rfl, ⟨o, upd_same⟩, RelDs.mono .refl hk5 _ _ rr⟩
theorem evt_lc {elt tg iter : Expr} {ifs : List Expr} {pos : Pos} {t : Tg} {ri : Env → Store → Res (List D)} {rt : Env → Store → Res Bool} {re : Env → Store → Res D} (c : CtxOk Y k N sc X W) (hb : blkB N sc scope own = true) (ht : ∀ i ∈ tgIx t, i ∈ own) (ho : okE iter = true)
    (hi : PI X tg iter (EvI Y W H0 ri)) (hg : ∀ (s : Shared) (H : Hp) (C : Addr) (cl : List (Str × Addr)) (fp : List Addr), PG (X.blk s H scope (compEnvC scope cl C X.env) fp) tg (gEv Y H0 t))
    (hts : ∀ (s : Shared) (H : Hp) (C : Addr) (cl : List (Str × Addr)) (fp : List Addr), PTs (X.blk s H scope (compEnvC scope cl C X.env) fp) ifs (EvP Y WF H0 rt))
    (he : ∀ (s : Shared) (H : Hp) (C : Addr) (cl : List (Str × Addr)) (fp : List Addr), PE (X.blk s H scope (compEnvC scope cl C X.env) fp) elt (EvT Y WF H0 re)) :
    PE X (.ListComp elt [⟨tg, iter, ifs, 0⟩] scope pos) (EvT Y W H0 (lcE t own ri rt re)) := by
  refine pe_freeze (pe_lc c.calm (by rw [c.hN]; exact c.nd) hi (blkB_ok c hb) hg hts he (folded_ok ho X.env)) fun σ H Q h => ?_
  rw [ownL_ix]
  exact lc_imp ht h
end
end J

/-! JLc2: comprehensions of two loops -/
namespace J
open PySem PySem.Spec PyProof.Rows L2

theorem getElem?_set_own {env : Env} {i j : Nat} {s : Slot} {o : MO} (hs : ∀ o, s ≠ .own o) (h : (env.set i s)[j]? = some (.own o)) : env[j]? = some (.own o) ∧ j ≠ i := by
  by_cases e : i = j
  · subst e
    by_cases hl : i < env.length
    · rw [List.getElem?_set_self hl] at h
      exact absurd (Option.some.inj h) (hs o)
    · rw [List.getElem?_eq_none (by rw [List.length_set]; omega)] at h
      cases h
  · rw [List.getElem?_set_ne e] at h
    exact ⟨h, fun z => e z.symm⟩
theorem wipeE_own {env : Env} {j : Nat} {o : MO} : ∀ {vs : List Nat}, (wipeE env vs)[j]? = some (.own o) → env[j]? = some (.own o) ∧ j ∉ vs
  | [], h => ⟨h, fun z => by cases z⟩
  | v :: vs, h => by
    obtain ⟨a, b⟩ := getElem?_set_own (env := wipeE env vs) (s := .un) (fun o z => by cases z) h
    obtain ⟨c, d⟩ := wipeE_own a
    exact ⟨c, fun z => by rcases List.mem_cons.mp z with z | z; exact b z; exact d z⟩
mutual
theorem asgT_own {j : Nat} {o : MO} : ∀ (t : Tg) (d : D) (env env' : Env), asgT t d env = some env' → env'[j]? = some (.own o) → env[j]? = some (.own o) ∧ j ∉ tgIx t
  | .name i, d, env, env', h, g => by
    simp only [asgT] at h
    split at h
    · cases h
      obtain ⟨a, b⟩ := getElem?_set_own (s := .val d) (fun o z => by cases z) g
      exact ⟨a, by simp only [tgIx, List.mem_singleton]; exact b⟩
    · cases h
  | .tup ts, .tup ds, env, env', h, g => by
    simp only [asgT] at h
    simp only [tgIx]
    exact asgTs_own ts ds env env' h g
  | .tup _, .non, _, _, h, _ => by simp [asgT] at h
  | .tup _, .bl _, _, _, h, _ => by simp [asgT] at h
  | .tup _, .int _, _, _, h, _ => by simp [asgT] at h
  | .tup _, .str _, _, _, h, _ => by simp [asgT] at h
  | .tup _, .lst _, _, _, h, _ => by simp [asgT] at h
  | .tup _, .dic _, _, _, h, _ => by simp [asgT] at h
  | .tup _, .set _, _, _, h, _ => by simp [asgT] at h
  | .tup _, .ref _, _, _, h, _ => by simp [asgT] at h
  | .tup _, .kls _, _, _, h, _ => by simp [asgT] at h
theorem asgTs_own {j : Nat} {o : MO} : ∀ (ts : List Tg) (ds : List D) (env env' : Env), asgTs ts ds env = some env' → env'[j]? = some (.own o) → env[j]? = some (.own o) ∧ j ∉ tgIxs ts
  | [], [], env, env', h, g => by
    simp only [asgTs, Option.some.injEq] at h
    subst h
    exact ⟨g, by simp [tgIxs]⟩
  | [], _ :: _, _, _, h, _ => by simp [asgTs] at h
  | _ :: _, [], _, _, h, _ => by simp [asgTs] at h
  | t :: ts, d :: ds, env, env', h, g => by
    simp only [asgTs] at h
    split at h
    · rename_i env1 e1
      obtain ⟨a, b⟩ := asgTs_own ts ds env1 env' h g
      obtain ⟨c, d'⟩ := asgT_own t d env env1 e1 a
      exact ⟨c, by simp only [tgIxs, List.mem_append]; exact fun z => z.elim d' b⟩
    · cases h
end
/-- D is none of the objects of one's own -/
def Away (env : Env) (σ : L2.St) (p : Addr) : Prop := ∀ (i : Nat) o a, env[i]? = some (.own o) → σ[i]? = some (some (.ref a)) → a ≠ p
section
variable {Y : Wd} {ρ : Nat → Addr} {st : Store} {H0 H : Hp} {env env' : Env} {σ σ' : L2.St} {p : Addr} {own : List Nat} {t : Tg} {d : D}
theorem away_none (en : EnvOk Y ρ st H0 H env σ) (hD : H p = none) : Away env σ p := fun i o a h g z => by
  obtain ⟨b, e1, e2, _⟩ := en.own i o h
  obtain ⟨u, e, _⟩ := e2.soft
  rw [g] at e1
  cases e1
  rw [z, hD] at e
  cases e
theorem away_asg (h : Away env σ p) (e : asgT t d (wipeE env own) = some env') (o : Out (tgIx t) (L2.wipe σ own) σ') : Away env' σ' p := fun i w a h1 h2 => by
  obtain ⟨a1, a2⟩ := asgT_own t d _ _ e h1
  obtain ⟨b1, b2⟩ := wipeE_own a1
  rw [o.2 i a2, wipe_at, if_neg (fun z => b2 z.1)] at h2
  exact h i w a b1 h2
theorem EnvOk.write {u u0 : HO} (en : EnvOk Y ρ st H0 H env σ) (aw : Away env σ p) (h0 : H p = some u0) (hs : Hard u0 = false) : EnvOk Y ρ st H0 (upd H p u) env σ := by
  have hk : Hk H (upd H p u) := fun a o e h => by
    rw [upd_ne fun z => by rw [z, h0] at e; cases e; rw [hs] at h; cases h]
    exact e
  refine ⟨en.len, fun i d e => ?_, fun i o e => ?_⟩
  · obtain ⟨v, e1, r⟩ := en.val i d e
    exact ⟨v, e1, RelD.mono .refl hk _ _ r⟩
  · obtain ⟨a, e1, e2, e3⟩ := en.own i o e
    exact ⟨a, e1, e2.mono .refl hk (upd_ne (aw i o a e e1)), e3⟩
end
section
variable {Y : Wd} {k : Nat} {N : List Str} {sc scope : Scope} {X : Cx} {W : WX} {H0 : Hp} {own own2 : List Nat}
def lcF2 (t t2 : Tg) (own own2 : List Nat) (rt rt2 : Env → Store → Res Bool) (ri2 : Env → Store → Res (List D)) (re : Env → Store → Res D) (env : Env) : D → List D → Store → Res (List D) := fun x acc s' => match asgT t x (wipeE env own) with
  | some env' => bnd (rt env' s') fun b s2 => if b then bnd (ri2 env' s2) fun zs s3 => lcL (lcF t2 own2 rt2 re env') acc zs s3 else .ok acc s2
  | none => .bad
def lcE2 (t t2 : Tg) (own own2 : List Nat) (ri : Env → Store → Res (List D)) (rt rt2 : Env → Store → Res Bool) (ri2 : Env → Store → Res (List D)) (re : Env → Store → Res D) : Env → Store → Res D := fun env st =>
  bnd (ri env st) fun xs s => bnd (lcL2 (lcF2 t t2 own own2 rt rt2 ri2 re env) [] xs s) fun ys s' => .ok (.lst ys) s'
theorem lc2_imp {t t2 : Tg} {ri ri2 : Env → Store → Res (List D)} {rt rt2 : Env → Store → Res Bool} {re : Env → Store → Res D} (ht : ∀ i ∈ tgIx t, i ∈ own) (ht2 : ∀ i ∈ tgIx t2, i ∈ own2) {σ : L2.St} {H : Hp} {Q : VK} (h : EvT Y W H0 (lcE2 t t2 own own2 ri rt rt2 ri2 re) σ H Q) :
    tLc2 (EvI Y W H0 ri) (gEv Y H0 t) (EvP Y WF H0 rt) (EvI Y WF H0 ri2) (gEv Y H0 t2) (EvP Y WF H0 rt2) (EvT Y WF H0 re) own own2 σ H fun x H' => ∃ a u, H' a = some u ∧ Soft u ∧ ∀ o, Q x (upd H' a (.frz o u)) := by
  have szl : sizeLine = 16777216 := sizeLine_eq
  have szq := SZ_eq
  obtain ⟨ρ, st, env, so, en, a⟩ := h
  refine ⟨ρ, st, env, so, en, a.bnd.imp fun ρ1 s1 H1 xs t1 k1 J yl D hD => ?_⟩
  have k1 := k1 t1
  have en1 := en.step so t1
  have aw1 := away_none en1 hD
  refine ⟨fun i m H' => m = xs.length - i ∧ i ≤ xs.length ∧ ∃ ρ st acc accV, Step Y ρ1 s1 H1 ρ st H' ∧ H' D = some (.lst accV) ∧ RelDs Y ρ st.length H' acc accV ∧ (∀ l, l < st.length → ρ l ≠ D) ∧
    Aft Y W σ ρ1 s1 H1 (bnd (lcL2 (lcF2 t t2 own own2 rt rt2 ri2 re env) acc (xs.drop i) st) fun ys s' => .ok (.lst ys) s') (FinQ Y Q), ⟨xs.length, by simp, Nat.zero_le _, ρ1, s1, [], [], step_fresh t1.ok hD, upd_same, by simp only [RelDs], apart_none t1.ok hD, (by rw [List.drop_zero]; exact k1)⟩, ?_⟩
  rintro i m H2 ⟨rfl, hle, ρ2, s2, acc, accV, T, hDl, rr, ap, A⟩
  by_cases hi2 : i < xs.length
  · refine .inr ⟨yl.go i ρ2 s2.length H2 T.grow (T.hk t1.ok) hi2, _, fun H' w => ⟨xs.length - (i + 1), by omega, w⟩, fun x H3 y => ?_⟩
    obtain ⟨d, e1, fr, rd⟩ := yl.yld i ρ2 s2.length H2 x H3 T.grow (T.hk t1.ok) hi2 y
    have ed : xs.drop i = d :: xs.drop (i + 1) := by
      have e1 := (List.getElem?_eq_some_iff.mp e1).2
      rw [List.drop_eq_getElem_cons hi2, e1]
    have T1 := fr.step T.ok
    rw [ed] at A
    simp only [lcL2] at A
    cases e2 : asgT t d (wipeE env own) with
    | none => simp only [lcF2, e2] at A; exact A.elim
    | some env1 =>
      have en3 : EnvOk Y ρ2 s2 H0 H3 (wipeE env own) (L2.wipe σ own) := (en1.step t1.ok (T.trans T1)).wipe own
      refine ⟨ρ2, s2, wipeE env own, d, env1, en3, rd, e2, fun σ2 en4 out => ⟨(out.wipe ht).trans (wipe_wipe σ own), ?_⟩⟩
      refine ⟨ρ2, s2, env1, T1.ok, en4, ?_⟩
      have aw2 : Away env1 σ2 D := away_asg aw1 e2 out
      have hD3 := T1.own T.ok (o := .lst acc) ⟨accV, hDl, rr⟩ ap
      cases e3 : rt env1 s2 with
      | bad => simp only [lcF2, e2, e3, bnd] at A; exact A.elim
      | exc _ _ => simp only [lcF2, e2, e3, bnd] at A; exact A.elim
      | ok b s3 =>
        intro ρ3 H4 T2
        obtain ⟨⟨accV4, hD4, rr4⟩, ap4⟩ := T2.own T1.ok (o := .lst acc) hD3.1 hD3.2
        have T4 := T.trans (T1.trans T2)
        cases b with
        | false =>
          simp only [lcF2, e2, e3, bnd, Bool.false_eq_true, if_false] at A
          dsimp only
          rw [if_neg Bool.false_ne_true]
          exact ⟨rfl, hi2, ρ3, s3, acc, accV4, T4, hD4, rr4, ap4, A⟩
        | true =>
          simp only [lcF2, e2, e3, bnd, if_true] at A
          dsimp only
          rw [if_pos rfl]
          refine ⟨ρ3, s3, env1, T2.ok, en4.step T1.ok T2, ?_⟩
          cases e4 : ri2 env1 s3 with
          | bad => simp only [e4] at A; exact A.elim
          | exc _ _ => simp only [e4] at A; exact A.elim
          | ok zs s4 =>
            simp only [e4] at A
            intro ρ4 H5 T3 J1 yl1
            have en5 : EnvOk Y ρ4 s4 H0 H5 env1 σ2 := (en4.step T1.ok T2).step T2.ok T3
            obtain ⟨⟨accV5, hD5, rr5⟩, ap5⟩ := T3.own T2.ok (o := .lst acc) ⟨accV4, hD4, rr4⟩ ap4
            refine ⟨fun j k H' => k = zs.length - j ∧ j ≤ zs.length ∧ ∃ ρ st acc accV, Step Y ρ1 s1 H1 ρ st H' ∧ Grow ρ4 s4.length ρ st.length ∧ Hk H5 H' ∧ EnvOk Y ρ st H0 H' env1 σ2 ∧ H' D = some (.lst accV) ∧ RelDs Y ρ st.length H' acc accV ∧ (∀ l, l < st.length → ρ l ≠ D) ∧
              Aft Y W σ ρ1 s1 H1 (bnd (match lcL (lcF t2 own2 rt2 re env1) acc (zs.drop j) st with
                | .ok acc' s => lcL2 (lcF2 t t2 own own2 rt rt2 ri2 re env) acc' (xs.drop (i + 1)) s
                | .exc _ _ => .bad
                | .bad => .bad) fun ys s' => .ok (.lst ys) s') (FinQ Y Q), ⟨zs.length, by simp, Nat.zero_le _, ρ4, s4, acc, accV5, T4.trans T3, .refl, .refl, en5, hD5, rr5, ap5, (by rw [List.drop_zero]; exact A)⟩, ?_⟩
            clear A
            rintro j m H6 ⟨rfl, hle2, ρ6, s6, acc6, accV6, T6, g6, hk6, en6, hD6, rr6, ap6, A⟩
            by_cases hj : j < zs.length
            · refine .inr ⟨yl1.go j ρ6 s6.length H6 g6 hk6 hj, _, fun H' w => ⟨zs.length - (j + 1), by omega, w⟩, fun x H7 y => ?_⟩
              obtain ⟨d2, f1, fr2, rd2⟩ := yl1.yld j ρ6 s6.length H6 x H7 g6 hk6 hj y
              have ed2 : zs.drop j = d2 :: zs.drop (j + 1) := by
                have f1 := (List.getElem?_eq_some_iff.mp f1).2
                rw [List.drop_eq_getElem_cons hj, f1]
              have T7 := fr2.step T6.ok
              rw [ed2] at A
              simp only [lcL] at A
              cases f2 : asgT t2 d2 (wipeE env1 own2) with
              | none => simp only [lcF, f2] at A; exact A.elim
              | some env2 =>
                have en7 := en6.step T6.ok T7
                refine ⟨ρ6, s6, wipeE env1 own2, d2, env2, en7.wipe own2, rd2, f2, fun σ3 en8 out2 => ⟨(out2.wipe ht2).trans (wipe_wipe σ2 own2), ?_⟩⟩
                refine ⟨ρ6, s6, env2, T7.ok, en8, ?_⟩
                have hD7 := T7.own T6.ok (o := .lst acc6) ⟨accV6, hD6, rr6⟩ ap6
                cases f3 : rt2 env2 s6 with
                | bad => simp only [lcF, f2, f3, bnd] at A; exact A.elim
                | exc _ _ => simp only [lcF, f2, f3, bnd] at A; exact A.elim
                | ok b s7 =>
                  intro ρ7 H8 T8
                  obtain ⟨⟨accV8, hD8, rr8⟩, ap8⟩ := T8.own T7.ok (o := .lst acc6) hD7.1 hD7.2
                  have T9 := T6.trans (T7.trans T8)
                  cases b with
                  | false =>
                    simp only [lcF, f2, f3, bnd, Bool.false_eq_true, if_false] at A
                    dsimp only
                    rw [if_neg Bool.false_ne_true]
                    exact ⟨rfl, hj, ρ7, s7, acc6, accV8, T9, g6.trans (T7.grow.trans T8.grow), hk6.trans ((T7.hk T6.ok).trans (T8.hk T7.ok)), en7.step T7.ok T8, hD8, rr8, ap8, A⟩
                  | true =>
                    simp only [lcF, f2, f3, bnd, if_true] at A
                    dsimp only
                    rw [if_pos rfl]
                    refine ⟨ρ7, s7, env2, T8.ok, en8.step T7.ok T8, ?_⟩
                    cases f4 : re env2 s7 with
                    | bad => simp only [f4] at A; exact A.elim
                    | exc _ _ => simp only [f4] at A; exact A.elim
                    | ok yd s8 =>
                      simp only [f4] at A
                      intro ρ8 H9 T10 v hv
                      obtain ⟨⟨accV9, hD9, rr9⟩, ap9⟩ := T10.own T8.ok (o := .lst acc6) ⟨accV8, hD8, rr8⟩ ap8
                      by_cases hz : acc6.length < SZ
                      · simp only [hz, if_true] at A
                        obtain ⟨T11, hk11⟩ := step_upd (u := .lst (accV9 ++ [v])) (T9.trans T10) hD ap9 hD9 rfl
                        have l9 := RelDs.length rr9
                        refine ⟨accV9, hD9, by omega, rfl, hj, ρ8, s8, acc6 ++ [yd], accV9 ++ [v], T11, g6.trans (T7.grow.trans (T8.grow.trans T10.grow)), hk6.trans ((T7.hk T6.ok).trans ((T8.hk T7.ok).trans ((T10.hk T8.ok).trans hk11))),
                          ((en7.step T7.ok T8).step T8.ok T10).write aw2 hD9 rfl, upd_same, RelDs.append (RelDs.mono .refl hk11 _ _ rr9) ?_, ap9, A⟩
                        simp only [RelDs]
                        exact ⟨v, [], rfl, RelD.mono .refl hk11 _ _ hv, rfl⟩
                      · simp only [hz, if_false] at A
                        exact A.elim
            · refine .inl ⟨yl1.stop j ρ6 s6.length H6 g6 hk6 (by omega), rfl, hi2, ρ6, s6, acc6, accV6, T6, hD6, rr6, ap6, ?_⟩
              rw [List.drop_eq_nil_of_le (by omega)] at A
              exact A
  · refine .inl ⟨yl.stop i ρ2 s2.length H2 T.grow (T.hk t1.ok) (by omega), D, _, hDl, trivial, fun o => ?_⟩
    rw [List.drop_eq_nil_of_le (by omega)] at A
    obtain ⟨T5, hk5⟩ := step_upd (u := .frz o (.lst accV)) T hD ap hDl rfl
    refine A ρ2 _ T5 (.ref D) ?_
    simp only [RelD]
    exact ⟨D, accV, rfl, ⟨o, upd_same⟩, RelDs.mono .refl hk5 _ _ rr⟩
theorem evt_lc2 {elt tg iter tg2 iter2 : Expr} {ifs ifs2 : List Expr} {pos : Pos} {t t2 : Tg} {ri ri2 : Env → Store → Res (List D)} {rt rt2 : Env → Store → Res Bool} {re : Env → Store → Res D} (c : CtxOk Y k N sc X W) (hb : blkB N sc scope own = true) (ht : ∀ i ∈ tgIx t, i ∈ own)
    (ht2 : ∀ i ∈ tgIx t2, i ∈ own2) (hw : ∀ i ∈ own2, i ∈ own) (ho : okE iter = true) (ho2 : okE iter2 = true) (hi : PI X tg iter (EvI Y W H0 ri))
    (hg : ∀ (s : Shared) (H : Hp) (C : Addr) (cl : List (Str × Addr)) (fp : List Addr), PG (X.blk s H scope (compEnvC scope cl C X.env) fp) tg (gEv Y H0 t))
    (hts : ∀ (s : Shared) (H : Hp) (C : Addr) (cl : List (Str × Addr)) (fp : List Addr), PTs (X.blk s H scope (compEnvC scope cl C X.env) fp) ifs (EvP Y WF H0 rt))
    (hi2 : ∀ (s : Shared) (H : Hp) (C : Addr) (cl : List (Str × Addr)) (fp : List Addr), PI (X.blk s H scope (compEnvC scope cl C X.env) fp) tg2 iter2 (EvI Y WF H0 ri2))
    (hg2 : ∀ (s : Shared) (H : Hp) (C : Addr) (cl : List (Str × Addr)) (fp : List Addr), PG (X.blk s H scope (compEnvC scope cl C X.env) fp) tg2 (gEv Y H0 t2))
    (hts2 : ∀ (s : Shared) (H : Hp) (C : Addr) (cl : List (Str × Addr)) (fp : List Addr), PTs (X.blk s H scope (compEnvC scope cl C X.env) fp) ifs2 (EvP Y WF H0 rt2))
    (he : ∀ (s : Shared) (H : Hp) (C : Addr) (cl : List (Str × Addr)) (fp : List Addr), PE (X.blk s H scope (compEnvC scope cl C X.env) fp) elt (EvT Y WF H0 re)) :
    PE X (.ListComp elt [⟨tg, iter, ifs, 0⟩, ⟨tg2, iter2, ifs2, 0⟩] scope pos) (EvT Y W H0 (lcE2 t t2 own own2 ri rt rt2 ri2 re)) := by
  refine pe_freeze (pe_lc2 (vs1 := own2) c.calm (by rw [c.hN]; exact c.nd) hi (blkB_ok c hb) (by rw [ownL_ix]; exact hw) hg hts hi2 hg2 hts2 he (folded_ok ho X.env) (folded_ok ho2)) fun σ H Q h => ?_
  rw [ownL_ix]
  exact lc2_imp ht ht2 h
end
end J

/-! JSet1: sets of nested keys: what is asked of an item -/
namespace J
open PySem PySem.Spec PyProof.Rows L2

section
variable {P : Program} {w : World}
/-- neither the item nor what it holds is of a class statement -/
def NoCls (P : Program) (w : World) (n : Nat) (s : Shared) (v : Value) : Prop := ∀ (A : Around) (E : Value → Shared → Prop) (Q : Bool → Shared → Prop), Q false s → wpAny (model P w) A (ofAClassStatement n v) Q E s
/-- whatever is answered of its hash -/
def AnyHash (P : Program) (w : World) (n : Nat) (s : Shared) (v : Value) : Prop := ∀ (A : Around) (E : Value → Shared → Prop) (Q : Bool → Shared → Prop), (∀ b, Q b s) → wpAny (model P w) A (hashByValue n v) Q E s
theorem noCls_flat {n : Nat} {s : Shared} {v : Value} (h : ∀ a, v ≠ .ref a) : NoCls P w n s v := fun A E Q q => by
  have e : ofAClassStatement n v = pure false := by
    cases v with
    | ref a => exact absurd rfl (h a)
    | _ => cases n <;> rfl
  rw [e]
  exact wpAny_pure q
theorem noCls_tuple {n : Nat} {s : Shared} {a : Addr} {o : Obj} {vs : Array Value} {m : Nat} (ho : s.heap.get? a = some o) (hc : o.cls = .type "tuple") (hd : o.data = .seq vs m) (h : ∀ v ∈ vs.toList, NoCls P w n s v) : NoCls P w (n + 1) s (.ref a) := fun A E Q q => by
  unfold ofAClassStatement
  refine wpAny_bind (wpAny_typeOf ⟨o, ho, hc⟩ ?_)
  dsimp only
  have e : (("tuple" : String) == "tuple") = true := by decide
  simp only [e, if_true, Bool.not_true, Bool.false_eq_true, if_false]
  try refine wpAny_bind (wpAny_pure ?_)
  try simp only [Bool.not_true, Bool.false_eq_true, if_false]
  refine wpAny_bind (m := seqItems? (.ref a)) (wpAny_seqItems ho hd ?_)
  dsimp only
  refine wpAny_bind ?_
  show wpAny (model P w) A (forIn vs _ _) _ E s
  rw [← Array.forIn_toList]
  refine wpAny_forIn_list _ (fun rest r t => t = s ∧ r.1 = none ∧ ∀ u ∈ rest, NoCls P w n s u) _ (fun u rest r t z => ?_) (fun r t z => ?_) _ _ ⟨rfl, rfl, h⟩
  · obtain ⟨rfl, hr, all⟩ := z
    refine wpAny_bind (all u List.mem_cons_self A E _ ?_)
    simp only [Bool.false_eq_true, if_false]
    exact wpAny_pure ⟨rfl, rfl, fun x hx => all x (List.mem_cons_of_mem _ hx)⟩
  · obtain ⟨rfl, hr, _⟩ := z
    obtain ⟨r1, r2⟩ := r
    have hr : r1 = none := hr
    subst hr
    exact wpAny_pure q
theorem anyHash_flat {k : NestedKey} {n : Nat} {s : Shared} {v : Value} (h : NestedIs s.heap k v) (hv : ∀ a, v ≠ .ref a) : AnyHash P w n s v := fun A E Q q => by
  cases h with
  | none => cases n <;> exact wpAny_pure (q _)
  | bool _ => cases n <;> exact wpAny_pure (q _)
  | int _ _ => cases n <;> exact wpAny_pure (q _)
  | text _ _ => cases n <;> exact wpAny_pure (q _)
  | tup _ _ _ _ => exact absurd rfl (hv _)
theorem anyHash_tuple {n : Nat} {s : Shared} {a : Addr} {o : Obj} {vs : Array Value} {m : Nat} (ho : s.heap.get? a = some o) (hc : o.cls = .type "tuple") (hd : o.data = .seq vs m) (h : ∀ v ∈ vs.toList, AnyHash P w n s v) : AnyHash P w (n + 1) s (.ref a) := fun A E Q q => by
  unfold hashByValue
  refine wpAny_bind (wpAny_specialOf ⟨o, ho, hc⟩ PySem.F.slot_tuple_hash.lookup ?_)
  refine wpAny_bind (m := seqItems? (.ref a)) (wpAny_seqItems ho hd ?_)
  refine wpAny_bind ?_
  show wpAny (model P w) A (forIn vs _ _) _ E s
  rw [← Array.forIn_toList]
  refine wpAny_forIn_list _ (fun rest r t => t = s ∧ ∀ u ∈ rest, AnyHash P w n s u) _ (fun u rest r t z => ?_) (fun r t z => ?_) _ _ ⟨rfl, h⟩
  · obtain ⟨rfl, all⟩ := z
    refine wpAny_bind (all u List.mem_cons_self A E _ fun b => ?_)
    cases b with
    | true =>
      simp only [Bool.not_true, Bool.false_eq_true, if_false]
      exact wpAny_pure ⟨rfl, fun x hx => all x (List.mem_cons_of_mem _ hx)⟩
    | false =>
      simp only [Bool.not_false, if_true]
      exact wpAny_pure (show wpAny (model P w) A (pure false) Q E t from wpAny_pure (q false))
  · obtain ⟨rfl, _⟩ := z
    obtain ⟨r1, r2⟩ := r
    cases r1 with
    | none => exact wpAny_pure (q _)
    | some b => exact wpAny_pure (q _)
mutual
theorem noCls_key : ∀ (k : NestedKey) (v : Value) (n : Nat) (s : Shared), NestedIs s.heap k v → k.depth ≤ n → NoCls P w n s v
  | .tup ks, v, n, s, h, hd => by
    cases h with
    | tup ho hc hdt ha =>
      cases n with
      | zero => simp [NestedKey.depth] at hd
      | succ n => exact noCls_tuple ho hc hdt (noCls_keys ks _ n s ha (by simp only [NestedKey.depth] at hd; omega))
  | .none, v, n, s, h, hd => by cases h; exact noCls_flat fun a e => by cases e
  | .num i, v, n, s, h, hd => by cases h <;> exact noCls_flat fun a e => by cases e
  | .text x, v, n, s, h, hd => by cases h; exact noCls_flat fun a e => by cases e
theorem noCls_keys : ∀ (ks : List NestedKey) (vs : List Value) (n : Nat) (s : Shared), NestedAll s.heap ks vs → NestedKey.depthAll ks ≤ n → ∀ v ∈ vs, NoCls P w n s v
  | [], vs, n, s, h, hd, v, hv => by cases h; cases hv
  | k :: ks, vs, n, s, h, hd, v, hv => by
    cases h with
    | cons h1 h2 =>
      simp only [NestedKey.depthAll] at hd
      rcases List.mem_cons.mp hv with e | hv
      · rw [e]; exact noCls_key k _ n s h1 (by omega)
      · exact noCls_keys ks _ n s h2 (by omega) v hv
end
mutual
theorem anyHash_key : ∀ (k : NestedKey) (v : Value) (n : Nat) (s : Shared), NestedIs s.heap k v → AnyHash P w n s v
  | .tup ks, v, n, s, h => by
    cases h with
    | tup ho hc hdt ha =>
      cases n with
      | zero => exact fun A E Q q => wpAny_pure (q _)
      | succ n => exact anyHash_tuple ho hc hdt (anyHash_keys ks _ n s ha)
  | .none, v, n, s, h => by cases h; exact anyHash_flat .none fun a e => by cases e
  | .num i, v, n, s, h => by
    cases h with
    | bool hb => exact anyHash_flat (.bool hb) fun a e => by cases e
    | int i t => exact anyHash_flat (.int i t) fun a e => by cases e
  | .text x, v, n, s, h => by cases h; exact anyHash_flat (.text x _) fun a e => by cases e
theorem anyHash_keys : ∀ (ks : List NestedKey) (vs : List Value) (n : Nat) (s : Shared), NestedAll s.heap ks vs → ∀ v ∈ vs, AnyHash P w n s v
  | [], vs, n, s, h, v, hv => by cases h; cases hv
  | k :: ks, vs, n, s, h, v, hv => by
    cases h with
    | cons h1 h2 =>
      rcases List.mem_cons.mp hv with e | hv
      · rw [e]; exact anyHash_key k _ n s h1
      · exact anyHash_keys ks _ n s h2 v hv
end
/-- the key of a tuple, at a -/
abbrev NK (P : Program) (w : World) : HeapKind P w NestedKey := nestedKind P w
abbrev IsN (h : Heap) (k : NestedKey) (a : Addr) : Prop := NestedIs h k (.ref a) ∧ k.depth ≤ 8
theorem isN_keep {h h' : Heap} {k : NestedKey} {a : Addr} (x : IsN h k a) (hk : ∀ b o, h.get? b = some o → h'.get? b = some o) : IsN h' k a := ⟨x.1.at (fun b o _ _ e _ => hk b o e) _ _, x.2⟩
/-- a search among such shows nothing -/
theorem seenN {A : Around} {E : Value → Shared → Prop} {s : Shared} {k : NestedKey} {b : Addr} {Q : Bool → Shared → Prop} (hk : IsN s.heap k b) {ys : List Value} (hy : ∀ y ∈ ys, ∃ k' c, y = Value.ref c ∧ IsN s.heap k' c) (h : Q false s) :
    wpAny (model P w) A (searchCouldBeSeen (.ref b) ys) Q E s := by
  unfold searchCouldBeSeen
  refine wpAny_bind ?_
  refine wpAny_forIn_list _ (fun rest r t => t = s ∧ r.1 = none ∧ ∀ y ∈ rest, ∃ k' c, y = Value.ref c ∧ IsN s.heap k' c) _ (fun y rest r t z => ?_) (fun r t z => ?_) _ _ ⟨rfl, rfl, hy⟩
  · obtain ⟨rfl, hr, all⟩ := z
    obtain ⟨k', c, rfl, hc⟩ := all y List.mem_cons_self
    have all' : ∀ u ∈ rest, ∃ k' c, u = Value.ref c ∧ IsN t.heap k' c := fun u hu => all u (List.mem_cons_of_mem _ hu)
    dsimp only
    by_cases hv : (b == c || (carriedByValue (.ref b) && carriedByValue (.ref c))) = true
    · exact wp_if_pos hv (wpAny_pure ⟨rfl, rfl, all'⟩)
    · refine wp_if_neg hv (wpAny_bind (quiet_key k _ 8 t hk.1 hk.2 A E _ ?_))
      simp only [Bool.not_true, Bool.false_eq_true, if_false]
      refine wpAny_bind (quiet_key k' _ 8 t hc.1 hc.2 A E _ ?_)
      simp only [Bool.not_true, Bool.false_eq_true, if_false]
      refine wpAny_bind (noCls_key k _ 8 t hk.1 hk.2 A E _ ?_)
      simp only [Bool.false_eq_true, if_false]
      refine wpAny_bind (noCls_key k' _ 8 t hc.1 hc.2 A E _ ?_)
      simp only [Bool.false_eq_true, if_false]
      exact wpAny_pure ⟨rfl, rfl, all'⟩
  · obtain ⟨rfl, hr, _⟩ := z
    obtain ⟨r1, r2⟩ := r
    have hr : r1 = none := hr
    subst hr
    exact wpAny_pure h
end
end J

/-! JSet2: a set of tuples (nested keys), fewer than 64: the search, the add -/
namespace J
open PySem PySem.Spec PyProof.Rows L2

abbrev Ent := Addr × NestedKey
def hOf (w : World) (p : Ent) : Int := p.2.hash w
def rowN (w : World) (p : Ent) : Int × Value := (hOf w p, .ref p.1)
structure SN (w : World) (h : Heap) (a : Addr) (L : List Ent) (es : Array (Int × Value)) (ep : Nat) (t : SetTable) : Prop where
  obj : ∃ o, h.get? a = some o ∧ o.ExactSet ∧ o.data = .set es ep t
  rws : es.toList = L.map (rowN w)
  tab : L2.TabOk t (L.map (hOf w))
  nod : (L.map Prod.snd).Nodup
  key : ∀ p ∈ L, IsN h p.2 p.1
  led : w.params.followText "set-order" = true ∨ t.led = true
  rom : L.length * 5 < t.mask * 3
  few : L.length < 64
section
variable {P : Program} {w : World} {A : Around} {E : Value → Shared → Prop} {s : Shared} {a : Addr} {L : List Ent} {es : Array (Int × Value)} {ep : Nat} {t : SetTable}
theorem rows_size (h : es.toList = L.map (rowN w)) : es.size = L.length := by
  rw [← Array.length_toList, h, List.length_map]
theorem rows_get (h : es.toList = L.map (rowN w)) {i : Nat} {p : Ent} (e : L[i]? = some p) : es[i]? = some (rowN w p) := by
  rw [← Array.getElem?_toList, h, List.getElem?_map, e, Option.map_some]
theorem fits_of {n : Nat} (h1 : t.place.size = n) (h2 : t.dummies = #[]) (h3 : n ≤ t.mask) : t.fits n = true := by
  simp only [SetTable.fits, SetTable.fill, h2, Bool.and_eq_true, beq_iff_eq, decide_eq_true_eq]
  refine ⟨h1, ?_⟩
  show t.place.size + 0 ≤ t.mask
  omega
theorem SN.psz (R : SN w s.heap a L es ep t) : t.place.size = L.length := R.tab.sz.trans (List.length_map _)
theorem SN.fit (R : SN w s.heap a L es ep t) : t.fits es.size = true := by
  have h1 := R.psz
  have h2 := R.rom
  rw [rows_size R.rws]
  exact fits_of h1 R.tab.dm (by omega)
theorem SN.odd (R : SN w s.heap a L es ep t) : ¬ t.gaveWay = true := fun h => by
  simp only [SetTable.gaveWay, mask_odd R.tab.mok] at h
  cases h
theorem no_dummy (m : Nat) : ∀ (n : Nat) (p : SetTable.Probe), p.dummy = none → (nth m p n).dummy = none
  | 0, _, h => h
  | n + 1, p, h => no_dummy m n (adv m p) (by unfold adv; split <;> exact h)
/-- from the c-th step of the way on -/
theorem searchN (R : SN w s.heap a L es ep t) {x : Addr} {k : NestedKey} (hx : IsN s.heap k x) (hu : A.units + 8 < cLine) {K : Nat} (hK1 : K < 10 * SetTable.turns t.mask) (hK2 : way t.mask (k.hash w) K ∉ t.place.toList)
    (hK3 : ∀ c, c < K → way t.mask (k.hash w) c ∈ t.place.toList) {Q : SetFound → Shared → Prop} (yes : k ∈ L.map Prod.snd → Q (.there none) s) (no : k ∉ L.map Prod.snd → Q (.free (way t.mask (k.hash w) K) false) s) :
    ∀ (f c : Nat) (stand : Option SetTable.Probe), stand.getD (t.probeStart (k.hash w)) = nth t.mask (t.probeStart (k.hash w)) c → c ≤ K → K - c < f →
      (∀ (i : Nat) (p : Ent), L[i]? = some p → p.2 = k → ∃ d, c ≤ d ∧ d < K ∧ t.place.toList[i]? = some (way t.mask (k.hash w) d)) → wpAny (model P w) A (setSearchFrom a (.ref x) (k.hash w) true f stand) Q E s := by
  intro f
  induction f with
  | zero => exact fun c _ _ _ h _ => absurd h (Nat.not_lt_zero _)
  | succ f ih =>
    intro c stand hs hc hf still
    have ⟨o, ho, hex, hd⟩ := R.obj
    have fit := R.fit
    rw [setSearchFrom_succ]
    refine wpAny_bind (wpAny_setState_of ho hd fit ?_)
    dsimp only
    refine wp_if_neg R.odd ?_
    try refine wpAny_bind (wpAny_pure ?_)
    have at' : ∀ d, (nth t.mask (nth t.mask (t.probeStart (k.hash w)) c) d).j = way t.mask (k.hash w) (c + d) := fun d => by
      rw [← nth_add]
      rfl
    have hsh : ∀ (i : Nat) (p : Ent), L[i]? = some p → (es[i]?.map (·.1)).getD 0 = hOf w p := fun i p hp => by
      rw [rows_get R.rws hp]
      rfl
    have spec := go_spec t R.tab.ris R.tab.dm (fun i => (es[i]?.map (·.1)).getD 0) (k.hash w) (10 * SetTable.turns t.mask) (K - c) (nth t.mask (t.probeStart (k.hash w)) c) (no_dummy _ _ _ rfl) (by omega)
      (fun d hd' => by rw [at']; exact hK3 _ (by omega)) (by rw [at', Nat.add_sub_cancel' hc]; exact hK2)
    rcases spec with ⟨d, i, hd1, hi, hh, hno, hpr⟩ | ⟨hno, hpr⟩
    · have e1 : t.probe (fun i => (es[i]?.map (·.1)).getD 0) (k.hash w) (stand.getD (t.probeStart (k.hash w))) = some (.candidate (way t.mask (k.hash w) (c + d)) i (nth t.mask (t.probeStart (k.hash w)) (c + (d + 1)))) := by
        rw [hs, ← at' d, nth_add]
        exact hpr
      rw [e1]
      dsimp only
      rw [at'] at hi
      have hil : i < L.length := by
        have z := (List.getElem?_eq_some_iff.mp hi).1
        rw [Array.length_toList, R.psz] at z
        exact z
      obtain ⟨p, hp⟩ : ∃ p, L[i]? = some p := ⟨_, List.getElem?_eq_getElem hil⟩
      have hpm : p ∈ L := List.mem_of_getElem? hp
      have live := slot_live R.tab.ris hi
      have more : wpAny (model P w) A (searchRest a (.ref x) (k.hash w) true f es t (way t.mask (k.hash w) (c + d)) i (nth t.mask (t.probeStart (k.hash w)) (c + (d + 1)))) Q E s := by
        unfold searchRest
        rw [rows_get R.rws hp]
        dsimp only [rowN]
        refine wpAny_bind (wpAny_holding ((NK P w).eqBool hu (R.key p hpm) hx ?_))
        refine wpAny_bind (wpAny_setState_of ho hd fit ?_)
        dsimp only
        by_cases same : p.2 = k
        · refine wp_if_pos (by simp [same]) ?_
          exact wpAny_pure (yes (List.mem_map.mpr ⟨p, hpm, same⟩))
        · refine wp_if_neg (by simp [same]) ?_
          try refine wpAny_bind (wpAny_pure ?_)
          rw [sameMem]
          dsimp only
          simp only [if_true, live, rows_get R.rws hp, rowN]
          refine wpAny_bind (wpAny_isSame_ref_self (wpAny_bind (wpAny_pure ?_)))
          simp only [if_true]
          refine wp_if_neg (by simp [same]) (ih (c + (d + 1)) _ rfl (by omega) (by omega) fun i0 p0 h0 e0 => ?_)
          obtain ⟨d0, z1, z2, z3⟩ := still i0 p0 h0 e0
          refine ⟨d0, ?_, z2, z3⟩
          rcases Nat.lt_trichotomy d0 (c + d) with z | z | z
          · have q := hno (d0 - c) i0 (by omega) (by rw [at', Nat.add_sub_cancel' z1]; exact z3)
            exact absurd ((hsh i0 p0 h0).trans (by unfold hOf; rw [e0])) q
          · rw [z] at z3
            have q := slot_live R.tab.ris z3
            rw [live] at q
            injection q with q
            rw [← q, hp] at h0
            cases h0
            exact absurd e0 same
          · omega
      by_cases hl : t.led = true
      · refine wp_if_neg (by simp [hl]) ?_
        try refine wpAny_bind (wpAny_pure ?_)
        exact more
      · refine wp_if_pos (by simp [hl]) ?_
        refine wpAny_bind (seenN hx (fun y hy => ?_) (wp_if_neg (by decide) ?_))
        · obtain ⟨e, he, rfl⟩ := List.mem_map.mp hy
          have he : e ∈ es ∧ e.1 = k.hash w := by simpa using he
          have he := Array.mem_toList_iff.mpr he.1
          rw [R.rws] at he
          obtain ⟨q, hq, rfl⟩ := List.mem_map.mp he
          exact ⟨q.2, q.1, rfl, R.key q hq⟩
        · try refine wpAny_bind (wpAny_pure ?_)
          exact more
    · have e1 : t.probe (fun i => (es[i]?.map (·.1)).getD 0) (k.hash w) (stand.getD (t.probeStart (k.hash w))) = some (.empty (way t.mask (k.hash w) K) none) := by
        have q := at' (K - c)
        rw [Nat.add_sub_cancel' hc] at q
        rw [hs, ← q]
        exact hpr
      rw [e1]
      dsimp only
      refine wpAny_pure (no fun hm => ?_)
      obtain ⟨p0, h0, e0⟩ := List.mem_map.mp hm
      obtain ⟨i0, hi0, q0⟩ := List.getElem_of_mem h0
      have g0 : L[i0]? = some p0 := by rw [List.getElem?_eq_getElem hi0, q0]
      obtain ⟨d0, z1, z2, z3⟩ := still i0 p0 g0 e0
      exact hno (d0 - c) i0 (by omega) (by rw [at', Nat.add_sub_cancel' z1]; exact z3) ((hsh i0 p0 g0).trans (by unfold hOf; rw [e0]))
/-- the whole search -/
theorem searchAll (R : SN w s.heap a L es ep t) {x : Addr} {k : NestedKey} (hx : IsN s.heap k x) (hu : A.units + 8 < cLine) {Q : SetFound → Shared → Prop} (yes : k ∈ L.map Prod.snd → Q (.there none) s)
    (no : ∀ K, k ∉ L.map Prod.snd → way t.mask (k.hash w) K ∉ t.place.toList → (∀ c, c < K → way t.mask (k.hash w) c ∈ t.place.toList) → Q (.free (way t.mask (k.hash w) K) false) s) :
    wpAny (model P w) A (setSearch a (.ref x) (k.hash w) true) Q E s := by
  have hr := R.rom
  have hll : (L.map (hOf w)).length = L.length := (List.length_map _)
  obtain ⟨K, k1, k2, k3⟩ := R.tab.first (by omega) (k.hash w)
  have kb : K < 100000 := by
    have z : 10 * SetTable.turns t.mask ≤ 1420 := by
      unfold SetTable.turns
      rcases R.tab.mok with q | q | q <;> omega
    omega
  refine searchN R hx hu k1 k2 k3 yes (fun n => no K n k2 k3) 100000 0 none rfl (Nat.zero_le K) (by omega) fun i p hp hk => ?_
  have hl : i < t.place.toList.length := by
    rw [Array.length_toList, R.psz]
    exact (List.getElem?_eq_some_iff.mp hp).1
  have e1 : (L.map (hOf w))[i]? = some (k.hash w) := by
    rw [List.getElem?_map, hp]
    show some (p.2.hash w) = _
    rw [hk]
  obtain ⟨d, d1, d2⟩ := R.tab.before k2 e1 (List.getElem?_eq_getElem hl)
  exact ⟨d, Nat.zero_le d, d1, by rw [d2]; exact List.getElem?_eq_getElem hl⟩
theorem isN_same {h h' : Heap} {k : NestedKey} {b : Addr} {o : Obj} (x : IsN h k b) (ho : h.get? a = some o) (hd : o.data = .set es ep t) (sb : Heap.SameBut a h h') : IsN h' k b :=
  ⟨x.1.at (fun c oc vs n hc hdc => (sb.2 c fun e => by
    subst e
    rw [ho] at hc
    cases hc
    rw [hd] at hdc
    cases hdc).trans hc) _ _, x.2⟩
/-- the rows taken in another order -/
theorem pick_rows (hr : es.toList = L.map (rowN w)) (l : List Nat) (hl : ∀ i ∈ l, i < L.length) : ∃ L2 : List Ent, l.filterMap (fun i => es[i]?) = L2.map (rowN w) ∧ l.filterMap (fun i => L[i]?) = L2 ∧ L2.map (hOf w) = l.map fun i => (es.map (·.1)).getD i 0 := by
  induction l with
  | nil => exact ⟨[], rfl, rfl, rfl⟩
  | cons i l ih =>
    obtain ⟨L2, q1, q2, q3⟩ := ih fun j hj => hl j (List.mem_cons_of_mem _ hj)
    have g := List.getElem?_eq_getElem (hl i List.mem_cons_self)
    have g2 := rows_get hr g
    refine ⟨L[i]'(hl i List.mem_cons_self) :: L2, ?_, ?_, ?_⟩
    · rw [List.filterMap_cons_some g2, q1]; rfl
    · rw [List.filterMap_cons_some g, q2]
    · have z : (es.map (·.1)).getD i 0 = hOf w (L[i]'(hl i List.mem_cons_self)) := by
        rw [Array.getD_eq_getD_getElem?, Array.getElem?_map, g2]
        rfl
      rw [List.map_cons, List.map_cons, q3, z]
theorem all_picked (L : List Ent) : (List.range L.length).filterMap (fun i => L[i]?) = L := List.filterMap_getElem?_range_length L
/-- laid anew -/
theorem relayN {o : Obj} (ho : s.heap.get? a = some o) (hex : o.ExactSet) (hd : o.data = .set es ep t) (hr : es.toList = L.map (rowN w)) (hp : t.place.size = L.length) (hm : t.dummies = #[]) (hb : L.length ≤ t.mask) (nd : (L.map Prod.snd).Nodup) (hk : ∀ p ∈ L, IsN s.heap p.2 p.1)
    (ld : w.params.followText "set-order" = true ∨ t.led = true) (fw : L.length < 64) {wanted M : Nat} (w1 : SetTable.sizeAbove wanted - 1 = M) (w2 : MaskOk M) (w3 : SetTable.sizeAbove wanted ≤ 128) (w4 : L.length * 5 < M * 3) {Q : Unit → Shared → Prop}
    (hQ : ∀ h' L' es' ep' t', Heap.SameBut a s.heap h' → SN w h' a L' es' ep' t' → L'.Perm L → Q () { s with heap := h' }) : wpAny (model P w) A (setRelay a wanted) Q E s := by
  have hsz := rows_size hr
  have fit : t.fits es.size = true := by rw [hsz]; exact fits_of hp hm hb
  obtain ⟨t', order, e, pm, T, em, el, _, _⟩ := relaid_ok t (hs := es.map (·.1)) (wanted := wanted) w1 w2 (by rw [Array.size_map, hsz]; omega)
  rw [Array.size_map, hsz] at pm
  obtain ⟨L2, r1, r2, r3⟩ := pick_rows hr order.toList fun i hi => List.mem_range.mp (pm.mem_iff.mp hi)
  have pm2 : L2.Perm L := by
    rw [← r2]
    have z := pm.filterMap fun i => L[i]?
    rw [all_picked] at z
    exact z
  rw [← r3] at T
  have r1' : (order.filterMap (es[·]?)).toList = L2.map (rowN w) := by rw [Array.toList_filterMap]; exact r1
  have sz2 : (order.filterMap (es[·]?)).size = es.size := by rw [rows_size r1', hsz, pm2.length_eq]
  rw [setRelay_eq]
  refine wpAny_bind (wpAny_setState_of ho hd fit ?_)
  dsimp only
  refine wp_if_neg (by rw [sizeLine_eq]; omega) ?_
  try refine wpAny_bind (wpAny_pure ?_)
  rw [e]
  dsimp only
  refine wpAny_bind (wp_if_neg (by rw [sz2]; simp) ?_)
  try refine wpAny_bind (wpAny_pure ?_)
  refine wpAny_pure ?_
  dsimp only
  have sb : Heap.SameBut a s.heap (s.heap.update a (Obj.putSet (order.filterMap (es[·]?)) t')) := Heap.SameBut.update ..
  refine wpAny_storeSet_of ho hd (hQ _ L2 _ (ep + 1) t' sb ⟨⟨_, store_at ho hd, ⟨hex.1, hex.2.1, hex.2.2⟩, rfl⟩, r1', T, (pm2.map Prod.snd).nodup_iff.mpr nd, fun p hp => isN_same (hk p (pm2.mem_iff.mp hp)) ho hd sb, by rw [el]; exact ld, ?_, ?_⟩ pm2) (by rw [sz2, hsz, sizeLine_eq]; omega)
  · rw [pm2.length_eq, em]; exact w4
  · rw [pm2.length_eq]; exact fw
/-- one more -/
theorem addN (R : SN w s.heap a L es ep t) {x : Addr} {k : NestedKey} (hx : IsN s.heap k x) (hu : A.units + 8 < cLine) (fw : k ∉ L.map Prod.snd → L.length + 1 < 64) {Q : Bool → Shared → Prop}
    (hQ : ∀ b h' L' es' ep' t', Heap.SameBut a s.heap h' → SN w h' a L' es' ep' t' → (k ∈ L.map Prod.snd ∧ L' = L ∨ k ∉ L.map Prod.snd ∧ L'.Perm ((x, k) :: L)) → Q b { s with heap := h' }) :
    wpAny (model P w) A (setAddHashed a (.ref x) (k.hash w)) Q E s := by
  have ⟨o, ho, hex, hd⟩ := R.obj
  have hsz := rows_size R.rws
  have rom := R.rom
  unfold setAddHashed
  refine wpAny_holding ?_
  rw [show (100000 : Nat) = 99999 + 1 from rfl, setAddHashedIn_succ]
  refine wpAny_bind (wpAny_setState_of ho hd R.fit ?_)
  dsimp only
  refine wp_if_neg (by simp [byScan, Value.scannable]) ?_
  try refine wpAny_bind (wpAny_pure ?_)
  refine wpAny_bind (searchAll R hx hu (fun hm => ?_) fun K hm k2 k3 => ?_)
  · dsimp only
    exact wpAny_pure (hQ false s.heap L es ep t (Heap.SameBut.refl a s.heap) R (.inl ⟨hm, rfl⟩))
  · dsimp only
    have fw := fw hm
    refine wpAny_bind (wpAny_setState_of ho hd R.fit ?_)
    dsimp only
    obtain ⟨q1, q2, q3, q4, q5, q6, q7, q8, q9⟩ := R.tab.put k2 k3
    generalize t.put (way t.mask (k.hash w) K) = pt at q1 q3 q4 q5 q6 q7 q8 q9 ⊢
    obtain ⟨t1, p⟩ := pt
    dsimp only at q1 q3 q4 q5 q6 q7 q8 q9 ⊢
    subst q1
    generalize hpp : SetTable.below t.place (way t.mask (k.hash w) K) = p at q2 q3 ⊢
    have pm := put_perm L p (x, k)
    have rw1 : (SetTable.insertAt es p (k.hash w, Value.ref x)).toList = (L.take p ++ (x, k) :: L.drop p).map (rowN w) := by
      rw [SetTable.toList_insertAt, R.rws, List.map_append, List.map_cons, List.map_take, List.map_drop]
      rfl
    have hs1 : (L.take p ++ (x, k) :: L.drop p).map (hOf w) = (L.map (hOf w)).take p ++ k.hash w :: (L.map (hOf w)).drop p := by
      rw [List.map_append, List.map_cons, List.map_take, List.map_drop]
      rfl
    rw [← hs1] at q3
    have len1 : (L.take p ++ (x, k) :: L.drop p).length = L.length + 1 := pm.length_eq
    have nd1 : ((L.take p ++ (x, k) :: L.drop p).map Prod.snd).Nodup := (pm.map Prod.snd).nodup_iff.mpr (List.nodup_cons.mpr ⟨hm, R.nod⟩)
    have sz1 : (SetTable.insertAt es p (k.hash w, Value.ref x)).size = L.length + 1 := (rows_size rw1).trans len1
    generalize SetTable.insertAt es p (k.hash w, Value.ref x) = es1 at rw1 sz1 ⊢
    generalize L.take p ++ (x, k) :: L.drop p = L1 at pm len1 q3 nd1 rw1
    -- behind the store, whatever plain is
    have tail : ∀ t2 : SetTable, L2.TabOk t2 (L1.map (hOf w)) → t2.mask = t1.mask → t2.led = t1.led → t2.place = t1.place → wpAny (model P w) A (do
        storeSet a es1 t2
        if (!false && t2.tooFull) = true then do setRelay a (SetTable.grown (es.size + 1)); pure true else pure true) Q E s := fun t2 T2 m2 l2 p2 => by
      refine wpAny_bind (wpAny_storeSet_of ho hd ?_ (by rw [sz1, sizeLine_eq]; omega))
      have sb : Heap.SameBut a s.heap (s.heap.update a (Obj.putSet es1 t2)) := Heap.SameBut.update ..
      have ho1 := store_at (es' := es1) (t' := t2) ho hd
      generalize s.heap.update a (Obj.putSet es1 t2) = h1 at sb ho1 ⊢
      have key1 : ∀ q ∈ L1, IsN h1 q.2 q.1 := fun q hq => by
        rcases List.mem_cons.mp (pm.mem_iff.mp hq) with e | hq
        · rw [e]; exact isN_same hx ho hd sb
        · exact isN_same (R.key q hq) ho hd sb
      have ld2 : w.params.followText "set-order" = true ∨ t2.led = true := by rw [l2, q5]; exact R.led
      have full_iff : t2.tooFull = true ↔ (L.length + 1) * 5 ≥ t.mask * 3 := by
        simp only [SetTable.tooFull, decide_eq_true_eq]
        have z1 : t2.fill = L.length + 1 := by
          unfold SetTable.fill
          rw [T2.dm]
          show t2.place.size + 0 = _
          have := T2.sz
          rw [List.length_map, len1] at this
          omega
        rw [z1, m2, q4]
      by_cases hf : t2.tooFull = true
      · have big := full_iff.mp hf
        rw [if_pos (by rw [hf]; rfl), hsz]
        have mk : (t.mask = 7 ∧ L.length = 4) ∨ (t.mask = 31 ∧ L.length = 18) := by
          rcases R.tab.mok with q | q | q <;> rw [q] at rom big
          · exact .inl ⟨q, by omega⟩
          · exact .inr ⟨q, by omega⟩
          · omega
        have psz2 : t2.place.size = L1.length := T2.sz.trans (List.length_map _)
        have go : ∀ M, SetTable.sizeAbove (SetTable.grown (L.length + 1)) - 1 = M → MaskOk M → SetTable.sizeAbove (SetTable.grown (L.length + 1)) ≤ 128 → (L.length + 1) * 5 < M * 3 →
            wpAny (model P w) A (do setRelay a (SetTable.grown (L.length + 1)); pure true) Q E { s with heap := h1 } := fun M w1 w2 w3 w4 =>
          wpAny_bind (relayN (s := { s with heap := h1 }) ho1 ⟨hex.1, hex.2.1, hex.2.2⟩ rfl rw1 psz2 T2.dm (by rw [len1, m2, q4]; rcases mk with ⟨e, e2⟩ | ⟨e, e2⟩ <;> omega) nd1 key1 ld2 (by omega) w1 w2 w3 (by rw [len1]; exact w4) fun h2 L2 es2 ep2 t3 sb2 R2 pm2 =>
            wpAny_pure (hQ true h2 L2 es2 ep2 t3 (sb.trans sb2) R2 (.inr ⟨hm, pm2.trans pm⟩)))
        rcases mk with ⟨_, e2⟩ | ⟨_, e2⟩
        · exact go 31 (by rw [e2, size_20]) (.inr (.inl rfl)) (by rw [e2, size_20]; decide) (by omega)
        · exact go 127 (by rw [e2, size_76]) (.inr (.inr rfl)) (by rw [e2, size_76]; decide) (by omega)
      · rw [if_neg (by simp [hf])]
        refine wpAny_pure (hQ true h1 L1 es1 (ep + 1) t2 sb ⟨⟨_, ho1, ⟨hex.1, hex.2.1, hex.2.2⟩, rfl⟩, rw1, T2, nd1, key1, ld2, ?_, by omega⟩ (.inr ⟨hm, pm⟩))
        have z : ¬ (L.length + 1) * 5 ≥ t.mask * 3 := fun z => hf (full_iff.mpr z)
        rw [len1, m2, q4]
        omega
    have flat : ∀ b : Bool, L2.TabOk (if b = true then t1 else { t1 with plain := false }) (L1.map (hOf w)) := fun b => by
      cases b with
      | true => exact q3
      | false => exact ⟨q3.ris, q3.dm, q3.sz, q3.mok, q3.bd, q3.reach⟩
    by_cases hp : t1.plain = true
    · refine wp_if_pos hp (wpAny_bind (anyHash_key (P := P) (w := w) k _ 8 s hx.1 A E _ fun b => ?_))
      exact tail (if b = true then t1 else { t1 with plain := false }) (flat b) (by cases b <;> rfl) (by cases b <;> rfl) (by cases b <;> rfl)
    · refine wp_if_neg hp (wpAny_bind (wpAny_pure ?_))
      exact tail t1 q3 rfl rfl rfl
end
end J

/-! JSet3: set(xs), for any kind of item -/
namespace J
open PySem PySem.Spec PyProof.Rows L2

abbrev HKeep (h h' : Heap) : Prop := ∀ b o, h.get? b = some o → h'.get? b = some o
theorem HKeep.trans {h h' h2 : Heap} (a : HKeep h h') (b : HKeep h' h2) : HKeep h h2 := fun c o e => b c o (a c o e)
def newSet (w : World) : Obj := { cls := .type "set", dict := none, data := .set #[] 0 (.fresh 0 0 (!w.params.followText "set-order")) }
/-- what a way of filling the set at S keeps: I is what has been said of the first i items -/
structure Fill (P : Program) (w : World) (A : Around) (h0 : Heap) (S : Addr) (n : Nat) (Pv : Nat → Value → Prop) (I : Nat → Heap → Prop) : Prop where
  mv : ∀ i h h', I i h → (∀ o, h.get? S = some o → h'.get? S = some o) → HKeep h0 h → HKeep h0 h' → I i h'
  add : ∀ i v (s : Shared) (E : Value → Shared → Prop) (Q : Bool → Shared → Prop), i < n → Pv i v → HKeep h0 s.heap → I i s.heap →
    (∀ b h' tk, s.toks ≤ tk → Heap.SameBut S s.heap h' → I (i + 1) h' → Q b { s with heap := h', toks := tk }) → wpAny (model P w) A (setAdd S v) Q E s
  new : ∀ h, h.get? S = some (newSet w) → HKeep h0 h → I 0 h
section
variable {P : Program} {w : World} {A : Around} {E : Value → Shared → Prop}
theorem upd_loop {it : Addr} {fp wr : List Addr} {G : Array GenState → Array GenState → Prop} {n : Nat} {Pv : Nat → Value → Prop} {Z : Nat → Shared → Prop} {S : Addr} {I : Nat → Heap → Prop} {h0 : Heap} {R : Result → Shared → Prop}
    (F' : Fill P w A.in1 h0 S n Pv I) (Wk : WalksS P w A.in1 it fp wr G n Pv Z) (off : S ∉ fp) (un : h0.get? S = none) (unw : ∀ b ∈ wr, h0.get? b = none) :
    ∀ (m i : Nat) (s : Shared), m + i = n → Z i s → HKeep h0 s.heap → I i s.heap → (∀ s', Moved (S :: wr) G s s' → I n s'.heap → HKeep h0 s'.heap → R (.ok (.ret .none)) s') →
      codeAny (model P w) A (.builtin "set.update.loop" ⟨[.ref S, .ref it], []⟩) R s := by
  have offw : S ∉ wr := fun z => off (Wk.sub _ z)
  have kp : ∀ {s s' : Shared}, Moved wr G s s' → HKeep h0 s.heap → HKeep h0 s'.heap := fun {s s'} mm a b o e =>
    mm.heap b o (fun z => by have := unw b z; rw [e] at this; cases this) (a b o e)
  intro m
  induction m with
  | zero =>
    intro i s hm hz ha hI hR
    obtain rfl : i = n := by omega
    refine codeAny_builtin F.entry_set_update_loop ?_
    rw [Around.under_plainId F.plain_set_update_loop _]
    show wpAny _ A.in1 (bind (pyNext (.ref it)) _) _ _ s
    refine wpAny_bind (Wk.done s _ _ hz fun s' mm => ?_)
    have ha' := kp mm ha
    exact wpAny_pure (hR s' (mm.mono fun b hb => List.mem_cons_of_mem _ hb) (F'.mv _ _ _ hI (fun o e => mm.heap S o offw e) ha ha') ha')
  | succ m ih =>
    intro i s hm hz ha hI hR
    have hi : i < n := by omega
    refine codeAny_builtin F.entry_set_update_loop ?_
    rw [Around.under_plainId F.plain_set_update_loop _]
    show wpAny _ A.in1 (bind (pyNext (.ref it)) _) _ _ s
    refine wpAny_bind (Wk.item i s _ _ hi hz fun v s' hv hz' mm => ?_)
    have ha' := kp mm ha
    have hI' := F'.mv _ _ _ hI (fun o e => mm.heap S o offw e) ha ha'
    refine wpAny_bind (wpAny_holding (F'.add i v s' _ _ hi hv ha' hI' fun b h' tk ht sb hI2 => ?_))
    have ha2 : HKeep h0 h' := fun c o e => (sb.2 c (fun z => by rw [z, un] at e; cases e)).trans (ha' c o e)
    refine wpAny_pure ⟨plainId_quiet F.plain_set_update_loop _, ih (i + 1) _ (by omega) (Wk.frame _ s' _ _ hz' ht fun c hc o e => ?_) ha2 hI2 fun s2 mm2 hI3 ha3 => hR s2 ?_ hI3 ha3⟩
    · exact (sb.2 c (fun z : c = S => off (by rw [← z]; exact hc))).trans e
    · refine Moved.trans Wk.gtrans ((mm.mono fun b hb => List.mem_cons_of_mem _ hb).then_heap ht fun c o hc e => ?_) mm2
      exact (sb.2 c (fun z : c = S => hc (by rw [z]; exact List.mem_cons_self))).trans e
theorem none_above {h : Heap} {b : Addr} (hb : h.objs.size ≤ b) : h.get? b = none := by
  cases q : h.get? b with
  | none => rfl
  | some o => exact absurd (Nat.lt_of_lt_of_le (Heap.lt_size q) hb) (Nat.lt_irrefl _)
/-- the fresh set, then what fills it -/
theorem call_set_with {s : Shared} {x : Value} {Q : Value → Shared → Prop} (h : ∀ s1 : Shared, s1 = { s with heap := s.heap.push (newSet w) } → wpAny (model P w) A.in1.in1 (Builtin.«set.__init__» ⟨[.ref s.heap.objs.size, x], []⟩)
      (fun r t => r = .done (.ret .none) ∧ Q (.ref s.heap.objs.size) t) E s1) :
    wpAny (model P w) A (call (.type "set") [x]) Q E s := by
  obtain ⟨c, tl, hmro⟩ := F.called_set.mro
  have m1 := F.called_set.made
  have m2 := F.called_set.sub
  have m3 := F.called_set.notType
  have m4 := F.called_set.canCreate
  have m5 := F.typeCall_set_1 x
  refine wpAny_call (codeAny_of_tree ?_)
  show wpAny _ _ (callAny (.type "set") _) _ _ _
  refine wpAny_pure ⟨Code.quiet_builtin _ (by decide +kernel), codeAny_builtin F.entry_type_call ?_⟩
  rw [Around.under_plain (weight_type_call_type "set" [x] []) rfl]
  repeat (any_goals (first | assumption | wp_step))
  refine codeAny_mono (code_set_led1 x (E := E) (Q₁ := fun r t => r = .ref s.heap.objs.size ∧ t = { s with heap := s.heap.push (newSet w) }) ⟨rfl, rfl⟩) fun r t hr => ?_
  cases r with
  | error e => exact hr
  | ok fl =>
    cases fl with
    | ret obj =>
      obtain ⟨rfl, rfl⟩ := hr
      have hT : Shared.TypeIs { s with heap := s.heap.push (newSet w) } (.ref s.heap.objs.size) "set" := ⟨_, Heap.get?_push_size _ rfl, rfl⟩
      have m6 := F.called_set.init.lookup
      have m7 := F.called_set.init.bind (.ref s.heap.objs.size)
      repeat (any_goals (first | assumption | wp_step))
      refine codeAny_mono (codeAny_call_builtin (R := wants (fun r s₂ => r = .none ∧ Q (.ref s.heap.objs.size) s₂) E) F.called_set.init.plain F.entry_set_init (check_set_init_1 hT ?_)) fun r₂ s₂ hr₂ => ?_
      · refine wpAny_mono (h _ rfl) (fun r t z => ?_) fun e t z => z
        obtain ⟨rfl, z⟩ := z
        exact ⟨rfl, z⟩
      · cases r₂ with
        | error e => exact hr₂
        | ok fl₂ =>
          cases fl₂ with
          | ret r =>
            obtain ⟨rfl, hq⟩ := hr₂
            repeat (any_goals (first | assumption | wp_step))
          | _ => exact hr₂.elim
    | _ => exact hr.elim
set_option maxHeartbeats 4000000 in
/-- set(xs), xs a list or a tuple -/
theorem call_set_seq {s : Shared} {l : Addr} {items : Array Value} {I : Nat → Heap → Prop} {Q : Value → Shared → Prop} (hh : A.handled = none) (hl : s.heap.IsList l items ∨ s.heap.IsTuple l items)
    (F' : Fill P w A.in1.in1.in1 s.heap s.heap.objs.size items.size (fun i v => items[i]? = some v) I)
    (hQ : ∀ h' tk, I items.size h' → HKeep s.heap h' → Q (.ref s.heap.objs.size) { s with heap := h', toks := tk }) : wpAny (model P w) A (call (.type "set") [.ref l]) Q E s := by
  refine call_set_with fun s1 e1 => ?_
  subst e1
  have h3 : A.in1.in1.in1.handled = none := by simp [hh]
  have fin : ∀ (o : Obj) (t : Shared) (wr : Addr) , wr = s.heap.objs.size + 1 → Moved (s.heap.objs.size :: [wr]) (fun a b => b = a) { s with heap := (s.heap.push (newSet w)).push o } t → I items.size t.heap → HKeep s.heap t.heap →
      Q (.ref s.heap.objs.size) t := fun o t wr _ mm hI hk => by
    obtain ⟨h', g2, d', tk', os'⟩ := t
    have e1 : g2 = s.gens := mm.gens
    have e2 : d' = s.drawn := mm.drawn
    have e3 : os' = s.os := mm.os
    subst e1 e2 e3
    exact hQ h' tk' hI hk
  have kp : ∀ o : Obj, HKeep s.heap ((s.heap.push (newSet w)).push o) := fun o b u e => Heap.get?_push_of_some _ (Heap.get?_push_of_some _ e)
  have hget : ∀ o : Obj, ((s.heap.push (newSet w)).push o).get? s.heap.objs.size = some (newSet w) := fun o => Heap.get?_push_of_some _ (Heap.get?_push_size _ rfl)
  have offS : ∀ k, k < s.heap.objs.size → s.heap.objs.size ∉ [(s.heap.push (newSet w)).objs.size, k] := fun k hk => by
    rw [Heap.size_push]; simp only [List.mem_cons, List.mem_singleton, List.not_mem_nil, or_false, not_or]
    omega
  have unw : ∀ b ∈ [(s.heap.push (newSet w)).objs.size], s.heap.get? b = none := fun b hb => none_above (by rw [List.mem_singleton.mp hb, Heap.size_push]; omega)
  have sz : (s.heap.push (newSet w)).objs.size = s.heap.objs.size + 1 := Heap.size_push ..
  have hS : (s.heap.push (newSet w)).get? s.heap.objs.size = some (newSet w) := Heap.get?_push_size _ rfl
  rcases hl with hl | hl
  · obtain ⟨⟨oc, od, ox, os⟩, ho, hc, nl, hd⟩ := hl
    dsimp only at hc hd
    subst hc hd
    have lt := Heap.lt_size ho
    have ho' : (s.heap.push (newSet w)).get? l = some { cls := .type "list", dict := od, data := .seq items nl, slots := os } := Heap.get?_push_of_some _ ho
    have hl1 : (s.heap.push (newSet w)).IsList l items := ⟨_, ho', rfl, nl, rfl⟩
    have ne1 : l ≠ (s.heap.push (newSet w)).objs.size := by rw [sz]; exact Nat.ne_of_lt (Nat.lt_succ_of_lt lt)
    have b1 := F.sub_list_set
    have b2 := F.sub_list_frozenset
    have b3 : (Value.type "list" == Value.type "dict") = false := by decide
    unfold newSet at ho' hS
    unfold newSet
    unfold Builtin.«set.__init__» noKeywords Builtin.Frozenset.updateFrom
    generalize hPI : pyIter = PI
    wp_walk
    subst hPI
    refine wpAny_pyIter_list hl1 ?_
    refine wpAny_bind (wpAny_runValue ?_)
    refine upd_loop F' (Walks.list h3 _ l ne1 items).toS (offS l lt) (none_above (Nat.le_refl _)) unw items.size 0 _ (Nat.add_zero _) ⟨⟨_, Heap.get?_push_size _ rfl, rfl, rfl⟩, hl1.push _⟩ (kp _) (F'.new _ (hget _) (kp _)) fun t mm hI hk => ?_
    refine wpAny_pure ?_
    exact wpAny_pure ⟨rfl, fin _ t _ sz mm hI hk⟩
  · obtain ⟨⟨oc, od, ox, os⟩, ho, hc, nl, hd⟩ := hl
    dsimp only at hc hd
    subst hc hd
    have lt := Heap.lt_size ho
    have ho' : (s.heap.push (newSet w)).get? l = some { cls := .type "tuple", dict := od, data := .seq items nl, slots := os } := Heap.get?_push_of_some _ ho
    have hl1 : (s.heap.push (newSet w)).IsTuple l items := ⟨_, ho', rfl, nl, rfl⟩
    have ne1 : l ≠ (s.heap.push (newSet w)).objs.size := by rw [sz]; exact Nat.ne_of_lt (Nat.lt_succ_of_lt lt)
    have b1 := F.sub_tuple_set
    have b2 := F.sub_tuple_frozenset
    have b3 : (Value.type "tuple" == Value.type "dict") = false := by decide
    unfold newSet at ho' hS
    unfold newSet
    unfold Builtin.«set.__init__» noKeywords Builtin.Frozenset.updateFrom
    generalize hPI : pyIter = PI
    wp_walk
    subst hPI
    refine wpAny_pyIter_tuple hl1 ?_
    refine wpAny_bind (wpAny_runValue ?_)
    refine upd_loop F' (Walks.tuple h3 _ l ne1 items).toS (offS l lt) (none_above (Nat.le_refl _)) unw items.size 0 _ (Nat.add_zero _) ⟨⟨_, Heap.get?_push_size _ rfl, rfl, rfl⟩, hl1.push _⟩ (kp _) (F'.new _ (hget _) (kp _)) fun t mm hI hk => ?_
    refine wpAny_pure ?_
    exact wpAny_pure ⟨rfl, fin _ t _ sz mm hI hk⟩
end
end J

/-! JSet4: the two ways of filling: ints and texts are looked up one after another; tuples in the table -/
namespace J
open PySem PySem.Spec PyProof.Rows L2

section
variable {P : Program} {w : World} {K : Type} [DecidableEq K] {knd : KeyKind P w K}
abbrev rowQ (knd : KeyKind P w K) (p : K × Value) : Int × Value := (knd.hash p.1, p.2)
structure SQ (knd : KeyKind P w K) (h : Heap) (a : Addr) (L : List (K × Value)) : Prop where
  ex : ∃ o es ep t, h.get? a = some o ∧ o.ExactSet ∧ o.data = .set es ep t ∧ es.toList.Perm (L.map (rowQ knd)) ∧ t.fits es.size = true ∧ Ris t.place.toList ∧ (w.params.followText "set-order" = true ∨ t.led = true)
  is : ∀ p ∈ L, knd.is p.1 p.2 = true ∧ p.2.scannable = true
  nod : (L.map Prod.fst).Nodup
  few : L.length < scanBound
variable {A : Around} {E : Value → Shared → Prop} {s : Shared} {a : Addr} {L : List (K × Value)}
theorem SQ.at {h h' : Heap} (R : SQ knd h a L) (k : ∀ o, h.get? a = some o → h'.get? a = some o) : SQ knd h' a L := by
  obtain ⟨⟨o, es, ep, t, ho, r⟩, r2, r3, r4⟩ := R
  exact ⟨⟨o, es, ep, t, k o ho, r⟩, r2, r3, r4⟩
theorem elems_q {es : Array (Int × Value)} (pm : es.toList.Perm (L.map (rowQ knd))) (hi : ∀ p ∈ L, knd.is p.1 p.2 = true ∧ p.2.scannable = true) : ElemsOf knd es.toList := fun e he => by
  obtain ⟨p, hp, rfl⟩ := List.mem_map.mp (pm.mem_iff.mp he)
  exact ⟨⟨p.1, (hi p hp).1, rfl⟩, (hi p hp).2⟩
theorem size_q {es : Array (Int × Value)} (pm : es.toList.Perm (L.map (rowQ knd))) : es.size = L.length := by
  rw [← Array.length_toList, pm.length_eq, List.length_map]
theorem mem_q {es : Array (Int × Value)} (pm : es.toList.Perm (L.map (rowQ knd))) (hi : ∀ p ∈ L, knd.is p.1 p.2 = true ∧ p.2.scannable = true) (k : K) : k ∈ L.map Prod.fst ↔ ∃ e ∈ es.toList, knd.is k e.2 = true := by
  constructor
  · intro h
    obtain ⟨p, hp, rfl⟩ := List.mem_map.mp h
    exact ⟨_, pm.mem_iff.mpr (List.mem_map.mpr ⟨p, hp, rfl⟩), (hi p hp).1⟩
  · rintro ⟨e, he, hk⟩
    obtain ⟨p, hp, rfl⟩ := List.mem_map.mp (pm.mem_iff.mp he)
    exact List.mem_map.mpr ⟨p, hp, knd.inj _ _ _ (hi p hp).1 hk⟩
/-- behind the search -/
theorem sq_tail {g : Bool → Sem Unit} (hg : ∀ (b : Bool) (t : Shared) (Q : Unit → Shared → Prop), Q () t → wpAny (model P w) A (g b) Q E t) {o : Obj} {es es1 : Array (Int × Value)} {ep : Nat} {t t2 : SetTable} (ho : s.heap.get? a = some o) (hex : o.ExactSet)
    (hd : o.data = .set es ep t) (p1 : es1.toList.Perm (L.map (rowQ knd))) (i1 : ∀ p ∈ L, knd.is p.1 p.2 = true ∧ p.2.scannable = true) (n1 : (L.map Prod.fst).Nodup) (f1 : L.length < scanBound) (f2 : t2.fits es1.size = true) (r2 : Ris t2.place.toList)
    (l2 : w.params.followText "set-order" = true ∨ t2.led = true) {dm : Bool} {R : Option Bool → Shared → Prop} (hR : ∀ h', Heap.SameBut a s.heap h' → SQ knd h' a L → R (some true) { s with heap := h' }) :
    wpAny (model P w) A (do
        storeSet a es1 t2
        if (!dm && t2.tooFull) = true then do
            g (relayAll t2 es1 (SetTable.grown es1.size)).2.2
            storeSet a (relayAll t2 es1 (SetTable.grown es1.size)).1 (relayAll t2 es1 (SetTable.grown es1.size)).2.1
            pure (some true)
          else pure (some true)) R E s := by
  have b1 : es1.size < scanBound := by rw [size_q p1]; exact f1
  refine wpAny_bind (wpAny_storeSet_of ho hd ?_ (fits_of_scanBound b1))
  have g1 := store_at (es' := es1) (t' := t2) ho hd
  have s1 := Heap.SameBut.update s.heap a (Obj.putSet es1 t2)
  split
  · have q1 := relayAll_perm t2 es1 (SetTable.grown es1.size)
    have q2 := relayAll_fits t2 es1 (SetTable.grown es1.size)
    have q3 := relayAll_ris t2 es1 (SetTable.grown es1.size)
    have q4 := relayAll_led t2 es1 (SetTable.grown es1.size)
    generalize relayAll t2 es1 (SetTable.grown es1.size) = Z at q1 q2 q3 q4 ⊢
    obtain ⟨es2, t3, gave⟩ := Z
    dsimp only at q1 q2 q3 q4 ⊢
    have z : es2.size = es1.size := by rw [← Array.length_toList, q1.length_eq, Array.length_toList]
    refine wpAny_bind (hg _ _ _ ?_)
    refine wpAny_bind (wpAny_storeSet_of g1 rfl ?_ (fits_of_scanBound (by rw [z]; exact b1)))
    refine wpAny_pure (hR _ (s1.trans (Heap.SameBut.update _ a _)) ⟨⟨_, es2, _, t3, store_at (es' := es2) (t' := t3) g1 rfl, hex, rfl, q1.trans p1, q2, q3, l2.imp id fun e => by rw [q4]; exact e⟩, i1, n1, f1⟩)
  · exact wpAny_pure (hR _ s1 ⟨⟨_, es1, _, t2, g1, hex, rfl, p1, f2, r2, l2⟩, i1, n1, f1⟩)
theorem sq_add {k : K} {x : Value} (R : SQ knd s.heap a L) (hx : knd.is k x = true) (hsc : x.scannable = true) (room : L.length + 1 < scanBound) {Q : Bool → Shared → Prop}
    (hQ : ∀ b h' L', Heap.SameBut a s.heap h' → SQ knd h' a L' → (k ∈ L.map Prod.fst ∧ L' = L ∨ k ∉ L.map Prod.fst ∧ L' = (k, x) :: L) → Q b { s with heap := h' }) : wpAny (model P w) A (setAddHashed a x (knd.hash k)) Q E s := by
  have R0 := R
  obtain ⟨⟨o, es, ep, t, ho, hex, hd, pm, fit, ris, led⟩, hi, nd, few⟩ := R
  have hel : ElemsOf knd es.toList := elems_q pm hi
  unfold setAddHashed setAddHashedIn
  refine wpAny_holding (wpAny_bind (wpAny_setState_of ho hd fit ?_))
  dsimp only
  rw [byScan_of hsc (by rw [size_q pm]; exact few) hel]
  simp only [↓reduceIte]
  unfold setAddByScan
  refine wpAny_bind ?_
  refine wpAny_bind (wpAny_rule ?_)
  refine wpAny_bind (wpAny_setScan_of hx ho hd fit hel ?_)
  cases hfi : List.findIdx? (fun e => knd.is k e.2) es.toList with
  | some j =>
    dsimp only
    obtain ⟨hj, pj, _⟩ := List.findIdx?_eq_some_iff_getElem.mp hfi
    refine wpAny_pure (wpAny_pure (hQ _ s.heap L (Heap.SameBut.refl a s.heap) R0 (.inl ⟨(mem_q pm hi k).2 ⟨es.toList[j], List.getElem_mem hj, pj⟩, rfl⟩)))
  | none =>
    dsimp only
    have hnk : k ∉ L.map Prod.fst := fun z => by
      obtain ⟨e, he, q⟩ := (mem_q pm hi k).1 z
      have c := List.findIdx?_eq_none_iff.mp hfi e he
      rw [q] at c
      cases c
    have hgw : ∀ (b : Bool) {t : Shared} {Q' : Unit → Shared → Prop}, Q' () t → wpAny (model P w) A (match b with | true => rule "set.scan.the-table-gave-way" | false => pure ()) Q' E t :=
      fun b t Q' q => by cases b <;> first | exact wpAny_pure q | exact wpAny_rule q
    have q1 := layNew_perm t es (knd.hash k) x
    have q2 := layNew_fits t es (knd.hash k) x
    have q3 := layNew_ris t es (knd.hash k) x ris
    have q4 := layNew_led t es (knd.hash k) x
    generalize layNew t es (knd.hash k) x = Z at q1 q2 q3 q4 ⊢
    obtain ⟨es1, t1, dm, gave⟩ := Z
    dsimp only at q1 q2 q3 q4 ⊢
    rw [Array.toList_push] at q1
    have p1 : es1.toList.Perm (((k, x) :: L).map (rowQ knd)) := (q1.trans (List.perm_append_singleton _ _)).trans (pm.cons (rowQ knd (k, x)))
    have i1 : ∀ p ∈ (k, x) :: L, knd.is p.1 p.2 = true ∧ p.2.scannable = true := fun p hp => by
      rcases List.mem_cons.mp hp with z | z
      · rw [z]; exact ⟨hx, hsc⟩
      · exact hi p z
    have n1 : (((k, x) :: L).map Prod.fst).Nodup := List.nodup_cons.mpr ⟨hnk, nd⟩
    have l1 : w.params.followText "set-order" = true ∨ t1.led = true := led.imp id fun z => by rw [q4]; exact z
    have fin : ∀ h', Heap.SameBut a s.heap h' → SQ knd h' a ((k, x) :: L) → Q true { s with heap := h' } := fun h' sb r => hQ true h' _ sb r (.inr ⟨hnk, rfl⟩)
    refine wpAny_bind (hgw _ ?_)
    split
    · refine wpAny_bind ?_
      rw [hashByValue_scannable 8 hsc]
      refine wpAny_pure ?_
      refine sq_tail ?_ ho hex hd p1 i1 n1 room ?_ ?_ ?_ ?_
      · intro b t Q' q; cases b <;> first | exact wpAny_pure q | exact wpAny_rule q
      · first | (split <;> first | exact q2 | exact SetTable.fits_plain_off q2) | exact q2
      · first | (split <;> exact q3) | exact q3
      · first | (split <;> exact l1) | exact l1
      · intro h' sb r; dsimp only; exact wpAny_pure (fin h' sb r)
    · refine wpAny_bind (wpAny_pure ?_)
      simp only [↓reduceIte]
      refine sq_tail ?_ ho hex hd p1 i1 n1 room q2 q3 l1 ?_
      · intro b t Q' q; cases b <;> first | exact wpAny_pure q | exact wpAny_rule q
      · intro h' sb r; dsimp only; exact wpAny_pure (fin h' sb r)
theorem sq_new {h : Heap} (ho : h.get? a = some (newSet w)) : SQ knd h a [] := by
  refine ⟨⟨_, _, _, _, ho, ⟨rfl, rfl, rfl⟩, rfl, List.Perm.refl _, by rfl, List.Pairwise.nil, ?_⟩, (fun p hp => by cases hp), List.nodup_nil, by unfold scanBound; exact Nat.zero_lt_succ _⟩
  show _ ∨ (!w.params.followText "set-order") = true
  cases w.params.followText "set-order"
  · exact .inr rfl
  · exact .inl rfl
/-- what has been got from the first i of ks -/
structure Got {α β : Type} (ks : List (α × β)) (i : Nat) (L : List (α × β)) : Prop where
  sub : ∀ p ∈ L, p ∈ ks.take i
  all : ∀ p ∈ ks.take i, p.1 ∈ L.map Prod.fst
theorem Got.old {α β : Type} {ks L : List (α × β)} {i : Nat} {x : α × β} (g : Got ks i L) (h : ks[i]? = some x) (hm : x.1 ∈ L.map Prod.fst) : Got ks (i + 1) L := by
  have e : ks.take (i + 1) = ks.take i ++ [x] := take_next h
  constructor
  · intro p hp; rw [e]; exact List.mem_append_left _ (g.sub p hp)
  · intro p hp
    rw [e] at hp
    rcases List.mem_append.mp hp with z | z
    · exact g.all p z
    · rw [List.mem_singleton.mp z]; exact hm
theorem Got.add {α β : Type} {ks L L' : List (α × β)} {i : Nat} {x : α × β} (g : Got ks i L) (h : ks[i]? = some x) (pm : L'.Perm (x :: L)) : Got ks (i + 1) L' := by
  have e : ks.take (i + 1) = ks.take i ++ [x] := take_next h
  constructor
  · intro p hp
    rw [e]
    rcases List.mem_cons.mp (pm.mem_iff.mp hp) with z | z
    · rw [z]; exact List.mem_append_right _ (List.mem_singleton.mpr rfl)
    · exact List.mem_append_left _ (g.sub p z)
  · intro p hp
    rw [(pm.map Prod.fst).mem_iff, List.map_cons]
    rw [e] at hp
    rcases List.mem_append.mp hp with z | z
    · exact List.mem_cons_of_mem _ (g.all p z)
    · rw [List.mem_singleton.mp z]; exact List.mem_cons_self
/-- no more than m of the keys differ -/
def Few {α β : Type} (ks : List (α × β)) (m : Nat) : Prop := ∀ l : List α, l.Nodup → (∀ k ∈ l, k ∈ ks.map Prod.fst) → l.length ≤ m
theorem few_put {α β : Type} {ks L : List (α × β)} {i m : Nat} {x : α × β} (f : Few ks m) (g : Got ks i L) (h : ks[i]? = some x) (nd : (L.map Prod.fst).Nodup) (hx : x.1 ∉ L.map Prod.fst) : L.length + 1 ≤ m := by
  have := f (x.1 :: L.map Prod.fst) (List.nodup_cons.mpr ⟨hx, nd⟩) fun k hk => by
    rcases List.mem_cons.mp hk with z | z
    · rw [z]; exact List.mem_map.mpr ⟨x, List.mem_of_getElem? h, rfl⟩
    · obtain ⟨p, hp, rfl⟩ := List.mem_map.mp z
      exact List.mem_map.mpr ⟨p, List.mem_of_mem_take (g.sub p hp), rfl⟩
  simpa using this
theorem fill_q {h0 : Heap} {S : Addr} {ks : List (K × Value)} {n : Nat} {Pv : Nat → Value → Prop} {m : Nat} (hv : ∀ i v, Pv i v → ∃ p, ks[i]? = some p ∧ v = p.2) (hi : ∀ p ∈ ks, knd.is p.1 p.2 = true ∧ p.2.scannable = true) (hm : Few ks m) (hm2 : m + 1 < scanBound) :
    Fill P w A h0 S n Pv (fun i h => ∃ L, SQ knd h S L ∧ Got ks i L) where
  mv := fun i h h' ⟨L, R, g⟩ hS _ _ => ⟨L, R.at hS, g⟩
  new := fun h hS _ => ⟨[], sq_new hS, ⟨(fun p hp => by cases hp), (fun p hp => by simp at hp)⟩⟩
  add := fun i v s E Q hi' hv' hk ⟨L, R, g⟩ hQ => by
    obtain ⟨p, hp, rfl⟩ := hv i v hv'
    have hpm := hi p (List.mem_of_getElem? hp)
    unfold setAdd
    refine wpAny_holding (wpAny_bind (knd.pyHash hpm.1 ?_))
    by_cases hm' : p.1 ∈ L.map Prod.fst
    · -- the room does not matter here
      by_cases hr : L.length + 1 < scanBound
      · refine sq_add (s := { s with toks := s.toks + 1 }) R hpm.1 hpm.2 hr fun b h' L' sb R' c => hQ b h' _ (Nat.le_succ _) sb ⟨L', R', ?_⟩
        rcases c with ⟨_, rfl⟩ | ⟨c, _⟩
        · exact g.old hp hm'
        · exact absurd hm' c
      · have z := hm (L.map Prod.fst) R.nod fun k hk => by
          obtain ⟨q, hq, rfl⟩ := List.mem_map.mp hk
          exact List.mem_map.mpr ⟨q, List.mem_of_mem_take (g.sub q hq), rfl⟩
        rw [List.length_map] at z
        omega
    · have z := few_put hm g hp R.nod hm'
      refine sq_add (s := { s with toks := s.toks + 1 }) R hpm.1 hpm.2 (by omega) fun b h' L' sb R' c => hQ b h' _ (Nat.le_succ _) sb ⟨L', R', ?_⟩
      rcases c with ⟨c, _⟩ | ⟨_, rfl⟩
      · exact absurd c hm'
      · exact g.add hp (List.Perm.refl _)
end
/-! ### tuples -/
section
variable {P : Program} {w : World} {A : Around}
theorem SN.at {h h' : Heap} {a : Addr} {L : List Ent} {es : Array (Int × Value)} {ep : Nat} {t : SetTable} (R : SN w h a L es ep t) (k : ∀ o, h.get? a = some o → h'.get? a = some o) (kp : ∀ p ∈ L, IsN h' p.2 p.1) : SN w h' a L es ep t := by
  obtain ⟨o, ho, r⟩ := R.obj
  exact ⟨⟨o, k o ho, r⟩, R.rws, R.tab, R.nod, kp, R.led, R.rom, R.few⟩
theorem sn_new {h : Heap} {a : Addr} (ho : h.get? a = some (newSet w)) : ∃ es ep t, SN w h a [] es ep t := by
  refine ⟨_, _, _, ⟨_, ho, ⟨rfl, rfl, rfl⟩, rfl⟩, rfl, ⟨List.Pairwise.nil, rfl, rfl, .inl rfl, (fun x hx => by cases hx), (fun i h j hi => by simp at hi)⟩, List.nodup_nil, (fun p hp => by cases hp), ?_, by show 0 * 5 < 7 * 3; decide, by show 0 < 64; decide⟩
  show _ ∨ (!w.params.followText "set-order") = true
  cases w.params.followText "set-order"
  · exact .inr rfl
  · exact .inl rfl
abbrev flipE (p : Ent) : NestedKey × Addr := (p.2, p.1)
theorem fst_flip (L : List Ent) : (L.map flipE).map Prod.fst = L.map Prod.snd := by rw [List.map_map]; rfl
theorem fill_n {h0 : Heap} {S : Addr} {ks : List Ent} {n : Nat} {Pv : Nat → Value → Prop} {m : Nat} (hu : A.units + 8 < cLine) (un : h0.get? S = none) (hv : ∀ i v, Pv i v → ∃ p, ks[i]? = some p ∧ v = .ref p.1) (hi : ∀ p ∈ ks, IsN h0 p.2 p.1) (hm : Few (ks.map flipE) m) (hm2 : m < 64) :
    Fill P w A h0 S n Pv (fun i h => ∃ L es ep t, SN w h S L es ep t ∧ Got (ks.map flipE) i (L.map flipE)) where
  mv := fun i h h' ⟨L, es, ep, t, R, g⟩ hS _ hk => ⟨L, es, ep, t, R.at hS fun p hp => by
    have z := g.sub (flipE p) (List.mem_map.mpr ⟨p, hp, rfl⟩)
    obtain ⟨q, hq, e⟩ := List.mem_map.mp (List.mem_of_mem_take z)
    have e : q = p := by
      obtain ⟨q1, q2⟩ := q
      obtain ⟨p1, p2⟩ := p
      injection e with e1 e2
      subst e1 e2; rfl
    exact isN_keep (hi p (e ▸ hq)) hk, g⟩
  new := fun h hS _ => by
    obtain ⟨es, ep, t, R⟩ := sn_new hS
    exact ⟨[], es, ep, t, R, ⟨(fun p hp => by cases hp), (fun p hp => by simp at hp)⟩⟩
  add := fun i v s E Q hi' hv' hk ⟨L, es, ep, t, R, g⟩ hQ => by
    obtain ⟨p, hp, rfl⟩ := hv i v hv'
    have hp2 : (ks.map flipE)[i]? = some (flipE p) := by rw [List.getElem?_map, hp]; rfl
    have hpm : IsN s.heap p.2 p.1 := isN_keep (hi p (List.mem_of_getElem? hp)) hk
    unfold setAdd
    refine wpAny_holding (wpAny_bind ((NK P w).pyHash hu hpm ?_))
    refine addN (s := { s with toks := s.toks + p.2.draws }) R hpm hu (fun nm => ?_) fun b h' L' es' ep' t' sb R' c => hQ b h' _ (Nat.le_add_right _ _) sb ⟨L', es', ep', t', R', ?_⟩
    · have z := few_put hm g hp2 (by rw [fst_flip]; exact R.nod) (by rw [fst_flip]; exact nm)
      rw [List.length_map] at z
      omega
    · rcases c with ⟨c, rfl⟩ | ⟨c, pm⟩
      · exact g.old hp2 (by rw [fst_flip]; exact c)
      · exact g.add hp2 (pm.map flipE)
end
end J

/-! JSet5: set(xs), then len or sorted of it -/
namespace J
open PySem PySem.Spec PyProof.Rows L2

abbrev KV := NestedKey × Value
theorem each_imp {α β : Type} {R R' : α → β → Prop} (h : ∀ x y, R x y → R' x y) : ∀ {as : List α} {bs : List β}, W.EachIs R as bs → W.EachIs R' as bs
  | _, _, .nil => .nil
  | _, _, .cons r t => .cons (h _ _ r) (each_imp h t)
/-- at a stands a set of L -/
structure SetHas (w : World) (h : Heap) (a : Addr) (L : List KV) : Prop where
  ex : ∃ o es ep t, h.get? a = some o ∧ o.ExactSet ∧ o.data = .set es ep t ∧ (es.toList.map (·.2)).Perm (L.map Prod.snd) ∧ t.fits es.size = true ∧ Ris t.place.toList ∧ (w.params.followText "set-order" = true ∨ t.led = true)
  nod : (L.map Prod.fst).Nodup
  few : L.length < 4096
inductive Mode (kus : List KV) : Prop
  | mT (h : ∀ p ∈ kus, ∃ a, p.2 = .ref a) (f : Few kus 63)
  | mI (h : ∀ p ∈ kus, ∃ i t, p = (.num i, .int i t)) (f : Few kus 4000)
  | mS (h : ∀ p ∈ kus, ∃ x t, p = (.text x, .str x t)) (f : Few kus 4000)
section
variable {P : Program} {w : World} {A : Around} {E : Value → Shared → Prop} {s : Shared}
theorem few_map {α β γ δ : Type} {ks : List (α × β)} {ms : List (γ × δ)} {m : Nat} (g : γ → α) (gi : ∀ x y, g x = g y → x = y) (e : ms.map (g ∘ Prod.fst) = ks.map Prod.fst) (f : Few ks m) : Few ms m := fun l nd hk => by
  have := f (l.map g) (List.Pairwise.map g (fun a b ne z => ne (gi a b z)) nd) fun k h => by
    obtain ⟨x, hx, rfl⟩ := List.mem_map.mp h
    obtain ⟨p, hp, rfl⟩ := List.mem_map.mp (hk x hx)
    rw [← e]
    exact List.mem_map.mpr ⟨p, hp, rfl⟩
  simpa using this
/-- what the walk gave, by keys -/
structure OutK (kus L : List KV) : Prop where
  sub : ∀ p ∈ L, p ∈ kus
  all : ∀ p ∈ kus, p.1 ∈ L.map Prod.fst
theorem set_of_keys {l : Addr} {items : Array Value} {kus : List KV} {Q : Value → Shared → Prop} (hh : A.handled = none) (hu : A.units + 12 < cLine) (hl : s.heap.IsList l items ∨ s.heap.IsTuple l items) (he : items.toList = kus.map Prod.snd)
    (hk : ∀ p ∈ kus, NestedIs s.heap p.1 p.2 ∧ p.1.depth ≤ 8) (md : Mode kus)
    (hQ : ∀ h' tk L, SetHas w h' s.heap.objs.size L → OutK kus L → HKeep s.heap h' → Q (.ref s.heap.objs.size) { s with heap := h', toks := tk }) : wpAny (model P w) A (call (.type "set") [.ref l]) Q E s := by
  have hsz : items.size = kus.length := by
    have q := congrArg List.length he
    rw [Array.length_toList, List.length_map] at q
    exact q
  have at' : ∀ (i : Nat) (v : Value), items[i]? = some v → ∃ p, kus[i]? = some p ∧ v = p.2 := fun i v hv => by
    have q : items.toList[i]? = some v := by rw [Array.getElem?_toList]; exact hv
    rw [he, List.getElem?_map] at q
    cases hq : kus[i]? with
    | none => rw [hq] at q; cases q
    | some p =>
      rw [hq] at q
      exact ⟨p, rfl, (Option.some.inj q).symm⟩
  have big : (4000 : Nat) + 1 < scanBound := by unfold scanBound; omega
  have scalar : ∀ {K : Type} [DecidableEq K] (knd : KeyKind P w K) (g : K → NestedKey) (ks : List (K × Value)), (∀ x y, g x = g y → x = y) → ks.map (fun p => (g p.1, p.2)) = kus → (∀ p ∈ ks, knd.is p.1 p.2 = true ∧ p.2.scannable = true) → Few kus 4000 →
      wpAny (model P w) A (call (.type "set") [.ref l]) Q E s := fun {K} _ knd g ks gi e hi f => by
    have fk : Few ks 4000 := few_map g gi (by rw [← e, List.map_map]; rfl) f
    refine call_set_seq hh hl (fill_q (knd := knd) (ks := ks) (fun i v hv => ?_) hi fk big) fun h' tk ⟨L, R, gt⟩ hkp => ?_
    · obtain ⟨p, hp, rfl⟩ := at' i v hv
      rw [← e, List.getElem?_map] at hp
      cases hq : ks[i]? with
      | none => rw [hq] at hp; cases hp
      | some q => rw [hq] at hp; exact ⟨q, rfl, by rw [← Option.some.inj hp]⟩
    · have all : ks.take items.size = ks := by
        rw [hsz, ← e, List.length_map]; exact List.take_length
      have sub : ∀ p ∈ L, p ∈ ks := fun p hp => List.mem_of_mem_take (gt.sub p hp)
      have few := fk (L.map Prod.fst) R.nod fun k hk => by
        obtain ⟨p, hp, rfl⟩ := List.mem_map.mp hk
        exact List.mem_map.mpr ⟨p, sub p hp, rfl⟩
      rw [List.length_map] at few
      refine hQ h' tk (L.map fun p => (g p.1, p.2)) ⟨?_, ?_, by rw [List.length_map]; omega⟩ ⟨?_, ?_⟩ hkp
      · obtain ⟨o, es, ep, t, ho, hex, hd, pm, r⟩ := R.ex
        refine ⟨o, es, ep, t, ho, hex, hd, ?_, r⟩
        have z := pm.map (·.2)
        rw [List.map_map] at z ⊢
        exact z
      · rw [List.map_map]
        have z : (L.map (Prod.fst ∘ fun p : K × Value => (g p.1, p.2))) = (L.map Prod.fst).map g := by rw [List.map_map]; rfl
        rw [z]
        exact List.Pairwise.map g (fun a b ne z => ne (gi a b z)) R.nod
      · intro p hp
        obtain ⟨q, hq, rfl⟩ := List.mem_map.mp hp
        rw [← e]
        exact List.mem_map.mpr ⟨q, sub q hq, rfl⟩
      · intro p hp
        rw [← e] at hp
        obtain ⟨q, hq, rfl⟩ := List.mem_map.mp hp
        obtain ⟨r, hr, e2⟩ := List.mem_map.mp (gt.all q (by rw [all]; exact hq))
        rw [List.map_map]
        exact List.mem_map.mpr ⟨r, hr, by show g r.1 = g q.1; rw [e2]⟩
  cases md with
  | mI h f =>
    refine scalar (intKind P w) NestedKey.num (kus.map fun p => (match p.1 with
      | .num i => i
      | _ => 0, p.2)) (fun x y e => by injection e) ?_ ?_ f
    · rw [List.map_map]
      conv => rhs; rw [← List.map_id kus]
      refine List.map_congr_left fun p hp => ?_
      obtain ⟨i, t, rfl⟩ := h p hp
      rfl
    · intro q hq
      obtain ⟨p, hp, rfl⟩ := List.mem_map.mp hq
      obtain ⟨i, t, rfl⟩ := h p hp
      exact ⟨intKind_is P w i t, rfl⟩
  | mS h f =>
    refine scalar (PySem.strKind P w) NestedKey.text (kus.map fun p => (match p.1 with
      | .text i => i
      | _ => Str.empty, p.2)) (fun x y e => by injection e) ?_ ?_ f
    · rw [List.map_map]
      conv => rhs; rw [← List.map_id kus]
      refine List.map_congr_left fun p hp => ?_
      obtain ⟨i, t, rfl⟩ := h p hp
      rfl
    · intro q hq
      obtain ⟨p, hp, rfl⟩ := List.mem_map.mp hq
      obtain ⟨i, t, rfl⟩ := h p hp
      exact ⟨by dsimp only [PySem.strKind]; simp [Value.isStrOf], rfl⟩
  | mT h f =>
    have un : ∀ p ∈ kus, ∃ a, p.2 = .ref a := h
    let ad : Value → Addr := fun v => match v with
      | .ref a => a
      | _ => 0
    have adr : ∀ p ∈ kus, Value.ref (ad p.2) = p.2 := fun p hp => by
      obtain ⟨a, e⟩ := h p hp
      rw [e]
    have fk : Few ((kus.map fun p => (ad p.2, p.1)).map flipE) 63 := few_map id (fun _ _ e => e) (by rw [List.map_map, List.map_map]; rfl) f
    refine call_set_seq hh hl (fill_n (ks := kus.map fun p => (ad p.2, p.1)) (by show A.units + 1 + 1 + 1 + 8 < _; omega) (none_above (Nat.le_refl _)) (fun i v hv => ?_) (fun q hq => ?_) fk (by omega)) fun h' tk ⟨L, es, ep, t, R, gt⟩ hkp => ?_
    · obtain ⟨p, hp, rfl⟩ := at' i v hv
      exact ⟨(ad p.2, p.1), by rw [List.getElem?_map, hp]; rfl, (adr p (List.mem_of_getElem? hp)).symm⟩
    · obtain ⟨p, hp, rfl⟩ := List.mem_map.mp hq
      exact ⟨by show NestedIs _ _ (Value.ref (ad p.2)); rw [adr p hp]; exact (hk p hp).1, (hk p hp).2⟩
    · have ee : (kus.map fun p => (ad p.2, p.1)).map flipE = kus.map fun p => (p.1, ad p.2) := by rw [List.map_map]; rfl
      have all : ((kus.map fun p => (ad p.2, p.1)).map flipE).take items.size = kus.map fun p => (p.1, ad p.2) := by
        rw [ee, hsz]
        have z : (kus.map fun p => (p.1, ad p.2)).length = kus.length := List.length_map _
        rw [← z]; exact List.take_length
      have sub : ∀ q ∈ L, ∃ p ∈ kus, q = (ad p.2, p.1) := fun q hq => by
        have z := List.mem_of_mem_take (gt.sub (flipE q) (List.mem_map.mpr ⟨q, hq, rfl⟩))
        rw [ee] at z
        obtain ⟨p, hp, e⟩ := List.mem_map.mp z
        refine ⟨p, hp, ?_⟩
        obtain ⟨q1, q2⟩ := q
        injection e with e1 e2
        rw [e1, e2]
      refine hQ h' tk (L.map fun q => (q.2, Value.ref q.1)) ⟨?_, ?_, by rw [List.length_map]; have := R.few; omega⟩ ⟨?_, ?_⟩ hkp
      · obtain ⟨o, ho, hex, hd⟩ := R.obj
        refine ⟨o, es, ep, t, ho, hex, hd, ?_, R.fit (s := { s with heap := h' }), R.tab.ris, R.led⟩
        rw [R.rws, List.map_map, List.map_map]
        exact List.Perm.refl _
      · rw [List.map_map]
        exact R.nod
      · intro p hp
        obtain ⟨q, hq, rfl⟩ := List.mem_map.mp hp
        obtain ⟨p', hp', rfl⟩ := sub q hq
        dsimp only
        rw [adr p' hp']
        exact hp'
      · intro p hp
        have z := gt.all (p.1, ad p.2) (by rw [all]; exact List.mem_map.mpr ⟨p, hp, rfl⟩)
        rw [fst_flip] at z
        rw [List.map_map]
        exact z
theorem len_has {a : Addr} {L : List KV} {Q : Value → Shared → Prop} (R : SetHas w s.heap a L) (hQ : ∀ t, Q (.int L.length t) { s with toks := s.toks + 1 + 1 }) : wpAny (model P w) A (call (.builtin "len") [.ref a]) Q E s := by
  obtain ⟨o, es, ep, t, ho, hex, hd, pm, fit, r⟩ := R.ex
  have e : es.size = L.length := by
    have := pm.length_eq
    rw [List.length_map, List.length_map, Array.length_toList] at this
    exact this
  have few := R.few
  refine call_len_set ho hex hd fit (by rw [e]; omega) ?_
  rw [e]
  exact hQ _
theorem sorted_has {β : Type} {a : Addr} {L : List KV} {Rl : Value → β → Prop} {enc : β → PyData} {Q : Value → Shared → Prop} (R : SetHas w s.heap a L) (hh : A.handled = none) (hu : A.units + 100 < cLine)
    (pick : ∀ out : List Value, out.Perm (L.map Prod.snd) → ∃ bs : List β, W.EachIs Rl out bs ∧ W.AllAlike (bs.map enc) ∧ W.Sortable (bs.map enc) ∧ (∀ b ∈ bs, (enc b).depth ≤ 64) ∧
      (∀ h', HKeep s.heap h' → W.EachIs (fun v b => Reads h' v (enc b) []) out bs) ∧
      ∀ s' p (res : Array Value) (c : Nat), HKeep s.heap s'.heap → s'.gens = s.gens → s'.os = s.os → s.heap.objs.size ≤ p → s'.heap.get? p = some (seqObj "list" res c) → W.EachIs Rl res.toList (bs.mergeSort (W.dataLe false enc)) → bs.length < 4096 → Q (.ref p) s') :
    wpAny (model P w) A (call (.builtin "sorted") [.ref a]) Q E s := by
  obtain ⟨o, es, ep, t, ho, hex, hd, pm, fit, ris, led⟩ := R.ex
  have few := R.few
  have e : es.size = L.length := by
    have := pm.length_eq
    rw [List.length_map, List.length_map, Array.length_toList] at this
    exact this
  refine Calls.call_function_entry kind_sorted plain_sorted entry_sorted (args_sorted1 _) ?_
  unfold Builtin.«sorted»
  refine wpAny_bind (m := checkCount "sorted" 1 1 _) (wpAny_pure ?_)
  refine wpAny_bind (collect_set (A := A.in1) hh ⟨o, ho, hex.1, hd⟩ fit (by rw [e]; unfold scanBound; omega) ris led fun s1 out k1 hz g1 o1 p1 => ?_)
  obtain ⟨bs, hR, hal, hso, hdp, hrd, hq⟩ := pick out (p1.trans pm)
  have hlen : bs.length = L.length := by rw [← hR.length, (p1.trans pm).length_eq, List.length_map]
  have hlo : out.length = L.length := by rw [(p1.trans pm).length_eq, List.length_map]
  refine wpAny_bind (wpAny_newList ?_ (by rw [hlo, sizeLine_eq]; omega))
  have hoL : (s1.heap.push (seqObj "list" out.toArray 0)).get? s1.heap.objs.size = some (seqObj "list" out.toArray 0) := Heap.get?_push_size _ rfl
  have kp : HKeep s.heap (s1.heap.push (seqObj "list" out.toArray 0)) := fun b u q => Heap.get?_push_of_some _ (k1 b u q)
  have er : W.EachIs (fun v b => ∃ as, Reads (s1.heap.push (seqObj "list" out.toArray 0)) v (enc b) as ∧ s1.heap.objs.size ∉ as) out bs := by
    exact each_imp (fun x y h => ⟨[], h, fun z => by cases z⟩) (hrd _ kp)
  refine wpAny_bind (wpAny_holding (W.list_sort_data (s := { s1 with heap := s1.heap.push (seqObj "list" out.toArray 0) }) (n := 0) hoL hR er hal hso (by rw [hlen, sizeLine_eq]; omega) (fun b hb => by have := hdp b hb; show A.units + 1 + 1 + _ < _; omega) fun res hres hR2 => ?_))
  obtain ⟨c, hc⟩ := sortedHeap_at (vs := out) (out := res.toArray) hoL
  refine wpAny_pure ⟨_, rfl, hq _ s1.heap.objs.size res.toArray c (fun b u q => ?_) g1 o1 hz hc hR2 (by rw [hlen]; exact few)⟩
  have q := k1 b u q
  have hlt := Heap.lt_size q
  show (sortedHeap (s1.heap.push (seqObj "list" out.toArray 0)) s1.heap.objs.size out res.toArray).get? b = some u
  rw [sortedHeap_old (Nat.ne_of_lt hlt) (by rw [size_push']; exact Nat.lt_succ_of_lt hlt)]
  exact Heap.get?_push_of_some _ q
end
end J

/-! JKey: keys of data; the ones that differ -/
namespace J
open PySem PySem.Spec PyProof.Rows L2

mutual
theorem key_some : ∀ d : D, hashable d = true → ∃ k, toKey d = some k
  | .non, _ => ⟨_, rfl⟩
  | .bl _, _ => ⟨_, rfl⟩
  | .int _, _ => ⟨_, rfl⟩
  | .str _, _ => ⟨_, rfl⟩
  | .tup xs, h => by
    simp only [hashable] at h
    obtain ⟨ks, e⟩ := keys_some xs h
    exact ⟨.tup ks, by simp only [toKey, e, Option.map_some]⟩
  | .lst _, h => by simp [hashable] at h
  | .dic _, h => by simp [hashable] at h
  | .set _, h => by simp [hashable] at h
  | .ref _, h => by simp [hashable] at h
  | .kls _, h => by simp [hashable] at h
theorem keys_some : ∀ d : List D, hashables d = true → ∃ k, toKeys d = some k
  | [], _ => ⟨_, rfl⟩
  | x :: xs, h => by
    simp only [hashables, Bool.and_eq_true] at h
    obtain ⟨k, e⟩ := key_some x h.1
    obtain ⟨ks, e2⟩ := keys_some xs h.2
    exact ⟨k :: ks, by simp only [toKeys, e, e2]⟩
end
mutual
theorem key_depth : ∀ (d : D) {k : NestedKey} {n : Nat}, toKey d = some k → deep d = some n → k.depth ≤ n
  | .non, _, _, h, _ => by simp only [toKey, Option.some.injEq] at h; subst h; exact Nat.zero_le _
  | .bl _, _, _, h, _ => by simp only [toKey, Option.some.injEq] at h; subst h; exact Nat.zero_le _
  | .int _, _, _, h, _ => by simp only [toKey, Option.some.injEq] at h; subst h; exact Nat.zero_le _
  | .str _, _, _, h, _ => by simp only [toKey, Option.some.injEq] at h; subst h; exact Nat.zero_le _
  | .tup xs, k, n, h, hd => by
    simp only [toKey, Option.map_eq_some_iff] at h
    obtain ⟨ks, h, rfl⟩ := h
    simp only [deep, Option.map_eq_some_iff] at hd
    obtain ⟨m, hd, rfl⟩ := hd
    simp only [NestedKey.depth]
    have := keys_depth xs h hd
    omega
  | .lst _, _, _, h, _ => by simp [toKey] at h
  | .dic _, _, _, h, _ => by simp [toKey] at h
  | .set _, _, _, h, _ => by simp [toKey] at h
  | .ref _, _, _, h, _ => by simp [toKey] at h
  | .kls _, _, _, h, _ => by simp [toKey] at h
theorem keys_depth : ∀ (d : List D) {k : List NestedKey} {n : Nat}, toKeys d = some k → deeps d = some n → NestedKey.depthAll k ≤ n
  | [], _, _, h, _ => by simp only [toKeys, Option.some.injEq] at h; subst h; exact Nat.zero_le _
  | x :: xs, k, n, h, hd => by
    obtain ⟨a, b, e1, e2, rfl⟩ := deeps_cons hd
    simp only [toKeys] at h
    split at h
    · rename_i k1 ks h1 h2
      simp only [Option.some.injEq] at h
      subst h
      simp only [NestedKey.depthAll]
      have := key_depth x h1 e1
      have := keys_depth xs h2 e2
      omega
    · cases h
end
mutual
theorem eqD_key : ∀ (d e : D) {k m : NestedKey}, toKey d = some k → toKey e = some m → (eqD d e = true ↔ k = m)
  | .non, e, k, m, h, g => by
    simp only [toKey, Option.some.injEq] at h; subst h
    cases e <;> simp_all [toKey, eqD]
    all_goals (first | (subst g; simp) | (obtain ⟨_, _, rfl⟩ := g; simp))
  | .bl a, e, k, m, h, g => by
    simp only [toKey, Option.some.injEq] at h; subst h
    cases e <;> simp_all [toKey, eqD]
    all_goals first | (subst g; cases a <;> simp [b2z] <;> (try (rename_i c; cases c <;> simp))) | (obtain ⟨_, _, rfl⟩ := g; simp)
  | .int a, e, k, m, h, g => by
    simp only [toKey, Option.some.injEq] at h; subst h
    cases e <;> simp_all [toKey, eqD]
    all_goals first | (subst g; simp) | (obtain ⟨_, _, rfl⟩ := g; simp)
  | .str a, e, k, m, h, g => by
    simp only [toKey, Option.some.injEq] at h; subst h
    cases e <;> simp_all [toKey, eqD]
    all_goals first | (subst g; simp) | (obtain ⟨_, _, rfl⟩ := g; simp)
  | .tup a, .tup b, k, m, h, g => by
    simp only [toKey, Option.map_eq_some_iff] at h g
    obtain ⟨ks, h, rfl⟩ := h
    obtain ⟨ms, g, rfl⟩ := g
    simp only [eqD]
    rw [eqDs_key a b h g]
    simp
  | .tup a, .non, k, m, h, g => by
    simp only [toKey, Option.map_eq_some_iff, Option.some.injEq] at h g
    obtain ⟨ks, h, rfl⟩ := h; subst g; simp [eqD]
  | .tup a, .bl _, k, m, h, g => by
    simp only [toKey, Option.map_eq_some_iff, Option.some.injEq] at h g
    obtain ⟨ks, h, rfl⟩ := h; subst g; simp [eqD]
  | .tup a, .int _, k, m, h, g => by
    simp only [toKey, Option.map_eq_some_iff, Option.some.injEq] at h g
    obtain ⟨ks, h, rfl⟩ := h; subst g; simp [eqD]
  | .tup a, .str _, k, m, h, g => by
    simp only [toKey, Option.map_eq_some_iff, Option.some.injEq] at h g
    obtain ⟨ks, h, rfl⟩ := h; subst g; simp [eqD]
  | .tup _, .lst _, _, _, _, g => by simp [toKey] at g
  | .tup _, .dic _, _, _, _, g => by simp [toKey] at g
  | .tup _, .set _, _, _, _, g => by simp [toKey] at g
  | .tup _, .ref _, _, _, _, g => by simp [toKey] at g
  | .tup _, .kls _, _, _, _, g => by simp [toKey] at g
  | .lst _, _, _, _, h, _ => by simp [toKey] at h
  | .dic _, _, _, _, h, _ => by simp [toKey] at h
  | .set _, _, _, _, h, _ => by simp [toKey] at h
  | .ref _, _, _, _, h, _ => by simp [toKey] at h
  | .kls _, _, _, _, h, _ => by simp [toKey] at h
theorem eqDs_key : ∀ (d e : List D) {k m : List NestedKey}, toKeys d = some k → toKeys e = some m → (eqDs d e = true ↔ k = m)
  | [], [], k, m, h, g => by
    simp only [toKeys, Option.some.injEq] at h g
    subst h g; simp [eqDs]
  | [], y :: ys, k, m, h, g => by
    simp only [toKeys, Option.some.injEq] at h; subst h
    simp only [toKeys] at g
    split at g
    · simp only [Option.some.injEq] at g; subst g; simp [eqDs]
    · cases g
  | x :: xs, [], k, m, h, g => by
    simp only [toKeys, Option.some.injEq] at g; subst g
    simp only [toKeys] at h
    split at h
    · simp only [Option.some.injEq] at h; subst h; simp [eqDs]
    · cases h
  | x :: xs, y :: ys, k, m, h, g => by
    simp only [toKeys] at h g
    split at h
    · rename_i a as a1 a2
      split at g
      · rename_i b bs b1 b2
        simp only [Option.some.injEq] at h g
        subst h g
        simp only [eqDs, Bool.and_eq_true]
        rw [eqD_key x y a1 b1, eqDs_key xs ys a2 b2]
        simp
      · cases g
    · cases h
end
/-- the key, of what has one -/
def kOf (d : D) : NestedKey := (toKey d).getD .none
theorem kOf_at {d : D} (h : hashable d = true) : toKey d = some (kOf d) := by
  obtain ⟨k, e⟩ := key_some d h
  rw [kOf, e]; rfl
theorem keyOk_hash {d : D} (h : keyOk d = true) : hashable d = true ∧ ∃ n, deep d = some n ∧ n ≤ 8 := by
  unfold keyOk at h
  rw [Bool.and_eq_true] at h
  refine ⟨h.1, ?_⟩
  have h2 := h.2
  split at h2
  · rename_i n e
    exact ⟨n, e, by simpa using h2⟩
  · cases h2
theorem eqD_kOf {d e : D} (h : hashable d = true) (g : hashable e = true) : eqD d e = true ↔ kOf d = kOf e := eqD_key d e (kOf_at h) (kOf_at g)
theorem memD_kOf {x : D} (hx : hashable x = true) : ∀ {ys : List D}, (∀ y ∈ ys, hashable y = true) → (memD x ys = true ↔ kOf x ∈ ys.map kOf)
  | [], _ => by simp [memD]
  | y :: ys, h => by
    simp only [memD, Bool.or_eq_true, List.map_cons, List.mem_cons]
    rw [eqD_kOf (h y List.mem_cons_self) hx, memD_kOf hx fun z hz => h z (List.mem_cons_of_mem _ hz)]
    constructor <;> rintro (a | a) <;> first | exact .inl a.symm | exact .inr a
theorem dedupGo_app : ∀ (xs seen : List D), (∀ x ∈ xs, hashable x = true) → (∀ x ∈ seen, hashable x = true) → (seen.map kOf).Nodup →
    ((seen ++ dedupGo seen xs).map kOf).Nodup ∧ (∀ d ∈ dedupGo seen xs, d ∈ xs) ∧ ∀ d ∈ xs, kOf d ∈ (seen ++ dedupGo seen xs).map kOf
  | [], seen, _, _, nd => by
    simp only [dedupGo, List.append_nil]
    exact ⟨nd, (fun d h => by cases h), (fun d h => by cases h)⟩
  | x :: r, seen, hx, hs, nd => by
    have h0 := hx x List.mem_cons_self
    have hr := fun y hy => hx y (List.mem_cons_of_mem _ hy)
    rw [dedupGo]
    by_cases m : memD x seen = true
    · rw [if_pos m]
      obtain ⟨a, b, c⟩ := dedupGo_app r seen hr hs nd
      refine ⟨a, fun d hd => List.mem_cons_of_mem _ (b d hd), fun d hd => ?_⟩
      rcases List.mem_cons.mp hd with rfl | hd
      · rw [List.map_append]
        exact List.mem_append_left _ ((memD_kOf h0 hs).1 m)
      · exact c d hd
    · rw [if_neg m]
      have hs' : ∀ y ∈ seen ++ [x], hashable y = true := fun y hy => by
        rcases List.mem_append.mp hy with z | z
        · exact hs y z
        · rw [List.mem_singleton.mp z]; exact h0
      have nd' : ((seen ++ [x]).map kOf).Nodup := by
        rw [List.map_append, List.map_cons, List.map_nil]
        refine (List.perm_append_singleton _ _).nodup_iff.mpr (List.nodup_cons.mpr ⟨fun z => m ((memD_kOf h0 hs).2 z), nd⟩)
      obtain ⟨a, b, c⟩ := dedupGo_app r (seen ++ [x]) hr hs' nd'
      rw [List.append_assoc] at a c
      refine ⟨a, fun d hd => ?_, fun d hd => ?_⟩
      · rcases List.mem_cons.mp hd with rfl | hd
        · exact List.mem_cons_self
        · exact List.mem_cons_of_mem _ (b d hd)
      · rcases List.mem_cons.mp hd with rfl | hd
        · rw [List.map_append]
          exact List.mem_append_right _ (List.mem_map.mpr ⟨d, List.mem_cons_self, rfl⟩)
        · exact c d hd
theorem dedup_keys {xs : List D} (h : ∀ x ∈ xs, hashable x = true) : ((dedup xs).map kOf).Nodup ∧ (∀ d ∈ dedup xs, d ∈ xs) ∧ ∀ k, k ∈ (dedup xs).map kOf ↔ k ∈ xs.map kOf := by
  obtain ⟨a, b, c⟩ := dedupGo_app xs [] h (fun x h => by cases h) List.nodup_nil
  refine ⟨a, b, fun k => ⟨fun hk => ?_, fun hk => ?_⟩⟩
  · obtain ⟨d, hd, rfl⟩ := List.mem_map.mp hk
    exact List.mem_map.mpr ⟨d, b d hd, rfl⟩
  · obtain ⟨d, hd, rfl⟩ := List.mem_map.mp hk
    exact c d hd
/-! ### what may be put into a set here -/
section
variable {X : Cx} {Y : Wd} {ρ : Nat → Addr} {n : Nat} {H : Hp} {pins : List (Addr × Obj)} {σ : L2.St} {s : Shared}
mutual
theorem rel_key (hK : X.K = Y.K) (I : Inv X pins σ H s) : ∀ (d : D) (v : V) (u : Value) {k : NestedKey}, RelD Y ρ n H d v → RelV v u → toKey d = some k → NestedIs s.heap k u
  | .non, v, u, _, h, r, e => by simp only [RelD] at h; subst h; cases r; simp only [toKey, Option.some.injEq] at e; subst e; exact .none
  | .bl b, v, u, _, h, r, e => by simp only [RelD] at h; subst h; cases r; simp only [toKey, Option.some.injEq] at e; subst e; exact .bool rfl
  | .int i, v, u, _, h, r, e => by simp only [RelD] at h; subst h; obtain ⟨t, rfl⟩ := r; simp only [toKey, Option.some.injEq] at e; subst e; exact .int i t
  | .str x, v, u, _, h, r, e => by simp only [RelD] at h; subst h; obtain ⟨t, rfl⟩ := r; simp only [toKey, Option.some.injEq] at e; subst e; exact .text x t
  | .tup ds, v, u, k, h, r, e => by
    simp only [RelD] at h
    obtain ⟨a, vs, rfl, q, z⟩ := h
    cases r
    simp only [toKey, Option.map_eq_some_iff] at e
    obtain ⟨ks, e, rfl⟩ := e
    obtain ⟨its, w, ⟨o, ho, hc, n', hdt⟩, _⟩ := I.tuple (by rw [hK]; exact q)
    exact .tup ho hc hdt (by simpa using rels_key hK I ds vs its z w e)
  | .lst _, _, _, _, _, _, e => by simp [toKey] at e
  | .dic _, _, _, _, _, _, e => by simp [toKey] at e
  | .set _, _, _, _, _, _, e => by simp [toKey] at e
  | .ref _, _, _, _, _, _, e => by simp [toKey] at e
  | .kls _, _, _, _, _, _, e => by simp [toKey] at e
theorem rels_key (hK : X.K = Y.K) (I : Inv X pins σ H s) : ∀ (ds : List D) (vs : List V) (us : List Value) {k : List NestedKey}, RelDs Y ρ n H ds vs → Vals vs us → toKeys ds = some k → NestedAll s.heap k us
  | [], vs, us, _, h, w, e => by simp only [RelDs] at h; subst h; cases w; simp only [toKeys, Option.some.injEq] at e; subst e; exact .nil
  | d :: ds, vs, us, k, h, w, e => by
    simp only [RelDs] at h
    obtain ⟨v, r, rfl, h1, h2⟩ := h
    cases w with
    | cons w1 w2 =>
      simp only [toKeys] at e
      split at e
      · rename_i a as a1 a2
        simp only [Option.some.injEq] at e
        subst e
        exact .cons (rel_key hK I d v _ h1 w1 a1) (rels_key hK I ds r _ h2 w2 a2)
      · cases e
end
end
mutual
theorem reads_nil {h : Heap} : ∀ (d : D) (u : Value) (as : List Addr), hashable d = true → Reads h u (toP d) as → as = []
  | .non, u, as, _, r => by simp only [toP] at r; cases r; rfl
  | .bl _, u, as, _, r => by simp only [toP] at r; cases r; rfl
  | .int _, u, as, _, r => by simp only [toP] at r; cases r; rfl
  | .str _, u, as, _, r => by simp only [toP] at r; cases r; rfl
  | .tup xs, u, as, g, r => by
    simp only [toP] at r
    simp only [hashable] at g
    cases r with
    | tuple _ _ _ z => exact readsAll_nil xs _ as g z
  | .lst _, _, _, g, _ => by simp [hashable] at g
  | .dic _, _, _, g, _ => by simp [hashable] at g
  | .set _, _, _, g, _ => by simp [hashable] at g
  | .ref _, _, _, g, _ => by simp [hashable] at g
  | .kls _, _, _, g, _ => by simp [hashable] at g
theorem readsAll_nil {h : Heap} : ∀ (d : List D) (u : List Value) (as : List Addr), hashables d = true → ReadsAll h u (toPs d) as → as = []
  | [], u, as, _, r => by simp only [toPs] at r; cases r; rfl
  | x :: xs, u, as, g, r => by
    simp only [toPs] at r
    simp only [hashables, Bool.and_eq_true] at g
    cases r with
    | cons r1 r2 => rw [reads_nil x _ _ g.1 r1, readsAll_nil xs _ _ g.2 r2]; rfl
end
end J

/-! JSrt: sorted(set(e)), len(set(e)) -/
namespace J
open PySem PySem.Spec PyProof.Rows L2

def kusOf : List D → List Value → List KV
  | d :: ds, u :: us => (kOf d, u) :: kusOf ds us
  | _, _ => []
theorem choose_list {β : Type} {Rl : Value → β → Prop} : ∀ {out : List Value}, (∀ u ∈ out, ∃ b, Rl u b) → ∃ bs, W.EachIs Rl out bs
  | [], _ => ⟨[], .nil⟩
  | u :: out, h => by
    obtain ⟨b, hb⟩ := h u List.mem_cons_self
    obtain ⟨bs, hbs⟩ := choose_list fun x hx => h x (List.mem_cons_of_mem _ hx)
    exact ⟨b :: bs, .cons hb hbs⟩
theorem each_mem {β : Type} {Rl : Value → β → Prop} : ∀ {out : List Value} {bs : List β}, W.EachIs Rl out bs → ∀ b ∈ bs, ∃ u ∈ out, Rl u b
  | _, _, .nil, b, h => by cases h
  | _, _, .cons r t, b, h => by
    rcases List.mem_cons.mp h with rfl | h
    · exact ⟨_, List.mem_cons_self, r⟩
    · obtain ⟨u, hu, z⟩ := each_mem t b h
      exact ⟨u, List.mem_cons_of_mem _ hu, z⟩
theorem each_mapEq {β γ : Type} {Rl : Value → β → Prop} {g : Value → γ} {f : β → γ} (h : ∀ u b, Rl u b → g u = f b) : ∀ {out : List Value} {bs : List β}, W.EachIs Rl out bs → out.map g = bs.map f
  | _, _, .nil => rfl
  | _, _, .cons r t => by rw [List.map_cons, List.map_cons, h _ _ r, each_mapEq h t]
section
variable {X : Cx} {Y : Wd} {ρ : Nat → Addr} {n : Nat} {H : Hp} {pins : List (Addr × Obj)} {σ : L2.St} {s : Shared}
theorem kus_snd : ∀ {ds : List D} {vs : List V} {us : List Value}, RelDs Y ρ n H ds vs → Vals vs us → (kusOf ds us).map Prod.snd = us
  | [], vs, us, h, w => by simp only [RelDs] at h; subst h; cases w; rfl
  | d :: ds, vs, us, h, w => by
    simp only [RelDs] at h
    obtain ⟨v, r, rfl, h1, h2⟩ := h
    cases w with
    | cons w1 w2 => simp only [kusOf, List.map_cons, kus_snd h2 w2]
theorem kus_fst : ∀ {ds : List D} {vs : List V} {us : List Value}, RelDs Y ρ n H ds vs → Vals vs us → (kusOf ds us).map Prod.fst = ds.map kOf
  | [], vs, us, h, w => by simp only [RelDs] at h; subst h; cases w; rfl
  | d :: ds, vs, us, h, w => by
    simp only [RelDs] at h
    obtain ⟨v, r, rfl, h1, h2⟩ := h
    cases w with
    | cons w1 w2 => simp only [kusOf, List.map_cons, kus_fst h2 w2]
theorem kus_mem : ∀ {ds : List D} {vs : List V} {us : List Value}, RelDs Y ρ n H ds vs → Vals vs us → ∀ p ∈ kusOf ds us, ∃ d v, d ∈ ds ∧ RelD Y ρ n H d v ∧ RelV v p.2 ∧ p.1 = kOf d
  | [], vs, us, h, w, p, hp => by simp only [RelDs] at h; subst h; cases w; cases hp
  | d :: ds, vs, us, h, w, p, hp => by
    simp only [RelDs] at h
    obtain ⟨v, r, rfl, h1, h2⟩ := h
    cases w with
    | cons w1 w2 =>
      simp only [kusOf] at hp
      rcases List.mem_cons.mp hp with rfl | hp
      · exact ⟨d, v, List.mem_cons_self, h1, w1, rfl⟩
      · obtain ⟨d', v', a, b⟩ := kus_mem h2 w2 p hp
        exact ⟨d', v', List.mem_cons_of_mem _ a, b⟩
theorem okSet_hash {xs : List D} (h : okSet xs = true) : ∀ d ∈ xs, keyOk d = true := by
  unfold okSet at h
  rw [Bool.and_eq_true, List.all_eq_true] at h
  exact h.1
theorem okSet_mode {ds : List D} {vs : List V} {us : List Value} (h : okSet ds = true) (r : RelDs Y ρ n H ds vs) (w : Vals vs us) : Mode (kusOf ds us) := by
  have hk := okSet_hash h
  have hh : ∀ d ∈ ds, hashable d = true := fun d hd => (keyOk_hash (hk d hd)).1
  obtain ⟨q1, q2, q3⟩ := dedup_keys hh
  have few : ∀ m, (dedup ds).length ≤ m → Few (kusOf ds us) m := fun m hm l nd hl => by
    have := nd.length_le_of_subset (l₂ := (dedup ds).map kOf) fun k hk => by
      have z := hl k hk
      rw [kus_fst r w] at z
      exact (q3 k).2 z
    rw [List.length_map] at this
    omega
  unfold okSet at h
  rw [Bool.and_eq_true, Bool.or_eq_true, Bool.and_eq_true, Bool.and_eq_true, Bool.or_eq_true, decide_eq_true_eq, decide_eq_true_eq] at h
  rcases h.2 with ⟨a, b⟩ | ⟨a | a, b⟩
  · refine .mT (fun p hp => ?_) (few _ (by omega))
    obtain ⟨d, v, hd, h1, h2, _⟩ := kus_mem r w p hp
    have t := List.all_eq_true.mp a d hd
    cases d <;> simp only [isTp] at t <;> try cases t
    simp only [RelD] at h1
    obtain ⟨x, _, rfl, _⟩ := h1
    have h2 : p.2 = .ref x := h2
    exact ⟨x, h2⟩
  · refine .mI (fun p hp => ?_) (few _ b)
    obtain ⟨d, v, hd, h1, h2, h3⟩ := kus_mem r w p hp
    have t := List.all_eq_true.mp a d hd
    cases d <;> simp only [isI] at t <;> try cases t
    rename_i i
    simp only [RelD] at h1
    subst h1
    obtain ⟨t, h2⟩ := h2
    obtain ⟨p1, p2⟩ := p
    dsimp only at h2 h3
    subst h2 h3
    exact ⟨i, t, rfl⟩
  · refine .mS (fun p hp => ?_) (few _ b)
    obtain ⟨d, v, hd, h1, h2, h3⟩ := kus_mem r w p hp
    have t := List.all_eq_true.mp a d hd
    cases d <;> simp only [isS] at t <;> try cases t
    rename_i i
    simp only [RelD] at h1
    subst h1
    obtain ⟨t, h2⟩ := h2
    obtain ⟨p1, p2⟩ := p
    dsimp only at h2 h3
    subst h2 h3
    exact ⟨i, t, rfl⟩
/-- the set, of what is related -/
theorem set_rel {Q : Value → Shared → Prop} {l : Addr} {ds : List D} {vs : List V} {us : List Value} (hc : X.calm = true) (hu : X.A.units + 12 < cLine) (hK : X.K = Y.K) (I : Inv X pins σ H s) (hl : s.heap.IsList l us.toArray ∨ s.heap.IsTuple l us.toArray)
    (h : okSet ds = true) (r : RelDs Y ρ n H ds vs) (w : Vals vs us)
    (hQ : ∀ h' tk L, SetHas X.w h' s.heap.objs.size L → OutK (kusOf ds us) L → HKeep s.heap h' → Inv X pins σ H { s with heap := h', toks := tk } → Q (.ref s.heap.objs.size) { s with heap := h', toks := tk }) :
    wpAny (model X.prog X.w) X.A (call (.type "set") [.ref l]) Q X.xe s := by
  refine set_of_keys (kus := kusOf ds us) (I.ok.hd hc) hu hl (by rw [kus_snd r w]) (fun p hp => ?_) (okSet_mode h r w) fun h' tk L a b k => hQ h' tk L a b k (I.kept k)
  obtain ⟨d, v, hd, h1, h2, h3⟩ := kus_mem r w p hp
  obtain ⟨g1, m, g2, g3⟩ := keyOk_hash (okSet_hash h d hd)
  rw [h3]
  exact ⟨rel_key hK I d v _ h1 h2 (kOf_at g1), Nat.le_trans (key_depth d (kOf_at g1) g2) g3⟩
/-- how many there are -/
theorem out_len {ds : List D} {vs : List V} {us : List Value} {L : List KV} (h : okSet ds = true) (r : RelDs Y ρ n H ds vs) (w : Vals vs us) (nd : (L.map Prod.fst).Nodup) (o : OutK (kusOf ds us) L) : L.length = (dedup ds).length ∧ (L.map Prod.fst).Perm ((dedup ds).map kOf) := by
  have hh : ∀ d ∈ ds, hashable d = true := fun d hd => (keyOk_hash (okSet_hash h d hd)).1
  obtain ⟨q1, q2, q3⟩ := dedup_keys hh
  have pm : (L.map Prod.fst).Perm ((dedup ds).map kOf) := (List.perm_ext_iff_of_nodup nd q1).2 fun k => by
    rw [q3, ← kus_fst r w]
    constructor
    · intro hk
      obtain ⟨p, hp, rfl⟩ := List.mem_map.mp hk
      exact List.mem_map.mpr ⟨p, o.sub p hp, rfl⟩
    · intro hk
      obtain ⟨p, hp, rfl⟩ := List.mem_map.mp hk
      exact o.all p hp
  have := pm.length_eq
  rw [List.length_map, List.length_map] at this
  exact ⟨this, pm⟩
end
def rSrt (Y : Wd) (f : D → Option D) (Q : VK) : VK := fun x H => ∃ ρ st d r, StOk Y ρ st H ∧ RelS Y ρ st.length H d x ∧ f d = some r ∧ Fin1 Y ρ st H r Q
theorem vals_of_each {ρ : Nat → Addr} {n : Nat} {H : Hp} {Y : Wd} {Rl : Value → D × V → Prop} (h : ∀ u b, Rl u b → RelV b.2 u ∧ RelD Y ρ n H b.1 b.2) : ∀ {us : List Value} {bs : List (D × V)}, W.EachIs Rl us bs → Vals (bs.map Prod.snd) us ∧ RelDs Y ρ n H (bs.map Prod.fst) (bs.map Prod.snd)
  | _, _, .nil => ⟨.nil, by simp only [RelDs, List.map_nil]⟩
  | _, _, .cons r t => by
    obtain ⟨a, b⟩ := vals_of_each h t
    obtain ⟨c, d⟩ := h _ _ r
    exact ⟨.cons c a, by simp only [RelDs, List.map_cons]; exact ⟨_, _, rfl, d, b⟩⟩
section
variable {X : Cx} {Y : Wd} {ρ : Nat → Addr} {st : Store} {H : Hp} {pins : List (Addr × Obj)} {σ : L2.St} {s : Shared}
theorem srtL_at {ds r : List D} (h : srtL ds = some r) : okSet ds = true ∧ ((∀ d ∈ ds, someTup d = true) ∨ ∀ d ∈ ds, noTup d = true) ∧ (∀ d ∈ ds, ∀ e ∈ ds, alikeD d e = true) ∧ r = isort (dedup ds) := by
  unfold srtL at h
  split at h
  · rename_i c
    simp only [Option.some.injEq] at h
    rw [Bool.and_eq_true, Bool.and_eq_true, Bool.or_eq_true, List.all_eq_true, List.all_eq_true, List.all_eq_true] at c
    exact ⟨c.1, c.2.1, fun d hd => List.all_eq_true.mp (c.2.2 d hd), h.symm⟩
  · cases h
/-- sorted, of a set -/
theorem sorted_rel {Q : VK} {a : Addr} {L : List KV} {ds r : List D} {vs : List V} {us : List Value} (hc : X.calm = true) (hu : X.A.units + 200 < cLine) (hK : X.K = Y.K) (I : Inv X pins σ H s) (so : StOk Y ρ st H)
    (h : srtL ds = some r) (rr : RelDs Y ρ st.length H ds vs) (w : Vals vs us) (S : SetHas X.w s.heap a L) (o : OutK (kusOf ds us) L) (q : Fin1 Y ρ st H (.lst r) Q) : wpAny (model X.prog X.w) X.A (call (.builtin "sorted") [.ref a]) (EP X pins σ Q) X.xe s := by
  obtain ⟨ok, kinds, ali, rfl⟩ := srtL_at h
  have key := okSet_hash ok
  have hh : ∀ d ∈ ds, hashable d = true := fun d hd => (keyOk_hash (key d hd)).1
  have hdp : ∀ d ∈ ds, ∃ m, deep d = some m ∧ m ≤ 8 := fun d hd => (keyOk_hash (key d hd)).2
  obtain ⟨q1, q2, q3⟩ := dedup_keys hh
  obtain ⟨hlen, hpm⟩ := out_len ok rr w S.nod o
  have eq_of : ∀ d ∈ ds, ∀ e ∈ ds, kOf d = kOf e → d = e := fun d hd e he z => eqD_eq d e (ali d hd e he) ((eqD_kOf (hh d hd) (hh e he)).2 z)
  have cmpb : Cmpb (dedup ds) := by
    refine ⟨fun d hd => ?_, fun d hd e he => ali d (q2 d hd) e (q2 e he)⟩
    obtain ⟨m, e, g⟩ := hdp d (q2 d hd)
    unfold plain
    rw [e]
    exact decide_eq_true (by omega)
  have hL : ∀ p ∈ L, ∃ d v, d ∈ ds ∧ RelD Y ρ st.length H d v ∧ RelV v p.2 ∧ p.1 = kOf d := fun p hp => kus_mem rr w p (o.sub p hp)
  have isK : ∀ p ∈ L, NestedIs s.heap p.1 p.2 := fun p hp => by
    obtain ⟨d, v, hd, h1, h2, h3⟩ := hL p hp
    rw [h3]
    exact rel_key hK I d v _ h1 h2 (kOf_at (hh d hd))
  refine sorted_has (β := D × V) (Rl := fun u b => b.1 ∈ ds ∧ RelD Y ρ st.length H b.1 b.2 ∧ RelV b.2 u ∧ (kOf b.1, u) ∈ L) (enc := fun b => toP b.1) S (I.ok.hd hc) (by omega) fun out pm => ?_
  obtain ⟨bs, hbs⟩ := choose_list (out := out) (Rl := fun u (b : D × V) => b.1 ∈ ds ∧ RelD Y ρ st.length H b.1 b.2 ∧ RelV b.2 u ∧ (kOf b.1, u) ∈ L) fun u hu => by
    obtain ⟨p, hp, rfl⟩ := List.mem_map.mp (pm.mem_iff.mp hu)
    obtain ⟨d, v, hd, h1, h2, h3⟩ := hL p hp
    exact ⟨(d, v), hd, h1, h2, by rw [← h3]; exact hp⟩
  have mem : ∀ b ∈ bs, b.1 ∈ ds := fun b hb => by
    obtain ⟨u, _, z⟩ := each_mem hbs b hb
    exact z.1
  have kperm : ((bs.map Prod.fst).map kOf).Perm ((dedup ds).map kOf) := by
    refine List.Perm.trans ?_ hpm
    classical
    let g : Value → NestedKey := fun u => if e : ∃ k, NestedIs s.heap k u then e.choose else .none
    have gk : ∀ k u, NestedIs s.heap k u → g u = k := fun k u z => by
      have e : ∃ k, NestedIs s.heap k u := ⟨k, z⟩
      have : g u = e.choose := dif_pos e
      rw [this]
      exact NestedIs.inj _ _ _ e.choose_spec z
    have e1 : out.map g = bs.map fun b => kOf b.1 := each_mapEq (fun u b z => gk _ _ (isK (kOf b.1, u) z.2.2.2)) hbs
    have e2 : (L.map Prod.snd).map g = L.map Prod.fst := by
      rw [List.map_map]
      exact List.map_congr_left fun p hp => gk _ _ (isK p hp)
    have z := pm.map g
    rw [e1, e2] at z
    rw [List.map_map]
    exact z
  have dperm : (bs.map Prod.fst).Perm (dedup ds) := (List.perm_ext_iff_of_nodup (nodup_of_map (kperm.nodup_iff.mpr q1)) (nodup_of_map q1)).2 fun d => by
    constructor
    · intro hd
      have h1 : d ∈ ds := by
        obtain ⟨b, hb, rfl⟩ := List.mem_map.mp hd
        exact mem b hb
      obtain ⟨e, he, z⟩ := List.mem_map.mp (kperm.mem_iff.mp (List.mem_map.mpr ⟨d, hd, rfl⟩))
      rw [eq_of d h1 e (q2 e he) z.symm]; exact he
    · intro hd
      have h1 := q2 d hd
      obtain ⟨e, he, z⟩ := List.mem_map.mp (kperm.mem_iff.mpr (List.mem_map.mpr ⟨d, hd, rfl⟩))
      have h2 : e ∈ ds := by
        obtain ⟨b, hb, rfl⟩ := List.mem_map.mp he
        exact mem b hb
      rw [eq_of d h1 e h2 z.symm]; exact he
  refine ⟨bs, hbs, fun x hx y hy => ?_, ?_, fun b hb => ?_, fun h' hk => ?_, fun s' p res c hk hg hos hp hres hout hlt => ?_⟩
  · obtain ⟨b, hb, rfl⟩ := List.mem_map.mp hx
    obtain ⟨b', hb', rfl⟩ := List.mem_map.mp hy
    obtain ⟨m, e1, _⟩ := hdp _ (mem b hb)
    obtain ⟨m', e2, _⟩ := hdp _ (mem b' hb')
    rw [alike_toP _ _ e1 e2]
    exact ali _ (mem b hb) _ (mem b' hb')
  · rcases kinds with k | k
    · refine .inl fun x hx => ?_
      obtain ⟨b, hb, rfl⟩ := List.mem_map.mp hx
      have t := k _ (mem b hb)
      generalize b.1 = d at t ⊢
      cases d with
      | tup xs => cases xs with
        | nil => cases t
        | cons y ys => exact ⟨toP y, toPs ys, by simp only [toP, toPs]⟩
      | _ => cases t
    · refine .inr fun x hx => ?_
      obtain ⟨b, hb, rfl⟩ := List.mem_map.mp hx
      have t := k _ (mem b hb)
      have t2 := hh _ (mem b hb)
      generalize b.1 = d at t t2 ⊢
      cases d <;> first | (cases t; done) | (simp [hashable] at t2; done) | (simp [toP])
  · obtain ⟨m, e1, e2⟩ := hdp _ (mem b hb)
    have := (toP_plain b.1 e1).2
    omega
  · refine each_imp (fun u b z => ?_) hbs
    obtain ⟨m, e1, e2⟩ := hdp _ z.1
    obtain ⟨as, ra⟩ := rel_reads hK I b.1 b.2 u z.2.1 z.2.2.1 e1
    have e := reads_nil b.1 u as (hh _ z.1) ra
    subst e
    exact Reads.keeps hk ra
  · have hn : H p = none := I.hok.fresh hp
    have e := sort_same (f := Prod.fst) cmpb dperm
    obtain ⟨hv, hr⟩ := vals_of_each (Y := Y) (ρ := ρ) (n := st.length) (H := H) (fun u b z => ⟨z.2.2.1, z.2.1⟩) hout
    rw [show (bs.mergeSort (W.dataLe false fun b => toP b.1)).map Prod.fst = isort (dedup ds) from e] at hr
    generalize (bs.mergeSort (W.dataLe false fun b => toP b.1)).map Prod.snd = rs at hv hr
    have hlen2 : rs.length ≤ sizeLine := by
      rw [RelDs.length hr, (isort_perm _).length_eq, ← hlen, sizeLine_eq]
      have := S.few
      omega
    have I2 : Inv X pins σ (upd H p (.lst rs)) { s with heap := s'.heap, gens := s'.gens, drawn := s'.drawn, toks := s'.toks } :=
      I.call (ch := []) (Un.laid hk hp hn) (I.hok.laid hk hp ⟨hlen2, res.toList, c, hv, by simpa using hres⟩) (by rw [hg]; exact I.bare) (fun _ z => nomatch z)
    have es : s' = { s with heap := s'.heap, gens := s'.gens, drawn := s'.drawn, toks := s'.toks } := by
      cases s'
      cases s
      cases hos
      rfl
    rw [es]
    exact ep_newList so hr q ⟨.ref p, _, I2, rfl, p, hn, rfl, rfl⟩
end
section
variable {X : Cx} {Y : Wd} {W : WX} {H0 : Hp} {k : Nat} {N : List Str} {sc : Scope} {a : Expr} {pos p p2 q : Pos} {ra : Env → Store → Res D}
theorem seq_rel {ρ : Nat → Addr} {n : Nat} {H : Hp} {pins : List (Addr × Obj)} {σ : L2.St} {s : Shared} (hK : X.K = Y.K) (I : Inv X pins σ H s) {d : D} {ds : List D} {v : V} (e : seq? d = some ds) (h : RelS Y ρ n H d v) :
    ∃ l vs us, v = .ref l ∧ RelDs Y ρ n H ds vs ∧ Vals vs us ∧ (s.heap.IsList l us.toArray ∨ s.heap.IsTuple l us.toArray) := by
  cases d with
  | lst xs =>
    simp only [seq?, Option.some.injEq] at e; subst e
    obtain ⟨l, vs, rfl, hl, r⟩ := h
    obtain ⟨its, w, pl, _⟩ := I.list (.inl hl)
    exact ⟨l, vs, its, rfl, r, w, .inl pl.isList⟩
  | tup xs =>
    simp only [seq?, Option.some.injEq] at e; subst e
    obtain ⟨l, vs, rfl, hl, r⟩ := relS_tup h
    obtain ⟨its, w, pl, _⟩ := I.tuple (by rw [hK]; exact hl)
    exact ⟨l, vs, its, rfl, r, w, .inr pl⟩
  | _ => cases e
theorem evt_onSet {id : String} {nm : Str} {f : D → Option D} (c : CtxOk Y k N sc X W) (hg : Gl X nm) (hm : X.mg nm = none) (hb : bootBuiltins nm = some (.builtin id)) (hn : nm ≠ "__name__") (hd : (nm == ("__debug__" : Str)) = false) (hg2 : Gl X "set") (hm2 : X.mg "set" = none) (ho : okE a = true) (ha : PE X a (EvT Y W H0 ra))
    (hf : ∀ d r, f d = some r → ∃ ds, seq? d = some ds ∧ okSet ds = true ∧ ∀ {pins : List (Addr × Obj)} {σ : L2.St} {H : Hp} {s : Shared} {ρ : Nat → Addr} {st : Store} {Q : VK} {b : Addr} {L : List KV} {vs : List V} {us : List Value}, Inv X pins σ H s → StOk Y ρ st H →
      RelDs Y ρ st.length H ds vs → Vals vs us → SetHas X.w s.heap b L → OutK (kusOf ds us) L → Fin1 Y ρ st H r Q → wpAny (model X.prog X.w) X.A (call (.builtin id) [.ref b]) (EP X pins σ Q) X.xe s) :
    PE X (.Call (.Name nm p) [.Call (.Name "set" p2) [a] [] q] [] pos) (EvT Y W H0 fun env st => bnd (ra env st) fun d s => ofO (f (snap s d)) s) := by
  refine ⟨fun pins s σ H Q I ⟨ρ, st, env, so, en, h⟩ => ?_⟩
  have hu := c.units
  refine Call_ (ld_blt I hg hm hb (hn := hn) (hd := hd) ?_)
  refine PyProof.Rows.callWith_builtin1 (PyProof.Rows.args_cons ?_ rfl) rfl rfl
  refine Call_ (ld_blt I hg2 hm2 boot_set ?_)
  have ea : EvT Y W H0 ra σ H (fun x H1 => ∃ ρ st d r, StOk Y ρ st H1 ∧ RelS Y ρ st.length H1 d x ∧ f d = some r ∧ Fin1 Y ρ st H1 r Q) := ⟨ρ, st, env, so, en, h.bnd.imp fun ρ1 s1 H1 d t1 k1 v hv => by
    obtain ⟨r, hr, z⟩ := Aft.ofO t1.ok (k1 t1)
    exact ⟨ρ1, s1, _, r, t1.ok, RelB.snap t1.ok (.inl hv), hr, fun H' v t rv => z ρ1 H' t v rv⟩⟩
  refine PyProof.Rows.callWith_type1 (PyProof.Rows.args_cons (L2.thn (ha.run pins s σ H _ I ea) fun v s1 ⟨x, H1, I1, r1, q1⟩ => PyProof.Rows.args_nil ?_) (star_ok ho [] X.env)) (star_ok ho [] X.env) rfl
  obtain ⟨ρ1, st1, d, r, so1, hr1, hfr, fin⟩ := q1
  obtain ⟨ds, e1, e2, run⟩ := hf d r hfr
  obtain ⟨l, vs, us, rfl, rr, w, hl⟩ := seq_rel c.K I1 e1 hr1
  cases r1
  refine set_rel c.calm (by omega) c.K I1 hl e2 rr w fun h' tk L a b kp I2 => ?_
  refine PyProof.Rows.args_nil ?_
  exact run I2 so1 rr w a b fin
theorem evt_srt (c : CtxOk Y k N sc X W) (hg : Gl X "sorted") (hm : X.mg "sorted" = none) (hg2 : Gl X "set") (hm2 : X.mg "set" = none) (ho : okE a = true) (ha : PE X a (EvT Y W H0 ra)) :
    PE X (.Call (.Name "sorted" p) [.Call (.Name "set" p2) [a] [] q] [] pos) (EvT Y W H0 fun env st => bnd (ra env st) fun d s => ofO (srtD (snap s d)) s) :=
  evt_onSet c hg hm (by first | rfl | kernel_rfl) (by decide) (by decide) hg2 hm2 ho ha fun d r hr => by
    simp only [srtD, Option.bind_eq_some_iff, Option.map_eq_some_iff] at hr
    obtain ⟨ds, e1, rs, e2, rfl⟩ := hr
    exact ⟨ds, e1, (srtL_at e2).1, fun I so rr w a b fin => sorted_rel c.calm c.units c.K I so e2 rr w a b fin⟩
theorem evt_lset (c : CtxOk Y k N sc X W) (hg : Gl X "len") (hm : X.mg "len" = none) (hg2 : Gl X "set") (hm2 : X.mg "set" = none) (ho : okE a = true) (ha : PE X a (EvT Y W H0 ra)) :
    PE X (.Call (.Name "len" p) [.Call (.Name "set" p2) [a] [] q] [] pos) (EvT Y W H0 fun env st => bnd (ra env st) fun d s => ofO (lsetD (snap s d)) s) :=
  evt_onSet c hg hm (by first | rfl | kernel_rfl) (by decide) (by decide) hg2 hm2 ho ha fun d r hr => by
    simp only [lsetD, Option.bind_eq_some_iff] at hr
    obtain ⟨ds, e1, hr⟩ := hr
    split at hr
    · rename_i ok
      simp only [Option.some.injEq] at hr
      subst hr
      refine ⟨ds, e1, ok, fun I so rr w a b fin => ?_⟩
      obtain ⟨hl, _⟩ := out_len ok rr w a.nod b
      refine len_has a fun t => ⟨.int (dedup ds).length, _, I.tok _, ⟨t, by rw [hl]⟩, fin_now so fin rel_int⟩
    · cases hr
end
end J

/-! JMain1: an expression of the row gives what the interpreter says -/
namespace J
open PySem PySem.Spec PyProof.Rows L2

theorem mE_ok {T : Tab} {N : List Str} {sc : Scope} {ex : Ex} {e : Expr} (h : mE T N sc ex e = true) : okE e = true := by
  cases ex with
  | srt a =>
    simp only [mE] at h
    split at h
    · rename_i b hb
      obtain ⟨⟨_, _, _, _, rfl⟩, _⟩ := onSet_at hb
      rfl
    · cases h
  | lset a =>
    simp only [mE] at h
    split at h
    · rename_i b hb
      obtain ⟨⟨_, _, _, _, rfl⟩, _⟩ := onSet_at hb
      rfl
    · cases h
  | lc elt g => cases g; cases e <;> first | rfl | (simp [mE] at h; done)
  | lc2 elt g g2 =>
    cases g; cases g2
    simp only [mE] at h
    split at h
    · rename_i q hq
      obtain ⟨_, rfl⟩ := lc2Of_at hq
      rfl
    · cases h
  | _ => cases e <;> first | rfl | (simp [mE] at h; done)
theorem mEs_ok {T : Tab} {N : List Str} {sc : Scope} : ∀ {ex : Exs} {es : List Expr}, mEs T N sc ex es = true → es.all okE = true
  | .nil, es, h => by
    simp only [mEs] at h
    cases es with
    | nil => rfl
    | cons _ _ => cases h
  | .cons e r, [], h => by simp [mEs] at h
  | .cons e r, x :: xs, h => by
    simp only [mEs, Bool.and_eq_true] at h
    rw [List.all_cons, mE_ok h.1, mEs_ok h.2]
    rfl
section
variable {Y : Wd} {X : Cx}
theorem dicIn : DicIn X Y := fun _ _ _ _ _ _ _ _ _ _ _ _ _ _ _ _ ⟨_, _, _, _, h, _⟩ => h.elim
theorem dicTru : DicTru X Y := fun _ _ _ _ _ _ _ _ _ ⟨_, _, _, h, _⟩ => h.elim
theorem dicIx : DicIx X Y := fun _ _ _ _ _ _ _ _ _ _ _ _ _ _ ⟨_, _, _, _, _, _, h, _⟩ _ => h.elim
end
theorem evs_len {G : Gx} : ∀ {es : Exs} {T : Tab} {N : List Str} {sc : Scope} {xs : List Expr}, mEs T N sc es xs = true → ∀ env st ds s, evs G es env st = .ok ds s → ds.length = xs.length
  | .nil, T, N, sc, xs, h, env, st, ds, s, e => by
    simp only [mEs] at h
    simp only [evs, Res.ok.injEq] at e
    cases xs with
    | nil => rw [← e.1]; rfl
    | cons _ _ => cases h
  | .cons a r, T, N, sc, [], h, env, st, ds, s, e => by simp [mEs] at h
  | .cons a r, T, N, sc, x :: xs, h, env, st, ds, s, e => by
    simp only [mEs, Bool.and_eq_true] at h
    simp only [evs] at e
    obtain ⟨d, s1, _, e⟩ := bnd_ok e
    obtain ⟨ds', s2, e2, e⟩ := bnd_ok e
    cases e
    rw [List.length_cons, List.length_cons, evs_len h.2 _ _ _ _ e2]
theorem mI_ok {T : Tab} {N : List Str} {sc : Scope} {i : It} {e : Expr} (h : mI T N sc i e = true) : okE e = true := by
  cases i with
  | ex a => simp only [mI] at h; exact mE_ok h
  | _ => cases e <;> first | rfl | (simp [mI] at h; done)
theorem isTrue_head {e : Expr} {env : PySem.Env} (h : (match e with
    | .Name _ _ => true
    | .Call _ _ _ _ => true
    | .Subscript _ _ _ => true
    | .Attribute _ _ _ => true
    | .Compare _ _ _ _ => true
    | _ => false) = true) (hc : ∀ a b c d, e ≠ .Compare a b c d) : ∀ whole, isTrue e env whole = (do let v ← whole; standAt e.pos; holding [v] (truthy v)) := by
  cases e <;> first | (exact absurd rfl (hc _ _ _ _)) | exact fun _ => rfl | (cases h; done)
theorem pts_yes {X : Cx} {Y : Wd} {W : WX} {H0 : Hp} : PTs X [] (EvP Y W H0 fun _ st => .ok true st) := ⟨fun pins s σ H Q I ⟨ρ, st, env, so, en, a⟩ => pts_nil.run pins s σ H Q I (a ρ H (.refl so))⟩
theorem tab_contains {x : Str} {l : List Str} (h : l.contains x = true) : x ∈ l := by simpa using h
section
variable {Y : Wd} {T : Tab} {G : Gx} {k : Nat} {N : List Str} {H0 : Hp}
mutual
theorem ev_ok (hT : TabOk Y T G k) : ∀ (ex : Ex) (e : Expr) {sc : Scope} {X : Cx} {W : WX}, CtxOk Y k N sc X W → mE T N sc ex e = true → PE X e (EvT Y W H0 (ev G ex))
  | .int i, e, sc, X, W, c, h => by
    simp only [mE] at h
    split at h
    · rename_i j _ _
      have q : i = j := eq_of_beq h
      subst q
      exact evt_int
    · cases h
  | .str i, e, sc, X, W, c, h => by
    simp only [mE] at h
    split at h
    · rename_i j _ _
      have q : i = j := eq_of_beq h
      subst q
      exact evt_str
    · cases h
  | .bl i, e, sc, X, W, c, h => by
    simp only [mE] at h
    split at h
    · rename_i j _ _
      have q : i = j := eq_of_beq h
      subst q
      exact evt_bl
    · cases h
  | .non, e, sc, X, W, c, h => by
    simp only [mE] at h
    split at h
    · exact evt_non
    · cases h
  | .var i, e, sc, X, W, c, h => by
    simp only [mE] at h
    split at h
    · simp only [Bool.and_eq_true] at h
      obtain ⟨h1, h2, _⟩ := okN_at h.2
      exact evt_var (nmB_N c h.1.1) (visB_vis c h.1.2) h1 h2
    · cases h
  | .bor i, e, sc, X, W, c, h => by simp [mE] at h
  | .glo j, e, sc, X, W, c, h => by
    simp only [mE] at h
    split at h
    · simp only [Bool.and_eq_true] at h
      obtain ⟨h1, h2, _⟩ := okN_at h.2
      obtain ⟨d, v, u, e1, e2, e3, e4⟩ := hT.glos _ _ (lkB_at h.1.1)
      exact evt_glo (glB_gl c h.1.2) (by rw [c.mg]; exact e2) e3 h1 e1 e4
    · cases h
  | .tup es, e, sc, X, W, c, h => by
    simp only [mE] at h
    split at h
    · exact evt_tup (evs_ok hT es _ c h)
    · cases h
  | .lst es, e, sc, X, W, c, h => by
    simp only [mE] at h
    split at h
    · exact evt_lst (evs_ok hT es _ c h)
    · cases h
  | .bin o a b, e, sc, X, W, c, h => by
    simp only [mE] at h
    split at h
    · simp only [Bool.and_eq_true] at h
      rw [bopB_eq h.1.1]
      exact evt_bin c.K o (ev_ok hT a _ c h.1.2) (ev_ok hT b _ c h.2)
    · cases h
  | .cmp o a b, e, sc, X, W, c, h => by
    simp only [mE] at h
    split at h
    · simp only [Bool.and_eq_true] at h
      rw [copB_eq h.1.1]
      exact evt_cmp c.K c.units dicIn o (mE_ok h.2) (ev_ok hT a _ c h.1.2) (ev_ok hT b _ c h.2)
    · cases h
  | .chain o p a b d, e, sc, X, W, c, h => by
    simp only [mE] at h
    split at h
    · simp only [Bool.and_eq_true] at h
      rw [copB_eq h.1.1.1.1, copB_eq h.1.1.1.2]
      exact evt_chain c.K c.units dicIn o p (mE_ok h.1.2) (mE_ok h.2) (ev_ok hT a _ c h.1.1.2) (ev_ok hT b _ c h.1.2) (ev_ok hT d _ c h.2)
    · cases h
  | .neg a, e, sc, X, W, c, h => by
    simp only [mE] at h
    split at h
    · exact evt_neg (ev_ok hT a _ c h)
    · cases h
  | .ands es, e, sc, X, W, c, h => by
    simp only [mE] at h
    split at h
    · exact evAnd_ok hT es _ c h
    · cases h
  | .ors es, e, sc, X, W, c, h => by
    simp only [mE] at h
    split at h
    · exact evOr_ok hT es _ c h
    · cases h
  | .not a, e, sc, X, W, c, h => by
    simp only [mE] at h
    split at h
    · exact evt_not (ev_ok hT a _ c h)
    · cases h
  | .ite t a b, e, sc, X, W, c, h => by
    simp only [mE] at h
    split at h
    · simp only [Bool.and_eq_true] at h
      exact evt_ite (tst_ok hT t _ c h.1.1) (ev_ok hT a _ c h.1.2) (ev_ok hT b _ c h.2)
    · cases h
  | .ix a i, e, sc, X, W, c, h => by
    simp only [mE] at h
    split at h
    · simp only [Bool.and_eq_true] at h
      exact evt_ix c.K dicIx (mE_ok h.2) (ev_ok hT a _ c h.1) (ev_ok hT i _ c h.2)
    · cases h
  | .slc a lo hi, e, sc, X, W, c, h => by
    simp only [mE] at h
    split at h
    · simp only [Bool.and_eq_true] at h
      exact evt_slc c.K (ev_ok hT a _ c h.1.1) (evO_ok hT lo _ c h.1.2) (evO_ok hT hi _ c h.2)
    · cases h
  | .fn i es, e, sc, X, W, c, h => by
    simp only [mE] at h
    split at h
    · rename_i x p args pos
      simp only [Bool.and_eq_true, Bool.not_eq_true'] at h
      obtain ⟨h1, h2, _⟩ := okN_at h.1.1.2
      exact evt_fn c (hT.fns _ _ (lkB_at h.1.1.1.1)) (glB_gl c h.1.1.1.2) h1 (mEs_ok h.1.2) (fun z => by rw [z] at h; simp at h) (evs_ok hT es _ c h.1.2)
    · cases h
  | .bt f es, e, sc, X, W, c, h => by
    simp only [mE] at h
    split at h
    · rename_i x p args pos
      rw [Bool.and_eq_true] at h
      obtain ⟨hc, ha⟩ := h
      by_cases hf : ∃ t, f = .isi t
      · obtain ⟨t, rfl⟩ := hf
        simp only [btC, Bool.and_eq_true] at hc
        obtain ⟨⟨⟨h1, h2⟩, h3⟩, h4⟩ := hc
        have ex := eq_of_beq h1
        subst ex
        split at h4
        · rename_i a y _
          simp only [Bool.and_eq_true] at h4
          have ey := eq_of_beq h4.1.1.2
          subst ey
          match es, ha with
          | .cons d .nil, ha =>
            simp only [btA, List.take_succ_cons, List.take_zero, mEs, Bool.and_eq_true] at ha
            exact evt_isi c t (glB_gl c h2) (by rw [c.mg]; exact hT.bls _ (tab_contains h3)) (glB_gl c h4.1.2) (by rw [c.mg]; exact hT.bls _ (tab_contains h4.2)) (mE_ok ha.1) (ev_ok hT d _ c ha.1)
          | .nil, ha => simp [btA, mEs] at ha
          | .cons _ (.cons _ _), ha => simp [btA, mEs] at ha
        · cases h4
      · have h' : (btS f && x == btN f && glB sc x && T.bls.contains x && !args.isEmpty) = true ∧ btA f args = args := by
          cases f <;> first | exact ⟨hc, rfl⟩ | (exfalso; exact hf ⟨_, rfl⟩)
        obtain ⟨h', ea⟩ := h'
        rw [ea] at ha
        simp only [Bool.and_eq_true, Bool.not_eq_true'] at h'
        obtain ⟨⟨⟨⟨h1, h2⟩, h3⟩, h4⟩, h6⟩ := h'
        have ex := eq_of_beq h2
        subst ex
        exact evt_bt c f h1 (glB_gl c h3) (by rw [c.mg]; exact hT.bls _ (tab_contains h4)) (mEs_ok ha) (fun z => by rw [z] at h6; simp at h6) (evs_ok hT es _ c ha)
    · cases h
  | .bm _ _ _, e, sc, X, W, c, h => by simp [mE] at h
  | .me _ _ _, e, sc, X, W, c, h => by simp [mE] at h
  | .mk _ _, e, sc, X, W, c, h => by simp [mE] at h
  | .att _ _, e, sc, X, W, c, h => by simp [mE] at h
  | .lc elt (.mk t i ifs own), e, sc, X, W, c, h => by
    simp only [mE] at h
    split at h
    · rename_i el tg it fs scope pos
      simp only [Bool.and_eq_true] at h
      obtain ⟨⟨⟨⟨⟨⟨h1, h2⟩, h3⟩, h4⟩, h5⟩, h6⟩, h7⟩ := h
      refine evt_lc c h1 (fun i hi => by have := List.all_eq_true.mp h5 i hi; simpa using this) (mI_ok h3) (evI_ok hT i _ tg c h3 h4) (fun s H C cl fp => pg_tg (c.blk s H C cl fp) t tg h2) (fun s H C cl fp => ?_) (fun s H C cl fp => ev_ok hT elt _ (c.blk s H C cl fp) h7)
      split at h6
      · split at h6
        · exact pts_yes
        · cases h6
      · exact ⟨fun pins s1 σ H1 Q I q => (pts_one (tst_ok hT ifs _ (c.blk s H C cl fp) h6)).run pins s1 σ H1 Q I q⟩
      · cases h6
    · cases h
  | .lc2 elt (.mk t i ifs own) (.mk t2 i2 ifs2 own2), e, sc, X, W, c, h => by
    simp only [mE] at h
    split at h
    · rename_i q hq
      obtain ⟨pos, rfl⟩ := lc2Of_at hq
      clear hq
      obtain ⟨el, tg, it, fs, tg2, it2, fs2, scope⟩ := q
      dsimp only at h ⊢
      simp only [Bool.and_eq_true] at h
      obtain ⟨⟨⟨⟨⟨⟨⟨⟨⟨⟨⟨⟨h1, h2⟩, h3⟩, h4⟩, h5⟩, h6⟩, g2⟩, g3⟩, g4⟩, g5⟩, g8⟩, g6⟩, h7⟩ := h
      refine evt_lc2 c h1 (fun i hi => by have := List.all_eq_true.mp h5 i hi; simpa using this) (fun i hi => by have := List.all_eq_true.mp g5 i hi; simpa using this) (fun i hi => by have := List.all_eq_true.mp g8 i hi; simpa using this) (mI_ok h3) (mI_ok g3) (evI_ok hT i _ tg c h3 h4)
        (fun s H C cl fp => pg_tg (c.blk s H C cl fp) t tg h2) (fun s H C cl fp => ?_) (fun s H C cl fp => evI_ok hT i2 _ tg2 (c.blk s H C cl fp) g3 g4) (fun s H C cl fp => pg_tg (c.blk s H C cl fp) t2 tg2 g2) (fun s H C cl fp => ?_) (fun s H C cl fp => ev_ok hT elt _ (c.blk s H C cl fp) h7)
      · split at h6
        · cases ifs <;> first | exact pts_yes | cases h6
        · exact ⟨fun pins s1 σ H1 Q I q => (pts_one (tst_ok hT ifs _ (c.blk s H C cl fp) h6)).run pins s1 σ H1 Q I q⟩
        · cases h6
      · split at g6
        · cases ifs2 <;> first | exact pts_yes | cases g6
        · exact ⟨fun pins s1 σ H1 Q I q => (pts_one (tst_ok hT ifs2 _ (c.blk s H C cl fp) g6)).run pins s1 σ H1 Q I q⟩
        · cases g6
    · cases h
  | .new es, e, sc, X, W, c, h => by
    simp only [mE] at h
    split at h
    · exact evt_new (evs_ok hT es _ c h)
    · cases h
  | .srt a, e, sc, X, W, c, h => by
    simp only [mE] at h
    split at h
    · rename_i b hb
      obtain ⟨⟨p, p2, q, pos, rfl⟩, h1, h2, h3, h4⟩ := onSet_at hb
      exact evt_srt c (glB_gl c h1) (by rw [c.mg]; exact hT.bls _ (tab_contains h2)) (glB_gl c h3) (by rw [c.mg]; exact hT.bls _ (tab_contains h4)) (mE_ok h) (ev_ok hT a b c h)
    · cases h
  | .lset a, e, sc, X, W, c, h => by
    simp only [mE] at h
    split at h
    · rename_i b hb
      obtain ⟨⟨p, p2, q, pos, rfl⟩, h1, h2, h3, h4⟩ := onSet_at hb
      exact evt_lset c (glB_gl c h1) (by rw [c.mg]; exact hT.bls _ (tab_contains h2)) (glB_gl c h3) (by rw [c.mg]; exact hT.bls _ (tab_contains h4)) (mE_ok h) (ev_ok hT a b c h)
    · cases h
  | .dc _ _ _, e, sc, X, W, c, h => by simp [mE] at h
  | .dict _, e, sc, X, W, c, h => by simp [mE] at h
  | .fs _, e, sc, X, W, c, h => by simp [mE] at h
  | .itl _ _, e, sc, X, W, c, h => by simp [mE] at h
theorem evs_ok (hT : TabOk Y T G k) : ∀ (es : Exs) (xs : List Expr) {sc : Scope} {X : Cx} {W : WX}, CtxOk Y k N sc X W → mEs T N sc es xs = true → PA X xs (EvA Y W H0 (evs G es))
  | .nil, xs, sc, X, W, c, h => by
    simp only [mEs] at h
    cases xs with
    | nil => exact eva_nil
    | cons _ _ => cases h
  | .cons e r, xs, sc, X, W, c, h => by
    cases xs with
    | nil => simp [mEs] at h
    | cons x xs =>
      simp only [mEs, Bool.and_eq_true] at h
      exact eva_cons (mE_ok h.1) (ev_ok hT e x c h.1) (evs_ok hT r xs c h.2)
theorem evO_ok (hT : TabOk Y T G k) : ∀ (o : Option Ex) (x : Option Expr) {sc : Scope} {X : Cx} {W : WX}, CtxOk Y k N sc X W → mO T N sc o x = true → PO X x (EvO Y W H0 (evO G o))
  | none, x, sc, X, W, c, h => by
    simp only [mO] at h
    cases x with
    | none => exact evo_none
    | some _ => cases h
  | some e, x, sc, X, W, c, h => by
    cases x with
    | none => simp [mO] at h
    | some x =>
      simp only [mO] at h
      exact evo_some (ev_ok hT e x c h)
theorem evAnd_ok (hT : TabOk Y T G k) : ∀ (es : Exs) (xs : List Expr) {sc : Scope} {X : Cx} {W : WX} {pos : Pos}, CtxOk Y k N sc X W → mEs T N sc es xs = true → PE X (.BoolOp .And xs pos) (EvT Y W H0 (evAnd G es))
  | .nil, xs, sc, X, W, pos, c, h => ⟨fun _ _ _ _ _ _ ⟨_, _, _, _, _, a⟩ => a.elim⟩
  | .cons e .nil, xs, sc, X, W, pos, c, h => by
    match xs, h with
    | [], h => simp [mEs] at h
    | [x], h =>
      simp only [mEs, Bool.and_eq_true] at h
      exact pe_one (ev_ok hT e x c h.1)
    | _ :: _ :: _, h => simp [mEs] at h
  | .cons e (.cons e2 r), xs, sc, X, W, pos, c, h => by
    match xs, h with
    | [], h => simp [mEs] at h
    | [x], h => simp [mEs] at h
    | x :: y :: z, h =>
      have h2 : mEs T N sc (.cons e2 r) (y :: z) = true := by
        simp only [mEs, Bool.and_eq_true] at h ⊢
        exact h.2
      simp only [mEs, Bool.and_eq_true] at h
      exact evt_and (ev_ok hT e x c h.1) (evAnd_ok hT (.cons e2 r) (y :: z) c h2)
theorem evOr_ok (hT : TabOk Y T G k) : ∀ (es : Exs) (xs : List Expr) {sc : Scope} {X : Cx} {W : WX} {pos : Pos}, CtxOk Y k N sc X W → mEs T N sc es xs = true → PE X (.BoolOp .Or xs pos) (EvT Y W H0 (evOr G es))
  | .nil, xs, sc, X, W, pos, c, h => ⟨fun _ _ _ _ _ _ ⟨_, _, _, _, _, a⟩ => a.elim⟩
  | .cons e .nil, xs, sc, X, W, pos, c, h => by
    match xs, h with
    | [], h => simp [mEs] at h
    | [x], h =>
      simp only [mEs, Bool.and_eq_true] at h
      exact pe_one (ev_ok hT e x c h.1)
    | _ :: _ :: _, h => simp [mEs] at h
  | .cons e (.cons e2 r), xs, sc, X, W, pos, c, h => by
    match xs, h with
    | [], h => simp [mEs] at h
    | [x], h => simp [mEs] at h
    | x :: y :: z, h =>
      have h2 : mEs T N sc (.cons e2 r) (y :: z) = true := by
        simp only [mEs, Bool.and_eq_true] at h ⊢
        exact h.2
      simp only [mEs, Bool.and_eq_true] at h
      exact evt_or (ev_ok hT e x c h.1) (evOr_ok hT (.cons e2 r) (y :: z) c h2)
theorem tst_ok (hT : TabOk Y T G k) : ∀ (t : Te) (e : Expr) {sc : Scope} {X : Cx} {W : WX}, CtxOk Y k N sc X W → mT T N sc t e = true → PT X e (EvP Y W H0 (tst G t))
  | .yes, e, sc, X, W, c, h => by simp [mT] at h
  | .ex a, e, sc, X, W, c, h => by
    simp only [mT] at h
    rw [Bool.and_eq_true] at h
    obtain ⟨hm, hh⟩ := h
    by_cases hc : ∃ x b d p, e = .Compare x b d p
    · obtain ⟨x, ops, ys, p, rfl⟩ := hc
      cases a with
      | cmp o a b =>
        match ops, ys, hm with
        | [op], [y], hm =>
          simp only [mE, Bool.and_eq_true] at hm
          rw [copB_eq hm.1.1]
          exact evp_cmp c.K c.units dicIn o (mE_ok hm.2) (ev_ok hT a _ c hm.1.2) (ev_ok hT b _ c hm.2)
        | [], _, hm => simp [mE] at hm
        | [_], [], hm => simp [mE] at hm
        | [_], _ :: _ :: _, hm => simp [mE] at hm
        | _ :: _ :: _, _, hm => simp [mE] at hm
      | chain o p a b d =>
        match ops, ys, hm with
        | [o1, o2], [y, z], hm =>
          simp only [mE, Bool.and_eq_true] at hm
          rw [copB_eq hm.1.1.1.1, copB_eq hm.1.1.1.2]
          exact evp_chain c.K c.units dicIn o p (mE_ok hm.1.2) (mE_ok hm.2) (ev_ok hT a _ c hm.1.1.2) (ev_ok hT b _ c hm.1.2) (ev_ok hT d _ c hm.2)
        | [], _, hm => simp [mE] at hm
        | [_], _, hm => simp [mE] at hm
        | [_, _], [], hm => simp [mE] at hm
        | [_, _], [_], hm => simp [mE] at hm
        | [_, _], _ :: _ :: _ :: _, hm => simp [mE] at hm
        | _ :: _ :: _ :: _, _, hm => simp [mE] at hm
      | lc elt g => cases g; simp [mE] at hm
      | lc2 elt g g2 =>
        cases g; cases g2
        simp only [mE] at hm
        split at hm
        · rename_i q hq
          obtain ⟨_, z⟩ := lc2Of_at hq
          cases z
        · cases hm
      | srt a =>
        simp only [mE] at hm
        split at hm
        · rename_i b hb
          obtain ⟨⟨_, _, _, _, z⟩, _⟩ := onSet_at hb
          cases z
        · cases hm
      | lset a =>
        simp only [mE] at hm
        split at hm
        · rename_i b hb
          obtain ⟨⟨_, _, _, _, z⟩, _⟩ := onSet_at hb
          cases z
        · cases hm
      | _ => simp [mE] at hm
    · exact evp_truth c.K dicTru (ev_ok hT a e c hm) (isTrue_head hh fun x b d p z => hc ⟨x, b, d, p, z⟩)
  | .ands ts, e, sc, X, W, c, h => by
    simp only [mT] at h
    split at h
    · exact (tsAnd_ok hT ts _ c h).pt
    · cases h
  | .ors ts, e, sc, X, W, c, h => by
    simp only [mT] at h
    split at h
    · exact (tsOr_ok hT ts _ c h).pt
    · cases h
  | .not t, e, sc, X, W, c, h => by
    simp only [mT] at h
    split at h
    · exact pt_imp (pt_not (tst_ok hT t _ c h)) fun σ H Q ⟨ρ, st, env, so, en, a⟩ => ⟨ρ, st, env, so, en, (Aft.bnd a).imp fun ρ1 s1 H1 b t1 k1 => k1 t1 ρ1 H1 (.refl t1.ok)⟩
    · cases h
theorem tsAnd_ok (hT : TabOk Y T G k) : ∀ (es : Tes) (xs : List Expr) {sc : Scope} {X : Cx} {W : WX} {pos : Pos}, CtxOk Y k N sc X W → mTs T N sc es xs = true → PW X (.BoolOp .And xs pos) (EvP Y W H0 (tsAnd G es))
  | .nil, xs, sc, X, W, pos, c, h => ⟨fun _ _ _ _ _ _ _ ⟨_, _, _, _, _, a⟩ => a.elim⟩
  | .cons e .nil, xs, sc, X, W, pos, c, h => by
    match xs, h with
    | [], h => simp [mTs] at h
    | [x], h =>
      simp only [mTs, Bool.and_eq_true] at h
      exact pw_and1 (tst_ok hT e x c h.1)
    | _ :: _ :: _, h => simp [mTs] at h
  | .cons e (.cons e2 r), xs, sc, X, W, pos, c, h => by
    match xs, h with
    | [], h => simp [mTs] at h
    | [x], h => simp [mTs] at h
    | x :: y :: z, h =>
      have h2 : mTs T N sc (.cons e2 r) (y :: z) = true := by
        simp only [mTs, Bool.and_eq_true] at h ⊢
        exact h.2
      simp only [mTs, Bool.and_eq_true] at h
      exact pw_imp (pw_and (tst_ok hT e x c h.1) (tsAnd_ok hT (.cons e2 r) (y :: z) c h2)) fun σ H Q ⟨ρ, st, env, so, en, a⟩ => by
        refine ⟨ρ, st, env, so, en, (Aft.bnd (f := fun b s => if b then tsAnd G (.cons e2 r) env s else .ok false s) a).imp fun ρ1 s1 H1 b t1 k1 => ?_⟩
        have k1 := k1 t1
        cases b with
        | true => dsimp only; rw [if_pos rfl]; exact ⟨ρ1, s1, env, t1.ok, en.step so t1, k1⟩
        | false => dsimp only; rw [if_neg Bool.false_ne_true]; exact k1 ρ1 H1 (.refl t1.ok)
theorem tsOr_ok (hT : TabOk Y T G k) : ∀ (es : Tes) (xs : List Expr) {sc : Scope} {X : Cx} {W : WX} {pos : Pos}, CtxOk Y k N sc X W → mTs T N sc es xs = true → PW X (.BoolOp .Or xs pos) (EvP Y W H0 (tsOr G es))
  | .nil, xs, sc, X, W, pos, c, h => ⟨fun _ _ _ _ _ _ _ ⟨_, _, _, _, _, a⟩ => a.elim⟩
  | .cons e .nil, xs, sc, X, W, pos, c, h => by
    match xs, h with
    | [], h => simp [mTs] at h
    | [x], h =>
      simp only [mTs, Bool.and_eq_true] at h
      exact pw_or1 (tst_ok hT e x c h.1)
    | _ :: _ :: _, h => simp [mTs] at h
  | .cons e (.cons e2 r), xs, sc, X, W, pos, c, h => by
    match xs, h with
    | [], h => simp [mTs] at h
    | [x], h => simp [mTs] at h
    | x :: y :: z, h =>
      have h2 : mTs T N sc (.cons e2 r) (y :: z) = true := by
        simp only [mTs, Bool.and_eq_true] at h ⊢
        exact h.2
      simp only [mTs, Bool.and_eq_true] at h
      exact pw_imp (pw_or (tst_ok hT e x c h.1) (tsOr_ok hT (.cons e2 r) (y :: z) c h2)) fun σ H Q ⟨ρ, st, env, so, en, a⟩ => by
        refine ⟨ρ, st, env, so, en, (Aft.bnd (f := fun b s => if b then .ok true s else tsOr G (.cons e2 r) env s) a).imp fun ρ1 s1 H1 b t1 k1 => ?_⟩
        have k1 := k1 t1
        cases b with
        | true => dsimp only; rw [if_pos rfl]; exact k1 ρ1 H1 (.refl t1.ok)
        | false => dsimp only; rw [if_neg Bool.false_ne_true]; exact ⟨ρ1, s1, env, t1.ok, en.step so t1, k1⟩
theorem evI_ok (hT : TabOk Y T G k) : ∀ (i : It) (x tg : Expr) {sc : Scope} {X : Cx} {W : WX}, CtxOk Y k N sc X W → mI T N sc i x = true → zipT i tg = true → PI X tg x (EvI Y W H0 (itD G i))
  | .ex e, x, tg, sc, X, W, c, h, hz => by
    simp only [mI] at h
    exact evi_ex c.K (ev_ok hT e x c h)
  | .rng es, x, tg, sc, X, W, c, h, hz => by
    simp only [mI] at h
    split at h
    · rename_i y _ args _
      simp only [Bool.and_eq_true] at h
      obtain ⟨⟨⟨⟨h1, h2⟩, h3⟩, h4⟩, h5⟩ := h
      have ex := eq_of_beq h1
      subst ex
      have hl := fun env st ds s => evs_len (G := G) h4 env st ds s
      have ho := mEs_ok h4
      match args, h4, h5, hl, ho with
      | [a], h4, h5, hl, ho =>
        rw [List.all_cons, Bool.and_eq_true] at ho
        exact evi_rng1 (glB_gl c h2) (by rw [c.mg]; exact hT.bls _ (tab_contains h3)) ho.1 hl (evs_ok hT es _ c h4)
      | [a, b], h4, h5, hl, ho =>
        rw [List.all_cons, List.all_cons, Bool.and_eq_true, Bool.and_eq_true] at ho
        exact evi_rng2 (glB_gl c h2) (by rw [c.mg]; exact hT.bls _ (tab_contains h3)) ho.1 ho.2.1 hl (evs_ok hT es _ c h4)
    · cases h
  | .zip a b, x, tg, sc, X, W, c, h, hz => by
    simp only [mI] at h
    split at h
    · simp only [Bool.and_eq_true] at h
      obtain ⟨⟨⟨⟨h1, h2⟩, h3⟩, h4⟩, h5⟩ := h
      have ex := eq_of_beq h1
      subst ex
      cases tg <;> first
        | (simp [zipT] at hz; done)
        | exact evi_zip c.K (glB_gl c h2) (by rw [c.mg]; exact hT.bls _ (tab_contains h3)) (mE_ok h4) (mE_ok h5) (ev_ok hT a _ c h4) (ev_ok hT b _ c h5)
    · cases h
  | .enum _, x, tg, sc, X, W, c, h, hz => by simp [mI] at h
  | .items _, x, tg, sc, X, W, c, h, hz => by simp [mI] at h
  | .vals _, x, tg, sc, X, W, c, h, hz => by simp [mI] at h
  | .rev _, x, tg, sc, X, W, c, h, hz => by simp [mI] at h
end
end
end J

/-! JStm1: statements -/
namespace J
open PySem PySem.Spec PyProof.Rows L2

def Mono (ρ : Nat → Addr) (n : Nat) (H : Hp) (ρ' : Nat → Addr) (n' : Nat) (H' : Hp) : Prop := Grow ρ n ρ' n' ∧ Hk H H'
theorem Mono.refl {ρ : Nat → Addr} {n : Nat} {H : Hp} : Mono ρ n H ρ n H := ⟨.refl, .refl⟩
theorem Mono.trans {ρ ρ1 ρ2 : Nat → Addr} {n n1 n2 : Nat} {H H1 H2 : Hp} (a : Mono ρ n H ρ1 n1 H1) (b : Mono ρ1 n1 H1 ρ2 n2 H2) : Mono ρ n H ρ2 n2 H2 := ⟨a.1.trans b.1, a.2.trans b.2⟩
/-- what is wanted behind a statement -/
def FlQ (Y : Wd) (D : Ends) : Fl → (Nat → Addr) → Store → Hp → L2.St → Prop
  | .nx, _, _, H', σ' => D.nx σ' H'
  | .ret d, ρ', st', H', _ => ∀ v, RelD Y ρ' st'.length H' d v → D.rt v H'
  | .brk, _, _, H', σ' => D.bk σ' H'
  | .ct, _, _, H', σ' => D.ct σ' H'
section
variable (Y : Wd) (W : WX) (ρe : Nat → Addr) (ste : Store) (He : Hp)
def AftS (D : Ends) (ρ : Nat → Addr) (n : Nat) (H : Hp) (r : RS) : Prop := match r with
  | .ok f env' st' => ∀ ρ' H' σ', Mono ρ n H ρ' st'.length H' → Step Y ρe ste He ρ' st' H' → EnvOk Y ρ' st' He H' env' σ' → FlQ Y D f ρ' st' H' σ'
  | .exc x env' st' => ∀ ρ' H' σ' c d, Mono ρ n H ρ' st'.length H' → Step Y ρe ste He ρ' st' H' → EnvOk Y ρ' st' He H' env' σ' → ExcOk Y ρ' st'.length H' x c d → W c d σ' H'
  | .bad => False
def ExS (r : Env → Store → RS) : TS := fun D σ H => ∃ ρ st env, Step Y ρe ste He ρ st H ∧ EnvOk Y ρ st He H env σ ∧ AftS Y W ρe ste He D ρ st.length H (r env st)
end
section
variable {Y : Wd} {W : WX} {ρe : Nat → Addr} {ste : Store} {He : Hp} {D : Ends} {ρ ρ1 : Nat → Addr} {n n1 : Nat} {H H1 : Hp} {st st1 : Store} {env : Env} {σ : L2.St}
theorem AftS.later {r : RS} (m : Mono ρ n H ρ1 n1 H1) (h : AftS Y W ρe ste He D ρ n H r) : AftS Y W ρe ste He D ρ1 n1 H1 r := by
  cases r with
  | ok f e s => exact fun ρ' H' σ' m' t en => h ρ' H' σ' (m.trans m') t en
  | exc x e s => exact fun ρ' H' σ' c d m' t en k => h ρ' H' σ' c d (m.trans m') t en k
  | bad => exact h
/-- an expression, then more -/
theorem AftS.bnd {α : Type} {x : Res α} {f : α → Store → RS} (so : Step Y ρe ste He ρ st H) (en : EnvOk Y ρ st He H env σ) (h : AftS Y W ρe ste He D ρ st.length H (bndS env x f)) :
    Aft Y W σ ρ st H x fun ρ1 s1 H1 a => Step Y ρ st H ρ1 s1 H1 → AftS Y W ρe ste He D ρ1 s1.length H1 (f a s1) := by
  cases x with
  | ok a s => exact fun ρ' H' t t' => AftS.later (t.mono so.ok) h
  | exc x s => exact fun ρ' H' c d t k => h ρ' H' σ c d (t.mono so.ok) (so.trans t) (en.step so.ok t) k
  | bad => exact h
/-- a value in hand -/
theorem AftS.now {r : RS} {f : Fl} (h : AftS Y W ρe ste He D ρ st.length H (.ok f env st)) (so : Step Y ρe ste He ρ st H) (en : EnvOk Y ρ st He H env σ) : FlQ Y D f ρ st H σ := h ρ H σ .refl so en
end
section
variable {Y : Wd} {W : WX} {ρe : Nat → Addr} {ste : Store} {He : Hp} {X : Cx} {e : Expr} {pos : Pos} {s0 : Stmt} {ss : List Stmt}
theorem ps_imp {t t' : TS} (h : PS X s0 t) (k : ∀ D σ H, t' D σ H → t D σ H) : PS X s0 t' := ⟨fun pins s σ H D I q => h.run pins s σ H D I (k _ _ _ q)⟩
theorem pss_imp {t t' : TS} (h : PSs X ss t) (k : ∀ D σ H, t' D σ H → t D σ H) : PSs X ss t' := ⟨fun pins s σ H D I q => h.run pins s σ H D I (k _ _ _ q)⟩
theorem exs_nil : PSs X [] (ExS Y W ρe ste He fun env st => .ok .nx env st) := pss_imp pss_nil fun D σ H ⟨ρ, st, env, so, en, a⟩ => a ρ H σ .refl so en
theorem exs_cons {r : Env → Store → RS} {rs : Env → Store → RS} (h : PS X s0 (ExS Y W ρe ste He r)) (hs : PSs X ss (ExS Y W ρe ste He rs)) : PSs X (s0 :: ss) (ExS Y W ρe ste He fun env st => thn (r env st) fun e s' => rs e s') :=
  pss_imp (pss_cons h hs) fun D σ H ⟨ρ, st, env, so, en, a⟩ => by
    refine ⟨ρ, st, env, so, en, ?_⟩
    dsimp only at a
    cases q : r env st with
    | bad => rw [q] at a; exact a.elim
    | exc x e s => rw [q] at a; exact a
    | ok f e s =>
      rw [q] at a
      cases f with
      | nx => exact fun ρ' H' σ' m t en' => ⟨ρ', s, e, t, en', AftS.later m a⟩
      | ret d => exact a
      | brk => exact a
      | ct => exact a
theorem exs_pass : PS X (.Pass pos) (ExS Y W ρe ste He fun env st => .ok .nx env st) := ps_imp ps_pass fun D σ H ⟨ρ, st, env, so, en, a⟩ => a ρ H σ .refl so en
theorem exs_brk : PS X (.Break pos) (ExS Y W ρe ste He fun env st => .ok .brk env st) := ps_imp ps_break fun D σ H ⟨ρ, st, env, so, en, a⟩ => a ρ H σ .refl so en
theorem exs_ct : PS X (.Continue pos) (ExS Y W ρe ste He fun env st => .ok .ct env st) := ps_imp ps_continue fun D σ H ⟨ρ, st, env, so, en, a⟩ => a ρ H σ .refl so en
theorem exs_expr {r : Env → Store → Res D} (h : PE X e (EvT Y W He r)) (hs : swapsWith e none pos.line X.env = pure false) : PS X (.Expr e pos) (ExS Y W ρe ste He fun env st => bndS env (r env st) fun _ s => .ok .nx env s) :=
  ps_imp (ps_expr h hs) fun D σ H ⟨ρ, st, env, so, en, a⟩ => by
    refine ⟨ρ, st, env, so.ok, en, (a.bnd so en).imp fun ρ1 s1 H1 d t k v hv => ?_⟩
    exact k t ρ1 H1 σ .refl (so.trans t) (en.step so.ok t)
theorem exs_ret {r : Env → Store → Res D} (h : PE X e (EvT Y W He r)) : PS X (.Return (some e) pos) (ExS Y W ρe ste He fun env st => bndS env (r env st) fun x s => .ok (.ret x) env s) :=
  ps_imp (ps_ret h) fun D σ H ⟨ρ, st, env, so, en, a⟩ => by
    refine ⟨ρ, st, env, so.ok, en, (a.bnd so en).imp fun ρ1 s1 H1 d t k v hv => ?_⟩
    exact k t ρ1 H1 σ .refl (so.trans t) (en.step so.ok t) v hv
theorem exs_retN : PS X (.Return none pos) (ExS Y W ρe ste He fun env st => .ok (.ret .non) env st) := ps_imp ps_retN fun D σ H ⟨ρ, st, env, so, en, a⟩ => a ρ H σ .refl so en _ rel_non
theorem exs_if {c : Expr} {a b : List Stmt} {rt : Env → Store → Res Bool} {ra rb : Env → Store → RS} (hc : PT X c (EvP Y W He rt)) (ha : PSs X a (ExS Y W ρe ste He ra)) (hb : PSs X b (ExS Y W ρe ste He rb)) :
    PS X (.If c a b pos) (ExS Y W ρe ste He fun env st => bndS env (rt env st) fun c s => if c then ra env s else rb env s) := ps_imp (ps_if hc ha hb) fun D σ H ⟨ρ, st, env, so, en, a⟩ => by
  refine ⟨ρ, st, env, so.ok, en, (a.bnd so en).imp fun ρ1 s1 H1 d t k => ?_⟩
  have k := k t
  cases d with
  | true => dsimp only; rw [if_pos rfl]; exact ⟨ρ1, s1, env, so.trans t, en.step so.ok t, k⟩
  | false => dsimp only; rw [if_neg Bool.false_ne_true]; exact ⟨ρ1, s1, env, so.trans t, en.step so.ok t, k⟩
theorem exs_asg {tg : Expr} {t : Tg} {r : Env → Store → Res D} (h : PE X e (EvT Y W He r)) (hg : PG X tg (gEv Y He t)) (hs : swapsWithSole [tg] e pos.line X.env = pure false) (hw : swappedStores [tg] e X.env = pure none)
    (h1 : (assignEach [tg] X.env).map (·.2) = [assign tg X.env]) : PS X (.Assign [tg] e pos) (ExS Y W ρe ste He fun env st => bndS env (r env st) fun x s => match asgT t x env with
      | some env' => .ok .nx env' s
      | none => .bad) := ps_imp (ps_asg h hg hs hw h1) fun D σ H ⟨ρ, st, env, so, en, a⟩ => by
  refine ⟨ρ, st, env, so.ok, en, (a.bnd so en).imp fun ρ1 s1 H1 d tt k v hv => ?_⟩
  have k := k tt
  cases q : asgT t d env with
  | none => simp only [q] at k; exact k.elim
  | some env' =>
    simp only [q] at k
    exact ⟨ρ1, s1, env, d, env', en.step so.ok tt, hv, q, fun σ' en' _ => k ρ1 H1 σ' .refl (so.trans tt) en'⟩
/-- for -/
theorem exs_for {tg iter : Expr} {body : List Stmt} {t : Tg} {ri : Env → Store → Res (List D)} {rb : Env → Store → RS} (hp : PassesOwn (model X.prog X.w) X.A X.env X.xe) (hc : X.calm = true) (hi : PI X tg iter (EvI Y W He ri)) (hg : PG X tg (gEv Y He t)) (hb : PSs X body (ExS Y W ρe ste He rb))
    (ho : okE iter = true) : PS X (.For tg iter body [] pos) (ExS Y W ρe ste He fun env st => bndS env (ri env st) fun xs s => forL t (fun e s' => rb e s') xs env s) :=
  ps_imp (ps_for hp hc hi hg hb (folded_ok ho X.env)) fun D σ H ⟨ρ, st, env, so, en, a⟩ => by
    refine ⟨ρ, st, env, so.ok, en, (a.bnd so en).imp fun ρ1 s1 H1 xs t1 k1 J yl => ?_⟩
    have k1 := k1 t1
    refine ⟨fun i m σ H => m = xs.length - i ∧ i ≤ xs.length ∧ ∃ ρ st env, Mono ρ1 s1.length H1 ρ st.length H ∧ Step Y ρe ste He ρ st H ∧ EnvOk Y ρ st He H env σ ∧ AftS Y W ρe ste He D ρ st.length H (forL t (fun e s' => rb e s') (xs.drop i) env st),
      ⟨xs.length, by simp, Nat.zero_le _, ρ1, s1, env, .refl, so.trans t1, en.step so.ok t1, by rw [List.drop_zero]; exact k1⟩, ?_⟩
    rintro i m σ2 H2 ⟨rfl, hle, ρ2, s2, env2, mo, so2, en2, A⟩
    by_cases hi2 : i < xs.length
    · refine .inr ⟨yl.go i ρ2 s2.length H2 mo.1 mo.2 hi2, _, fun σ' H' w => ⟨xs.length - (i + 1), by omega, w⟩, fun x H3 y => ?_⟩
      obtain ⟨d, e1, fr, rd⟩ := yl.yld i ρ2 s2.length H2 x H3 mo.1 mo.2 hi2 y
      have ed : xs.drop i = d :: xs.drop (i + 1) := by
        have e1 := (List.getElem?_eq_some_iff.mp e1).2
        rw [List.drop_eq_getElem_cons hi2, e1]
      have T1 := fr.step so2.ok
      rw [ed] at A
      simp only [forL] at A
      cases e2 : asgT t d env2 with
      | none => simp only [e2] at A; exact A.elim
      | some env3 =>
        simp only [e2] at A
        refine ⟨ρ2, s2, env2, d, env3, en2.step so2.ok T1, rd, e2, fun σ3 en3 _ => ?_⟩
        refine ⟨ρ2, s2, env3, so2.trans T1, en3, ?_⟩
        have m3 : Mono ρ2 s2.length H2 ρ2 s2.length H3 := T1.mono so2.ok
        cases e3 : rb env3 s2 with
        | bad => simp only [e3] at A; exact A.elim
        | exc x e s => simp only [e3] at A; exact AftS.later m3 A
        | ok f e s =>
          simp only [e3] at A
          cases f with
          | nx => exact fun ρ' H' σ' m' T' en' => ⟨rfl, hi2, ρ', s, e, mo.trans (m3.trans m'), T', en', AftS.later (m3.trans m') A⟩
          | ct => exact fun ρ' H' σ' m' T' en' => ⟨rfl, hi2, ρ', s, e, mo.trans (m3.trans m'), T', en', AftS.later (m3.trans m') A⟩
          | brk => exact AftS.later m3 A
          | ret d => exact AftS.later m3 A
    · refine .inl ⟨yl.stop i ρ2 s2.length H2 mo.1 mo.2 (by omega), ?_⟩
      rw [List.drop_eq_nil_of_le (by omega)] at A
      exact A ρ2 H2 σ2 .refl so2 en2
end
end J

/-! JStm2: while, a comprehension's name, pairs, stores, raise -/
namespace J
open PySem PySem.Spec PyProof.Rows L2

section
variable {Y : Wd} {W : WX} {ρe : Nat → Addr} {ste : Store} {He : Hp} {X : Cx} {e : Expr} {pos : Pos} {k : Nat} {N : List Str} {sc scope : Scope} {own : List Nat}
theorem exs_while {c : Expr} {body : List Stmt} {rt : Env → Store → Res Bool} {rb : Env → Store → RS} (hp : PassesOwn (model X.prog X.w) X.A X.env X.xe) (hc : PT X c (EvP Y W He rt)) (hb : PSs X body (ExS Y W ρe ste He rb)) :
    PS X (.While c body [] pos) (ExS Y W ρe ste He fun env st => whl (fun e s => rt e s) (fun e s => rb e s) loopMax env st) := ps_imp (ps_while hp hc hb) fun D σ H ⟨ρ, st, env, so, en, a⟩ => by
  refine ⟨fun m σ H => ∃ ρ st env, Step Y ρe ste He ρ st H ∧ EnvOk Y ρ st He H env σ ∧ AftS Y W ρe ste He D ρ st.length H (whl (fun e s => rt e s) (fun e s => rb e s) m env st), ⟨loopMax, ρ, st, env, so, en, a⟩, ?_⟩
  rintro m σ2 H2 ⟨ρ2, s2, env2, so2, en2, A⟩
  cases m with
  | zero => exact A.elim
  | succ m =>
    simp only [whl] at A
    refine ⟨ρ2, s2, env2, so2.ok, en2, ?_⟩
    cases e3 : rt env2 s2 with
    | bad => simp only [e3] at A; exact A.elim
    | exc x s => simp only [e3] at A; exact fun ρ' H' c d t kk => A ρ' H' σ2 c d (t.mono so2.ok) (so2.trans t) (en2.step so2.ok t) kk
    | ok b s3 =>
      simp only [e3] at A
      intro ρ3 H3 t
      have m3 : Mono ρ2 s2.length H2 ρ3 s3.length H3 := t.mono so2.ok
      have so3 := so2.trans t
      have en3 := en2.step so2.ok t
      cases b with
      | false =>
        dsimp only at A ⊢
        rw [if_neg Bool.false_ne_true]
        exact A ρ3 H3 σ2 m3 so3 en3
      | true =>
        dsimp only at A ⊢
        rw [if_pos rfl]
        refine ⟨_, fun σ' H' w => ⟨m, Nat.lt_succ_self m, w⟩, ρ3, s3, env2, so3, en3, ?_⟩
        cases e4 : rb env2 s3 with
        | bad => simp only [e4] at A; exact A.elim
        | exc x e s => simp only [e4] at A; exact AftS.later m3 A
        | ok f e s =>
          simp only [e4] at A
          cases f with
          | nx => exact fun ρ' H' σ' m' T' en' => ⟨ρ', s, e, T', en', AftS.later (m3.trans m') A⟩
          | ct => exact fun ρ' H' σ' m' T' en' => ⟨ρ', s, e, T', en', AftS.later (m3.trans m') A⟩
          | brk => exact AftS.later m3 A
          | ret d => exact AftS.later m3 A
/-- what is made is frozen behind the statement -/
theorem ps_freeze {s0 : Stmt} {t0 t : TS} (h : PS X s0 t0) (k : ∀ D σ H, t D σ H → t0 { nx := fun σ' H' => ∃ a u, H' a = some u ∧ Soft u ∧ ∀ o, D.nx σ' (upd H' a (.frz o u)), rt := fun _ _ => False } σ H) : PS X s0 t := ⟨fun pins s σ H D I q =>
  L2.thn (h.run pins s σ H _ I (k D σ H q)) fun f s' hh => by
    cases f with
    | next =>
      obtain ⟨σ', H', J, a, u, e, hu, q⟩ := hh
      obtain ⟨o, ho⟩ := objOk_get (J.hok a u e)
      exact ⟨σ', _, Inv.freeze J e hu ho, q o⟩
    | brk => obtain ⟨_, _, _, q⟩ := hh; exact q.elim
    | cont => obtain ⟨_, _, _, q⟩ := hh; exact q.elim
    | ret v => obtain ⟨_, _, _, _, _, q⟩ := hh; exact q.elim⟩
/-- name = [..] -/
theorem exs_setLc {i : Nat} {y : Str} {py p2 spos : Pos} {elt tg iter : Expr} {ifs : List Expr} {t : Tg} {ri : Env → Store → Res (List D)} {rt : Env → Store → Res Bool} {re : Env → Store → Res D} (c : CtxOk Y k N sc X W) (hy : X.N[i]? = some y) (hyl : X.env.scope.names.lookup y = some .local)
    (hsw : swapsWith (.ListComp elt [⟨tg, iter, ifs, 0⟩] scope p2) (some (.Name y py)) spos.line X.env = pure true) (hb : blkB N sc scope own = true) (ht : ∀ i ∈ tgIx t, i ∈ own) (ho : okE iter = true)
    (hi : PI X tg iter (EvI Y W He ri)) (hg : ∀ (s : Shared) (H : Hp) (C : Addr) (cl : List (Str × Addr)) (fp : List Addr), PG (X.blk s H scope (compEnvC scope cl C X.env) fp) tg (gEv Y He t))
    (hts : ∀ (s : Shared) (H : Hp) (C : Addr) (cl : List (Str × Addr)) (fp : List Addr), PTs (X.blk s H scope (compEnvC scope cl C X.env) fp) ifs (EvP Y WF He rt))
    (he : ∀ (s : Shared) (H : Hp) (C : Addr) (cl : List (Str × Addr)) (fp : List Addr), PE (X.blk s H scope (compEnvC scope cl C X.env) fp) elt (EvT Y WF He re)) :
    PS X (.Assign [.Name y py] (.ListComp elt [⟨tg, iter, ifs, 0⟩] scope p2) spos) (ExS Y W ρe ste He fun env st => bndS env (lcE t own ri rt re env st) fun x s => match asgT (.name i) x env with
      | some env' => .ok .nx env' s
      | none => .bad) := by
  refine ps_freeze (ps_setLc c.calm (by rw [c.hN]; exact c.nd) hy hyl hsw hi (blkB_ok c hb) hg hts he (folded_ok ho X.env)) fun D σ H ⟨ρ, st, env, so, en, a⟩ => ?_
  rw [ownL_ix]
  refine lc_imp ht (Q := fun x H' => D.nx (σ.set i (some x)) H') ⟨ρ, st, env, so.ok, en, (a.bnd so en).imp fun ρ1 s1 H1 d t1 k1 v hv => ?_⟩
  have k1 := k1 t1
  simp only [asgT] at k1
  by_cases hl : i < env.length
  · simp only [hl, if_true] at k1
    exact k1 ρ1 H1 _ .refl (so.trans t1) ((en.step so.ok t1).set hv)
  · simp only [hl, if_false] at k1
    exact k1.elim
theorem exs_setLc2 {i : Nat} {y : Str} {py p2 spos : Pos} {elt tg iter tg2 iter2 : Expr} {ifs ifs2 : List Expr} {t t2 : Tg} {own2 : List Nat} {ri ri2 : Env → Store → Res (List D)} {rt rt2 : Env → Store → Res Bool} {re : Env → Store → Res D} (c : CtxOk Y k N sc X W) (hy : X.N[i]? = some y)
    (hyl : X.env.scope.names.lookup y = some .local) (hsw : swapsWith (.ListComp elt [⟨tg, iter, ifs, 0⟩, ⟨tg2, iter2, ifs2, 0⟩] scope p2) (some (.Name y py)) spos.line X.env = pure true) (hb : blkB N sc scope own = true) (ht : ∀ i ∈ tgIx t, i ∈ own)
    (ht2 : ∀ i ∈ tgIx t2, i ∈ own2) (hw : ∀ i ∈ own2, i ∈ own) (ho : okE iter = true) (ho2 : okE iter2 = true) (hi : PI X tg iter (EvI Y W He ri))
    (hg : ∀ (s : Shared) (H : Hp) (C : Addr) (cl : List (Str × Addr)) (fp : List Addr), PG (X.blk s H scope (compEnvC scope cl C X.env) fp) tg (gEv Y He t))
    (hts : ∀ (s : Shared) (H : Hp) (C : Addr) (cl : List (Str × Addr)) (fp : List Addr), PTs (X.blk s H scope (compEnvC scope cl C X.env) fp) ifs (EvP Y WF He rt))
    (hi2 : ∀ (s : Shared) (H : Hp) (C : Addr) (cl : List (Str × Addr)) (fp : List Addr), PI (X.blk s H scope (compEnvC scope cl C X.env) fp) tg2 iter2 (EvI Y WF He ri2))
    (hg2 : ∀ (s : Shared) (H : Hp) (C : Addr) (cl : List (Str × Addr)) (fp : List Addr), PG (X.blk s H scope (compEnvC scope cl C X.env) fp) tg2 (gEv Y He t2))
    (hts2 : ∀ (s : Shared) (H : Hp) (C : Addr) (cl : List (Str × Addr)) (fp : List Addr), PTs (X.blk s H scope (compEnvC scope cl C X.env) fp) ifs2 (EvP Y WF He rt2))
    (he : ∀ (s : Shared) (H : Hp) (C : Addr) (cl : List (Str × Addr)) (fp : List Addr), PE (X.blk s H scope (compEnvC scope cl C X.env) fp) elt (EvT Y WF He re)) :
    PS X (.Assign [.Name y py] (.ListComp elt [⟨tg, iter, ifs, 0⟩, ⟨tg2, iter2, ifs2, 0⟩] scope p2) spos) (ExS Y W ρe ste He fun env st => bndS env (lcE2 t t2 own own2 ri rt rt2 ri2 re env st) fun x s => match asgT (.name i) x env with
      | some env' => .ok .nx env' s
      | none => .bad) := by
  refine ps_freeze (ps_setLc2 (vs1 := own2) c.calm (by rw [c.hN]; exact c.nd) hy hyl hsw hi (blkB_ok c hb) (by rw [ownL_ix]; exact hw) hg hts hi2 hg2 hts2 he (folded_ok ho X.env) (folded_ok ho2)) fun D σ H ⟨ρ, st, env, so, en, a⟩ => ?_
  rw [ownL_ix]
  refine lc2_imp ht ht2 (Q := fun x H' => D.nx (σ.set i (some x)) H') ⟨ρ, st, env, so.ok, en, (a.bnd so en).imp fun ρ1 s1 H1 d t1 k1 v hv => ?_⟩
  have k1 := k1 t1
  simp only [asgT] at k1
  by_cases hl : i < env.length
  · simp only [hl, if_true] at k1
    exact k1 ρ1 H1 _ .refl (so.trans t1) ((en.step so.ok t1).set hv)
  · simp only [hl, if_false] at k1
    exact k1.elim
/-- a, b = x, y -/
theorem exs_par {i j : Nat} {x y : Str} {a b : Expr} {ra rb : Env → Store → Res D} {px py pt pt2 : Pos} {kt k2 : Nat} (c : CtxOk Y k N sc X W) (hi : X.N[i]? = some x) (hj : X.N[j]? = some y) (hij : i ≠ j)
    (hx : X.env.scope.names.lookup x = some .local) (hy : X.env.scope.names.lookup y = some .local) (h1 : okE a = true) (h2 : okE b = true) (ha : PE X a (EvT Y W He ra)) (hb : PE X b (EvT Y W He rb))
    (hw : X.env.scope.kind = .function → swappedStores [.Tuple [.Name x px, .Name y py] kt pt] (.Tuple [a, b] k2 pt2) X.env = pure (some [x, y])) :
    PS X (.Assign [.Tuple [.Name x px, .Name y py] kt pt] (.Tuple [a, b] k2 pt2) pos) (ExS Y W ρe ste He fun env st => bndS env (ra env st) fun x s => bndS env (rb env s) fun y s' =>
      if i < env.length ∧ j < env.length then .ok .nx ((env.set i (.val x)).set j (.val y)) s' else .bad) := ⟨fun pins s σ H D I q =>
  (ps_imp (ps_par c.calm (by rw [c.hN]; exact c.nd) hi hj hij hx hy (eva_cons h1 ha (eva_cons h2 hb eva_nil)) (hw I.ok.kind)) fun D σ H ⟨ρ, st, env, so, en, a⟩ => by
    refine ⟨ρ, st, env, so.ok, en, ?_⟩
    have q := (a.bnd so en)
    cases e1 : ra env st with
    | bad => rw [e1] at q; exact q.elim
    | exc x s => rw [e1] at q; dsimp only; rw [e1]; exact q
    | ok d s1 =>
      dsimp only
      have a1 : AftS Y W ρe ste He D ρ st.length H (bndS env (rb env s1) fun y s' => if i < env.length ∧ j < env.length then .ok .nx ((env.set i (.val d)).set j (.val y)) s' else .bad) := by
        have a := a
        dsimp only at a
        rw [e1] at a
        exact a
      have e : bnd (ra env st) (fun x s => bnd (bnd (rb env s) fun x s => bnd (.ok [] s) fun xs s' => .ok (x :: xs) s') fun xs s' => .ok (x :: xs) s') = bnd (rb env s1) (fun y s' => .ok [d, y] s') := by
        rw [e1]
        show bnd (bnd (rb env s1) fun x s => .ok [x] s) (fun xs s' => .ok (d :: xs) s') = _
        cases rb env s1 <;> rfl
      rw [e]
      cases e2 : rb env s1 with
      | bad => rw [e2] at a1; exact a1.elim
      | exc x s =>
        rw [e2] at a1
        exact fun ρ' H' c d t k => a1 ρ' H' σ c d (t.mono so.ok) (so.trans t) (en.step so.ok t) k
      | ok d2 s2 =>
        rw [e2] at a1
        have a1 : AftS Y W ρe ste He D ρ st.length H (if i < env.length ∧ j < env.length then .ok .nx ((env.set i (.val d)).set j (.val d2)) s2 else .bad) := a1
        intro ρ' H' t vs hv
        simp only [RelDs] at hv
        obtain ⟨v, r, rfl, hv, w, r2, rfl, hw, rfl⟩ := hv
        refine ⟨v, w, rfl, ?_⟩
        split at a1
        · exact a1 ρ' H' _ (t.mono so.ok) (so.trans t) (((en.step so.ok t).set hv).set hw)
        · exact a1.elim).run pins s σ H D I q⟩
/-- name op= e -/
theorem ip_aug (o : Bop) : PIp X (bopOf o) fun x y H Q => ∃ ρ n d e r, RelD Y ρ n H d x ∧ RelD Y ρ n H e y ∧ augD o d e = some r ∧ ∀ v, RelD Y ρ n H r v → Q v H := by
  intro pins s σ H x y v u Q I r1 r2 h
  obtain ⟨ρ, n, d, e, r, hd, he, hr, q⟩ := h
  have szl : sizeLine = 16777216 := sizeLine_eq
  have szq := SZ_eq
  cases d with
  | int i =>
    have ex : x = .int i := by simpa only [RelD] using hd
    cases e with
    | int j =>
      have ey : y = .int j := by simpa only [RelD] using he
      cases o with
      | add => cases hr; exact iop_add pins s σ H x y v u Q I r1 r2 ⟨i, j, ex, ey, q _ rel_int⟩
      | sub => cases hr; exact iop_sub pins s σ H x y v u Q I r1 r2 ⟨i, j, ex, ey, q _ rel_int⟩
      | _ => cases hr
    | _ => cases o <;> cases hr
  | str i =>
    have ex : x = .str i := by simpa only [RelD] using hd
    cases e with
    | str j =>
      have ey : y = .str j := by simpa only [RelD] using he
      cases o with
      | add =>
        simp only [augD] at hr
        split at hr
        · rename_i hz
          cases hr
          exact iop_add_str pins s σ H x y v u Q I r1 r2 ⟨i, j, ex, ey, by omega, q _ rel_str⟩
        · cases hr
      | _ => cases hr
    | _ => cases o <;> cases hr
  | _ => cases o <;> cases e <;> cases hr
theorem exs_aug {i : Nat} {x : Str} {p2 : Pos} {r : Env → Store → Res D} (c : CtxOk Y k N sc X W) (o : Bop) (hi : X.N[i]? = some x) (hx : Loc X.env.scope x) (hf : X.fn x = true ∨ X.env.scope.names.lookup x = some .local) (h : PE X e (EvT Y W He r)) :
    PS X (.AugAssign (.Name x p2) (bopOf o) e pos) (ExS Y W ρe ste He fun env st => match env[i]? with
      | some (.val x) => bndS env (r env st) fun y s => match augD o x y with
        | some z => .ok .nx (env.set i (.val z)) s
        | none => .bad
      | _ => .bad) := ps_imp (ps_aug (by rw [c.hN]; exact c.nd) hi hx h (ip_aug (Y := Y) o) hf) fun D σ H ⟨ρ, st, env, so, en, a⟩ => by
  dsimp only at a
  cases e1 : env[i]? with
  | none => simp only [e1] at a; exact a.elim
  | some sl =>
    simp only [e1] at a
    cases sl with
    | val d =>
      obtain ⟨v, e2, hv⟩ := en.val i d e1
      refine ⟨v, e2, ρ, st, env, so.ok, en, (AftS.bnd (f := fun y s => match augD o d y with
        | some z => .ok .nx (env.set i (.val z)) s
        | none => .bad) so en a).imp fun ρ1 s1 H1 d2 t1 k1 u hu => ?_⟩
      have k1 := k1 t1
      cases e3 : augD o d d2 with
      | none => simp only [e3] at k1; exact k1.elim
      | some z =>
        simp only [e3] at k1
        exact ⟨ρ1, s1.length, d, d2, z, t1.rel so.ok hv, hu, e3, fun w hw => k1 ρ1 H1 _ .refl (so.trans t1) ((en.step so.ok t1).set hw)⟩
    | _ => exact a.elim
/-- an object of the store is written -/
theorem step_store {ρ : Nat → Addr} {st : Store} {H : Hp} {l : Nat} {o o' : MO} {u : HO} (so : StOk Y ρ st H) (e : st[l]? = some o) (r : ∀ Hn, Hk H Hn → Hn (ρ l) = some u → RelO Y ρ st.length Hn (ρ l) o') :
    Step Y ρ st H ρ (st.set l o') (upd H (ρ l) u) := by
  have hl : l < st.length := (List.getElem?_eq_some_iff.mp e).1
  obtain ⟨u0, e0, h0, _⟩ := (so.rel l o e).soft
  have hk : Hk H (upd H (ρ l) u) := fun a o e h => by
    rw [upd_ne fun z => by rw [z, e0] at e; cases e; rw [h0] at h; cases h]
    exact e
  refine ⟨⟨by rw [List.length_set]; exact Nat.le_refl _, fun _ _ => rfl⟩, fun a ob ea n => ?_, fun m h1 h2 => ?_, ⟨fun m om em => ?_, fun m m' h1 h2 => so.inj m m' (by rw [List.length_set] at h1; exact h1) (by rw [List.length_set] at h2; exact h2)⟩⟩
  · rw [upd_ne (n l hl).symm]
    exact ea
  · rw [List.length_set] at h2
    exact absurd (Nat.lt_of_lt_of_le h2 h1) (Nat.lt_irrefl _)
  · rw [List.length_set]
    by_cases hm : l = m
    · subst hm
      rw [List.getElem?_set_self hl] at em
      cases em
      exact r _ hk upd_same
    · rw [List.getElem?_set_ne hm] at em
      have hml : m < st.length := (List.getElem?_eq_some_iff.mp em).1
      exact (so.rel m om em).mono .refl hk (upd_ne fun z => hm (so.inj l m hl hml z.symm))
theorem RelDs.set {ρ : Nat → Addr} {n : Nat} {H : Hp} {d : D} {v : V} (r : RelD Y ρ n H d v) : ∀ {ds : List D} {vs : List V} (j : Nat), RelDs Y ρ n H ds vs → RelDs Y ρ n H (ds.set j d) (vs.set j v)
  | [], vs, j, h => by simp only [RelDs] at h; subst h; simp [RelDs]
  | x :: ds, vs, 0, h => by
    simp only [RelDs] at h
    obtain ⟨w, rs, rfl, h1, h2⟩ := h
    simp only [List.set_cons_zero, RelDs]
    exact ⟨v, rs, rfl, r, h2⟩
  | x :: ds, vs, j + 1, h => by
    simp only [RelDs] at h
    obtain ⟨w, rs, rfl, h1, h2⟩ := h
    simp only [List.set_cons_succ, RelDs]
    exact ⟨w, _, rfl, h1, RelDs.set r j h2⟩
/-- o[i] = e, o an object of the store -/
theorem exs_setR {o i : Expr} {p2 : Pos} {re ro ri : Env → Store → Res D} (hoi : okE i = true) (hs : swapsWithSole [.Subscript o i p2] e pos.line X.env = pure false) (hw : swappedStores [.Subscript o i p2] e X.env = pure none)
    (h : PE X e (EvT Y W He re)) (ho : PE X o (EvT Y W He ro)) (hi : PE X i (EvT Y W He ri)) :
    PS X (.Assign [.Subscript o i p2] e pos) (ExS Y W ρe ste He fun env st => bndS env (re env st) fun y s => bndS env (ro env s) fun w s' => bndS env (ri env s') fun z s2 => match w with
      | .ref l => match s2[l]?.bind fun o => setMO o z y with
        | some o' => .ok .nx env (s2.set l o')
        | none => .bad
      | _ => .bad) := ps_imp (ps_asg h (pg_sub ho hi set_list (by intro v; cases i <;> first | rfl | cases hoi)) hs hw rfl) fun D σ H ⟨ρ, st, env, so, en, a⟩ => by
  refine ⟨ρ, st, env, so.ok, en, (a.bnd so en).imp fun ρ1 s1 H1 y t1 k1 v hv => ?_⟩
  have so1 := so.trans t1
  have en1 := en.step so.ok t1
  refine ⟨ρ1, s1, env, so1.ok, en1, (AftS.bnd so1 en1 (k1 t1)).imp fun ρ2 s2 H2 w t2 k2 u hu => ?_⟩
  have so2 := so1.trans t2
  have en2 := en1.step so1.ok t2
  refine ⟨ρ2, s2, env, so2.ok, en2, (AftS.bnd so2 en2 (k2 t2)).imp fun ρ3 s3 H3 z t3 k3 x hx => ?_⟩
  have so3 := so2.trans t3
  have en3 := en2.step so2.ok t3
  have k3 := k3 t3
  have hu := t3.rel so2.ok hu
  have hv := t3.rel so2.ok (t2.rel so1.ok hv)
  cases w with
  | ref l =>
    simp only [RelD] at hu
    obtain ⟨hl, rfl⟩ := hu
    cases e1 : s3[l]? with
    | none => simp only [e1] at k3; exact k3.elim
    | some om =>
      simp only [e1, Option.bind_some] at k3
      cases om with
      | lst ds =>
        cases z with
        | int q =>
          have ex : x = .int q := by simpa only [RelD] using hx
          simp only [setMO, setIdx] at k3
          cases e2 : ixN ds.length q with
          | none => simp only [e2] at k3; exact k3.elim
          | some j =>
            simp only [e2, Option.map_some] at k3
            obtain ⟨vs, ea, rr⟩ := so3.ok.rel l _ e1
            refine ⟨ρ3 l, vs, q, j, rfl, ex, ea, by rw [RelDs.length rr]; exact e2, ?_⟩
            have T := step_store (u := .lst (vs.set j v)) (o' := .lst (ds.set j y)) so3.ok e1 fun Hn hk en => ⟨_, en, RelDs.mono .refl hk _ _ (RelDs.set hv j rr)⟩
            exact k3 ρ3 _ σ (T.mono so3.ok) (so3.trans T) (en3.step so3.ok T)
        | _ => exact k3.elim
      | dic kvs => obtain h := so3.ok.rel l _ e1; exact h.elim
      | ins c fs => cases z <;> exact k3.elim
  | _ => exact k3.elim
/-- raise X('m') -/
theorem exs_raise {cn : Nat} (c : CtxOk Y k N sc X W) (hm : PMk X e (fun _ H Q => Q (.ref (Y.cls cn)) none H)) :
    PS X (.Raise (some e) none pos) (ExS Y W ρe ste He fun env st => .exc ⟨cn, none⟩ env st) := ps_imp (ps_raise c.calm c.takes hm) fun D σ H ⟨ρ, st, env, so, en, a⟩ =>
  a ρ H σ _ none .refl so en ⟨rfl, fun _ h => by cases h⟩
end
end J

/-! JMain2: a def of the row does what the interpreter says -/
namespace J
open PySem PySem.Spec PyProof.Rows L2

def locO (sc : Scope) (x : Str) : Bool := match sc.names.lookup x with
  | some .local => true
  | _ => false
def isComp : Expr → Bool
  | .ListComp _ _ _ _ => true
  | .SetComp _ _ _ _ => true
  | .DictComp _ _ _ _ _ => true
  | _ => false
/-- the pair's names aren't stored from the right -/
def swB : Expr → Expr → Bool
  | .Tuple ts _ _, .Tuple vs _ _ => !(ts.length == 2 || ts.length == 3) || vs.length != ts.length
  | .List ts _, .Tuple vs _ _ => !(ts.length == 2 || ts.length == 3) || vs.length != ts.length
  | _, _ => true
theorem swB_none {tg e : Expr} (h : swB tg e = true) (env : PySem.Env) : swappedStores [tg] e env = pure none := by
  cases tg <;> first
    | (cases e <;> rfl)
    | (cases e <;> first
      | rfl
      | (simp only [swB] at h
         simp only [swappedStores]
         rw [if_pos (by rw [h]; rfl)]))
def isSub : Expr → Bool
  | .Name _ _ => true
  | .Tuple _ _ _ => true
  | _ => false
theorem comp_swap {e : Expr} (h : isComp e = false) (t : Option Expr) (n : Nat) (env : PySem.Env) : swapsWith e t n env = pure false := by
  cases e <;> first | rfl | cases h
theorem sub_swap {a b e : Expr} {p : Pos} (n : Nat) (env : PySem.Env) : swapsWithSole [.Subscript a b p] e n env = pure false := by
  cases e <;> rfl
theorem tup_swap {ts : List Expr} {k : Nat} {e : Expr} {p : Pos} (n : Nat) (env : PySem.Env) : swapsWithSole [.Tuple ts k p] e n env = pure false := by
  cases e <;> rfl
/-- name = [..] on one line -/
def lcN (sc scope : Scope) (y : Str) (py p2 : Pos) : Bool := locO sc y && (match sc.kind with | .function => true | _ => false) && (py.line == p2.line) && !(scope.names.any fun (n, k) => n == y && (k == .local || k == .cell))
theorem lcN_swap {sc scope : Scope} {y : Str} {py p2 : Pos} {elt : Expr} {gens : List Comprehension} {env : PySem.Env} {n : Nat} (he : env.scope = sc) (h : lcN sc scope y py p2 = true) : swapsWith (.ListComp elt gens scope p2) (some (.Name y py)) n env = pure true := by
  unfold lcN at h
  simp only [Bool.and_eq_true] at h
  obtain ⟨⟨⟨h1, h2⟩, h3⟩, h4⟩ := h
  have k1 : env.blockKind = .function := by
    unfold Env.blockKind
    rw [he]
    cases q : sc.kind <;> rw [q] at h2 <;> first | rfl | cases h2
  have k2 : env.kindOf y = some .local := by
    unfold Env.kindOf
    rw [he]
    unfold locO at h1
    split at h1
    · assumption
    · cases h1
  show (pure (env.blockKind == .function && env.kindOf y == some .local && py.line == p2.line && !(scope.names.any fun (n, k) => n == y && (k == .local || k == .cell))) : Sem Bool) = pure true
  rw [k1, k2, h3, h4]
  rfl
theorem lcN_loc {sc scope : Scope} {y : Str} {py p2 : Pos} (h : lcN sc scope y py p2 = true) : locO sc y = true := by
  unfold lcN at h
  simp only [Bool.and_eq_true] at h
  exact h.1.1.1
def parB (sc : Scope) (x y : Str) (px py : Pos) (u v : Expr) : Bool := locO sc x && locO sc y && (px.line == py.line) && !(x == y) && okE u && okE v && !([u, v].all (foldedForSure 8)) && !([u, v].all (constantsAlone 8))
theorem par_sw {sc : Scope} {x y : Str} {px py pt pt2 : Pos} {kt k2 : Nat} {u v : Expr} {env : PySem.Env} (he : env.scope = sc) (hk : env.scope.kind = .function) (h : parB sc x y px py u v = true) :
    swappedStores [.Tuple [.Name x px, .Name y py] kt pt] (.Tuple [u, v] k2 pt2) env = pure (some [x, y]) := by
  unfold parB at h
  simp only [Bool.and_eq_true, Bool.not_eq_true'] at h
  obtain ⟨⟨⟨⟨⟨⟨⟨h1, h2⟩, h3⟩, h4⟩, h5⟩, h6⟩, h7⟩, h8⟩ := h
  have loc : ∀ z, locO sc z = true → env.kindOf z = some .local := fun z hz => by
    unfold Env.kindOf
    rw [he]
    unfold locO at hz
    split at hz
    · assumption
    · cases hz
  have k1 : env.blockKind = .function := by
    unfold Env.blockKind
    rw [hk]; rfl
  have e3 : py.line = px.line := (eq_of_beq h3).symm
  have ne : x ≠ y := fun z => by rw [z] at h4; simp at h4
  have nd : ([x, y] : List Str).eraseDups = [x, y] := by
    have : (y == x) = false := by simpa using Ne.symm ne
    simp [List.eraseDups_cons, this, ne, Ne.symm ne]
  simp only [swappedStores]
  rw [if_neg (by rw [k1]; simp), if_neg (by
    simp only [List.any_cons, List.any_nil, Bool.or_false, Bool.or_eq_true, not_or, Bool.not_eq_true]
    exact ⟨by cases u <;> first | rfl | (cases h5; done), by cases v <;> first | rfl | (cases h6; done)⟩)]
  have q1 : (List.head? [Expr.Name x px, Expr.Name y py]).map (·.pos.line) = some px.line := rfl
  simp only [q1, Option.getD_some, List.filterMap_cons, List.filterMap_nil, loc x h1, loc y h2, e3, beq_self_eq_true, Bool.and_self, if_true]
  rw [if_neg (by rw [nd]; simp), if_neg (by rw [h7]; simp), if_neg (by rw [h8]; simp)]

/-! ### the text of statements -/
def asgB (sc : Scope) : Expr → Expr → Bool
  | .Name y py, .ListComp _ _ scope p2 => lcN sc scope y py p2
  | .Name _ _, v => !isComp v
  | .Tuple ts k p, v => swB (.Tuple ts k p) v
  | _, _ => false
def constE : Ex → Bool
  | .int _ => true
  | .str _ => true
  | .bl _ => true
  | .non => true
  | _ => false
section
variable (T : Tab) (N : List Str) (sc : Scope)
def mHs : List (Nat × Hd) → List ExceptHandler → Bool
  | [], hds => hds.isEmpty
  | (c, hd) :: r, hds => match hds with
    | .ExceptHandler (some (.Name x _)) none [.Return (some v) _] _ :: hs => (match hd with
      | .ret e => lkB T.excs x c && glB sc x && okN x && constE e && mE T N sc e v && mHs r hs
      | _ => false)
    | _ => false
mutual
def mS : Sm → Stmt → Bool
  | .asg t e, s => match s with
    | .Assign [tg] v _ => mG N sc t tg && mE T N sc e v && asgB sc tg v
    | _ => false
  | .par i j a b, s => match s with
    | .Assign [.Tuple [.Name x px, .Name y py] _ _] (.Tuple [u, v] _ _) _ => nmB N i x && nmB N j y && !(i == j) && parB sc x y px py u v && mE T N sc a u && mE T N sc b v
    | _ => false
  | .aug i o e, s => match s with
    | .AugAssign (.Name x _) op v _ => nmB N i x && locB sc x && bopB o op && mE T N sc e v
    | _ => false
  | .setR o k e, s => match s with
    | .Assign [.Subscript a b _] v _ => mE T N sc e v && mE T N sc o a && mE T N sc k b
    | _ => false
  | .expr e, s => match s with
    | .Expr v _ => mE T N sc e v && !isComp v
    | _ => false
  | .ret e, s => match s with
    | .Return (some v) _ => mE T N sc e v
    | _ => false
  | .retN, s => match s with
    | .Return none _ => true
    | _ => false
  | .iff t a b, s => match s with
    | .If c x y _ => mT T N sc t c && mSs a x && mSs b y
    | _ => false
  | .for_ t i b, s => match s with
    | .For tg it body [] _ => mG N sc t tg && mI T N sc i it && zipT i tg && mSs b body
    | _ => false
  | .while_ t b, s => match s with
    | .While c body [] _ => mT T N sc t c && mSs b body
    | _ => false
  | .brk, s => match s with
    | .Break _ => true
    | _ => false
  | .ct, s => match s with
    | .Continue _ => true
    | _ => false
  | .pass, s => match s with
    | .Pass _ => true
    | _ => false
  | .raise c none, s => match s with
    | .Raise (some (.Call (.Name x _) [.Constant (.str _) _ _] [] _)) none _ => lkB T.excs x c && glB sc x && okN x
    | _ => false
  | .try_ b hs, s => match s with
    | .Try body hds [] [] _ => mSs b body && mHs T N sc hs hds && !hds.isEmpty
    | _ => false
  | _, _ => false
def mSs : Sms → List Stmt → Bool
  | .nil, ss => ss.isEmpty
  | .cons s r, ss => match ss with
    | x :: xs => mS s x && mSs r xs
    | [] => false
end
end
/-! ### the context of a def's body -/
structure ExcFact (Y : Wd) (x : Str) (c : Nat) : Prop where
  mg : Y.mg x = some (.ref (Y.cls c))
  kp : PySem.W.keepIn Y.K (.ref (Y.cls c)) = true
  ex : ∃ bmB B newId initId, ExcBaseFacts B newId initId bmB ∧ PySem.W.excIn Y.K (Y.cls c) bmB newId = true
  sub : PySem.W.subIn Y.K (.ref (Y.cls c)) (.type "BaseException") = some true
  ty : PySem.W.typeIn Y.K (.ref (Y.cls c)) = some (.type "type")
structure TabS (Y : Wd) (T : Tab) (G : Gx) : Prop where
  excs : ∀ x c, T.excs.lookup x = some c → ExcFact Y x c
  isa : ∀ a b r, G.isa a b = some r → PySem.W.exmOne Y.K (.ref (Y.cls a)) (.ref (Y.cls b)) = some r
structure CtxS (Y : Wd) (k : Nat) (N : List Str) (sc : Scope) (X : Cx) (W : WX) : Prop where
  ok : CtxOk Y k N sc X W
  sc : X.env.scope = sc
  stk : X.stack = X.env :: X.outer
  frm : X.env.frame = some X.env.locals
  own : PassesOwn (model X.prog X.w) X.A X.env X.xe
theorem CtxS.tr {Y : Wd} {k : Nat} {N : List Str} {sc : Scope} {X : Cx} {W W' : WX} (c : CtxS Y k N sc X W) (pn : List (Addr × Obj)) (xe : Value → Shared → Prop) (tk : Takes (X.tr pn xe) W') (own : PassesOwn (model X.prog X.w) X.A X.env xe) : CtxS Y k N sc (X.tr pn xe) W' where
  ok := ⟨c.ok.prog, c.ok.w, c.ok.K, c.ok.mg, c.ok.base, c.ok.hN, c.ok.calm, c.ok.nd, c.ok.room, c.ok.scp, c.ok.fnx, tk⟩
  sc := c.sc
  stk := c.stk
  frm := c.frm
  own := own
theorem locO_at {sc : Scope} {x : Str} (h : locO sc x = true) : sc.names.lookup x = some .local := by
  unfold locO at h
  split at h
  · assumption
  · cases h
section
variable {Y : Wd} {T : Tab} {G : Gx} {k : Nat} {N : List Str} {sc : Scope} {ρe : Nat → Addr} {ste : Store} {He : Hp}
def constV : Ex → V
  | .int i => .int i
  | .str x => .str x
  | .bl b => .bl b
  | _ => .non
def constD : Ex → D
  | .int i => .int i
  | .str x => .str x
  | .bl b => .bl b
  | _ => .non
theorem const_pe {e : Ex} {v : Expr} (X : Cx) (h1 : constE e = true) (h : mE T N sc e v = true) : PE X v (tC (constV e)) := by
  cases e <;> first | (cases h1; done) | skip
  all_goals
    simp only [mE] at h
    split at h
    · first
        | exact pe_non
        | (have q := eq_of_beq h; subst q; first | exact pe_int | exact pe_str | exact pe_bl)
    · cases h
theorem const_ev {e : Ex} (h1 : constE e = true) (env : Env) (st : Store) : ev G e env st = .ok (constD e) st := by
  cases e <;> first | (cases h1; done) | rfl
theorem const_rel {e : Ex} (h1 : constE e = true) {ρ : Nat → Addr} {n : Nat} {H : Hp} : RelD Y ρ n H (constD e) (constV e) := by
  cases e <;> first | (cases h1; done) | (simp only [constD, constV, RelD])
/-- the clauses of a try -/
def clauses (Y : Wd) : List (Nat × Hd) → List (Value × (Addr → Value → Option Addr → TS))
  | (c, .ret e) :: r => (.ref (Y.cls c), fun _ _ _ => tRet (tC (constV e))) :: clauses Y r
  | _ :: r => clauses Y r
  | [] => []
theorem hds_ok (hS : TabS Y T G) {X : Cx} {W : WX} (c : CtxS Y k N sc X W) : ∀ (hs : List (Nat × Hd)) (hds : List ExceptHandler), mHs T N sc hs hds = true → HdsOk X hds (clauses Y hs)
  | [], hds, h => by
    simp only [mHs] at h
    cases hds with
    | nil => exact .nil
    | cons _ _ => cases h
  | (cn, hd) :: r, hds, h => by
    simp only [mHs] at h
    split at h
    · cases hd with
      | ret e =>
        simp only [Bool.and_eq_true] at h
        obtain ⟨⟨⟨⟨⟨h1, h2⟩, h3⟩, h4⟩, h5⟩, h6⟩ := h
        obtain ⟨o1, _, _⟩ := okN_at h3
        have F := hS.excs _ _ (lkB_at h1)
        exact .cons ⟨glB_gl c.ok h2, o1, .inl (by rw [c.ok.mg]; exact F.mg)⟩ (fun a oe cls d pn _ _ => pss_one (ps_ret (const_pe _ h4 h5))) (hds_ok hS c r _ h6)
      | _ => cases h
    · cases h
theorem hands_ok {X : Cx} {W : WX} (hS : TabS Y T G) (hK : X.K = Y.K) {D : Ends} : ∀ (hs : List (Nat × Hd)) (hds : List ExceptHandler), mHs T N sc hs hds = true → ∀ {ρ : Nat → Addr} {n : Nat} {H : Hp} {x : Exn} {env : Env} {st : Store}, AftS Y W ρe ste He D ρ n H (hands G hs x env st) →
    ∀ ρ' H' σ' c d, Mono ρ n H ρ' st.length H' → Step Y ρe ste He ρ' st H' → EnvOk Y ρ' st He H' env σ' → ExcOk Y ρ' st.length H' x c d → wMany X.K W D (clauses Y hs) c d σ' H'
  | [], _, _, ρ, n, H, x, env, st, a => a
  | (cn, hd) :: r, hds, h, ρ, n, H, x, env, st, a => fun ρ' H' σ' c d m t en xo => by
    simp only [mHs] at h
    split at h
    · cases hd with
      | ret e =>
        simp only [Bool.and_eq_true] at h
        obtain ⟨⟨⟨⟨⟨h1, h2⟩, h3⟩, h4⟩, h5⟩, h6⟩ := h
        simp only [hands] at a
        cases q : G.isa x.cls cn with
        | none => rw [q] at a; exact a.elim
        | some b =>
          rw [q] at a
          obtain ⟨rfl, hx⟩ := xo
          refine ⟨b, by rw [hK]; exact hS.isa _ _ _ q, fun hb ad ha => ?_, fun hb => ?_⟩
          · subst hb
            have a : AftS Y W ρe ste He D ρ n H (bndS env (ev G e env st) fun d s => .ok (.ret d) env s) := a
            rw [const_ev h4] at a
            exact a ρ' H' σ' m t en _ (const_rel h4)
          · subst hb
            exact hands_ok hS hK r _ h6 a ρ' H' σ' _ d m t en ⟨rfl, hx⟩
      | _ => cases h
    · cases h
theorem iff_asg {X : Cx} {W : WX} {e tg : Expr} {t : Tg} {ex : Ex} {pos : Pos} (hT : TabOk Y T G k) (c : CtxS Y k N sc X W) (h1 : mG N sc t tg = true) (h2 : mE T N sc ex e = true) (h3 : asgB sc tg e = true) :
    PS X (.Assign [tg] e pos) (ExS Y W ρe ste He (exec G (.asg t ex))) := by
  have plain : isComp e = false ∨ (∃ ts kk p, tg = .Tuple ts kk p) → swB tg e = true → (assignEach [tg] X.env).map (·.2) = [assign tg X.env] → PS X (.Assign [tg] e pos) (ExS Y W ρe ste He (exec G (.asg t ex))) := fun hs hw ha => by
    refine exs_asg (ev_ok hT ex e c.ok h2) (pg_tg c.ok t tg h1) ?_ (swB_none hw X.env) ha
    rcases hs with hs | ⟨ts, kk, p, rfl⟩
    · exact comp_swap hs _ _ _
    · exact tup_swap _ _
  cases tg with
  | Name y py =>
    by_cases hc : ∃ elt gens scope p2, e = .ListComp elt gens scope p2
    · obtain ⟨elt, gens, scope, p2, rfl⟩ := hc
      have h3 : lcN sc scope y py p2 = true := h3
      cases t with
      | tup ts => simp [mG] at h1
      | name i =>
        cases ex with
        | lc el g =>
          cases g with
          | mk t2 it ifs own =>
            simp only [mE] at h2
            split at h2
            · rename_i q
              cases q
              simp only [Bool.and_eq_true] at h2
              obtain ⟨⟨⟨⟨⟨⟨g1, g2⟩, g3⟩, g4⟩, g5⟩, g6⟩, g7⟩ := h2
              simp only [mG, Bool.and_eq_true] at h1
              refine exs_setLc c.ok (nmB_N c.ok h1.1.1) (by rw [c.sc]; exact locO_at (lcN_loc h3)) (lcN_swap c.sc h3) g1 (fun i hi => by have := List.all_eq_true.mp g5 i hi; simpa using this) (mI_ok g3) (evI_ok hT it _ _ c.ok g3 g4) (fun s H C cl fp => pg_tg (c.ok.blk s H C cl fp) t2 _ g2) (fun s H C cl fp => ?_) (fun s H C cl fp => ev_ok hT el _ (c.ok.blk s H C cl fp) g7)
              split at g6
              · split at g6
                · exact pts_yes
                · cases g6
              · exact pts_one (tst_ok hT ifs _ (c.ok.blk s H C cl fp) g6)
              · cases g6
            · cases h2
        | lc2 el g g' =>
          cases g with
          | mk t2 it ifs own =>
          cases g' with
          | mk t3 it2 ifs2 own2 =>
            simp only [mE] at h2
            split at h2
            · rename_i q hq
              obtain ⟨pos2, z⟩ := lc2Of_at hq
              clear hq
              obtain ⟨el', tg', it', fs, tg2, it2', fs2, scope'⟩ := q
              injection z with z1 z2 z3 z4
              subst z1 z2 z3 z4
              simp only [Bool.and_eq_true] at h2
              obtain ⟨⟨⟨⟨⟨⟨⟨⟨⟨⟨⟨⟨g1, g2⟩, g3⟩, g4⟩, g5⟩, g6⟩, f2⟩, f3⟩, f4⟩, f5⟩, f8⟩, f6⟩, g7⟩ := h2
              simp only [mG, Bool.and_eq_true] at h1
              refine exs_setLc2 c.ok (nmB_N c.ok h1.1.1) (by rw [c.sc]; exact locO_at (lcN_loc h3)) (lcN_swap c.sc h3) g1 (fun i hi => by have := List.all_eq_true.mp g5 i hi; simpa using this) (fun i hi => by have := List.all_eq_true.mp f5 i hi; simpa using this) (fun i hi => by have := List.all_eq_true.mp f8 i hi; simpa using this)
                (mI_ok g3) (mI_ok f3) (evI_ok hT it _ _ c.ok g3 g4) (fun s H C cl fp => pg_tg (c.ok.blk s H C cl fp) t2 _ g2) (fun s H C cl fp => ?_) (fun s H C cl fp => evI_ok hT it2 _ _ (c.ok.blk s H C cl fp) f3 f4) (fun s H C cl fp => pg_tg (c.ok.blk s H C cl fp) t3 _ f2) (fun s H C cl fp => ?_) (fun s H C cl fp => ev_ok hT el _ (c.ok.blk s H C cl fp) g7)
              · dsimp only at g6 ⊢
                split at g6
                · cases ifs <;> first | exact pts_yes | cases g6
                · exact pts_one (tst_ok hT ifs _ (c.ok.blk s H C cl fp) g6)
                · cases g6
              · dsimp only at f6 ⊢
                split at f6
                · cases ifs2 <;> first | exact pts_yes | cases f6
                · exact pts_one (tst_ok hT ifs2 _ (c.ok.blk s H C cl fp) f6)
                · cases f6
            · cases h2
        | srt a =>
          simp only [mE] at h2
          split at h2
          · rename_i b hb
            obtain ⟨⟨_, _, _, _, z⟩, _⟩ := onSet_at hb
            cases z
          · cases h2
        | lset a =>
          simp only [mE] at h2
          split at h2
          · rename_i b hb
            obtain ⟨⟨_, _, _, _, z⟩, _⟩ := onSet_at hb
            cases z
          · cases h2
        | _ => simp [mE] at h2
    · have hi : isComp e = false := by
        cases e <;> first | rfl | (exfalso; exact hc ⟨_, _, _, _, rfl⟩) | (simp [asgB, isComp] at h3; done)
      exact plain (.inl hi) (by cases e <;> rfl) rfl
  | Tuple ts kk p => exact plain (.inr ⟨ts, kk, p, rfl⟩) h3 rfl
  | _ => cases h3
mutual
theorem exec_ok (hT : TabOk Y T G k) (hS : TabS Y T G) : ∀ (sm : Sm) (s : Stmt) {X : Cx} {W : WX}, CtxS Y k N sc X W → mS T N sc sm s = true → PS X s (ExS Y W ρe ste He (exec G sm))
  | .asg t e, s, X, W, c, h => by
    simp only [mS] at h
    split at h
    · simp only [Bool.and_eq_true] at h
      exact iff_asg hT c h.1.1 h.1.2 h.2
    · cases h
  | .par i j a b, s, X, W, c, h => by
    simp only [mS] at h
    split at h
    · simp only [Bool.and_eq_true, Bool.not_eq_true'] at h
      obtain ⟨⟨⟨⟨⟨h1, h2⟩, h3⟩, h4⟩, h5⟩, h6⟩ := h
      have h4' := h4
      unfold parB at h4'
      simp only [Bool.and_eq_true, Bool.not_eq_true'] at h4'
      exact exs_par c.ok (nmB_N c.ok h1) (nmB_N c.ok h2) (fun z => by rw [z] at h3; simp at h3) (by rw [c.sc]; exact locO_at h4'.1.1.1.1.1.1.1) (by rw [c.sc]; exact locO_at h4'.1.1.1.1.1.1.2) (mE_ok h5) (mE_ok h6) (ev_ok hT a _ c.ok h5) (ev_ok hT b _ c.ok h6) fun hk => par_sw c.sc hk h4
    · cases h
  | .aug i o e, s, X, W, c, h => by
    simp only [mS] at h
    split at h
    · simp only [Bool.and_eq_true] at h
      obtain ⟨⟨⟨h1, h2⟩, h3⟩, h4⟩ := h
      obtain ⟨l1, l2⟩ := locB_loc c.ok h2
      rw [bopB_eq h3]
      exact exs_aug c.ok o (nmB_N c.ok h1) l1 l2 (ev_ok hT e _ c.ok h4)
    · cases h
  | .setR o i e, s, X, W, c, h => by
    simp only [mS] at h
    split at h
    · simp only [Bool.and_eq_true] at h
      exact exs_setR (mE_ok h.2) (sub_swap _ _) (swB_none (by rename_i v _; cases v <;> rfl) _) (ev_ok hT e _ c.ok h.1.1) (ev_ok hT o _ c.ok h.1.2) (ev_ok hT i _ c.ok h.2)
    · cases h
  | .expr e, s, X, W, c, h => by
    simp only [mS] at h
    split at h
    · simp only [Bool.and_eq_true, Bool.not_eq_true'] at h
      exact exs_expr (ev_ok hT e _ c.ok h.1) (comp_swap h.2 _ _ _)
    · cases h
  | .ret e, s, X, W, c, h => by
    simp only [mS] at h
    split at h
    · exact exs_ret (ev_ok hT e _ c.ok h)
    · cases h
  | .retN, s, X, W, c, h => by
    simp only [mS] at h
    split at h
    · exact exs_retN
    · cases h
  | .iff t a b, s, X, W, c, h => by
    simp only [mS] at h
    split at h
    · simp only [Bool.and_eq_true] at h
      exact exs_if (tst_ok hT t _ c.ok h.1.1) (execs_ok hT hS a _ c h.1.2) (execs_ok hT hS b _ c h.2)
    · cases h
  | .for_ t i b, s, X, W, c, h => by
    simp only [mS] at h
    split at h
    · simp only [Bool.and_eq_true] at h
      obtain ⟨⟨⟨h1, h2⟩, h3⟩, h4⟩ := h
      exact exs_for c.own c.ok.calm (evI_ok hT i _ _ c.ok h2 h3) (pg_tg c.ok t _ h1) (execs_ok hT hS b _ c h4) (mI_ok h2)
    · cases h
  | .while_ t b, s, X, W, c, h => by
    simp only [mS] at h
    split at h
    · simp only [Bool.and_eq_true] at h
      exact exs_while c.own (tst_ok hT t _ c.ok h.1) (execs_ok hT hS b _ c h.2)
    · cases h
  | .brk, s, X, W, c, h => by
    simp only [mS] at h
    split at h
    · exact exs_brk
    · cases h
  | .ct, s, X, W, c, h => by
    simp only [mS] at h
    split at h
    · exact exs_ct
    · cases h
  | .pass, s, X, W, c, h => by
    simp only [mS] at h
    split at h
    · exact exs_pass
    · cases h
  | .raise cn none, s, X, W, c, h => by
    simp only [mS] at h
    split at h
    · simp only [Bool.and_eq_true] at h
      have F := hS.excs _ _ (lkB_at h.1.1)
      obtain ⟨bmB, B, newId, initId, f1, f2⟩ := F.ex
      obtain ⟨o1, _, _⟩ := okN_at h.2
      refine exs_raise c.ok (pmk_own f1 ?_ ?_ ?_ ?_ (glB_gl c.ok h.1.2) o1)
      · rw [c.ok.K]; exact f2
      · rw [c.ok.mg]; exact F.mg
      · rw [c.ok.K]; exact F.kp
      · exact raises_own (by rw [c.ok.K]; exact F.sub) (by rw [c.ok.K]; exact F.ty)
    · cases h
  | .raise _ (some _), s, X, W, c, h => by simp [mS] at h
  | .try_ b hs, s, X, W, c, h => by
    simp only [mS] at h
    split at h
    · rename_i body hds _
      simp only [Bool.and_eq_true, Bool.not_eq_true'] at h
      obtain ⟨⟨h1, h2⟩, h3⟩ := h
      cases hds with
      | nil => simp at h3
      | cons h0 hds =>
        refine ps_imp (ps_try_many (tb := fun W' => ExS Y W' ρe ste He (execs G b)) c.stk c.frm c.ok.takes (fun W' pn xe tk ow => execs_ok hT hS b body (c.tr pn xe tk ow) h1) (hds_ok hS c hs _ h2)) fun D σ H ⟨ρ, st, env, so, en, a⟩ => ?_
        refine ⟨ρ, st, env, so, en, ?_⟩
        simp only [exec] at a
        cases q : execs G b env st with
        | bad => rw [q] at a; exact a.elim
        | ok f e s => rw [q] at a; exact a
        | exc x e s => rw [q] at a; exact hands_ok hS c.ok.K hs _ h2 a
    · cases h
  | .asgO _ _, s, X, W, c, h => by simp [mS] at h
  | .asgM _ _, s, X, W, c, h => by simp [mS] at h
  | .setO _ _ _, s, X, W, c, h => by simp [mS] at h
  | .delO _ _, s, X, W, c, h => by simp [mS] at h
  | .app _ _, s, X, W, c, h => by simp [mS] at h
  | .ext _ _, s, X, W, c, h => by simp [mS] at h
  | .upd _ _, s, X, W, c, h => by simp [mS] at h
  | .pop _ _, s, X, W, c, h => by simp [mS] at h
  | .appR _ _, s, X, W, c, h => by simp [mS] at h
  | .setA _ _ _, s, X, W, c, h => by simp [mS] at h
  | .augA _ _ _ _, s, X, W, c, h => by simp [mS] at h
  | .retM _, s, X, W, c, h => by simp [mS] at h
  | .iffS _ _ _ _ _ _, s, X, W, c, h => by simp [mS] at h
  | .forM _ _ _, s, X, W, c, h => by simp [mS] at h
theorem execs_ok (hT : TabOk Y T G k) (hS : TabS Y T G) : ∀ (sm : Sms) (ss : List Stmt) {X : Cx} {W : WX}, CtxS Y k N sc X W → mSs T N sc sm ss = true → PSs X ss (ExS Y W ρe ste He (execs G sm))
  | .nil, ss, X, W, c, h => by
    simp only [mSs] at h
    cases ss with
    | nil => exact exs_nil
    | cons _ _ => cases h
  | .cons s r, ss, X, W, c, h => by
    cases ss with
    | nil => simp [mSs] at h
    | cons x xs =>
      simp only [mSs, Bool.and_eq_true] at h
      exact exs_cons (exec_ok hT hS s x c h.1) (execs_ok hT hS r xs c h.2)
end
end
end J

/-! JFn: defs by fuel; the law -/
namespace J
open PySem PySem.Spec PyProof.Rows L2

section
variable {Y : Wd} {ρ : Nat → Addr} {st : Store} {H : Hp}
theorem envOk_vals : ∀ (ds : List D) (vs : List V) (m : Nat), RelDs Y ρ st.length H ds vs → ∀ (i : Nat) d, (ds.map Slot.val ++ List.replicate m .un)[i]? = some (.val d) → ∃ v, (vs.map some ++ List.replicate m none)[i]? = some (some v) ∧ RelD Y ρ st.length H d v
  | [], vs, m, r, i, d, e => by
    exfalso
    rw [List.map_nil, List.nil_append, List.getElem?_replicate] at e
    split at e <;> cases e
  | d0 :: ds, vs, m, r, i, d, e => by
    simp only [RelDs] at r
    obtain ⟨v, rs, rfl, r1, r2⟩ := r
    cases i with
    | zero =>
      have e : some (Slot.val d0) = some (.val d) := e
      cases e
      exact ⟨v, rfl, r1⟩
    | succ i =>
      obtain ⟨u, q1, q2⟩ := envOk_vals ds rs m r2 i d (by simpa using e)
      exact ⟨u, by simpa using q1, q2⟩
theorem no_own : ∀ (ds : List D) (m : Nat) (i : Nat) (o : MO), (ds.map Slot.val ++ List.replicate m .un)[i]? = some (.own o) → False
  | [], m, i, o, e => by
    rw [List.map_nil, List.nil_append, List.getElem?_replicate] at e
    split at e <;> cases e
  | d :: ds, m, 0, o, e => by
    have e : some (Slot.val d) = some (.own o) := e
    cases e
  | d :: ds, m, i + 1, o, e => no_own ds m i o (by simpa using e)
theorem envOk_start {N : List Str} {ds : List D} {vs : List V} {nn np : Nat} (r : RelDs Y ρ st.length H ds vs) (h1 : ds.length = np) (h2 : N.length = nn) (h3 : np ≤ nn) : EnvOk Y ρ st H H (ds.map .val ++ List.replicate (nn - np) .un) (L2.start N vs) where
  len := by
    unfold L2.start
    have := RelDs.length r
    simp only [List.length_append, List.length_map, List.length_replicate]
    omega
  val := fun i d e => by
    unfold L2.start
    rw [RelDs.length r, h1, h2]
    exact envOk_vals ds vs _ r i d e
  own := fun i o e => (no_own ds _ i o e).elim
end

theorem scope_le {N P : List Str} {sc : Scope} (S : FnScope N P sc) : P.length ≤ N.length := by
  have h := congrArg List.length S.pre
  rw [List.length_take] at h
  omega
theorem fn_step {Y : Wd} {T : Tab} {Pr : Prg} {k i : Nat} {f : Fn} {x qual : Str} {sm : Stmt} {fa : Addr} {fd : FuncData} {N ps : List Str} (hf : Pr.fns[i]? = some f) (F : Fun Y.K x qual sm fa fd) (S : FnScope N ps (defScope sm)) (hp : f.np = ps.length) (hn : f.nn = N.length)
    (hT : TabOk Y T (gx Pr (callF Pr k)) k) (hS : TabS Y T (gx Pr (callF Pr k))) (hm : mSs T N (defScope sm) f.body (defBody sm) = true) : FnOk Y.P Y.w Y.K Y.mg Y.base (L2.CX Y.P Y.w) (k + 1) fa fd ps (spI Y (callF Pr (k + 1)) i) := by
  have lenOf : ∀ {ρ : Nat → Addr} {st : Store} {H : Hp} {ds : List D} {vs : List V} {Q : VK} {E : XK}, RelDs Y ρ st.length H ds vs → Aft Y (fun c d _ H' => E c d H') [] ρ st H (callF Pr (k + 1) i ds st) (FinQ Y Q) → ds.length = f.np := fun {ρ st H ds vs Q E} r a => by
    simp only [callF, hf, runF] at a
    by_cases h : ds.length = f.np
    · exact h
    · rw [if_neg h] at a
      exact a.elim
  obtain ⟨oc, od, kV, doc, pm, an, cdv, ct, osl, rfl, lk, hcd⟩ := F.ex
  refine fn_of lk hcd S (fun vs H Q E h => ?_) fun A outer s H vs Q E hr hsp => ?_
  · obtain ⟨ρ, st, ds, so, r, a⟩ := h
    rw [RelDs.length r, lenOf r a, hp]
  · obtain ⟨ρ, st, ds, so, r, a⟩ := hsp
    have hl := lenOf r a
    have c : CtxS Y k N (defScope sm) (cxOf (L2.CX Y.P Y.w) Y.P Y.w Y.K Y.mg Y.base N qual (defScope sm) fa cdv A outer s H E) (fun cls d _ H => E cls d H) := {
      ok := ⟨rfl, rfl, rfl, rfl, rfl, rfl, rfl, S.nd, hr, fun x kd h => .inl h, fun _ _ => rfl, takes_of rfl rfl rfl rfl⟩
      sc := rfl
      stk := rfl
      frm := rfl
      own := passes_of rfl }
    refine ⟨_, execs_ok (ρe := ρ) (ste := st) (He := H) hT hS f.body (defBody sm) c hm, ρ, st, ds.map .val ++ List.replicate (f.nn - f.np) .un, .refl so, envOk_start r hl hn.symm (by rw [hp, hn]; exact scope_le S), ?_⟩
    simp only [callF, hf, runF, hl, if_true] at a
    cases q : execs (gx Pr (callF Pr k)) f.body (ds.map .val ++ List.replicate (f.nn - f.np) .un) st with
    | bad => rw [q] at a; exact a.elim
    | exc x e s' => rw [q] at a; exact fun ρ' H' σ' c d m t en xo => a ρ' H' c d t xo
    | ok fl e s' =>
      rw [q] at a
      cases fl with
      | nx => exact fun ρ' H' σ' m t en => a ρ' H' t _ rel_non
      | ret d => exact fun ρ' H' σ' m t en v hv => a ρ' H' t v hv
      | brk => exact a.elim
      | ct => exact a.elim
/-- a def of the row and its compact form -/
structure DefOk (Y : Wd) (T : Tab) (Pr : Prg) (x : Str) (i : Nat) : Prop where
  ex : ∃ (fa : Addr) (fd : FuncData) (ps N : List Str) (sm : Stmt) (qual : Str) (f : Fn), Y.mg x = some (.ref fa) ∧ Fun Y.K x qual sm fa fd ∧ Binds Y.K fd ps [] ∧ Pr.fns[i]? = some f ∧ f.np = ps.length ∧ f.nn = N.length ∧ FnScope N ps (defScope sm) ∧
    mSs T N (defScope sm) f.body (defBody sm) = true
theorem spI_zero {Y : Wd} {Pr : Prg} {i : Nat} {vs : List V} {H : Hp} {Q : VK} {E : XK} (h : spI Y (callF Pr 0) i vs H Q E) : False := let ⟨_, _, _, _, _, a⟩ := h; a
theorem tab_ok {Y : Wd} {T : Tab} {Pr : Prg} (hD : ∀ x i, T.fns.lookup x = some i → DefOk Y T Pr x i) (hb : ∀ x, x ∈ T.bls → Y.mg x = none) (hg : ∀ x i, T.glos.lookup x = some i → ∃ d v u, Pr.glos[i]? = some d ∧ Y.mg x = some u ∧ RelV v u ∧ ∀ ρ n H, RelD Y ρ n H d v)
    (hS : ∀ k, TabS Y T (gx Pr (callF Pr k))) : ∀ k, TabOk Y T (gx Pr (callF Pr k)) k
  | 0 => ⟨fun x i h => by
      obtain ⟨fa, fd, ps, N, sm, qual, f, h1, h2, h3, _⟩ := (hD x i h).ex
      exact ⟨fa, fd, ps, h1, h2.kp, h3, ⟨fun vs H Q E z => (spI_zero (Pr := Pr) z).elim, fun A outer s H args us vs Q E _ _ _ _ z => (spI_zero (Pr := Pr) z).elim⟩⟩, hb, hg⟩
  | k + 1 => ⟨fun x i h => by
      obtain ⟨fa, fd, ps, N, sm, qual, f, h1, h2, h3, h4, h5, h6, h7, h8⟩ := (hD x i h).ex
      exact ⟨fa, fd, ps, h1, h2.kp, h3, fn_step h4 h2 h7 h5 h6 (tab_ok hD hb hg hS k) (hS k) h8⟩, hb, hg⟩
/-- the law's promise -/
def spLaw (K : PySem.W.Frag) : Sp := fun vs H Q _ => ∃ (a : Addr) (ns : List Int), vs = [.ref a] ∧ ns.length ≤ 63 ∧ (∀ z ∈ ns, Builtin.Int.intBits z ≤ 1048576) ∧ Only H ∧ SqL K H a (ns.map V.int) ∧ ∀ H', Q (.bl true) H'
theorem relDs_intsK {Y : Wd} {ρ : Nat → Addr} {n : Nat} {H : Hp} : ∀ ns : List Int, RelDs Y ρ n H (ns.map D.int) (ns.map V.int)
  | [] => by simp only [List.map_nil, RelDs]
  | z :: ns => by
    simp only [List.map_cons, RelDs]
    exact ⟨_, _, rfl, rel_int, relDs_intsK ns⟩
theorem law_imp {Y : Wd} {Pr : Prg} {k i : Nat} (plain : ∀ ns : List Int, ns.length ≤ 63 → (∀ z ∈ ns, Builtin.Int.intBits z ≤ 1048576) → ∃ st, callF Pr k i [.kls (ns.map .int)] [] = .ok (.bl true) st) :
    ∀ vs H Q E, spLaw Y.K vs H Q E → spI Y (callF Pr k) i vs H Q E := fun vs H Q E ⟨a, ns, e, h1, h2, h3, h4, h5⟩ => by
  obtain ⟨st, hp⟩ := plain ns h1 h2
  refine ⟨fun _ => 0, [], [.kls (ns.map .int)], ⟨fun l o e => by simp at e, fun l l' h => absurd h (Nat.not_lt_zero _)⟩, ?_, ?_⟩
  · subst e
    simp only [RelDs, RelD]
    refine ⟨_, _, rfl, ⟨a, _, rfl, ?_, relDs_intsK ns⟩, rfl⟩
    rcases h4 with (h4 | ⟨o, h4⟩) | h4
    · rcases h3 a with z | ⟨o, xs, z⟩ <;> rw [z] at h4 <;> cases h4
    · exact .inl ⟨o, h4⟩
    · exact .inr (.inr h4)
  · rw [hp]
    intro ρ' H' t v hv
    have : v = .bl true := by simpa only [RelD] using hv
    rw [this]
    exact h5 H'
end J

/-! JHd: the head's facts -/
namespace J
open PySem PySem.Spec PyProof.Rows L2
section
variable {P : Program} {w : World} {K : PySem.W.Frag} {mg : Str → Option Value} {h : Heap} {T : Tab} {Pr : Prg}
/-- a def of the text, as DefOk wants it: nothing of classes or base in it -/
def DfK (K : PySem.W.Frag) (mg : Str → Option Value) (T : Tab) (Pr : Prg) (x : Str) (i : Nat) : Prop := ∃ (fa : Addr) (fd : FuncData) (ps N : List Str) (sm : Stmt) (qual : Str) (f : Fn), mg x = some (.ref fa) ∧ Fun K x qual sm fa fd ∧ Binds K fd ps [] ∧ Pr.fns[i]? = some f ∧ f.np = ps.length ∧ f.nn = N.length ∧ FnScope N ps (defScope sm) ∧
    mSs T N (defScope sm) f.body (defBody sm) = true
theorem DfK.ok {x : Str} {i : Nat} (d : DfK K mg T Pr x i) (Y : Wd) (h1 : Y.K = K) (h2 : Y.mg = mg) : DefOk Y T Pr x i := by
  obtain ⟨a, b, c, d, e, f, g, z1, z2, z3, z4⟩ := d
  exact ⟨⟨a, b, c, d, e, f, g, by rw [h2]; exact z1, by rw [h1]; exact z2, by rw [h1]; exact z3, z4⟩⟩
theorem mk_def {x : Str} {i : Nat} {sm : Stmt} {f : Addr} {oc kV doc pm cd ct : Value} {od an : Option Addr} {sl : Array (Option Value)} {N ps : List Str} {fn : Fn} (X : K.In h) (G : h.Ns mainGlobals mg)
    (a : PySem.W.nsIn K mainGlobals x = some (some (.ref f))) (l : K.lookup f = some ⟨oc, od, .func (PySem.W.fnOf x x (defArgs sm) (defBody sm) (defScope sm) .none kV doc pm an cd ct), sl⟩) (c : PySem.W.codeIn K cd x = true) (k : PySem.W.keepIn K (.ref f) = true)
    (bd : ∀ (kV doc pm : Value) (an : Option Addr) (cdv ct : Value) (us : List Value), us.length = ps.length → bindArgs (PySem.W.fnOf x x (defArgs sm) (defBody sm) (defScope sm) .none kV doc pm an cdv ct) ⟨us, []⟩ = pure (ps.zip us))
    (hf : Pr.fns[i]? = some fn) (h1 : fn.np = ps.length) (h2 : fn.nn = N.length) (S : FnScope N ps (defScope sm)) (m : mSs T N (defScope sm) fn.body (defBody sm) = true) : DfK K mg T Pr x i :=
  ⟨f, _, ps, N, sm, x, fn, PySem.W.mg_of X G a, fun_mk (st := sm) l c k, (fun_mk (st := sm) l c k).binds bd, hf, h1, h2, S, m⟩
/-- an exception's class -/
structure ExK (K : PySem.W.Frag) (mg : Str → Option Value) (x : Str) (A : Addr) : Prop where
  mg : mg x = some (.ref A)
  kp : PySem.W.keepIn K (.ref A) = true
  ex : ∃ bmB B newId initId, ExcBaseFacts B newId initId bmB ∧ PySem.W.excIn K A bmB newId = true
  sub : PySem.W.subIn K (.ref A) (.type "BaseException") = some true
  ty : PySem.W.typeIn K (.ref A) = some (.type "type")
  cl : PySem.W.isClsIn K A = true
theorem mk_exc {x : Str} {A : Addr} {bmB : List Value} {newId : String} {B : String} {initId : String} (X : K.In h) (G : h.Ns mainGlobals mg) (a : PySem.W.nsIn K mainGlobals x = some (some (.ref A))) (k : PySem.W.keepIn K (.ref A) = true) (F : ExcBaseFacts B newId initId bmB)
    (e : PySem.W.excIn K A bmB newId = true) (s : PySem.W.subIn K (.ref A) (.type "BaseException") = some true) (t : PySem.W.typeIn K (.ref A) = some (.type "type")) (c : PySem.W.isClsIn K A = true) : ExK K mg x A :=
  ⟨PySem.W.mg_of X G a, k, ⟨_, _, _, _, F, e⟩, s, t, c⟩
theorem exm_of {x : Str} {A B : Addr} {b : Bool} (E : ExK K mg x B) (s : PySem.W.subIn K (.ref A) (.ref B) = some b) : PySem.W.exmOne K (.ref A) (.ref B) = some b := by
  have e1 : (PySem.W.subIn K (.ref B) (.type "BaseException") == some true) = true := by rw [E.sub] <;> rfl
  have e2 : ((PySem.W.clsIn K B).isSome && PySem.W.typeIn K (.ref B) == some (.type "type")) = true := by
    have h2' : (PySem.W.clsIn K B).isSome = true := E.cl
    rw [h2', E.ty] <;> rfl
  show (if (PySem.W.subIn K (.ref B) (.type "BaseException") == some true) = true then (if ((PySem.W.clsIn K B).isSome && PySem.W.typeIn K (.ref B) == some (.type "type")) = true then PySem.W.subIn K (.ref A) (.ref B) else none) else none) = some b
  rw [if_pos e1, if_pos e2]
  exact s
/-- the law's def keeps its promise -/
theorem law_fn {k i : Nat} {cls : Nat → Addr} {fa : Addr} {sm : Stmt} {f : Addr} {oc kV doc pm cd ct : Value} {od an : Option Addr} {sl : Array (Option Value)} {N : List Str} {fn : Fn} (X : K.In h) (G : h.Ns mainGlobals mg) (hfa : mg "law" = some (.ref fa))
    (a : PySem.W.nsIn K mainGlobals "law" = some (some (.ref f))) (l : K.lookup f = some ⟨oc, od, .func (PySem.W.fnOf "law" "law" (defArgs sm) (defBody sm) (defScope sm) .none kV doc pm an cd ct), sl⟩) (c : PySem.W.codeIn K cd "law" = true) (kp : PySem.W.keepIn K (.ref f) = true)
    (bd : ∀ (s : Shared) (u : Value), BindsTo s (PySem.W.fnOf "law" "law" (defArgs sm) (defBody sm) (defScope sm) .none kV doc pm an cd ct) ⟨[u], []⟩ [("script", u)])
    (hf : Pr.fns[i]? = some fn) (h1 : fn.np = 1) (h2 : fn.nn = N.length) (S : FnScope N ["script"] (defScope sm)) (m : mSs T N (defScope sm) fn.body (defBody sm) = true)
    (D : ∀ y j, T.fns.lookup y = some j → DfK K mg T Pr y j) (hb : ∀ y, y ∈ T.bls → mg y = none)
    (hg : ∀ y j, T.glos.lookup y = some j → ∃ d v u, Pr.glos[j]? = some d ∧ mg y = some u ∧ RelV v u ∧ ∀ (Y : Wd) ρ n H, RelD Y ρ n H d v) (he : ∀ y c, T.excs.lookup y = some c → ExK K mg y (cls c)) (hi : ∀ a b r, Pr.isas.lookup (a, b) = some r → PySem.W.exmOne K (.ref (cls a)) (.ref (cls b)) = some r)
    (plain : ∀ ns : List Int, ns.length ≤ 63 → (∀ z ∈ ns, Builtin.Int.intBits z ≤ 1048576) → ∃ st, callF Pr (k + 1) i [.kls (ns.map .int)] [] = .ok (.bl true) st) :
    ∃ fd : FuncData, (∀ (s : Shared) (u : Value), BindsTo s fd ⟨[u], []⟩ [("script", u)]) ∧ ∀ base : Heap, K.In base → base.Ns mainGlobals mg → FnOk P w K mg base (L2.CX P w) (k + 1) fa fd ["script"] (spLaw K) := by
  have e := hfa.symm.trans (PySem.W.mg_of X G a)
  cases e
  refine ⟨_, bd, fun base _ _ => ?_⟩
  let Y : Wd := ⟨P, w, K, cls, mg, base⟩
  have hS : ∀ k, TabS Y T (gx Pr (callF Pr k)) := fun k => ⟨fun y c q => let E := he y c q; ⟨E.mg, E.kp, E.ex, E.sub, E.ty⟩, fun a b r q => hi a b r q⟩
  have hT := tab_ok (Y := Y) (fun y j q => (D y j q).ok Y rfl rfl) hb (fun y j q => by
    obtain ⟨d, v, u, a, b, c, e⟩ := hg y j q
    exact ⟨d, v, u, a, b, c, fun ρ n H => e Y ρ n H⟩) hS k
  exact (fn_step (Y := Y) hf (fun_mk (st := sm) l c kp) S h1 h2 hT (hS k) m).imp (law_imp (Y := Y) plain)
/-- a table's facts, row by row -/
theorem lk_nil {α : Type} {Q : Str → α → Prop} : ∀ y j, ([] : List (Str × α)).lookup y = some j → Q y j := fun y j h => by cases h
theorem lk_cons {α : Type} {Q : Str → α → Prop} {x : Str} {i : α} {r : List (Str × α)} (h : Q x i) (t : ∀ y j, r.lookup y = some j → Q y j) : ∀ y j, ((x, i) :: r).lookup y = some j → Q y j := fun y j e => by
  rw [List.lookup_cons] at e
  cases q : y == x with
  | true => rw [q] at e; cases e; rw [eq_of_beq q]; exact h
  | false => rw [q] at e; exact t y j e
theorem bl_nil {Q : Str → Prop} : ∀ y, y ∈ ([] : List Str) → Q y := fun y h => by cases h
theorem bl_cons {Q : Str → Prop} {x : Str} {r : List Str} (h : Q x) (t : ∀ y, y ∈ r → Q y) : ∀ y, y ∈ x :: r → Q y := fun y e => by
  rcases List.mem_cons.mp e with rfl | e
  · exact h
  · exact t y e
theorem glo_int {y : Str} {j : Nat} {i : Int} {t : Tok} (X : K.In h) (G : h.Ns mainGlobals mg) (e : Pr.glos[j]? = some (.int i)) (a : PySem.W.nsIn K mainGlobals y = some (some (.int i t))) : ∃ d v u, Pr.glos[j]? = some d ∧ mg y = some u ∧ RelV v u ∧ ∀ (Y : Wd) ρ n H, RelD Y ρ n H d v :=
  ⟨_, .int i, _, e, PySem.W.mg_of X G a, ⟨t, rfl⟩, fun _ _ _ _ => rel_int⟩
theorem glo_str {y : Str} {j : Nat} {i : Str} {t : Tok} (X : K.In h) (G : h.Ns mainGlobals mg) (e : Pr.glos[j]? = some (.str i)) (a : PySem.W.nsIn K mainGlobals y = some (some (.str i t))) : ∃ d v u, Pr.glos[j]? = some d ∧ mg y = some u ∧ RelV v u ∧ ∀ (Y : Wd) ρ n H, RelD Y ρ n H d v :=
  ⟨_, .str i, _, e, PySem.W.mg_of X G a, ⟨t, rfl⟩, fun _ _ _ _ => rel_str⟩
theorem lk2_nil {Q : Nat → Nat → Bool → Prop} : ∀ x y j, ([] : List ((Nat × Nat) × Bool)).lookup (x, y) = some j → Q x y j := fun x y j h => by cases h
theorem lk2_cons {Q : Nat → Nat → Bool → Prop} {a b : Nat} {i : Bool} {r : List ((Nat × Nat) × Bool)} (h : Q a b i) (t : ∀ x y j, r.lookup (x, y) = some j → Q x y j) : ∀ x y j, (((a, b), i) :: r).lookup (x, y) = some j → Q x y j := fun x y j e => by
  rw [List.lookup_cons] at e
  cases q : (x, y) == (a, b) with
  | true =>
    rw [q] at e
    cases e
    have z := eq_of_beq q
    cases z
    exact h
  | false => rw [q] at e; exact t x y j e
/-- the walk -/
theorem law_walk {l : PySem.W.OpenLaw} {q : Program} {loose : List Str} {XP : (Str → Option Value) → Heap → Prop} {YP : World → Heap → Prop} {d : DefRec} {K : Params → PySem.W.Frag} {k : Nat} (hn : l.most = some 63) (hk : Room k callerA) (hdf : d.params.defaults = [])
    (hY : ∀ (w : World) (h : Heap), YP w h → (K w.params).In h)
    (F : ∀ (w : World) (mg : Str → Option Value) (fa : Addr) (h : Heap), (K w.params).In h → h.Ns mainGlobals mg → mg d.name = some (.ref fa) →
      ∃ fd : FuncData, (∀ (s : Shared) (u : Value), BindsTo s fd ⟨[u], []⟩ [("script", u)]) ∧ ∀ base : Heap, (K w.params).In base → base.Ns mainGlobals mg → FnOk l.prog w (K w.params) mg base (L2.CX l.prog w) k fa fd ["script"] (spLaw (K w.params))) :
    PySem.W.WalkO q loose XP YP l.row.toRowW d [] (fun f vs => PySem.call f vs) :=
  L2.walk_ofB (n := 63) (k := k) (x := "script") (CX := fun w => L2.CX l.prog w) (sp := fun w => spLaw (K w.params)) hn (by decide) hdf hk hY F (fun _ _ a ns hl hb ho hS => ⟨a, ns, rfl, hl, hb, ho, hS, fun _ => rfl⟩) fun _ _ _ _ _ ⟨_, _, _, _, _, _, _, _, _, _, _, _, z⟩ => z
end
end J

/-! JPl: rewrite rules by constructor, for the plain laws -/
namespace J
open PySem
section
variable {α β : Type} {a : α} {s st : Store} {f : α → Store → Res β} {g : α → Store → RS} {x : Exn} {env : Env} {h : Env → Store → RS}
theorem bnd_okE : bnd (.ok a s) f = f a s := rfl
theorem bnd_excE : bnd (.exc x s : Res α) f = .exc x s := rfl
theorem bnd_badE : bnd (.bad : Res α) f = .bad := rfl
theorem bndS_okE : bndS env (.ok a s) g = g a s := rfl
theorem bndS_excE : bndS env (.exc x s : Res α) g = .exc x env s := rfl
theorem thn_nxE : thn (.ok .nx env s) h = h env s := rfl
theorem thn_retE {d : D} : thn (.ok (.ret d) env s) h = .ok (.ret d) env s := rfl
theorem thn_brkE : thn (.ok .brk env s) h = .ok .brk env s := rfl
theorem thn_ctE : thn (.ok .ct env s) h = .ok .ct env s := rfl
theorem thn_excE : thn (.exc x env s) h = .exc x env s := rfl
theorem ofO_someE : ofO (some a) s = .ok a s := rfl
theorem ofO_noneE : ofO (none : Option α) s = .bad := rfl
end
section
variable {st : Store}
theorem snap_non : snap st .non = .non := rfl
theorem snap_bl {b : Bool} : snap st (.bl b) = .bl b := rfl
theorem snap_int {i : Int} : snap st (.int i) = .int i := rfl
theorem snap_str {x : Str} : snap st (.str x) = .str x := rfl
theorem snap_tup {xs : List D} : snap st (.tup xs) = .tup xs := rfl
theorem snap_lst {xs : List D} : snap st (.lst xs) = .lst xs := rfl
theorem snap_kls {xs : List D} : snap st (.kls xs) = .kls xs := rfl
theorem snap_ref {l : Nat} {xs : List D} (h : st[l]? = some (.lst xs)) : snap st (.ref l) = .lst xs := by simp only [snap, h]
theorem truth_bl {b : Bool} : truth (.bl b) = some b := rfl
theorem truth_int {i : Int} : truth (.int i) = some (i != 0) := rfl
theorem truth_tup {xs : List D} : truth (.tup xs) = some (!xs.isEmpty) := rfl
theorem truth_lst {xs : List D} : truth (.lst xs) = some (!xs.isEmpty) := rfl
theorem bin_add {i j : Int} : binD .add (.int i) (.int j) = some (.int (i + j)) := rfl
theorem bin_sub {i j : Int} : binD .sub (.int i) (.int j) = some (.int (i - j)) := rfl
theorem bin_mul {i j : Int} (h : -(2 ^ 64) < j ∧ j < 2 ^ 64) : binD .mul (.int i) (.int j) = some (.int (i * j)) := if_pos (.inr h)
theorem bin_mod {i j : Int} (h : j ≠ 0) : binD .mod (.int i) (.int j) = some (.int (i.fmod j)) := if_pos h
theorem bin_fdiv {i j : Int} (h : j ≠ 0 ∧ j.natAbs < 1073741824) : binD .fdiv (.int i) (.int j) = some (.int (i.fdiv j)) := if_pos h
theorem cmp_eqI {i j : Int} : cmpD .eq (.int i) (.int j) = some (i == j) := rfl
theorem cmp_neI {i j : Int} : cmpD .ne (.int i) (.int j) = some (!(i == j)) := rfl
theorem cmp_ltI {i j : Int} : cmpD .lt (.int i) (.int j) = some (decide (i < j)) := rfl
theorem cmp_gtI {i j : Int} : cmpD .gt (.int i) (.int j) = some (decide (j < i)) := rfl
theorem cmp_leI {i j : Int} : cmpD .le (.int i) (.int j) = some (!decide (j < i)) := rfl
theorem cmp_geI {i j : Int} : cmpD .ge (.int i) (.int j) = some (!decide (i < j)) := rfl
theorem cmp_isN {a : D} : cmpD .is a .non = some (isNon a) := rfl
theorem cmp_isnotN {a : D} : cmpD .isnot a .non = some (!isNon a) := rfl
theorem ix_lst {xs : List D} {i : Int} : ixD (.lst xs) (.int i) = L2.atI xs i := rfl
theorem ix_tup {xs : List D} {i : Int} : ixD (.tup xs) (.int i) = L2.atI xs i := rfl
theorem len_lst {xs : List D} : lenB [.lst xs] = some (.int xs.length) := rfl
theorem len_tup {xs : List D} : lenB [.tup xs] = some (.int xs.length) := rfl
theorem len_kls {xs : List D} : lenB [.kls xs] = some (.int xs.length) := rfl
theorem int_int {i : Int} : intB [.int i] = some (.int i) := rfl
theorem abs_int {i : Int} : absB [.int i] = some (.int (if i < 0 then -i else i)) := rfl
end
end J

/-! JPl2: loops of the plain laws by an invariant -/
namespace J
open PySem
theorem forL_ok {t : Tg} {f : Env → Store → RS} (I : Env → Store → Prop) : ∀ (xs : List D) (env : Env) (st : Store), I env st → (∀ x ∈ xs, ∀ e s, I e s → ∃ e1, asgT t x e = some e1 ∧ ∃ e2 s2, f e1 s = .ok .nx e2 s2 ∧ I e2 s2) → ∃ e s, forL t f xs env st = .ok .nx e s ∧ I e s
  | [], env, st, h, _ => ⟨env, st, rfl, h⟩
  | x :: r, env, st, h, step => by
    obtain ⟨e1, a, e2, s2, b, i2⟩ := step x List.mem_cons_self env st h
    obtain ⟨e, s, c, i⟩ := forL_ok I r e2 s2 i2 fun y hy => step y (List.mem_cons_of_mem _ hy)
    exact ⟨e, s, by rw [forL, a]; dsimp only; rw [b]; exact c, i⟩
theorem lcL_ok {f : D → Store → Res (Option D)} (I : Store → Prop) (P : D → Prop) : ∀ (xs acc : List D) (st : Store), I st → (∀ y ∈ acc, P y) → acc.length + xs.length ≤ SZ → (∀ x ∈ xs, ∀ s, I s → ∃ o s2, f x s = .ok o s2 ∧ I s2 ∧ ∀ y, o = some y → P y) →
    ∃ ys s, lcL f acc xs st = .ok ys s ∧ I s ∧ (∀ y ∈ ys, P y) ∧ ys.length ≤ acc.length + xs.length
  | [], acc, st, h, ha, hz, _ => ⟨acc, st, rfl, h, ha, by simp⟩
  | x :: r, acc, st, h, ha, hz, step => by
    rw [List.length_cons] at hz
    obtain ⟨o, s2, a, i2, hp⟩ := step x List.mem_cons_self st h
    have st' := fun y hy => step y (List.mem_cons_of_mem _ hy)
    cases o with
    | none =>
      obtain ⟨ys, s, c, i, p, l⟩ := lcL_ok I P r acc s2 i2 ha (by omega) st'
      exact ⟨ys, s, by rw [lcL, a]; exact c, i, p, by rw [List.length_cons]; omega⟩
    | some y =>
      obtain ⟨ys, s, c, i, p, l⟩ := lcL_ok I P r (acc ++ [y]) s2 i2 (fun z hz => by
        rcases List.mem_append.mp hz with q | q
        · exact ha z q
        · rw [List.mem_singleton.mp q]; exact hp y rfl) (by rw [List.length_append, List.length_singleton]; omega) st'
      rw [List.length_append, List.length_singleton] at l
      exact ⟨ys, s, by rw [lcL, a]; dsimp only; rw [if_pos (by omega)]; exact c, i, p, by rw [List.length_cons]; omega⟩
theorem lcL_all {f : D → Store → Res (Option D)} (I : Store → Prop) (P : D → Prop) : ∀ (xs acc : List D) (st : Store), I st → (∀ y ∈ acc, P y) → acc.length + xs.length ≤ SZ → (∀ x ∈ xs, ∀ s, I s → ∃ y s2, f x s = .ok (some y) s2 ∧ I s2 ∧ P y) →
    ∃ ys s, lcL f acc xs st = .ok ys s ∧ I s ∧ (∀ y ∈ ys, P y) ∧ ys.length = acc.length + xs.length
  | [], acc, st, h, ha, hz, _ => ⟨acc, st, rfl, h, ha, by simp⟩
  | x :: r, acc, st, h, ha, hz, step => by
    rw [List.length_cons] at hz
    obtain ⟨y, s2, a, i2, hp⟩ := step x List.mem_cons_self st h
    obtain ⟨ys, s, c, i, p, l⟩ := lcL_all I P r (acc ++ [y]) s2 i2 (fun z hz => by
      rcases List.mem_append.mp hz with q | q
      · exact ha z q
      · rw [List.mem_singleton.mp q]; exact hp) (by rw [List.length_append, List.length_singleton]; omega) fun y hy => step y (List.mem_cons_of_mem _ hy)
    rw [List.length_append, List.length_singleton] at l
    exact ⟨ys, s, by rw [lcL, a]; dsimp only; rw [if_pos (by omega)]; exact c, i, p, by rw [List.length_cons]; omega⟩
end J

/-! JPure: what a def computes that touches no store; it is what the interpreter says, at each store -/
namespace J
open PySem L2

inductive R (α : Type) where
  | ok (a : α) | exc (x : Exn) | bad
inductive RP where
  | ok (f : Fl) (env : Env) | exc (x : Exn) (env : Env) | bad
def R.bind {α β : Type} (x : R α) (f : α → R β) (_t : Tk f := .mk) : R β := match x with
  | .ok a => f a
  | .exc e => .exc e
  | .bad => .bad
def ofP {α : Type} (o : Option α) : R α := match o with
  | some a => .ok a
  | none => .bad
/-- no ref -/
def nr : D → Bool
  | .ref _ => false
  | _ => true
def nrs (xs : List D) : Bool := xs.all nr
def lcP (f : D → R (Option D)) : List D → List D → R (List D)
  | acc, [] => .ok acc
  | acc, x :: r => match f x with
    | .ok none => lcP f acc r
    | .ok (some y) => if acc.length < SZ then lcP f (acc ++ [y]) r else .bad
    | .exc _ => .bad
    | .bad => .bad
def lcP2 (f : D → List D → R (List D)) : List D → List D → R (List D)
  | acc, [] => .ok acc
  | acc, x :: r => match f x acc with
    | .ok acc' => lcP2 f acc' r
    | .exc _ => .bad
    | .bad => .bad
structure Gp where
  call : Nat → List D → R D
  glo : Nat → Option D
  isa : Nat → Nat → Option Bool
section
variable (G : Gp)
mutual
def evP : Ex → Env → R D
  | .int i, _ => .ok (.int i)
  | .str x, _ => .ok (.str x)
  | .bl b, _ => .ok (.bl b)
  | .non, _ => .ok .non
  | .var i, env => match env[i]? with
    | some (.val d) => .ok d
    | _ => .bad
  | .bor i, env => match getO env i with
    | some o => .ok (frz o)
    | none => .bad
  | .glo k, _ => ofP (G.glo k)
  | .tup es, env => (evPs es env).bind fun ds => if ds.length ≤ SZ then .ok (.tup ds) else .bad
  | .lst es, env => (evPs es env).bind fun ds => if ds.length ≤ SZ then .ok (.lst ds) else .bad
  | .bin o a b, env => (evP a env).bind fun x => (evP b env).bind fun y => if nr x && nr y then ofP (binD o x y) else .bad
  | .cmp o a b, env => (evP a env).bind fun x => (evP b env).bind fun y => if nr x && nr y then ofP ((cmpD o x y).map .bl) else .bad
  | .chain o p a b c, env => (evP a env).bind fun x => (evP b env).bind fun y => if nr x && nr y then (match cmpD o x y with
    | some true => (evP c env).bind fun z => if nr z then ofP ((cmpD p y z).map .bl) else .bad
    | some false => .ok (.bl false)
    | none => .bad) else .bad
  | .neg a, env => (evP a env).bind fun x => match x with
    | .int i => .ok (.int (-i))
    | _ => .bad
  | .ands es, env => evPAnd es env
  | .ors es, env => evPOr es env
  | .not a, env => (evP a env).bind fun x => match x with
    | .bl b => .ok (.bl (!b))
    | _ => .bad
  | .ite t a b, env => (tstP t env).bind fun c => if c then evP a env else evP b env
  | .ix a i, env => (evP a env).bind fun x => (evP i env).bind fun y => if nr x && nr y then ofP (ixD x y) else .bad
  | .slc a lo hi, env => (evP a env).bind fun x => (evPO lo env).bind fun l => (evPO hi env).bind fun h => if nr x then ofP (sliceD x l h) else .bad
  | .fn k es, env => (evPs es env).bind fun ds => G.call k ds
  | .bt f es, env => (evPs es env).bind fun ds => if nrs ds then ofP (btD f ds) else .bad
  | .bm m o es, env => (evP o env).bind fun x => (evPs es env).bind fun ds => if nr x && nrs ds then ofP (bmD m (x :: ds)) else .bad
  | .me _ _ _, _ => .bad
  | .mk _ _, _ => .bad
  | .att _ _, _ => .bad
  | .lc e (.mk t i ifs own), env => (itP i env).bind fun xs =>
      (lcP (fun x => match asgT t x (wipeE env own) with
        | some env' => (tstP ifs env').bind fun b => if b then (evP e env').bind fun y => .ok (some y) else .ok none
        | none => .bad) [] xs).bind fun ys => .ok (.lst ys)
  | .lc2 e (.mk t i ifs own) (.mk t2 i2 ifs2 own2), env => (itP i env).bind fun xs =>
      (lcP2 (fun x acc => match asgT t x (wipeE env own) with
        | some env' => (tstP ifs env').bind fun b => if b then (itP i2 env').bind fun zs =>
            lcP (fun z => match asgT t2 z (wipeE env' own2) with
              | some env2 => (tstP ifs2 env2).bind fun b2 => if b2 then (evP e env2).bind fun y => .ok (some y) else .ok none
              | none => .bad) acc zs
          else .ok acc
        | none => .bad) [] xs).bind fun ys => .ok (.lst ys)
  | .dc k v (.mk t i ifs own), env => (itP i env).bind fun xs =>
      (lcP (fun x => match asgT t x (wipeE env own) with
        | some env' => (tstP ifs env').bind fun b => if b then (evP k env').bind fun y => (evP v env').bind fun z => if keyOk y then .ok (some (.tup [y, z])) else .bad else .ok none
        | none => .bad) [] xs).bind fun ys => ofP ((pairs? ys).map fun ps => .dic (dputs [] ps))
  | .dict es, env => (evPs es env).bind fun ds => ofP ((alt? ds).bind fun ps => if ps.all (fun p => keyOk p.1) && decide (ps.length ≤ 15) then some (.dic (dputs [] ps)) else none)
  | .fs es, env => (evPs es env).bind fun ds => ofP ((flds? ds).bind fun xs => (joinS xs).map .str)
  | .itl f t, env => (itP t env).bind fun xs => ofP (btD f [.lst xs])
  | .new _, _ => .bad
  | .srt e, env => (evP e env).bind fun d => if nr d then ofP (srtD d) else .bad
  | .lset e, env => (evP e env).bind fun d => if nr d then ofP (lsetD d) else .bad
def evPs : Exs → Env → R (List D)
  | .nil, _ => .ok []
  | .cons e r, env => (evP e env).bind fun x => (evPs r env).bind fun xs => .ok (x :: xs)
def evPO : Option Ex → Env → R (Option Int)
  | none, _ => .ok none
  | some e, env => (evP e env).bind fun x => match x with
    | .int i => .ok (some i)
    | _ => .bad
def evPAnd : Exs → Env → R D
  | .nil, _ => .bad
  | .cons e .nil, env => evP e env
  | .cons e (.cons e2 r), env => (evP e env).bind fun x => match x with
    | .bl true => evPAnd (.cons e2 r) env
    | .bl false => .ok (.bl false)
    | _ => .bad
def evPOr : Exs → Env → R D
  | .nil, _ => .bad
  | .cons e .nil, env => evP e env
  | .cons e (.cons e2 r), env => (evP e env).bind fun x => match x with
    | .bl true => .ok (.bl true)
    | .bl false => evPOr (.cons e2 r) env
    | _ => .bad
def tstP : Te → Env → R Bool
  | .yes, _ => .ok true
  | .ex e, env => (evP e env).bind fun x => if nr x then ofP (truth x) else .bad
  | .ands ts, env => tsPAnd ts env
  | .ors ts, env => tsPOr ts env
  | .not t, env => (tstP t env).bind fun b => .ok (!b)
def tsPAnd : Tes → Env → R Bool
  | .nil, _ => .bad
  | .cons e .nil, env => tstP e env
  | .cons e (.cons e2 r), env => (tstP e env).bind fun b => if b then tsPAnd (.cons e2 r) env else .ok false
def tsPOr : Tes → Env → R Bool
  | .nil, _ => .bad
  | .cons e .nil, env => tstP e env
  | .cons e (.cons e2 r), env => (tstP e env).bind fun b => if b then .ok true else tsPOr (.cons e2 r) env
def itP : It → Env → R (List D)
  | .ex e, env => (evP e env).bind fun x => ofP (items? x)
  | .rng es, env => (evPs es env).bind fun ds => ofP (range? ds)
  | .zip a b, env => (evP a env).bind fun x => (evP b env).bind fun y => ofP (zip2? x y)
  | .enum e, env => (evP e env).bind fun x => ofP ((items? x).map (enumD 0))
  | .items e, env => (evP e env).bind fun x => match x with
    | .dic kvs => .ok (kvs.map fun p => .tup [p.1, p.2])
    | _ => .bad
  | .vals e, env => (evP e env).bind fun x => match x with
    | .dic kvs => .ok (kvs.map (·.2))
    | _ => .bad
  | .rev e, env => (evP e env).bind fun x => match x with
    | .lst xs => .ok xs.reverse
    | _ => .bad
end
def bndP {α : Type} (env : Env) (x : R α) (f : α → RP) (_t : Tk f := .mk) : RP := match x with
  | .ok a => f a
  | .exc e => .exc e env
  | .bad => .bad
def forP (t : Tg) (f : Env → RP) : List D → Env → RP
  | [], env => .ok .nx env
  | x :: r, env => match asgT t x env with
    | some env' => match f env' with
      | .ok .nx e => forP t f r e
      | .ok .ct e => forP t f r e
      | .ok .brk e => .ok .nx e
      | .ok (.ret d) e => .ok (.ret d) e
      | .exc x e => .exc x e
      | .bad => .bad
    | none => .bad
def whP (t : Env → R Bool) (f : Env → RP) : Nat → Env → RP
  | 0, _ => .bad
  | n + 1, env => match t env with
    | .ok true => match f env with
      | .ok .nx e => whP t f n e
      | .ok .ct e => whP t f n e
      | .ok .brk e => .ok .nx e
      | .ok (.ret d) e => .ok (.ret d) e
      | .exc x e => .exc x e
      | .bad => .bad
    | .ok false => .ok .nx env
    | .exc x => .exc x env
    | .bad => .bad
def thP (x : RP) (f : Env → RP) (_t : Tk f := .mk) : RP := match x with
  | .ok .nx e => f e
  | r => r
def setSP (env : Env) (i : Nat) (o : Option MO) : RP := match o with
  | some o => .ok .nx (env.set i (.own o))
  | none => .bad
mutual
def exP : Sm → Env → RP
  | .asg t e, env => bndP env (evP G e env) fun x => match asgT t x env with
    | some env' => .ok .nx env'
    | none => .bad
  | .asgO i e, env => bndP env (evP G e env) fun x => if i < env.length then (match x with
    | .lst xs => .ok .nx (env.set i (.own (.lst xs)))
    | .dic kvs => .ok .nx (env.set i (.own (.dic kvs)))
    | _ => .bad) else .bad
  | .asgM j i, env => match getO env i with
    | some o => if j < env.length then .ok .nx ((env.set i (.val (frz o))).set j (.val (frz o))) else .bad
    | none => .bad
  | .par i j a b, env => bndP env (evP G a env) fun x => bndP env (evP G b env) fun y => if i < env.length ∧ j < env.length then .ok .nx ((env.set i (.val x)).set j (.val y)) else .bad
  | .aug i o e, env => match env[i]? with
    | some (.val x) => bndP env (evP G e env) fun y => match augD o x y with
      | some z => .ok .nx (env.set i (.val z))
      | none => .bad
    | _ => .bad
  | .setO i k e, env => bndP env (evP G e env) fun y => bndP env (evP G k env) fun z => match getO env i with
    | some o => setSP env i (setMO o z y)
    | none => .bad
  | .setR _ _ _, _ => .bad
  | .delO i k, env => bndP env (evP G k env) fun z => match getO env i with
    | some (.dic kvs) => if keyOk z && (dget z kvs).isSome then .ok .nx (env.set i (.own (.dic (ddel z kvs)))) else .bad
    | _ => .bad
  | .app i e, env => bndP env (evP G e env) fun y => match getO env i with
    | some o => setSP env i (appMO o y)
    | none => .bad
  | .ext i e, env => bndP env (evP G e env) fun y => match getO env i, y with
    | some (.lst xs), .lst ys => if xs.length + ys.length ≤ SZ then .ok .nx (env.set i (.own (.lst (xs ++ ys)))) else .bad
    | _, _ => .bad
  | .upd i e, env => bndP env (evP G e env) fun y => match getO env i, y with
    | some (.dic xs), .dic ys => if xs.length + ys.length ≤ SZ then .ok .nx (env.set i (.own (.dic (dputs xs ys)))) else .bad
    | _, _ => .bad
  | .pop j i, env => match getO env i with
    | some (.lst xs) => match xs.getLast? with
      | some y => if j < env.length then .ok .nx ((env.set i (.own (.lst xs.dropLast))).set j (.val y)) else .bad
      | none => .bad
    | _ => .bad
  | .appR _ _, _ => .bad
  | .setA _ _ _, _ => .bad
  | .augA _ _ _ _, _ => .bad
  | .expr e, env => bndP env (evP G e env) fun _ => .ok .nx env
  | .ret e, env => bndP env (evP G e env) fun x => .ok (.ret x) env
  | .retM i, env => match getO env i with
    | some o => .ok (.ret (frz o)) (env.set i (.val (frz o)))
    | none => .bad
  | .retN, env => .ok (.ret .non) env
  | .iff t a b, env => bndP env (tstP G t env) fun c => if c then exPs a env else exPs b env
  | .iffS i k v c a b, env => bndP env (evP G k env) fun x => bndP env (evP G v env) fun y => match getO env i with
    | some (.dic kvs) => if keyOk x && decide (kvs.length < SZ) then
        (match dget x kvs with
        | some w => bndP env (evP G c env) fun z => if nr w && nr z then (match cmpD .ne w z with
          | some true => exPs a env
          | some false => exPs b env
          | none => .bad) else .bad
        | none => bndP (env.set i (.own (.dic (kvs ++ [(x, y)])))) (evP G c (env.set i (.own (.dic (kvs ++ [(x, y)]))))) fun z => if nr y && nr z then (match cmpD .ne y z with
          | some true => exPs a (env.set i (.own (.dic (kvs ++ [(x, y)]))))
          | some false => exPs b (env.set i (.own (.dic (kvs ++ [(x, y)]))))
          | none => .bad) else .bad)
      else .bad
    | _ => .bad
  | .for_ t i b, env => bndP env (itP G i env) fun xs => forP t (fun e => exPs b e) xs env
  | .forM t i b, env => match getO env i with
    | some o => match items? (frz o) with
      | some xs => forP t (fun e => exPs b e) xs (env.set i (.val (frz o)))
      | none => .bad
    | none => .bad
  | .while_ t b, env => whP (fun e => tstP G t e) (fun e => exPs b e) loopMax env
  | .brk, env => .ok .brk env
  | .ct, env => .ok .ct env
  | .pass, env => .ok .nx env
  | .raise c none, env => .exc ⟨c, none⟩ env
  | .raise c (some e), env => bndP env (evP G e env) fun x => .exc ⟨c, some x⟩ env
  | .try_ b hs, env => match exPs b env with
    | .exc x e => hdsP hs x e
    | r => r
def exPs : Sms → Env → RP
  | .nil, env => .ok .nx env
  | .cons s r, env => thP (exP s env) fun e => exPs r e
def hdsP : List (Nat × Hd) → Exn → Env → RP
  | [], x, env => .exc x env
  | (c, h) :: r, x, env => match G.isa x.cls c with
    | some true => hdP h x env
    | some false => hdsP r x env
    | none => .bad
def hdP : Hd → Exn → Env → RP
  | .ret e, _, env => bndP env (evP G e env) fun d => .ok (.ret d) env
  | .line, x, env => match x.arg with
    | some d => .ok (.ret d) env
    | none => .bad
  | .raise c e, _, env => bndP env (evP G e env) fun d => .exc ⟨c, some d⟩ env
end
def runP (f : Fn) (ds : List D) : R D :=
  if ds.length = f.np then
    match exPs G f.body (ds.map .val ++ List.replicate (f.nn - f.np) .un) with
    | .ok .nx _ => .ok .non
    | .ok (.ret d) _ => .ok d
    | .exc x _ => .exc x
    | _ => .bad
  else .bad
end
def gp (P : Prg) (call : Nat → List D → R D) : Gp := ⟨call, fun k => P.glos[k]?, fun a b => P.isas.lookup (a, b)⟩
def callP (P : Prg) : Nat → Nat → List D → R D
  | 0, _, _ => .bad
  | n + 1, k, ds => match P.fns[k]? with
    | some f => runP (gp P (callP P n)) f ds
    | none => .bad

/-! ### the pure one tells the truth -/
/-- the same, but what is not known on the left -/
structure EnvLe (e0 e : Env) : Prop where
  len : e0.length = e.length
  at' : ∀ (i : Nat) s, e0[i]? = some s → s = .un ∨ e[i]? = some s
theorem EnvLe.refl {e : Env} : EnvLe e e := ⟨rfl, fun _ _ h => .inr h⟩
theorem EnvLe.set {e0 e : Env} (h : EnvLe e0 e) (i : Nat) (s : Slot) : EnvLe (e0.set i s) (e.set i s) := by
  refine ⟨by rw [List.length_set, List.length_set, h.len], fun j t q => ?_⟩
  rw [List.getElem?_set] at q ⊢
  by_cases hij : i = j
  · rw [if_pos hij] at q ⊢
    rw [h.len] at q
    exact .inr q
  · rw [if_neg hij] at q ⊢
    exact h.at' j t q
theorem EnvLe.val {e0 e : Env} (h : EnvLe e0 e) {i : Nat} {d : D} (q : e0[i]? = some (.val d)) : e[i]? = some (.val d) := (h.at' i _ q).elim (fun z => by cases z) id
theorem EnvLe.getO {e0 e : Env} (h : EnvLe e0 e) {i : Nat} {o : MO} (q : getO e0 i = some o) : getO e i = some o := by
  unfold J.getO at q ⊢
  split at q
  · rename_i o' hq
    cases q
    rw [(h.at' i _ hq).elim (fun z => by cases z) id]
  · cases q
theorem EnvLe.wipe {e0 e : Env} (h : EnvLe e0 e) : ∀ vs : List Nat, EnvLe (wipeE e0 vs) (wipeE e vs)
  | [] => h
  | v :: vs => (EnvLe.wipe h vs).set v .un
mutual
theorem asgT_le : ∀ (t : Tg) (d : D) {e0 e e1 : Env}, EnvLe e0 e → asgT t d e0 = some e1 → ∃ e2, asgT t d e = some e2 ∧ EnvLe e1 e2
  | .name i, d, e0, e, e1, h, q => by
    simp only [asgT] at q ⊢
    by_cases hl : i < e0.length
    · rw [if_pos hl] at q
      cases q
      rw [if_pos (by rw [← h.len]; exact hl)]
      exact ⟨_, rfl, h.set _ _⟩
    · rw [if_neg hl] at q; cases q
  | .tup ts, d, e0, e, e1, h, q => by
    cases d with
    | tup ds => simp only [asgT] at q ⊢; exact asgTs_le ts ds h q
    | _ => simp only [asgT] at q; cases q
theorem asgTs_le : ∀ (ts : List Tg) (ds : List D) {e0 e e1 : Env}, EnvLe e0 e → asgTs ts ds e0 = some e1 → ∃ e2, asgTs ts ds e = some e2 ∧ EnvLe e1 e2
  | [], [], e0, e, e1, h, q => by
    simp only [asgTs] at q ⊢
    cases q
    exact ⟨_, rfl, h⟩
  | [], _ :: _, e0, e, e1, h, q => by simp [asgTs] at q
  | _ :: _, [], e0, e, e1, h, q => by simp [asgTs] at q
  | t :: ts, d :: ds, e0, e, e1, h, q => by
    simp only [asgTs] at q ⊢
    cases z : asgT t d e0 with
    | none => rw [z] at q; cases q
    | some e' =>
      rw [z] at q
      obtain ⟨e2, z2, h2⟩ := asgT_le t d h z
      rw [z2]
      exact asgTs_le ts ds h2 q
end
def Le {α : Type} (r : R α) (x : Store → Res α) : Prop := match r with
  | .ok a => ∀ st, x st = .ok a st
  | .exc e => ∀ st, x st = .exc e st
  | .bad => True
def LeS (r : RP) (x : Store → RS) : Prop := match r with
  | .ok f e0 => ∃ e, EnvLe e0 e ∧ ∀ st, x st = .ok f e st
  | .exc y e0 => ∃ e, EnvLe e0 e ∧ ∀ st, x st = .exc y e st
  | .bad => True
section
variable {α β : Type}
theorem le_bad {x : Store → Res α} : Le .bad x := trivial
theorem le_ok {a : α} : Le (.ok a) (fun st => .ok a st) := fun _ => rfl
theorem le_bnd {r : R α} {x : Store → Res α} {f : α → R β} {g : α → Store → Res β} (h : Le r x) (k : ∀ a, Le (f a) (g a)) : Le (r.bind f) (fun st => bnd (x st) g) := by
  cases r with
  | bad => trivial
  | exc e => exact fun st => by show bnd (x st) g = _; rw [h st]; rfl
  | ok a =>
    have k := k a
    show Le (f a) _
    have e : ∀ st, x st = .ok a st := h
    cases q : f a with
    | bad => trivial
    | exc e' => rw [q] at k; exact fun st => by show bnd (x st) g = _; rw [e st]; exact k st
    | ok b => rw [q] at k; exact fun st => by show bnd (x st) g = _; rw [e st]; exact k st
theorem le_ofO {o : Option α} : Le (ofP o) (fun st => ofO o st) := by
  cases o with
  | none => trivial
  | some a => exact fun _ => rfl
theorem le_if {b : Bool} {r : R α} {x : Store → Res α} (h : b = true → Le r x) : Le (if b then r else .bad) x := by
  cases b with
  | true => exact h rfl
  | false => trivial
theorem le_cond {b : Bool} {r r' : R α} {x x' : Store → Res α} (h : Le r x) (h' : Le r' x') : Le (if b then r else r') (fun st => if b then x st else x' st) := by
  cases b with
  | true => exact h
  | false => exact h'
theorem le_if0 {b : Prop} [Decidable b] {r : R α} {x : Store → Res α} (h : Le r x) : Le (if b then r else .bad) (fun st => if b then x st else .bad) := by
  by_cases q : b
  · simp only [if_pos q]; exact h
  · simp only [if_neg q]; trivial
theorem les_eq {r : RP} {x y : Store → RS} (h : LeS r x) (e : ∀ st, y st = x st) : LeS r y := (funext e : y = x) ▸ h
theorem le_eq {r : R α} {x y : Store → Res α} (h : Le r x) (e : ∀ st, y st = x st) : Le r y := (funext e : y = x) ▸ h
theorem les_bnd {e0 env : Env} {r : R α} {x : Store → Res α} {f : α → RP} {g : α → Store → RS} (he : EnvLe e0 env) (h : Le r x) (k : ∀ a, LeS (f a) (g a)) : LeS (bndP e0 r f) (fun st => bndS env (x st) g) := by
  cases r with
  | bad => trivial
  | exc e => exact ⟨env, he, fun st => by show bndS env (x st) g = _; rw [h st]; rfl⟩
  | ok a => exact les_eq (k a) fun st => by show bndS env (x st) g = _; rw [(show x st = _ from h st)]; rfl
theorem les_cond {b : Bool} {r r' : RP} {x x' : Store → RS} (h : LeS r x) (h' : LeS r' x') : LeS (if b then r else r') (fun st => if b then x st else x' st) := by
  cases b with
  | true => exact h
  | false => exact h'
theorem les_if {b : Bool} {r : RP} {x : Store → RS} (h : b = true → LeS r x) : LeS (if b then r else .bad) x := by
  cases b with
  | true => exact h rfl
  | false => trivial
theorem les_if0 {b : Prop} [Decidable b] {r : RP} {x : Store → RS} (h : LeS r x) : LeS (if b then r else .bad) (fun st => if b then x st else .bad) := by
  by_cases q : b
  · simp only [if_pos q]; exact h
  · simp only [if_neg q]; trivial
theorem les_if1 {b b' : Prop} [Decidable b] [Decidable b'] (hb : b ↔ b') {r : RP} {x : Store → RS} (h : LeS r x) : LeS (if b then r else .bad) (fun st => if b' then x st else .bad) := by
  by_cases q : b
  · simp only [if_pos q, if_pos (hb.mp q)]; exact h
  · simp only [if_neg q]; trivial
end
theorem snap_nr {st : Store} : ∀ {d : D}, nr d = true → snap st d = d
  | .ref _, h => by cases h
  | .non, _ => rfl
  | .bl _, _ => rfl
  | .int _, _ => rfl
  | .str _, _ => rfl
  | .tup _, _ => rfl
  | .lst _, _ => rfl
  | .dic _, _ => rfl
  | .set _, _ => rfl
  | .kls _, _ => rfl
theorem snaps_nr {st : Store} : ∀ {ds : List D}, nrs ds = true → ds.map (snap st) = ds
  | [], _ => rfl
  | d :: ds, h => by
    simp only [nrs, List.all_cons, Bool.and_eq_true] at h
    rw [List.map_cons, snap_nr h.1, snaps_nr h.2]
theorem le_lc {f : D → R (Option D)} {g : D → Store → Res (Option D)} (h : ∀ x, Le (f x) (g x)) : ∀ (xs acc : List D), Le (lcP f acc xs) (lcL g acc xs)
  | [], acc => fun _ => rfl
  | x :: r, acc => by
    have h0 := h x
    simp only [lcP]
    cases q : f x with
    | bad => trivial
    | exc e => trivial
    | ok o =>
      rw [q] at h0
      have h0 : ∀ st, g x st = .ok o st := h0
      cases o with
      | none => exact le_eq (le_lc h r acc) fun st => by simp only [lcL, h0 st]
      | some y =>
        dsimp only
        by_cases hl : acc.length < SZ
        · simp only [if_pos hl]
          exact le_eq (le_lc h r (acc ++ [y])) fun st => by simp only [lcL, h0 st, if_pos hl]
        · simp only [if_neg hl]; trivial
theorem le_lc2 {f : D → List D → R (List D)} {g : D → List D → Store → Res (List D)} (h : ∀ x a, Le (f x a) (g x a)) : ∀ (xs acc : List D), Le (lcP2 f acc xs) (lcL2 g acc xs)
  | [], acc => fun _ => rfl
  | x :: r, acc => by
    have h0 := h x acc
    simp only [lcP2]
    cases q : f x acc with
    | bad => trivial
    | exc e => trivial
    | ok a =>
      rw [q] at h0
      have h0 : ∀ st, g x acc st = .ok a st := h0
      exact le_eq (le_lc2 h r a) fun st => by simp only [lcL2, h0 st]
theorem les_for {t : Tg} {f : Env → RP} {g : Env → Store → RS} (h : ∀ e0 e, EnvLe e0 e → LeS (f e0) (g e)) : ∀ (xs : List D) (e0 env : Env), EnvLe e0 env → LeS (forP t f xs e0) (forL t g xs env)
  | [], e0, env, he => ⟨env, he, fun _ => rfl⟩
  | x :: r, e0, env, he => by
    simp only [forP]
    cases qa : asgT t x e0 with
    | none => trivial
    | some e1 =>
      obtain ⟨e1', qa', h1⟩ := asgT_le t x he qa
      have h0 := h e1 e1' h1
      dsimp only
      cases q : f e1 with
      | bad => trivial
      | exc y e2 =>
        rw [q] at h0
        obtain ⟨e2', h2, h0⟩ := h0
        exact ⟨e2', h2, fun st => by simp only [forL, qa', h0 st]⟩
      | ok fl e2 =>
        rw [q] at h0
        obtain ⟨e2', h2, h0⟩ := h0
        cases fl with
        | brk => exact ⟨e2', h2, fun st => by simp only [forL, qa', h0 st]⟩
        | ret d => exact ⟨e2', h2, fun st => by simp only [forL, qa', h0 st]⟩
        | nx => exact les_eq (les_for h r e2 e2' h2) fun st => by simp only [forL, qa', h0 st]
        | ct => exact les_eq (les_for h r e2 e2' h2) fun st => by simp only [forL, qa', h0 st]
theorem les_wh {t : Env → R Bool} {t' : Env → Store → Res Bool} {f : Env → RP} {g : Env → Store → RS} (ht : ∀ e0 e, EnvLe e0 e → Le (t e0) (t' e)) (h : ∀ e0 e, EnvLe e0 e → LeS (f e0) (g e)) : ∀ (n : Nat) (e0 env : Env), EnvLe e0 env → LeS (whP t f n e0) (whl t' g n env)
  | 0, e0, env, he => trivial
  | n + 1, e0, env, he => by
    have t0 := ht e0 env he
    simp only [whP]
    cases qt : t e0 with
    | bad => trivial
    | exc y => rw [qt] at t0; exact ⟨env, he, fun st => by simp only [whl, (show t' env st = _ from t0 st)]⟩
    | ok b =>
      rw [qt] at t0
      have t0 : ∀ st, t' env st = .ok b st := t0
      cases b with
      | false => exact ⟨env, he, fun st => by simp only [whl, t0 st]⟩
      | true =>
        have h0 := h e0 env he
        dsimp only
        cases q : f e0 with
        | bad => trivial
        | exc y e2 =>
          rw [q] at h0
          obtain ⟨e2', h2, h0⟩ := h0
          exact ⟨e2', h2, fun st => by simp only [whl, t0 st, h0 st]⟩
        | ok fl e2 =>
          rw [q] at h0
          obtain ⟨e2', h2, h0⟩ := h0
          cases fl with
          | brk => exact ⟨e2', h2, fun st => by simp only [whl, t0 st, h0 st]⟩
          | ret d => exact ⟨e2', h2, fun st => by simp only [whl, t0 st, h0 st]⟩
          | nx => exact les_eq (les_wh ht h n e2 e2' h2) fun st => by simp only [whl, t0 st, h0 st]
          | ct => exact les_eq (les_wh ht h n e2 e2' h2) fun st => by simp only [whl, t0 st, h0 st]
structure GLe (G : Gp) (G' : Gx) : Prop where
  call : ∀ k ds, Le (G.call k ds) (G'.call k ds)
  glo : ∀ k d, G.glo k = some d → G'.glo k = some d
  isa : ∀ a b r, G.isa a b = some r → G'.isa a b = some r
section
variable {G : Gp} {G' : Gx}
mutual
theorem le_ev (hG : GLe G G') : ∀ (e : Ex) {e0 env : Env}, EnvLe e0 env → Le (evP G e e0) (ev G' e env)
  | .int i, e0, env, he => fun _ => rfl
  | .str x, e0, env, he => fun _ => rfl
  | .bl b, e0, env, he => fun _ => rfl
  | .non, e0, env, he => fun _ => rfl
  | .var i, e0, env, he => by
    simp only [evP]
    cases q : e0[i]? with
    | none => trivial
    | some s =>
      cases s with
      | val d => exact fun st => by simp only [ev, he.val q]
      | _ => trivial
  | .bor i, e0, env, he => by
    simp only [evP]
    cases q : getO e0 i with
    | none => trivial
    | some o => exact fun st => by simp only [ev, he.getO q]
  | .glo k, e0, env, he => by
    simp only [evP]
    cases q : G.glo k with
    | none => trivial
    | some d => exact fun st => by simp only [ev, hG.glo _ _ q]; rfl
  | .tup es, e0, env, he => le_bnd (le_evs hG es he) fun ds => le_if0 le_ok
  | .lst es, e0, env, he => le_bnd (le_evs hG es he) fun ds => le_if0 le_ok
  | .bin o a b, e0, env, he => le_bnd (le_ev hG a he) fun x => le_bnd (le_ev hG b he) fun y => le_if fun h => by
    rw [Bool.and_eq_true] at h
    simp only [snap_nr h.1, snap_nr h.2]
    exact le_ofO
  | .cmp o a b, e0, env, he => le_bnd (le_ev hG a he) fun x => le_bnd (le_ev hG b he) fun y => le_if fun h => by
    rw [Bool.and_eq_true] at h
    simp only [snap_nr h.1, snap_nr h.2]
    exact le_ofO
  | .chain o p a b c, e0, env, he => le_bnd (le_ev hG a he) fun x => le_bnd (le_ev hG b he) fun y => le_if fun h => by
    rw [Bool.and_eq_true] at h
    simp only [snap_nr h.1, snap_nr h.2]
    cases q : cmpD o x y with
    | none => trivial
    | some r =>
      cases r with
      | false => exact fun _ => rfl
      | true =>
        exact le_bnd (le_ev hG c he) fun z => le_if fun h3 => by
          simp only [snap_nr h3, snap_nr h.2]
          exact le_ofO
  | .neg a, e0, env, he => le_bnd (le_ev hG a he) fun x => by
    cases x <;> first | exact fun _ => rfl | trivial
  | .ands es, e0, env, he => le_and hG es he
  | .ors es, e0, env, he => le_or hG es he
  | .not a, e0, env, he => le_bnd (le_ev hG a he) fun x => by
    cases x <;> first | exact fun _ => rfl | trivial
  | .ite t a b, e0, env, he => le_bnd (le_tst hG t he) fun c => le_cond (le_ev hG a he) (le_ev hG b he)
  | .ix a i, e0, env, he => le_bnd (le_ev hG a he) fun x => le_bnd (le_ev hG i he) fun y => le_if fun h => by
    rw [Bool.and_eq_true] at h
    simp only [snap_nr h.1, snap_nr h.2]
    exact le_ofO
  | .slc a lo hi, e0, env, he => le_bnd (le_ev hG a he) fun x => le_bnd (le_evO hG lo he) fun l => le_bnd (le_evO hG hi he) fun h => le_if fun h => by
    simp only [snap_nr h]
    exact le_ofO
  | .fn k es, e0, env, he => le_bnd (le_evs hG es he) fun ds => hG.call k ds
  | .bt f es, e0, env, he => le_bnd (le_evs hG es he) fun ds => le_if fun h => by
    simp only [snaps_nr h]
    exact le_ofO
  | .bm m o es, e0, env, he => le_bnd (le_ev hG o he) fun x => le_bnd (le_evs hG es he) fun ds => le_if fun h => by
    rw [Bool.and_eq_true] at h
    simp only [snap_nr h.1, snaps_nr h.2]
    exact le_ofO
  | .me _ _ _, _, _, _ => trivial
  | .mk _ _, _, _, _ => trivial
  | .att _ _, _, _, _ => trivial
  | .lc e (.mk t i ifs own), e0, env, he => le_bnd (le_it hG i he) fun xs => le_bnd (le_lc (fun x => by
      cases qa : asgT t x (wipeE e0 own) with
      | none => trivial
      | some e1 =>
        obtain ⟨e1', qa', h1⟩ := asgT_le t x (he.wipe own) qa
        simp only [qa']
        exact le_bnd (le_tst hG ifs h1) fun b => le_cond (le_bnd (le_ev hG e h1) fun y => le_ok) le_ok) xs []) fun ys => le_ok
  | .lc2 e (.mk t i ifs own) (.mk t2 i2 ifs2 own2), e0, env, he => le_bnd (le_it hG i he) fun xs => le_bnd (le_lc2 (fun x acc => by
      cases qa : asgT t x (wipeE e0 own) with
      | none => trivial
      | some e1 =>
        obtain ⟨e1', qa', h1⟩ := asgT_le t x (he.wipe own) qa
        simp only [qa']
        exact le_bnd (le_tst hG ifs h1) fun b => le_cond (le_bnd (le_it hG i2 h1) fun zs => le_lc (fun z => by
          cases qb : asgT t2 z (wipeE e1 own2) with
          | none => trivial
          | some e2 =>
            obtain ⟨e2', qb', h2⟩ := asgT_le t2 z (h1.wipe own2) qb
            simp only [qb']
            exact le_bnd (le_tst hG ifs2 h2) fun b2 => le_cond (le_bnd (le_ev hG e h2) fun y => le_ok) le_ok) zs acc) le_ok) xs []) fun ys => le_ok
  | .dc k v (.mk t i ifs own), e0, env, he => le_bnd (le_it hG i he) fun xs => le_bnd (le_lc (fun x => by
      cases qa : asgT t x (wipeE e0 own) with
      | none => trivial
      | some e1 =>
        obtain ⟨e1', qa', h1⟩ := asgT_le t x (he.wipe own) qa
        simp only [qa']
        exact le_bnd (le_tst hG ifs h1) fun b => le_cond (le_bnd (le_ev hG k h1) fun y => le_bnd (le_ev hG v h1) fun z => le_if0 le_ok) le_ok) xs []) fun ys => le_ofO
  | .dict es, e0, env, he => le_bnd (le_evs hG es he) fun ds => le_ofO
  | .fs es, e0, env, he => le_bnd (le_evs hG es he) fun ds => le_ofO
  | .itl f t, e0, env, he => le_bnd (le_it hG t he) fun xs => le_ofO
  | .new _, _, _, _ => trivial
  | .srt e, e0, env, he => le_bnd (le_ev hG e he) fun d => le_if fun h => by
    simp only [snap_nr h]
    exact le_ofO
  | .lset e, e0, env, he => le_bnd (le_ev hG e he) fun d => le_if fun h => by
    simp only [snap_nr h]
    exact le_ofO
theorem le_evs (hG : GLe G G') : ∀ (es : Exs) {e0 env : Env}, EnvLe e0 env → Le (evPs G es e0) (evs G' es env)
  | .nil, e0, env, he => fun _ => rfl
  | .cons e r, e0, env, he => le_bnd (le_ev hG e he) fun x => le_bnd (le_evs hG r he) fun xs => le_ok
theorem le_evO (hG : GLe G G') : ∀ (o : Option Ex) {e0 env : Env}, EnvLe e0 env → Le (evPO G o e0) (evO G' o env)
  | none, e0, env, he => fun _ => rfl
  | some e, e0, env, he => le_bnd (le_ev hG e he) fun x => by
    cases x <;> first | exact fun _ => rfl | trivial
theorem le_and (hG : GLe G G') : ∀ (es : Exs) {e0 env : Env}, EnvLe e0 env → Le (evPAnd G es e0) (evAnd G' es env)
  | .nil, e0, env, he => trivial
  | .cons e .nil, e0, env, he => le_ev hG e he
  | .cons e (.cons e2 r), e0, env, he => le_bnd (le_ev hG e he) fun x => by
    cases x with
    | bl b => cases b with
      | true => exact le_and hG (.cons e2 r) he
      | false => exact fun _ => rfl
    | _ => trivial
theorem le_or (hG : GLe G G') : ∀ (es : Exs) {e0 env : Env}, EnvLe e0 env → Le (evPOr G es e0) (evOr G' es env)
  | .nil, e0, env, he => trivial
  | .cons e .nil, e0, env, he => le_ev hG e he
  | .cons e (.cons e2 r), e0, env, he => le_bnd (le_ev hG e he) fun x => by
    cases x with
    | bl b => cases b with
      | false => exact le_or hG (.cons e2 r) he
      | true => exact fun _ => rfl
    | _ => trivial
theorem le_tst (hG : GLe G G') : ∀ (t : Te) {e0 env : Env}, EnvLe e0 env → Le (tstP G t e0) (tst G' t env)
  | .yes, e0, env, he => fun _ => rfl
  | .ex e, e0, env, he => le_bnd (le_ev hG e he) fun x => le_if fun h => by
    simp only [snap_nr h]
    exact le_ofO
  | .ands ts, e0, env, he => le_tand hG ts he
  | .ors ts, e0, env, he => le_tor hG ts he
  | .not t, e0, env, he => le_bnd (le_tst hG t he) fun b => le_ok
theorem le_tand (hG : GLe G G') : ∀ (es : Tes) {e0 env : Env}, EnvLe e0 env → Le (tsPAnd G es e0) (tsAnd G' es env)
  | .nil, e0, env, he => trivial
  | .cons e .nil, e0, env, he => le_tst hG e he
  | .cons e (.cons e2 r), e0, env, he => le_bnd (le_tst hG e he) fun b => le_cond (le_tand hG (.cons e2 r) he) le_ok
theorem le_tor (hG : GLe G G') : ∀ (es : Tes) {e0 env : Env}, EnvLe e0 env → Le (tsPOr G es e0) (tsOr G' es env)
  | .nil, e0, env, he => trivial
  | .cons e .nil, e0, env, he => le_tst hG e he
  | .cons e (.cons e2 r), e0, env, he => le_bnd (le_tst hG e he) fun b => le_cond le_ok (le_tor hG (.cons e2 r) he)
theorem le_it (hG : GLe G G') : ∀ (i : It) {e0 env : Env}, EnvLe e0 env → Le (itP G i e0) (itD G' i env)
  | .ex e, e0, env, he => le_bnd (le_ev hG e he) fun x => le_ofO
  | .rng es, e0, env, he => le_bnd (le_evs hG es he) fun ds => le_ofO
  | .zip a b, e0, env, he => le_bnd (le_ev hG a he) fun x => le_bnd (le_ev hG b he) fun y => le_ofO
  | .enum e, e0, env, he => le_bnd (le_ev hG e he) fun x => le_ofO
  | .items e, e0, env, he => le_bnd (le_ev hG e he) fun x => by
    cases x <;> first | exact fun _ => rfl | trivial
  | .vals e, e0, env, he => le_bnd (le_ev hG e he) fun x => by
    cases x <;> first | exact fun _ => rfl | trivial
  | .rev e, e0, env, he => le_bnd (le_ev hG e he) fun x => by
    cases x <;> first | exact fun _ => rfl | trivial
end
theorem les_set {e0 env : Env} (he : EnvLe e0 env) {i : Nat} {o : Option MO} : LeS (setSP e0 i o) (setSt env i o) := by
  cases o with
  | none => trivial
  | some o => exact ⟨_, he.set _ _, fun _ => rfl⟩
theorem les_ok {f : Fl} {e0 env : Env} (he : EnvLe e0 env) : LeS (.ok f e0) (fun st => .ok f env st) := ⟨_, he, fun _ => rfl⟩
theorem les_cmp {o : Option Bool} {a b : RP} {x y : Store → RS} (ha : LeS a x) (hb : LeS b y) : LeS (match o with
    | some true => a
    | some false => b
    | none => .bad) (fun st => match o with
    | some true => x st
    | some false => y st
    | none => .bad) := by
  cases o with
  | none => trivial
  | some r => cases r <;> assumption
theorem les_hd (hG : GLe G G') (h : Hd) (x : Exn) {e0 env : Env} (he : EnvLe e0 env) : LeS (hdP G h x e0) (hand G' h x env) := by
  cases h with
  | ret e => exact les_bnd he (le_ev hG e he) fun _ => les_ok he
  | line =>
    simp only [hdP]
    cases q : x.arg with
    | none => trivial
    | some d => exact ⟨env, he, fun st => by simp only [hand, q]⟩
  | raise c e => exact les_bnd he (le_ev hG e he) fun d => ⟨env, he, fun _ => rfl⟩
theorem les_hds (hG : GLe G G') : ∀ (hs : List (Nat × Hd)) (x : Exn) {e0 env : Env}, EnvLe e0 env → LeS (hdsP G hs x e0) (hands G' hs x env)
  | [], x, e0, env, he => ⟨env, he, fun _ => rfl⟩
  | (c, h) :: r, x, e0, env, he => by
    simp only [hdsP]
    cases q : G.isa x.cls c with
    | none => trivial
    | some b =>
      have q := hG.isa _ _ _ q
      cases b with
      | true => exact les_eq (les_hd hG h x he) fun st => by simp only [hands, q]
      | false => exact les_eq (les_hds hG r x he) fun st => by simp only [hands, q]
theorem les_iff (hG : GLe G G') {t : Te} {a b : Sms} (ha : ∀ e0 e, EnvLe e0 e → LeS (exPs G a e0) (execs G' a e)) (hb : ∀ e0 e, EnvLe e0 e → LeS (exPs G b e0) (execs G' b e)) {e0 env : Env} (he : EnvLe e0 env) : LeS (exP G (.iff t a b) e0) (exec G' (.iff t a b) env) :=
  les_bnd he (le_tst hG t he) fun c => les_cond (ha _ _ he) (hb _ _ he)
theorem les_iffS (hG : GLe G G') {i : Nat} {k v c : Ex} {a b : Sms} (ha : ∀ e0 e, EnvLe e0 e → LeS (exPs G a e0) (execs G' a e)) (hb : ∀ e0 e, EnvLe e0 e → LeS (exPs G b e0) (execs G' b e)) {e0 env : Env} (he : EnvLe e0 env) : LeS (exP G (.iffS i k v c a b) e0) (exec G' (.iffS i k v c a b) env) :=
  les_bnd he (le_ev hG k he) fun x => les_bnd he (le_ev hG v he) fun y => by
    cases q : getO e0 i with
    | none => trivial
    | some o =>
      rw [he.getO q]
      cases o with
      | dic kvs =>
        refine les_if0 ?_
        cases dget x kvs with
        | some w =>
          exact les_bnd he (le_ev hG c he) fun z => les_if fun h => by
            rw [Bool.and_eq_true] at h
            simp only [snap_nr h.1, snap_nr h.2]
            exact les_cmp (ha _ _ he) (hb _ _ he)
        | none =>
          exact les_bnd (he.set _ _) (le_ev hG c (he.set _ _)) fun z => les_if fun h => by
            rw [Bool.and_eq_true] at h
            simp only [snap_nr h.1, snap_nr h.2]
            exact les_cmp (ha _ _ (he.set _ _)) (hb _ _ (he.set _ _))
      | _ => trivial
theorem les_for_ (hG : GLe G G') {t : Tg} {i : It} {b : Sms} (hb : ∀ e0 e, EnvLe e0 e → LeS (exPs G b e0) (execs G' b e)) {e0 env : Env} (he : EnvLe e0 env) : LeS (exP G (.for_ t i b) e0) (exec G' (.for_ t i b) env) :=
  les_bnd he (le_it hG i he) fun xs => les_for hb xs e0 env he
theorem les_forM (hG : GLe G G') {t : Tg} {i : Nat} {b : Sms} (hb : ∀ e0 e, EnvLe e0 e → LeS (exPs G b e0) (execs G' b e)) {e0 env : Env} (he : EnvLe e0 env) : LeS (exP G (.forM t i b) e0) (exec G' (.forM t i b) env) := by
    simp only [exP]
    cases q : getO e0 i with
    | none => trivial
    | some o =>
      dsimp only
      cases q2 : items? (frz o) with
      | none => trivial
      | some xs => exact les_eq (les_for (t := t) hb xs _ _ (he.set i (.val (frz o)))) fun st => by simp only [exec, he.getO q, q2]
theorem les_while_ (hG : GLe G G') {t : Te} {b : Sms} (hb : ∀ e0 e, EnvLe e0 e → LeS (exPs G b e0) (execs G' b e)) {e0 env : Env} (he : EnvLe e0 env) : LeS (exP G (.while_ t b) e0) (exec G' (.while_ t b) env) := by
    have h : ∀ n, LeS (whP (fun e => tstP G t e) (fun e => exPs G b e) n e0) (whl (fun e s => tst G' t e s) (fun e s => execs G' b e s) n env) := fun n => les_wh (fun e0 e he => le_tst hG t he) hb n e0 env he
    have e1 : exP G (.while_ t b) e0 = whP (fun e => tstP G t e) (fun e => exPs G b e) loopMax e0 := by rw [exP]
    have e2 : exec G' (.while_ t b) env = whl (fun e s => tst G' t e s) (fun e s => execs G' b e s) loopMax env := by
      funext st
      rw [exec]
    rw [e1, e2]
    exact h loopMax
theorem les_try_ (hG : GLe G G') {b : Sms} {hs : List (Nat × Hd)} (hb : ∀ e0 e, EnvLe e0 e → LeS (exPs G b e0) (execs G' b e)) {e0 env : Env} (he : EnvLe e0 env) : LeS (exP G (.try_ b hs) e0) (exec G' (.try_ b hs) env) := by
    have h := hb _ _ he
    simp only [exP]
    cases q : exPs G b e0 with
    | bad => trivial
    | ok f e =>
      rw [q] at h
      obtain ⟨e2, h2, h⟩ := h
      exact ⟨e2, h2, fun st => by simp only [exec, h st]⟩
    | exc x e =>
      rw [q] at h
      obtain ⟨e2, h2, h⟩ := h
      exact les_eq (les_hds hG hs x h2) fun st => by simp only [exec, h st]
theorem les_asg (hG : GLe G G') (t : Tg) (e : Ex) {e0 env : Env} (he : EnvLe e0 env) : LeS (exP G (.asg t e) e0) (exec G' (.asg t e) env) := les_bnd he (le_ev hG e he) fun x => by
    cases q : asgT t x e0 with
    | none => trivial
    | some e1 =>
      obtain ⟨e2, q2, h2⟩ := asgT_le t x he q
      rw [q2]
      exact les_ok h2
theorem les_asgO (hG : GLe G G') (i : Nat) (e : Ex) {e0 env : Env} (he : EnvLe e0 env) : LeS (exP G (.asgO i e) e0) (exec G' (.asgO i e) env) := les_bnd he (le_ev hG e he) fun x => les_if1 (by rw [he.len]) (by
    cases x <;> first | exact les_ok (he.set _ _) | trivial)
theorem les_asgM (hG : GLe G G') (j i : Nat) {e0 env : Env} (he : EnvLe e0 env) : LeS (exP G (.asgM j i) e0) (exec G' (.asgM j i) env) := by
    simp only [exP]
    cases q : getO e0 i with
    | none => trivial
    | some o =>
      by_cases h : j < e0.length
      · simp only [if_pos h]; exact ⟨_, (he.set _ _).set _ _, fun st => by simp only [exec, he.getO q, if_pos (he.len ▸ h)]⟩
      · simp only [if_neg h]; trivial
theorem les_par (hG : GLe G G') (i j : Nat) (a b : Ex) {e0 env : Env} (he : EnvLe e0 env) : LeS (exP G (.par i j a b) e0) (exec G' (.par i j a b) env) :=
  les_bnd he (le_ev hG a he) fun x => les_bnd he (le_ev hG b he) fun y => les_if1 (by rw [he.len]) (les_ok ((he.set _ _).set _ _))
theorem les_aug (hG : GLe G G') (i : Nat) (o : Bop) (e : Ex) {e0 env : Env} (he : EnvLe e0 env) : LeS (exP G (.aug i o e) e0) (exec G' (.aug i o e) env) := by
    simp only [exP]
    cases q : e0[i]? with
    | none => trivial
    | some s =>
      cases s with
      | val x =>
        refine les_eq (les_bnd (env := env) (f := fun y => match augD o x y with
          | some z => .ok .nx (e0.set i (.val z))
          | none => .bad) (g := fun y s => match augD o x y with
          | some z => .ok .nx (env.set i (.val z)) s
          | none => .bad) he (le_ev hG e he) fun y => by
            cases augD o x y with
            | none => trivial
            | some z => exact les_ok (he.set _ _)) fun st => by simp only [exec, he.val q] <;> rfl
      | _ => trivial
theorem les_setO (hG : GLe G G') (i : Nat) (k e : Ex) {e0 env : Env} (he : EnvLe e0 env) : LeS (exP G (.setO i k e) e0) (exec G' (.setO i k e) env) := les_bnd he (le_ev hG e he) fun y => les_bnd he (le_ev hG k he) fun z => by
    cases q : getO e0 i with
    | none => trivial
    | some o => rw [he.getO q]; exact les_set he
theorem les_delO (hG : GLe G G') (i : Nat) (k : Ex) {e0 env : Env} (he : EnvLe e0 env) : LeS (exP G (.delO i k) e0) (exec G' (.delO i k) env) := les_bnd he (le_ev hG k he) fun z => by
    cases q : getO e0 i with
    | none => trivial
    | some o =>
      rw [he.getO q]
      cases o with
      | dic kvs => exact les_if0 (les_ok (he.set _ _))
      | _ => trivial
theorem les_app (hG : GLe G G') (i : Nat) (e : Ex) {e0 env : Env} (he : EnvLe e0 env) : LeS (exP G (.app i e) e0) (exec G' (.app i e) env) := les_bnd he (le_ev hG e he) fun y => by
    cases q : getO e0 i with
    | none => trivial
    | some o => rw [he.getO q]; exact les_set he
theorem les_ext (hG : GLe G G') (i : Nat) (e : Ex) {e0 env : Env} (he : EnvLe e0 env) : LeS (exP G (.ext i e) e0) (exec G' (.ext i e) env) := les_bnd he (le_ev hG e he) fun y => by
    cases q : getO e0 i with
    | none => trivial
    | some o =>
      rw [he.getO q]
      cases o with
      | lst xs =>
        cases y <;> first
          | trivial
          | exact les_if0 (les_ok (he.set _ _))
      | _ => cases y <;> trivial
theorem les_upd (hG : GLe G G') (i : Nat) (e : Ex) {e0 env : Env} (he : EnvLe e0 env) : LeS (exP G (.upd i e) e0) (exec G' (.upd i e) env) := les_bnd he (le_ev hG e he) fun y => by
    cases q : getO e0 i with
    | none => trivial
    | some o =>
      rw [he.getO q]
      cases o with
      | dic xs =>
        cases y <;> first
          | trivial
          | exact les_if0 (les_ok (he.set _ _))
      | _ => cases y <;> trivial
theorem les_pop (hG : GLe G G') (j i : Nat) {e0 env : Env} (he : EnvLe e0 env) : LeS (exP G (.pop j i) e0) (exec G' (.pop j i) env) := by
    simp only [exP]
    cases q : getO e0 i with
    | none => trivial
    | some o =>
      cases o with
      | lst xs =>
        dsimp only
        cases q2 : xs.getLast? with
        | none => trivial
        | some y =>
          by_cases h : j < e0.length
          · simp only [if_pos h]; exact ⟨_, (he.set _ _).set _ _, fun st => by simp only [exec, he.getO q, q2, if_pos (he.len ▸ h)]⟩
          · simp only [if_neg h]; trivial
      | _ => trivial
theorem les_retM (hG : GLe G G') (i : Nat) {e0 env : Env} (he : EnvLe e0 env) : LeS (exP G (.retM i) e0) (exec G' (.retM i) env) := by
    simp only [exP]
    cases q : getO e0 i with
    | none => trivial
    | some o => exact ⟨_, he.set _ _, fun st => by simp only [exec, he.getO q]⟩
theorem les_cons {s : Sm} {r : Sms} {e0 env : Env} (h : LeS (exP G s e0) (exec G' s env)) (k : ∀ e0 e, EnvLe e0 e → LeS (exPs G r e0) (execs G' r e)) : LeS (exPs G (.cons s r) e0) (execs G' (.cons s r) env) := by
    simp only [exPs]
    cases q : exP G s e0 with
    | bad => trivial
    | exc x e =>
      rw [q] at h
      obtain ⟨e2, h2, h⟩ := h
      exact ⟨e2, h2, fun st => by simp only [execs, h st]; rfl⟩
    | ok f e =>
      rw [q] at h
      obtain ⟨e2, h2, h⟩ := h
      cases f with
      | nx => exact les_eq (k e e2 h2) fun st => by simp only [execs, h st]; rfl
      | _ => exact ⟨e2, h2, fun st => by simp only [execs, h st]; rfl⟩
mutual
theorem les_ex (hG : GLe G G') : ∀ (s : Sm) {e0 env : Env}, EnvLe e0 env → LeS (exP G s e0) (exec G' s env)
  | .asg t e, e0, env, he => les_asg hG t e he
  | .asgO i e, e0, env, he => les_asgO hG i e he
  | .asgM j i, e0, env, he => les_asgM hG j i he
  | .par i j a b, e0, env, he => les_par hG i j a b he
  | .aug i o e, e0, env, he => les_aug hG i o e he
  | .setO i k e, e0, env, he => les_setO hG i k e he
  | .setR _ _ _, _, _, _ => trivial
  | .delO i k, e0, env, he => les_delO hG i k he
  | .app i e, e0, env, he => les_app hG i e he
  | .ext i e, e0, env, he => les_ext hG i e he
  | .upd i e, e0, env, he => les_upd hG i e he
  | .pop j i, e0, env, he => les_pop hG j i he
  | .appR _ _, _, _, _ => trivial
  | .setA _ _ _, _, _, _ => trivial
  | .augA _ _ _ _, _, _, _ => trivial
  | .expr e, e0, env, he => les_bnd he (le_ev hG e he) fun _ => les_ok he
  | .ret e, e0, env, he => les_bnd he (le_ev hG e he) fun _ => les_ok he
  | .retM i, e0, env, he => les_retM hG i he
  | .retN, e0, env, he => les_ok he
  | .iff t a b, e0, env, he => les_iff hG (fun e0 e he => les_exs hG a he) (fun e0 e he => les_exs hG b he) he
  | .iffS i k v c a b, e0, env, he => les_iffS hG (fun e0 e he => les_exs hG a he) (fun e0 e he => les_exs hG b he) he
  | .for_ t i b, e0, env, he => les_for_ hG (fun e0 e he => les_exs hG b he) he
  | .forM t i b, e0, env, he => les_forM hG (fun e0 e he => les_exs hG b he) he
  | .while_ t b, e0, env, he => les_while_ hG (fun e0 e he => les_exs hG b he) he
  | .brk, e0, env, he => les_ok he
  | .ct, e0, env, he => les_ok he
  | .pass, e0, env, he => les_ok he
  | .raise c none, e0, env, he => ⟨env, he, fun _ => rfl⟩
  | .raise c (some e), e0, env, he => les_bnd he (le_ev hG e he) fun x => ⟨env, he, fun _ => rfl⟩
  | .try_ b hs, e0, env, he => les_try_ hG (fun e0 e he => les_exs hG b he) he
theorem les_exs (hG : GLe G G') : ∀ (s : Sms) {e0 env : Env}, EnvLe e0 env → LeS (exPs G s e0) (execs G' s env)
  | .nil, e0, env, he => les_ok he
  | .cons s r, e0, env, he => les_cons (les_ex hG s he) fun e0 e he => les_exs hG r he
end
theorem le_run (hG : GLe G G') (f : Fn) (ds : List D) : Le (runP G f ds) (runF G' f ds) := by
  unfold runP
  by_cases h : ds.length = f.np
  · simp only [if_pos h]
    have k := les_exs hG f.body (e0 := ds.map .val ++ List.replicate (f.nn - f.np) .un) EnvLe.refl
    cases q : exPs G f.body (ds.map .val ++ List.replicate (f.nn - f.np) .un) with
    | bad => trivial
    | exc x e =>
      rw [q] at k
      obtain ⟨e2, h2, k⟩ := k
      exact fun st => by simp only [runF, if_pos h, k st]
    | ok fl e =>
      rw [q] at k
      obtain ⟨e2, h2, k⟩ := k
      cases fl with
      | nx => exact fun st => by simp only [runF, if_pos h, k st]
      | ret d => exact fun st => by simp only [runF, if_pos h, k st]
      | _ => trivial
  · simp only [if_neg h]; trivial
end
theorem le_call (P : Prg) : ∀ (n k : Nat) (ds : List D), Le (callP P n k ds) (callF P n k ds)
  | 0, _, _ => trivial
  | n + 1, k, ds => by
    simp only [callP]
    cases q : P.fns[k]? with
    | none => trivial
    | some f =>
      have e : callF P (n + 1) k ds = runF (gx P (callF P n)) f ds := funext fun st => by simp only [callF, q]
      rw [e]
      exact le_run ⟨fun k ds => le_call P n k ds, fun _ _ h => h, fun _ _ _ h => h⟩ f ds
theorem gle (P : Prg) (n : Nat) : GLe (gp P (callP P n)) (gx P (callF P n)) := ⟨fun k ds => le_call P n k ds, fun _ _ h => h, fun _ _ _ h => h⟩
theorem callF_ok {P : Prg} {n k : Nat} {ds : List D} {v : D} (h : callP P n k ds = .ok v) (st : Store) : callF P n k ds st = .ok v st := by
  have := le_call P n k ds
  rw [h] at this
  exact this st
theorem callF_exc {P : Prg} {n k : Nat} {ds : List D} {x : Exn} (h : callP P n k ds = .exc x) (st : Store) : callF P n k ds st = .exc x st := by
  have := le_call P n k ds
  rw [h] at this
  exact this st
theorem ev_pure {P : Prg} {n : Nat} {e : Ex} {e0 env : Env} {v : D} (h : evP (gp P (callP P n)) e e0 = .ok v) (he : EnvLe e0 env) (st : Store) : ev (gx P (callF P n)) e env st = .ok v st := by
  have := le_ev (gle P n) e he
  rw [h] at this
  exact this st
/-- the rest of a body that touches nothing but what is known -/
theorem execs_pure {P : Prg} {n : Nat} {ss : Sms} {e0 env : Env} {v : D} {e1 : Env} (h : exPs (gp P (callP P n)) ss e0 = .ok (.ret v) e1) (he : EnvLe e0 env) (st : Store) : ∃ e2, execs (gx P (callF P n)) ss env st = .ok (.ret v) e2 st := by
  have := les_exs (gle P n) ss he
  rw [h] at this
  obtain ⟨e2, _, k⟩ := this
  exact ⟨e2, k st⟩
end J

/-! JSat: what holds behind a run -/
namespace J
open PySem L2

def Sat0 {α : Type} (x : Res α) (Q : α → Store → Prop) (E : Exn → Store → Prop) : Prop := match x with
  | .ok a s => Q a s
  | .exc e s => E e s
  | .bad => False
def SatS0 (x : RS) (Q : Fl → Env → Store → Prop) (E : Exn → Env → Store → Prop) : Prop := match x with
  | .ok f e s => Q f e s
  | .exc y e s => E y e s
  | .bad => False
structure Sat {α : Type} (x : Res α) (Q : α → Store → Prop) (E : Exn → Store → Prop) (_t : Tk Q := .mk) (_u : Tk E := .mk) : Prop where
  run : Sat0 x Q E
structure SatS (x : RS) (Q : Fl → Env → Store → Prop) (E : Exn → Env → Store → Prop) (_t : Tk Q := .mk) (_u : Tk E := .mk) : Prop where
  run : SatS0 x Q E
/-- nothing is raised -/
def noE : Exn → Store → Prop := fun _ _ => False
def noES : Exn → Env → Store → Prop := fun _ _ _ => False
section
variable {α β : Type} {x y : Res α} {Q Q' : α → Store → Prop} {E E' : Exn → Store → Prop} {a : α} {s st : Store} {env : Env} {QS : Fl → Env → Store → Prop} {ES : Exn → Env → Store → Prop} {r r' : RS}
theorem sat_ok : Sat (.ok a s) Q E = Q a s := propext ⟨fun h => h.run, fun h => ⟨h⟩⟩
theorem sat_exc {e : Exn} : Sat (.exc e s : Res α) Q E = E e s := propext ⟨fun h => h.run, fun h => ⟨h⟩⟩
theorem satS_ok {f : Fl} : SatS (.ok f env s) QS ES = QS f env s := propext ⟨fun h => h.run, fun h => ⟨h⟩⟩
theorem satS_exc {e : Exn} : SatS (.exc e env s) QS ES = ES e env s := propext ⟨fun h => h.run, fun h => ⟨h⟩⟩
theorem sat_bad : Sat (.bad : Res α) Q E = False := propext ⟨fun h => h.run, fun h => ⟨h⟩⟩
theorem satS_bad : SatS .bad QS ES = False := propext ⟨fun h => h.run, fun h => ⟨h⟩⟩
theorem sat_bnd {f : β → Store → Res α} {z : Res β} : Sat (bnd z f) Q E = Sat z (fun a s => Sat (f a s) Q E) E := by
  cases z with
  | ok a s => rw [sat_ok]; rfl
  | exc e s => rw [sat_exc]; exact sat_exc
  | bad => rw [sat_bad]; exact sat_bad
theorem satS_bndS {f : β → Store → RS} {z : Res β} : SatS (bndS env z f) QS ES = Sat z (fun a s => SatS (f a s) QS ES) (fun e s => ES e env s) := by
  cases z with
  | ok a s => rw [sat_ok]; rfl
  | exc e s => rw [sat_exc]; exact satS_exc
  | bad => rw [sat_bad]; exact satS_bad
def seqQ0 (f : Env → Store → RS) (Q : Fl → Env → Store → Prop) (E : Exn → Env → Store → Prop) : Fl → Env → Store → Prop
  | .nx, e, s => SatS (f e s) Q E
  | .ret d, e, s => Q (.ret d) e s
  | .brk, e, s => Q .brk e s
  | .ct, e, s => Q .ct e s
def seqQ (f : Env → Store → RS) (Q : Fl → Env → Store → Prop) (E : Exn → Env → Store → Prop) (_t : Tk f := .mk) (_u : Tk Q := .mk) (_v : Tk E := .mk) : Fl → Env → Store → Prop := seqQ0 f Q E
theorem satS_thn {f : Env → Store → RS} : SatS (thn r f) QS ES = SatS r (seqQ f QS ES) ES := by
  cases r with
  | ok fl e s =>
    rw [satS_ok]
    cases fl with
    | nx => rfl
    | _ => exact satS_ok
  | exc e env s => rw [satS_exc]; exact satS_exc
  | bad => rw [satS_bad]; exact satS_bad
theorem seqQ_nx {f : Env → Store → RS} : (seqQ f QS ES) .nx env s = SatS (f env s) QS ES := rfl
theorem seqQ_ret {f : Env → Store → RS} {d : D} : (seqQ f QS ES) (.ret d) env s = QS (.ret d) env s := rfl
theorem seqQ_brk {f : Env → Store → RS} : (seqQ f QS ES) .brk env s = QS .brk env s := rfl
theorem seqQ_ct {f : Env → Store → RS} : (seqQ f QS ES) .ct env s = QS .ct env s := rfl
theorem Sat.mono (h : Sat x Q E) (q : ∀ a s, Q a s → Q' a s) (e : ∀ y s, E y s → E' y s) : Sat x Q' E' := by
  cases x with
  | ok a s => exact ⟨q a s h.run⟩
  | exc y s => exact ⟨e y s h.run⟩
  | bad => exact h.run.elim
theorem Sat.imp (h : Sat x Q noE) (q : ∀ a s, Q a s → Q' a s) : Sat x Q' E := h.mono q fun _ _ h => h.elim
theorem SatS.mono {QS' : Fl → Env → Store → Prop} {ES' : Exn → Env → Store → Prop} (h : SatS r QS ES) (q : ∀ f e s, QS f e s → QS' f e s) (e : ∀ y e s, ES y e s → ES' y e s) : SatS r QS' ES' := by
  cases r with
  | ok a e s => exact ⟨q a e s h.run⟩
  | exc y _ s => exact ⟨e y _ s h.run⟩
  | bad => exact h.run.elim
theorem Sat.at (h : Sat x Q noE) : ∃ a s, x = .ok a s ∧ Q a s := by
  cases x with
  | ok a s => exact ⟨a, s, rfl, h.run⟩
  | exc y s => exact h.run.elim
  | bad => exact h.run.elim
theorem Sat.of (h : x = .ok a s) (q : Q a s) : Sat x Q E := by rw [h]; exact ⟨q⟩
theorem SatS.of {f : Fl} (h : r = .ok f env st) (q : QS f env st) : SatS r QS ES := by rw [h]; exact ⟨q⟩
def finQ (Q : D → Store → Prop) : Fl → Env → Store → Prop
  | .nx, _, s => Q .non s
  | .ret d, _, s => Q d s
  | _, _, _ => False
theorem finQ_nx {Q : D → Store → Prop} : finQ Q .nx env s = Q .non s := rfl
theorem finQ_ret {Q : D → Store → Prop} {d : D} : finQ Q (.ret d) env s = Q d s := rfl
theorem sat_run {G : Gx} {f : Fn} {ds : List D} {Q : D → Store → Prop} (hl : ds.length = f.np) (h : SatS (execs G f.body (ds.map .val ++ List.replicate (f.nn - f.np) .un) st) (finQ Q) (fun x _ s => E x s)) : Sat (runF G f ds st) Q E := by
  unfold runF
  rw [if_pos hl]
  have h := h.run
  cases q : execs G f.body (ds.map .val ++ List.replicate (f.nn - f.np) .un) st with
  | bad => rw [q] at h; exact h.elim
  | exc x e s => rw [q] at h; exact ⟨h⟩
  | ok fl e s =>
    rw [q] at h
    cases fl <;> first | exact ⟨h⟩ | exact h.elim
/-- a turn's end -/
def turnQ (I : Env → Store → Prop) (Q : Fl → Env → Store → Prop) : Fl → Env → Store → Prop
  | .nx, e, s => I e s
  | .ct, e, s => I e s
  | .brk, e, s => Q .nx e s
  | .ret d, e, s => Q (.ret d) e s
theorem turnQ_nx {I : Env → Store → Prop} {Q : Fl → Env → Store → Prop} : turnQ I Q .nx env s = I env s := rfl
theorem turnQ_ct {I : Env → Store → Prop} {Q : Fl → Env → Store → Prop} : turnQ I Q .ct env s = I env s := rfl
theorem turnQ_brk {I : Env → Store → Prop} {Q : Fl → Env → Store → Prop} : turnQ I Q .brk env s = Q .nx env s := rfl
theorem turnQ_ret {I : Env → Store → Prop} {Q : Fl → Env → Store → Prop} {d : D} : turnQ I Q (.ret d) env s = Q (.ret d) env s := rfl
theorem sat_for_go {t : Tg} {f : Env → Store → RS} {all : List D} (I : List D → Env → Store → Prop) (step : ∀ pre x post e s, all = pre ++ x :: post → I pre e s → ∃ e1, asgT t x e = some e1 ∧ SatS (f e1 s) (turnQ (I (pre ++ [x])) QS) ES)
    (fin : ∀ e s, I all e s → QS .nx e s) : ∀ (xs pre : List D) (env : Env) (st : Store), all = pre ++ xs → I pre env st → SatS (forL t f xs env st) QS ES
  | [], pre, env, st, h, i => by
    rw [List.append_nil] at h
    exact ⟨fin env st (h ▸ i)⟩
  | x :: r, pre, env, st, h, i => by
    obtain ⟨e1, a, b⟩ := step pre x r env st h i
    have b := b.run
    simp only [forL, a]
    have next : ∀ e s, I (pre ++ [x]) e s → SatS (forL t f r e s) QS ES := fun e s j => sat_for_go I step fin r (pre ++ [x]) e s (by rw [h, List.append_assoc]; rfl) j
    cases q : f e1 st with
    | bad => rw [q] at b; exact b.elim
    | exc y e s => rw [q] at b; exact ⟨b⟩
    | ok fl e s =>
      rw [q] at b
      cases fl with
      | nx => exact next e s b
      | ct => exact next e s b
      | brk => exact ⟨b⟩
      | ret d => exact ⟨b⟩
theorem sat_for {t : Tg} {f : Env → Store → RS} {xs : List D} (I : List D → Env → Store → Prop) (h0 : I [] env st) (step : ∀ pre x post e s, xs = pre ++ x :: post → I pre e s → ∃ e1, asgT t x e = some e1 ∧ SatS (f e1 s) (turnQ (I (pre ++ [x])) QS) ES)
    (fin : ∀ e s, I xs e s → QS .nx e s) : SatS (forL t f xs env st) QS ES := sat_for_go I step fin xs [] env st rfl h0
theorem sat_lc_go {f : D → Store → Res (Option D)} {all : List D} {Q : List D → Store → Prop} (I : List D → List D → Store → Prop)
    (step : ∀ pre x post acc s, all = pre ++ x :: post → I pre acc s → Sat (f x s) (fun o s' => match o with
      | some y => I (pre ++ [x]) (acc ++ [y]) s'
      | none => I (pre ++ [x]) acc s') noE) (fin : ∀ ys s, I all ys s → Q ys s) :
    ∀ (xs pre acc : List D) (st : Store), all = pre ++ xs → acc.length + xs.length ≤ SZ → I pre acc st → Sat (lcL f acc xs st) Q E
  | [], pre, acc, st, h, hz, i => by
    rw [List.append_nil] at h
    exact ⟨fin acc st (h ▸ i)⟩
  | x :: r, pre, acc, st, h, hz, i => by
    rw [List.length_cons] at hz
    have b := (step pre x r acc st h i).run
    simp only [lcL]
    have e : all = (pre ++ [x]) ++ r := by rw [h, List.append_assoc]; rfl
    cases q : f x st with
    | bad => rw [q] at b; exact b.elim
    | exc y s => rw [q] at b; exact b.elim
    | ok o s =>
      rw [q] at b
      cases o with
      | none => exact sat_lc_go I step fin r (pre ++ [x]) acc s e (by omega) b
      | some y =>
        dsimp only
        rw [if_pos (by omega)]
        exact sat_lc_go I step fin r (pre ++ [x]) (acc ++ [y]) s e (by rw [List.length_append, List.length_singleton]; omega) b
theorem sat_lc {f : D → Store → Res (Option D)} {xs : List D} {Q : List D → Store → Prop} (I : List D → List D → Store → Prop) (hz : xs.length ≤ SZ) (h0 : I [] [] st)
    (step : ∀ pre x post acc s, xs = pre ++ x :: post → I pre acc s → Sat (f x s) (fun o s' => match o with
      | some y => I (pre ++ [x]) (acc ++ [y]) s'
      | none => I (pre ++ [x]) acc s') noE) (fin : ∀ ys s, I xs ys s → Q ys s) : Sat (lcL f [] xs st) Q E := sat_lc_go I step fin xs [] [] st rfl (by simpa using hz) h0
/-- each one gives one -/
theorem sat_map {f : D → Store → Res (Option D)} {xs : List D} {Q : List D → Store → Prop} (I : Store → Prop) (P : D → Prop) (hz : xs.length ≤ SZ) (h0 : I st)
    (step : ∀ x s, x ∈ xs → I s → Sat (f x s) (fun o s' => I s' ∧ ∃ y, o = some y ∧ P y) noE) (fin : ∀ ys s, I s → (∀ y ∈ ys, P y) → ys.length = xs.length → Q ys s) : Sat (lcL f [] xs st) Q E := by
  refine sat_lc (fun pre acc s => I s ∧ (∀ y ∈ acc, P y) ∧ acc.length = pre.length) hz ⟨h0, (fun y hy => by cases hy), rfl⟩ (fun pre x post acc s e ⟨i, p, l⟩ => ?_) fun ys s ⟨i, p, l⟩ => fin ys s i p l
  refine (step x s (by rw [e]; simp) i).mono (fun o s' ⟨i', y, e2, py⟩ => ?_) fun _ _ h => h
  subst e2
  exact ⟨i', fun z hz => by
    rcases List.mem_append.mp hz with h | h
    · exact p z h
    · rw [List.mem_singleton.mp h]; exact py, by rw [List.length_append, List.length_append, l]; rfl⟩
theorem sat_pure {P : Prg} {n i : Nat} {ds : List D} {v : D} {Q : D → Store → Prop} (h : callP P n i ds = .ok v) (q : Q v st) : Sat (callF P n i ds st) Q E := Sat.of (callF_ok h st) q
end
/-! ### lists without a store -/
theorem lcP_map {f : D → R (Option D)} {g : D → D} : ∀ (xs acc : List D), acc.length + xs.length ≤ SZ → (∀ x ∈ xs, f x = .ok (some (g x))) → lcP f acc xs = .ok (acc ++ xs.map g)
  | [], acc, _, _ => by rw [lcP, List.map_nil, List.append_nil]
  | x :: r, acc, hz, h => by
    rw [List.length_cons] at hz
    rw [lcP, h x List.mem_cons_self]
    dsimp only
    rw [if_pos (by omega), lcP_map r (acc ++ [g x]) (by rw [List.length_append, List.length_singleton]; omega) fun y hy => h y (List.mem_cons_of_mem _ hy), List.append_assoc]
    rfl
theorem lcP_filt {f : D → R (Option D)} {g : D → Option D} : ∀ (xs acc : List D), acc.length + xs.length ≤ SZ → (∀ x ∈ xs, f x = .ok (g x)) → lcP f acc xs = .ok (acc ++ xs.filterMap g)
  | [], acc, _, _ => by rw [lcP, List.filterMap_nil, List.append_nil]
  | x :: r, acc, hz, h => by
    rw [List.length_cons] at hz
    rw [lcP, h x List.mem_cons_self]
    have ih := fun acc hz => lcP_filt (f := f) (g := g) r acc hz fun y hy => h y (List.mem_cons_of_mem _ hy)
    cases q : g x with
    | none => dsimp only; rw [ih acc (by omega), List.filterMap_cons, q]
    | some y =>
      dsimp only
      rw [if_pos (by omega), ih (acc ++ [y]) (by rw [List.length_append, List.length_singleton]; omega), List.append_assoc, List.filterMap_cons, q]
      rfl
theorem lcP2_flat {f : D → List D → R (List D)} {g : D → List D} : ∀ (xs acc : List D) (m : Nat), acc.length + m * xs.length ≤ SZ → (∀ x ∈ xs, (g x).length ≤ m) → (∀ x ∈ xs, ∀ a : List D, a.length + m ≤ SZ → f x a = .ok (a ++ g x)) → lcP2 f acc xs = .ok (acc ++ (xs.map g).flatten)
  | [], acc, m, _, _, _ => by rw [lcP2, List.map_nil, List.flatten_nil, List.append_nil]
  | x :: r, acc, m, hz, hm, h => by
    rw [List.length_cons, Nat.mul_add] at hz
    have := hm x List.mem_cons_self
    rw [lcP2, h x List.mem_cons_self acc (by omega)]
    dsimp only
    rw [lcP2_flat r (acc ++ g x) m (by rw [List.length_append]; omega) (fun y hy => hm y (List.mem_cons_of_mem _ hy)) fun y hy => h y (List.mem_cons_of_mem _ hy), List.append_assoc]
    rfl
theorem bls_map (p : D → Bool) : ∀ xs : List D, bls? (xs.map fun x => .bl (p x)) = some (xs.map p)
  | [] => rfl
  | x :: r => by
    rw [List.map_cons, bls?, bls_map p r]
    rfl
theorem allB_map (p : D → Bool) (xs : List D) : allB [.lst (xs.map fun x => .bl (p x))] = some (.bl (xs.all p)) := by
  rw [allB, bls_map, Option.map_some, List.all_map]
  rfl
theorem anyB_map (p : D → Bool) (xs : List D) : anyB [.lst (xs.map fun x => .bl (p x))] = some (.bl (xs.any p)) := by
  rw [anyB, bls_map, Option.map_some, List.any_map]
  rfl
end J

/-! JFuel: more fuel, the same answer -/
namespace J
open PySem L2
def Lq {α : Type} (r r' : R α) : Prop := r = .bad ∨ r' = r
def LqS (r r' : RP) : Prop := r = .bad ∨ r' = r
structure GLq (G G' : Gp) : Prop where
  call : ∀ k ds, Lq (G.call k ds) (G'.call k ds)
  glo : G'.glo = G.glo
  isa : G'.isa = G.isa
section
variable {α β : Type}
theorem Lq.refl {r : R α} : Lq r r := .inr rfl
theorem LqS.refl {r : RP} : LqS r r := .inr rfl
theorem lq_bnd {r r' : R α} {f f' : α → R β} (h : Lq r r') (k : ∀ a, Lq (f a) (f' a)) : Lq (r.bind f) (r'.bind f') := by
  rcases h with rfl | rfl
  · exact .inl rfl
  · cases r' with
    | ok a => exact k a
    | exc e => exact .inr rfl
    | bad => exact .inl rfl
theorem lq_if {b : Prop} [Decidable b] {r r' q q' : R α} (h : Lq r r') (k : Lq q q') : Lq (if b then r else q) (if b then r' else q') := by
  by_cases z : b
  · rw [if_pos z, if_pos z]; exact h
  · rw [if_neg z, if_neg z]; exact k
theorem lqs_if {b : Prop} [Decidable b] {r r' q q' : RP} (h : LqS r r') (k : LqS q q') : LqS (if b then r else q) (if b then r' else q') := by
  by_cases z : b
  · rw [if_pos z, if_pos z]; exact h
  · rw [if_neg z, if_neg z]; exact k
theorem lqs_bnd {env : Env} {r r' : R α} {f f' : α → RP} (h : Lq r r') (k : ∀ a, LqS (f a) (f' a)) : LqS (bndP env r f) (bndP env r' f') := by
  rcases h with rfl | rfl
  · exact .inl rfl
  · cases r' with
    | ok a => exact k a
    | exc e => exact .inr rfl
    | bad => exact .inl rfl
theorem lq_lc {f g : D → R (Option D)} (h : ∀ x, Lq (f x) (g x)) : ∀ (xs acc : List D), Lq (lcP f acc xs) (lcP g acc xs)
  | [], acc => .inr rfl
  | x :: r, acc => by
    rw [lcP, lcP]
    rcases h x with e | e
    · rw [e]; exact .inl rfl
    · rw [e]
      cases f x with
      | bad => exact .inl rfl
      | exc e => exact .inr rfl
      | ok o => cases o with
        | none => exact lq_lc h r acc
        | some y => exact lq_if (lq_lc h r _) (.inl rfl)
theorem lq_lc2 {f g : D → List D → R (List D)} (h : ∀ x a, Lq (f x a) (g x a)) : ∀ (xs acc : List D), Lq (lcP2 f acc xs) (lcP2 g acc xs)
  | [], acc => .inr rfl
  | x :: r, acc => by
    rw [lcP2, lcP2]
    rcases h x acc with e | e
    · rw [e]; exact .inl rfl
    · rw [e]
      cases f x acc with
      | bad => exact .inl rfl
      | exc e => exact .inr rfl
      | ok o => exact lq_lc2 h r _
theorem lqs_for {t : Tg} {f g : Env → RP} (h : ∀ e, LqS (f e) (g e)) : ∀ (xs : List D) (env : Env), LqS (forP t f xs env) (forP t g xs env)
  | [], env => .inr rfl
  | x :: r, env => by
    rw [forP, forP]
    cases asgT t x env with
    | none => exact .inl rfl
    | some e1 =>
      dsimp only
      rcases h e1 with e | e
      · rw [e]; exact .inl rfl
      · rw [e]
        cases f e1 with
        | bad => exact .inl rfl
        | exc y e => exact .inr rfl
        | ok fl e => cases fl with
          | nx => exact lqs_for h r e
          | ct => exact lqs_for h r e
          | brk => exact .inr rfl
          | ret d => exact .inr rfl
theorem lqs_wh {t t' : Env → R Bool} {f g : Env → RP} (ht : ∀ e, Lq (t e) (t' e)) (h : ∀ e, LqS (f e) (g e)) : ∀ (n : Nat) (env : Env), LqS (whP t f n env) (whP t' g n env)
  | 0, env => .inl rfl
  | n + 1, env => by
    rw [whP, whP]
    rcases ht env with e | e
    · rw [e]; exact .inl rfl
    · rw [e]
      cases t env with
      | bad => exact .inl rfl
      | exc y => exact .inr rfl
      | ok b => cases b with
        | false => exact .inr rfl
        | true =>
          dsimp only
          rcases h env with e | e
          · rw [e]; exact .inl rfl
          · rw [e]
            cases f env with
            | bad => exact .inl rfl
            | exc y e => exact .inr rfl
            | ok fl e => cases fl with
              | nx => exact lqs_wh ht h n e
              | ct => exact lqs_wh ht h n e
              | brk => exact .inr rfl
              | ret d => exact .inr rfl
end
section
variable {G G' : Gp}
theorem lq_asg {o : Option Env} {f f' : Env → R (Option D)} (h : ∀ e, Lq (f e) (f' e)) : Lq (match o with | some e => f e | none => .bad) (match o with | some e => f' e | none => .bad) := by
  cases o with
  | none => exact .inl rfl
  | some e => exact h e
theorem lq_asg2 {o : Option Env} {f f' : Env → R (List D)} (h : ∀ e, Lq (f e) (f' e)) : Lq (match o with | some e => f e | none => .bad) (match o with | some e => f' e | none => .bad) := by
  cases o with
  | none => exact .inl rfl
  | some e => exact h e
mutual
theorem lq_ev (hG : GLq G G') : ∀ (e : Ex) (env : Env), Lq (evP G e env) (evP G' e env)
  | .int i, env => .inr rfl
  | .str x, env => .inr rfl
  | .bl b, env => .inr rfl
  | .non, env => .inr rfl
  | .var i, env => .inr rfl
  | .bor i, env => .inr rfl
  | .glo k, env => .inr (by simp only [evP, hG.glo])
  | .tup es, env => lq_bnd (lq_evs hG es env) fun ds => .inr rfl
  | .lst es, env => lq_bnd (lq_evs hG es env) fun ds => .inr rfl
  | .bin o a b, env => lq_bnd (lq_ev hG a env) fun x => lq_bnd (lq_ev hG b env) fun y => .inr rfl
  | .cmp o a b, env => lq_bnd (lq_ev hG a env) fun x => lq_bnd (lq_ev hG b env) fun y => .inr rfl
  | .chain o p a b c, env => lq_bnd (lq_ev hG a env) fun x => lq_bnd (lq_ev hG b env) fun y => lq_if (by
      cases cmpD o x y with
      | none => exact .inl rfl
      | some r => cases r with
        | false => exact .inr rfl
        | true => exact lq_bnd (lq_ev hG c env) fun z => .inr rfl) (.inl rfl)
  | .neg a, env => lq_bnd (lq_ev hG a env) fun x => .inr rfl
  | .ands es, env => lq_and hG es env
  | .ors es, env => lq_or hG es env
  | .not a, env => lq_bnd (lq_ev hG a env) fun x => .inr rfl
  | .ite t a b, env => lq_bnd (lq_tst hG t env) fun c => lq_if (lq_ev hG a env) (lq_ev hG b env)
  | .ix a i, env => lq_bnd (lq_ev hG a env) fun x => lq_bnd (lq_ev hG i env) fun y => .inr rfl
  | .slc a lo hi, env => lq_bnd (lq_ev hG a env) fun x => lq_bnd (lq_evO hG lo env) fun l => lq_bnd (lq_evO hG hi env) fun h => .inr rfl
  | .fn k es, env => lq_bnd (lq_evs hG es env) fun ds => hG.call k ds
  | .bt f es, env => lq_bnd (lq_evs hG es env) fun ds => .inr rfl
  | .bm m o es, env => lq_bnd (lq_ev hG o env) fun x => lq_bnd (lq_evs hG es env) fun ds => .inr rfl
  | .me _ _ _, _ => .inr rfl
  | .mk _ _, _ => .inr rfl
  | .att _ _, _ => .inr rfl
  | .lc e (.mk t i ifs own), env => lq_bnd (lq_it hG i env) fun xs => lq_bnd (lq_lc (fun x => lq_asg fun env' => lq_bnd (lq_tst hG ifs env') fun b => lq_if (lq_bnd (lq_ev hG e env') fun y => .inr rfl) (.inr rfl)) xs []) fun ys => .inr rfl
  | .lc2 e (.mk t i ifs own) (.mk t2 i2 ifs2 own2), env => lq_bnd (lq_it hG i env) fun xs => lq_bnd (lq_lc2 (fun x acc => lq_asg2 fun env' => lq_bnd (lq_tst hG ifs env') fun b => lq_if (lq_bnd (lq_it hG i2 env') fun zs => lq_lc (fun z => lq_asg fun env2 => lq_bnd (lq_tst hG ifs2 env2) fun b2 => lq_if (lq_bnd (lq_ev hG e env2) fun y => .inr rfl) (.inr rfl)) zs acc) (.inr rfl)) xs []) fun ys => .inr rfl
  | .dc k v (.mk t i ifs own), env => lq_bnd (lq_it hG i env) fun xs => lq_bnd (lq_lc (fun x => lq_asg fun env' => lq_bnd (lq_tst hG ifs env') fun b => lq_if (lq_bnd (lq_ev hG k env') fun y => lq_bnd (lq_ev hG v env') fun z => .inr rfl) (.inr rfl)) xs []) fun ys => .inr rfl
  | .dict es, env => lq_bnd (lq_evs hG es env) fun ds => .inr rfl
  | .fs es, env => lq_bnd (lq_evs hG es env) fun ds => .inr rfl
  | .itl f t, env => lq_bnd (lq_it hG t env) fun xs => .inr rfl
  | .new _, _ => .inr rfl
  | .srt e, env => lq_bnd (lq_ev hG e env) fun d => .inr rfl
  | .lset e, env => lq_bnd (lq_ev hG e env) fun d => .inr rfl
theorem lq_evs (hG : GLq G G') : ∀ (es : Exs) (env : Env), Lq (evPs G es env) (evPs G' es env)
  | .nil, env => .inr rfl
  | .cons e r, env => lq_bnd (lq_ev hG e env) fun x => lq_bnd (lq_evs hG r env) fun xs => .inr rfl
theorem lq_evO (hG : GLq G G') : ∀ (o : Option Ex) (env : Env), Lq (evPO G o env) (evPO G' o env)
  | none, env => .inr rfl
  | some e, env => lq_bnd (lq_ev hG e env) fun x => .inr rfl
theorem lq_and (hG : GLq G G') : ∀ (es : Exs) (env : Env), Lq (evPAnd G es env) (evPAnd G' es env)
  | .nil, env => .inr rfl
  | .cons e .nil, env => lq_ev hG e env
  | .cons e (.cons e2 r), env => lq_bnd (lq_ev hG e env) fun x => by
    cases x with
    | bl b => cases b with
      | true => exact lq_and hG (.cons e2 r) env
      | false => exact .inr rfl
    | _ => exact .inl rfl
theorem lq_or (hG : GLq G G') : ∀ (es : Exs) (env : Env), Lq (evPOr G es env) (evPOr G' es env)
  | .nil, env => .inr rfl
  | .cons e .nil, env => lq_ev hG e env
  | .cons e (.cons e2 r), env => lq_bnd (lq_ev hG e env) fun x => by
    cases x with
    | bl b => cases b with
      | false => exact lq_or hG (.cons e2 r) env
      | true => exact .inr rfl
    | _ => exact .inl rfl
theorem lq_tst (hG : GLq G G') : ∀ (t : Te) (env : Env), Lq (tstP G t env) (tstP G' t env)
  | .yes, env => .inr rfl
  | .ex e, env => lq_bnd (lq_ev hG e env) fun x => .inr rfl
  | .ands ts, env => lq_tand hG ts env
  | .ors ts, env => lq_tor hG ts env
  | .not t, env => lq_bnd (lq_tst hG t env) fun b => .inr rfl
theorem lq_tand (hG : GLq G G') : ∀ (es : Tes) (env : Env), Lq (tsPAnd G es env) (tsPAnd G' es env)
  | .nil, env => .inr rfl
  | .cons e .nil, env => lq_tst hG e env
  | .cons e (.cons e2 r), env => lq_bnd (lq_tst hG e env) fun b => lq_if (lq_tand hG (.cons e2 r) env) (.inr rfl)
theorem lq_tor (hG : GLq G G') : ∀ (es : Tes) (env : Env), Lq (tsPOr G es env) (tsPOr G' es env)
  | .nil, env => .inr rfl
  | .cons e .nil, env => lq_tst hG e env
  | .cons e (.cons e2 r), env => lq_bnd (lq_tst hG e env) fun b => lq_if (.inr rfl) (lq_tor hG (.cons e2 r) env)
theorem lq_it (hG : GLq G G') : ∀ (i : It) (env : Env), Lq (itP G i env) (itP G' i env)
  | .ex e, env => lq_bnd (lq_ev hG e env) fun x => .inr rfl
  | .rng es, env => lq_bnd (lq_evs hG es env) fun ds => .inr rfl
  | .zip a b, env => lq_bnd (lq_ev hG a env) fun x => lq_bnd (lq_ev hG b env) fun y => .inr rfl
  | .enum e, env => lq_bnd (lq_ev hG e env) fun x => .inr rfl
  | .items e, env => lq_bnd (lq_ev hG e env) fun x => .inr rfl
  | .vals e, env => lq_bnd (lq_ev hG e env) fun x => .inr rfl
  | .rev e, env => lq_bnd (lq_ev hG e env) fun x => .inr rfl
end
theorem lqs_cmp {o : Option Bool} {a b a' b' : RP} (ha : LqS a a') (hb : LqS b b') : LqS (match o with
    | some true => a
    | some false => b
    | none => .bad) (match o with
    | some true => a'
    | some false => b'
    | none => .bad) := by
  cases o with
  | none => exact .inl rfl
  | some r => cases r <;> assumption
theorem lqs_hd (hG : GLq G G') (h : Hd) (x : Exn) (env : Env) : LqS (hdP G h x env) (hdP G' h x env) := by
  cases h with
  | ret e => exact lqs_bnd (lq_ev hG e env) fun _ => .inr rfl
  | line => exact .inr rfl
  | raise c e => exact lqs_bnd (lq_ev hG e env) fun d => .inr rfl
theorem lqs_hds (hG : GLq G G') : ∀ (hs : List (Nat × Hd)) (x : Exn) (env : Env), LqS (hdsP G hs x env) (hdsP G' hs x env)
  | [], x, env => .inr rfl
  | (c, h) :: r, x, env => by
    rw [hdsP, hdsP, hG.isa]
    cases G.isa x.cls c with
    | none => exact .inl rfl
    | some b => cases b with
      | true => exact lqs_hd hG h x env
      | false => exact lqs_hds hG r x env
theorem lqs_iffS (hG : GLq G G') {i : Nat} {k v c : Ex} {a b : Sms} (ha : ∀ e, LqS (exPs G a e) (exPs G' a e)) (hb : ∀ e, LqS (exPs G b e) (exPs G' b e)) (env : Env) : LqS (exP G (.iffS i k v c a b) env) (exP G' (.iffS i k v c a b) env) :=
  lqs_bnd (lq_ev hG k env) fun x => lqs_bnd (lq_ev hG v env) fun y => by
    cases getO env i with
    | none => exact .inl rfl
    | some o =>
      cases o with
      | dic kvs =>
        refine lqs_if ?_ (.inl rfl)
        cases dget x kvs with
        | some w => exact lqs_bnd (lq_ev hG c env) fun z => lqs_if (lqs_cmp (ha _) (hb _)) (.inl rfl)
        | none => exact lqs_bnd (lq_ev hG c _) fun z => lqs_if (lqs_cmp (ha _) (hb _)) (.inl rfl)
      | _ => exact .inl rfl
theorem lqs_aug (hG : GLq G G') (i : Nat) (o : Bop) (e : Ex) (env : Env) : LqS (exP G (.aug i o e) env) (exP G' (.aug i o e) env) := by
  rw [exP, exP]
  split
  · exact lqs_bnd (lq_ev hG e env) fun y => .inr rfl
  · exact .inl rfl
theorem lqs_forM (hG : GLq G G') {t : Tg} {i : Nat} {b : Sms} (hb : ∀ e, LqS (exPs G b e) (exPs G' b e)) (env : Env) : LqS (exP G (.forM t i b) env) (exP G' (.forM t i b) env) := by
  rw [exP, exP]
  cases getO env i with
  | none => exact .inl rfl
  | some o =>
    dsimp only
    cases items? (frz o) with
    | none => exact .inl rfl
    | some xs => exact lqs_for hb xs _
theorem lqs_while (hG : GLq G G') {t : Te} {b : Sms} (hb : ∀ e, LqS (exPs G b e) (exPs G' b e)) (env : Env) : LqS (exP G (.while_ t b) env) (exP G' (.while_ t b) env) := by
  rw [exP, exP]
  exact lqs_wh (fun e => lq_tst hG t e) hb _ env
theorem lqs_try (hG : GLq G G') {b : Sms} {hs : List (Nat × Hd)} (hb : ∀ e, LqS (exPs G b e) (exPs G' b e)) (env : Env) : LqS (exP G (.try_ b hs) env) (exP G' (.try_ b hs) env) := by
  rw [exP, exP]
  rcases hb env with e | e
  · rw [e]; exact .inl rfl
  · rw [e]
    cases exPs G b env with
    | bad => exact .inl rfl
    | ok f e => exact .inr rfl
    | exc x e => exact lqs_hds hG hs x e
theorem lqs_cons {s : Sm} {r : Sms} {env : Env} (h : LqS (exP G s env) (exP G' s env)) (k : ∀ e, LqS (exPs G r e) (exPs G' r e)) : LqS (exPs G (.cons s r) env) (exPs G' (.cons s r) env) := by
  rw [exPs, exPs]
  rcases h with e | e
  · rw [e]; exact .inl rfl
  · rw [e]
    cases exP G s env with
    | bad => exact .inl rfl
    | exc x e => exact .inr rfl
    | ok f e => cases f with
      | nx => exact k e
      | _ => exact .inr rfl
mutual
theorem lqs_ex (hG : GLq G G') : ∀ (s : Sm) (env : Env), LqS (exP G s env) (exP G' s env)
  | .asg t e, env => lqs_bnd (lq_ev hG e env) fun x => .inr rfl
  | .asgO i e, env => lqs_bnd (lq_ev hG e env) fun x => .inr rfl
  | .asgM j i, env => .inr rfl
  | .par i j a b, env => lqs_bnd (lq_ev hG a env) fun x => lqs_bnd (lq_ev hG b env) fun x => .inr rfl
  | .aug i o e, env => lqs_aug hG i o e env
  | .setO i k e, env => lqs_bnd (lq_ev hG e env) fun x => lqs_bnd (lq_ev hG k env) fun x => .inr rfl
  | .setR _ _ _, _ => .inr rfl
  | .delO i k, env => lqs_bnd (lq_ev hG k env) fun x => .inr rfl
  | .app i e, env => lqs_bnd (lq_ev hG e env) fun x => .inr rfl
  | .ext i e, env => lqs_bnd (lq_ev hG e env) fun x => .inr rfl
  | .upd i e, env => lqs_bnd (lq_ev hG e env) fun x => .inr rfl
  | .pop j i, env => .inr rfl
  | .appR _ _, _ => .inr rfl
  | .setA _ _ _, _ => .inr rfl
  | .augA _ _ _ _, _ => .inr rfl
  | .expr e, env => lqs_bnd (lq_ev hG e env) fun _ => .inr rfl
  | .ret e, env => lqs_bnd (lq_ev hG e env) fun _ => .inr rfl
  | .retM i, env => .inr rfl
  | .retN, env => .inr rfl
  | .iff t a b, env => lqs_bnd (lq_tst hG t env) fun c => lqs_if (lqs_exs hG a env) (lqs_exs hG b env)
  | .iffS i k v c a b, env => lqs_iffS hG (fun e => lqs_exs hG a e) (fun e => lqs_exs hG b e) env
  | .for_ t i b, env => lqs_bnd (lq_it hG i env) fun xs => lqs_for (fun e => lqs_exs hG b e) xs env
  | .forM t i b, env => lqs_forM hG (fun e => lqs_exs hG b e) env
  | .while_ t b, env => lqs_while hG (fun e => lqs_exs hG b e) env
  | .brk, env => .inr rfl
  | .ct, env => .inr rfl
  | .pass, env => .inr rfl
  | .raise c none, env => .inr rfl
  | .raise c (some e), env => lqs_bnd (lq_ev hG e env) fun x => .inr rfl
  | .try_ b hs, env => lqs_try hG (fun e => lqs_exs hG b e) env
theorem lqs_exs (hG : GLq G G') : ∀ (s : Sms) (env : Env), LqS (exPs G s env) (exPs G' s env)
  | .nil, env => .inr rfl
  | .cons s r, env => lqs_cons (lqs_ex hG s env) fun e => lqs_exs hG r e
end
theorem lq_run (hG : GLq G G') (f : Fn) (ds : List D) : Lq (runP G f ds) (runP G' f ds) := by
  unfold runP
  refine lq_if ?_ (.inl rfl)
  rcases lqs_exs hG f.body (ds.map .val ++ List.replicate (f.nn - f.np) .un) with e | e
  · rw [e]; exact .inl rfl
  · rw [e]; exact .inr rfl
end
theorem lq_call (P : Prg) : ∀ (n k : Nat) (ds : List D), Lq (callP P n k ds) (callP P (n + 1) k ds)
  | 0, _, _ => .inl rfl
  | n + 1, k, ds => by
    rw [callP, callP]
    cases P.fns[k]? with
    | none => exact .inl rfl
    | some f => exact lq_run (G := gp P (callP P n)) (G' := gp P (callP P (n + 1))) ⟨fun k ds => lq_call P n k ds, rfl, rfl⟩ f ds
/-- more fuel, the same answer -/
theorem callP_more {P : Prg} {n k : Nat} {ds : List D} {v : D} (h : callP P n k ds = .ok v) : ∀ m, n ≤ m → callP P m k ds = .ok v := by
  have : ∀ d, callP P (n + d) k ds = .ok v := by
    intro d
    induction d with
    | zero => exact h
    | succ d ih =>
      rcases lq_call P (n + d) k ds with e | e
      · rw [e] at ih; cases ih
      · exact e.trans ih
  intro m hm
  have := this (m - n)
  rwa [Nat.add_sub_cancel' hm] at this
theorem callP_moreX {P : Prg} {n k : Nat} {ds : List D} {v : Exn} (h : callP P n k ds = .exc v) : ∀ m, n ≤ m → callP P m k ds = .exc v := by
  have : ∀ d, callP P (n + d) k ds = .exc v := by
    intro d
    induction d with
    | zero => exact h
    | succ d ih =>
      rcases lq_call P (n + d) k ds with e | e
      · rw [e] at ih; cases ih
      · exact e.trans ih
  intro m hm
  have := this (m - n)
  rwa [Nat.add_sub_cancel' hm] at this
end J

/-! JSim: rewrite rules of the run without a store, and with one -/
namespace J
open PySem
section
variable {α β : Type} {a : α} {f : α → R β} {g : α → RP} {x : Exn} {env : Env} {h : Env → RP} {d : D}
theorem rb_ok : (R.ok a).bind f = f a := rfl
theorem rb_exc : (R.exc x : R α).bind f = .exc x := rfl
theorem bp_ok : bndP env (R.ok a) g = g a := rfl
theorem bp_exc : bndP env (R.exc x : R α) g = .exc x env := rfl
theorem th_nx : thP (.ok .nx env) h = h env := rfl
theorem th_ret : thP (.ok (.ret d) env) h = .ok (.ret d) env := rfl
theorem th_brk : thP (.ok .brk env) h = .ok .brk env := rfl
theorem th_ct : thP (.ok .ct env) h = .ok .ct env := rfl
theorem th_exc : thP (.exc x env) h = .exc x env := rfl
theorem of_some : ofP (some a) = .ok a := rfl
theorem nr_non : nr .non = true := rfl
theorem nr_bl {b : Bool} : nr (.bl b) = true := rfl
theorem nr_int {i : Int} : nr (.int i) = true := rfl
theorem nr_str {s : Str} : nr (.str s) = true := rfl
theorem nr_tup {xs : List D} : nr (.tup xs) = true := rfl
theorem nr_lst {xs : List D} : nr (.lst xs) = true := rfl
theorem nr_dic {xs : List (D × D)} : nr (.dic xs) = true := rfl
theorem nr_kls {xs : List D} : nr (.kls xs) = true := rfl
theorem nrs_nil : nrs [] = true := rfl
theorem nrs_cons {xs : List D} : nrs (d :: xs) = (nr d && nrs xs) := rfl
theorem gp_call {P : Prg} {c : Nat → List D → R D} {i : Nat} {ds : List D} : (gp P c).call i ds = c i ds := rfl
theorem gp_glo {P : Prg} {c : Nat → List D → R D} {i : Nat} : (gp P c).glo i = P.glos[i]? := rfl
theorem gp_isa {P : Prg} {c : Nat → List D → R D} {i j : Nat} : (gp P c).isa i j = P.isas.lookup (i, j) := rfl
theorem gx_call {P : Prg} {c : Nat → List D → Store → Res D} {i : Nat} {ds : List D} {st : Store} : (gx P c).call i ds st = c i ds st := rfl
theorem gx_glo {P : Prg} {c : Nat → List D → Store → Res D} {i : Nat} : (gx P c).glo i = P.glos[i]? := rfl
theorem gx_isa {P : Prg} {c : Nat → List D → Store → Res D} {i j : Nat} : (gx P c).isa i j = P.isas.lookup (i, j) := rfl
theorem asg_name {i : Nat} {e : Env} (h : i < e.length) : asgT (.name i) d e = some (e.set i (.val d)) := if_pos h
theorem asg_tup {ts : List Tg} {ds : List D} {e : Env} : asgT (.tup ts) (.tup ds) e = asgTs ts ds e := rfl
theorem callF_at {P : Prg} {k i : Nat} {fn : Fn} {ds : List D} {st : Store} (h : P.fns[i]? = some fn) : callF P (k + 1) i ds st = runF (gx P (callF P k)) fn ds st := by simp only [callF, h]
theorem callP_at {P : Prg} {k i : Nat} {fn : Fn} {ds : List D} (h : P.fns[i]? = some fn) : callP P (k + 1) i ds = runP (gp P (callP P k)) fn ds := by simp only [callP, h]
theorem runP_eq {G : Gp} {np nn : Nat} {b : Sms} {ds : List D} {r : R D} (h : ds.length = np) (e : (match exPs G b (ds.map .val ++ List.replicate (nn - np) .un) with
    | .ok .nx _ => .ok .non
    | .ok (.ret d) _ => .ok d
    | .exc x _ => .exc x
    | _ => .bad) = r) : runP G ⟨np, nn, b⟩ ds = r := by
  unfold runP
  rw [if_pos h]
  exact e
end
theorem sz0 : (0 ≤ SZ) = True := eq_true (by decide)
theorem sz1 : (1 ≤ SZ) = True := eq_true (by decide)
theorem sz2 : (2 ≤ SZ) = True := eq_true (by decide)
theorem sz3 : (3 ≤ SZ) = True := eq_true (by decide)
theorem sz4 : (4 ≤ SZ) = True := eq_true (by decide)
theorem sz5 : (5 ≤ SZ) = True := eq_true (by decide)
theorem sz6 : (6 ≤ SZ) = True := eq_true (by decide)
theorem sz7 : (7 ≤ SZ) = True := eq_true (by decide)
theorem sz8 : (8 ≤ SZ) = True := eq_true (by decide)
theorem sz9 : (9 ≤ SZ) = True := eq_true (by decide)
theorem sz10 : (10 ≤ SZ) = True := eq_true (by decide)
theorem sz11 : (11 ≤ SZ) = True := eq_true (by decide)
theorem sz12 : (12 ≤ SZ) = True := eq_true (by decide)
theorem sz13 : (13 ≤ SZ) = True := eq_true (by decide)
theorem sz14 : (14 ≤ SZ) = True := eq_true (by decide)
theorem sz15 : (15 ≤ SZ) = True := eq_true (by decide)
theorem sz16 : (16 ≤ SZ) = True := eq_true (by decide)
theorem sz17 : (17 ≤ SZ) = True := eq_true (by decide)
theorem sz18 : (18 ≤ SZ) = True := eq_true (by decide)
theorem sz19 : (19 ≤ SZ) = True := eq_true (by decide)
theorem sz20 : (20 ≤ SZ) = True := eq_true (by decide)
theorem sz21 : (21 ≤ SZ) = True := eq_true (by decide)
theorem sz22 : (22 ≤ SZ) = True := eq_true (by decide)
theorem sz23 : (23 ≤ SZ) = True := eq_true (by decide)
theorem sz24 : (24 ≤ SZ) = True := eq_true (by decide)
theorem sz25 : (25 ≤ SZ) = True := eq_true (by decide)
theorem sz26 : (26 ≤ SZ) = True := eq_true (by decide)
theorem sz27 : (27 ≤ SZ) = True := eq_true (by decide)
theorem sz28 : (28 ≤ SZ) = True := eq_true (by decide)
theorem sz29 : (29 ≤ SZ) = True := eq_true (by decide)
theorem sz30 : (30 ≤ SZ) = True := eq_true (by decide)
theorem sz31 : (31 ≤ SZ) = True := eq_true (by decide)
theorem sz32 : (32 ≤ SZ) = True := eq_true (by decide)
theorem sz33 : (33 ≤ SZ) = True := eq_true (by decide)
theorem sz34 : (34 ≤ SZ) = True := eq_true (by decide)
theorem sz35 : (35 ≤ SZ) = True := eq_true (by decide)
theorem sz36 : (36 ≤ SZ) = True := eq_true (by decide)
theorem sz37 : (37 ≤ SZ) = True := eq_true (by decide)
theorem sz38 : (38 ≤ SZ) = True := eq_true (by decide)
theorem sz39 : (39 ≤ SZ) = True := eq_true (by decide)
theorem sz40 : (40 ≤ SZ) = True := eq_true (by decide)
theorem sz41 : (41 ≤ SZ) = True := eq_true (by decide)
theorem sz42 : (42 ≤ SZ) = True := eq_true (by decide)
theorem sz43 : (43 ≤ SZ) = True := eq_true (by decide)
theorem sz44 : (44 ≤ SZ) = True := eq_true (by decide)
theorem sz45 : (45 ≤ SZ) = True := eq_true (by decide)
theorem sz46 : (46 ≤ SZ) = True := eq_true (by decide)
theorem sz47 : (47 ≤ SZ) = True := eq_true (by decide)
theorem sz48 : (48 ≤ SZ) = True := eq_true (by decide)
theorem sz49 : (49 ≤ SZ) = True := eq_true (by decide)
theorem sz50 : (50 ≤ SZ) = True := eq_true (by decide)
theorem sz51 : (51 ≤ SZ) = True := eq_true (by decide)
theorem sz52 : (52 ≤ SZ) = True := eq_true (by decide)
theorem sz53 : (53 ≤ SZ) = True := eq_true (by decide)
theorem sz54 : (54 ≤ SZ) = True := eq_true (by decide)
theorem sz55 : (55 ≤ SZ) = True := eq_true (by decide)
theorem sz56 : (56 ≤ SZ) = True := eq_true (by decide)
theorem sz57 : (57 ≤ SZ) = True := eq_true (by decide)
theorem sz58 : (58 ≤ SZ) = True := eq_true (by decide)
theorem sz59 : (59 ≤ SZ) = True := eq_true (by decide)
theorem sz60 : (60 ≤ SZ) = True := eq_true (by decide)
theorem cast0 : ((0 : Nat) : Int) = 0 := rfl
theorem cast1 : ((1 : Nat) : Int) = 1 := rfl
theorem cast2 : ((2 : Nat) : Int) = 2 := rfl
theorem cast3 : ((3 : Nat) : Int) = 3 := rfl
theorem cast4 : ((4 : Nat) : Int) = 4 := rfl
theorem cast5 : ((5 : Nat) : Int) = 5 := rfl
theorem cast6 : ((6 : Nat) : Int) = 6 := rfl
theorem cast7 : ((7 : Nat) : Int) = 7 := rfl
theorem cast8 : ((8 : Nat) : Int) = 8 := rfl
theorem cast9 : ((9 : Nat) : Int) = 9 := rfl
theorem cast10 : ((10 : Nat) : Int) = 10 := rfl
theorem cast11 : ((11 : Nat) : Int) = 11 := rfl
theorem cast12 : ((12 : Nat) : Int) = 12 := rfl
theorem cast13 : ((13 : Nat) : Int) = 13 := rfl
theorem cast14 : ((14 : Nat) : Int) = 14 := rfl
theorem cast15 : ((15 : Nat) : Int) = 15 := rfl
theorem cast16 : ((16 : Nat) : Int) = 16 := rfl
theorem cast17 : ((17 : Nat) : Int) = 17 := rfl
theorem cast18 : ((18 : Nat) : Int) = 18 := rfl
theorem cast19 : ((19 : Nat) : Int) = 19 := rfl
theorem cast20 : ((20 : Nat) : Int) = 20 := rfl
theorem at0of1 {x : D} : L2.atI [x] 0 = some x := rfl
theorem at0of2 {x y : D} : L2.atI [x, y] 0 = some x := rfl
theorem at1of2 {x y : D} : L2.atI [x, y] 1 = some y := rfl
theorem at0of3 {x y z : D} : L2.atI [x, y, z] 0 = some x := rfl
theorem at1of3 {x y z : D} : L2.atI [x, y, z] 1 = some y := rfl
theorem at2of3 {x y z : D} : L2.atI [x, y, z] 2 = some z := rfl
theorem szl0 : (0 < SZ) = True := eq_true (by decide)
theorem szl1 : (1 < SZ) = True := eq_true (by decide)
theorem szl2 : (2 < SZ) = True := eq_true (by decide)
theorem szl3 : (3 < SZ) = True := eq_true (by decide)
theorem szl4 : (4 < SZ) = True := eq_true (by decide)
theorem szl5 : (5 < SZ) = True := eq_true (by decide)
theorem szl6 : (6 < SZ) = True := eq_true (by decide)
theorem szl7 : (7 < SZ) = True := eq_true (by decide)
theorem szl8 : (8 < SZ) = True := eq_true (by decide)
theorem szl9 : (9 < SZ) = True := eq_true (by decide)
theorem szl10 : (10 < SZ) = True := eq_true (by decide)
theorem szl11 : (11 < SZ) = True := eq_true (by decide)
theorem szl12 : (12 < SZ) = True := eq_true (by decide)
theorem szl13 : (13 < SZ) = True := eq_true (by decide)
theorem szl14 : (14 < SZ) = True := eq_true (by decide)
theorem szl15 : (15 < SZ) = True := eq_true (by decide)
theorem szl16 : (16 < SZ) = True := eq_true (by decide)
theorem szl17 : (17 < SZ) = True := eq_true (by decide)
theorem szl18 : (18 < SZ) = True := eq_true (by decide)
theorem szl19 : (19 < SZ) = True := eq_true (by decide)
theorem szl20 : (20 < SZ) = True := eq_true (by decide)
theorem szl21 : (21 < SZ) = True := eq_true (by decide)
theorem szl22 : (22 < SZ) = True := eq_true (by decide)
theorem szl23 : (23 < SZ) = True := eq_true (by decide)
theorem szl24 : (24 < SZ) = True := eq_true (by decide)
theorem szl25 : (25 < SZ) = True := eq_true (by decide)
theorem szl26 : (26 < SZ) = True := eq_true (by decide)
theorem szl27 : (27 < SZ) = True := eq_true (by decide)
theorem szl28 : (28 < SZ) = True := eq_true (by decide)
theorem szl29 : (29 < SZ) = True := eq_true (by decide)
theorem szl30 : (30 < SZ) = True := eq_true (by decide)
theorem szl31 : (31 < SZ) = True := eq_true (by decide)
theorem szl32 : (32 < SZ) = True := eq_true (by decide)
theorem szl33 : (33 < SZ) = True := eq_true (by decide)
theorem szl34 : (34 < SZ) = True := eq_true (by decide)
theorem szl35 : (35 < SZ) = True := eq_true (by decide)
theorem szl36 : (36 < SZ) = True := eq_true (by decide)
theorem szl37 : (37 < SZ) = True := eq_true (by decide)
theorem szl38 : (38 < SZ) = True := eq_true (by decide)
theorem szl39 : (39 < SZ) = True := eq_true (by decide)
theorem szl40 : (40 < SZ) = True := eq_true (by decide)
theorem szl41 : (41 < SZ) = True := eq_true (by decide)
theorem szl42 : (42 < SZ) = True := eq_true (by decide)
theorem szl43 : (43 < SZ) = True := eq_true (by decide)
theorem szl44 : (44 < SZ) = True := eq_true (by decide)
theorem szl45 : (45 < SZ) = True := eq_true (by decide)
theorem szl46 : (46 < SZ) = True := eq_true (by decide)
theorem szl47 : (47 < SZ) = True := eq_true (by decide)
theorem szl48 : (48 < SZ) = True := eq_true (by decide)
theorem szl49 : (49 < SZ) = True := eq_true (by decide)
theorem szl50 : (50 < SZ) = True := eq_true (by decide)
theorem szl51 : (51 < SZ) = True := eq_true (by decide)
theorem szl52 : (52 < SZ) = True := eq_true (by decide)
theorem szl53 : (53 < SZ) = True := eq_true (by decide)
theorem szl54 : (54 < SZ) = True := eq_true (by decide)
theorem szl55 : (55 < SZ) = True := eq_true (by decide)
theorem szl56 : (56 < SZ) = True := eq_true (by decide)
theorem szl57 : (57 < SZ) = True := eq_true (by decide)
theorem szl58 : (58 < SZ) = True := eq_true (by decide)
theorem szl59 : (59 < SZ) = True := eq_true (by decide)
theorem szl60 : (60 < SZ) = True := eq_true (by decide)
def takeS : Nat → Sms → Sms
  | 0, _ => .nil
  | n + 1, .cons s r => .cons s (takeS n r)
  | n + 1, .nil => .nil
def dropS : Nat → Sms → Sms
  | 0, r => r
  | n + 1, .cons _ r => dropS n r
  | n + 1, .nil => .nil
theorem execs_split {G : Gx} : ∀ (n : Nat) (b : Sms) (env : Env) (st : Store), execs G b env st = thn (execs G (takeS n b) env st) fun e s => execs G (dropS n b) e s
  | 0, b, env, st => by rw [takeS, execs, dropS]; rfl
  | n + 1, .nil, env, st => by rw [takeS, execs, dropS]; rfl
  | n + 1, .cons s r, env, st => by
    rw [takeS, dropS, execs, execs]
    cases q : exec G s env st with
    | bad => rfl
    | exc x e s => rfl
    | ok f e s =>
      cases f with
      | nx => exact execs_split n r e s
      | _ => rfl
theorem exPs_split {G : Gp} : ∀ (n : Nat) (b : Sms) (env : Env), exPs G b env = thP (exPs G (takeS n b) env) fun e => exPs G (dropS n b) e
  | 0, b, env => by rw [takeS, exPs, dropS]; rfl
  | n + 1, .nil, env => by rw [takeS, exPs, dropS]; rfl
  | n + 1, .cons s r, env => by
    rw [takeS, dropS, exPs, exPs]
    cases q : exP G s env with
    | bad => rfl
    | exc x e => rfl
    | ok f e =>
      cases f with
      | nx => exact exPs_split n r e
      | _ => rfl
def isRet (r : RP) (b : Bool) : Bool := match r with
  | .ok (.ret (.bl c)) _ => b == c
  | _ => false
theorem isRet_at {r : RP} {b : Bool} (h : isRet r b = true) : ∃ e, r = .ok (.ret (.bl b)) e := by
  unfold isRet at h
  split at h
  · rename_i c e; exact ⟨e, by rw [eq_of_beq h]⟩
  · cases h
def isT (r : R D) : Bool := match r with
  | .ok (.bl true) => true
  | _ => false
theorem isT_at {r : R D} (h : isT r = true) : r = .ok (.bl true) := by
  unfold isT at h
  split at h
  · rfl
  · cases h
def isN (r : R D) : Bool := match r with
  | .ok .non => true
  | _ => false
theorem isN_at {r : R D} (h : isN r = true) : r = .ok .non := by
  unfold isN at h
  split at h
  · rfl
  · cases h
/-- what is left of a body knows all that it wants -/
theorem satS_tail {P : Prg} {n : Nat} {ss : Sms} {e0 env : Env} {b : Bool} {st : Store} {Q : Fl → Env → Store → Prop} {E : Exn → Env → Store → Prop} (h : isRet (exPs (gp P (callP P n)) ss e0) b = true) (he : EnvLe e0 env) (q : ∀ e, Q (.ret (.bl b)) e st) : SatS (execs (gx P (callF P n)) ss env st) Q E := by
  obtain ⟨e1, h1⟩ := isRet_at h
  obtain ⟨e2, h2⟩ := execs_pure h1 he st
  exact SatS.of h2 (q e2)
section
variable {α β : Type} {x y : Res α} {Q Q' : α → Store → Prop} {E E' : Exn → Store → Prop} {a : α} {s st : Store} {env : Env} {QS : Fl → Env → Store → Prop} {ES : Exn → Env → Store → Prop} {r r' : RS}
end
end J

/-! JPSat: what holds behind a run without a store -/
namespace J
open PySem L2

def PSat0 {α : Type} (x : R α) (Q : α → Prop) (E : Exn → Prop) : Prop := match x with
  | .ok a => Q a
  | .exc e => E e
  | .bad => False
def PSatS0 (x : RP) (Q : Fl → Env → Prop) (E : Exn → Env → Prop) : Prop := match x with
  | .ok f e => Q f e
  | .exc y e => E y e
  | .bad => False
structure PSat {α : Type} (x : R α) (Q : α → Prop) (E : Exn → Prop) (_t : Tk Q := .mk) (_u : Tk E := .mk) : Prop where
  run : PSat0 x Q E
structure PSatS (x : RP) (Q : Fl → Env → Prop) (E : Exn → Env → Prop) (_t : Tk Q := .mk) (_u : Tk E := .mk) : Prop where
  run : PSatS0 x Q E
def noP : Exn → Prop := fun _ => False
def noPS : Exn → Env → Prop := fun _ _ => False
section
variable {α β : Type} {x y : R α} {Q Q' : α → Prop} {E E' : Exn → Prop} {a : α} {env : Env} {QS : Fl → Env → Prop} {ES : Exn → Env → Prop} {r r' : RP}
theorem psat_ok : PSat (.ok a) Q E = Q a := propext ⟨fun h => h.run, fun h => ⟨h⟩⟩
theorem psat_exc {e : Exn} : PSat (.exc e : R α) Q E = E e := propext ⟨fun h => h.run, fun h => ⟨h⟩⟩
theorem psatS_ok {f : Fl} : PSatS (.ok f env) QS ES = QS f env := propext ⟨fun h => h.run, fun h => ⟨h⟩⟩
theorem psatS_exc {e : Exn} : PSatS (.exc e env) QS ES = ES e env := propext ⟨fun h => h.run, fun h => ⟨h⟩⟩
theorem psat_bad : PSat (.bad : R α) Q E = False := propext ⟨fun h => h.run, fun h => ⟨h⟩⟩
theorem psatS_bad : PSatS .bad QS ES = False := propext ⟨fun h => h.run, fun h => ⟨h⟩⟩
theorem psat_bnd {f : β → R α} {z : R β} : PSat (z.bind f) Q E = PSat z (fun a => PSat (f a) Q E) E := by
  cases z with
  | ok a => rw [psat_ok]; rfl
  | exc e => rw [psat_exc]; exact psat_exc
  | bad => rw [psat_bad]; exact psat_bad
theorem psatS_bndP {f : β → RP} {z : R β} : PSatS (bndP env z f) QS ES = PSat z (fun a => PSatS (f a) QS ES) (fun e => ES e env) := by
  cases z with
  | ok a => rw [psat_ok]; rfl
  | exc e => rw [psat_exc]; exact psatS_exc
  | bad => rw [psat_bad]; exact psatS_bad
def seqP0 (f : Env → RP) (Q : Fl → Env → Prop) (E : Exn → Env → Prop) : Fl → Env → Prop
  | .nx, e => PSatS (f e) Q E
  | .ret d, e => Q (.ret d) e
  | .brk, e => Q .brk e
  | .ct, e => Q .ct e
def seqP (f : Env → RP) (Q : Fl → Env → Prop) (E : Exn → Env → Prop) (_t : Tk f := .mk) (_u : Tk Q := .mk) (_v : Tk E := .mk) : Fl → Env → Prop := seqP0 f Q E
theorem psatS_thP {f : Env → RP} : PSatS (thP r f) QS ES = PSatS r (seqP f QS ES) ES := by
  cases r with
  | ok fl e =>
    rw [psatS_ok]
    cases fl with
    | nx => rfl
    | _ => exact psatS_ok
  | exc e env => rw [psatS_exc]; exact psatS_exc
  | bad => rw [psatS_bad]; exact psatS_bad
theorem seqP_nx {f : Env → RP} : (seqP f QS ES) .nx env = PSatS (f env) QS ES := rfl
theorem seqP_ret {f : Env → RP} {d : D} : (seqP f QS ES) (.ret d) env = QS (.ret d) env := rfl
theorem seqP_brk {f : Env → RP} : (seqP f QS ES) .brk env = QS .brk env := rfl
theorem seqP_ct {f : Env → RP} : (seqP f QS ES) .ct env = QS .ct env := rfl
theorem PSat.mono (h : PSat x Q E) (q : ∀ a, Q a → Q' a) (e : ∀ y, E y → E' y) : PSat x Q' E' := by
  cases x with
  | ok a => exact ⟨q a h.run⟩
  | exc y => exact ⟨e y h.run⟩
  | bad => exact h.run.elim
theorem PSat.imp (h : PSat x Q noP) (q : ∀ a, Q a → Q' a) : PSat x Q' E := h.mono q fun _ h => h.elim
theorem PSat.at (h : PSat x (fun b => b = a) noP) : x = .ok a := by
  cases x with
  | ok b => rw [show b = a from h.run]
  | exc y => exact h.run.elim
  | bad => exact h.run.elim
theorem PSat.at_exc {e : Exn} (h : PSat x (fun _ => False) (fun y => y = e)) : x = .exc e := by
  cases x with
  | ok b => exact h.run.elim
  | exc y => rw [show y = e from h.run]
  | bad => exact h.run.elim
theorem PSat.ex (h : PSat x Q noP) : ∃ a, x = .ok a ∧ Q a := by
  cases x with
  | ok b => exact ⟨b, rfl, h.run⟩
  | exc y => exact h.run.elim
  | bad => exact h.run.elim
theorem PSat.of (h : x = .ok a) (q : Q a) : PSat x Q E := by rw [h]; exact ⟨q⟩
def finP (Q : D → Prop) : Fl → Env → Prop
  | .nx, _ => Q .non
  | .ret d, _ => Q d
  | _, _ => False
theorem finP_nx {Q : D → Prop} : finP Q .nx env = Q .non := rfl
theorem finP_ret {Q : D → Prop} {d : D} : finP Q (.ret d) env = Q d := rfl
theorem psat_run {G : Gp} {f : Fn} {ds : List D} {Q : D → Prop} (hl : ds.length = f.np) (h : PSatS (exPs G f.body (ds.map .val ++ List.replicate (f.nn - f.np) .un)) (finP Q) (fun x _ => E x)) : PSat (runP G f ds) Q E := by
  unfold runP
  rw [if_pos hl]
  have h := h.run
  cases q : exPs G f.body (ds.map .val ++ List.replicate (f.nn - f.np) .un) with
  | bad => rw [q] at h; exact h.elim
  | exc x e => rw [q] at h; exact ⟨h⟩
  | ok fl e =>
    rw [q] at h
    cases fl <;> first | exact ⟨h⟩ | exact h.elim
def turnP (I : Env → Prop) (Q : Fl → Env → Prop) : Fl → Env → Prop
  | .nx, e => I e
  | .ct, e => I e
  | .brk, e => Q .nx e
  | .ret d, e => Q (.ret d) e
theorem turnP_nx {I : Env → Prop} {Q : Fl → Env → Prop} : turnP I Q .nx env = I env := rfl
theorem turnP_ct {I : Env → Prop} {Q : Fl → Env → Prop} : turnP I Q .ct env = I env := rfl
theorem turnP_brk {I : Env → Prop} {Q : Fl → Env → Prop} : turnP I Q .brk env = Q .nx env := rfl
theorem turnP_ret {I : Env → Prop} {Q : Fl → Env → Prop} {d : D} : turnP I Q (.ret d) env = Q (.ret d) env := rfl
theorem psat_for_go {t : Tg} {f : Env → RP} {all : List D} (I : List D → Env → Prop) (step : ∀ pre x post e, all = pre ++ x :: post → I pre e → ∃ e1, asgT t x e = some e1 ∧ PSatS (f e1) (turnP (I (pre ++ [x])) QS) ES)
    (fin : ∀ e, I all e → QS .nx e) : ∀ (xs pre : List D) (env : Env), all = pre ++ xs → I pre env → PSatS (forP t f xs env) QS ES
  | [], pre, env, h, i => by
    rw [List.append_nil] at h
    exact ⟨fin env (h ▸ i)⟩
  | x :: r, pre, env, h, i => by
    obtain ⟨e1, a, b⟩ := step pre x r env h i
    have b := b.run
    rw [forP, a]
    dsimp only
    have next : ∀ e, I (pre ++ [x]) e → PSatS (forP t f r e) QS ES := fun e j => psat_for_go I step fin r (pre ++ [x]) e (by rw [h, List.append_assoc]; rfl) j
    cases q : f e1 with
    | bad => rw [q] at b; exact b.elim
    | exc y e => rw [q] at b; exact ⟨b⟩
    | ok fl e =>
      rw [q] at b
      cases fl with
      | nx => exact next e b
      | ct => exact next e b
      | brk => exact ⟨b⟩
      | ret d => exact ⟨b⟩
theorem psat_for {t : Tg} {f : Env → RP} {xs : List D} (I : List D → Env → Prop) (h0 : I [] env) (step : ∀ pre x post e, xs = pre ++ x :: post → I pre e → ∃ e1, asgT t x e = some e1 ∧ PSatS (f e1) (turnP (I (pre ++ [x])) QS) ES)
    (fin : ∀ e, I xs e → QS .nx e) : PSatS (forP t f xs env) QS ES := psat_for_go I step fin xs [] env rfl h0
/-- over the images of a list -/
theorem psat_forM {t : Tg} {f : Env → RP} {γ : Type} {g : γ → D} {xs : List γ} (I : List γ → Env → Prop) (h0 : I [] env) (step : ∀ pre x post e, xs = pre ++ x :: post → I pre e → ∃ e1, asgT t (g x) e = some e1 ∧ PSatS (f e1) (turnP (I (pre ++ [x])) QS) ES)
    (fin : ∀ e, I xs e → QS .nx e) : PSatS (forP t f (xs.map g) env) QS ES := by
  refine psat_for (fun pre e => ∃ as bs, xs = as ++ bs ∧ pre = as.map g ∧ I as e) ⟨[], xs, rfl, rfl, h0⟩ (fun pre x post e hx ⟨as, bs, q1, q2, i⟩ => ?_) fun e ⟨as, bs, q1, q2, i⟩ => ?_
  · subst q2
    rw [q1, List.map_append] at hx
    have hx := List.append_cancel_left hx
    cases bs with
    | nil => cases hx
    | cons b bs =>
      rw [List.map_cons] at hx
      obtain ⟨rfl, _⟩ := List.cons.inj hx
      obtain ⟨e1, a, s⟩ := step as b bs e q1 i
      refine ⟨e1, a, ?_⟩
      have s := s.run
      have : ∀ e, I (as ++ [b]) e → ∃ as' bs', xs = as' ++ bs' ∧ as.map g ++ [g b] = as'.map g ∧ I as' e := fun e i => ⟨as ++ [b], bs, by rw [q1, List.append_assoc]; rfl, by rw [List.map_append]; rfl, i⟩
      cases q : f e1 with
      | bad => rw [q] at s; exact s.elim
      | exc y e => rw [q] at s; exact ⟨s⟩
      | ok fl e =>
        rw [q] at s
        cases fl with
        | nx => exact ⟨this _ s⟩
        | ct => exact ⟨this _ s⟩
        | brk => exact ⟨s⟩
        | ret d => exact ⟨s⟩
  · have hl : as.length = xs.length := by have := congrArg List.length q2; simpa using this.symm
    have : bs = [] := by
      have := congrArg List.length q1
      rw [List.length_append] at this
      exact List.length_eq_zero_iff.mp (by omega)
    subst this
    rw [List.append_nil] at q1
    exact fin e (q1 ▸ i)
theorem psat_wh_go {t : Env → R Bool} {f : Env → RP} (I : Nat → Env → Prop) (step : ∀ m e, I m e → PSat (t e) (fun b => if b then PSatS (f e) (turnP (fun e' => ∃ m', m' < m ∧ I m' e') QS) ES else QS .nx e) (fun y => ES y e)) : ∀ (n m : Nat) (env : Env), m < n → I m env → PSatS (whP t f n env) QS ES
  | 0, m, env, h, i => absurd h (Nat.not_lt_zero _)
  | n + 1, m, env, h, i => by
    have s := (step m env i).run
    rw [whP]
    cases qt : t env with
    | bad => rw [qt] at s; exact s.elim
    | exc y => rw [qt] at s; exact ⟨s⟩
    | ok b =>
      rw [qt] at s
      cases b with
      | false => exact ⟨s⟩
      | true =>
        have s : PSatS (f env) (turnP (fun e' => ∃ m', m' < m ∧ I m' e') QS) ES := s
        have s := s.run
        dsimp only
        cases q : f env with
        | bad => rw [q] at s; exact s.elim
        | exc y e => rw [q] at s; exact ⟨s⟩
        | ok fl e =>
          rw [q] at s
          cases fl with
          | nx => obtain ⟨m', hm, i'⟩ := s; exact psat_wh_go I step n m' e (by omega) i'
          | ct => obtain ⟨m', hm, i'⟩ := s; exact psat_wh_go I step n m' e (by omega) i'
          | brk => exact ⟨s⟩
          | ret d => exact ⟨s⟩
/-- a while by a measure -/
theorem psat_wh {t : Env → R Bool} {f : Env → RP} (I : Nat → Env → Prop) (m : Nat) (hm : m < 1000000) (h0 : I m env) (step : ∀ m e, I m e → PSat (t e) (fun b => if b then PSatS (f e) (turnP (fun e' => ∃ m', m' < m ∧ I m' e') QS) ES else QS .nx e) (fun y => ES y e)) : PSatS (whP t f loopMax env) QS ES := psat_wh_go I step loopMax m env hm h0
theorem psat_lc_go {f : D → R (Option D)} {all : List D} {Q : List D → Prop} (I : List D → List D → Prop)
    (step : ∀ pre x post acc, all = pre ++ x :: post → I pre acc → PSat (f x) (fun o => match o with
      | some y => I (pre ++ [x]) (acc ++ [y])
      | none => I (pre ++ [x]) acc) noP) (fin : ∀ ys, I all ys → Q ys) :
    ∀ (xs pre acc : List D), all = pre ++ xs → acc.length + xs.length ≤ SZ → I pre acc → PSat (lcP f acc xs) Q E
  | [], pre, acc, h, hz, i => by
    rw [List.append_nil] at h
    exact ⟨fin acc (h ▸ i)⟩
  | x :: r, pre, acc, h, hz, i => by
    rw [List.length_cons] at hz
    have b := (step pre x r acc h i).run
    rw [lcP]
    have e : all = (pre ++ [x]) ++ r := by rw [h, List.append_assoc]; rfl
    cases q : f x with
    | bad => rw [q] at b; exact b.elim
    | exc y => rw [q] at b; exact b.elim
    | ok o =>
      rw [q] at b
      cases o with
      | none => exact psat_lc_go I step fin r (pre ++ [x]) acc e (by omega) b
      | some y =>
        dsimp only
        rw [if_pos (by omega)]
        exact psat_lc_go I step fin r (pre ++ [x]) (acc ++ [y]) e (by rw [List.length_append, List.length_singleton]; omega) b
/-- a comprehension over the images of a list: each one's own -/
theorem psat_lcM {f : D → R (Option D)} {γ : Type} {g : γ → D} {xs : List γ} {Q : List D → Prop} (h : γ → Option D) (hz : xs.length ≤ SZ) (step : ∀ x ∈ xs, PSat (f (g x)) (fun o => o = h x) noP) (fin : Q (xs.filterMap h)) : PSat (lcP f [] (xs.map g)) Q E := by
  have : ∀ (ys : List γ) (acc : List D), (∀ y ∈ ys, y ∈ xs) → acc.length + ys.length ≤ SZ → lcP f acc (ys.map g) = .ok (acc ++ ys.filterMap h) := by
    intro ys
    induction ys with
    | nil => intro acc _ _; rw [List.map_nil, lcP, List.filterMap_nil, List.append_nil]
    | cons y r ih =>
      intro acc hy hz
      rw [List.length_cons] at hz
      rw [List.map_cons, lcP, (step y (hy y List.mem_cons_self)).at]
      have ih := fun acc hz => ih acc (fun z hz => hy z (List.mem_cons_of_mem _ hz)) hz
      cases q : h y with
      | none => dsimp only; rw [ih acc (by omega), List.filterMap_cons, q]
      | some z =>
        dsimp only
        rw [if_pos (by omega), ih (acc ++ [z]) (by rw [List.length_append, List.length_singleton]; omega), List.append_assoc, List.filterMap_cons, q]
        rfl
  rw [this xs [] (fun _ h => h) (by simpa using hz), List.nil_append]
  exact ⟨fin⟩
/-- .. without a condition -/
theorem psat_lcA {f : D → R (Option D)} {γ : Type} {g : γ → D} {xs : List γ} {Q : List D → Prop} (h : γ → D) (hz : xs.length ≤ SZ) (step : ∀ x ∈ xs, PSat (f (g x)) (fun o => o = some (h x)) noP) (fin : Q (xs.map h)) : PSat (lcP f [] (xs.map g)) Q E := psat_lcM (fun x => some (h x)) hz step (by rw [List.filterMap_eq_map' (f := h)] ; exact fin)
/-- two loops -/
theorem psat_lc2 {f : D → List D → R (List D)} {γ : Type} {g : γ → D} {xs : List γ} {Q : List D → Prop} (h : γ → List D) (m : Nat) (hz : m * xs.length ≤ SZ) (hm : ∀ x ∈ xs, (h x).length ≤ m) (step : ∀ x ∈ xs, ∀ acc : List D, acc.length + m ≤ SZ → PSat (f (g x) acc) (fun o => o = acc ++ h x) noP) (fin : Q (xs.flatMap h)) : PSat (lcP2 f [] (xs.map g)) Q E := by
  have : ∀ (ys : List γ) (acc : List D), (∀ y ∈ ys, y ∈ xs) → acc.length + m * ys.length ≤ SZ → lcP2 f acc (ys.map g) = .ok (acc ++ ys.flatMap h) := by
    intro ys
    induction ys with
    | nil => intro acc _ _; rw [List.map_nil, lcP2, List.flatMap_nil, List.append_nil]
    | cons y r ih =>
      intro acc hy hz
      rw [List.length_cons, Nat.mul_add] at hz
      have hl := hm y (hy y List.mem_cons_self)
      rw [List.map_cons, lcP2, (step y (hy y List.mem_cons_self) acc (by omega)).at]
      dsimp only
      rw [ih _ (fun z hz => hy z (List.mem_cons_of_mem _ hz)) (by rw [List.length_append]; omega), List.append_assoc, List.flatMap_cons]
  rw [this xs [] (fun _ h => h) (by simpa using hz), List.nil_append]
  exact ⟨fin⟩
/-- a comprehension inside another one -/
theorem psat_lcI {f : D → R (Option D)} {γ : Type} {g : γ → D} {xs : List γ} {acc : List D} {Q : List D → Prop} (h : γ → Option D) (hz : acc.length + xs.length ≤ SZ) (step : ∀ x ∈ xs, PSat (f (g x)) (fun o => o = h x) noP) (fin : Q (acc ++ xs.filterMap h)) : PSat (lcP f acc (xs.map g)) Q E := by
  rw [lcP_filt (g := fun d => match f d with | .ok o => o | _ => none) _ _ (by rw [List.length_map]; exact hz) fun d hd => ?_]
  · have : ∀ ys : List γ, (∀ y ∈ ys, y ∈ xs) → (ys.map g).filterMap (fun d => match f d with | .ok o => o | _ => none) = ys.filterMap h := by
      intro ys
      induction ys with
      | nil => exact fun _ => rfl
      | cons y r ih =>
        intro hy
        rw [List.map_cons, List.filterMap_cons, List.filterMap_cons, (step y (hy y List.mem_cons_self)).at, ih fun z hz => hy z (List.mem_cons_of_mem _ hz)]
    rw [this xs fun _ h => h]
    exact ⟨fin⟩
  · obtain ⟨x, hx, rfl⟩ := List.mem_map.mp hd
    rw [(step x hx).at]
theorem psat_call {P : Prg} {n i : Nat} {ds : List D} {v : D} {Q : D → Prop} (h : callP P n i ds = .ok v) (q : Q v) : PSat (callP P n i ds) Q E := PSat.of h q
theorem callP_of {P : Prg} {k i : Nat} {fn : Fn} {ds : List D} {v : D} (h : P.fns[i]? = some fn) (hl : ds.length = fn.np) (s : PSatS (exPs (gp P (callP P k)) fn.body (ds.map .val ++ List.replicate (fn.nn - fn.np) .un)) (finP fun b => b = v) (fun _ _ => False)) : callP P (k + 1) i ds = .ok v := by
  rw [callP_at h]
  exact (psat_run hl s).at
end
end J

/-! JDraw: the draw object of the laws, and what is drawn -/
namespace J
open PySem
/-- the draw object -/
def Dr (st : Store) (l : Nat) (xs : List Int) (i a s : Int) : Prop := st[l]? = some (.lst [.lst (xs.map .int), .int i, .int a, .int s])
theorem at2 {w x y z : D} : L2.atI [w, x, y, z] 2 = some y := rfl
theorem at1 {w x y z : D} : L2.atI [w, x, y, z] 1 = some x := rfl
theorem at0 {w x y z : D} : L2.atI [w, x, y, z] 0 = some w := rfl
theorem at3 {w x y z : D} : L2.atI [w, x, y, z] 3 = some z := rfl
theorem set2 {w x y z v : D} : setIdx [w, x, y, z] 2 v = some [w, x, v, z] := rfl
theorem set1 {w x y z v : D} : setIdx [w, x, y, z] 1 v = some [w, v, y, z] := rfl
theorem set3 {w x y z v : D} : setIdx [w, x, y, z] 3 v = some [w, x, y, v] := rfl
theorem get_set {st : Store} {l : Nat} {o o' : MO} (h : st[l]? = some o) : (st.set l o')[l]? = some o' := List.getElem?_set_self (List.getElem?_eq_some_iff.mp h).1
/-- the draw object in its right form -/
def DrOk (st : Store) (l : Nat) : Prop := ∃ xs i a s, Dr st l xs i a s ∧ -1 ≤ i ∧ (∀ x ∈ xs, 0 ≤ x) ∧ 0 ≤ a ∧ 0 ≤ s
theorem atI_nat (xs : List Int) (i : Int) (h0 : 0 ≤ i) (h : i < xs.length) : ∃ x ∈ xs, L2.atI (xs.map D.int) i = some (.int x) := by
  obtain ⟨j, rfl⟩ := Int.eq_ofNat_of_zero_le h0
  have hj : j < xs.length := by omega
  refine ⟨xs[j], List.getElem_mem hj, L2.atI_nat ?_⟩
  rw [List.getElem?_map, List.getElem?_eq_getElem hj]
  rfl
/-- drawn from: nothing else is changed -/
structure Dw (l : Nat) (st st' : Store) : Prop where
  ok : DrOk st' l
  len : st'.length = st.length
  at' : ∀ j, j ≠ l → st'[j]? = st[j]?
theorem Dw.refl {l : Nat} {st : Store} (h : DrOk st l) : Dw l st st := ⟨h, rfl, fun _ _ => rfl⟩
theorem Dw.trans {l : Nat} {st st' st2 : Store} (h : Dw l st st') (k : Dw l st' st2) : Dw l st st2 := ⟨k.ok, k.len.trans h.len, fun j q => (k.at' j q).trans (h.at' j q)⟩
theorem bnd_eq {α β : Type} {x : Res α} {a : α} {s : Store} {f : α → Store → Res β} (h : x = .ok a s) : bnd x f = f a s := by rw [h]; rfl
theorem SZ_eq' : SZ = 16777216 := rfl
theorem range_ok {j : Int} (h0 : 0 ≤ j) (h : j ≤ 1000) : range? [.int j] = some (rngD 0 j) := if_pos ⟨by omega, by omega⟩
theorem rngD_len {j : Int} : (rngD 0 j).length = j.toNat := by unfold rngD; rw [List.length_map, List.length_range]; congr 1; omega
theorem rngD_mem {j : Int} {x : D} (h : x ∈ rngD 0 j) : ∃ i : Nat, x = .int i ∧ (i : Int) < j := by
  unfold rngD at h
  obtain ⟨i, hi, rfl⟩ := List.mem_map.mp h
  have := List.mem_range.mp hi
  exact ⟨i, by rw [Int.zero_add], by omega⟩
/-- tables by name and width -/
abbrev Sch := List (Str × Nat)
def schD (sch : Sch) : D := .tup (sch.map fun p => .tup [.str p.1, .int p.2])
/-- a fact of small counts -/
def FactP (sch : Sch) (m : Nat) (x : D) : Prop := ∃ (nm : Str) (row : List Nat), x = .tup [.str nm, .tup (row.map fun (n : Nat) => .int n)] ∧ (nm, row.length) ∈ sch ∧ ∀ c ∈ row, c < m
inductive Term where
  | cnt (n : Nat) | vr (s : Str)
def encT : Term → D
  | .cnt n => .int n
  | .vr s => .str s
def TermP (names : List Str) (t : Term) : Prop := match t with
  | .cnt n => n < 2
  | .vr s => s ∈ names
structure Atom where
  nm : Str
  ts : List Term
def encA (a : Atom) : D := .tup [.str a.nm, .tup (a.ts.map encT)]
def AtomP (sch : Sch) (names : List Str) (a : Atom) : Prop := (a.nm, a.ts.length) ∈ sch ∧ ∀ t ∈ a.ts, TermP names t
/-- all rows of so many counts below m -/
def allRows (m : Nat) : Nat → List (List Nat)
  | 0 => [[]]
  | n + 1 => (allRows m n).flatMap fun r => (List.range m).map fun c => c :: r
theorem allRows_mem {m : Nat} : ∀ (row : List Nat), (∀ c ∈ row, c < m) → row ∈ allRows m row.length
  | [], _ => List.mem_singleton.mpr rfl
  | c :: r, h => by
    rw [List.length_cons, allRows]
    exact List.mem_flatMap.mpr ⟨r, allRows_mem r fun d hd => h d (List.mem_cons_of_mem _ hd), List.mem_map.mpr ⟨c, List.mem_range.mpr (h c List.mem_cons_self), rfl⟩⟩
def allFacts (sch : Sch) (m : Nat) : List D := sch.flatMap fun p => (allRows m p.2).map fun row => .tup [.str p.1, .tup (row.map fun (n : Nat) => .int n)]
theorem FactP.mem {sch : Sch} {m : Nat} {x : D} (h : FactP sch m x) : x ∈ allFacts sch m := by
  obtain ⟨nm, row, rfl, h1, h2⟩ := h
  exact List.mem_flatMap.mpr ⟨(nm, row.length), h1, List.mem_map.mpr ⟨row, allRows_mem row h2, rfl⟩⟩
/-- all rows of so many things -/
def allOf {α : Type} (xs : List α) : Nat → List (List α)
  | 0 => [[]]
  | n + 1 => (allOf xs n).flatMap fun r => xs.map fun c => c :: r
theorem allOf_mem {α : Type} {xs : List α} : ∀ (row : List α), (∀ c ∈ row, c ∈ xs) → row ∈ allOf xs row.length
  | [], _ => List.mem_singleton.mpr rfl
  | c :: r, h => by
    rw [List.length_cons, allOf]
    exact List.mem_flatMap.mpr ⟨r, allOf_mem r fun d hd => h d (List.mem_cons_of_mem _ hd), List.mem_map.mpr ⟨c, h c List.mem_cons_self, rfl⟩⟩
def allTerms (names : List Str) : List Term := [.cnt 0, .cnt 1] ++ names.map .vr
theorem TermP.mem {names : List Str} {t : Term} (h : TermP names t) : t ∈ allTerms names := by
  unfold allTerms
  cases t with
  | cnt n =>
    have h : n < 2 := h
    match n, h with
    | 0, _ => simp
    | 1, _ => simp
  | vr s => exact List.mem_append_right _ (List.mem_map.mpr ⟨s, h, rfl⟩)
def allAtoms (sch : Sch) (names : List Str) : List Atom := sch.flatMap fun p => (allOf (allTerms names) p.2).map fun ts => ⟨p.1, ts⟩
theorem AtomP.mem {sch : Sch} {names : List Str} {a : Atom} (h : AtomP sch names a) : a ∈ allAtoms sch names := by
  obtain ⟨h1, h2⟩ := h
  exact List.mem_flatMap.mpr ⟨(a.nm, a.ts.length), h1, List.mem_map.mpr ⟨a.ts, allOf_mem a.ts fun t ht => (h2 t ht).mem, rfl⟩⟩
/-- the texts among terms -/
def strsT : List Term → List Str
  | [] => []
  | .cnt _ :: r => strsT r
  | .vr s :: r => s :: strsT r
theorem strsT_mem {s : Str} : ∀ {ts : List Term}, s ∈ strsT ts ↔ Term.vr s ∈ ts
  | [] => by simp [strsT]
  | .cnt n :: r => by simp [strsT, strsT_mem (ts := r)]
  | .vr t :: r => by simp [strsT, strsT_mem (ts := r)]
def atomsStrs (as : List Atom) : List Str := (as.map fun a => strsT a.ts).flatten
def QueryP (sch : Sch) (names : List Str) (most width : Nat) (head : List Term) (body : List Atom) : Prop :=
  body.length ≤ most ∧ (∀ a ∈ body, AtomP sch names a) ∧ head.length = width ∧ ∀ t ∈ head, TermP (atomsStrs body) t
def encQ (head : List Term) (body : List Atom) : D := .tup [.tup (head.map encT), .tup (body.map encA)]
/-! ### lists of what is drawn -/
theorem map_of_all {α : Type} {f : α → D} {P : α → Prop} : ∀ {ys : List D}, (∀ y ∈ ys, ∃ a, y = f a ∧ P a) → ∃ as : List α, ys = as.map f ∧ (∀ a ∈ as, P a) ∧ as.length = ys.length
  | [], _ => ⟨[], rfl, (fun _ h => by cases h), rfl⟩
  | y :: r, h => by
    obtain ⟨a, rfl, pa⟩ := h y List.mem_cons_self
    obtain ⟨as, rfl, p, l⟩ := map_of_all fun z hz => h z (List.mem_cons_of_mem _ hz)
    refine ⟨a :: as, rfl, fun b hb => ?_, by rw [List.length_cons, List.length_cons, l]⟩
    rcases List.mem_cons.mp hb with rfl | hb
    · exact pa
    · exact p b hb
theorem mem_at {xs : List D} {i : Int} (h0 : 0 ≤ i) (h : i < xs.length) : ∃ x ∈ xs, L2.atI xs i = some x := by
  obtain ⟨j, rfl⟩ := Int.eq_ofNat_of_zero_le h0
  have hj : j < xs.length := by omega
  exact ⟨xs[j], List.getElem_mem hj, L2.atI_nat (List.getElem?_eq_getElem hj)⟩
end J
namespace J
open PySem
theorem atI_map {α : Type} {f : α → D} {xs : List α} {r : Nat} (h : (r : Int) < ((xs.map f).length : Int)) : ∃ x ∈ xs, L2.atI (xs.map f) r = some (f x) := by
  rw [List.length_map] at h
  have hr : r < xs.length := by omega
  exact ⟨xs[r], List.getElem_mem hr, L2.atI_nat (by rw [List.getElem?_map, List.getElem?_eq_getElem hr]; rfl)⟩
theorem ite_sz {n : Nat} {α : Type} {a b : α} (h : n ≤ SZ) : (if n ≤ SZ then a else b) = a := if_pos h
end J

/-! JOrd: sorted sets of values -/
namespace J
open PySem PySem.Spec PyProof.Rows L2

theorem Cmpb.sub {l r : List D} (h : Cmpb l) (s : ∀ x ∈ r, x ∈ l) : Cmpb r := ⟨fun d hd => h.1 d (s d hd), fun d hd e he => h.2 d (s d hd) e (s e he)⟩
theorem eqD_iff {d e : D} (h : plain d = true) (a : alikeD d e = true) : eqD d e = true ↔ d = e := by
  constructor
  · exact eqD_eq d e a
  · rintro rfl
    obtain ⟨k, hk, _⟩ := plain_deep h
    exact eqD_refl d hk
theorem memD_iff {x : D} : ∀ {ys : List D}, (∀ y ∈ ys, plain y = true ∧ alikeD y x = true) → (memD x ys = true ↔ x ∈ ys)
  | [], _ => by simp [memD]
  | y :: r, h => by
    obtain ⟨h1, h2⟩ := h y List.mem_cons_self
    rw [memD, Bool.or_eq_true, eqD_iff h1 h2, memD_iff fun z hz => h z (List.mem_cons_of_mem _ hz), List.mem_cons]
    exact ⟨fun h => h.imp Eq.symm id, fun h => h.imp Eq.symm id⟩
theorem memD_dec {x : D} {ys : List D} (h : ∀ y ∈ ys, plain y = true ∧ alikeD y x = true) {p : Prop} [Decidable p] (e : x ∈ ys ↔ p) : memD x ys = decide p := by
  rw [Bool.eq_iff_iff, memD_iff h, decide_eq_true_iff]
  exact e
theorem dedupGo_spec : ∀ (xs seen : List D), Cmpb (seen ++ xs) → ((dedupGo seen xs).Nodup ∧ ∀ x, x ∈ dedupGo seen xs ↔ x ∈ xs ∧ x ∉ seen)
  | [], seen, _ => by simp [dedupGo]
  | x :: r, seen, h => by
    have hx : ∀ y ∈ seen, plain y = true ∧ alikeD y x = true := fun y hy => ⟨h.1 y (List.mem_append_left _ hy), h.2 y (List.mem_append_left _ hy) x (List.mem_append_right _ List.mem_cons_self)⟩
    rw [dedupGo]
    by_cases hm : memD x seen = true
    · rw [if_pos hm]
      obtain ⟨h1, h2⟩ := dedupGo_spec r seen (h.sub fun y hy => by
        rcases List.mem_append.mp hy with q | q
        · exact List.mem_append_left _ q
        · exact List.mem_append_right _ (List.mem_cons_of_mem _ q))
      have hs := (memD_iff hx).mp hm
      refine ⟨h1, fun y => ?_⟩
      rw [h2, List.mem_cons]
      constructor
      · exact fun ⟨a, b⟩ => ⟨.inr a, b⟩
      · rintro ⟨rfl | a, b⟩
        · exact absurd hs b
        · exact ⟨a, b⟩
    · rw [if_neg hm]
      have hs : x ∉ seen := fun z => hm ((memD_iff hx).mpr z)
      obtain ⟨h1, h2⟩ := dedupGo_spec r (seen ++ [x]) (h.sub fun y hy => by
        simp only [List.mem_append, List.mem_cons, List.mem_singleton] at hy ⊢
        rcases hy with (q | q) | q
        · exact .inl q
        · exact .inr (.inl (q.elim id fun z => by cases z))
        · exact .inr (.inr q))
      refine ⟨List.nodup_cons.mpr ⟨fun z => ?_, h1⟩, fun y => ?_⟩
      · exact ((h2 x).mp z).2 (List.mem_append_right _ (List.mem_singleton.mpr rfl))
      · rw [List.mem_cons, h2, List.mem_cons, List.mem_append, List.mem_singleton]
        constructor
        · rintro (rfl | ⟨a, b⟩)
          · exact ⟨.inl rfl, hs⟩
          · exact ⟨.inr a, fun z => b (.inl z)⟩
        · rintro ⟨rfl | a, b⟩
          · exact .inl rfl
          · by_cases e : y = x
            · exact .inl e
            · exact .inr ⟨a, fun z => z.elim b e⟩
theorem dedup_spec {xs : List D} (h : Cmpb xs) : (dedup xs).Nodup ∧ ∀ x, x ∈ dedup xs ↔ x ∈ xs := by
  obtain ⟨h1, h2⟩ := dedupGo_spec xs [] h
  exact ⟨h1, fun x => by rw [dedup, h2]; simp⟩
/-- a < b -/
abbrev LtD (a b : D) : Prop := ltB a b = true
theorem leD_not {l : List D} (h : Cmpb l) {a b : D} (ha : a ∈ l) (hb : b ∈ l) : LtD a b ↔ ¬ leD b a := by
  rw [leD_iff h hb ha]
  simp
theorem LtD.irrefl {l : List D} (h : Cmpb l) {a : D} (ha : a ∈ l) : ¬ LtD a a := by
  rw [leD_not h ha ha]
  exact fun z => z ((leD_total a a).elim id id)
theorem LtD.trans {l : List D} (h : Cmpb l) {a b c : D} (ha : a ∈ l) (hb : b ∈ l) (hc : c ∈ l) (h1 : LtD a b) (h2 : LtD b c) : LtD a c := by
  rw [leD_not h ha hc]
  intro z
  rw [leD_not h ha hb] at h1
  rw [leD_not h hb hc] at h2
  rcases leD_total b c with q | q
  · exact h1 (leD_trans q z)
  · exact h2 q
theorem LtD.tri {l : List D} (h : Cmpb l) {a b : D} (ha : a ∈ l) (hb : b ∈ l) : LtD a b ∨ a = b ∨ LtD b a := by
  cases e : ltB a b with
  | true => exact .inl e
  | false =>
    cases e2 : ltB b a with
    | true => exact .inr (.inr e2)
    | false =>
      obtain ⟨k, hk, _⟩ := plain_deep (h.1 a ha)
      obtain ⟨m, hm, _⟩ := plain_deep (h.1 b hb)
      exact .inr (.inl (ltB_anti a b hk hm (h.2 a ha b hb) e e2))
/-- strictly ascending -/
abbrev Asc (l : List D) : Prop := l.Pairwise LtD
theorem asc_of {l : List D} (h : Cmpb l) (s : l.Pairwise leD) (n : l.Nodup) : Asc l := by
  have n : l.Pairwise (· ≠ ·) := n
  refine (s.imp₂ (fun (a b : D) (x : leD a b) (y : a ≠ b) => And.intro x y) n).imp_of_mem fun {a b} ha hb ⟨x, y⟩ => ?_
  rcases LtD.tri h ha hb with z | z | z
  · exact z
  · exact absurd z y
  · exact absurd x ((leD_not h hb ha).mp z)
/-- the sorted set -/
def srtS (xs : List D) : List D := isort (dedup xs)
theorem srtS_mem {xs : List D} (h : Cmpb xs) {x : D} : x ∈ srtS xs ↔ x ∈ xs := by rw [srtS, (isort_perm _).mem_iff, (dedup_spec h).2]
theorem srtS_asc {xs : List D} (h : Cmpb xs) : Asc (srtS xs) := by
  have hd : Cmpb (dedup xs) := h.sub fun x hx => ((dedup_spec h).2 x).mp hx
  exact asc_of (h.sub fun x hx => (srtS_mem h).mp hx) (isort_sorted hd) ((isort_perm _).nodup_iff.mpr (dedup_spec h).1)
theorem isort_asc {xs : List D} (h : Cmpb xs) (n : xs.Nodup) : Asc (isort xs) := asc_of (h.sub fun x hx => (isort_perm _).mem_iff.mp hx) (isort_sorted h) ((isort_perm _).nodup_iff.mpr n)
theorem isort_mem {xs : List D} {x : D} : x ∈ isort xs ↔ x ∈ xs := (isort_perm _).mem_iff
theorem Asc.nodup {l : List D} (h : Cmpb l) (a : Asc l) : l.Nodup := by
  refine List.Pairwise.imp_of_mem (S := fun a b => a ≠ b) (fun {x y} hx hy (z : LtD x y) e => ?_) a
  subst e
  exact LtD.irrefl h hx z
theorem asc_head {l r : List D} {a b : D} (h : Cmpb (a :: l ++ b :: r)) (x : Asc (a :: l)) (y : Asc (b :: r)) (e : ∀ z, z ∈ a :: l ↔ z ∈ b :: r) : a = b := by
  have ha : a ∈ a :: l ++ b :: r := by simp
  have hb : b ∈ a :: l ++ b :: r := by simp
  rcases List.mem_cons.mp ((e a).mp List.mem_cons_self) with q | q
  · exact q
  · rcases List.mem_cons.mp ((e b).mpr List.mem_cons_self) with z | z
    · exact z.symm
    · have h1 := (List.pairwise_cons.mp y).1 a q
      have h2 := (List.pairwise_cons.mp x).1 b z
      exact absurd (LtD.trans h ha hb ha h2 h1) (LtD.irrefl h ha)
/-- one row of them alone is ascending -/
theorem asc_uniq : ∀ {l r : List D}, Cmpb (l ++ r) → Asc l → Asc r → (∀ z, z ∈ l ↔ z ∈ r) → l = r
  | [], [], _, _, _, _ => rfl
  | [], b :: r, _, _, _, e => absurd ((e b).mpr List.mem_cons_self) (by simp)
  | a :: l, [], _, _, _, e => absurd ((e a).mp List.mem_cons_self) (by simp)
  | a :: l, b :: r, h, x, y, e => by
    have q := asc_head h x y e
    subst q
    have na : ∀ z ∈ l, z ≠ a := fun z hz q => LtD.irrefl h (by simp) (q ▸ (List.pairwise_cons.mp x).1 z hz : LtD a a)
    have nb : ∀ z ∈ r, z ≠ a := fun z hz q => LtD.irrefl h (by simp) (q ▸ (List.pairwise_cons.mp y).1 z hz : LtD a a)
    rw [asc_uniq (h.sub fun z hz => by
      rcases List.mem_append.mp hz with w | w
      · exact List.mem_append_left _ (List.mem_cons_of_mem _ w)
      · exact List.mem_append_right _ (List.mem_cons_of_mem _ w)) (List.pairwise_cons.mp x).2 (List.pairwise_cons.mp y).2 fun z => ⟨fun hz => ?_, fun hz => ?_⟩]
    · exact (List.mem_cons.mp ((e z).mp (List.mem_cons_of_mem _ hz))).resolve_left (na z hz)
    · exact (List.mem_cons.mp ((e z).mpr (List.mem_cons_of_mem _ hz))).resolve_left (nb z hz)
theorem srtS_eq {xs ys : List D} (h : Cmpb (xs ++ ys)) (e : ∀ z, z ∈ xs ↔ z ∈ ys) : srtS xs = srtS ys := by
  have hx : Cmpb xs := h.sub fun z hz => List.mem_append_left _ hz
  have hy : Cmpb ys := h.sub fun z hz => List.mem_append_right _ hz
  refine asc_uniq (h.sub fun z hz => ?_) (srtS_asc hx) (srtS_asc hy) fun z => by rw [srtS_mem hx, srtS_mem hy, e]
  rcases List.mem_append.mp hz with q | q
  · exact List.mem_append_left _ ((srtS_mem hx).mp q)
  · exact List.mem_append_right _ ((srtS_mem hy).mp q)
theorem srtS_id {xs : List D} (h : Cmpb xs) (a : Asc xs) : srtS xs = xs :=
  asc_uniq (h.sub fun z hz => (List.mem_append.mp hz).elim (srtS_mem h).mp id) (srtS_asc h) a fun z => srtS_mem h
/-- pairs of neighbours -/
theorem zip_tail {R : D → D → Prop} : ∀ {xs : List D}, xs.Pairwise R → ∀ p ∈ xs.zip xs.tail, R p.1 p.2
  | [], _, p, hp => by simp at hp
  | [x], _, p, hp => by simp at hp
  | x :: y :: r, h, p, hp => by
    obtain ⟨h1, h2⟩ := List.pairwise_cons.mp h
    rw [List.tail_cons, List.zip_cons_cons] at hp
    rcases List.mem_cons.mp hp with rfl | hp
    · exact h1 y List.mem_cons_self
    · exact zip_tail h2 p (by simpa using hp)
theorem cut_tail {xs : List D} : cutD xs (some 1) none = xs.tail := by
  unfold cutD HT.sIx
  cases xs with
  | nil => simp
  | cons x r => simp; try omega
end J

/-! JVal: lists of texts, of counts, sets -/
namespace J
open PySem
theorem plain_str {s : Str} : plain (.str s) = true := rfl
theorem plain_int {i : Int} : plain (.int i) = true := rfl
theorem cmpb_strs (fs : List Str) : Cmpb (fs.map .str) := ⟨fun d hd => by
  obtain ⟨s, _, rfl⟩ := List.mem_map.mp hd
  rfl, fun d hd e he => by
  obtain ⟨s, _, rfl⟩ := List.mem_map.mp hd
  obtain ⟨t, _, rfl⟩ := List.mem_map.mp he
  rfl⟩
theorem cmpb_ints (fs : List Int) : Cmpb (fs.map .int) := ⟨fun d hd => by
  obtain ⟨s, _, rfl⟩ := List.mem_map.mp hd
  rfl, fun d hd e he => by
  obtain ⟨s, _, rfl⟩ := List.mem_map.mp hd
  obtain ⟨t, _, rfl⟩ := List.mem_map.mp he
  rfl⟩
theorem str_inj : ∀ {s t : Str}, D.str s = D.str t → s = t := fun h => by cases h; rfl
theorem mem_strs {s : Str} {fs : List Str} : D.str s ∈ fs.map D.str ↔ s ∈ fs := ⟨fun h => by
  obtain ⟨t, ht, e⟩ := List.mem_map.mp h
  exact str_inj e ▸ ht, fun h => List.mem_map.mpr ⟨s, h, rfl⟩⟩
theorem memD_strs {s : Str} {fs : List Str} : memD (.str s) (fs.map .str) = decide (s ∈ fs) := memD_dec (fun y hy => by
  obtain ⟨t, _, rfl⟩ := List.mem_map.mp hy
  exact ⟨rfl, rfl⟩) mem_strs
theorem plains_strs {fs : List Str} : (fs.map D.str).all plain = true := List.all_eq_true.mpr fun d hd => (cmpb_strs fs).1 d hd
theorem in_lstS {s : Str} {fs : List Str} : inD (.str s) (.lst (fs.map .str)) = some (decide (s ∈ fs)) := by
  simp only [inD, plain_str, plains_strs, Bool.and_self, if_true, memD_strs]
theorem in_tupS {s : Str} {fs : List Str} : inD (.str s) (.tup (fs.map .str)) = some (decide (s ∈ fs)) := by
  simp only [inD, plain_str, plains_strs, Bool.and_self, if_true, memD_strs]
theorem all_of {α : Type} {f : α → D} {p : D → Bool} {xs : List α} (h : ∀ a ∈ xs, p (f a) = true) : (xs.map f).all p = true := by
  rw [List.all_map]
  exact List.all_eq_true.mpr h
theorem alls_of {xs : List D} (h : ∀ a ∈ xs, ∀ b ∈ xs, alikeD a b = true) : (xs.all fun x => xs.all fun y => alikeD x y) = true := List.all_eq_true.mpr fun a ha => List.all_eq_true.mpr fun b hb => h a ha b hb
/-- sorted of a list of texts -/
theorem sort_strs {fs : List Str} (h : fs.length ≤ SZ) : sortedB [.lst (fs.map .str)] = some (.lst (isort (fs.map .str))) := by
  have e : sortOk (fs.map .str) = true := by
    unfold sortOk
    rw [plains_strs, all_of (p := noTup) (fun _ _ => rfl), alls_of (cmpb_strs fs).2]
    simp
  simp only [sortedB, sortD, e, List.length_map, h, decide_true, Bool.and_self, if_true, Option.map_some]
theorem dedup_len {xs : List D} : (dedup xs).length ≤ xs.length := by
  have : ∀ xs seen, (dedupGo seen xs).length ≤ xs.length := fun xs => by
    induction xs with
    | nil => intro seen; exact Nat.le_refl _
    | cons x r ih =>
      intro seen
      rw [dedupGo]
      split
      · exact Nat.le_succ_of_le (ih seen)
      · exact Nat.succ_le_succ (ih _)
  exact this xs []
theorem srt_strs {fs : List Str} (h : fs.length ≤ 4000) : srtD (.lst (fs.map .str)) = some (.lst (srtS (fs.map .str))) := by
  have e : okSet (fs.map .str) = true := by
    unfold okSet
    rw [all_of (p := keyOk) (fun _ _ => rfl), all_of (p := isS) (fun _ _ => rfl), decide_eq_true (Nat.le_trans dedup_len (by rw [List.length_map]; exact h))]
    simp
  have e2 : srtL (fs.map .str) = some (srtS (fs.map .str)) := by
    unfold srtL
    rw [e, all_of (p := noTup) (fun _ _ => rfl), alls_of (cmpb_strs fs).2]
    simp [srtS]
  simp only [srtD, seq?, Option.bind_some, e2, Option.map_some]
/-- sets of tuples -/
theorem srt_tups {xs : List D} (hc : Cmpb xs) (hk : ∀ x ∈ xs, keyOk x = true) (ht : ∀ x ∈ xs, someTup x = true) (h : xs.length < 64) : srtD (.lst xs) = some (.lst (srtS xs)) := by
  have t2 : xs.all isTp = true := List.all_eq_true.mpr fun x hx => by
    have := ht x hx
    cases x <;> first | rfl | cases this
  have e : okSet xs = true := by
    unfold okSet
    rw [List.all_eq_true.mpr hk, t2, decide_eq_true (Nat.lt_of_le_of_lt dedup_len h)]
    simp
  have e2 : srtL xs = some (srtS xs) := by
    unfold srtL
    rw [e, List.all_eq_true.mpr ht, alls_of hc.2]
    simp [srtS]
  simp only [srtD, seq?, Option.bind_some, e2, Option.map_some]
/-- all values of a list that a test finds right -/
theorem cmpb_mem {xs l : List D} (h : ∀ x ∈ xs, x ∈ l) (hl : (l.all plain && l.all fun x => l.all fun y => alikeD x y) = true) : Cmpb xs := by
  rw [Bool.and_eq_true] at hl
  exact ⟨fun d hd => List.all_eq_true.mp hl.1 d (h d hd), fun d hd e he => List.all_eq_true.mp (List.all_eq_true.mp hl.2 d (h d hd)) e (h e he)⟩
/-- a loop by its invariant -/
theorem forP_go {t : Tg} {f : Env → RP} {all : List D} (I : List D → Env → Prop) (step : ∀ pre x post e, all = pre ++ x :: post → I pre e → ∃ e1, asgT t x e = some e1 ∧ ∃ e2, f e1 = .ok .nx e2 ∧ I (pre ++ [x]) e2) :
    ∀ (xs pre : List D) (env : Env), all = pre ++ xs → I pre env → ∃ e, forP t f xs env = .ok .nx e ∧ I all e
  | [], pre, env, h, i => ⟨env, rfl, by rw [List.append_nil] at h; exact h ▸ i⟩
  | x :: r, pre, env, h, i => by
    obtain ⟨e1, a, e2, b, i2⟩ := step pre x r env h i
    obtain ⟨e, c, j⟩ := forP_go I step r (pre ++ [x]) e2 (by rw [h, List.append_assoc]; rfl) i2
    exact ⟨e, by rw [forP, a]; dsimp only; rw [b]; exact c, j⟩
theorem forP_ok {t : Tg} {f : Env → RP} {xs : List D} {env : Env} (I : List D → Env → Prop) (h0 : I [] env) (step : ∀ pre x post e, xs = pre ++ x :: post → I pre e → ∃ e1, asgT t x e = some e1 ∧ ∃ e2, f e1 = .ok .nx e2 ∧ I (pre ++ [x]) e2) : ∃ e, forP t f xs env = .ok .nx e ∧ I xs e := forP_go I step xs [] env rfl h0
theorem isTy_encT {t : Term} : isTy .str (encT t) = some (match t with | .cnt _ => false | .vr _ => true) := by cases t <;> rfl
theorem nr_encT {t : Term} : nr (encT t) = true := by cases t <;> rfl
theorem nr_encA {a : Atom} : nr (encA a) = true := rfl
/-- the texts among terms that a test lets through -/
def strsIf (p : Str → Bool) (ts : List Term) : List Str := (strsT ts).filter p
theorem strsIf_map (p : Str → Bool) : ∀ ts : List Term, (ts.map encT).filterMap (fun d => match d with | .str s => if p s then some (D.str s) else none | _ => none) = (strsIf p ts).map .str
  | [] => rfl
  | .cnt n :: r => by
    rw [List.map_cons, List.filterMap_cons, strsIf_map p r]
    rfl
  | .vr s :: r => by
    have ih := strsIf_map p r
    unfold strsIf at ih ⊢
    rw [List.map_cons, List.filterMap_cons, ih, strsT, List.filter_cons]
    simp only [encT]
    cases p s <;> rfl
/-- at most so deep -/
def DeepLe (n : Nat) (x : D) : Prop := ∃ k, deep x = some k ∧ k ≤ n
theorem deeps_le {n : Nat} : ∀ {xs : List D}, (∀ x ∈ xs, DeepLe n x) → ∃ k, deeps xs = some k ∧ k ≤ n
  | [], _ => ⟨0, rfl, Nat.zero_le _⟩
  | x :: r, h => by
    obtain ⟨a, ha, la⟩ := h x List.mem_cons_self
    obtain ⟨b, hb, lb⟩ := deeps_le fun y hy => h y (List.mem_cons_of_mem _ hy)
    exact ⟨max a b, by rw [deeps, ha, hb], Nat.max_le.mpr ⟨la, lb⟩⟩
theorem DeepLe.tup {n : Nat} {xs : List D} (h : ∀ x ∈ xs, DeepLe n x) : DeepLe (n + 1) (.tup xs) := by
  obtain ⟨k, e, l⟩ := deeps_le h
  exact ⟨k + 1, by rw [deep, e]; rfl, Nat.succ_le_succ l⟩
theorem DeepLe.lst {n : Nat} {xs : List D} (h : ∀ x ∈ xs, DeepLe n x) : DeepLe (n + 1) (.lst xs) := by
  obtain ⟨k, e, l⟩ := deeps_le h
  exact ⟨k + 1, by rw [deep, e]; rfl, Nat.succ_le_succ l⟩
theorem DeepLe.str {n : Nat} {s : Str} : DeepLe n (.str s) := ⟨0, rfl, Nat.zero_le _⟩
theorem DeepLe.int {n : Nat} {i : Int} : DeepLe n (.int i) := ⟨0, rfl, Nat.zero_le _⟩
theorem DeepLe.non {n : Nat} : DeepLe n .non := ⟨0, rfl, Nat.zero_le _⟩
theorem DeepLe.bl {n : Nat} {b : Bool} : DeepLe n (.bl b) := ⟨0, rfl, Nat.zero_le _⟩
theorem DeepLe.mono {n m : Nat} {x : D} (h : DeepLe n x) (l : n ≤ m) : DeepLe m x := let ⟨k, e, q⟩ := h; ⟨k, e, Nat.le_trans q l⟩
theorem DeepLe.plain {n : Nat} {x : D} (h : DeepLe n x) (l : n ≤ 60) : plain x = true := by
  obtain ⟨k, e, q⟩ := h
  unfold J.plain
  rw [e]
  exact decide_eq_true (Nat.le_trans q l)
theorem deepLe_strs {fs : List Str} : ∀ x ∈ fs.map D.str, DeepLe 0 x := fun x hx => by
  obtain ⟨s, _, rfl⟩ := List.mem_map.mp hx
  exact .str
theorem deepLe_encT {t : Term} : DeepLe 0 (encT t) := by cases t <;> first | exact .int | exact .str
theorem deepLe_encA {a : Atom} : DeepLe 2 (encA a) := .tup fun x hx => by
  rcases List.mem_cons.mp hx with rfl | hx
  · exact .str
  · rw [List.mem_singleton.mp hx]
    exact .tup fun y hy => by
      obtain ⟨t, _, rfl⟩ := List.mem_map.mp hy
      exact deepLe_encT
theorem ne_lstS_nil {fs : List Str} : cmpD .ne (.lst (fs.map .str)) (.lst []) = some (!fs.isEmpty) := by
  rw [cmpD, (DeepLe.lst deepLe_strs).plain (by decide), (DeepLe.lst (n := 0) (xs := []) fun x hx => by cases hx).plain (by decide)]
  cases fs <;> rfl
/-- sorted texts are texts -/
theorem isort_strs (fs : List Str) : ∃ ns : List Str, isort (fs.map .str) = ns.map .str ∧ (∀ s, s ∈ ns ↔ s ∈ fs) ∧ ns.length = fs.length := by
  obtain ⟨ns, e, _, l⟩ := map_of_all (f := D.str) (P := fun _ => True) (ys := isort (fs.map .str)) fun y hy => by
    obtain ⟨s, _, rfl⟩ := List.mem_map.mp (isort_mem.mp hy)
    exact ⟨s, rfl, trivial⟩
  refine ⟨ns, e, fun s => ?_, by rw [l, (isort_perm _).length_eq, List.length_map]⟩
  rw [← mem_strs (fs := ns), ← e, isort_mem, mem_strs]
theorem alike_ints : ∀ (a b : List D), (∀ x ∈ a, ∃ i : Int, x = .int i) → (∀ x ∈ b, ∃ i : Int, x = .int i) → alikeDs a b = true
  | [], _, _, _ => by cases ‹List D› <;> rfl
  | _ :: _, [], _, _ => rfl
  | x :: a, y :: b, ha, hb => by
    obtain ⟨i, rfl⟩ := ha x List.mem_cons_self
    obtain ⟨j, rfl⟩ := hb y List.mem_cons_self
    rw [alikeDs, alike_ints a b (fun z hz => ha z (List.mem_cons_of_mem _ hz)) fun z hz => hb z (List.mem_cons_of_mem _ hz)]
    rfl
theorem FactP.alike {sch : Sch} {m : Nat} {x y : D} (hx : FactP sch m x) (hy : FactP sch m y) : alikeD x y = true := by
  obtain ⟨n1, r1, rfl, _, _⟩ := hx
  obtain ⟨n2, r2, rfl, _, _⟩ := hy
  have e := alike_ints (r1.map fun (n : Nat) => .int n) (r2.map fun (n : Nat) => .int n) (fun x hx => by obtain ⟨i, _, rfl⟩ := List.mem_map.mp hx; exact ⟨_, rfl⟩) (fun x hx => by obtain ⟨i, _, rfl⟩ := List.mem_map.mp hx; exact ⟨_, rfl⟩)
  simp only [alikeD, alikeDs, e, Bool.and_self]
theorem FactP.deepLe {sch : Sch} {m : Nat} {x : D} (hx : FactP sch m x) : DeepLe 2 x := by
  obtain ⟨n1, r1, rfl, _, _⟩ := hx
  refine .tup fun x hx => ?_
  rcases List.mem_cons.mp hx with rfl | hx
  · exact .str
  · rw [List.mem_singleton.mp hx]
    exact .tup fun y hy => by
      obtain ⟨t, _, rfl⟩ := List.mem_map.mp hy
      exact .int
theorem hashables_ints : ∀ {xs : List D}, (∀ x ∈ xs, ∃ i : Int, x = .int i) → hashables xs = true
  | [], _ => rfl
  | x :: r, h => by
    obtain ⟨i, rfl⟩ := h x List.mem_cons_self
    rw [hashables, hashables_ints fun y hy => h y (List.mem_cons_of_mem _ hy)]
    rfl
theorem FactP.key {sch : Sch} {m : Nat} {x : D} (hx : FactP sch m x) : keyOk x = true := by
  obtain ⟨k, e, l⟩ := hx.deepLe
  obtain ⟨n1, r1, rfl, _, _⟩ := hx
  unfold keyOk
  rw [e]
  have : hashable (.tup [.str n1, .tup (r1.map fun (n : Nat) => .int n)]) = true := by
    simp only [hashable, hashables, Bool.and_true, Bool.true_and]
    exact hashables_ints fun x hx => by
      obtain ⟨t, _, rfl⟩ := List.mem_map.mp hx
      exact ⟨_, rfl⟩
  rw [this]
  exact decide_eq_true (by omega)
theorem FactP.some {sch : Sch} {m : Nat} {x : D} (hx : FactP sch m x) : someTup x = true := by
  obtain ⟨n1, r1, rfl, _, _⟩ := hx
  rfl
theorem cmpb_facts {sch : Sch} {m : Nat} {xs : List D} (h : ∀ x ∈ xs, FactP sch m x) : Cmpb xs := ⟨fun d hd => (h d hd).deepLe.plain (by decide), fun d hd e he => (h d hd).alike (h e he)⟩
theorem isort_len (xs : List D) : (isort xs).length = xs.length := (isort_perm xs).length_eq
theorem srtS_len (xs : List D) : (srtS xs).length ≤ xs.length := by rw [srtS, isort_len]; exact dedup_len
theorem srtS_strs (fs : List Str) : ∃ ns : List Str, srtS (fs.map .str) = ns.map .str ∧ (∀ s, s ∈ ns ↔ s ∈ fs) ∧ ns.length ≤ fs.length := by
  obtain ⟨ns, e, _, l⟩ := map_of_all (f := D.str) (P := fun _ => True) (ys := srtS (fs.map .str)) fun y hy => by
    obtain ⟨s, _, rfl⟩ := List.mem_map.mp ((srtS_mem (cmpb_strs fs)).mp hy)
    exact ⟨s, rfl, trivial⟩
  refine ⟨ns, e, fun s => ?_, by rw [l]; exact Nat.le_trans (srtS_len _) (by rw [List.length_map]; exact Nat.le_refl _)⟩
  rw [← mem_strs (fs := ns), ← e, srtS_mem (cmpb_strs fs), mem_strs]
/-- a text among terms -/
def vrD : Term → Option D
  | .vr s => some (.str s)
  | .cnt _ => none
theorem strsT_filt : ∀ ts : List Term, ts.filterMap vrD = (strsT ts).map .str
  | [] => rfl
  | .cnt n :: r => by rw [List.filterMap_cons, strsT_filt r]; rfl
  | .vr s :: r => by rw [List.filterMap_cons, strsT_filt r]; rfl
theorem strsT_app : ∀ a b : List Term, strsT (a ++ b) = strsT a ++ strsT b
  | [], _ => rfl
  | .cnt n :: r, b => by rw [List.cons_append, strsT, strsT, strsT_app r b]
  | .vr s :: r, b => by rw [List.cons_append, strsT, strsT, strsT_app r b]; rfl
theorem strsT_flat : ∀ as : List Atom, strsT (as.flatMap (·.ts)) = atomsStrs as
  | [] => rfl
  | a :: r => by rw [List.flatMap_cons, strsT_app, strsT_flat r]; rfl
theorem strsT_le : ∀ ts : List Term, (strsT ts).length ≤ ts.length
  | [] => Nat.le_refl _
  | .cnt _ :: r => Nat.le_succ_of_le (strsT_le r)
  | .vr _ :: r => Nat.succ_le_succ (strsT_le r)
theorem flat_len {w : Nat} : ∀ {as : List Atom}, (∀ a ∈ as, a.ts.length ≤ w) → (as.flatMap (·.ts)).length ≤ w * as.length
  | [], _ => Nat.zero_le _
  | a :: r, h => by
    rw [List.flatMap_cons, List.length_append, List.length_cons, Nat.mul_add]
    have := h a List.mem_cons_self
    have := flat_len (as := r) fun b hb => h b (List.mem_cons_of_mem _ hb)
    omega
end J

namespace L_k00
open PySem PySem.Spec PyProof.Rows L2 J
def top (i : Nat) : Stmt := PySem.Challenge.pw_joinward_k00_schemas_bases_and_queries.main.body.getD i (.Pass ⟨0, 0, 0, 0⟩)
def n0 : List Str := [("value" : Str), ("low" : Str), ("high" : Str)]
def b0 : Sms := (.cons (.iff (.ors (.cons (.not (.ex (.bt (.isi .int) (.cons (.var 0) .nil)))) (.cons (.ex (.bt (.isi .bool) (.cons (.var 0) .nil))) (.nil)))) (.cons (.ret (.bl false)) .nil) .nil) (.cons (.ret (.ands (.cons (.ors (.cons (.cmp .is (.var 1) (.non)) (.cons (.cmp .ge (.var 0) (.var 1)) .nil))) (.cons (.ors (.cons (.cmp .is (.var 2) (.non)) (.cons (.cmp .le (.var 0) (.var 2)) .nil))) .nil)))) .nil))
def n1 : List Str := [("value" : Str), ("low" : Str), ("high" : Str), ("one" : Str)]
def b1 : Sms := (.cons (.ret (.ands (.cons (.bt (.isi .tuple) (.cons (.var 0) .nil)) (.cons (.bt .all (.cons (.lc (.fn 0 (.cons (.var 3) (.cons (.var 1) (.cons (.var 2) .nil)))) (.mk (.name 3) (.ex (.var 0)) .yes [3])) .nil)) .nil)))) .nil)
def n2 : List Str := [("value" : Str), ("sign" : Str)]
def b2 : Sms := (.cons (.ret (.ands (.cons (.bt (.isi .str) (.cons (.var 0) .nil)) (.cons (.chain .le .le (.int 1) (.bt .len (.cons (.var 0) .nil)) (.glo 4)) (.cons (.bt .all (.cons (.lc (.chain .le .le (.str ("a" : Str)) (.var 1) (.str ("z" : Str))) (.mk (.name 1) (.ex (.var 0)) .yes [1])) .nil)) .nil))))) .nil)
def n3 : List Str := [("value" : Str), ("sign" : Str)]
def b3 : Sms := (.cons (.ret (.ands (.cons (.bt (.isi .str) (.cons (.var 0) .nil)) (.cons (.chain .le .le (.int 1) (.bt .len (.cons (.var 0) .nil)) (.glo 5)) (.cons (.bt .all (.cons (.lc (.chain .le .le (.str ("A" : Str)) (.var 1) (.str ("Z" : Str))) (.mk (.name 1) (.ex (.var 0)) .yes [1])) .nil)) .nil))))) .nil)
def n4 : List Str := [("value" : Str)]
def b4 : Sms := (.cons (.ret (.ors (.cons (.fn 3 (.cons (.var 0) .nil)) (.cons (.fn 0 (.cons (.var 0) (.cons (.int 0) (.cons (.non) .nil)))) .nil)))) .nil)
def n5 : List Str := [("rows" : Str), ("one" : Str), ("other" : Str)]
def b5 : Sms := (.cons (.ret (.bt .all (.cons (.lc (.cmp .lt (.var 1) (.var 2)) (.mk (.tup [.name 1, .name 2]) (.zip (.var 0) (.slc (.var 0) (some (.int 1)) none)) .yes [1, 2])) .nil))) .nil)
def n6 : List Str := [("value" : Str), ("one" : Str), ("names" : Str), ("name" : Str), ("_" : Str)]
def b6 : Sms := (.cons (.iff (.ors (.cons (.not (.ex (.bt (.isi .tuple) (.cons (.var 0) .nil)))) (.cons (.ex (.cmp .gt (.bt .len (.cons (.var 0) .nil)) (.glo 0))) (.nil)))) (.cons (.ret (.bl false)) .nil) .nil) (.cons (.for_ (.name 1) (.ex (.var 0)) (.cons (.iff (.ors (.cons (.not (.ex (.bt (.isi .tuple) (.cons (.var 1) .nil)))) (.cons (.ex (.cmp .ne (.bt .len (.cons (.var 1) .nil)) (.int 2))) (.cons (.not (.ex (.fn 2 (.cons (.ix (.var 1) (.int 0)) .nil)))) (.cons (.not (.ex (.fn 0 (.cons (.ix (.var 1) (.int 1)) (.cons (.int 1) (.cons (.glo 1) .nil)))))) (.nil)))))) (.cons (.ret (.bl false)) .nil) .nil) .nil)) (.cons (.asg (.name 2) (.lc (.var 3) (.mk (.tup [.name 3, .name 4]) (.ex (.var 0)) .yes [3, 4]))) (.cons (.ret (.fn 5 (.cons (.var 2) .nil))) .nil))))
def n7 : List Str := [("schema" : Str)]
def b7 : Sms := (.cons (.iff (.not (.ex (.fn 6 (.cons (.var 0) .nil)))) (.cons (.raise 1 none) .nil) .nil) .nil)
def n8 : List Str := [("schema" : Str), ("name" : Str), ("one" : Str), ("width" : Str)]
def b8 : Sms := (.cons (.for_ (.tup [.name 2, .name 3]) (.ex (.var 0)) (.cons (.iff (.ex (.cmp .eq (.var 2) (.var 1))) (.cons (.ret (.var 3)) .nil) .nil) .nil)) (.cons (.ret (.non)) .nil))
def n9 : List Str := [("schema" : Str), ("value" : Str)]
def b9 : Sms := (.cons (.iff (.ors (.cons (.not (.ex (.bt (.isi .tuple) (.cons (.var 1) .nil)))) (.cons (.ex (.cmp .ne (.bt .len (.cons (.var 1) .nil)) (.int 2))) (.cons (.not (.ex (.fn 2 (.cons (.ix (.var 1) (.int 0)) .nil)))) (.cons (.not (.ex (.bt (.isi .tuple) (.cons (.ix (.var 1) (.int 1)) .nil)))) (.nil)))))) (.cons (.ret (.bl false)) .nil) .nil) (.cons (.ret (.cmp .eq (.fn 8 (.cons (.var 0) (.cons (.ix (.var 1) (.int 0)) .nil))) (.bt .len (.cons (.ix (.var 1) (.int 1)) .nil)))) .nil))
def n10 : List Str := [("schema" : Str), ("value" : Str)]
def b10 : Sms := (.cons (.ret (.ands (.cons (.fn 9 (.cons (.var 0) (.cons (.var 1) .nil))) (.cons (.fn 1 (.cons (.ix (.var 1) (.int 1)) (.cons (.int 0) (.cons (.non) .nil)))) .nil)))) .nil)
def n11 : List Str := [("schema" : Str), ("value" : Str), ("one" : Str)]
def b11 : Sms := (.cons (.ret (.ands (.cons (.bt (.isi .tuple) (.cons (.var 1) .nil)) (.cons (.bt .all (.cons (.lc (.fn 10 (.cons (.var 0) (.cons (.var 2) .nil))) (.mk (.name 2) (.ex (.var 1)) .yes [2])) .nil)) (.cons (.fn 5 (.cons (.var 1) .nil)) .nil))))) .nil)
def n12 : List Str := [("schema" : Str), ("base" : Str)]
def b12 : Sms := (.cons (.iff (.not (.ex (.fn 11 (.cons (.var 0) (.cons (.var 1) .nil))))) (.cons (.raise 1 none) .nil) .nil) .nil)
def n13 : List Str := [("schema" : Str), ("value" : Str), ("term" : Str)]
def b13 : Sms := (.cons (.ret (.ands (.cons (.fn 9 (.cons (.var 0) (.cons (.var 1) .nil))) (.cons (.bt .all (.cons (.lc (.fn 4 (.cons (.var 2) .nil)) (.mk (.name 2) (.ex (.ix (.var 1) (.int 1))) .yes [2])) .nil)) .nil)))) .nil)
def n14 : List Str := [("atoms" : Str), ("_" : Str), ("terms" : Str), ("term" : Str)]
def b14 : Sms := (.cons (.ret (.lc2 (.var 3) (.mk (.tup [.name 1, .name 2]) (.ex (.var 0)) .yes [1, 2, 3]) (.mk (.name 3) (.ex (.var 2)) .yes [3]))) .nil)
def n15 : List Str := [("terms" : Str), ("term" : Str)]
def b15 : Sms := (.cons (.ret (.bt .tuple (.cons (.srt (.lc (.var 1) (.mk (.name 1) (.ex (.var 0)) (.ex (.bt (.isi .str) (.cons (.var 1) .nil))) [1]))) .nil))) .nil)
def n16 : List Str := [("query" : Str)]
def b16 : Sms := (.cons (.ret (.fn 15 (.cons (.fn 14 (.cons (.ix (.var 0) (.int 1)) .nil)) .nil))) .nil)
def n17 : List Str := [("query" : Str), ("known" : Str), ("name" : Str)]
def b17 : Sms := (.cons (.asg (.name 1) (.fn 16 (.cons (.var 0) .nil))) (.cons (.ret (.bt .all (.cons (.lc (.cmp .inn (.var 2) (.var 1)) (.mk (.name 2) (.ex (.fn 15 (.cons (.ix (.var 0) (.int 0)) .nil))) .yes [2])) .nil))) .nil))
def n18 : List Str := [("schema" : Str), ("value" : Str), ("atom" : Str), ("term" : Str)]
def b18 : Sms := (.cons (.iff (.ors (.cons (.not (.ex (.bt (.isi .tuple) (.cons (.var 1) .nil)))) (.cons (.ex (.cmp .ne (.bt .len (.cons (.var 1) .nil)) (.int 2))) (.cons (.not (.ex (.bt (.isi .tuple) (.cons (.ix (.var 1) (.int 0)) .nil)))) (.nil))))) (.cons (.ret (.bl false)) .nil) .nil) (.cons (.iff (.ors (.cons (.ex (.cmp .gt (.bt .len (.cons (.ix (.var 1) (.int 0)) .nil)) (.glo 1))) (.cons (.not (.ex (.bt .all (.cons (.lc (.fn 4 (.cons (.var 3) .nil)) (.mk (.name 3) (.ex (.ix (.var 1) (.int 0))) .yes [3])) .nil)))) (.nil)))) (.cons (.ret (.bl false)) .nil) .nil) (.cons (.iff (.ors (.cons (.not (.ex (.bt (.isi .tuple) (.cons (.ix (.var 1) (.int 1)) .nil)))) (.cons (.ex (.cmp .gt (.bt .len (.cons (.ix (.var 1) (.int 1)) .nil)) (.glo 2))) (.nil)))) (.cons (.ret (.bl false)) .nil) .nil) (.cons (.ret (.ands (.cons (.bt .all (.cons (.lc (.fn 13 (.cons (.var 0) (.cons (.var 2) .nil))) (.mk (.name 2) (.ex (.ix (.var 1) (.int 1))) .yes [2])) .nil)) (.cons (.fn 17 (.cons (.var 1) .nil)) .nil)))) .nil))))
def n19 : List Str := [("schema" : Str), ("query" : Str)]
def b19 : Sms := (.cons (.iff (.not (.ex (.fn 18 (.cons (.var 0) (.cons (.var 1) .nil))))) (.cons (.raise 1 none) .nil) .nil) .nil)
def n20 : List Str := [("schema" : Str), ("value" : Str), ("one" : Str)]
def b20 : Sms := (.cons (.iff (.ors (.cons (.not (.ex (.bt (.isi .tuple) (.cons (.var 1) .nil)))) (.cons (.not (.ex (.chain .le .le (.int 1) (.bt .len (.cons (.var 1) .nil)) (.glo 3)))) (.nil)))) (.cons (.ret (.bl false)) .nil) .nil) (.cons (.ret (.ands (.cons (.bt .all (.cons (.lc (.fn 18 (.cons (.var 0) (.cons (.var 2) .nil))) (.mk (.name 2) (.ex (.var 1)) .yes [2])) .nil)) (.cons (.cmp .eq (.lset (.lc (.bt .len (.cons (.ix (.var 2) (.int 0)) .nil)) (.mk (.name 2) (.ex (.var 1)) .yes [2]))) (.int 1)) .nil)))) .nil))
def n21 : List Str := [("schema" : Str), ("union" : Str)]
def b21 : Sms := (.cons (.iff (.not (.ex (.fn 20 (.cons (.var 0) (.cons (.var 1) .nil))))) (.cons (.raise 1 none) .nil) .nil) .nil)
def n22 : List Str := [("script" : Str), ("seed" : Str), ("cell" : Str)]
def b22 : Sms := (.cons (.asg (.name 1) (.int 7)) (.cons (.for_ (.name 2) (.ex (.var 0)) (.cons (.asg (.name 1) (.bin .mod (.bt .int (.cons (.bin .add (.bin .add (.bin .mul (.var 1) (.int 48271)) (.bin .mod (.bt .abs (.cons (.bt .int (.cons (.var 2) .nil)) .nil)) (.int 65521))) (.int 1)) .nil)) (.int 2147483647))) .nil)) (.cons (.ret (.new (.cons (.lc (.bt .abs (.cons (.bt .int (.cons (.var 2) .nil)) .nil)) (.mk (.name 2) (.ex (.var 0)) .yes [2])) (.cons (.neg (.int 1)) (.cons (.int 0) (.cons (.var 1) .nil)))))) .nil)))
def n23 : List Str := [("draw" : Str), ("many" : Str), ("found" : Str)]
def b23 : Sms := (.cons (.iff (.ex (.cmp .eq (.ix (.var 0) (.int 2)) (.int 0))) (.cons (.setR (.var 0) (.int 1) (.bin .add (.ix (.var 0) (.int 1)) (.int 1))) (.cons (.iff (.ex (.cmp .lt (.ix (.var 0) (.int 1)) (.bt .len (.cons (.ix (.var 0) (.int 0)) .nil)))) (.cons (.setR (.var 0) (.int 2) (.ix (.ix (.var 0) (.int 0)) (.ix (.var 0) (.int 1)))) .nil) .nil) (.cons (.iff (.ex (.cmp .eq (.ix (.var 0) (.int 2)) (.int 0))) (.cons (.setR (.var 0) (.int 3) (.bin .mod (.bt .int (.cons (.bin .add (.bin .mul (.ix (.var 0) (.int 3)) (.int 48271)) (.int 11)) .nil)) (.int 2147483647))) (.cons (.setR (.var 0) (.int 2) (.ix (.var 0) (.int 3))) .nil)) .nil) .nil))) .nil) (.cons (.asg (.name 2) (.bin .mod (.bt .int (.cons (.ix (.var 0) (.int 2)) .nil)) (.var 1))) (.cons (.setR (.var 0) (.int 2) (.bin .fdiv (.ix (.var 0) (.int 2)) (.var 1))) (.cons (.ret (.var 2)) .nil))))
def n24 : List Str := [("draw" : Str), ("schema" : Str), ("many" : Str), ("name" : Str), ("width" : Str), ("k" : Str)]
def b24 : Sms := (.cons (.asg (.tup [.name 3, .name 4]) (.ix (.var 1) (.fn 23 (.cons (.var 0) (.cons (.bt .len (.cons (.var 1) .nil)) .nil))))) (.cons (.ret (.tup (.cons (.var 3) (.cons (.bt .tuple (.cons (.lc (.fn 23 (.cons (.var 0) (.cons (.var 2) .nil))) (.mk (.name 5) (.rng (.cons (.var 4) .nil)) .yes [5])) .nil)) .nil)))) .nil))
def n25 : List Str := [("draw" : Str), ("schema" : Str), ("most" : Str), ("many" : Str), ("k" : Str)]
def b25 : Sms := (.cons (.ret (.bt .tuple (.cons (.srt (.lc (.fn 24 (.cons (.var 0) (.cons (.var 1) (.cons (.var 3) .nil)))) (.mk (.name 4) (.rng (.cons (.fn 23 (.cons (.var 0) (.cons (.bin .add (.var 2) (.int 1)) .nil))) .nil)) .yes [4]))) .nil))) .nil)
def n26 : List Str := [("draw" : Str), ("schema" : Str), ("names" : Str), ("name" : Str), ("width" : Str), ("k" : Str)]
def b26 : Sms := (.cons (.asg (.tup [.name 3, .name 4]) (.ix (.var 1) (.fn 23 (.cons (.var 0) (.cons (.bt .len (.cons (.var 1) .nil)) .nil))))) (.cons (.ret (.tup (.cons (.var 3) (.cons (.bt .tuple (.cons (.lc (.ite (.ex (.cmp .gt (.fn 23 (.cons (.var 0) (.cons (.int 6) .nil))) (.int 0))) (.ix (.var 2) (.fn 23 (.cons (.var 0) (.cons (.bt .len (.cons (.var 2) .nil)) .nil)))) (.fn 23 (.cons (.var 0) (.cons (.int 2) .nil)))) (.mk (.name 5) (.rng (.cons (.var 4) .nil)) .yes [5])) .nil)) .nil)))) .nil))
def n27 : List Str := [("atoms" : Str), ("found" : Str), ("name" : Str), ("terms" : Str), ("term" : Str)]
def b27 : Sms := (.cons (.asg (.name 1) (.lst .nil)) (.cons (.for_ (.tup [.name 2, .name 3]) (.ex (.var 0)) (.cons (.asg (.name 1) (.bin .add (.var 1) (.lc (.var 4) (.mk (.name 4) (.ex (.var 3)) (.ands (.cons (.ex (.bt (.isi .str) (.cons (.var 4) .nil))) (.cons (.ex (.cmp .notin (.var 4) (.var 1))) (.nil)))) [4])))) .nil)) (.cons (.ret (.bt .sorted (.cons (.var 1) .nil))) .nil)))
def n28 : List Str := [("draw" : Str), ("schema" : Str), ("most" : Str), ("width" : Str), ("body" : Str), ("names" : Str), ("k" : Str)]
def b28 : Sms := (.cons (.asg (.name 4) (.bt .tuple (.cons (.lc (.fn 26 (.cons (.var 0) (.cons (.var 1) (.cons (.lst (.cons (.str ("X" : Str)) (.cons (.str ("Y" : Str)) (.cons (.str ("Z" : Str)) (.cons (.str ("U" : Str)) .nil))))) .nil)))) (.mk (.name 6) (.rng (.cons (.fn 23 (.cons (.var 0) (.cons (.bin .add (.var 2) (.int 1)) .nil))) .nil)) .yes [6])) .nil))) (.cons (.asg (.name 5) (.fn 27 (.cons (.var 4) .nil))) (.cons (.ret (.tup (.cons (.bt .tuple (.cons (.lc (.ite (.ands (.cons (.ex (.cmp .ne (.var 5) (.lst .nil))) (.cons (.ex (.cmp .gt (.fn 23 (.cons (.var 0) (.cons (.int 6) .nil))) (.int 0))) (.nil)))) (.ix (.var 5) (.fn 23 (.cons (.var 0) (.cons (.bt .len (.cons (.var 5) .nil)) .nil)))) (.fn 23 (.cons (.var 0) (.cons (.int 2) .nil)))) (.mk (.name 6) (.rng (.cons (.var 3) .nil)) .yes [6])) .nil)) (.cons (.var 4) .nil)))) .nil)))
def n29 : List Str := [("kind" : Str), ("schema" : Str), ("value" : Str)]
def b29 : Sms := (.cons (.try_ (.cons (.iff (.ex (.cmp .eq (.var 0) (.int 0))) (.cons (.expr (.fn 7 (.cons (.var 2) .nil))) .nil) (.cons (.iff (.ex (.cmp .eq (.var 0) (.int 1))) (.cons (.expr (.fn 12 (.cons (.var 1) (.cons (.var 2) .nil)))) .nil) (.cons (.iff (.ex (.cmp .eq (.var 0) (.int 2))) (.cons (.expr (.fn 19 (.cons (.var 1) (.cons (.var 2) .nil)))) .nil) (.cons (.expr (.fn 21 (.cons (.var 1) (.cons (.var 2) .nil)))) .nil)) .nil)) .nil)) .nil) [(1, .ret (.bl true))]) (.cons (.ret (.bl false)) .nil))
def n30 : List Str := [("script" : Str), ("draw" : Str), ("schema" : Str), ("base" : Str), ("query" : Str), ("fine" : Str), ("wrong" : Str), ("pair" : Str), ("name" : Str)]
def b30 : Sms := (.cons (.asg (.name 1) (.fn 22 (.cons (.var 0) .nil))) (.cons (.iff (.ex (.cmp .ne (.tup (.cons (.glo 0) (.cons (.glo 1) (.cons (.glo 2) (.cons (.glo 3) .nil))))) (.tup (.cons (.int 6) (.cons (.int 4) (.cons (.int 6) (.cons (.int 4) .nil))))))) (.cons (.ret (.bl false)) .nil) .nil) (.cons (.asg (.name 2) (.tup (.cons (.tup (.cons (.str ("e" : Str)) (.cons (.int 2) .nil))) (.cons (.tup (.cons (.str ("p" : Str)) (.cons (.int 1) .nil))) .nil)))) (.cons (.par 3 4 (.fn 25 (.cons (.var 1) (.cons (.var 2) (.cons (.int 6) (.cons (.int 3) .nil))))) (.fn 28 (.cons (.var 1) (.cons (.var 2) (.cons (.int 6) (.cons (.int 2) .nil)))))) (.cons (.iff (.ors (.cons (.ex (.cmp .isnot (.fn 7 (.cons (.var 2) .nil)) (.non))) (.cons (.ex (.cmp .isnot (.fn 12 (.cons (.var 2) (.cons (.var 3) .nil))) (.non))) (.cons (.ex (.cmp .isnot (.fn 19 (.cons (.var 2) (.cons (.var 4) .nil))) (.non))) (.cons (.ex (.cmp .isnot (.fn 21 (.cons (.var 2) (.cons (.tup (.cons (.var 4) .nil)) .nil))) (.non))) (.nil)))))) (.cons (.ret (.bl false)) .nil) .nil) (.cons (.asg (.name 5) (.lst (.cons (.tup (.cons (.int 0) (.cons (.tup .nil) .nil))) (.cons (.tup (.cons (.int 0) (.cons (.bt .tuple (.cons (.lc (.tup (.cons (.var 8) (.cons (.int 4) .nil))) (.mk (.name 8) (.ex (.str ("abcdef" : Str))) .yes [8])) .nil)) .nil))) (.cons (.tup (.cons (.int 1) (.cons (.tup .nil) .nil))) (.cons (.tup (.cons (.int 1) (.cons (.tup (.cons (.tup (.cons (.str ("e" : Str)) (.cons (.tup (.cons (.int 0) (.cons (.int 7) .nil))) .nil))) (.cons (.tup (.cons (.str ("p" : Str)) (.cons (.tup (.cons (.bin .pow (.int 10) (.int 20)) .nil)) .nil))) .nil))) .nil))) (.cons (.tup (.cons (.int 2) (.cons (.tup (.cons (.tup .nil) (.cons (.tup .nil) .nil))) .nil))) (.cons (.tup (.cons (.int 2) (.cons (.tup (.cons (.tup (.cons (.int 5) (.cons (.int 5) (.cons (.int 5) (.cons (.int 5) .nil))))) (.cons (.tup .nil) .nil))) .nil))) (.cons (.tup (.cons (.int 2) (.cons (.tup (.cons (.tup (.cons (.str ("X" : Str)) (.cons (.str ("X" : Str)) .nil))) (.cons (.bin .mul (.tup (.cons (.tup (.cons (.str ("e" : Str)) (.cons (.tup (.cons (.str ("X" : Str)) (.cons (.int 3) .nil))) .nil))) .nil)) (.int 6)) .nil))) .nil))) (.cons (.tup (.cons (.int 2) (.cons (.tup (.cons (.tup .nil) (.cons (.tup (.cons (.tup (.cons (.str ("p" : Str)) (.cons (.tup (.cons (.str ("ABCD" : Str)) .nil)) .nil))) .nil)) .nil))) .nil))) (.cons (.tup (.cons (.int 3) (.cons (.bin .mul (.tup (.cons (.tup (.cons (.tup .nil) (.cons (.tup .nil) .nil))) .nil)) (.int 4)) .nil))) (.cons (.tup (.cons (.int 3) (.cons (.tup (.cons (.tup (.cons (.tup (.cons (.str ("X" : Str)) .nil)) (.cons (.tup (.cons (.tup (.cons (.str ("p" : Str)) (.cons (.tup (.cons (.str ("X" : Str)) .nil)) .nil))) .nil)) .nil))) (.cons (.tup (.cons (.tup (.cons (.int 7) .nil)) (.cons (.tup .nil) .nil))) .nil))) .nil))) .nil)))))))))))) (.cons (.iff (.ex (.cmp .ne (.lc (.var 7) (.mk (.name 7) (.ex (.var 5)) (.ex (.fn 29 (.cons (.ix (.var 7) (.int 0)) (.cons (.var 2) (.cons (.ix (.var 7) (.int 1)) .nil))))) [7])) (.lst .nil))) (.cons (.ret (.bl false)) .nil) .nil) (.cons (.asg (.name 6) (.lst (.cons (.tup (.cons (.int 0) (.cons (.lst (.cons (.tup (.cons (.str ("e" : Str)) (.cons (.int 2) .nil))) .nil)) .nil))) (.cons (.tup (.cons (.int 0) (.cons (.tup (.cons (.tup (.cons (.str ("e" : Str)) (.cons (.int 0) .nil))) .nil)) .nil))) (.cons (.tup (.cons (.int 0) (.cons (.tup (.cons (.tup (.cons (.str ("e" : Str)) (.cons (.int 5) .nil))) .nil)) .nil))) (.cons (.tup (.cons (.int 0) (.cons (.tup (.cons (.tup (.cons (.str ("e" : Str)) (.cons (.int 2) .nil))) (.cons (.tup (.cons (.str ("e" : Str)) (.cons (.int 2) .nil))) .nil))) .nil))) (.cons (.tup (.cons (.int 0) (.cons (.tup (.cons (.tup (.cons (.str ("p" : Str)) (.cons (.int 1) .nil))) (.cons (.tup (.cons (.str ("e" : Str)) (.cons (.int 2) .nil))) .nil))) .nil))) (.cons (.tup (.cons (.int 0) (.cons (.tup (.cons (.tup (.cons (.str ("E" : Str)) (.cons (.int 2) .nil))) .nil)) .nil))) (.cons (.tup (.cons (.int 0) (.cons (.tup (.cons (.tup (.cons (.str ("" : Str)) (.cons (.int 2) .nil))) .nil)) .nil))) (.cons (.tup (.cons (.int 0) (.cons (.tup (.cons (.tup (.cons (.str ("abcdefg" : Str)) (.cons (.int 2) .nil))) .nil)) .nil))) (.cons (.tup (.cons (.int 0) (.cons (.tup (.cons (.tup (.cons (.str ("e" : Str)) (.cons (.bl true) .nil))) .nil)) .nil))) (.cons (.tup (.cons (.int 0) (.cons (.tup (.cons (.tup (.cons (.str ("e" : Str)) .nil)) .nil)) .nil))) (.cons (.tup (.cons (.int 0) (.cons (.non) .nil))) (.cons (.tup (.cons (.int 0) (.cons (.bt .tuple (.cons (.lc (.tup (.cons (.var 8) (.cons (.int 1) .nil))) (.mk (.name 8) (.ex (.str ("abcdefg" : Str))) .yes [8])) .nil)) .nil))) (.cons (.tup (.cons (.int 1) (.cons (.lst (.cons (.tup (.cons (.str ("e" : Str)) (.cons (.tup (.cons (.int 0) (.cons (.int 1) .nil))) .nil))) .nil)) .nil))) (.cons (.tup (.cons (.int 1) (.cons (.tup (.cons (.tup (.cons (.str ("e" : Str)) (.cons (.tup (.cons (.int 0) .nil)) .nil))) .nil)) .nil))) (.cons (.tup (.cons (.int 1) (.cons (.tup (.cons (.tup (.cons (.str ("q" : Str)) (.cons (.tup (.cons (.int 0) .nil)) .nil))) .nil)) .nil))) (.cons (.tup (.cons (.int 1) (.cons (.tup (.cons (.tup (.cons (.str ("e" : Str)) (.cons (.tup (.cons (.int 0) (.cons (.neg (.int 1)) .nil))) .nil))) .nil)) .nil))) (.cons (.tup (.cons (.int 1) (.cons (.tup (.cons (.tup (.cons (.str ("e" : Str)) (.cons (.tup (.cons (.int 0) (.cons (.bl true) .nil))) .nil))) .nil)) .nil))) (.cons (.tup (.cons (.int 1) (.cons (.tup (.cons (.tup (.cons (.str ("e" : Str)) (.cons (.lst (.cons (.int 0) (.cons (.int 1) .nil))) .nil))) .nil)) .nil))) (.cons (.tup (.cons (.int 1) (.cons (.tup (.cons (.tup (.cons (.str ("p" : Str)) (.cons (.tup (.cons (.int 1) .nil)) .nil))) (.cons (.tup (.cons (.str ("e" : Str)) (.cons (.tup (.cons (.int 0) (.cons (.int 1) .nil))) .nil))) .nil))) .nil))) (.cons (.tup (.cons (.int 1) (.cons (.tup (.cons (.tup (.cons (.str ("p" : Str)) (.cons (.tup (.cons (.int 1) .nil)) .nil))) (.cons (.tup (.cons (.str ("p" : Str)) (.cons (.tup (.cons (.int 1) .nil)) .nil))) .nil))) .nil))) (.cons (.tup (.cons (.int 1) (.cons (.tup (.cons (.tup (.cons (.str ("e" : Str)) (.cons (.tup (.cons (.int 0) (.cons (.str ("X" : Str)) .nil))) .nil))) .nil)) .nil))) (.cons (.tup (.cons (.int 1) (.cons (.tup (.cons (.tup (.cons (.str ("e" : Str)) (.cons (.int 0) (.cons (.int 1) .nil)))) .nil)) .nil))) (.cons (.tup (.cons (.int 1) (.cons (.non) .nil))) (.cons (.tup (.cons (.int 1) (.cons (.tup (.cons (.tup (.cons (.lst (.cons (.str ("e" : Str)) .nil)) (.cons (.tup (.cons (.int 0) (.cons (.int 1) .nil))) .nil))) .nil)) .nil))) (.cons (.tup (.cons (.int 2) (.cons (.tup (.cons (.tup (.cons (.str ("X" : Str)) .nil)) (.cons (.tup .nil) .nil))) .nil))) (.cons (.tup (.cons (.int 2) (.cons (.tup (.cons (.tup (.cons (.str ("X" : Str)) .nil)) (.cons (.tup (.cons (.tup (.cons (.str ("p" : Str)) (.cons (.tup (.cons (.str ("Y" : Str)) .nil)) .nil))) .nil)) .nil))) .nil))) (.cons (.tup (.cons (.int 2) (.cons (.tup (.cons (.tup (.cons (.str ("X" : Str)) .nil)) (.cons (.tup (.cons (.tup (.cons (.str ("e" : Str)) (.cons (.tup (.cons (.str ("X" : Str)) .nil)) .nil))) .nil)) .nil))) .nil))) (.cons (.tup (.cons (.int 2) (.cons (.tup (.cons (.tup .nil) (.cons (.tup (.cons (.tup (.cons (.str ("q" : Str)) (.cons (.tup (.cons (.str ("X" : Str)) .nil)) .nil))) .nil)) .nil))) .nil))) (.cons (.tup (.cons (.int 2) (.cons (.tup (.cons (.tup .nil) (.cons (.tup (.cons (.tup (.cons (.str ("p" : Str)) (.cons (.tup (.cons (.str ("x" : Str)) .nil)) .nil))) .nil)) .nil))) .nil))) (.cons (.tup (.cons (.int 2) (.cons (.tup (.cons (.tup .nil) (.cons (.tup (.cons (.tup (.cons (.str ("p" : Str)) (.cons (.tup (.cons (.str ("ABCDE" : Str)) .nil)) .nil))) .nil)) .nil))) .nil))) (.cons (.tup (.cons (.int 2) (.cons (.tup (.cons (.tup .nil) (.cons (.tup (.cons (.tup (.cons (.str ("p" : Str)) (.cons (.tup (.cons (.str ("" : Str)) .nil)) .nil))) .nil)) .nil))) .nil))) (.cons (.tup (.cons (.int 2) (.cons (.tup (.cons (.tup .nil) (.cons (.tup (.cons (.tup (.cons (.str ("p" : Str)) (.cons (.tup (.cons (.neg (.int 1)) .nil)) .nil))) .nil)) .nil))) .nil))) (.cons (.tup (.cons (.int 2) (.cons (.tup (.cons (.tup .nil) (.cons (.tup (.cons (.tup (.cons (.str ("p" : Str)) (.cons (.tup (.cons (.bl true) .nil)) .nil))) .nil)) .nil))) .nil))) (.cons (.tup (.cons (.int 2) (.cons (.tup (.cons (.bin .mul (.tup (.cons (.int 0) .nil)) (.int 5)) (.cons (.tup .nil) .nil))) .nil))) (.cons (.tup (.cons (.int 2) (.cons (.tup (.cons (.tup .nil) (.cons (.bin .mul (.tup (.cons (.tup (.cons (.str ("p" : Str)) (.cons (.tup (.cons (.int 0) .nil)) .nil))) .nil)) (.int 7)) .nil))) .nil))) (.cons (.tup (.cons (.int 2) (.cons (.tup (.cons (.lst .nil) (.cons (.tup .nil) .nil))) .nil))) (.cons (.tup (.cons (.int 2) (.cons (.tup (.cons (.tup .nil) (.cons (.lst .nil) .nil))) .nil))) (.cons (.tup (.cons (.int 2) (.cons (.tup (.cons (.tup .nil) .nil)) .nil))) (.cons (.tup (.cons (.int 2) (.cons (.non) .nil))) (.cons (.tup (.cons (.int 2) (.cons (.tup (.cons (.tup (.cons (.non) .nil)) (.cons (.tup .nil) .nil))) .nil))) (.cons (.tup (.cons (.int 3) (.cons (.tup .nil) .nil))) (.cons (.tup (.cons (.int 3) (.cons (.bin .mul (.tup (.cons (.tup (.cons (.tup .nil) (.cons (.tup .nil) .nil))) .nil)) (.int 5)) .nil))) (.cons (.tup (.cons (.int 3) (.cons (.tup (.cons (.tup (.cons (.tup .nil) (.cons (.tup .nil) .nil))) (.cons (.tup (.cons (.tup (.cons (.int 0) .nil)) (.cons (.tup .nil) .nil))) .nil))) .nil))) (.cons (.tup (.cons (.int 3) (.cons (.lst (.cons (.tup (.cons (.tup .nil) (.cons (.tup .nil) .nil))) .nil)) .nil))) (.cons (.tup (.cons (.int 3) (.cons (.tup (.cons (.tup .nil) (.cons (.tup .nil) .nil))) .nil))) (.cons (.tup (.cons (.int 3) (.cons (.non) .nil))) .nil)))))))))))))))))))))))))))))))))))))))))))))))) (.cons (.ret (.cmp .eq (.lc (.var 7) (.mk (.name 7) (.ex (.var 6)) (.not (.ex (.fn 29 (.cons (.ix (.var 7) (.int 0)) (.cons (.var 2) (.cons (.ix (.var 7) (.int 1)) .nil)))))) [7])) (.lst .nil))) .nil)))))))))
def fns : List Fn := [⟨3, 3, b0⟩, ⟨3, 4, b1⟩, ⟨1, 2, b2⟩, ⟨1, 2, b3⟩, ⟨1, 1, b4⟩, ⟨1, 3, b5⟩, ⟨1, 5, b6⟩, ⟨1, 1, b7⟩, ⟨2, 4, b8⟩, ⟨2, 2, b9⟩, ⟨2, 2, b10⟩, ⟨2, 3, b11⟩, ⟨2, 2, b12⟩, ⟨2, 3, b13⟩, ⟨1, 4, b14⟩, ⟨1, 2, b15⟩, ⟨1, 1, b16⟩, ⟨1, 3, b17⟩, ⟨2, 4, b18⟩, ⟨2, 2, b19⟩, ⟨2, 3, b20⟩, ⟨2, 2, b21⟩, ⟨1, 3, b22⟩, ⟨2, 3, b23⟩, ⟨3, 6, b24⟩, ⟨4, 5, b25⟩, ⟨3, 6, b26⟩, ⟨1, 5, b27⟩, ⟨4, 7, b28⟩, ⟨3, 3, b29⟩, ⟨1, 9, b30⟩]
def glos : List D := [.int 6, .int 4, .int 6, .int 4, .int 6, .int 4]
def Pr : Prg := ⟨fns, [], [], glos, [((0, 0), true), ((0, 1), false), ((1, 0), true), ((1, 1), true)]⟩
def T : Tab where
  fns := [(("is_integer" : Str), 0), (("is_row" : Str), 1), (("is_name" : Str), 2), (("is_variable" : Str), 3), (("is_term" : Str), 4), (("is_ascending" : Str), 5), (("is_schema" : Str), 6), (("check_schema" : Str), 7), (("width_of" : Str), 8), (("is_entry" : Str), 9), (("is_fact" : Str), 10), (("is_base" : Str), 11), (("check_base" : Str), 12), (("is_atom" : Str), 13), (("terms_of" : Str), 14), (("variables_in" : Str), 15), (("variables_of" : Str), 16), (("is_safe" : Str), 17), (("is_query" : Str), 18), (("check_query" : Str), 19), (("is_union" : Str), 20), (("check_union" : Str), 21), (("_law_draw" : Str), 22), (("_law_take" : Str), 23), (("_law_fact" : Str), 24), (("_law_base" : Str), 25), (("_law_atom" : Str), 26), (("_law_names" : Str), 27), (("_law_query" : Str), 28), (("_law_refused" : Str), 29), (("law" : Str), 30)]
  bls := [("abs" : Str), ("all" : Str), ("bool" : Str), ("int" : Str), ("isinstance" : Str), ("len" : Str), ("range" : Str), ("set" : Str), ("sorted" : Str), ("str" : Str), ("tuple" : Str), ("zip" : Str)]
  glos := [(("MAX_TABLES" : Str), 0), (("MAX_WIDTH" : Str), 1), (("MAX_ATOMS" : Str), 2), (("MAX_UNION" : Str), 3), (("MAX_NAME" : Str), 4), (("MAX_VARIABLE" : Str), 5)]
  excs := [(("JoinError" : Str), 0), (("NotAllowed" : Str), 1)]
  clss := []
  mths := []
theorem sc0 : FnScope n0 [("value" : Str), ("low" : Str), ("high" : Str)] (defScope (top 4)) := ⟨rfl, rfl, rfl, by decide +kernel, rfl, by decide +kernel, by decide +kernel⟩
theorem m0 : mSs T n0 (defScope (top 4)) b0 (defBody (top 4)) = true := by decide +kernel
theorem sc1 : FnScope n1 [("value" : Str), ("low" : Str), ("high" : Str)] (defScope (top 5)) := ⟨rfl, rfl, rfl, by decide +kernel, rfl, by decide +kernel, by decide +kernel⟩
theorem m1 : mSs T n1 (defScope (top 5)) b1 (defBody (top 5)) = true := by decide +kernel
theorem sc2 : FnScope n2 [("value" : Str)] (defScope (top 13)) := ⟨rfl, rfl, rfl, by decide +kernel, rfl, by decide +kernel, by decide +kernel⟩
theorem m2 : mSs T n2 (defScope (top 13)) b2 (defBody (top 13)) = true := by decide +kernel
theorem sc3 : FnScope n3 [("value" : Str)] (defScope (top 14)) := ⟨rfl, rfl, rfl, by decide +kernel, rfl, by decide +kernel, by decide +kernel⟩
theorem m3 : mSs T n3 (defScope (top 14)) b3 (defBody (top 14)) = true := by decide +kernel
theorem sc4 : FnScope n4 [("value" : Str)] (defScope (top 15)) := ⟨rfl, rfl, rfl, by decide +kernel, rfl, by decide +kernel, by decide +kernel⟩
theorem m4 : mSs T n4 (defScope (top 15)) b4 (defBody (top 15)) = true := by decide +kernel
theorem sc5 : FnScope n5 [("rows" : Str)] (defScope (top 16)) := ⟨rfl, rfl, rfl, by decide +kernel, rfl, by decide +kernel, by decide +kernel⟩
theorem m5 : mSs T n5 (defScope (top 16)) b5 (defBody (top 16)) = true := by decide +kernel
theorem sc6 : FnScope n6 [("value" : Str)] (defScope (top 17)) := ⟨rfl, rfl, rfl, by decide +kernel, rfl, by decide +kernel, by decide +kernel⟩
theorem m6 : mSs T n6 (defScope (top 17)) b6 (defBody (top 17)) = true := by decide +kernel
theorem sc7 : FnScope n7 [("schema" : Str)] (defScope (top 18)) := ⟨rfl, rfl, rfl, by decide +kernel, rfl, by decide +kernel, by decide +kernel⟩
theorem m7 : mSs T n7 (defScope (top 18)) b7 (defBody (top 18)) = true := by decide +kernel
theorem sc8 : FnScope n8 [("schema" : Str), ("name" : Str)] (defScope (top 19)) := ⟨rfl, rfl, rfl, by decide +kernel, rfl, by decide +kernel, by decide +kernel⟩
theorem m8 : mSs T n8 (defScope (top 19)) b8 (defBody (top 19)) = true := by decide +kernel
theorem sc9 : FnScope n9 [("schema" : Str), ("value" : Str)] (defScope (top 20)) := ⟨rfl, rfl, rfl, by decide +kernel, rfl, by decide +kernel, by decide +kernel⟩
theorem m9 : mSs T n9 (defScope (top 20)) b9 (defBody (top 20)) = true := by decide +kernel
theorem sc10 : FnScope n10 [("schema" : Str), ("value" : Str)] (defScope (top 21)) := ⟨rfl, rfl, rfl, by decide +kernel, rfl, by decide +kernel, by decide +kernel⟩
theorem m10 : mSs T n10 (defScope (top 21)) b10 (defBody (top 21)) = true := by decide +kernel
theorem sc11 : FnScope n11 [("schema" : Str), ("value" : Str)] (defScope (top 22)) := ⟨rfl, rfl, rfl, by decide +kernel, rfl, by decide +kernel, by decide +kernel⟩
theorem m11 : mSs T n11 (defScope (top 22)) b11 (defBody (top 22)) = true := by decide +kernel
theorem sc12 : FnScope n12 [("schema" : Str), ("base" : Str)] (defScope (top 23)) := ⟨rfl, rfl, rfl, by decide +kernel, rfl, by decide +kernel, by decide +kernel⟩
theorem m12 : mSs T n12 (defScope (top 23)) b12 (defBody (top 23)) = true := by decide +kernel
theorem sc13 : FnScope n13 [("schema" : Str), ("value" : Str)] (defScope (top 24)) := ⟨rfl, rfl, rfl, by decide +kernel, rfl, by decide +kernel, by decide +kernel⟩
theorem m13 : mSs T n13 (defScope (top 24)) b13 (defBody (top 24)) = true := by decide +kernel
theorem sc14 : FnScope n14 [("atoms" : Str)] (defScope (top 25)) := ⟨rfl, rfl, rfl, by decide +kernel, rfl, by decide +kernel, by decide +kernel⟩
theorem m14 : mSs T n14 (defScope (top 25)) b14 (defBody (top 25)) = true := by decide +kernel
theorem sc15 : FnScope n15 [("terms" : Str)] (defScope (top 26)) := ⟨rfl, rfl, rfl, by decide +kernel, rfl, by decide +kernel, by decide +kernel⟩
theorem m15 : mSs T n15 (defScope (top 26)) b15 (defBody (top 26)) = true := by decide +kernel
theorem sc16 : FnScope n16 [("query" : Str)] (defScope (top 27)) := ⟨rfl, rfl, rfl, by decide +kernel, rfl, by decide +kernel, by decide +kernel⟩
theorem m16 : mSs T n16 (defScope (top 27)) b16 (defBody (top 27)) = true := by decide +kernel
theorem sc17 : FnScope n17 [("query" : Str)] (defScope (top 28)) := ⟨rfl, rfl, rfl, by decide +kernel, rfl, by decide +kernel, by decide +kernel⟩
theorem m17 : mSs T n17 (defScope (top 28)) b17 (defBody (top 28)) = true := by decide +kernel
theorem sc18 : FnScope n18 [("schema" : Str), ("value" : Str)] (defScope (top 29)) := ⟨rfl, rfl, rfl, by decide +kernel, rfl, by decide +kernel, by decide +kernel⟩
theorem m18 : mSs T n18 (defScope (top 29)) b18 (defBody (top 29)) = true := by decide +kernel
theorem sc19 : FnScope n19 [("schema" : Str), ("query" : Str)] (defScope (top 30)) := ⟨rfl, rfl, rfl, by decide +kernel, rfl, by decide +kernel, by decide +kernel⟩
theorem m19 : mSs T n19 (defScope (top 30)) b19 (defBody (top 30)) = true := by decide +kernel
theorem sc20 : FnScope n20 [("schema" : Str), ("value" : Str)] (defScope (top 31)) := ⟨rfl, rfl, rfl, by decide +kernel, rfl, by decide +kernel, by decide +kernel⟩
theorem m20 : mSs T n20 (defScope (top 31)) b20 (defBody (top 31)) = true := by decide +kernel
theorem sc21 : FnScope n21 [("schema" : Str), ("union" : Str)] (defScope (top 32)) := ⟨rfl, rfl, rfl, by decide +kernel, rfl, by decide +kernel, by decide +kernel⟩
theorem m21 : mSs T n21 (defScope (top 32)) b21 (defBody (top 32)) = true := by decide +kernel
theorem sc22 : FnScope n22 [("script" : Str)] (defScope (top 34)) := ⟨rfl, rfl, rfl, by decide +kernel, rfl, by decide +kernel, by decide +kernel⟩
theorem m22 : mSs T n22 (defScope (top 34)) b22 (defBody (top 34)) = true := by decide +kernel
theorem sc23 : FnScope n23 [("draw" : Str), ("many" : Str)] (defScope (top 35)) := ⟨rfl, rfl, rfl, by decide +kernel, rfl, by decide +kernel, by decide +kernel⟩
theorem m23 : mSs T n23 (defScope (top 35)) b23 (defBody (top 35)) = true := by decide +kernel
theorem sc24 : FnScope n24 [("draw" : Str), ("schema" : Str), ("many" : Str)] (defScope (top 36)) := ⟨rfl, rfl, rfl, by decide +kernel, rfl, by decide +kernel, by decide +kernel⟩
theorem m24 : mSs T n24 (defScope (top 36)) b24 (defBody (top 36)) = true := by decide +kernel
theorem sc25 : FnScope n25 [("draw" : Str), ("schema" : Str), ("most" : Str), ("many" : Str)] (defScope (top 37)) := ⟨rfl, rfl, rfl, by decide +kernel, rfl, by decide +kernel, by decide +kernel⟩
theorem m25 : mSs T n25 (defScope (top 37)) b25 (defBody (top 37)) = true := by decide +kernel
theorem sc26 : FnScope n26 [("draw" : Str), ("schema" : Str), ("names" : Str)] (defScope (top 38)) := ⟨rfl, rfl, rfl, by decide +kernel, rfl, by decide +kernel, by decide +kernel⟩
theorem m26 : mSs T n26 (defScope (top 38)) b26 (defBody (top 38)) = true := by decide +kernel
theorem sc27 : FnScope n27 [("atoms" : Str)] (defScope (top 39)) := ⟨rfl, rfl, rfl, by decide +kernel, rfl, by decide +kernel, by decide +kernel⟩
theorem m27 : mSs T n27 (defScope (top 39)) b27 (defBody (top 39)) = true := by decide +kernel
theorem sc28 : FnScope n28 [("draw" : Str), ("schema" : Str), ("most" : Str), ("width" : Str)] (defScope (top 40)) := ⟨rfl, rfl, rfl, by decide +kernel, rfl, by decide +kernel, by decide +kernel⟩
theorem m28 : mSs T n28 (defScope (top 40)) b28 (defBody (top 40)) = true := by decide +kernel
theorem sc29 : FnScope n29 [("kind" : Str), ("schema" : Str), ("value" : Str)] (defScope (top 41)) := ⟨rfl, rfl, rfl, by decide +kernel, rfl, by decide +kernel, by decide +kernel⟩
theorem m29 : mSs T n29 (defScope (top 41)) b29 (defBody (top 41)) = true := by decide +kernel
theorem sc30 : FnScope n30 [("script" : Str)] (defScope (top 42)) := ⟨rfl, rfl, rfl, by decide +kernel, rfl, by decide +kernel, by decide +kernel⟩
theorem m30 : mSs T n30 (defScope (top 42)) b30 (defBody (top 42)) = true := by decide +kernel
end L_k00

namespace L_k00
open PySem J
abbrev GG (k : Nat) : Gx := gx Pr (callF Pr k)
abbrev GP (k : Nat) : Gp := gp Pr (callP Pr k)
theorem take_nz (k : Nat) (st : Store) (l : Nat) (xs : List Int) (i a s many : Int) (h : Dr st l xs i a s) (ha : (a == 0) = false) (hd : many ≠ 0 ∧ many.natAbs < 1073741824) :
    callF Pr (k+1) 23 [.ref l, .int many] st = .ok (.int (a.fmod many)) (st.set l (.lst [.lst (xs.map .int), .int i, .int (a.fdiv many), .int s])) := by
  rw [callF_at (show Pr.fns[23]? = some ⟨2, 3, b23⟩ from rfl)]
  unfold Dr at h
  simp -implicitDefEqProofs -dsimp only [J.sat_ok, J.sat_exc, J.satS_ok, J.satS_exc, J.sat_bnd, J.satS_bndS, J.satS_thn, J.seqQ_nx, J.seqQ_ret, J.seqQ_brk, J.seqQ_ct, J.finQ_nx, J.finQ_ret, J.turnQ_nx, J.turnQ_ct, J.turnQ_brk, J.turnQ_ret, J.execs, J.exec, J.ev, J.evs, J.evO, J.tst, J.tsOr, J.tsAnd, J.evAnd, J.evOr, J.itD, J.bnd_okE, J.bndS_okE, J.thn_nxE, J.thn_retE, J.ofO_someE, J.snap_non, J.snap_bl, J.snap_int, J.snap_str, J.snap_tup, J.snap_lst, J.snap_kls, J.gx_call, J.gx_glo, J.gx_isa, J.asg_name, J.asg_tup, J.asgTs, J.wipeE, J.truth_bl, J.truth_int, J.truth_tup, J.truth_lst, J.bin_add, J.bin_sub, J.cmp_eqI, J.cmp_neI, J.cmp_ltI, J.cmp_gtI, J.cmp_leI, J.cmp_geI, J.cmp_isN, J.cmp_isnotN, J.ix_lst, J.ix_tup, J.len_lst, J.len_tup, J.int_int, J.abs_int, J.btD, J.isNon, J.tupleB, J.listB, J.items?, J.setMO, List.map, List.length_cons, List.length_nil, List.replicate, List.getElem?_cons_zero, List.getElem?_cons_succ, J.sz0, J.sz1, J.sz2, J.sz3, J.sz4, J.sz5, J.sz6, J.sz7, J.sz8, J.sz9, J.sz10, J.sz11, J.sz12, J.sz13, J.sz14, J.sz15, J.sz16, J.sz17, J.sz18, J.sz19, J.sz20, J.sz21, J.sz22, J.sz23, J.sz24, J.sz25, J.sz26, J.sz27, J.sz28, J.sz29, J.sz30, J.sz31, J.sz32, J.sz33, J.sz34, J.sz35, J.sz36, J.sz37, J.sz38, J.sz39, J.sz40, J.sz41, J.sz42, J.sz43, J.sz44, J.sz45, J.sz46, J.sz47, J.sz48, J.sz49, J.sz50, J.sz51, J.sz52, J.sz53, J.sz54, J.sz55, J.sz56, J.sz57, J.sz58, J.sz59, J.sz60, J.cast0, J.cast1, J.cast2, J.cast3, J.cast4, J.cast5, J.cast6, J.cast7, J.cast8, J.cast9, J.cast10, J.cast11, J.cast12, J.cast13, J.cast14, J.cast15, J.cast16, J.cast17, J.cast18, J.cast19, J.cast20, Int.reduceBEq, Int.reduceLT, Int.reduceNeg, Int.reduceAdd, Int.reduceSub, decide_true, decide_false, J.at0of1, J.at0of2, J.at1of2, J.at0of3, J.at1of3, J.at2of3, J.szl0, J.szl1, J.szl2, J.szl3, J.szl4, J.szl5, J.szl6, J.szl7, J.szl8, J.szl9, J.szl10, J.szl11, J.szl12, J.szl13, J.szl14, J.szl15, J.szl16, J.szl17, J.szl18, J.szl19, J.szl20, J.szl21, J.szl22, J.szl23, J.szl24, J.szl25, J.szl26, J.szl27, J.szl28, J.szl29, J.szl30, J.szl31, J.szl32, J.szl33, J.szl34, J.szl35, J.szl36, J.szl37, J.szl38, J.szl39, J.szl40, J.szl41, J.szl42, J.szl43, J.szl44, J.szl45, J.szl46, J.szl47, J.szl48, J.szl49, J.szl50, J.szl51, J.szl52, J.szl53, J.szl54, J.szl55, J.szl56, J.szl57, J.szl58, J.szl59, J.szl60, and_self, if_true, if_false, Bool.false_eq_true, Bool.and_true, Bool.true_and, Bool.not_true, Bool.not_false, List.cons_append, List.nil_append, Option.map_some, Nat.sub_self, Nat.zero_add, Nat.reduceAdd, Nat.reduceSub, Nat.reduceLT, List.set_cons_zero, List.set_cons_succ, Option.bind_some, runF, b23, snap_ref h, at0, at1, at2, at3, ha, bin_mod hd.1, bin_fdiv hd, h, set1, set2, set3]
theorem take_zero (k : Nat) (st : Store) (l : Nat) (xs : List Int) (i a s many : Int) (h : Dr st l xs i a s) (ha : (a == 0) = true) (hi : xs.length ≤ i + 1) (hd : many ≠ 0 ∧ many.natAbs < 1073741824) :
    callF Pr (k+1) 23 [.ref l, .int many] st = .ok (.int (((s * 48271 + 11).fmod 2147483647).fmod many)) (st.set l (.lst [.lst (xs.map .int), .int (i + 1), .int (((s * 48271 + 11).fmod 2147483647).fdiv many), .int ((s * 48271 + 11).fmod 2147483647)])) := by
  rw [callF_at (show Pr.fns[23]? = some ⟨2, 3, b23⟩ from rfl)]
  unfold Dr at h
  have e : decide (i + 1 < ((xs.map D.int).length : Int)) = false := by rw [List.length_map]; exact decide_eq_false (by omega)
  simp -implicitDefEqProofs -dsimp only [J.sat_ok, J.sat_exc, J.satS_ok, J.satS_exc, J.sat_bnd, J.satS_bndS, J.satS_thn, J.seqQ_nx, J.seqQ_ret, J.seqQ_brk, J.seqQ_ct, J.finQ_nx, J.finQ_ret, J.turnQ_nx, J.turnQ_ct, J.turnQ_brk, J.turnQ_ret, J.execs, J.exec, J.ev, J.evs, J.evO, J.tst, J.tsOr, J.tsAnd, J.evAnd, J.evOr, J.itD, J.bnd_okE, J.bndS_okE, J.thn_nxE, J.thn_retE, J.ofO_someE, J.snap_non, J.snap_bl, J.snap_int, J.snap_str, J.snap_tup, J.snap_lst, J.snap_kls, J.gx_call, J.gx_glo, J.gx_isa, J.asg_name, J.asg_tup, J.asgTs, J.wipeE, J.truth_bl, J.truth_int, J.truth_tup, J.truth_lst, J.bin_add, J.bin_sub, J.cmp_eqI, J.cmp_neI, J.cmp_ltI, J.cmp_gtI, J.cmp_leI, J.cmp_geI, J.cmp_isN, J.cmp_isnotN, J.ix_lst, J.ix_tup, J.len_lst, J.len_tup, J.int_int, J.abs_int, J.btD, J.isNon, J.tupleB, J.listB, J.items?, J.setMO, List.map, List.length_cons, List.length_nil, List.replicate, List.getElem?_cons_zero, List.getElem?_cons_succ, J.sz0, J.sz1, J.sz2, J.sz3, J.sz4, J.sz5, J.sz6, J.sz7, J.sz8, J.sz9, J.sz10, J.sz11, J.sz12, J.sz13, J.sz14, J.sz15, J.sz16, J.sz17, J.sz18, J.sz19, J.sz20, J.sz21, J.sz22, J.sz23, J.sz24, J.sz25, J.sz26, J.sz27, J.sz28, J.sz29, J.sz30, J.sz31, J.sz32, J.sz33, J.sz34, J.sz35, J.sz36, J.sz37, J.sz38, J.sz39, J.sz40, J.sz41, J.sz42, J.sz43, J.sz44, J.sz45, J.sz46, J.sz47, J.sz48, J.sz49, J.sz50, J.sz51, J.sz52, J.sz53, J.sz54, J.sz55, J.sz56, J.sz57, J.sz58, J.sz59, J.sz60, J.cast0, J.cast1, J.cast2, J.cast3, J.cast4, J.cast5, J.cast6, J.cast7, J.cast8, J.cast9, J.cast10, J.cast11, J.cast12, J.cast13, J.cast14, J.cast15, J.cast16, J.cast17, J.cast18, J.cast19, J.cast20, Int.reduceBEq, Int.reduceLT, Int.reduceNeg, Int.reduceAdd, Int.reduceSub, decide_true, decide_false, J.at0of1, J.at0of2, J.at1of2, J.at0of3, J.at1of3, J.at2of3, J.szl0, J.szl1, J.szl2, J.szl3, J.szl4, J.szl5, J.szl6, J.szl7, J.szl8, J.szl9, J.szl10, J.szl11, J.szl12, J.szl13, J.szl14, J.szl15, J.szl16, J.szl17, J.szl18, J.szl19, J.szl20, J.szl21, J.szl22, J.szl23, J.szl24, J.szl25, J.szl26, J.szl27, J.szl28, J.szl29, J.szl30, J.szl31, J.szl32, J.szl33, J.szl34, J.szl35, J.szl36, J.szl37, J.szl38, J.szl39, J.szl40, J.szl41, J.szl42, J.szl43, J.szl44, J.szl45, J.szl46, J.szl47, J.szl48, J.szl49, J.szl50, J.szl51, J.szl52, J.szl53, J.szl54, J.szl55, J.szl56, J.szl57, J.szl58, J.szl59, J.szl60, and_self, if_true, if_false, Bool.false_eq_true, Bool.and_true, Bool.true_and, Bool.not_true, Bool.not_false, List.cons_append, List.nil_append, Option.map_some, Nat.sub_self, Nat.zero_add, Nat.reduceAdd, Nat.reduceSub, Nat.reduceLT, List.set_cons_zero, List.set_cons_succ, Option.bind_some, runF, b23, snap_ref h, at0, at1, at2, at3, ha, bin_mod hd.1, bin_fdiv hd, h, set1, set2, set3, snap_ref (get_set h), get_set h, e, List.set_set, bin_mul (i := s) (j := 48271) (by decide), bin_mod (i := s * 48271 + 11) (j := 2147483647) (by decide)]
theorem take_at (k : Nat) (st : Store) (l : Nat) (xs : List Int) (i a s many x : Int) (h : Dr st l xs i a s) (ha : (a == 0) = true) (hi : i + 1 < xs.length) (hx : L2.atI (xs.map D.int) (i + 1) = some (.int x)) (hz : (x == 0) = false) (hd : many ≠ 0 ∧ many.natAbs < 1073741824) :
    callF Pr (k+1) 23 [.ref l, .int many] st = .ok (.int (x.fmod many)) (st.set l (.lst [.lst (xs.map .int), .int (i + 1), .int (x.fdiv many), .int s])) := by
  rw [callF_at (show Pr.fns[23]? = some ⟨2, 3, b23⟩ from rfl)]
  unfold Dr at h
  have e : decide (i + 1 < ((xs.map D.int).length : Int)) = true := by rw [List.length_map]; exact decide_eq_true hi
  simp -implicitDefEqProofs -dsimp only [J.sat_ok, J.sat_exc, J.satS_ok, J.satS_exc, J.sat_bnd, J.satS_bndS, J.satS_thn, J.seqQ_nx, J.seqQ_ret, J.seqQ_brk, J.seqQ_ct, J.finQ_nx, J.finQ_ret, J.turnQ_nx, J.turnQ_ct, J.turnQ_brk, J.turnQ_ret, J.execs, J.exec, J.ev, J.evs, J.evO, J.tst, J.tsOr, J.tsAnd, J.evAnd, J.evOr, J.itD, J.bnd_okE, J.bndS_okE, J.thn_nxE, J.thn_retE, J.ofO_someE, J.snap_non, J.snap_bl, J.snap_int, J.snap_str, J.snap_tup, J.snap_lst, J.snap_kls, J.gx_call, J.gx_glo, J.gx_isa, J.asg_name, J.asg_tup, J.asgTs, J.wipeE, J.truth_bl, J.truth_int, J.truth_tup, J.truth_lst, J.bin_add, J.bin_sub, J.cmp_eqI, J.cmp_neI, J.cmp_ltI, J.cmp_gtI, J.cmp_leI, J.cmp_geI, J.cmp_isN, J.cmp_isnotN, J.ix_lst, J.ix_tup, J.len_lst, J.len_tup, J.int_int, J.abs_int, J.btD, J.isNon, J.tupleB, J.listB, J.items?, J.setMO, List.map, List.length_cons, List.length_nil, List.replicate, List.getElem?_cons_zero, List.getElem?_cons_succ, J.sz0, J.sz1, J.sz2, J.sz3, J.sz4, J.sz5, J.sz6, J.sz7, J.sz8, J.sz9, J.sz10, J.sz11, J.sz12, J.sz13, J.sz14, J.sz15, J.sz16, J.sz17, J.sz18, J.sz19, J.sz20, J.sz21, J.sz22, J.sz23, J.sz24, J.sz25, J.sz26, J.sz27, J.sz28, J.sz29, J.sz30, J.sz31, J.sz32, J.sz33, J.sz34, J.sz35, J.sz36, J.sz37, J.sz38, J.sz39, J.sz40, J.sz41, J.sz42, J.sz43, J.sz44, J.sz45, J.sz46, J.sz47, J.sz48, J.sz49, J.sz50, J.sz51, J.sz52, J.sz53, J.sz54, J.sz55, J.sz56, J.sz57, J.sz58, J.sz59, J.sz60, J.cast0, J.cast1, J.cast2, J.cast3, J.cast4, J.cast5, J.cast6, J.cast7, J.cast8, J.cast9, J.cast10, J.cast11, J.cast12, J.cast13, J.cast14, J.cast15, J.cast16, J.cast17, J.cast18, J.cast19, J.cast20, Int.reduceBEq, Int.reduceLT, Int.reduceNeg, Int.reduceAdd, Int.reduceSub, decide_true, decide_false, J.at0of1, J.at0of2, J.at1of2, J.at0of3, J.at1of3, J.at2of3, J.szl0, J.szl1, J.szl2, J.szl3, J.szl4, J.szl5, J.szl6, J.szl7, J.szl8, J.szl9, J.szl10, J.szl11, J.szl12, J.szl13, J.szl14, J.szl15, J.szl16, J.szl17, J.szl18, J.szl19, J.szl20, J.szl21, J.szl22, J.szl23, J.szl24, J.szl25, J.szl26, J.szl27, J.szl28, J.szl29, J.szl30, J.szl31, J.szl32, J.szl33, J.szl34, J.szl35, J.szl36, J.szl37, J.szl38, J.szl39, J.szl40, J.szl41, J.szl42, J.szl43, J.szl44, J.szl45, J.szl46, J.szl47, J.szl48, J.szl49, J.szl50, J.szl51, J.szl52, J.szl53, J.szl54, J.szl55, J.szl56, J.szl57, J.szl58, J.szl59, J.szl60, and_self, if_true, if_false, Bool.false_eq_true, Bool.and_true, Bool.true_and, Bool.not_true, Bool.not_false, List.cons_append, List.nil_append, Option.map_some, Nat.sub_self, Nat.zero_add, Nat.reduceAdd, Nat.reduceSub, Nat.reduceLT, List.set_cons_zero, List.set_cons_succ, Option.bind_some, runF, b23, snap_ref h, at0, at1, at2, at3, ha, bin_mod hd.1, bin_fdiv hd, h, set1, set2, set3, snap_ref (get_set h), get_set h, e, List.set_set, hx, hz]
theorem take_at0 (k : Nat) (st : Store) (l : Nat) (xs : List Int) (i a s many x : Int) (h : Dr st l xs i a s) (ha : (a == 0) = true) (hi : i + 1 < xs.length) (hx : L2.atI (xs.map D.int) (i + 1) = some (.int x)) (hz : (x == 0) = true) (hd : many ≠ 0 ∧ many.natAbs < 1073741824) :
    callF Pr (k+1) 23 [.ref l, .int many] st = .ok (.int (((s * 48271 + 11).fmod 2147483647).fmod many)) (st.set l (.lst [.lst (xs.map .int), .int (i + 1), .int (((s * 48271 + 11).fmod 2147483647).fdiv many), .int ((s * 48271 + 11).fmod 2147483647)])) := by
  rw [callF_at (show Pr.fns[23]? = some ⟨2, 3, b23⟩ from rfl)]
  unfold Dr at h
  have e : decide (i + 1 < ((xs.map D.int).length : Int)) = true := by rw [List.length_map]; exact decide_eq_true hi
  simp -implicitDefEqProofs -dsimp only [J.sat_ok, J.sat_exc, J.satS_ok, J.satS_exc, J.sat_bnd, J.satS_bndS, J.satS_thn, J.seqQ_nx, J.seqQ_ret, J.seqQ_brk, J.seqQ_ct, J.finQ_nx, J.finQ_ret, J.turnQ_nx, J.turnQ_ct, J.turnQ_brk, J.turnQ_ret, J.execs, J.exec, J.ev, J.evs, J.evO, J.tst, J.tsOr, J.tsAnd, J.evAnd, J.evOr, J.itD, J.bnd_okE, J.bndS_okE, J.thn_nxE, J.thn_retE, J.ofO_someE, J.snap_non, J.snap_bl, J.snap_int, J.snap_str, J.snap_tup, J.snap_lst, J.snap_kls, J.gx_call, J.gx_glo, J.gx_isa, J.asg_name, J.asg_tup, J.asgTs, J.wipeE, J.truth_bl, J.truth_int, J.truth_tup, J.truth_lst, J.bin_add, J.bin_sub, J.cmp_eqI, J.cmp_neI, J.cmp_ltI, J.cmp_gtI, J.cmp_leI, J.cmp_geI, J.cmp_isN, J.cmp_isnotN, J.ix_lst, J.ix_tup, J.len_lst, J.len_tup, J.int_int, J.abs_int, J.btD, J.isNon, J.tupleB, J.listB, J.items?, J.setMO, List.map, List.length_cons, List.length_nil, List.replicate, List.getElem?_cons_zero, List.getElem?_cons_succ, J.sz0, J.sz1, J.sz2, J.sz3, J.sz4, J.sz5, J.sz6, J.sz7, J.sz8, J.sz9, J.sz10, J.sz11, J.sz12, J.sz13, J.sz14, J.sz15, J.sz16, J.sz17, J.sz18, J.sz19, J.sz20, J.sz21, J.sz22, J.sz23, J.sz24, J.sz25, J.sz26, J.sz27, J.sz28, J.sz29, J.sz30, J.sz31, J.sz32, J.sz33, J.sz34, J.sz35, J.sz36, J.sz37, J.sz38, J.sz39, J.sz40, J.sz41, J.sz42, J.sz43, J.sz44, J.sz45, J.sz46, J.sz47, J.sz48, J.sz49, J.sz50, J.sz51, J.sz52, J.sz53, J.sz54, J.sz55, J.sz56, J.sz57, J.sz58, J.sz59, J.sz60, J.cast0, J.cast1, J.cast2, J.cast3, J.cast4, J.cast5, J.cast6, J.cast7, J.cast8, J.cast9, J.cast10, J.cast11, J.cast12, J.cast13, J.cast14, J.cast15, J.cast16, J.cast17, J.cast18, J.cast19, J.cast20, Int.reduceBEq, Int.reduceLT, Int.reduceNeg, Int.reduceAdd, Int.reduceSub, decide_true, decide_false, J.at0of1, J.at0of2, J.at1of2, J.at0of3, J.at1of3, J.at2of3, J.szl0, J.szl1, J.szl2, J.szl3, J.szl4, J.szl5, J.szl6, J.szl7, J.szl8, J.szl9, J.szl10, J.szl11, J.szl12, J.szl13, J.szl14, J.szl15, J.szl16, J.szl17, J.szl18, J.szl19, J.szl20, J.szl21, J.szl22, J.szl23, J.szl24, J.szl25, J.szl26, J.szl27, J.szl28, J.szl29, J.szl30, J.szl31, J.szl32, J.szl33, J.szl34, J.szl35, J.szl36, J.szl37, J.szl38, J.szl39, J.szl40, J.szl41, J.szl42, J.szl43, J.szl44, J.szl45, J.szl46, J.szl47, J.szl48, J.szl49, J.szl50, J.szl51, J.szl52, J.szl53, J.szl54, J.szl55, J.szl56, J.szl57, J.szl58, J.szl59, J.szl60, and_self, if_true, if_false, Bool.false_eq_true, Bool.and_true, Bool.true_and, Bool.not_true, Bool.not_false, List.cons_append, List.nil_append, Option.map_some, Nat.sub_self, Nat.zero_add, Nat.reduceAdd, Nat.reduceSub, Nat.reduceLT, List.set_cons_zero, List.set_cons_succ, Option.bind_some, runF, b23, snap_ref h, at0, at1, at2, at3, ha, bin_mod hd.1, bin_fdiv hd, h, set1, set2, set3, snap_ref (get_set h), get_set h, e, List.set_set, hx, hz, bin_mul (i := s) (j := 48271) (by decide), bin_mod (i := s * 48271 + 11) (j := 2147483647) (by decide)]
theorem take_spec (k : Nat) (st : Store) (l : Nat) (many : Int) (h : DrOk st l) (hm : 0 < many) (hb : many < 1073741824) : ∃ r st', callF Pr (k+1) 23 [.ref l, .int many] st = .ok (.int r) st' ∧ 0 ≤ r ∧ r < many ∧ DrOk st' l ∧ ∃ o, st' = st.set l o := by
  obtain ⟨xs, i, a, s, d, hi, hx, ha, hs⟩ := h
  have hd : many ≠ 0 ∧ many.natAbs < 1073741824 := ⟨by omega, by omega⟩
  have r0 : ∀ z : Int, 0 ≤ z.fmod many := fun z => Int.fmod_nonneg_of_pos z hm
  have r1 : ∀ z : Int, z.fmod many < many := fun z => Int.fmod_lt_of_pos z hm
  have f0 : ∀ z : Int, 0 ≤ z → 0 ≤ z.fdiv many := fun z hz => Int.fdiv_nonneg hz (by omega)
  have g0 : ∀ z : Int, 0 ≤ z.fmod 2147483647 := fun z => Int.fmod_nonneg_of_pos z (by decide)
  by_cases e : (a == 0) = true
  · by_cases hl : i + 1 < xs.length
    · obtain ⟨x, hxm, e2⟩ := atI_nat xs (i + 1) (by omega) hl
      by_cases e3 : (x == 0) = true
      · exact ⟨_, _, take_at0 k st l xs i a s many x d e hl e2 e3 hd, r0 _, r1 _, ⟨xs, _, _, _, get_set d, by omega, hx, f0 _ (g0 _), g0 _⟩, _, rfl⟩
      · exact ⟨_, _, take_at k st l xs i a s many x d e hl e2 (by simpa using e3) hd, r0 _, r1 _, ⟨xs, _, _, _, get_set d, by omega, hx, f0 _ (hx x hxm), hs⟩, _, rfl⟩
    · exact ⟨_, _, take_zero k st l xs i a s many d e (by omega) hd, r0 _, r1 _, ⟨xs, _, _, _, get_set d, by omega, hx, f0 _ (g0 _), g0 _⟩, _, rfl⟩
  · exact ⟨_, _, take_nz k st l xs i a s many d (by simpa using e) hd, r0 _, r1 _, ⟨xs, _, _, _, get_set d, hi, hx, f0 _ ha, hs⟩, _, rfl⟩
theorem take_sat {k : Nat} {st0 st : Store} {l : Nat} {many : Int} {Q : D → Store → Prop} {E : Exn → Store → Prop} (h : Dw l st0 st) (hm : 0 < many) (hb : many < 1073741824) (q : ∀ (r : Nat) st', (r : Int) < many → Dw l st0 st' → Q (.int r) st') : Sat (callF Pr (k+1) 23 [.ref l, .int many] st) Q E := by
  obtain ⟨r, st', e, h0, h1, ok, o, rfl⟩ := take_spec k st l many h.ok hm hb
  obtain ⟨n, rfl⟩ := Int.eq_ofNat_of_zero_le h0
  exact Sat.of e (q n _ h1 (h.trans ⟨ok, List.length_set, fun j hj => by rw [List.getElem?_set, if_neg (Ne.symm hj)]⟩))
/-- the draw object is made -/
theorem draw_sat {k : Nat} {ns : List Int} {Q : D → Store → Prop} {E : Exn → Store → Prop} (hz : ns.length ≤ 63) (q : ∀ st, Dw 0 st st → st.length = 1 → Q (.ref 0) st) : Sat (callF Pr (k+1) 22 [.kls (ns.map .int)] []) Q E := by
  rw [callF_at (show Pr.fns[22]? = some ⟨1, 3, b22⟩ from rfl)]
  refine sat_run rfl ?_
  simp -implicitDefEqProofs -dsimp only [J.sat_ok, J.sat_exc, J.satS_ok, J.satS_exc, J.sat_bnd, J.satS_bndS, J.satS_thn, J.seqQ_nx, J.seqQ_ret, J.seqQ_brk, J.seqQ_ct, J.finQ_nx, J.finQ_ret, J.turnQ_nx, J.turnQ_ct, J.turnQ_brk, J.turnQ_ret, J.execs, J.exec, J.ev, J.evs, J.evO, J.tst, J.tsOr, J.tsAnd, J.evAnd, J.evOr, J.itD, J.bnd_okE, J.bndS_okE, J.thn_nxE, J.thn_retE, J.ofO_someE, J.snap_non, J.snap_bl, J.snap_int, J.snap_str, J.snap_tup, J.snap_lst, J.snap_kls, J.gx_call, J.gx_glo, J.gx_isa, J.asg_name, J.asg_tup, J.asgTs, J.wipeE, J.truth_bl, J.truth_int, J.truth_tup, J.truth_lst, J.bin_add, J.bin_sub, J.cmp_eqI, J.cmp_neI, J.cmp_ltI, J.cmp_gtI, J.cmp_leI, J.cmp_geI, J.cmp_isN, J.cmp_isnotN, J.ix_lst, J.ix_tup, J.len_lst, J.len_tup, J.int_int, J.abs_int, J.btD, J.isNon, J.tupleB, J.listB, J.items?, J.setMO, List.map, List.length_cons, List.length_nil, List.replicate, List.getElem?_cons_zero, List.getElem?_cons_succ, J.sz0, J.sz1, J.sz2, J.sz3, J.sz4, J.sz5, J.sz6, J.sz7, J.sz8, J.sz9, J.sz10, J.sz11, J.sz12, J.sz13, J.sz14, J.sz15, J.sz16, J.sz17, J.sz18, J.sz19, J.sz20, J.sz21, J.sz22, J.sz23, J.sz24, J.sz25, J.sz26, J.sz27, J.sz28, J.sz29, J.sz30, J.sz31, J.sz32, J.sz33, J.sz34, J.sz35, J.sz36, J.sz37, J.sz38, J.sz39, J.sz40, J.sz41, J.sz42, J.sz43, J.sz44, J.sz45, J.sz46, J.sz47, J.sz48, J.sz49, J.sz50, J.sz51, J.sz52, J.sz53, J.sz54, J.sz55, J.sz56, J.sz57, J.sz58, J.sz59, J.sz60, J.cast0, J.cast1, J.cast2, J.cast3, J.cast4, J.cast5, J.cast6, J.cast7, J.cast8, J.cast9, J.cast10, J.cast11, J.cast12, J.cast13, J.cast14, J.cast15, J.cast16, J.cast17, J.cast18, J.cast19, J.cast20, Int.reduceBEq, Int.reduceLT, Int.reduceNeg, Int.reduceAdd, Int.reduceSub, decide_true, decide_false, J.at0of1, J.at0of2, J.at1of2, J.at0of3, J.at1of3, J.at2of3, J.szl0, J.szl1, J.szl2, J.szl3, J.szl4, J.szl5, J.szl6, J.szl7, J.szl8, J.szl9, J.szl10, J.szl11, J.szl12, J.szl13, J.szl14, J.szl15, J.szl16, J.szl17, J.szl18, J.szl19, J.szl20, J.szl21, J.szl22, J.szl23, J.szl24, J.szl25, J.szl26, J.szl27, J.szl28, J.szl29, J.szl30, J.szl31, J.szl32, J.szl33, J.szl34, J.szl35, J.szl36, J.szl37, J.szl38, J.szl39, J.szl40, J.szl41, J.szl42, J.szl43, J.szl44, J.szl45, J.szl46, J.szl47, J.szl48, J.szl49, J.szl50, J.szl51, J.szl52, J.szl53, J.szl54, J.szl55, J.szl56, J.szl57, J.szl58, J.szl59, J.szl60, and_self, if_true, if_false, Bool.false_eq_true, Bool.and_true, Bool.true_and, Bool.not_true, Bool.not_false, List.cons_append, List.nil_append, Option.map_some, Nat.sub_self, Nat.zero_add, Nat.reduceAdd, Nat.reduceSub, Nat.reduceLT, List.set_cons_zero, List.set_cons_succ, Option.bind_some, b22]
  refine sat_for (fun _ e s => s = [] ∧ ∃ (z : Int) (sl : J.Slot), e = [.val (.kls (ns.map .int)), .val (.int z), sl] ∧ 0 ≤ z) ⟨rfl, 7, .un, rfl, by decide⟩ (fun pre x post e s hx ⟨hs, z, sl, he, h0⟩ => ?_) fun e s ⟨hs, z, sl, he, h0⟩ => ?_
  · obtain ⟨n, _, rfl⟩ := List.mem_map.mp (show x ∈ ns.map D.int by rw [hx]; simp)
    subst hs he
    refine ⟨_, asg_name (by simp), ?_⟩
    simp -implicitDefEqProofs -dsimp only [J.sat_ok, J.sat_exc, J.satS_ok, J.satS_exc, J.sat_bnd, J.satS_bndS, J.satS_thn, J.seqQ_nx, J.seqQ_ret, J.seqQ_brk, J.seqQ_ct, J.finQ_nx, J.finQ_ret, J.turnQ_nx, J.turnQ_ct, J.turnQ_brk, J.turnQ_ret, J.execs, J.exec, J.ev, J.evs, J.evO, J.tst, J.tsOr, J.tsAnd, J.evAnd, J.evOr, J.itD, J.bnd_okE, J.bndS_okE, J.thn_nxE, J.thn_retE, J.ofO_someE, J.snap_non, J.snap_bl, J.snap_int, J.snap_str, J.snap_tup, J.snap_lst, J.snap_kls, J.gx_call, J.gx_glo, J.gx_isa, J.asg_name, J.asg_tup, J.asgTs, J.wipeE, J.truth_bl, J.truth_int, J.truth_tup, J.truth_lst, J.bin_add, J.bin_sub, J.cmp_eqI, J.cmp_neI, J.cmp_ltI, J.cmp_gtI, J.cmp_leI, J.cmp_geI, J.cmp_isN, J.cmp_isnotN, J.ix_lst, J.ix_tup, J.len_lst, J.len_tup, J.int_int, J.abs_int, J.btD, J.isNon, J.tupleB, J.listB, J.items?, J.setMO, List.map, List.length_cons, List.length_nil, List.replicate, List.getElem?_cons_zero, List.getElem?_cons_succ, J.sz0, J.sz1, J.sz2, J.sz3, J.sz4, J.sz5, J.sz6, J.sz7, J.sz8, J.sz9, J.sz10, J.sz11, J.sz12, J.sz13, J.sz14, J.sz15, J.sz16, J.sz17, J.sz18, J.sz19, J.sz20, J.sz21, J.sz22, J.sz23, J.sz24, J.sz25, J.sz26, J.sz27, J.sz28, J.sz29, J.sz30, J.sz31, J.sz32, J.sz33, J.sz34, J.sz35, J.sz36, J.sz37, J.sz38, J.sz39, J.sz40, J.sz41, J.sz42, J.sz43, J.sz44, J.sz45, J.sz46, J.sz47, J.sz48, J.sz49, J.sz50, J.sz51, J.sz52, J.sz53, J.sz54, J.sz55, J.sz56, J.sz57, J.sz58, J.sz59, J.sz60, J.cast0, J.cast1, J.cast2, J.cast3, J.cast4, J.cast5, J.cast6, J.cast7, J.cast8, J.cast9, J.cast10, J.cast11, J.cast12, J.cast13, J.cast14, J.cast15, J.cast16, J.cast17, J.cast18, J.cast19, J.cast20, Int.reduceBEq, Int.reduceLT, Int.reduceNeg, Int.reduceAdd, Int.reduceSub, decide_true, decide_false, J.at0of1, J.at0of2, J.at1of2, J.at0of3, J.at1of3, J.at2of3, J.szl0, J.szl1, J.szl2, J.szl3, J.szl4, J.szl5, J.szl6, J.szl7, J.szl8, J.szl9, J.szl10, J.szl11, J.szl12, J.szl13, J.szl14, J.szl15, J.szl16, J.szl17, J.szl18, J.szl19, J.szl20, J.szl21, J.szl22, J.szl23, J.szl24, J.szl25, J.szl26, J.szl27, J.szl28, J.szl29, J.szl30, J.szl31, J.szl32, J.szl33, J.szl34, J.szl35, J.szl36, J.szl37, J.szl38, J.szl39, J.szl40, J.szl41, J.szl42, J.szl43, J.szl44, J.szl45, J.szl46, J.szl47, J.szl48, J.szl49, J.szl50, J.szl51, J.szl52, J.szl53, J.szl54, J.szl55, J.szl56, J.szl57, J.szl58, J.szl59, J.szl60, and_self, if_true, if_false, Bool.false_eq_true, Bool.and_true, Bool.true_and, Bool.not_true, Bool.not_false, List.cons_append, List.nil_append, Option.map_some, Nat.sub_self, Nat.zero_add, Nat.reduceAdd, Nat.reduceSub, Nat.reduceLT, List.set_cons_zero, List.set_cons_succ, Option.bind_some, bin_mul (i := z) (j := 48271) (by decide), bin_mod (j := 65521) (by decide), bin_mod (j := 2147483647) (by decide)]
    exact ⟨trivial, _, _, rfl, Int.fmod_nonneg_of_pos _ (by decide)⟩
  · subst hs he
    simp -implicitDefEqProofs -dsimp only [J.sat_ok, J.sat_exc, J.satS_ok, J.satS_exc, J.sat_bnd, J.satS_bndS, J.satS_thn, J.seqQ_nx, J.seqQ_ret, J.seqQ_brk, J.seqQ_ct, J.finQ_nx, J.finQ_ret, J.turnQ_nx, J.turnQ_ct, J.turnQ_brk, J.turnQ_ret, J.execs, J.exec, J.ev, J.evs, J.evO, J.tst, J.tsOr, J.tsAnd, J.evAnd, J.evOr, J.itD, J.bnd_okE, J.bndS_okE, J.thn_nxE, J.thn_retE, J.ofO_someE, J.snap_non, J.snap_bl, J.snap_int, J.snap_str, J.snap_tup, J.snap_lst, J.snap_kls, J.gx_call, J.gx_glo, J.gx_isa, J.asg_name, J.asg_tup, J.asgTs, J.wipeE, J.truth_bl, J.truth_int, J.truth_tup, J.truth_lst, J.bin_add, J.bin_sub, J.cmp_eqI, J.cmp_neI, J.cmp_ltI, J.cmp_gtI, J.cmp_leI, J.cmp_geI, J.cmp_isN, J.cmp_isnotN, J.ix_lst, J.ix_tup, J.len_lst, J.len_tup, J.int_int, J.abs_int, J.btD, J.isNon, J.tupleB, J.listB, J.items?, J.setMO, List.map, List.length_cons, List.length_nil, List.replicate, List.getElem?_cons_zero, List.getElem?_cons_succ, J.sz0, J.sz1, J.sz2, J.sz3, J.sz4, J.sz5, J.sz6, J.sz7, J.sz8, J.sz9, J.sz10, J.sz11, J.sz12, J.sz13, J.sz14, J.sz15, J.sz16, J.sz17, J.sz18, J.sz19, J.sz20, J.sz21, J.sz22, J.sz23, J.sz24, J.sz25, J.sz26, J.sz27, J.sz28, J.sz29, J.sz30, J.sz31, J.sz32, J.sz33, J.sz34, J.sz35, J.sz36, J.sz37, J.sz38, J.sz39, J.sz40, J.sz41, J.sz42, J.sz43, J.sz44, J.sz45, J.sz46, J.sz47, J.sz48, J.sz49, J.sz50, J.sz51, J.sz52, J.sz53, J.sz54, J.sz55, J.sz56, J.sz57, J.sz58, J.sz59, J.sz60, J.cast0, J.cast1, J.cast2, J.cast3, J.cast4, J.cast5, J.cast6, J.cast7, J.cast8, J.cast9, J.cast10, J.cast11, J.cast12, J.cast13, J.cast14, J.cast15, J.cast16, J.cast17, J.cast18, J.cast19, J.cast20, Int.reduceBEq, Int.reduceLT, Int.reduceNeg, Int.reduceAdd, Int.reduceSub, decide_true, decide_false, J.at0of1, J.at0of2, J.at1of2, J.at0of3, J.at1of3, J.at2of3, J.szl0, J.szl1, J.szl2, J.szl3, J.szl4, J.szl5, J.szl6, J.szl7, J.szl8, J.szl9, J.szl10, J.szl11, J.szl12, J.szl13, J.szl14, J.szl15, J.szl16, J.szl17, J.szl18, J.szl19, J.szl20, J.szl21, J.szl22, J.szl23, J.szl24, J.szl25, J.szl26, J.szl27, J.szl28, J.szl29, J.szl30, J.szl31, J.szl32, J.szl33, J.szl34, J.szl35, J.szl36, J.szl37, J.szl38, J.szl39, J.szl40, J.szl41, J.szl42, J.szl43, J.szl44, J.szl45, J.szl46, J.szl47, J.szl48, J.szl49, J.szl50, J.szl51, J.szl52, J.szl53, J.szl54, J.szl55, J.szl56, J.szl57, J.szl58, J.szl59, J.szl60, and_self, if_true, if_false, Bool.false_eq_true, Bool.and_true, Bool.true_and, Bool.not_true, Bool.not_false, List.cons_append, List.nil_append, Option.map_some, Nat.sub_self, Nat.zero_add, Nat.reduceAdd, Nat.reduceSub, Nat.reduceLT, List.set_cons_zero, List.set_cons_succ, Option.bind_some]
    refine sat_map (fun s => s = []) (fun y => ∃ n : Int, y = .int n ∧ 0 ≤ n) (by rw [List.length_map]; unfold SZ; omega) rfl (fun x s hx hs => ?_) fun ys s hs hp hl => ?_
    · obtain ⟨n, _, rfl⟩ := List.mem_map.mp hx
      subst hs
      simp -implicitDefEqProofs -dsimp only [J.sat_ok, J.sat_exc, J.satS_ok, J.satS_exc, J.sat_bnd, J.satS_bndS, J.satS_thn, J.seqQ_nx, J.seqQ_ret, J.seqQ_brk, J.seqQ_ct, J.finQ_nx, J.finQ_ret, J.turnQ_nx, J.turnQ_ct, J.turnQ_brk, J.turnQ_ret, J.execs, J.exec, J.ev, J.evs, J.evO, J.tst, J.tsOr, J.tsAnd, J.evAnd, J.evOr, J.itD, J.bnd_okE, J.bndS_okE, J.thn_nxE, J.thn_retE, J.ofO_someE, J.snap_non, J.snap_bl, J.snap_int, J.snap_str, J.snap_tup, J.snap_lst, J.snap_kls, J.gx_call, J.gx_glo, J.gx_isa, J.asg_name, J.asg_tup, J.asgTs, J.wipeE, J.truth_bl, J.truth_int, J.truth_tup, J.truth_lst, J.bin_add, J.bin_sub, J.cmp_eqI, J.cmp_neI, J.cmp_ltI, J.cmp_gtI, J.cmp_leI, J.cmp_geI, J.cmp_isN, J.cmp_isnotN, J.ix_lst, J.ix_tup, J.len_lst, J.len_tup, J.int_int, J.abs_int, J.btD, J.isNon, J.tupleB, J.listB, J.items?, J.setMO, List.map, List.length_cons, List.length_nil, List.replicate, List.getElem?_cons_zero, List.getElem?_cons_succ, J.sz0, J.sz1, J.sz2, J.sz3, J.sz4, J.sz5, J.sz6, J.sz7, J.sz8, J.sz9, J.sz10, J.sz11, J.sz12, J.sz13, J.sz14, J.sz15, J.sz16, J.sz17, J.sz18, J.sz19, J.sz20, J.sz21, J.sz22, J.sz23, J.sz24, J.sz25, J.sz26, J.sz27, J.sz28, J.sz29, J.sz30, J.sz31, J.sz32, J.sz33, J.sz34, J.sz35, J.sz36, J.sz37, J.sz38, J.sz39, J.sz40, J.sz41, J.sz42, J.sz43, J.sz44, J.sz45, J.sz46, J.sz47, J.sz48, J.sz49, J.sz50, J.sz51, J.sz52, J.sz53, J.sz54, J.sz55, J.sz56, J.sz57, J.sz58, J.sz59, J.sz60, J.cast0, J.cast1, J.cast2, J.cast3, J.cast4, J.cast5, J.cast6, J.cast7, J.cast8, J.cast9, J.cast10, J.cast11, J.cast12, J.cast13, J.cast14, J.cast15, J.cast16, J.cast17, J.cast18, J.cast19, J.cast20, Int.reduceBEq, Int.reduceLT, Int.reduceNeg, Int.reduceAdd, Int.reduceSub, decide_true, decide_false, J.at0of1, J.at0of2, J.at1of2, J.at0of3, J.at1of3, J.at2of3, J.szl0, J.szl1, J.szl2, J.szl3, J.szl4, J.szl5, J.szl6, J.szl7, J.szl8, J.szl9, J.szl10, J.szl11, J.szl12, J.szl13, J.szl14, J.szl15, J.szl16, J.szl17, J.szl18, J.szl19, J.szl20, J.szl21, J.szl22, J.szl23, J.szl24, J.szl25, J.szl26, J.szl27, J.szl28, J.szl29, J.szl30, J.szl31, J.szl32, J.szl33, J.szl34, J.szl35, J.szl36, J.szl37, J.szl38, J.szl39, J.szl40, J.szl41, J.szl42, J.szl43, J.szl44, J.szl45, J.szl46, J.szl47, J.szl48, J.szl49, J.szl50, J.szl51, J.szl52, J.szl53, J.szl54, J.szl55, J.szl56, J.szl57, J.szl58, J.szl59, J.szl60, and_self, if_true, if_false, Bool.false_eq_true, Bool.and_true, Bool.true_and, Bool.not_true, Bool.not_false, List.cons_append, List.nil_append, Option.map_some, Nat.sub_self, Nat.zero_add, Nat.reduceAdd, Nat.reduceSub, Nat.reduceLT, List.set_cons_zero, List.set_cons_succ, Option.bind_some]
      exact ⟨trivial, _, rfl, _, rfl, by split <;> omega⟩
    · subst hs
      obtain ⟨xs, rfl, h1, _⟩ := map_of_all hp
      simp -implicitDefEqProofs -dsimp only [J.sat_ok, J.sat_exc, J.satS_ok, J.satS_exc, J.sat_bnd, J.satS_bndS, J.satS_thn, J.seqQ_nx, J.seqQ_ret, J.seqQ_brk, J.seqQ_ct, J.finQ_nx, J.finQ_ret, J.turnQ_nx, J.turnQ_ct, J.turnQ_brk, J.turnQ_ret, J.execs, J.exec, J.ev, J.evs, J.evO, J.tst, J.tsOr, J.tsAnd, J.evAnd, J.evOr, J.itD, J.bnd_okE, J.bndS_okE, J.thn_nxE, J.thn_retE, J.ofO_someE, J.snap_non, J.snap_bl, J.snap_int, J.snap_str, J.snap_tup, J.snap_lst, J.snap_kls, J.gx_call, J.gx_glo, J.gx_isa, J.asg_name, J.asg_tup, J.asgTs, J.wipeE, J.truth_bl, J.truth_int, J.truth_tup, J.truth_lst, J.bin_add, J.bin_sub, J.cmp_eqI, J.cmp_neI, J.cmp_ltI, J.cmp_gtI, J.cmp_leI, J.cmp_geI, J.cmp_isN, J.cmp_isnotN, J.ix_lst, J.ix_tup, J.len_lst, J.len_tup, J.int_int, J.abs_int, J.btD, J.isNon, J.tupleB, J.listB, J.items?, J.setMO, List.map, List.length_cons, List.length_nil, List.replicate, List.getElem?_cons_zero, List.getElem?_cons_succ, J.sz0, J.sz1, J.sz2, J.sz3, J.sz4, J.sz5, J.sz6, J.sz7, J.sz8, J.sz9, J.sz10, J.sz11, J.sz12, J.sz13, J.sz14, J.sz15, J.sz16, J.sz17, J.sz18, J.sz19, J.sz20, J.sz21, J.sz22, J.sz23, J.sz24, J.sz25, J.sz26, J.sz27, J.sz28, J.sz29, J.sz30, J.sz31, J.sz32, J.sz33, J.sz34, J.sz35, J.sz36, J.sz37, J.sz38, J.sz39, J.sz40, J.sz41, J.sz42, J.sz43, J.sz44, J.sz45, J.sz46, J.sz47, J.sz48, J.sz49, J.sz50, J.sz51, J.sz52, J.sz53, J.sz54, J.sz55, J.sz56, J.sz57, J.sz58, J.sz59, J.sz60, J.cast0, J.cast1, J.cast2, J.cast3, J.cast4, J.cast5, J.cast6, J.cast7, J.cast8, J.cast9, J.cast10, J.cast11, J.cast12, J.cast13, J.cast14, J.cast15, J.cast16, J.cast17, J.cast18, J.cast19, J.cast20, Int.reduceBEq, Int.reduceLT, Int.reduceNeg, Int.reduceAdd, Int.reduceSub, decide_true, decide_false, J.at0of1, J.at0of2, J.at1of2, J.at0of3, J.at1of3, J.at2of3, J.szl0, J.szl1, J.szl2, J.szl3, J.szl4, J.szl5, J.szl6, J.szl7, J.szl8, J.szl9, J.szl10, J.szl11, J.szl12, J.szl13, J.szl14, J.szl15, J.szl16, J.szl17, J.szl18, J.szl19, J.szl20, J.szl21, J.szl22, J.szl23, J.szl24, J.szl25, J.szl26, J.szl27, J.szl28, J.szl29, J.szl30, J.szl31, J.szl32, J.szl33, J.szl34, J.szl35, J.szl36, J.szl37, J.szl38, J.szl39, J.szl40, J.szl41, J.szl42, J.szl43, J.szl44, J.szl45, J.szl46, J.szl47, J.szl48, J.szl49, J.szl50, J.szl51, J.szl52, J.szl53, J.szl54, J.szl55, J.szl56, J.szl57, J.szl58, J.szl59, J.szl60, and_self, if_true, if_false, Bool.false_eq_true, Bool.and_true, Bool.true_and, Bool.not_true, Bool.not_false, List.cons_append, List.nil_append, Option.map_some, Nat.sub_self, Nat.zero_add, Nat.reduceAdd, Nat.reduceSub, Nat.reduceLT, List.set_cons_zero, List.set_cons_succ, Option.bind_some]
      exact q _ (Dw.refl ⟨xs, -1, 0, z, rfl, by decide, h1, by decide, h0⟩) rfl
end L_k00

namespace L_k00
open PySem J
theorem fact_sat {k : Nat} {st0 st : Store} {l : Nat} {sch : Sch} {m : Nat} {Q : D → Store → Prop} {E : Exn → Store → Prop} (h : Dw l st0 st) (hs : sch ≠ []) (hl : sch.length ≤ 100) (hw : ∀ p ∈ sch, p.2 ≤ 100) (hm : 0 < m) (hb : m < 1000) (q : ∀ x st', FactP sch m x → Dw l st0 st' → Q x st') : Sat (callF Pr (k+2) 24 [.ref l, schD sch, .int m] st) Q E := by
  rw [callF_at (show Pr.fns[24]? = some ⟨3, 6, b24⟩ from rfl)]
  refine sat_run rfl ?_
  simp -implicitDefEqProofs -dsimp only [J.sat_ok, J.sat_exc, J.satS_ok, J.satS_exc, J.sat_bnd, J.satS_bndS, J.satS_thn, J.seqQ_nx, J.seqQ_ret, J.seqQ_brk, J.seqQ_ct, J.finQ_nx, J.finQ_ret, J.turnQ_nx, J.turnQ_ct, J.turnQ_brk, J.turnQ_ret, J.execs, J.exec, J.ev, J.evs, J.evO, J.tst, J.tsOr, J.tsAnd, J.evAnd, J.evOr, J.itD, J.bnd_okE, J.bndS_okE, J.thn_nxE, J.thn_retE, J.ofO_someE, J.snap_non, J.snap_bl, J.snap_int, J.snap_str, J.snap_tup, J.snap_lst, J.snap_kls, J.gx_call, J.gx_glo, J.gx_isa, J.asg_name, J.asg_tup, J.asgTs, J.wipeE, J.truth_bl, J.truth_int, J.truth_tup, J.truth_lst, J.bin_add, J.bin_sub, J.cmp_eqI, J.cmp_neI, J.cmp_ltI, J.cmp_gtI, J.cmp_leI, J.cmp_geI, J.cmp_isN, J.cmp_isnotN, J.ix_lst, J.ix_tup, J.len_lst, J.len_tup, J.int_int, J.abs_int, J.btD, J.isNon, J.tupleB, J.listB, J.items?, J.setMO, List.map, List.length_cons, List.length_nil, List.replicate, List.getElem?_cons_zero, List.getElem?_cons_succ, J.sz0, J.sz1, J.sz2, J.sz3, J.sz4, J.sz5, J.sz6, J.sz7, J.sz8, J.sz9, J.sz10, J.sz11, J.sz12, J.sz13, J.sz14, J.sz15, J.sz16, J.sz17, J.sz18, J.sz19, J.sz20, J.sz21, J.sz22, J.sz23, J.sz24, J.sz25, J.sz26, J.sz27, J.sz28, J.sz29, J.sz30, J.sz31, J.sz32, J.sz33, J.sz34, J.sz35, J.sz36, J.sz37, J.sz38, J.sz39, J.sz40, J.sz41, J.sz42, J.sz43, J.sz44, J.sz45, J.sz46, J.sz47, J.sz48, J.sz49, J.sz50, J.sz51, J.sz52, J.sz53, J.sz54, J.sz55, J.sz56, J.sz57, J.sz58, J.sz59, J.sz60, J.cast0, J.cast1, J.cast2, J.cast3, J.cast4, J.cast5, J.cast6, J.cast7, J.cast8, J.cast9, J.cast10, J.cast11, J.cast12, J.cast13, J.cast14, J.cast15, J.cast16, J.cast17, J.cast18, J.cast19, J.cast20, Int.reduceBEq, Int.reduceLT, Int.reduceNeg, Int.reduceAdd, Int.reduceSub, decide_true, decide_false, J.at0of1, J.at0of2, J.at1of2, J.at0of3, J.at1of3, J.at2of3, J.szl0, J.szl1, J.szl2, J.szl3, J.szl4, J.szl5, J.szl6, J.szl7, J.szl8, J.szl9, J.szl10, J.szl11, J.szl12, J.szl13, J.szl14, J.szl15, J.szl16, J.szl17, J.szl18, J.szl19, J.szl20, J.szl21, J.szl22, J.szl23, J.szl24, J.szl25, J.szl26, J.szl27, J.szl28, J.szl29, J.szl30, J.szl31, J.szl32, J.szl33, J.szl34, J.szl35, J.szl36, J.szl37, J.szl38, J.szl39, J.szl40, J.szl41, J.szl42, J.szl43, J.szl44, J.szl45, J.szl46, J.szl47, J.szl48, J.szl49, J.szl50, J.szl51, J.szl52, J.szl53, J.szl54, J.szl55, J.szl56, J.szl57, J.szl58, J.szl59, J.szl60, and_self, if_true, if_false, Bool.false_eq_true, Bool.and_true, Bool.true_and, Bool.not_true, Bool.not_false, List.cons_append, List.nil_append, Option.map_some, Nat.sub_self, Nat.zero_add, Nat.reduceAdd, Nat.reduceSub, Nat.reduceLT, List.set_cons_zero, List.set_cons_succ, Option.bind_some, b24, schD]
  have hp : 0 < sch.length := List.length_pos_iff.mpr hs
  refine take_sat h (by rw [List.length_map]; omega) (by rw [List.length_map]; omega) fun r st' hr d => ?_
  obtain ⟨⟨nm, w⟩, hx, e⟩ := atI_map hr
  have hw := hw _ hx
  simp -implicitDefEqProofs -dsimp only [J.sat_ok, J.sat_exc, J.satS_ok, J.satS_exc, J.sat_bnd, J.satS_bndS, J.satS_thn, J.seqQ_nx, J.seqQ_ret, J.seqQ_brk, J.seqQ_ct, J.finQ_nx, J.finQ_ret, J.turnQ_nx, J.turnQ_ct, J.turnQ_brk, J.turnQ_ret, J.execs, J.exec, J.ev, J.evs, J.evO, J.tst, J.tsOr, J.tsAnd, J.evAnd, J.evOr, J.itD, J.bnd_okE, J.bndS_okE, J.thn_nxE, J.thn_retE, J.ofO_someE, J.snap_non, J.snap_bl, J.snap_int, J.snap_str, J.snap_tup, J.snap_lst, J.snap_kls, J.gx_call, J.gx_glo, J.gx_isa, J.asg_name, J.asg_tup, J.asgTs, J.wipeE, J.truth_bl, J.truth_int, J.truth_tup, J.truth_lst, J.bin_add, J.bin_sub, J.cmp_eqI, J.cmp_neI, J.cmp_ltI, J.cmp_gtI, J.cmp_leI, J.cmp_geI, J.cmp_isN, J.cmp_isnotN, J.ix_lst, J.ix_tup, J.len_lst, J.len_tup, J.int_int, J.abs_int, J.btD, J.isNon, J.tupleB, J.listB, J.items?, J.setMO, List.map, List.length_cons, List.length_nil, List.replicate, List.getElem?_cons_zero, List.getElem?_cons_succ, J.sz0, J.sz1, J.sz2, J.sz3, J.sz4, J.sz5, J.sz6, J.sz7, J.sz8, J.sz9, J.sz10, J.sz11, J.sz12, J.sz13, J.sz14, J.sz15, J.sz16, J.sz17, J.sz18, J.sz19, J.sz20, J.sz21, J.sz22, J.sz23, J.sz24, J.sz25, J.sz26, J.sz27, J.sz28, J.sz29, J.sz30, J.sz31, J.sz32, J.sz33, J.sz34, J.sz35, J.sz36, J.sz37, J.sz38, J.sz39, J.sz40, J.sz41, J.sz42, J.sz43, J.sz44, J.sz45, J.sz46, J.sz47, J.sz48, J.sz49, J.sz50, J.sz51, J.sz52, J.sz53, J.sz54, J.sz55, J.sz56, J.sz57, J.sz58, J.sz59, J.sz60, J.cast0, J.cast1, J.cast2, J.cast3, J.cast4, J.cast5, J.cast6, J.cast7, J.cast8, J.cast9, J.cast10, J.cast11, J.cast12, J.cast13, J.cast14, J.cast15, J.cast16, J.cast17, J.cast18, J.cast19, J.cast20, Int.reduceBEq, Int.reduceLT, Int.reduceNeg, Int.reduceAdd, Int.reduceSub, decide_true, decide_false, J.at0of1, J.at0of2, J.at1of2, J.at0of3, J.at1of3, J.at2of3, J.szl0, J.szl1, J.szl2, J.szl3, J.szl4, J.szl5, J.szl6, J.szl7, J.szl8, J.szl9, J.szl10, J.szl11, J.szl12, J.szl13, J.szl14, J.szl15, J.szl16, J.szl17, J.szl18, J.szl19, J.szl20, J.szl21, J.szl22, J.szl23, J.szl24, J.szl25, J.szl26, J.szl27, J.szl28, J.szl29, J.szl30, J.szl31, J.szl32, J.szl33, J.szl34, J.szl35, J.szl36, J.szl37, J.szl38, J.szl39, J.szl40, J.szl41, J.szl42, J.szl43, J.szl44, J.szl45, J.szl46, J.szl47, J.szl48, J.szl49, J.szl50, J.szl51, J.szl52, J.szl53, J.szl54, J.szl55, J.szl56, J.szl57, J.szl58, J.szl59, J.szl60, and_self, if_true, if_false, Bool.false_eq_true, Bool.and_true, Bool.true_and, Bool.not_true, Bool.not_false, List.cons_append, List.nil_append, Option.map_some, Nat.sub_self, Nat.zero_add, Nat.reduceAdd, Nat.reduceSub, Nat.reduceLT, List.set_cons_zero, List.set_cons_succ, Option.bind_some, e, range_ok (j := (w : Int)) (by omega) (by omega)]
  refine sat_map (fun s => Dw l st0 s) (fun y => ∃ n : Nat, y = .int n ∧ n < m) (by rw [rngD_len]; unfold SZ; omega) d (fun x s hx hs => ?_) fun ys s hs hp hl => ?_
  · simp -implicitDefEqProofs -dsimp only [J.sat_ok, J.sat_exc, J.satS_ok, J.satS_exc, J.sat_bnd, J.satS_bndS, J.satS_thn, J.seqQ_nx, J.seqQ_ret, J.seqQ_brk, J.seqQ_ct, J.finQ_nx, J.finQ_ret, J.turnQ_nx, J.turnQ_ct, J.turnQ_brk, J.turnQ_ret, J.execs, J.exec, J.ev, J.evs, J.evO, J.tst, J.tsOr, J.tsAnd, J.evAnd, J.evOr, J.itD, J.bnd_okE, J.bndS_okE, J.thn_nxE, J.thn_retE, J.ofO_someE, J.snap_non, J.snap_bl, J.snap_int, J.snap_str, J.snap_tup, J.snap_lst, J.snap_kls, J.gx_call, J.gx_glo, J.gx_isa, J.asg_name, J.asg_tup, J.asgTs, J.wipeE, J.truth_bl, J.truth_int, J.truth_tup, J.truth_lst, J.bin_add, J.bin_sub, J.cmp_eqI, J.cmp_neI, J.cmp_ltI, J.cmp_gtI, J.cmp_leI, J.cmp_geI, J.cmp_isN, J.cmp_isnotN, J.ix_lst, J.ix_tup, J.len_lst, J.len_tup, J.int_int, J.abs_int, J.btD, J.isNon, J.tupleB, J.listB, J.items?, J.setMO, List.map, List.length_cons, List.length_nil, List.replicate, List.getElem?_cons_zero, List.getElem?_cons_succ, J.sz0, J.sz1, J.sz2, J.sz3, J.sz4, J.sz5, J.sz6, J.sz7, J.sz8, J.sz9, J.sz10, J.sz11, J.sz12, J.sz13, J.sz14, J.sz15, J.sz16, J.sz17, J.sz18, J.sz19, J.sz20, J.sz21, J.sz22, J.sz23, J.sz24, J.sz25, J.sz26, J.sz27, J.sz28, J.sz29, J.sz30, J.sz31, J.sz32, J.sz33, J.sz34, J.sz35, J.sz36, J.sz37, J.sz38, J.sz39, J.sz40, J.sz41, J.sz42, J.sz43, J.sz44, J.sz45, J.sz46, J.sz47, J.sz48, J.sz49, J.sz50, J.sz51, J.sz52, J.sz53, J.sz54, J.sz55, J.sz56, J.sz57, J.sz58, J.sz59, J.sz60, J.cast0, J.cast1, J.cast2, J.cast3, J.cast4, J.cast5, J.cast6, J.cast7, J.cast8, J.cast9, J.cast10, J.cast11, J.cast12, J.cast13, J.cast14, J.cast15, J.cast16, J.cast17, J.cast18, J.cast19, J.cast20, Int.reduceBEq, Int.reduceLT, Int.reduceNeg, Int.reduceAdd, Int.reduceSub, decide_true, decide_false, J.at0of1, J.at0of2, J.at1of2, J.at0of3, J.at1of3, J.at2of3, J.szl0, J.szl1, J.szl2, J.szl3, J.szl4, J.szl5, J.szl6, J.szl7, J.szl8, J.szl9, J.szl10, J.szl11, J.szl12, J.szl13, J.szl14, J.szl15, J.szl16, J.szl17, J.szl18, J.szl19, J.szl20, J.szl21, J.szl22, J.szl23, J.szl24, J.szl25, J.szl26, J.szl27, J.szl28, J.szl29, J.szl30, J.szl31, J.szl32, J.szl33, J.szl34, J.szl35, J.szl36, J.szl37, J.szl38, J.szl39, J.szl40, J.szl41, J.szl42, J.szl43, J.szl44, J.szl45, J.szl46, J.szl47, J.szl48, J.szl49, J.szl50, J.szl51, J.szl52, J.szl53, J.szl54, J.szl55, J.szl56, J.szl57, J.szl58, J.szl59, J.szl60, and_self, if_true, if_false, Bool.false_eq_true, Bool.and_true, Bool.true_and, Bool.not_true, Bool.not_false, List.cons_append, List.nil_append, Option.map_some, Nat.sub_self, Nat.zero_add, Nat.reduceAdd, Nat.reduceSub, Nat.reduceLT, List.set_cons_zero, List.set_cons_succ, Option.bind_some]
    refine take_sat hs (by omega) (by omega) fun r st' hr d => ?_
    simp -implicitDefEqProofs -dsimp only [J.sat_ok, J.sat_exc, J.satS_ok, J.satS_exc, J.sat_bnd, J.satS_bndS, J.satS_thn, J.seqQ_nx, J.seqQ_ret, J.seqQ_brk, J.seqQ_ct, J.finQ_nx, J.finQ_ret, J.turnQ_nx, J.turnQ_ct, J.turnQ_brk, J.turnQ_ret, J.execs, J.exec, J.ev, J.evs, J.evO, J.tst, J.tsOr, J.tsAnd, J.evAnd, J.evOr, J.itD, J.bnd_okE, J.bndS_okE, J.thn_nxE, J.thn_retE, J.ofO_someE, J.snap_non, J.snap_bl, J.snap_int, J.snap_str, J.snap_tup, J.snap_lst, J.snap_kls, J.gx_call, J.gx_glo, J.gx_isa, J.asg_name, J.asg_tup, J.asgTs, J.wipeE, J.truth_bl, J.truth_int, J.truth_tup, J.truth_lst, J.bin_add, J.bin_sub, J.cmp_eqI, J.cmp_neI, J.cmp_ltI, J.cmp_gtI, J.cmp_leI, J.cmp_geI, J.cmp_isN, J.cmp_isnotN, J.ix_lst, J.ix_tup, J.len_lst, J.len_tup, J.int_int, J.abs_int, J.btD, J.isNon, J.tupleB, J.listB, J.items?, J.setMO, List.map, List.length_cons, List.length_nil, List.replicate, List.getElem?_cons_zero, List.getElem?_cons_succ, J.sz0, J.sz1, J.sz2, J.sz3, J.sz4, J.sz5, J.sz6, J.sz7, J.sz8, J.sz9, J.sz10, J.sz11, J.sz12, J.sz13, J.sz14, J.sz15, J.sz16, J.sz17, J.sz18, J.sz19, J.sz20, J.sz21, J.sz22, J.sz23, J.sz24, J.sz25, J.sz26, J.sz27, J.sz28, J.sz29, J.sz30, J.sz31, J.sz32, J.sz33, J.sz34, J.sz35, J.sz36, J.sz37, J.sz38, J.sz39, J.sz40, J.sz41, J.sz42, J.sz43, J.sz44, J.sz45, J.sz46, J.sz47, J.sz48, J.sz49, J.sz50, J.sz51, J.sz52, J.sz53, J.sz54, J.sz55, J.sz56, J.sz57, J.sz58, J.sz59, J.sz60, J.cast0, J.cast1, J.cast2, J.cast3, J.cast4, J.cast5, J.cast6, J.cast7, J.cast8, J.cast9, J.cast10, J.cast11, J.cast12, J.cast13, J.cast14, J.cast15, J.cast16, J.cast17, J.cast18, J.cast19, J.cast20, Int.reduceBEq, Int.reduceLT, Int.reduceNeg, Int.reduceAdd, Int.reduceSub, decide_true, decide_false, J.at0of1, J.at0of2, J.at1of2, J.at0of3, J.at1of3, J.at2of3, J.szl0, J.szl1, J.szl2, J.szl3, J.szl4, J.szl5, J.szl6, J.szl7, J.szl8, J.szl9, J.szl10, J.szl11, J.szl12, J.szl13, J.szl14, J.szl15, J.szl16, J.szl17, J.szl18, J.szl19, J.szl20, J.szl21, J.szl22, J.szl23, J.szl24, J.szl25, J.szl26, J.szl27, J.szl28, J.szl29, J.szl30, J.szl31, J.szl32, J.szl33, J.szl34, J.szl35, J.szl36, J.szl37, J.szl38, J.szl39, J.szl40, J.szl41, J.szl42, J.szl43, J.szl44, J.szl45, J.szl46, J.szl47, J.szl48, J.szl49, J.szl50, J.szl51, J.szl52, J.szl53, J.szl54, J.szl55, J.szl56, J.szl57, J.szl58, J.szl59, J.szl60, and_self, if_true, if_false, Bool.false_eq_true, Bool.and_true, Bool.true_and, Bool.not_true, Bool.not_false, List.cons_append, List.nil_append, Option.map_some, Nat.sub_self, Nat.zero_add, Nat.reduceAdd, Nat.reduceSub, Nat.reduceLT, List.set_cons_zero, List.set_cons_succ, Option.bind_some]
    exact ⟨d, _, rfl, _, rfl, by omega⟩
  · obtain ⟨row, rfl, h1, h2⟩ := map_of_all hp
    rw [List.length_map, rngD_len] at hl
    simp -implicitDefEqProofs -dsimp only [J.sat_ok, J.sat_exc, J.satS_ok, J.satS_exc, J.sat_bnd, J.satS_bndS, J.satS_thn, J.seqQ_nx, J.seqQ_ret, J.seqQ_brk, J.seqQ_ct, J.finQ_nx, J.finQ_ret, J.turnQ_nx, J.turnQ_ct, J.turnQ_brk, J.turnQ_ret, J.execs, J.exec, J.ev, J.evs, J.evO, J.tst, J.tsOr, J.tsAnd, J.evAnd, J.evOr, J.itD, J.bnd_okE, J.bndS_okE, J.thn_nxE, J.thn_retE, J.ofO_someE, J.snap_non, J.snap_bl, J.snap_int, J.snap_str, J.snap_tup, J.snap_lst, J.snap_kls, J.gx_call, J.gx_glo, J.gx_isa, J.asg_name, J.asg_tup, J.asgTs, J.wipeE, J.truth_bl, J.truth_int, J.truth_tup, J.truth_lst, J.bin_add, J.bin_sub, J.cmp_eqI, J.cmp_neI, J.cmp_ltI, J.cmp_gtI, J.cmp_leI, J.cmp_geI, J.cmp_isN, J.cmp_isnotN, J.ix_lst, J.ix_tup, J.len_lst, J.len_tup, J.int_int, J.abs_int, J.btD, J.isNon, J.tupleB, J.listB, J.items?, J.setMO, List.map, List.length_cons, List.length_nil, List.replicate, List.getElem?_cons_zero, List.getElem?_cons_succ, J.sz0, J.sz1, J.sz2, J.sz3, J.sz4, J.sz5, J.sz6, J.sz7, J.sz8, J.sz9, J.sz10, J.sz11, J.sz12, J.sz13, J.sz14, J.sz15, J.sz16, J.sz17, J.sz18, J.sz19, J.sz20, J.sz21, J.sz22, J.sz23, J.sz24, J.sz25, J.sz26, J.sz27, J.sz28, J.sz29, J.sz30, J.sz31, J.sz32, J.sz33, J.sz34, J.sz35, J.sz36, J.sz37, J.sz38, J.sz39, J.sz40, J.sz41, J.sz42, J.sz43, J.sz44, J.sz45, J.sz46, J.sz47, J.sz48, J.sz49, J.sz50, J.sz51, J.sz52, J.sz53, J.sz54, J.sz55, J.sz56, J.sz57, J.sz58, J.sz59, J.sz60, J.cast0, J.cast1, J.cast2, J.cast3, J.cast4, J.cast5, J.cast6, J.cast7, J.cast8, J.cast9, J.cast10, J.cast11, J.cast12, J.cast13, J.cast14, J.cast15, J.cast16, J.cast17, J.cast18, J.cast19, J.cast20, Int.reduceBEq, Int.reduceLT, Int.reduceNeg, Int.reduceAdd, Int.reduceSub, decide_true, decide_false, J.at0of1, J.at0of2, J.at1of2, J.at0of3, J.at1of3, J.at2of3, J.szl0, J.szl1, J.szl2, J.szl3, J.szl4, J.szl5, J.szl6, J.szl7, J.szl8, J.szl9, J.szl10, J.szl11, J.szl12, J.szl13, J.szl14, J.szl15, J.szl16, J.szl17, J.szl18, J.szl19, J.szl20, J.szl21, J.szl22, J.szl23, J.szl24, J.szl25, J.szl26, J.szl27, J.szl28, J.szl29, J.szl30, J.szl31, J.szl32, J.szl33, J.szl34, J.szl35, J.szl36, J.szl37, J.szl38, J.szl39, J.szl40, J.szl41, J.szl42, J.szl43, J.szl44, J.szl45, J.szl46, J.szl47, J.szl48, J.szl49, J.szl50, J.szl51, J.szl52, J.szl53, J.szl54, J.szl55, J.szl56, J.szl57, J.szl58, J.szl59, J.szl60, and_self, if_true, if_false, Bool.false_eq_true, Bool.and_true, Bool.true_and, Bool.not_true, Bool.not_false, List.cons_append, List.nil_append, Option.map_some, Nat.sub_self, Nat.zero_add, Nat.reduceAdd, Nat.reduceSub, Nat.reduceLT, List.set_cons_zero, List.set_cons_succ, Option.bind_some]
    have hl : row.length = w := by omega
    exact q _ _ ⟨nm, row, rfl, hl ▸ hx, h1⟩ hs
end L_k00

namespace L_k00
open PySem J
theorem atom_sat {k : Nat} {st0 st : Store} {l : Nat} {sch : Sch} {names : List Str} {Q : D → Store → Prop} {E : Exn → Store → Prop} (h : Dw l st0 st) (hs : sch ≠ []) (hl : sch.length ≤ 100) (hw : ∀ p ∈ sch, p.2 ≤ 100) (hn : names ≠ []) (hn2 : names.length ≤ 100) (q : ∀ a st', AtomP sch names a → Dw l st0 st' → Q (encA a) st') : Sat (callF Pr (k+2) 26 [.ref l, schD sch, .lst (names.map .str)] st) Q E := by
  rw [callF_at (show Pr.fns[26]? = some ⟨3, 6, b26⟩ from rfl)]
  refine sat_run rfl ?_
  simp -implicitDefEqProofs -dsimp only [J.sat_ok, J.sat_exc, J.satS_ok, J.satS_exc, J.sat_bnd, J.satS_bndS, J.satS_thn, J.seqQ_nx, J.seqQ_ret, J.seqQ_brk, J.seqQ_ct, J.finQ_nx, J.finQ_ret, J.turnQ_nx, J.turnQ_ct, J.turnQ_brk, J.turnQ_ret, J.execs, J.exec, J.ev, J.evs, J.evO, J.tst, J.tsOr, J.tsAnd, J.evAnd, J.evOr, J.itD, J.bnd_okE, J.bndS_okE, J.thn_nxE, J.thn_retE, J.ofO_someE, J.snap_non, J.snap_bl, J.snap_int, J.snap_str, J.snap_tup, J.snap_lst, J.snap_kls, J.gx_call, J.gx_glo, J.gx_isa, J.asg_name, J.asg_tup, J.asgTs, J.wipeE, J.truth_bl, J.truth_int, J.truth_tup, J.truth_lst, J.bin_add, J.bin_sub, J.cmp_eqI, J.cmp_neI, J.cmp_ltI, J.cmp_gtI, J.cmp_leI, J.cmp_geI, J.cmp_isN, J.cmp_isnotN, J.ix_lst, J.ix_tup, J.len_lst, J.len_tup, J.int_int, J.abs_int, J.btD, J.isNon, J.tupleB, J.listB, J.items?, J.setMO, List.map, List.length_cons, List.length_nil, List.replicate, List.getElem?_cons_zero, List.getElem?_cons_succ, J.sz0, J.sz1, J.sz2, J.sz3, J.sz4, J.sz5, J.sz6, J.sz7, J.sz8, J.sz9, J.sz10, J.sz11, J.sz12, J.sz13, J.sz14, J.sz15, J.sz16, J.sz17, J.sz18, J.sz19, J.sz20, J.sz21, J.sz22, J.sz23, J.sz24, J.sz25, J.sz26, J.sz27, J.sz28, J.sz29, J.sz30, J.sz31, J.sz32, J.sz33, J.sz34, J.sz35, J.sz36, J.sz37, J.sz38, J.sz39, J.sz40, J.sz41, J.sz42, J.sz43, J.sz44, J.sz45, J.sz46, J.sz47, J.sz48, J.sz49, J.sz50, J.sz51, J.sz52, J.sz53, J.sz54, J.sz55, J.sz56, J.sz57, J.sz58, J.sz59, J.sz60, J.cast0, J.cast1, J.cast2, J.cast3, J.cast4, J.cast5, J.cast6, J.cast7, J.cast8, J.cast9, J.cast10, J.cast11, J.cast12, J.cast13, J.cast14, J.cast15, J.cast16, J.cast17, J.cast18, J.cast19, J.cast20, Int.reduceBEq, Int.reduceLT, Int.reduceNeg, Int.reduceAdd, Int.reduceSub, decide_true, decide_false, J.at0of1, J.at0of2, J.at1of2, J.at0of3, J.at1of3, J.at2of3, J.szl0, J.szl1, J.szl2, J.szl3, J.szl4, J.szl5, J.szl6, J.szl7, J.szl8, J.szl9, J.szl10, J.szl11, J.szl12, J.szl13, J.szl14, J.szl15, J.szl16, J.szl17, J.szl18, J.szl19, J.szl20, J.szl21, J.szl22, J.szl23, J.szl24, J.szl25, J.szl26, J.szl27, J.szl28, J.szl29, J.szl30, J.szl31, J.szl32, J.szl33, J.szl34, J.szl35, J.szl36, J.szl37, J.szl38, J.szl39, J.szl40, J.szl41, J.szl42, J.szl43, J.szl44, J.szl45, J.szl46, J.szl47, J.szl48, J.szl49, J.szl50, J.szl51, J.szl52, J.szl53, J.szl54, J.szl55, J.szl56, J.szl57, J.szl58, J.szl59, J.szl60, and_self, if_true, if_false, Bool.false_eq_true, Bool.and_true, Bool.true_and, Bool.not_true, Bool.not_false, List.cons_append, List.nil_append, Option.map_some, Nat.sub_self, Nat.zero_add, Nat.reduceAdd, Nat.reduceSub, Nat.reduceLT, List.set_cons_zero, List.set_cons_succ, Option.bind_some, b26, schD]
  have hp : 0 < sch.length := List.length_pos_iff.mpr hs
  have hp2 : 0 < names.length := List.length_pos_iff.mpr hn
  refine take_sat h (by rw [List.length_map]; omega) (by rw [List.length_map]; omega) fun r st' hr d => ?_
  obtain ⟨⟨nm, w⟩, hx, e⟩ := atI_map hr
  have hw := hw _ hx
  simp -implicitDefEqProofs -dsimp only [J.sat_ok, J.sat_exc, J.satS_ok, J.satS_exc, J.sat_bnd, J.satS_bndS, J.satS_thn, J.seqQ_nx, J.seqQ_ret, J.seqQ_brk, J.seqQ_ct, J.finQ_nx, J.finQ_ret, J.turnQ_nx, J.turnQ_ct, J.turnQ_brk, J.turnQ_ret, J.execs, J.exec, J.ev, J.evs, J.evO, J.tst, J.tsOr, J.tsAnd, J.evAnd, J.evOr, J.itD, J.bnd_okE, J.bndS_okE, J.thn_nxE, J.thn_retE, J.ofO_someE, J.snap_non, J.snap_bl, J.snap_int, J.snap_str, J.snap_tup, J.snap_lst, J.snap_kls, J.gx_call, J.gx_glo, J.gx_isa, J.asg_name, J.asg_tup, J.asgTs, J.wipeE, J.truth_bl, J.truth_int, J.truth_tup, J.truth_lst, J.bin_add, J.bin_sub, J.cmp_eqI, J.cmp_neI, J.cmp_ltI, J.cmp_gtI, J.cmp_leI, J.cmp_geI, J.cmp_isN, J.cmp_isnotN, J.ix_lst, J.ix_tup, J.len_lst, J.len_tup, J.int_int, J.abs_int, J.btD, J.isNon, J.tupleB, J.listB, J.items?, J.setMO, List.map, List.length_cons, List.length_nil, List.replicate, List.getElem?_cons_zero, List.getElem?_cons_succ, J.sz0, J.sz1, J.sz2, J.sz3, J.sz4, J.sz5, J.sz6, J.sz7, J.sz8, J.sz9, J.sz10, J.sz11, J.sz12, J.sz13, J.sz14, J.sz15, J.sz16, J.sz17, J.sz18, J.sz19, J.sz20, J.sz21, J.sz22, J.sz23, J.sz24, J.sz25, J.sz26, J.sz27, J.sz28, J.sz29, J.sz30, J.sz31, J.sz32, J.sz33, J.sz34, J.sz35, J.sz36, J.sz37, J.sz38, J.sz39, J.sz40, J.sz41, J.sz42, J.sz43, J.sz44, J.sz45, J.sz46, J.sz47, J.sz48, J.sz49, J.sz50, J.sz51, J.sz52, J.sz53, J.sz54, J.sz55, J.sz56, J.sz57, J.sz58, J.sz59, J.sz60, J.cast0, J.cast1, J.cast2, J.cast3, J.cast4, J.cast5, J.cast6, J.cast7, J.cast8, J.cast9, J.cast10, J.cast11, J.cast12, J.cast13, J.cast14, J.cast15, J.cast16, J.cast17, J.cast18, J.cast19, J.cast20, Int.reduceBEq, Int.reduceLT, Int.reduceNeg, Int.reduceAdd, Int.reduceSub, decide_true, decide_false, J.at0of1, J.at0of2, J.at1of2, J.at0of3, J.at1of3, J.at2of3, J.szl0, J.szl1, J.szl2, J.szl3, J.szl4, J.szl5, J.szl6, J.szl7, J.szl8, J.szl9, J.szl10, J.szl11, J.szl12, J.szl13, J.szl14, J.szl15, J.szl16, J.szl17, J.szl18, J.szl19, J.szl20, J.szl21, J.szl22, J.szl23, J.szl24, J.szl25, J.szl26, J.szl27, J.szl28, J.szl29, J.szl30, J.szl31, J.szl32, J.szl33, J.szl34, J.szl35, J.szl36, J.szl37, J.szl38, J.szl39, J.szl40, J.szl41, J.szl42, J.szl43, J.szl44, J.szl45, J.szl46, J.szl47, J.szl48, J.szl49, J.szl50, J.szl51, J.szl52, J.szl53, J.szl54, J.szl55, J.szl56, J.szl57, J.szl58, J.szl59, J.szl60, and_self, if_true, if_false, Bool.false_eq_true, Bool.and_true, Bool.true_and, Bool.not_true, Bool.not_false, List.cons_append, List.nil_append, Option.map_some, Nat.sub_self, Nat.zero_add, Nat.reduceAdd, Nat.reduceSub, Nat.reduceLT, List.set_cons_zero, List.set_cons_succ, Option.bind_some, e, range_ok (j := (w : Int)) (by omega) (by omega)]
  refine sat_map (fun s => Dw l st0 s) (fun y => ∃ t : Term, y = encT t ∧ TermP names t) (by rw [rngD_len]; unfold SZ; omega) d (fun x s hx hs => ?_) fun ys s hs hp hl => ?_
  · simp -implicitDefEqProofs -dsimp only [J.sat_ok, J.sat_exc, J.satS_ok, J.satS_exc, J.sat_bnd, J.satS_bndS, J.satS_thn, J.seqQ_nx, J.seqQ_ret, J.seqQ_brk, J.seqQ_ct, J.finQ_nx, J.finQ_ret, J.turnQ_nx, J.turnQ_ct, J.turnQ_brk, J.turnQ_ret, J.execs, J.exec, J.ev, J.evs, J.evO, J.tst, J.tsOr, J.tsAnd, J.evAnd, J.evOr, J.itD, J.bnd_okE, J.bndS_okE, J.thn_nxE, J.thn_retE, J.ofO_someE, J.snap_non, J.snap_bl, J.snap_int, J.snap_str, J.snap_tup, J.snap_lst, J.snap_kls, J.gx_call, J.gx_glo, J.gx_isa, J.asg_name, J.asg_tup, J.asgTs, J.wipeE, J.truth_bl, J.truth_int, J.truth_tup, J.truth_lst, J.bin_add, J.bin_sub, J.cmp_eqI, J.cmp_neI, J.cmp_ltI, J.cmp_gtI, J.cmp_leI, J.cmp_geI, J.cmp_isN, J.cmp_isnotN, J.ix_lst, J.ix_tup, J.len_lst, J.len_tup, J.int_int, J.abs_int, J.btD, J.isNon, J.tupleB, J.listB, J.items?, J.setMO, List.map, List.length_cons, List.length_nil, List.replicate, List.getElem?_cons_zero, List.getElem?_cons_succ, J.sz0, J.sz1, J.sz2, J.sz3, J.sz4, J.sz5, J.sz6, J.sz7, J.sz8, J.sz9, J.sz10, J.sz11, J.sz12, J.sz13, J.sz14, J.sz15, J.sz16, J.sz17, J.sz18, J.sz19, J.sz20, J.sz21, J.sz22, J.sz23, J.sz24, J.sz25, J.sz26, J.sz27, J.sz28, J.sz29, J.sz30, J.sz31, J.sz32, J.sz33, J.sz34, J.sz35, J.sz36, J.sz37, J.sz38, J.sz39, J.sz40, J.sz41, J.sz42, J.sz43, J.sz44, J.sz45, J.sz46, J.sz47, J.sz48, J.sz49, J.sz50, J.sz51, J.sz52, J.sz53, J.sz54, J.sz55, J.sz56, J.sz57, J.sz58, J.sz59, J.sz60, J.cast0, J.cast1, J.cast2, J.cast3, J.cast4, J.cast5, J.cast6, J.cast7, J.cast8, J.cast9, J.cast10, J.cast11, J.cast12, J.cast13, J.cast14, J.cast15, J.cast16, J.cast17, J.cast18, J.cast19, J.cast20, Int.reduceBEq, Int.reduceLT, Int.reduceNeg, Int.reduceAdd, Int.reduceSub, decide_true, decide_false, J.at0of1, J.at0of2, J.at1of2, J.at0of3, J.at1of3, J.at2of3, J.szl0, J.szl1, J.szl2, J.szl3, J.szl4, J.szl5, J.szl6, J.szl7, J.szl8, J.szl9, J.szl10, J.szl11, J.szl12, J.szl13, J.szl14, J.szl15, J.szl16, J.szl17, J.szl18, J.szl19, J.szl20, J.szl21, J.szl22, J.szl23, J.szl24, J.szl25, J.szl26, J.szl27, J.szl28, J.szl29, J.szl30, J.szl31, J.szl32, J.szl33, J.szl34, J.szl35, J.szl36, J.szl37, J.szl38, J.szl39, J.szl40, J.szl41, J.szl42, J.szl43, J.szl44, J.szl45, J.szl46, J.szl47, J.szl48, J.szl49, J.szl50, J.szl51, J.szl52, J.szl53, J.szl54, J.szl55, J.szl56, J.szl57, J.szl58, J.szl59, J.szl60, and_self, if_true, if_false, Bool.false_eq_true, Bool.and_true, Bool.true_and, Bool.not_true, Bool.not_false, List.cons_append, List.nil_append, Option.map_some, Nat.sub_self, Nat.zero_add, Nat.reduceAdd, Nat.reduceSub, Nat.reduceLT, List.set_cons_zero, List.set_cons_succ, Option.bind_some]
    refine take_sat hs (by omega) (by omega) fun r st' hr d => ?_
    simp -implicitDefEqProofs -dsimp only [J.sat_ok, J.sat_exc, J.satS_ok, J.satS_exc, J.sat_bnd, J.satS_bndS, J.satS_thn, J.seqQ_nx, J.seqQ_ret, J.seqQ_brk, J.seqQ_ct, J.finQ_nx, J.finQ_ret, J.turnQ_nx, J.turnQ_ct, J.turnQ_brk, J.turnQ_ret, J.execs, J.exec, J.ev, J.evs, J.evO, J.tst, J.tsOr, J.tsAnd, J.evAnd, J.evOr, J.itD, J.bnd_okE, J.bndS_okE, J.thn_nxE, J.thn_retE, J.ofO_someE, J.snap_non, J.snap_bl, J.snap_int, J.snap_str, J.snap_tup, J.snap_lst, J.snap_kls, J.gx_call, J.gx_glo, J.gx_isa, J.asg_name, J.asg_tup, J.asgTs, J.wipeE, J.truth_bl, J.truth_int, J.truth_tup, J.truth_lst, J.bin_add, J.bin_sub, J.cmp_eqI, J.cmp_neI, J.cmp_ltI, J.cmp_gtI, J.cmp_leI, J.cmp_geI, J.cmp_isN, J.cmp_isnotN, J.ix_lst, J.ix_tup, J.len_lst, J.len_tup, J.int_int, J.abs_int, J.btD, J.isNon, J.tupleB, J.listB, J.items?, J.setMO, List.map, List.length_cons, List.length_nil, List.replicate, List.getElem?_cons_zero, List.getElem?_cons_succ, J.sz0, J.sz1, J.sz2, J.sz3, J.sz4, J.sz5, J.sz6, J.sz7, J.sz8, J.sz9, J.sz10, J.sz11, J.sz12, J.sz13, J.sz14, J.sz15, J.sz16, J.sz17, J.sz18, J.sz19, J.sz20, J.sz21, J.sz22, J.sz23, J.sz24, J.sz25, J.sz26, J.sz27, J.sz28, J.sz29, J.sz30, J.sz31, J.sz32, J.sz33, J.sz34, J.sz35, J.sz36, J.sz37, J.sz38, J.sz39, J.sz40, J.sz41, J.sz42, J.sz43, J.sz44, J.sz45, J.sz46, J.sz47, J.sz48, J.sz49, J.sz50, J.sz51, J.sz52, J.sz53, J.sz54, J.sz55, J.sz56, J.sz57, J.sz58, J.sz59, J.sz60, J.cast0, J.cast1, J.cast2, J.cast3, J.cast4, J.cast5, J.cast6, J.cast7, J.cast8, J.cast9, J.cast10, J.cast11, J.cast12, J.cast13, J.cast14, J.cast15, J.cast16, J.cast17, J.cast18, J.cast19, J.cast20, Int.reduceBEq, Int.reduceLT, Int.reduceNeg, Int.reduceAdd, Int.reduceSub, decide_true, decide_false, J.at0of1, J.at0of2, J.at1of2, J.at0of3, J.at1of3, J.at2of3, J.szl0, J.szl1, J.szl2, J.szl3, J.szl4, J.szl5, J.szl6, J.szl7, J.szl8, J.szl9, J.szl10, J.szl11, J.szl12, J.szl13, J.szl14, J.szl15, J.szl16, J.szl17, J.szl18, J.szl19, J.szl20, J.szl21, J.szl22, J.szl23, J.szl24, J.szl25, J.szl26, J.szl27, J.szl28, J.szl29, J.szl30, J.szl31, J.szl32, J.szl33, J.szl34, J.szl35, J.szl36, J.szl37, J.szl38, J.szl39, J.szl40, J.szl41, J.szl42, J.szl43, J.szl44, J.szl45, J.szl46, J.szl47, J.szl48, J.szl49, J.szl50, J.szl51, J.szl52, J.szl53, J.szl54, J.szl55, J.szl56, J.szl57, J.szl58, J.szl59, J.szl60, and_self, if_true, if_false, Bool.false_eq_true, Bool.and_true, Bool.true_and, Bool.not_true, Bool.not_false, List.cons_append, List.nil_append, Option.map_some, Nat.sub_self, Nat.zero_add, Nat.reduceAdd, Nat.reduceSub, Nat.reduceLT, List.set_cons_zero, List.set_cons_succ, Option.bind_some]
    by_cases h0 : (0 : Int) < r
    · simp -implicitDefEqProofs -dsimp only [J.sat_ok, J.sat_exc, J.satS_ok, J.satS_exc, J.sat_bnd, J.satS_bndS, J.satS_thn, J.seqQ_nx, J.seqQ_ret, J.seqQ_brk, J.seqQ_ct, J.finQ_nx, J.finQ_ret, J.turnQ_nx, J.turnQ_ct, J.turnQ_brk, J.turnQ_ret, J.execs, J.exec, J.ev, J.evs, J.evO, J.tst, J.tsOr, J.tsAnd, J.evAnd, J.evOr, J.itD, J.bnd_okE, J.bndS_okE, J.thn_nxE, J.thn_retE, J.ofO_someE, J.snap_non, J.snap_bl, J.snap_int, J.snap_str, J.snap_tup, J.snap_lst, J.snap_kls, J.gx_call, J.gx_glo, J.gx_isa, J.asg_name, J.asg_tup, J.asgTs, J.wipeE, J.truth_bl, J.truth_int, J.truth_tup, J.truth_lst, J.bin_add, J.bin_sub, J.cmp_eqI, J.cmp_neI, J.cmp_ltI, J.cmp_gtI, J.cmp_leI, J.cmp_geI, J.cmp_isN, J.cmp_isnotN, J.ix_lst, J.ix_tup, J.len_lst, J.len_tup, J.int_int, J.abs_int, J.btD, J.isNon, J.tupleB, J.listB, J.items?, J.setMO, List.map, List.length_cons, List.length_nil, List.replicate, List.getElem?_cons_zero, List.getElem?_cons_succ, J.sz0, J.sz1, J.sz2, J.sz3, J.sz4, J.sz5, J.sz6, J.sz7, J.sz8, J.sz9, J.sz10, J.sz11, J.sz12, J.sz13, J.sz14, J.sz15, J.sz16, J.sz17, J.sz18, J.sz19, J.sz20, J.sz21, J.sz22, J.sz23, J.sz24, J.sz25, J.sz26, J.sz27, J.sz28, J.sz29, J.sz30, J.sz31, J.sz32, J.sz33, J.sz34, J.sz35, J.sz36, J.sz37, J.sz38, J.sz39, J.sz40, J.sz41, J.sz42, J.sz43, J.sz44, J.sz45, J.sz46, J.sz47, J.sz48, J.sz49, J.sz50, J.sz51, J.sz52, J.sz53, J.sz54, J.sz55, J.sz56, J.sz57, J.sz58, J.sz59, J.sz60, J.cast0, J.cast1, J.cast2, J.cast3, J.cast4, J.cast5, J.cast6, J.cast7, J.cast8, J.cast9, J.cast10, J.cast11, J.cast12, J.cast13, J.cast14, J.cast15, J.cast16, J.cast17, J.cast18, J.cast19, J.cast20, Int.reduceBEq, Int.reduceLT, Int.reduceNeg, Int.reduceAdd, Int.reduceSub, decide_true, decide_false, J.at0of1, J.at0of2, J.at1of2, J.at0of3, J.at1of3, J.at2of3, J.szl0, J.szl1, J.szl2, J.szl3, J.szl4, J.szl5, J.szl6, J.szl7, J.szl8, J.szl9, J.szl10, J.szl11, J.szl12, J.szl13, J.szl14, J.szl15, J.szl16, J.szl17, J.szl18, J.szl19, J.szl20, J.szl21, J.szl22, J.szl23, J.szl24, J.szl25, J.szl26, J.szl27, J.szl28, J.szl29, J.szl30, J.szl31, J.szl32, J.szl33, J.szl34, J.szl35, J.szl36, J.szl37, J.szl38, J.szl39, J.szl40, J.szl41, J.szl42, J.szl43, J.szl44, J.szl45, J.szl46, J.szl47, J.szl48, J.szl49, J.szl50, J.szl51, J.szl52, J.szl53, J.szl54, J.szl55, J.szl56, J.szl57, J.szl58, J.szl59, J.szl60, and_self, if_true, if_false, Bool.false_eq_true, Bool.and_true, Bool.true_and, Bool.not_true, Bool.not_false, List.cons_append, List.nil_append, Option.map_some, Nat.sub_self, Nat.zero_add, Nat.reduceAdd, Nat.reduceSub, Nat.reduceLT, List.set_cons_zero, List.set_cons_succ, Option.bind_some, decide_eq_true h0]
      refine take_sat d (by rw [List.length_map]; omega) (by rw [List.length_map]; omega) fun r st' hr d => ?_
      obtain ⟨s, hs, e⟩ := atI_map hr
      simp -implicitDefEqProofs -dsimp only [J.sat_ok, J.sat_exc, J.satS_ok, J.satS_exc, J.sat_bnd, J.satS_bndS, J.satS_thn, J.seqQ_nx, J.seqQ_ret, J.seqQ_brk, J.seqQ_ct, J.finQ_nx, J.finQ_ret, J.turnQ_nx, J.turnQ_ct, J.turnQ_brk, J.turnQ_ret, J.execs, J.exec, J.ev, J.evs, J.evO, J.tst, J.tsOr, J.tsAnd, J.evAnd, J.evOr, J.itD, J.bnd_okE, J.bndS_okE, J.thn_nxE, J.thn_retE, J.ofO_someE, J.snap_non, J.snap_bl, J.snap_int, J.snap_str, J.snap_tup, J.snap_lst, J.snap_kls, J.gx_call, J.gx_glo, J.gx_isa, J.asg_name, J.asg_tup, J.asgTs, J.wipeE, J.truth_bl, J.truth_int, J.truth_tup, J.truth_lst, J.bin_add, J.bin_sub, J.cmp_eqI, J.cmp_neI, J.cmp_ltI, J.cmp_gtI, J.cmp_leI, J.cmp_geI, J.cmp_isN, J.cmp_isnotN, J.ix_lst, J.ix_tup, J.len_lst, J.len_tup, J.int_int, J.abs_int, J.btD, J.isNon, J.tupleB, J.listB, J.items?, J.setMO, List.map, List.length_cons, List.length_nil, List.replicate, List.getElem?_cons_zero, List.getElem?_cons_succ, J.sz0, J.sz1, J.sz2, J.sz3, J.sz4, J.sz5, J.sz6, J.sz7, J.sz8, J.sz9, J.sz10, J.sz11, J.sz12, J.sz13, J.sz14, J.sz15, J.sz16, J.sz17, J.sz18, J.sz19, J.sz20, J.sz21, J.sz22, J.sz23, J.sz24, J.sz25, J.sz26, J.sz27, J.sz28, J.sz29, J.sz30, J.sz31, J.sz32, J.sz33, J.sz34, J.sz35, J.sz36, J.sz37, J.sz38, J.sz39, J.sz40, J.sz41, J.sz42, J.sz43, J.sz44, J.sz45, J.sz46, J.sz47, J.sz48, J.sz49, J.sz50, J.sz51, J.sz52, J.sz53, J.sz54, J.sz55, J.sz56, J.sz57, J.sz58, J.sz59, J.sz60, J.cast0, J.cast1, J.cast2, J.cast3, J.cast4, J.cast5, J.cast6, J.cast7, J.cast8, J.cast9, J.cast10, J.cast11, J.cast12, J.cast13, J.cast14, J.cast15, J.cast16, J.cast17, J.cast18, J.cast19, J.cast20, Int.reduceBEq, Int.reduceLT, Int.reduceNeg, Int.reduceAdd, Int.reduceSub, decide_true, decide_false, J.at0of1, J.at0of2, J.at1of2, J.at0of3, J.at1of3, J.at2of3, J.szl0, J.szl1, J.szl2, J.szl3, J.szl4, J.szl5, J.szl6, J.szl7, J.szl8, J.szl9, J.szl10, J.szl11, J.szl12, J.szl13, J.szl14, J.szl15, J.szl16, J.szl17, J.szl18, J.szl19, J.szl20, J.szl21, J.szl22, J.szl23, J.szl24, J.szl25, J.szl26, J.szl27, J.szl28, J.szl29, J.szl30, J.szl31, J.szl32, J.szl33, J.szl34, J.szl35, J.szl36, J.szl37, J.szl38, J.szl39, J.szl40, J.szl41, J.szl42, J.szl43, J.szl44, J.szl45, J.szl46, J.szl47, J.szl48, J.szl49, J.szl50, J.szl51, J.szl52, J.szl53, J.szl54, J.szl55, J.szl56, J.szl57, J.szl58, J.szl59, J.szl60, and_self, if_true, if_false, Bool.false_eq_true, Bool.and_true, Bool.true_and, Bool.not_true, Bool.not_false, List.cons_append, List.nil_append, Option.map_some, Nat.sub_self, Nat.zero_add, Nat.reduceAdd, Nat.reduceSub, Nat.reduceLT, List.set_cons_zero, List.set_cons_succ, Option.bind_some, e]
      exact ⟨d, _, rfl, .vr s, rfl, hs⟩
    · simp -implicitDefEqProofs -dsimp only [J.sat_ok, J.sat_exc, J.satS_ok, J.satS_exc, J.sat_bnd, J.satS_bndS, J.satS_thn, J.seqQ_nx, J.seqQ_ret, J.seqQ_brk, J.seqQ_ct, J.finQ_nx, J.finQ_ret, J.turnQ_nx, J.turnQ_ct, J.turnQ_brk, J.turnQ_ret, J.execs, J.exec, J.ev, J.evs, J.evO, J.tst, J.tsOr, J.tsAnd, J.evAnd, J.evOr, J.itD, J.bnd_okE, J.bndS_okE, J.thn_nxE, J.thn_retE, J.ofO_someE, J.snap_non, J.snap_bl, J.snap_int, J.snap_str, J.snap_tup, J.snap_lst, J.snap_kls, J.gx_call, J.gx_glo, J.gx_isa, J.asg_name, J.asg_tup, J.asgTs, J.wipeE, J.truth_bl, J.truth_int, J.truth_tup, J.truth_lst, J.bin_add, J.bin_sub, J.cmp_eqI, J.cmp_neI, J.cmp_ltI, J.cmp_gtI, J.cmp_leI, J.cmp_geI, J.cmp_isN, J.cmp_isnotN, J.ix_lst, J.ix_tup, J.len_lst, J.len_tup, J.int_int, J.abs_int, J.btD, J.isNon, J.tupleB, J.listB, J.items?, J.setMO, List.map, List.length_cons, List.length_nil, List.replicate, List.getElem?_cons_zero, List.getElem?_cons_succ, J.sz0, J.sz1, J.sz2, J.sz3, J.sz4, J.sz5, J.sz6, J.sz7, J.sz8, J.sz9, J.sz10, J.sz11, J.sz12, J.sz13, J.sz14, J.sz15, J.sz16, J.sz17, J.sz18, J.sz19, J.sz20, J.sz21, J.sz22, J.sz23, J.sz24, J.sz25, J.sz26, J.sz27, J.sz28, J.sz29, J.sz30, J.sz31, J.sz32, J.sz33, J.sz34, J.sz35, J.sz36, J.sz37, J.sz38, J.sz39, J.sz40, J.sz41, J.sz42, J.sz43, J.sz44, J.sz45, J.sz46, J.sz47, J.sz48, J.sz49, J.sz50, J.sz51, J.sz52, J.sz53, J.sz54, J.sz55, J.sz56, J.sz57, J.sz58, J.sz59, J.sz60, J.cast0, J.cast1, J.cast2, J.cast3, J.cast4, J.cast5, J.cast6, J.cast7, J.cast8, J.cast9, J.cast10, J.cast11, J.cast12, J.cast13, J.cast14, J.cast15, J.cast16, J.cast17, J.cast18, J.cast19, J.cast20, Int.reduceBEq, Int.reduceLT, Int.reduceNeg, Int.reduceAdd, Int.reduceSub, decide_true, decide_false, J.at0of1, J.at0of2, J.at1of2, J.at0of3, J.at1of3, J.at2of3, J.szl0, J.szl1, J.szl2, J.szl3, J.szl4, J.szl5, J.szl6, J.szl7, J.szl8, J.szl9, J.szl10, J.szl11, J.szl12, J.szl13, J.szl14, J.szl15, J.szl16, J.szl17, J.szl18, J.szl19, J.szl20, J.szl21, J.szl22, J.szl23, J.szl24, J.szl25, J.szl26, J.szl27, J.szl28, J.szl29, J.szl30, J.szl31, J.szl32, J.szl33, J.szl34, J.szl35, J.szl36, J.szl37, J.szl38, J.szl39, J.szl40, J.szl41, J.szl42, J.szl43, J.szl44, J.szl45, J.szl46, J.szl47, J.szl48, J.szl49, J.szl50, J.szl51, J.szl52, J.szl53, J.szl54, J.szl55, J.szl56, J.szl57, J.szl58, J.szl59, J.szl60, and_self, if_true, if_false, Bool.false_eq_true, Bool.and_true, Bool.true_and, Bool.not_true, Bool.not_false, List.cons_append, List.nil_append, Option.map_some, Nat.sub_self, Nat.zero_add, Nat.reduceAdd, Nat.reduceSub, Nat.reduceLT, List.set_cons_zero, List.set_cons_succ, Option.bind_some, decide_eq_false h0]
      refine take_sat d (by omega) (by omega) fun r st' hr d => ?_
      simp -implicitDefEqProofs -dsimp only [J.sat_ok, J.sat_exc, J.satS_ok, J.satS_exc, J.sat_bnd, J.satS_bndS, J.satS_thn, J.seqQ_nx, J.seqQ_ret, J.seqQ_brk, J.seqQ_ct, J.finQ_nx, J.finQ_ret, J.turnQ_nx, J.turnQ_ct, J.turnQ_brk, J.turnQ_ret, J.execs, J.exec, J.ev, J.evs, J.evO, J.tst, J.tsOr, J.tsAnd, J.evAnd, J.evOr, J.itD, J.bnd_okE, J.bndS_okE, J.thn_nxE, J.thn_retE, J.ofO_someE, J.snap_non, J.snap_bl, J.snap_int, J.snap_str, J.snap_tup, J.snap_lst, J.snap_kls, J.gx_call, J.gx_glo, J.gx_isa, J.asg_name, J.asg_tup, J.asgTs, J.wipeE, J.truth_bl, J.truth_int, J.truth_tup, J.truth_lst, J.bin_add, J.bin_sub, J.cmp_eqI, J.cmp_neI, J.cmp_ltI, J.cmp_gtI, J.cmp_leI, J.cmp_geI, J.cmp_isN, J.cmp_isnotN, J.ix_lst, J.ix_tup, J.len_lst, J.len_tup, J.int_int, J.abs_int, J.btD, J.isNon, J.tupleB, J.listB, J.items?, J.setMO, List.map, List.length_cons, List.length_nil, List.replicate, List.getElem?_cons_zero, List.getElem?_cons_succ, J.sz0, J.sz1, J.sz2, J.sz3, J.sz4, J.sz5, J.sz6, J.sz7, J.sz8, J.sz9, J.sz10, J.sz11, J.sz12, J.sz13, J.sz14, J.sz15, J.sz16, J.sz17, J.sz18, J.sz19, J.sz20, J.sz21, J.sz22, J.sz23, J.sz24, J.sz25, J.sz26, J.sz27, J.sz28, J.sz29, J.sz30, J.sz31, J.sz32, J.sz33, J.sz34, J.sz35, J.sz36, J.sz37, J.sz38, J.sz39, J.sz40, J.sz41, J.sz42, J.sz43, J.sz44, J.sz45, J.sz46, J.sz47, J.sz48, J.sz49, J.sz50, J.sz51, J.sz52, J.sz53, J.sz54, J.sz55, J.sz56, J.sz57, J.sz58, J.sz59, J.sz60, J.cast0, J.cast1, J.cast2, J.cast3, J.cast4, J.cast5, J.cast6, J.cast7, J.cast8, J.cast9, J.cast10, J.cast11, J.cast12, J.cast13, J.cast14, J.cast15, J.cast16, J.cast17, J.cast18, J.cast19, J.cast20, Int.reduceBEq, Int.reduceLT, Int.reduceNeg, Int.reduceAdd, Int.reduceSub, decide_true, decide_false, J.at0of1, J.at0of2, J.at1of2, J.at0of3, J.at1of3, J.at2of3, J.szl0, J.szl1, J.szl2, J.szl3, J.szl4, J.szl5, J.szl6, J.szl7, J.szl8, J.szl9, J.szl10, J.szl11, J.szl12, J.szl13, J.szl14, J.szl15, J.szl16, J.szl17, J.szl18, J.szl19, J.szl20, J.szl21, J.szl22, J.szl23, J.szl24, J.szl25, J.szl26, J.szl27, J.szl28, J.szl29, J.szl30, J.szl31, J.szl32, J.szl33, J.szl34, J.szl35, J.szl36, J.szl37, J.szl38, J.szl39, J.szl40, J.szl41, J.szl42, J.szl43, J.szl44, J.szl45, J.szl46, J.szl47, J.szl48, J.szl49, J.szl50, J.szl51, J.szl52, J.szl53, J.szl54, J.szl55, J.szl56, J.szl57, J.szl58, J.szl59, J.szl60, and_self, if_true, if_false, Bool.false_eq_true, Bool.and_true, Bool.true_and, Bool.not_true, Bool.not_false, List.cons_append, List.nil_append, Option.map_some, Nat.sub_self, Nat.zero_add, Nat.reduceAdd, Nat.reduceSub, Nat.reduceLT, List.set_cons_zero, List.set_cons_succ, Option.bind_some]
      exact ⟨d, _, rfl, .cnt r, rfl, by show r < 2; omega⟩
  · obtain ⟨ts, rfl, h1, h2⟩ := map_of_all hp
    rw [List.length_map, rngD_len] at hl
    simp -implicitDefEqProofs -dsimp only [J.sat_ok, J.sat_exc, J.satS_ok, J.satS_exc, J.sat_bnd, J.satS_bndS, J.satS_thn, J.seqQ_nx, J.seqQ_ret, J.seqQ_brk, J.seqQ_ct, J.finQ_nx, J.finQ_ret, J.turnQ_nx, J.turnQ_ct, J.turnQ_brk, J.turnQ_ret, J.execs, J.exec, J.ev, J.evs, J.evO, J.tst, J.tsOr, J.tsAnd, J.evAnd, J.evOr, J.itD, J.bnd_okE, J.bndS_okE, J.thn_nxE, J.thn_retE, J.ofO_someE, J.snap_non, J.snap_bl, J.snap_int, J.snap_str, J.snap_tup, J.snap_lst, J.snap_kls, J.gx_call, J.gx_glo, J.gx_isa, J.asg_name, J.asg_tup, J.asgTs, J.wipeE, J.truth_bl, J.truth_int, J.truth_tup, J.truth_lst, J.bin_add, J.bin_sub, J.cmp_eqI, J.cmp_neI, J.cmp_ltI, J.cmp_gtI, J.cmp_leI, J.cmp_geI, J.cmp_isN, J.cmp_isnotN, J.ix_lst, J.ix_tup, J.len_lst, J.len_tup, J.int_int, J.abs_int, J.btD, J.isNon, J.tupleB, J.listB, J.items?, J.setMO, List.map, List.length_cons, List.length_nil, List.replicate, List.getElem?_cons_zero, List.getElem?_cons_succ, J.sz0, J.sz1, J.sz2, J.sz3, J.sz4, J.sz5, J.sz6, J.sz7, J.sz8, J.sz9, J.sz10, J.sz11, J.sz12, J.sz13, J.sz14, J.sz15, J.sz16, J.sz17, J.sz18, J.sz19, J.sz20, J.sz21, J.sz22, J.sz23, J.sz24, J.sz25, J.sz26, J.sz27, J.sz28, J.sz29, J.sz30, J.sz31, J.sz32, J.sz33, J.sz34, J.sz35, J.sz36, J.sz37, J.sz38, J.sz39, J.sz40, J.sz41, J.sz42, J.sz43, J.sz44, J.sz45, J.sz46, J.sz47, J.sz48, J.sz49, J.sz50, J.sz51, J.sz52, J.sz53, J.sz54, J.sz55, J.sz56, J.sz57, J.sz58, J.sz59, J.sz60, J.cast0, J.cast1, J.cast2, J.cast3, J.cast4, J.cast5, J.cast6, J.cast7, J.cast8, J.cast9, J.cast10, J.cast11, J.cast12, J.cast13, J.cast14, J.cast15, J.cast16, J.cast17, J.cast18, J.cast19, J.cast20, Int.reduceBEq, Int.reduceLT, Int.reduceNeg, Int.reduceAdd, Int.reduceSub, decide_true, decide_false, J.at0of1, J.at0of2, J.at1of2, J.at0of3, J.at1of3, J.at2of3, J.szl0, J.szl1, J.szl2, J.szl3, J.szl4, J.szl5, J.szl6, J.szl7, J.szl8, J.szl9, J.szl10, J.szl11, J.szl12, J.szl13, J.szl14, J.szl15, J.szl16, J.szl17, J.szl18, J.szl19, J.szl20, J.szl21, J.szl22, J.szl23, J.szl24, J.szl25, J.szl26, J.szl27, J.szl28, J.szl29, J.szl30, J.szl31, J.szl32, J.szl33, J.szl34, J.szl35, J.szl36, J.szl37, J.szl38, J.szl39, J.szl40, J.szl41, J.szl42, J.szl43, J.szl44, J.szl45, J.szl46, J.szl47, J.szl48, J.szl49, J.szl50, J.szl51, J.szl52, J.szl53, J.szl54, J.szl55, J.szl56, J.szl57, J.szl58, J.szl59, J.szl60, and_self, if_true, if_false, Bool.false_eq_true, Bool.and_true, Bool.true_and, Bool.not_true, Bool.not_false, List.cons_append, List.nil_append, Option.map_some, Nat.sub_self, Nat.zero_add, Nat.reduceAdd, Nat.reduceSub, Nat.reduceLT, List.set_cons_zero, List.set_cons_succ, Option.bind_some]
    have hl : ts.length = w := by omega
    exact q ⟨nm, ts⟩ _ ⟨hl ▸ hx, h1⟩ hs
end L_k00

namespace L_k00
open PySem J
/-- what the law's names come to -/
def namesGo : List Str → List Atom → List Str
  | acc, [] => acc
  | acc, a :: r => namesGo (acc ++ strsIf (fun s => !decide (s ∈ acc)) a.ts) r
theorem namesGo_mem {s : Str} : ∀ (as : List Atom) (acc : List Str), s ∈ namesGo acc as ↔ s ∈ acc ∨ s ∈ atomsStrs as
  | [], acc => by simp [namesGo, atomsStrs]
  | a :: r, acc => by
    rw [namesGo, namesGo_mem r]
    simp only [atomsStrs, List.map_cons, List.flatten_cons, List.mem_append, strsIf, List.mem_filter, Bool.not_eq_true', decide_eq_false_iff_not]
    by_cases h : s ∈ acc
    · simp [h]
    · simp [h]
theorem namesGo_app : ∀ (as bs : List Atom) (acc : List Str), namesGo acc (as ++ bs) = namesGo (namesGo acc as) bs
  | [], _, _ => rfl
  | a :: r, bs, acc => by rw [List.cons_append, namesGo, namesGo, namesGo_app r bs]
theorem strsT_len : ∀ ts : List Term, (strsT ts).length ≤ ts.length
  | [] => Nat.le_refl _
  | .cnt _ :: r => Nat.le_succ_of_le (strsT_len r)
  | .vr _ :: r => Nat.succ_le_succ (strsT_len r)
theorem namesGo_len {w : Nat} : ∀ {as : List Atom}, (∀ a ∈ as, a.ts.length ≤ w) → (namesGo [] as).length ≤ w * as.length := by
  have : ∀ (as : List Atom) (acc : List Str), (∀ a ∈ as, a.ts.length ≤ w) → (namesGo acc as).length ≤ acc.length + w * as.length := by
    intro as
    induction as with
    | nil => intro acc _; exact Nat.le_refl _
    | cons a r ih =>
      intro acc h
      have h0 := h a List.mem_cons_self
      have h1 : (strsIf (fun s => !decide (s ∈ acc)) a.ts).length ≤ a.ts.length := Nat.le_trans (List.length_filter_le _ _) (strsT_len _)
      have := ih (acc ++ strsIf (fun s => !decide (s ∈ acc)) a.ts) fun b hb => h b (List.mem_cons_of_mem _ hb)
      rw [List.length_append] at this
      rw [namesGo, List.length_cons, Nat.mul_add]
      omega
  intro as h
  have := this as [] h
  rw [List.length_nil, Nat.zero_add] at this
  exact this
theorem names_ok {k : Nat} {body : List Atom} (hb : body.length ≤ 100) (hw : ∀ a ∈ body, a.ts.length ≤ 100) : callP Pr (k+1) 27 [.tup (body.map encA)] = .ok (.lst (isort ((namesGo [] body).map .str))) := by
  refine callP_of (show Pr.fns[27]? = some ⟨1, 5, b27⟩ from rfl) rfl ?_
  simp -implicitDefEqProofs -dsimp only [J.exPs, J.exP, J.evP, J.evPs, J.evPO, J.tstP, J.tsPOr, J.tsPAnd, J.evPAnd, J.evPOr, J.itP, J.rb_ok, J.rb_exc, J.bp_ok, J.bp_exc, J.th_nx, J.th_ret, J.th_brk, J.th_ct, J.th_exc, J.of_some, J.nr_non, J.nr_bl, J.nr_int, J.nr_str, J.nr_tup, J.nr_lst, J.nr_dic, J.nr_kls, J.nrs_nil, J.nrs_cons, J.gp_call, J.gp_glo, J.gp_isa, J.asg_name, J.asg_tup, J.asgTs, J.wipeE, J.truth_bl, J.truth_int, J.truth_tup, J.truth_lst, J.bin_add, J.bin_sub, J.cmp_eqI, J.cmp_neI, J.cmp_ltI, J.cmp_gtI, J.cmp_leI, J.cmp_geI, J.cmp_isN, J.cmp_isnotN, J.ix_lst, J.ix_tup, J.len_lst, J.len_tup, J.int_int, J.abs_int, J.btD, J.isNon, J.tupleB, J.listB, J.isiD, J.isTy, J.items?, List.map, List.length_cons, List.length_nil, List.replicate, List.getElem?_cons_zero, List.getElem?_cons_succ, J.sz0, J.sz1, J.sz2, J.sz3, J.sz4, J.sz5, J.sz6, J.sz7, J.sz8, J.sz9, J.sz10, J.sz11, J.sz12, J.sz13, J.sz14, J.sz15, J.sz16, J.sz17, J.sz18, J.sz19, J.sz20, J.sz21, J.sz22, J.sz23, J.sz24, J.sz25, J.sz26, J.sz27, J.sz28, J.sz29, J.sz30, J.sz31, J.sz32, J.sz33, J.sz34, J.sz35, J.sz36, J.sz37, J.sz38, J.sz39, J.sz40, J.sz41, J.sz42, J.sz43, J.sz44, J.sz45, J.sz46, J.sz47, J.sz48, J.sz49, J.sz50, J.sz51, J.sz52, J.sz53, J.sz54, J.sz55, J.sz56, J.sz57, J.sz58, J.sz59, J.sz60, J.cast0, J.cast1, J.cast2, J.cast3, J.cast4, J.cast5, J.cast6, J.cast7, J.cast8, J.cast9, J.cast10, J.cast11, J.cast12, J.cast13, J.cast14, J.cast15, J.cast16, J.cast17, J.cast18, J.cast19, J.cast20, Int.reduceBEq, Int.reduceLT, Int.reduceNeg, Int.reduceAdd, Int.reduceSub, decide_true, decide_false, J.at0of1, J.at0of2, J.at1of2, J.at0of3, J.at1of3, J.at2of3, J.szl0, J.szl1, J.szl2, J.szl3, J.szl4, J.szl5, J.szl6, J.szl7, J.szl8, J.szl9, J.szl10, J.szl11, J.szl12, J.szl13, J.szl14, J.szl15, J.szl16, J.szl17, J.szl18, J.szl19, J.szl20, J.szl21, J.szl22, J.szl23, J.szl24, J.szl25, J.szl26, J.szl27, J.szl28, J.szl29, J.szl30, J.szl31, J.szl32, J.szl33, J.szl34, J.szl35, J.szl36, J.szl37, J.szl38, J.szl39, J.szl40, J.szl41, J.szl42, J.szl43, J.szl44, J.szl45, J.szl46, J.szl47, J.szl48, J.szl49, J.szl50, J.szl51, J.szl52, J.szl53, J.szl54, J.szl55, J.szl56, J.szl57, J.szl58, J.szl59, J.szl60, and_self, if_true, if_false, Bool.false_eq_true, Bool.and_true, Bool.true_and, Bool.not_true, Bool.not_false, List.cons_append, List.nil_append, Option.map_some, Nat.sub_self, Nat.zero_add, Nat.reduceAdd, Nat.reduceSub, Nat.reduceLT, List.set_cons_zero, List.set_cons_succ, Option.bind_some, J.psat_ok, J.psat_exc, J.psatS_ok, J.psatS_exc, J.psat_bnd, J.psatS_bndP, J.psatS_thP, J.seqP_nx, J.seqP_ret, J.seqP_brk, J.seqP_ct, J.finP_nx, J.finP_ret, J.turnP_nx, J.turnP_ct, J.turnP_brk, J.turnP_ret, b27]
  refine psat_forM (fun pre e => ∃ x1 x2 x3, e = [.val (.tup (body.map encA)), .val (.lst ((namesGo [] pre).map .str)), x1, x2, x3] ∧ (namesGo [] pre).length ≤ 100 * pre.length) ⟨.un, .un, .un, rfl, Nat.le_refl _⟩ (fun pre x post e he ⟨x1, x2, x3, q, hl⟩ => ?_) fun e ⟨x1, x2, x3, q, hl⟩ => ?_
  · subst q
    have hx := hw x (by rw [he]; simp)
    have hpl : pre.length ≤ 100 := by rw [he, List.length_append] at hb; omega
    refine ⟨_, rfl, ?_⟩
    simp -implicitDefEqProofs -dsimp only [J.exPs, J.exP, J.evP, J.evPs, J.evPO, J.tstP, J.tsPOr, J.tsPAnd, J.evPAnd, J.evPOr, J.itP, J.rb_ok, J.rb_exc, J.bp_ok, J.bp_exc, J.th_nx, J.th_ret, J.th_brk, J.th_ct, J.th_exc, J.of_some, J.nr_non, J.nr_bl, J.nr_int, J.nr_str, J.nr_tup, J.nr_lst, J.nr_dic, J.nr_kls, J.nrs_nil, J.nrs_cons, J.gp_call, J.gp_glo, J.gp_isa, J.asg_name, J.asg_tup, J.asgTs, J.wipeE, J.truth_bl, J.truth_int, J.truth_tup, J.truth_lst, J.bin_add, J.bin_sub, J.cmp_eqI, J.cmp_neI, J.cmp_ltI, J.cmp_gtI, J.cmp_leI, J.cmp_geI, J.cmp_isN, J.cmp_isnotN, J.ix_lst, J.ix_tup, J.len_lst, J.len_tup, J.int_int, J.abs_int, J.btD, J.isNon, J.tupleB, J.listB, J.isiD, J.isTy, J.items?, List.map, List.length_cons, List.length_nil, List.replicate, List.getElem?_cons_zero, List.getElem?_cons_succ, J.sz0, J.sz1, J.sz2, J.sz3, J.sz4, J.sz5, J.sz6, J.sz7, J.sz8, J.sz9, J.sz10, J.sz11, J.sz12, J.sz13, J.sz14, J.sz15, J.sz16, J.sz17, J.sz18, J.sz19, J.sz20, J.sz21, J.sz22, J.sz23, J.sz24, J.sz25, J.sz26, J.sz27, J.sz28, J.sz29, J.sz30, J.sz31, J.sz32, J.sz33, J.sz34, J.sz35, J.sz36, J.sz37, J.sz38, J.sz39, J.sz40, J.sz41, J.sz42, J.sz43, J.sz44, J.sz45, J.sz46, J.sz47, J.sz48, J.sz49, J.sz50, J.sz51, J.sz52, J.sz53, J.sz54, J.sz55, J.sz56, J.sz57, J.sz58, J.sz59, J.sz60, J.cast0, J.cast1, J.cast2, J.cast3, J.cast4, J.cast5, J.cast6, J.cast7, J.cast8, J.cast9, J.cast10, J.cast11, J.cast12, J.cast13, J.cast14, J.cast15, J.cast16, J.cast17, J.cast18, J.cast19, J.cast20, Int.reduceBEq, Int.reduceLT, Int.reduceNeg, Int.reduceAdd, Int.reduceSub, decide_true, decide_false, J.at0of1, J.at0of2, J.at1of2, J.at0of3, J.at1of3, J.at2of3, J.szl0, J.szl1, J.szl2, J.szl3, J.szl4, J.szl5, J.szl6, J.szl7, J.szl8, J.szl9, J.szl10, J.szl11, J.szl12, J.szl13, J.szl14, J.szl15, J.szl16, J.szl17, J.szl18, J.szl19, J.szl20, J.szl21, J.szl22, J.szl23, J.szl24, J.szl25, J.szl26, J.szl27, J.szl28, J.szl29, J.szl30, J.szl31, J.szl32, J.szl33, J.szl34, J.szl35, J.szl36, J.szl37, J.szl38, J.szl39, J.szl40, J.szl41, J.szl42, J.szl43, J.szl44, J.szl45, J.szl46, J.szl47, J.szl48, J.szl49, J.szl50, J.szl51, J.szl52, J.szl53, J.szl54, J.szl55, J.szl56, J.szl57, J.szl58, J.szl59, J.szl60, and_self, if_true, if_false, Bool.false_eq_true, Bool.and_true, Bool.true_and, Bool.not_true, Bool.not_false, List.cons_append, List.nil_append, Option.map_some, Nat.sub_self, Nat.zero_add, Nat.reduceAdd, Nat.reduceSub, Nat.reduceLT, List.set_cons_zero, List.set_cons_succ, Option.bind_some, J.psat_ok, J.psat_exc, J.psatS_ok, J.psatS_exc, J.psat_bnd, J.psatS_bndP, J.psatS_thP, J.seqP_nx, J.seqP_ret, J.seqP_brk, J.seqP_ct, J.finP_nx, J.finP_ret, J.turnP_nx, J.turnP_ct, J.turnP_brk, J.turnP_ret]
    refine psat_lcM (fun t => match t with | .vr s => if !decide (s ∈ namesGo [] pre) then some (.str s) else none | .cnt _ => none) (by unfold SZ; omega) (fun t ht => ?_) ?_
    · cases t with
      | cnt n => simp -implicitDefEqProofs -dsimp only [J.exPs, J.exP, J.evP, J.evPs, J.evPO, J.tstP, J.tsPOr, J.tsPAnd, J.evPAnd, J.evPOr, J.itP, J.rb_ok, J.rb_exc, J.bp_ok, J.bp_exc, J.th_nx, J.th_ret, J.th_brk, J.th_ct, J.th_exc, J.of_some, J.nr_non, J.nr_bl, J.nr_int, J.nr_str, J.nr_tup, J.nr_lst, J.nr_dic, J.nr_kls, J.nrs_nil, J.nrs_cons, J.gp_call, J.gp_glo, J.gp_isa, J.asg_name, J.asg_tup, J.asgTs, J.wipeE, J.truth_bl, J.truth_int, J.truth_tup, J.truth_lst, J.bin_add, J.bin_sub, J.cmp_eqI, J.cmp_neI, J.cmp_ltI, J.cmp_gtI, J.cmp_leI, J.cmp_geI, J.cmp_isN, J.cmp_isnotN, J.ix_lst, J.ix_tup, J.len_lst, J.len_tup, J.int_int, J.abs_int, J.btD, J.isNon, J.tupleB, J.listB, J.isiD, J.isTy, J.items?, List.map, List.length_cons, List.length_nil, List.replicate, List.getElem?_cons_zero, List.getElem?_cons_succ, J.sz0, J.sz1, J.sz2, J.sz3, J.sz4, J.sz5, J.sz6, J.sz7, J.sz8, J.sz9, J.sz10, J.sz11, J.sz12, J.sz13, J.sz14, J.sz15, J.sz16, J.sz17, J.sz18, J.sz19, J.sz20, J.sz21, J.sz22, J.sz23, J.sz24, J.sz25, J.sz26, J.sz27, J.sz28, J.sz29, J.sz30, J.sz31, J.sz32, J.sz33, J.sz34, J.sz35, J.sz36, J.sz37, J.sz38, J.sz39, J.sz40, J.sz41, J.sz42, J.sz43, J.sz44, J.sz45, J.sz46, J.sz47, J.sz48, J.sz49, J.sz50, J.sz51, J.sz52, J.sz53, J.sz54, J.sz55, J.sz56, J.sz57, J.sz58, J.sz59, J.sz60, J.cast0, J.cast1, J.cast2, J.cast3, J.cast4, J.cast5, J.cast6, J.cast7, J.cast8, J.cast9, J.cast10, J.cast11, J.cast12, J.cast13, J.cast14, J.cast15, J.cast16, J.cast17, J.cast18, J.cast19, J.cast20, Int.reduceBEq, Int.reduceLT, Int.reduceNeg, Int.reduceAdd, Int.reduceSub, decide_true, decide_false, J.at0of1, J.at0of2, J.at1of2, J.at0of3, J.at1of3, J.at2of3, J.szl0, J.szl1, J.szl2, J.szl3, J.szl4, J.szl5, J.szl6, J.szl7, J.szl8, J.szl9, J.szl10, J.szl11, J.szl12, J.szl13, J.szl14, J.szl15, J.szl16, J.szl17, J.szl18, J.szl19, J.szl20, J.szl21, J.szl22, J.szl23, J.szl24, J.szl25, J.szl26, J.szl27, J.szl28, J.szl29, J.szl30, J.szl31, J.szl32, J.szl33, J.szl34, J.szl35, J.szl36, J.szl37, J.szl38, J.szl39, J.szl40, J.szl41, J.szl42, J.szl43, J.szl44, J.szl45, J.szl46, J.szl47, J.szl48, J.szl49, J.szl50, J.szl51, J.szl52, J.szl53, J.szl54, J.szl55, J.szl56, J.szl57, J.szl58, J.szl59, J.szl60, and_self, if_true, if_false, Bool.false_eq_true, Bool.and_true, Bool.true_and, Bool.not_true, Bool.not_false, List.cons_append, List.nil_append, Option.map_some, Nat.sub_self, Nat.zero_add, Nat.reduceAdd, Nat.reduceSub, Nat.reduceLT, List.set_cons_zero, List.set_cons_succ, Option.bind_some, J.psat_ok, J.psat_exc, J.psatS_ok, J.psatS_exc, J.psat_bnd, J.psatS_bndP, J.psatS_thP, J.seqP_nx, J.seqP_ret, J.seqP_brk, J.seqP_ct, J.finP_nx, J.finP_ret, J.turnP_nx, J.turnP_ct, J.turnP_brk, J.turnP_ret, encT]
      | vr s =>
        simp -implicitDefEqProofs -dsimp only [J.exPs, J.exP, J.evP, J.evPs, J.evPO, J.tstP, J.tsPOr, J.tsPAnd, J.evPAnd, J.evPOr, J.itP, J.rb_ok, J.rb_exc, J.bp_ok, J.bp_exc, J.th_nx, J.th_ret, J.th_brk, J.th_ct, J.th_exc, J.of_some, J.nr_non, J.nr_bl, J.nr_int, J.nr_str, J.nr_tup, J.nr_lst, J.nr_dic, J.nr_kls, J.nrs_nil, J.nrs_cons, J.gp_call, J.gp_glo, J.gp_isa, J.asg_name, J.asg_tup, J.asgTs, J.wipeE, J.truth_bl, J.truth_int, J.truth_tup, J.truth_lst, J.bin_add, J.bin_sub, J.cmp_eqI, J.cmp_neI, J.cmp_ltI, J.cmp_gtI, J.cmp_leI, J.cmp_geI, J.cmp_isN, J.cmp_isnotN, J.ix_lst, J.ix_tup, J.len_lst, J.len_tup, J.int_int, J.abs_int, J.btD, J.isNon, J.tupleB, J.listB, J.isiD, J.isTy, J.items?, List.map, List.length_cons, List.length_nil, List.replicate, List.getElem?_cons_zero, List.getElem?_cons_succ, J.sz0, J.sz1, J.sz2, J.sz3, J.sz4, J.sz5, J.sz6, J.sz7, J.sz8, J.sz9, J.sz10, J.sz11, J.sz12, J.sz13, J.sz14, J.sz15, J.sz16, J.sz17, J.sz18, J.sz19, J.sz20, J.sz21, J.sz22, J.sz23, J.sz24, J.sz25, J.sz26, J.sz27, J.sz28, J.sz29, J.sz30, J.sz31, J.sz32, J.sz33, J.sz34, J.sz35, J.sz36, J.sz37, J.sz38, J.sz39, J.sz40, J.sz41, J.sz42, J.sz43, J.sz44, J.sz45, J.sz46, J.sz47, J.sz48, J.sz49, J.sz50, J.sz51, J.sz52, J.sz53, J.sz54, J.sz55, J.sz56, J.sz57, J.sz58, J.sz59, J.sz60, J.cast0, J.cast1, J.cast2, J.cast3, J.cast4, J.cast5, J.cast6, J.cast7, J.cast8, J.cast9, J.cast10, J.cast11, J.cast12, J.cast13, J.cast14, J.cast15, J.cast16, J.cast17, J.cast18, J.cast19, J.cast20, Int.reduceBEq, Int.reduceLT, Int.reduceNeg, Int.reduceAdd, Int.reduceSub, decide_true, decide_false, J.at0of1, J.at0of2, J.at1of2, J.at0of3, J.at1of3, J.at2of3, J.szl0, J.szl1, J.szl2, J.szl3, J.szl4, J.szl5, J.szl6, J.szl7, J.szl8, J.szl9, J.szl10, J.szl11, J.szl12, J.szl13, J.szl14, J.szl15, J.szl16, J.szl17, J.szl18, J.szl19, J.szl20, J.szl21, J.szl22, J.szl23, J.szl24, J.szl25, J.szl26, J.szl27, J.szl28, J.szl29, J.szl30, J.szl31, J.szl32, J.szl33, J.szl34, J.szl35, J.szl36, J.szl37, J.szl38, J.szl39, J.szl40, J.szl41, J.szl42, J.szl43, J.szl44, J.szl45, J.szl46, J.szl47, J.szl48, J.szl49, J.szl50, J.szl51, J.szl52, J.szl53, J.szl54, J.szl55, J.szl56, J.szl57, J.szl58, J.szl59, J.szl60, and_self, if_true, if_false, Bool.false_eq_true, Bool.and_true, Bool.true_and, Bool.not_true, Bool.not_false, List.cons_append, List.nil_append, Option.map_some, Nat.sub_self, Nat.zero_add, Nat.reduceAdd, Nat.reduceSub, Nat.reduceLT, List.set_cons_zero, List.set_cons_succ, Option.bind_some, J.psat_ok, J.psat_exc, J.psatS_ok, J.psatS_exc, J.psat_bnd, J.psatS_bndP, J.psatS_thP, J.seqP_nx, J.seqP_ret, J.seqP_brk, J.seqP_ct, J.finP_nx, J.finP_ret, J.turnP_nx, J.turnP_ct, J.turnP_brk, J.turnP_ret, encT, cmpD, in_lstS]
        by_cases hs : s ∈ namesGo [] pre
        · simp -implicitDefEqProofs -dsimp only [J.exPs, J.exP, J.evP, J.evPs, J.evPO, J.tstP, J.tsPOr, J.tsPAnd, J.evPAnd, J.evPOr, J.itP, J.rb_ok, J.rb_exc, J.bp_ok, J.bp_exc, J.th_nx, J.th_ret, J.th_brk, J.th_ct, J.th_exc, J.of_some, J.nr_non, J.nr_bl, J.nr_int, J.nr_str, J.nr_tup, J.nr_lst, J.nr_dic, J.nr_kls, J.nrs_nil, J.nrs_cons, J.gp_call, J.gp_glo, J.gp_isa, J.asg_name, J.asg_tup, J.asgTs, J.wipeE, J.truth_bl, J.truth_int, J.truth_tup, J.truth_lst, J.bin_add, J.bin_sub, J.cmp_eqI, J.cmp_neI, J.cmp_ltI, J.cmp_gtI, J.cmp_leI, J.cmp_geI, J.cmp_isN, J.cmp_isnotN, J.ix_lst, J.ix_tup, J.len_lst, J.len_tup, J.int_int, J.abs_int, J.btD, J.isNon, J.tupleB, J.listB, J.isiD, J.isTy, J.items?, List.map, List.length_cons, List.length_nil, List.replicate, List.getElem?_cons_zero, List.getElem?_cons_succ, J.sz0, J.sz1, J.sz2, J.sz3, J.sz4, J.sz5, J.sz6, J.sz7, J.sz8, J.sz9, J.sz10, J.sz11, J.sz12, J.sz13, J.sz14, J.sz15, J.sz16, J.sz17, J.sz18, J.sz19, J.sz20, J.sz21, J.sz22, J.sz23, J.sz24, J.sz25, J.sz26, J.sz27, J.sz28, J.sz29, J.sz30, J.sz31, J.sz32, J.sz33, J.sz34, J.sz35, J.sz36, J.sz37, J.sz38, J.sz39, J.sz40, J.sz41, J.sz42, J.sz43, J.sz44, J.sz45, J.sz46, J.sz47, J.sz48, J.sz49, J.sz50, J.sz51, J.sz52, J.sz53, J.sz54, J.sz55, J.sz56, J.sz57, J.sz58, J.sz59, J.sz60, J.cast0, J.cast1, J.cast2, J.cast3, J.cast4, J.cast5, J.cast6, J.cast7, J.cast8, J.cast9, J.cast10, J.cast11, J.cast12, J.cast13, J.cast14, J.cast15, J.cast16, J.cast17, J.cast18, J.cast19, J.cast20, Int.reduceBEq, Int.reduceLT, Int.reduceNeg, Int.reduceAdd, Int.reduceSub, decide_true, decide_false, J.at0of1, J.at0of2, J.at1of2, J.at0of3, J.at1of3, J.at2of3, J.szl0, J.szl1, J.szl2, J.szl3, J.szl4, J.szl5, J.szl6, J.szl7, J.szl8, J.szl9, J.szl10, J.szl11, J.szl12, J.szl13, J.szl14, J.szl15, J.szl16, J.szl17, J.szl18, J.szl19, J.szl20, J.szl21, J.szl22, J.szl23, J.szl24, J.szl25, J.szl26, J.szl27, J.szl28, J.szl29, J.szl30, J.szl31, J.szl32, J.szl33, J.szl34, J.szl35, J.szl36, J.szl37, J.szl38, J.szl39, J.szl40, J.szl41, J.szl42, J.szl43, J.szl44, J.szl45, J.szl46, J.szl47, J.szl48, J.szl49, J.szl50, J.szl51, J.szl52, J.szl53, J.szl54, J.szl55, J.szl56, J.szl57, J.szl58, J.szl59, J.szl60, and_self, if_true, if_false, Bool.false_eq_true, Bool.and_true, Bool.true_and, Bool.not_true, Bool.not_false, List.cons_append, List.nil_append, Option.map_some, Nat.sub_self, Nat.zero_add, Nat.reduceAdd, Nat.reduceSub, Nat.reduceLT, List.set_cons_zero, List.set_cons_succ, Option.bind_some, J.psat_ok, J.psat_exc, J.psatS_ok, J.psatS_exc, J.psat_bnd, J.psatS_bndP, J.psatS_thP, J.seqP_nx, J.seqP_ret, J.seqP_brk, J.seqP_ct, J.finP_nx, J.finP_ret, J.turnP_nx, J.turnP_ct, J.turnP_brk, J.turnP_ret, hs, decide_true]
        · simp -implicitDefEqProofs -dsimp only [J.exPs, J.exP, J.evP, J.evPs, J.evPO, J.tstP, J.tsPOr, J.tsPAnd, J.evPAnd, J.evPOr, J.itP, J.rb_ok, J.rb_exc, J.bp_ok, J.bp_exc, J.th_nx, J.th_ret, J.th_brk, J.th_ct, J.th_exc, J.of_some, J.nr_non, J.nr_bl, J.nr_int, J.nr_str, J.nr_tup, J.nr_lst, J.nr_dic, J.nr_kls, J.nrs_nil, J.nrs_cons, J.gp_call, J.gp_glo, J.gp_isa, J.asg_name, J.asg_tup, J.asgTs, J.wipeE, J.truth_bl, J.truth_int, J.truth_tup, J.truth_lst, J.bin_add, J.bin_sub, J.cmp_eqI, J.cmp_neI, J.cmp_ltI, J.cmp_gtI, J.cmp_leI, J.cmp_geI, J.cmp_isN, J.cmp_isnotN, J.ix_lst, J.ix_tup, J.len_lst, J.len_tup, J.int_int, J.abs_int, J.btD, J.isNon, J.tupleB, J.listB, J.isiD, J.isTy, J.items?, List.map, List.length_cons, List.length_nil, List.replicate, List.getElem?_cons_zero, List.getElem?_cons_succ, J.sz0, J.sz1, J.sz2, J.sz3, J.sz4, J.sz5, J.sz6, J.sz7, J.sz8, J.sz9, J.sz10, J.sz11, J.sz12, J.sz13, J.sz14, J.sz15, J.sz16, J.sz17, J.sz18, J.sz19, J.sz20, J.sz21, J.sz22, J.sz23, J.sz24, J.sz25, J.sz26, J.sz27, J.sz28, J.sz29, J.sz30, J.sz31, J.sz32, J.sz33, J.sz34, J.sz35, J.sz36, J.sz37, J.sz38, J.sz39, J.sz40, J.sz41, J.sz42, J.sz43, J.sz44, J.sz45, J.sz46, J.sz47, J.sz48, J.sz49, J.sz50, J.sz51, J.sz52, J.sz53, J.sz54, J.sz55, J.sz56, J.sz57, J.sz58, J.sz59, J.sz60, J.cast0, J.cast1, J.cast2, J.cast3, J.cast4, J.cast5, J.cast6, J.cast7, J.cast8, J.cast9, J.cast10, J.cast11, J.cast12, J.cast13, J.cast14, J.cast15, J.cast16, J.cast17, J.cast18, J.cast19, J.cast20, Int.reduceBEq, Int.reduceLT, Int.reduceNeg, Int.reduceAdd, Int.reduceSub, decide_true, decide_false, J.at0of1, J.at0of2, J.at1of2, J.at0of3, J.at1of3, J.at2of3, J.szl0, J.szl1, J.szl2, J.szl3, J.szl4, J.szl5, J.szl6, J.szl7, J.szl8, J.szl9, J.szl10, J.szl11, J.szl12, J.szl13, J.szl14, J.szl15, J.szl16, J.szl17, J.szl18, J.szl19, J.szl20, J.szl21, J.szl22, J.szl23, J.szl24, J.szl25, J.szl26, J.szl27, J.szl28, J.szl29, J.szl30, J.szl31, J.szl32, J.szl33, J.szl34, J.szl35, J.szl36, J.szl37, J.szl38, J.szl39, J.szl40, J.szl41, J.szl42, J.szl43, J.szl44, J.szl45, J.szl46, J.szl47, J.szl48, J.szl49, J.szl50, J.szl51, J.szl52, J.szl53, J.szl54, J.szl55, J.szl56, J.szl57, J.szl58, J.szl59, J.szl60, and_self, if_true, if_false, Bool.false_eq_true, Bool.and_true, Bool.true_and, Bool.not_true, Bool.not_false, List.cons_append, List.nil_append, Option.map_some, Nat.sub_self, Nat.zero_add, Nat.reduceAdd, Nat.reduceSub, Nat.reduceLT, List.set_cons_zero, List.set_cons_succ, Option.bind_some, J.psat_ok, J.psat_exc, J.psatS_ok, J.psatS_exc, J.psat_bnd, J.psatS_bndP, J.psatS_thP, J.seqP_nx, J.seqP_ret, J.seqP_brk, J.seqP_ct, J.finP_nx, J.finP_ret, J.turnP_nx, J.turnP_ct, J.turnP_brk, J.turnP_ret, hs, decide_false]
    · have e2 : x.ts.filterMap (fun t => match t with | .vr s => if !decide (s ∈ namesGo [] pre) then some (.str s) else none | .cnt _ => none) = (strsIf (fun s => !decide (s ∈ namesGo [] pre)) x.ts).map D.str := by
        rw [← strsIf_map, List.filterMap_map]
        congr 1
        funext t
        cases t <;> rfl
      rw [e2]
      have hlen : (strsIf (fun s => !decide (s ∈ namesGo [] pre)) x.ts).length ≤ 100 := Nat.le_trans (List.length_filter_le _ _) (Nat.le_trans (strsT_len _) hx)
      simp -implicitDefEqProofs -dsimp only [J.exPs, J.exP, J.evP, J.evPs, J.evPO, J.tstP, J.tsPOr, J.tsPAnd, J.evPAnd, J.evPOr, J.itP, J.rb_ok, J.rb_exc, J.bp_ok, J.bp_exc, J.th_nx, J.th_ret, J.th_brk, J.th_ct, J.th_exc, J.of_some, J.nr_non, J.nr_bl, J.nr_int, J.nr_str, J.nr_tup, J.nr_lst, J.nr_dic, J.nr_kls, J.nrs_nil, J.nrs_cons, J.gp_call, J.gp_glo, J.gp_isa, J.asg_name, J.asg_tup, J.asgTs, J.wipeE, J.truth_bl, J.truth_int, J.truth_tup, J.truth_lst, J.bin_add, J.bin_sub, J.cmp_eqI, J.cmp_neI, J.cmp_ltI, J.cmp_gtI, J.cmp_leI, J.cmp_geI, J.cmp_isN, J.cmp_isnotN, J.ix_lst, J.ix_tup, J.len_lst, J.len_tup, J.int_int, J.abs_int, J.btD, J.isNon, J.tupleB, J.listB, J.isiD, J.isTy, J.items?, List.map, List.length_cons, List.length_nil, List.replicate, List.getElem?_cons_zero, List.getElem?_cons_succ, J.sz0, J.sz1, J.sz2, J.sz3, J.sz4, J.sz5, J.sz6, J.sz7, J.sz8, J.sz9, J.sz10, J.sz11, J.sz12, J.sz13, J.sz14, J.sz15, J.sz16, J.sz17, J.sz18, J.sz19, J.sz20, J.sz21, J.sz22, J.sz23, J.sz24, J.sz25, J.sz26, J.sz27, J.sz28, J.sz29, J.sz30, J.sz31, J.sz32, J.sz33, J.sz34, J.sz35, J.sz36, J.sz37, J.sz38, J.sz39, J.sz40, J.sz41, J.sz42, J.sz43, J.sz44, J.sz45, J.sz46, J.sz47, J.sz48, J.sz49, J.sz50, J.sz51, J.sz52, J.sz53, J.sz54, J.sz55, J.sz56, J.sz57, J.sz58, J.sz59, J.sz60, J.cast0, J.cast1, J.cast2, J.cast3, J.cast4, J.cast5, J.cast6, J.cast7, J.cast8, J.cast9, J.cast10, J.cast11, J.cast12, J.cast13, J.cast14, J.cast15, J.cast16, J.cast17, J.cast18, J.cast19, J.cast20, Int.reduceBEq, Int.reduceLT, Int.reduceNeg, Int.reduceAdd, Int.reduceSub, decide_true, decide_false, J.at0of1, J.at0of2, J.at1of2, J.at0of3, J.at1of3, J.at2of3, J.szl0, J.szl1, J.szl2, J.szl3, J.szl4, J.szl5, J.szl6, J.szl7, J.szl8, J.szl9, J.szl10, J.szl11, J.szl12, J.szl13, J.szl14, J.szl15, J.szl16, J.szl17, J.szl18, J.szl19, J.szl20, J.szl21, J.szl22, J.szl23, J.szl24, J.szl25, J.szl26, J.szl27, J.szl28, J.szl29, J.szl30, J.szl31, J.szl32, J.szl33, J.szl34, J.szl35, J.szl36, J.szl37, J.szl38, J.szl39, J.szl40, J.szl41, J.szl42, J.szl43, J.szl44, J.szl45, J.szl46, J.szl47, J.szl48, J.szl49, J.szl50, J.szl51, J.szl52, J.szl53, J.szl54, J.szl55, J.szl56, J.szl57, J.szl58, J.szl59, J.szl60, and_self, if_true, if_false, Bool.false_eq_true, Bool.and_true, Bool.true_and, Bool.not_true, Bool.not_false, List.cons_append, List.nil_append, Option.map_some, Nat.sub_self, Nat.zero_add, Nat.reduceAdd, Nat.reduceSub, Nat.reduceLT, List.set_cons_zero, List.set_cons_succ, Option.bind_some, J.psat_ok, J.psat_exc, J.psatS_ok, J.psatS_exc, J.psat_bnd, J.psatS_bndP, J.psatS_thP, J.seqP_nx, J.seqP_ret, J.seqP_brk, J.seqP_ct, J.finP_nx, J.finP_ret, J.turnP_nx, J.turnP_ct, J.turnP_brk, J.turnP_ret, binD, List.length_map]
      rw [if_pos (by unfold SZ; omega)]
      simp -implicitDefEqProofs -dsimp only [J.exPs, J.exP, J.evP, J.evPs, J.evPO, J.tstP, J.tsPOr, J.tsPAnd, J.evPAnd, J.evPOr, J.itP, J.rb_ok, J.rb_exc, J.bp_ok, J.bp_exc, J.th_nx, J.th_ret, J.th_brk, J.th_ct, J.th_exc, J.of_some, J.nr_non, J.nr_bl, J.nr_int, J.nr_str, J.nr_tup, J.nr_lst, J.nr_dic, J.nr_kls, J.nrs_nil, J.nrs_cons, J.gp_call, J.gp_glo, J.gp_isa, J.asg_name, J.asg_tup, J.asgTs, J.wipeE, J.truth_bl, J.truth_int, J.truth_tup, J.truth_lst, J.bin_add, J.bin_sub, J.cmp_eqI, J.cmp_neI, J.cmp_ltI, J.cmp_gtI, J.cmp_leI, J.cmp_geI, J.cmp_isN, J.cmp_isnotN, J.ix_lst, J.ix_tup, J.len_lst, J.len_tup, J.int_int, J.abs_int, J.btD, J.isNon, J.tupleB, J.listB, J.isiD, J.isTy, J.items?, List.map, List.length_cons, List.length_nil, List.replicate, List.getElem?_cons_zero, List.getElem?_cons_succ, J.sz0, J.sz1, J.sz2, J.sz3, J.sz4, J.sz5, J.sz6, J.sz7, J.sz8, J.sz9, J.sz10, J.sz11, J.sz12, J.sz13, J.sz14, J.sz15, J.sz16, J.sz17, J.sz18, J.sz19, J.sz20, J.sz21, J.sz22, J.sz23, J.sz24, J.sz25, J.sz26, J.sz27, J.sz28, J.sz29, J.sz30, J.sz31, J.sz32, J.sz33, J.sz34, J.sz35, J.sz36, J.sz37, J.sz38, J.sz39, J.sz40, J.sz41, J.sz42, J.sz43, J.sz44, J.sz45, J.sz46, J.sz47, J.sz48, J.sz49, J.sz50, J.sz51, J.sz52, J.sz53, J.sz54, J.sz55, J.sz56, J.sz57, J.sz58, J.sz59, J.sz60, J.cast0, J.cast1, J.cast2, J.cast3, J.cast4, J.cast5, J.cast6, J.cast7, J.cast8, J.cast9, J.cast10, J.cast11, J.cast12, J.cast13, J.cast14, J.cast15, J.cast16, J.cast17, J.cast18, J.cast19, J.cast20, Int.reduceBEq, Int.reduceLT, Int.reduceNeg, Int.reduceAdd, Int.reduceSub, decide_true, decide_false, J.at0of1, J.at0of2, J.at1of2, J.at0of3, J.at1of3, J.at2of3, J.szl0, J.szl1, J.szl2, J.szl3, J.szl4, J.szl5, J.szl6, J.szl7, J.szl8, J.szl9, J.szl10, J.szl11, J.szl12, J.szl13, J.szl14, J.szl15, J.szl16, J.szl17, J.szl18, J.szl19, J.szl20, J.szl21, J.szl22, J.szl23, J.szl24, J.szl25, J.szl26, J.szl27, J.szl28, J.szl29, J.szl30, J.szl31, J.szl32, J.szl33, J.szl34, J.szl35, J.szl36, J.szl37, J.szl38, J.szl39, J.szl40, J.szl41, J.szl42, J.szl43, J.szl44, J.szl45, J.szl46, J.szl47, J.szl48, J.szl49, J.szl50, J.szl51, J.szl52, J.szl53, J.szl54, J.szl55, J.szl56, J.szl57, J.szl58, J.szl59, J.szl60, and_self, if_true, if_false, Bool.false_eq_true, Bool.and_true, Bool.true_and, Bool.not_true, Bool.not_false, List.cons_append, List.nil_append, Option.map_some, Nat.sub_self, Nat.zero_add, Nat.reduceAdd, Nat.reduceSub, Nat.reduceLT, List.set_cons_zero, List.set_cons_succ, Option.bind_some, J.psat_ok, J.psat_exc, J.psatS_ok, J.psatS_exc, J.psat_bnd, J.psatS_bndP, J.psatS_thP, J.seqP_nx, J.seqP_ret, J.seqP_brk, J.seqP_ct, J.finP_nx, J.finP_ret, J.turnP_nx, J.turnP_ct, J.turnP_brk, J.turnP_ret]
      refine ⟨.val (.str x.nm), .val (.tup (x.ts.map encT)), x3, by rw [namesGo_app, ← List.map_append]; rfl, ?_⟩
      rw [namesGo_app, List.length_append, List.length_singleton]
      show (namesGo [] pre ++ _).length ≤ _
      rw [List.length_append]
      omega
  · subst q
    simp -implicitDefEqProofs -dsimp only [J.exPs, J.exP, J.evP, J.evPs, J.evPO, J.tstP, J.tsPOr, J.tsPAnd, J.evPAnd, J.evPOr, J.itP, J.rb_ok, J.rb_exc, J.bp_ok, J.bp_exc, J.th_nx, J.th_ret, J.th_brk, J.th_ct, J.th_exc, J.of_some, J.nr_non, J.nr_bl, J.nr_int, J.nr_str, J.nr_tup, J.nr_lst, J.nr_dic, J.nr_kls, J.nrs_nil, J.nrs_cons, J.gp_call, J.gp_glo, J.gp_isa, J.asg_name, J.asg_tup, J.asgTs, J.wipeE, J.truth_bl, J.truth_int, J.truth_tup, J.truth_lst, J.bin_add, J.bin_sub, J.cmp_eqI, J.cmp_neI, J.cmp_ltI, J.cmp_gtI, J.cmp_leI, J.cmp_geI, J.cmp_isN, J.cmp_isnotN, J.ix_lst, J.ix_tup, J.len_lst, J.len_tup, J.int_int, J.abs_int, J.btD, J.isNon, J.tupleB, J.listB, J.isiD, J.isTy, J.items?, List.map, List.length_cons, List.length_nil, List.replicate, List.getElem?_cons_zero, List.getElem?_cons_succ, J.sz0, J.sz1, J.sz2, J.sz3, J.sz4, J.sz5, J.sz6, J.sz7, J.sz8, J.sz9, J.sz10, J.sz11, J.sz12, J.sz13, J.sz14, J.sz15, J.sz16, J.sz17, J.sz18, J.sz19, J.sz20, J.sz21, J.sz22, J.sz23, J.sz24, J.sz25, J.sz26, J.sz27, J.sz28, J.sz29, J.sz30, J.sz31, J.sz32, J.sz33, J.sz34, J.sz35, J.sz36, J.sz37, J.sz38, J.sz39, J.sz40, J.sz41, J.sz42, J.sz43, J.sz44, J.sz45, J.sz46, J.sz47, J.sz48, J.sz49, J.sz50, J.sz51, J.sz52, J.sz53, J.sz54, J.sz55, J.sz56, J.sz57, J.sz58, J.sz59, J.sz60, J.cast0, J.cast1, J.cast2, J.cast3, J.cast4, J.cast5, J.cast6, J.cast7, J.cast8, J.cast9, J.cast10, J.cast11, J.cast12, J.cast13, J.cast14, J.cast15, J.cast16, J.cast17, J.cast18, J.cast19, J.cast20, Int.reduceBEq, Int.reduceLT, Int.reduceNeg, Int.reduceAdd, Int.reduceSub, decide_true, decide_false, J.at0of1, J.at0of2, J.at1of2, J.at0of3, J.at1of3, J.at2of3, J.szl0, J.szl1, J.szl2, J.szl3, J.szl4, J.szl5, J.szl6, J.szl7, J.szl8, J.szl9, J.szl10, J.szl11, J.szl12, J.szl13, J.szl14, J.szl15, J.szl16, J.szl17, J.szl18, J.szl19, J.szl20, J.szl21, J.szl22, J.szl23, J.szl24, J.szl25, J.szl26, J.szl27, J.szl28, J.szl29, J.szl30, J.szl31, J.szl32, J.szl33, J.szl34, J.szl35, J.szl36, J.szl37, J.szl38, J.szl39, J.szl40, J.szl41, J.szl42, J.szl43, J.szl44, J.szl45, J.szl46, J.szl47, J.szl48, J.szl49, J.szl50, J.szl51, J.szl52, J.szl53, J.szl54, J.szl55, J.szl56, J.szl57, J.szl58, J.szl59, J.szl60, and_self, if_true, if_false, Bool.false_eq_true, Bool.and_true, Bool.true_and, Bool.not_true, Bool.not_false, List.cons_append, List.nil_append, Option.map_some, Nat.sub_self, Nat.zero_add, Nat.reduceAdd, Nat.reduceSub, Nat.reduceLT, List.set_cons_zero, List.set_cons_succ, Option.bind_some, J.psat_ok, J.psat_exc, J.psatS_ok, J.psatS_exc, J.psat_bnd, J.psatS_bndP, J.psatS_thP, J.seqP_nx, J.seqP_ret, J.seqP_brk, J.seqP_ct, J.finP_nx, J.finP_ret, J.turnP_nx, J.turnP_ct, J.turnP_brk, J.turnP_ret, sort_strs (show (namesGo [] body).length ≤ SZ by unfold SZ; omega)]
end L_k00

namespace L_k00
open PySem J
theorem query_sat {k : Nat} {st0 st : Store} {l : Nat} {sch : Sch} {most width : Nat} {Q : D → Store → Prop} {E : Exn → Store → Prop} (h : Dw l st0 st) (hs : sch ≠ []) (hl : sch.length ≤ 100) (hw : ∀ p ∈ sch, p.2 ≤ 100) (hm : most ≤ 90) (hwd : width ≤ 100) (q : ∀ head body st', QueryP sch ["X", "Y", "Z", "U"] most width head body → Dw l st0 st' → Q (encQ head body) st') : Sat (callF Pr (k+3) 28 [.ref l, schD sch, .int most, .int width] st) Q E := by
  rw [callF_at (show Pr.fns[28]? = some ⟨4, 7, b28⟩ from rfl)]
  refine sat_run rfl ?_
  simp -implicitDefEqProofs -dsimp only [J.sat_ok, J.sat_exc, J.satS_ok, J.satS_exc, J.sat_bnd, J.satS_bndS, J.satS_thn, J.seqQ_nx, J.seqQ_ret, J.seqQ_brk, J.seqQ_ct, J.finQ_nx, J.finQ_ret, J.turnQ_nx, J.turnQ_ct, J.turnQ_brk, J.turnQ_ret, J.execs, J.exec, J.ev, J.evs, J.evO, J.tst, J.tsOr, J.tsAnd, J.evAnd, J.evOr, J.itD, J.bnd_okE, J.bndS_okE, J.thn_nxE, J.thn_retE, J.ofO_someE, J.snap_non, J.snap_bl, J.snap_int, J.snap_str, J.snap_tup, J.snap_lst, J.snap_kls, J.gx_call, J.gx_glo, J.gx_isa, J.asg_name, J.asg_tup, J.asgTs, J.wipeE, J.truth_bl, J.truth_int, J.truth_tup, J.truth_lst, J.bin_add, J.bin_sub, J.cmp_eqI, J.cmp_neI, J.cmp_ltI, J.cmp_gtI, J.cmp_leI, J.cmp_geI, J.cmp_isN, J.cmp_isnotN, J.ix_lst, J.ix_tup, J.len_lst, J.len_tup, J.int_int, J.abs_int, J.btD, J.isNon, J.tupleB, J.listB, J.items?, J.setMO, List.map, List.length_cons, List.length_nil, List.replicate, List.getElem?_cons_zero, List.getElem?_cons_succ, J.sz0, J.sz1, J.sz2, J.sz3, J.sz4, J.sz5, J.sz6, J.sz7, J.sz8, J.sz9, J.sz10, J.sz11, J.sz12, J.sz13, J.sz14, J.sz15, J.sz16, J.sz17, J.sz18, J.sz19, J.sz20, J.sz21, J.sz22, J.sz23, J.sz24, J.sz25, J.sz26, J.sz27, J.sz28, J.sz29, J.sz30, J.sz31, J.sz32, J.sz33, J.sz34, J.sz35, J.sz36, J.sz37, J.sz38, J.sz39, J.sz40, J.sz41, J.sz42, J.sz43, J.sz44, J.sz45, J.sz46, J.sz47, J.sz48, J.sz49, J.sz50, J.sz51, J.sz52, J.sz53, J.sz54, J.sz55, J.sz56, J.sz57, J.sz58, J.sz59, J.sz60, J.cast0, J.cast1, J.cast2, J.cast3, J.cast4, J.cast5, J.cast6, J.cast7, J.cast8, J.cast9, J.cast10, J.cast11, J.cast12, J.cast13, J.cast14, J.cast15, J.cast16, J.cast17, J.cast18, J.cast19, J.cast20, Int.reduceBEq, Int.reduceLT, Int.reduceNeg, Int.reduceAdd, Int.reduceSub, decide_true, decide_false, J.at0of1, J.at0of2, J.at1of2, J.at0of3, J.at1of3, J.at2of3, J.szl0, J.szl1, J.szl2, J.szl3, J.szl4, J.szl5, J.szl6, J.szl7, J.szl8, J.szl9, J.szl10, J.szl11, J.szl12, J.szl13, J.szl14, J.szl15, J.szl16, J.szl17, J.szl18, J.szl19, J.szl20, J.szl21, J.szl22, J.szl23, J.szl24, J.szl25, J.szl26, J.szl27, J.szl28, J.szl29, J.szl30, J.szl31, J.szl32, J.szl33, J.szl34, J.szl35, J.szl36, J.szl37, J.szl38, J.szl39, J.szl40, J.szl41, J.szl42, J.szl43, J.szl44, J.szl45, J.szl46, J.szl47, J.szl48, J.szl49, J.szl50, J.szl51, J.szl52, J.szl53, J.szl54, J.szl55, J.szl56, J.szl57, J.szl58, J.szl59, J.szl60, and_self, if_true, if_false, Bool.false_eq_true, Bool.and_true, Bool.true_and, Bool.not_true, Bool.not_false, List.cons_append, List.nil_append, Option.map_some, Nat.sub_self, Nat.zero_add, Nat.reduceAdd, Nat.reduceSub, Nat.reduceLT, List.set_cons_zero, List.set_cons_succ, Option.bind_some, b28]
  refine take_sat h (by omega) (by omega) fun r st' hr d => ?_
  simp -implicitDefEqProofs -dsimp only [J.sat_ok, J.sat_exc, J.satS_ok, J.satS_exc, J.sat_bnd, J.satS_bndS, J.satS_thn, J.seqQ_nx, J.seqQ_ret, J.seqQ_brk, J.seqQ_ct, J.finQ_nx, J.finQ_ret, J.turnQ_nx, J.turnQ_ct, J.turnQ_brk, J.turnQ_ret, J.execs, J.exec, J.ev, J.evs, J.evO, J.tst, J.tsOr, J.tsAnd, J.evAnd, J.evOr, J.itD, J.bnd_okE, J.bndS_okE, J.thn_nxE, J.thn_retE, J.ofO_someE, J.snap_non, J.snap_bl, J.snap_int, J.snap_str, J.snap_tup, J.snap_lst, J.snap_kls, J.gx_call, J.gx_glo, J.gx_isa, J.asg_name, J.asg_tup, J.asgTs, J.wipeE, J.truth_bl, J.truth_int, J.truth_tup, J.truth_lst, J.bin_add, J.bin_sub, J.cmp_eqI, J.cmp_neI, J.cmp_ltI, J.cmp_gtI, J.cmp_leI, J.cmp_geI, J.cmp_isN, J.cmp_isnotN, J.ix_lst, J.ix_tup, J.len_lst, J.len_tup, J.int_int, J.abs_int, J.btD, J.isNon, J.tupleB, J.listB, J.items?, J.setMO, List.map, List.length_cons, List.length_nil, List.replicate, List.getElem?_cons_zero, List.getElem?_cons_succ, J.sz0, J.sz1, J.sz2, J.sz3, J.sz4, J.sz5, J.sz6, J.sz7, J.sz8, J.sz9, J.sz10, J.sz11, J.sz12, J.sz13, J.sz14, J.sz15, J.sz16, J.sz17, J.sz18, J.sz19, J.sz20, J.sz21, J.sz22, J.sz23, J.sz24, J.sz25, J.sz26, J.sz27, J.sz28, J.sz29, J.sz30, J.sz31, J.sz32, J.sz33, J.sz34, J.sz35, J.sz36, J.sz37, J.sz38, J.sz39, J.sz40, J.sz41, J.sz42, J.sz43, J.sz44, J.sz45, J.sz46, J.sz47, J.sz48, J.sz49, J.sz50, J.sz51, J.sz52, J.sz53, J.sz54, J.sz55, J.sz56, J.sz57, J.sz58, J.sz59, J.sz60, J.cast0, J.cast1, J.cast2, J.cast3, J.cast4, J.cast5, J.cast6, J.cast7, J.cast8, J.cast9, J.cast10, J.cast11, J.cast12, J.cast13, J.cast14, J.cast15, J.cast16, J.cast17, J.cast18, J.cast19, J.cast20, Int.reduceBEq, Int.reduceLT, Int.reduceNeg, Int.reduceAdd, Int.reduceSub, decide_true, decide_false, J.at0of1, J.at0of2, J.at1of2, J.at0of3, J.at1of3, J.at2of3, J.szl0, J.szl1, J.szl2, J.szl3, J.szl4, J.szl5, J.szl6, J.szl7, J.szl8, J.szl9, J.szl10, J.szl11, J.szl12, J.szl13, J.szl14, J.szl15, J.szl16, J.szl17, J.szl18, J.szl19, J.szl20, J.szl21, J.szl22, J.szl23, J.szl24, J.szl25, J.szl26, J.szl27, J.szl28, J.szl29, J.szl30, J.szl31, J.szl32, J.szl33, J.szl34, J.szl35, J.szl36, J.szl37, J.szl38, J.szl39, J.szl40, J.szl41, J.szl42, J.szl43, J.szl44, J.szl45, J.szl46, J.szl47, J.szl48, J.szl49, J.szl50, J.szl51, J.szl52, J.szl53, J.szl54, J.szl55, J.szl56, J.szl57, J.szl58, J.szl59, J.szl60, and_self, if_true, if_false, Bool.false_eq_true, Bool.and_true, Bool.true_and, Bool.not_true, Bool.not_false, List.cons_append, List.nil_append, Option.map_some, Nat.sub_self, Nat.zero_add, Nat.reduceAdd, Nat.reduceSub, Nat.reduceLT, List.set_cons_zero, List.set_cons_succ, Option.bind_some, range_ok (j := (r : Int)) (by omega) (by omega)]
  refine sat_map (fun s => Dw l st0 s) (fun y => ∃ a, y = encA a ∧ AtomP sch ["X", "Y", "Z", "U"] a) (by rw [rngD_len]; unfold SZ; omega) d (fun x s hx hs' => ?_) fun ys s hs' hp hl' => ?_
  · simp -implicitDefEqProofs -dsimp only [J.sat_ok, J.sat_exc, J.satS_ok, J.satS_exc, J.sat_bnd, J.satS_bndS, J.satS_thn, J.seqQ_nx, J.seqQ_ret, J.seqQ_brk, J.seqQ_ct, J.finQ_nx, J.finQ_ret, J.turnQ_nx, J.turnQ_ct, J.turnQ_brk, J.turnQ_ret, J.execs, J.exec, J.ev, J.evs, J.evO, J.tst, J.tsOr, J.tsAnd, J.evAnd, J.evOr, J.itD, J.bnd_okE, J.bndS_okE, J.thn_nxE, J.thn_retE, J.ofO_someE, J.snap_non, J.snap_bl, J.snap_int, J.snap_str, J.snap_tup, J.snap_lst, J.snap_kls, J.gx_call, J.gx_glo, J.gx_isa, J.asg_name, J.asg_tup, J.asgTs, J.wipeE, J.truth_bl, J.truth_int, J.truth_tup, J.truth_lst, J.bin_add, J.bin_sub, J.cmp_eqI, J.cmp_neI, J.cmp_ltI, J.cmp_gtI, J.cmp_leI, J.cmp_geI, J.cmp_isN, J.cmp_isnotN, J.ix_lst, J.ix_tup, J.len_lst, J.len_tup, J.int_int, J.abs_int, J.btD, J.isNon, J.tupleB, J.listB, J.items?, J.setMO, List.map, List.length_cons, List.length_nil, List.replicate, List.getElem?_cons_zero, List.getElem?_cons_succ, J.sz0, J.sz1, J.sz2, J.sz3, J.sz4, J.sz5, J.sz6, J.sz7, J.sz8, J.sz9, J.sz10, J.sz11, J.sz12, J.sz13, J.sz14, J.sz15, J.sz16, J.sz17, J.sz18, J.sz19, J.sz20, J.sz21, J.sz22, J.sz23, J.sz24, J.sz25, J.sz26, J.sz27, J.sz28, J.sz29, J.sz30, J.sz31, J.sz32, J.sz33, J.sz34, J.sz35, J.sz36, J.sz37, J.sz38, J.sz39, J.sz40, J.sz41, J.sz42, J.sz43, J.sz44, J.sz45, J.sz46, J.sz47, J.sz48, J.sz49, J.sz50, J.sz51, J.sz52, J.sz53, J.sz54, J.sz55, J.sz56, J.sz57, J.sz58, J.sz59, J.sz60, J.cast0, J.cast1, J.cast2, J.cast3, J.cast4, J.cast5, J.cast6, J.cast7, J.cast8, J.cast9, J.cast10, J.cast11, J.cast12, J.cast13, J.cast14, J.cast15, J.cast16, J.cast17, J.cast18, J.cast19, J.cast20, Int.reduceBEq, Int.reduceLT, Int.reduceNeg, Int.reduceAdd, Int.reduceSub, decide_true, decide_false, J.at0of1, J.at0of2, J.at1of2, J.at0of3, J.at1of3, J.at2of3, J.szl0, J.szl1, J.szl2, J.szl3, J.szl4, J.szl5, J.szl6, J.szl7, J.szl8, J.szl9, J.szl10, J.szl11, J.szl12, J.szl13, J.szl14, J.szl15, J.szl16, J.szl17, J.szl18, J.szl19, J.szl20, J.szl21, J.szl22, J.szl23, J.szl24, J.szl25, J.szl26, J.szl27, J.szl28, J.szl29, J.szl30, J.szl31, J.szl32, J.szl33, J.szl34, J.szl35, J.szl36, J.szl37, J.szl38, J.szl39, J.szl40, J.szl41, J.szl42, J.szl43, J.szl44, J.szl45, J.szl46, J.szl47, J.szl48, J.szl49, J.szl50, J.szl51, J.szl52, J.szl53, J.szl54, J.szl55, J.szl56, J.szl57, J.szl58, J.szl59, J.szl60, and_self, if_true, if_false, Bool.false_eq_true, Bool.and_true, Bool.true_and, Bool.not_true, Bool.not_false, List.cons_append, List.nil_append, Option.map_some, Nat.sub_self, Nat.zero_add, Nat.reduceAdd, Nat.reduceSub, Nat.reduceLT, List.set_cons_zero, List.set_cons_succ, Option.bind_some]
    exact atom_sat (names := ["X", "Y", "Z", "U"]) hs' hs hl hw (by simp) (by decide) fun a st' ha d => by
      simp -implicitDefEqProofs -dsimp only [J.sat_ok, J.sat_exc, J.satS_ok, J.satS_exc, J.sat_bnd, J.satS_bndS, J.satS_thn, J.seqQ_nx, J.seqQ_ret, J.seqQ_brk, J.seqQ_ct, J.finQ_nx, J.finQ_ret, J.turnQ_nx, J.turnQ_ct, J.turnQ_brk, J.turnQ_ret, J.execs, J.exec, J.ev, J.evs, J.evO, J.tst, J.tsOr, J.tsAnd, J.evAnd, J.evOr, J.itD, J.bnd_okE, J.bndS_okE, J.thn_nxE, J.thn_retE, J.ofO_someE, J.snap_non, J.snap_bl, J.snap_int, J.snap_str, J.snap_tup, J.snap_lst, J.snap_kls, J.gx_call, J.gx_glo, J.gx_isa, J.asg_name, J.asg_tup, J.asgTs, J.wipeE, J.truth_bl, J.truth_int, J.truth_tup, J.truth_lst, J.bin_add, J.bin_sub, J.cmp_eqI, J.cmp_neI, J.cmp_ltI, J.cmp_gtI, J.cmp_leI, J.cmp_geI, J.cmp_isN, J.cmp_isnotN, J.ix_lst, J.ix_tup, J.len_lst, J.len_tup, J.int_int, J.abs_int, J.btD, J.isNon, J.tupleB, J.listB, J.items?, J.setMO, List.map, List.length_cons, List.length_nil, List.replicate, List.getElem?_cons_zero, List.getElem?_cons_succ, J.sz0, J.sz1, J.sz2, J.sz3, J.sz4, J.sz5, J.sz6, J.sz7, J.sz8, J.sz9, J.sz10, J.sz11, J.sz12, J.sz13, J.sz14, J.sz15, J.sz16, J.sz17, J.sz18, J.sz19, J.sz20, J.sz21, J.sz22, J.sz23, J.sz24, J.sz25, J.sz26, J.sz27, J.sz28, J.sz29, J.sz30, J.sz31, J.sz32, J.sz33, J.sz34, J.sz35, J.sz36, J.sz37, J.sz38, J.sz39, J.sz40, J.sz41, J.sz42, J.sz43, J.sz44, J.sz45, J.sz46, J.sz47, J.sz48, J.sz49, J.sz50, J.sz51, J.sz52, J.sz53, J.sz54, J.sz55, J.sz56, J.sz57, J.sz58, J.sz59, J.sz60, J.cast0, J.cast1, J.cast2, J.cast3, J.cast4, J.cast5, J.cast6, J.cast7, J.cast8, J.cast9, J.cast10, J.cast11, J.cast12, J.cast13, J.cast14, J.cast15, J.cast16, J.cast17, J.cast18, J.cast19, J.cast20, Int.reduceBEq, Int.reduceLT, Int.reduceNeg, Int.reduceAdd, Int.reduceSub, decide_true, decide_false, J.at0of1, J.at0of2, J.at1of2, J.at0of3, J.at1of3, J.at2of3, J.szl0, J.szl1, J.szl2, J.szl3, J.szl4, J.szl5, J.szl6, J.szl7, J.szl8, J.szl9, J.szl10, J.szl11, J.szl12, J.szl13, J.szl14, J.szl15, J.szl16, J.szl17, J.szl18, J.szl19, J.szl20, J.szl21, J.szl22, J.szl23, J.szl24, J.szl25, J.szl26, J.szl27, J.szl28, J.szl29, J.szl30, J.szl31, J.szl32, J.szl33, J.szl34, J.szl35, J.szl36, J.szl37, J.szl38, J.szl39, J.szl40, J.szl41, J.szl42, J.szl43, J.szl44, J.szl45, J.szl46, J.szl47, J.szl48, J.szl49, J.szl50, J.szl51, J.szl52, J.szl53, J.szl54, J.szl55, J.szl56, J.szl57, J.szl58, J.szl59, J.szl60, and_self, if_true, if_false, Bool.false_eq_true, Bool.and_true, Bool.true_and, Bool.not_true, Bool.not_false, List.cons_append, List.nil_append, Option.map_some, Nat.sub_self, Nat.zero_add, Nat.reduceAdd, Nat.reduceSub, Nat.reduceLT, List.set_cons_zero, List.set_cons_succ, Option.bind_some]
      exact ⟨d, _, rfl, _, rfl, ha⟩
  · obtain ⟨body, rfl, h1, h2⟩ := map_of_all hp
    rw [List.length_map, rngD_len] at hl'
    have hb : body.length ≤ most := by omega
    have hts : ∀ a ∈ body, a.ts.length ≤ 100 := fun a ha => hw _ (h1 a ha).1
    have hnn := names_ok (k := k + 1) (show body.length ≤ 100 by omega) hts
    generalize hfs : namesGo [] body = fs at hnn
    obtain ⟨ns, en, hn, hnl⟩ := isort_strs fs
    have hnl2 : ns.length ≤ 100 * body.length := by rw [hnl, ← hfs]; exact namesGo_len hts
    subst hfs
    simp -implicitDefEqProofs -dsimp only [J.sat_ok, J.sat_exc, J.satS_ok, J.satS_exc, J.sat_bnd, J.satS_bndS, J.satS_thn, J.seqQ_nx, J.seqQ_ret, J.seqQ_brk, J.seqQ_ct, J.finQ_nx, J.finQ_ret, J.turnQ_nx, J.turnQ_ct, J.turnQ_brk, J.turnQ_ret, J.execs, J.exec, J.ev, J.evs, J.evO, J.tst, J.tsOr, J.tsAnd, J.evAnd, J.evOr, J.itD, J.bnd_okE, J.bndS_okE, J.thn_nxE, J.thn_retE, J.ofO_someE, J.snap_non, J.snap_bl, J.snap_int, J.snap_str, J.snap_tup, J.snap_lst, J.snap_kls, J.gx_call, J.gx_glo, J.gx_isa, J.asg_name, J.asg_tup, J.asgTs, J.wipeE, J.truth_bl, J.truth_int, J.truth_tup, J.truth_lst, J.bin_add, J.bin_sub, J.cmp_eqI, J.cmp_neI, J.cmp_ltI, J.cmp_gtI, J.cmp_leI, J.cmp_geI, J.cmp_isN, J.cmp_isnotN, J.ix_lst, J.ix_tup, J.len_lst, J.len_tup, J.int_int, J.abs_int, J.btD, J.isNon, J.tupleB, J.listB, J.items?, J.setMO, List.map, List.length_cons, List.length_nil, List.replicate, List.getElem?_cons_zero, List.getElem?_cons_succ, J.sz0, J.sz1, J.sz2, J.sz3, J.sz4, J.sz5, J.sz6, J.sz7, J.sz8, J.sz9, J.sz10, J.sz11, J.sz12, J.sz13, J.sz14, J.sz15, J.sz16, J.sz17, J.sz18, J.sz19, J.sz20, J.sz21, J.sz22, J.sz23, J.sz24, J.sz25, J.sz26, J.sz27, J.sz28, J.sz29, J.sz30, J.sz31, J.sz32, J.sz33, J.sz34, J.sz35, J.sz36, J.sz37, J.sz38, J.sz39, J.sz40, J.sz41, J.sz42, J.sz43, J.sz44, J.sz45, J.sz46, J.sz47, J.sz48, J.sz49, J.sz50, J.sz51, J.sz52, J.sz53, J.sz54, J.sz55, J.sz56, J.sz57, J.sz58, J.sz59, J.sz60, J.cast0, J.cast1, J.cast2, J.cast3, J.cast4, J.cast5, J.cast6, J.cast7, J.cast8, J.cast9, J.cast10, J.cast11, J.cast12, J.cast13, J.cast14, J.cast15, J.cast16, J.cast17, J.cast18, J.cast19, J.cast20, Int.reduceBEq, Int.reduceLT, Int.reduceNeg, Int.reduceAdd, Int.reduceSub, decide_true, decide_false, J.at0of1, J.at0of2, J.at1of2, J.at0of3, J.at1of3, J.at2of3, J.szl0, J.szl1, J.szl2, J.szl3, J.szl4, J.szl5, J.szl6, J.szl7, J.szl8, J.szl9, J.szl10, J.szl11, J.szl12, J.szl13, J.szl14, J.szl15, J.szl16, J.szl17, J.szl18, J.szl19, J.szl20, J.szl21, J.szl22, J.szl23, J.szl24, J.szl25, J.szl26, J.szl27, J.szl28, J.szl29, J.szl30, J.szl31, J.szl32, J.szl33, J.szl34, J.szl35, J.szl36, J.szl37, J.szl38, J.szl39, J.szl40, J.szl41, J.szl42, J.szl43, J.szl44, J.szl45, J.szl46, J.szl47, J.szl48, J.szl49, J.szl50, J.szl51, J.szl52, J.szl53, J.szl54, J.szl55, J.szl56, J.szl57, J.szl58, J.szl59, J.szl60, and_self, if_true, if_false, Bool.false_eq_true, Bool.and_true, Bool.true_and, Bool.not_true, Bool.not_false, List.cons_append, List.nil_append, Option.map_some, Nat.sub_self, Nat.zero_add, Nat.reduceAdd, Nat.reduceSub, Nat.reduceLT, List.set_cons_zero, List.set_cons_succ, Option.bind_some]
    refine sat_pure hnn ?_
    have hnm : ∀ s, s ∈ ns ↔ s ∈ atomsStrs body := fun s => by rw [hn, namesGo_mem]; simp
    simp -implicitDefEqProofs -dsimp only [J.sat_ok, J.sat_exc, J.satS_ok, J.satS_exc, J.sat_bnd, J.satS_bndS, J.satS_thn, J.seqQ_nx, J.seqQ_ret, J.seqQ_brk, J.seqQ_ct, J.finQ_nx, J.finQ_ret, J.turnQ_nx, J.turnQ_ct, J.turnQ_brk, J.turnQ_ret, J.execs, J.exec, J.ev, J.evs, J.evO, J.tst, J.tsOr, J.tsAnd, J.evAnd, J.evOr, J.itD, J.bnd_okE, J.bndS_okE, J.thn_nxE, J.thn_retE, J.ofO_someE, J.snap_non, J.snap_bl, J.snap_int, J.snap_str, J.snap_tup, J.snap_lst, J.snap_kls, J.gx_call, J.gx_glo, J.gx_isa, J.asg_name, J.asg_tup, J.asgTs, J.wipeE, J.truth_bl, J.truth_int, J.truth_tup, J.truth_lst, J.bin_add, J.bin_sub, J.cmp_eqI, J.cmp_neI, J.cmp_ltI, J.cmp_gtI, J.cmp_leI, J.cmp_geI, J.cmp_isN, J.cmp_isnotN, J.ix_lst, J.ix_tup, J.len_lst, J.len_tup, J.int_int, J.abs_int, J.btD, J.isNon, J.tupleB, J.listB, J.items?, J.setMO, List.map, List.length_cons, List.length_nil, List.replicate, List.getElem?_cons_zero, List.getElem?_cons_succ, J.sz0, J.sz1, J.sz2, J.sz3, J.sz4, J.sz5, J.sz6, J.sz7, J.sz8, J.sz9, J.sz10, J.sz11, J.sz12, J.sz13, J.sz14, J.sz15, J.sz16, J.sz17, J.sz18, J.sz19, J.sz20, J.sz21, J.sz22, J.sz23, J.sz24, J.sz25, J.sz26, J.sz27, J.sz28, J.sz29, J.sz30, J.sz31, J.sz32, J.sz33, J.sz34, J.sz35, J.sz36, J.sz37, J.sz38, J.sz39, J.sz40, J.sz41, J.sz42, J.sz43, J.sz44, J.sz45, J.sz46, J.sz47, J.sz48, J.sz49, J.sz50, J.sz51, J.sz52, J.sz53, J.sz54, J.sz55, J.sz56, J.sz57, J.sz58, J.sz59, J.sz60, J.cast0, J.cast1, J.cast2, J.cast3, J.cast4, J.cast5, J.cast6, J.cast7, J.cast8, J.cast9, J.cast10, J.cast11, J.cast12, J.cast13, J.cast14, J.cast15, J.cast16, J.cast17, J.cast18, J.cast19, J.cast20, Int.reduceBEq, Int.reduceLT, Int.reduceNeg, Int.reduceAdd, Int.reduceSub, decide_true, decide_false, J.at0of1, J.at0of2, J.at1of2, J.at0of3, J.at1of3, J.at2of3, J.szl0, J.szl1, J.szl2, J.szl3, J.szl4, J.szl5, J.szl6, J.szl7, J.szl8, J.szl9, J.szl10, J.szl11, J.szl12, J.szl13, J.szl14, J.szl15, J.szl16, J.szl17, J.szl18, J.szl19, J.szl20, J.szl21, J.szl22, J.szl23, J.szl24, J.szl25, J.szl26, J.szl27, J.szl28, J.szl29, J.szl30, J.szl31, J.szl32, J.szl33, J.szl34, J.szl35, J.szl36, J.szl37, J.szl38, J.szl39, J.szl40, J.szl41, J.szl42, J.szl43, J.szl44, J.szl45, J.szl46, J.szl47, J.szl48, J.szl49, J.szl50, J.szl51, J.szl52, J.szl53, J.szl54, J.szl55, J.szl56, J.szl57, J.szl58, J.szl59, J.szl60, and_self, if_true, if_false, Bool.false_eq_true, Bool.and_true, Bool.true_and, Bool.not_true, Bool.not_false, List.cons_append, List.nil_append, Option.map_some, Nat.sub_self, Nat.zero_add, Nat.reduceAdd, Nat.reduceSub, Nat.reduceLT, List.set_cons_zero, List.set_cons_succ, Option.bind_some, en, range_ok (j := (width : Int)) (by omega) (by omega)]
    refine sat_map (fun s => Dw l st0 s) (fun y => ∃ t : Term, y = encT t ∧ TermP (atomsStrs body) t) (by rw [rngD_len]; unfold SZ; omega) hs' (fun x s hx hs => ?_) fun ys s hs hp hl => ?_
    · simp -implicitDefEqProofs -dsimp only [J.sat_ok, J.sat_exc, J.satS_ok, J.satS_exc, J.sat_bnd, J.satS_bndS, J.satS_thn, J.seqQ_nx, J.seqQ_ret, J.seqQ_brk, J.seqQ_ct, J.finQ_nx, J.finQ_ret, J.turnQ_nx, J.turnQ_ct, J.turnQ_brk, J.turnQ_ret, J.execs, J.exec, J.ev, J.evs, J.evO, J.tst, J.tsOr, J.tsAnd, J.evAnd, J.evOr, J.itD, J.bnd_okE, J.bndS_okE, J.thn_nxE, J.thn_retE, J.ofO_someE, J.snap_non, J.snap_bl, J.snap_int, J.snap_str, J.snap_tup, J.snap_lst, J.snap_kls, J.gx_call, J.gx_glo, J.gx_isa, J.asg_name, J.asg_tup, J.asgTs, J.wipeE, J.truth_bl, J.truth_int, J.truth_tup, J.truth_lst, J.bin_add, J.bin_sub, J.cmp_eqI, J.cmp_neI, J.cmp_ltI, J.cmp_gtI, J.cmp_leI, J.cmp_geI, J.cmp_isN, J.cmp_isnotN, J.ix_lst, J.ix_tup, J.len_lst, J.len_tup, J.int_int, J.abs_int, J.btD, J.isNon, J.tupleB, J.listB, J.items?, J.setMO, List.map, List.length_cons, List.length_nil, List.replicate, List.getElem?_cons_zero, List.getElem?_cons_succ, J.sz0, J.sz1, J.sz2, J.sz3, J.sz4, J.sz5, J.sz6, J.sz7, J.sz8, J.sz9, J.sz10, J.sz11, J.sz12, J.sz13, J.sz14, J.sz15, J.sz16, J.sz17, J.sz18, J.sz19, J.sz20, J.sz21, J.sz22, J.sz23, J.sz24, J.sz25, J.sz26, J.sz27, J.sz28, J.sz29, J.sz30, J.sz31, J.sz32, J.sz33, J.sz34, J.sz35, J.sz36, J.sz37, J.sz38, J.sz39, J.sz40, J.sz41, J.sz42, J.sz43, J.sz44, J.sz45, J.sz46, J.sz47, J.sz48, J.sz49, J.sz50, J.sz51, J.sz52, J.sz53, J.sz54, J.sz55, J.sz56, J.sz57, J.sz58, J.sz59, J.sz60, J.cast0, J.cast1, J.cast2, J.cast3, J.cast4, J.cast5, J.cast6, J.cast7, J.cast8, J.cast9, J.cast10, J.cast11, J.cast12, J.cast13, J.cast14, J.cast15, J.cast16, J.cast17, J.cast18, J.cast19, J.cast20, Int.reduceBEq, Int.reduceLT, Int.reduceNeg, Int.reduceAdd, Int.reduceSub, decide_true, decide_false, J.at0of1, J.at0of2, J.at1of2, J.at0of3, J.at1of3, J.at2of3, J.szl0, J.szl1, J.szl2, J.szl3, J.szl4, J.szl5, J.szl6, J.szl7, J.szl8, J.szl9, J.szl10, J.szl11, J.szl12, J.szl13, J.szl14, J.szl15, J.szl16, J.szl17, J.szl18, J.szl19, J.szl20, J.szl21, J.szl22, J.szl23, J.szl24, J.szl25, J.szl26, J.szl27, J.szl28, J.szl29, J.szl30, J.szl31, J.szl32, J.szl33, J.szl34, J.szl35, J.szl36, J.szl37, J.szl38, J.szl39, J.szl40, J.szl41, J.szl42, J.szl43, J.szl44, J.szl45, J.szl46, J.szl47, J.szl48, J.szl49, J.szl50, J.szl51, J.szl52, J.szl53, J.szl54, J.szl55, J.szl56, J.szl57, J.szl58, J.szl59, J.szl60, and_self, if_true, if_false, Bool.false_eq_true, Bool.and_true, Bool.true_and, Bool.not_true, Bool.not_false, List.cons_append, List.nil_append, Option.map_some, Nat.sub_self, Nat.zero_add, Nat.reduceAdd, Nat.reduceSub, Nat.reduceLT, List.set_cons_zero, List.set_cons_succ, Option.bind_some, ne_lstS_nil]
      cases hne : ns.isEmpty with
      | true =>
        simp -implicitDefEqProofs -dsimp only [J.sat_ok, J.sat_exc, J.satS_ok, J.satS_exc, J.sat_bnd, J.satS_bndS, J.satS_thn, J.seqQ_nx, J.seqQ_ret, J.seqQ_brk, J.seqQ_ct, J.finQ_nx, J.finQ_ret, J.turnQ_nx, J.turnQ_ct, J.turnQ_brk, J.turnQ_ret, J.execs, J.exec, J.ev, J.evs, J.evO, J.tst, J.tsOr, J.tsAnd, J.evAnd, J.evOr, J.itD, J.bnd_okE, J.bndS_okE, J.thn_nxE, J.thn_retE, J.ofO_someE, J.snap_non, J.snap_bl, J.snap_int, J.snap_str, J.snap_tup, J.snap_lst, J.snap_kls, J.gx_call, J.gx_glo, J.gx_isa, J.asg_name, J.asg_tup, J.asgTs, J.wipeE, J.truth_bl, J.truth_int, J.truth_tup, J.truth_lst, J.bin_add, J.bin_sub, J.cmp_eqI, J.cmp_neI, J.cmp_ltI, J.cmp_gtI, J.cmp_leI, J.cmp_geI, J.cmp_isN, J.cmp_isnotN, J.ix_lst, J.ix_tup, J.len_lst, J.len_tup, J.int_int, J.abs_int, J.btD, J.isNon, J.tupleB, J.listB, J.items?, J.setMO, List.map, List.length_cons, List.length_nil, List.replicate, List.getElem?_cons_zero, List.getElem?_cons_succ, J.sz0, J.sz1, J.sz2, J.sz3, J.sz4, J.sz5, J.sz6, J.sz7, J.sz8, J.sz9, J.sz10, J.sz11, J.sz12, J.sz13, J.sz14, J.sz15, J.sz16, J.sz17, J.sz18, J.sz19, J.sz20, J.sz21, J.sz22, J.sz23, J.sz24, J.sz25, J.sz26, J.sz27, J.sz28, J.sz29, J.sz30, J.sz31, J.sz32, J.sz33, J.sz34, J.sz35, J.sz36, J.sz37, J.sz38, J.sz39, J.sz40, J.sz41, J.sz42, J.sz43, J.sz44, J.sz45, J.sz46, J.sz47, J.sz48, J.sz49, J.sz50, J.sz51, J.sz52, J.sz53, J.sz54, J.sz55, J.sz56, J.sz57, J.sz58, J.sz59, J.sz60, J.cast0, J.cast1, J.cast2, J.cast3, J.cast4, J.cast5, J.cast6, J.cast7, J.cast8, J.cast9, J.cast10, J.cast11, J.cast12, J.cast13, J.cast14, J.cast15, J.cast16, J.cast17, J.cast18, J.cast19, J.cast20, Int.reduceBEq, Int.reduceLT, Int.reduceNeg, Int.reduceAdd, Int.reduceSub, decide_true, decide_false, J.at0of1, J.at0of2, J.at1of2, J.at0of3, J.at1of3, J.at2of3, J.szl0, J.szl1, J.szl2, J.szl3, J.szl4, J.szl5, J.szl6, J.szl7, J.szl8, J.szl9, J.szl10, J.szl11, J.szl12, J.szl13, J.szl14, J.szl15, J.szl16, J.szl17, J.szl18, J.szl19, J.szl20, J.szl21, J.szl22, J.szl23, J.szl24, J.szl25, J.szl26, J.szl27, J.szl28, J.szl29, J.szl30, J.szl31, J.szl32, J.szl33, J.szl34, J.szl35, J.szl36, J.szl37, J.szl38, J.szl39, J.szl40, J.szl41, J.szl42, J.szl43, J.szl44, J.szl45, J.szl46, J.szl47, J.szl48, J.szl49, J.szl50, J.szl51, J.szl52, J.szl53, J.szl54, J.szl55, J.szl56, J.szl57, J.szl58, J.szl59, J.szl60, and_self, if_true, if_false, Bool.false_eq_true, Bool.and_true, Bool.true_and, Bool.not_true, Bool.not_false, List.cons_append, List.nil_append, Option.map_some, Nat.sub_self, Nat.zero_add, Nat.reduceAdd, Nat.reduceSub, Nat.reduceLT, List.set_cons_zero, List.set_cons_succ, Option.bind_some]
        refine take_sat hs (by omega) (by omega) fun r st' hr d => ?_
        simp -implicitDefEqProofs -dsimp only [J.sat_ok, J.sat_exc, J.satS_ok, J.satS_exc, J.sat_bnd, J.satS_bndS, J.satS_thn, J.seqQ_nx, J.seqQ_ret, J.seqQ_brk, J.seqQ_ct, J.finQ_nx, J.finQ_ret, J.turnQ_nx, J.turnQ_ct, J.turnQ_brk, J.turnQ_ret, J.execs, J.exec, J.ev, J.evs, J.evO, J.tst, J.tsOr, J.tsAnd, J.evAnd, J.evOr, J.itD, J.bnd_okE, J.bndS_okE, J.thn_nxE, J.thn_retE, J.ofO_someE, J.snap_non, J.snap_bl, J.snap_int, J.snap_str, J.snap_tup, J.snap_lst, J.snap_kls, J.gx_call, J.gx_glo, J.gx_isa, J.asg_name, J.asg_tup, J.asgTs, J.wipeE, J.truth_bl, J.truth_int, J.truth_tup, J.truth_lst, J.bin_add, J.bin_sub, J.cmp_eqI, J.cmp_neI, J.cmp_ltI, J.cmp_gtI, J.cmp_leI, J.cmp_geI, J.cmp_isN, J.cmp_isnotN, J.ix_lst, J.ix_tup, J.len_lst, J.len_tup, J.int_int, J.abs_int, J.btD, J.isNon, J.tupleB, J.listB, J.items?, J.setMO, List.map, List.length_cons, List.length_nil, List.replicate, List.getElem?_cons_zero, List.getElem?_cons_succ, J.sz0, J.sz1, J.sz2, J.sz3, J.sz4, J.sz5, J.sz6, J.sz7, J.sz8, J.sz9, J.sz10, J.sz11, J.sz12, J.sz13, J.sz14, J.sz15, J.sz16, J.sz17, J.sz18, J.sz19, J.sz20, J.sz21, J.sz22, J.sz23, J.sz24, J.sz25, J.sz26, J.sz27, J.sz28, J.sz29, J.sz30, J.sz31, J.sz32, J.sz33, J.sz34, J.sz35, J.sz36, J.sz37, J.sz38, J.sz39, J.sz40, J.sz41, J.sz42, J.sz43, J.sz44, J.sz45, J.sz46, J.sz47, J.sz48, J.sz49, J.sz50, J.sz51, J.sz52, J.sz53, J.sz54, J.sz55, J.sz56, J.sz57, J.sz58, J.sz59, J.sz60, J.cast0, J.cast1, J.cast2, J.cast3, J.cast4, J.cast5, J.cast6, J.cast7, J.cast8, J.cast9, J.cast10, J.cast11, J.cast12, J.cast13, J.cast14, J.cast15, J.cast16, J.cast17, J.cast18, J.cast19, J.cast20, Int.reduceBEq, Int.reduceLT, Int.reduceNeg, Int.reduceAdd, Int.reduceSub, decide_true, decide_false, J.at0of1, J.at0of2, J.at1of2, J.at0of3, J.at1of3, J.at2of3, J.szl0, J.szl1, J.szl2, J.szl3, J.szl4, J.szl5, J.szl6, J.szl7, J.szl8, J.szl9, J.szl10, J.szl11, J.szl12, J.szl13, J.szl14, J.szl15, J.szl16, J.szl17, J.szl18, J.szl19, J.szl20, J.szl21, J.szl22, J.szl23, J.szl24, J.szl25, J.szl26, J.szl27, J.szl28, J.szl29, J.szl30, J.szl31, J.szl32, J.szl33, J.szl34, J.szl35, J.szl36, J.szl37, J.szl38, J.szl39, J.szl40, J.szl41, J.szl42, J.szl43, J.szl44, J.szl45, J.szl46, J.szl47, J.szl48, J.szl49, J.szl50, J.szl51, J.szl52, J.szl53, J.szl54, J.szl55, J.szl56, J.szl57, J.szl58, J.szl59, J.szl60, and_self, if_true, if_false, Bool.false_eq_true, Bool.and_true, Bool.true_and, Bool.not_true, Bool.not_false, List.cons_append, List.nil_append, Option.map_some, Nat.sub_self, Nat.zero_add, Nat.reduceAdd, Nat.reduceSub, Nat.reduceLT, List.set_cons_zero, List.set_cons_succ, Option.bind_some]
        exact ⟨d, _, rfl, .cnt r, rfl, by show r < 2; omega⟩
      | false =>
        simp -implicitDefEqProofs -dsimp only [J.sat_ok, J.sat_exc, J.satS_ok, J.satS_exc, J.sat_bnd, J.satS_bndS, J.satS_thn, J.seqQ_nx, J.seqQ_ret, J.seqQ_brk, J.seqQ_ct, J.finQ_nx, J.finQ_ret, J.turnQ_nx, J.turnQ_ct, J.turnQ_brk, J.turnQ_ret, J.execs, J.exec, J.ev, J.evs, J.evO, J.tst, J.tsOr, J.tsAnd, J.evAnd, J.evOr, J.itD, J.bnd_okE, J.bndS_okE, J.thn_nxE, J.thn_retE, J.ofO_someE, J.snap_non, J.snap_bl, J.snap_int, J.snap_str, J.snap_tup, J.snap_lst, J.snap_kls, J.gx_call, J.gx_glo, J.gx_isa, J.asg_name, J.asg_tup, J.asgTs, J.wipeE, J.truth_bl, J.truth_int, J.truth_tup, J.truth_lst, J.bin_add, J.bin_sub, J.cmp_eqI, J.cmp_neI, J.cmp_ltI, J.cmp_gtI, J.cmp_leI, J.cmp_geI, J.cmp_isN, J.cmp_isnotN, J.ix_lst, J.ix_tup, J.len_lst, J.len_tup, J.int_int, J.abs_int, J.btD, J.isNon, J.tupleB, J.listB, J.items?, J.setMO, List.map, List.length_cons, List.length_nil, List.replicate, List.getElem?_cons_zero, List.getElem?_cons_succ, J.sz0, J.sz1, J.sz2, J.sz3, J.sz4, J.sz5, J.sz6, J.sz7, J.sz8, J.sz9, J.sz10, J.sz11, J.sz12, J.sz13, J.sz14, J.sz15, J.sz16, J.sz17, J.sz18, J.sz19, J.sz20, J.sz21, J.sz22, J.sz23, J.sz24, J.sz25, J.sz26, J.sz27, J.sz28, J.sz29, J.sz30, J.sz31, J.sz32, J.sz33, J.sz34, J.sz35, J.sz36, J.sz37, J.sz38, J.sz39, J.sz40, J.sz41, J.sz42, J.sz43, J.sz44, J.sz45, J.sz46, J.sz47, J.sz48, J.sz49, J.sz50, J.sz51, J.sz52, J.sz53, J.sz54, J.sz55, J.sz56, J.sz57, J.sz58, J.sz59, J.sz60, J.cast0, J.cast1, J.cast2, J.cast3, J.cast4, J.cast5, J.cast6, J.cast7, J.cast8, J.cast9, J.cast10, J.cast11, J.cast12, J.cast13, J.cast14, J.cast15, J.cast16, J.cast17, J.cast18, J.cast19, J.cast20, Int.reduceBEq, Int.reduceLT, Int.reduceNeg, Int.reduceAdd, Int.reduceSub, decide_true, decide_false, J.at0of1, J.at0of2, J.at1of2, J.at0of3, J.at1of3, J.at2of3, J.szl0, J.szl1, J.szl2, J.szl3, J.szl4, J.szl5, J.szl6, J.szl7, J.szl8, J.szl9, J.szl10, J.szl11, J.szl12, J.szl13, J.szl14, J.szl15, J.szl16, J.szl17, J.szl18, J.szl19, J.szl20, J.szl21, J.szl22, J.szl23, J.szl24, J.szl25, J.szl26, J.szl27, J.szl28, J.szl29, J.szl30, J.szl31, J.szl32, J.szl33, J.szl34, J.szl35, J.szl36, J.szl37, J.szl38, J.szl39, J.szl40, J.szl41, J.szl42, J.szl43, J.szl44, J.szl45, J.szl46, J.szl47, J.szl48, J.szl49, J.szl50, J.szl51, J.szl52, J.szl53, J.szl54, J.szl55, J.szl56, J.szl57, J.szl58, J.szl59, J.szl60, and_self, if_true, if_false, Bool.false_eq_true, Bool.and_true, Bool.true_and, Bool.not_true, Bool.not_false, List.cons_append, List.nil_append, Option.map_some, Nat.sub_self, Nat.zero_add, Nat.reduceAdd, Nat.reduceSub, Nat.reduceLT, List.set_cons_zero, List.set_cons_succ, Option.bind_some]
        have hp2 : 0 < ns.length := by cases ns with | nil => cases hne | cons _ _ => exact Nat.succ_pos _
        refine take_sat hs (by omega) (by omega) fun r st' hr d => ?_
        simp -implicitDefEqProofs -dsimp only [J.sat_ok, J.sat_exc, J.satS_ok, J.satS_exc, J.sat_bnd, J.satS_bndS, J.satS_thn, J.seqQ_nx, J.seqQ_ret, J.seqQ_brk, J.seqQ_ct, J.finQ_nx, J.finQ_ret, J.turnQ_nx, J.turnQ_ct, J.turnQ_brk, J.turnQ_ret, J.execs, J.exec, J.ev, J.evs, J.evO, J.tst, J.tsOr, J.tsAnd, J.evAnd, J.evOr, J.itD, J.bnd_okE, J.bndS_okE, J.thn_nxE, J.thn_retE, J.ofO_someE, J.snap_non, J.snap_bl, J.snap_int, J.snap_str, J.snap_tup, J.snap_lst, J.snap_kls, J.gx_call, J.gx_glo, J.gx_isa, J.asg_name, J.asg_tup, J.asgTs, J.wipeE, J.truth_bl, J.truth_int, J.truth_tup, J.truth_lst, J.bin_add, J.bin_sub, J.cmp_eqI, J.cmp_neI, J.cmp_ltI, J.cmp_gtI, J.cmp_leI, J.cmp_geI, J.cmp_isN, J.cmp_isnotN, J.ix_lst, J.ix_tup, J.len_lst, J.len_tup, J.int_int, J.abs_int, J.btD, J.isNon, J.tupleB, J.listB, J.items?, J.setMO, List.map, List.length_cons, List.length_nil, List.replicate, List.getElem?_cons_zero, List.getElem?_cons_succ, J.sz0, J.sz1, J.sz2, J.sz3, J.sz4, J.sz5, J.sz6, J.sz7, J.sz8, J.sz9, J.sz10, J.sz11, J.sz12, J.sz13, J.sz14, J.sz15, J.sz16, J.sz17, J.sz18, J.sz19, J.sz20, J.sz21, J.sz22, J.sz23, J.sz24, J.sz25, J.sz26, J.sz27, J.sz28, J.sz29, J.sz30, J.sz31, J.sz32, J.sz33, J.sz34, J.sz35, J.sz36, J.sz37, J.sz38, J.sz39, J.sz40, J.sz41, J.sz42, J.sz43, J.sz44, J.sz45, J.sz46, J.sz47, J.sz48, J.sz49, J.sz50, J.sz51, J.sz52, J.sz53, J.sz54, J.sz55, J.sz56, J.sz57, J.sz58, J.sz59, J.sz60, J.cast0, J.cast1, J.cast2, J.cast3, J.cast4, J.cast5, J.cast6, J.cast7, J.cast8, J.cast9, J.cast10, J.cast11, J.cast12, J.cast13, J.cast14, J.cast15, J.cast16, J.cast17, J.cast18, J.cast19, J.cast20, Int.reduceBEq, Int.reduceLT, Int.reduceNeg, Int.reduceAdd, Int.reduceSub, decide_true, decide_false, J.at0of1, J.at0of2, J.at1of2, J.at0of3, J.at1of3, J.at2of3, J.szl0, J.szl1, J.szl2, J.szl3, J.szl4, J.szl5, J.szl6, J.szl7, J.szl8, J.szl9, J.szl10, J.szl11, J.szl12, J.szl13, J.szl14, J.szl15, J.szl16, J.szl17, J.szl18, J.szl19, J.szl20, J.szl21, J.szl22, J.szl23, J.szl24, J.szl25, J.szl26, J.szl27, J.szl28, J.szl29, J.szl30, J.szl31, J.szl32, J.szl33, J.szl34, J.szl35, J.szl36, J.szl37, J.szl38, J.szl39, J.szl40, J.szl41, J.szl42, J.szl43, J.szl44, J.szl45, J.szl46, J.szl47, J.szl48, J.szl49, J.szl50, J.szl51, J.szl52, J.szl53, J.szl54, J.szl55, J.szl56, J.szl57, J.szl58, J.szl59, J.szl60, and_self, if_true, if_false, Bool.false_eq_true, Bool.and_true, Bool.true_and, Bool.not_true, Bool.not_false, List.cons_append, List.nil_append, Option.map_some, Nat.sub_self, Nat.zero_add, Nat.reduceAdd, Nat.reduceSub, Nat.reduceLT, List.set_cons_zero, List.set_cons_succ, Option.bind_some]
        by_cases h0 : (0 : Int) < r
        · simp -implicitDefEqProofs -dsimp only [J.sat_ok, J.sat_exc, J.satS_ok, J.satS_exc, J.sat_bnd, J.satS_bndS, J.satS_thn, J.seqQ_nx, J.seqQ_ret, J.seqQ_brk, J.seqQ_ct, J.finQ_nx, J.finQ_ret, J.turnQ_nx, J.turnQ_ct, J.turnQ_brk, J.turnQ_ret, J.execs, J.exec, J.ev, J.evs, J.evO, J.tst, J.tsOr, J.tsAnd, J.evAnd, J.evOr, J.itD, J.bnd_okE, J.bndS_okE, J.thn_nxE, J.thn_retE, J.ofO_someE, J.snap_non, J.snap_bl, J.snap_int, J.snap_str, J.snap_tup, J.snap_lst, J.snap_kls, J.gx_call, J.gx_glo, J.gx_isa, J.asg_name, J.asg_tup, J.asgTs, J.wipeE, J.truth_bl, J.truth_int, J.truth_tup, J.truth_lst, J.bin_add, J.bin_sub, J.cmp_eqI, J.cmp_neI, J.cmp_ltI, J.cmp_gtI, J.cmp_leI, J.cmp_geI, J.cmp_isN, J.cmp_isnotN, J.ix_lst, J.ix_tup, J.len_lst, J.len_tup, J.int_int, J.abs_int, J.btD, J.isNon, J.tupleB, J.listB, J.items?, J.setMO, List.map, List.length_cons, List.length_nil, List.replicate, List.getElem?_cons_zero, List.getElem?_cons_succ, J.sz0, J.sz1, J.sz2, J.sz3, J.sz4, J.sz5, J.sz6, J.sz7, J.sz8, J.sz9, J.sz10, J.sz11, J.sz12, J.sz13, J.sz14, J.sz15, J.sz16, J.sz17, J.sz18, J.sz19, J.sz20, J.sz21, J.sz22, J.sz23, J.sz24, J.sz25, J.sz26, J.sz27, J.sz28, J.sz29, J.sz30, J.sz31, J.sz32, J.sz33, J.sz34, J.sz35, J.sz36, J.sz37, J.sz38, J.sz39, J.sz40, J.sz41, J.sz42, J.sz43, J.sz44, J.sz45, J.sz46, J.sz47, J.sz48, J.sz49, J.sz50, J.sz51, J.sz52, J.sz53, J.sz54, J.sz55, J.sz56, J.sz57, J.sz58, J.sz59, J.sz60, J.cast0, J.cast1, J.cast2, J.cast3, J.cast4, J.cast5, J.cast6, J.cast7, J.cast8, J.cast9, J.cast10, J.cast11, J.cast12, J.cast13, J.cast14, J.cast15, J.cast16, J.cast17, J.cast18, J.cast19, J.cast20, Int.reduceBEq, Int.reduceLT, Int.reduceNeg, Int.reduceAdd, Int.reduceSub, decide_true, decide_false, J.at0of1, J.at0of2, J.at1of2, J.at0of3, J.at1of3, J.at2of3, J.szl0, J.szl1, J.szl2, J.szl3, J.szl4, J.szl5, J.szl6, J.szl7, J.szl8, J.szl9, J.szl10, J.szl11, J.szl12, J.szl13, J.szl14, J.szl15, J.szl16, J.szl17, J.szl18, J.szl19, J.szl20, J.szl21, J.szl22, J.szl23, J.szl24, J.szl25, J.szl26, J.szl27, J.szl28, J.szl29, J.szl30, J.szl31, J.szl32, J.szl33, J.szl34, J.szl35, J.szl36, J.szl37, J.szl38, J.szl39, J.szl40, J.szl41, J.szl42, J.szl43, J.szl44, J.szl45, J.szl46, J.szl47, J.szl48, J.szl49, J.szl50, J.szl51, J.szl52, J.szl53, J.szl54, J.szl55, J.szl56, J.szl57, J.szl58, J.szl59, J.szl60, and_self, if_true, if_false, Bool.false_eq_true, Bool.and_true, Bool.true_and, Bool.not_true, Bool.not_false, List.cons_append, List.nil_append, Option.map_some, Nat.sub_self, Nat.zero_add, Nat.reduceAdd, Nat.reduceSub, Nat.reduceLT, List.set_cons_zero, List.set_cons_succ, Option.bind_some, decide_eq_true h0]
          refine take_sat d (by rw [List.length_map]; omega) (by rw [List.length_map]; omega) fun r st' hr d => ?_
          obtain ⟨s, hs, e⟩ := atI_map hr
          simp -implicitDefEqProofs -dsimp only [J.sat_ok, J.sat_exc, J.satS_ok, J.satS_exc, J.sat_bnd, J.satS_bndS, J.satS_thn, J.seqQ_nx, J.seqQ_ret, J.seqQ_brk, J.seqQ_ct, J.finQ_nx, J.finQ_ret, J.turnQ_nx, J.turnQ_ct, J.turnQ_brk, J.turnQ_ret, J.execs, J.exec, J.ev, J.evs, J.evO, J.tst, J.tsOr, J.tsAnd, J.evAnd, J.evOr, J.itD, J.bnd_okE, J.bndS_okE, J.thn_nxE, J.thn_retE, J.ofO_someE, J.snap_non, J.snap_bl, J.snap_int, J.snap_str, J.snap_tup, J.snap_lst, J.snap_kls, J.gx_call, J.gx_glo, J.gx_isa, J.asg_name, J.asg_tup, J.asgTs, J.wipeE, J.truth_bl, J.truth_int, J.truth_tup, J.truth_lst, J.bin_add, J.bin_sub, J.cmp_eqI, J.cmp_neI, J.cmp_ltI, J.cmp_gtI, J.cmp_leI, J.cmp_geI, J.cmp_isN, J.cmp_isnotN, J.ix_lst, J.ix_tup, J.len_lst, J.len_tup, J.int_int, J.abs_int, J.btD, J.isNon, J.tupleB, J.listB, J.items?, J.setMO, List.map, List.length_cons, List.length_nil, List.replicate, List.getElem?_cons_zero, List.getElem?_cons_succ, J.sz0, J.sz1, J.sz2, J.sz3, J.sz4, J.sz5, J.sz6, J.sz7, J.sz8, J.sz9, J.sz10, J.sz11, J.sz12, J.sz13, J.sz14, J.sz15, J.sz16, J.sz17, J.sz18, J.sz19, J.sz20, J.sz21, J.sz22, J.sz23, J.sz24, J.sz25, J.sz26, J.sz27, J.sz28, J.sz29, J.sz30, J.sz31, J.sz32, J.sz33, J.sz34, J.sz35, J.sz36, J.sz37, J.sz38, J.sz39, J.sz40, J.sz41, J.sz42, J.sz43, J.sz44, J.sz45, J.sz46, J.sz47, J.sz48, J.sz49, J.sz50, J.sz51, J.sz52, J.sz53, J.sz54, J.sz55, J.sz56, J.sz57, J.sz58, J.sz59, J.sz60, J.cast0, J.cast1, J.cast2, J.cast3, J.cast4, J.cast5, J.cast6, J.cast7, J.cast8, J.cast9, J.cast10, J.cast11, J.cast12, J.cast13, J.cast14, J.cast15, J.cast16, J.cast17, J.cast18, J.cast19, J.cast20, Int.reduceBEq, Int.reduceLT, Int.reduceNeg, Int.reduceAdd, Int.reduceSub, decide_true, decide_false, J.at0of1, J.at0of2, J.at1of2, J.at0of3, J.at1of3, J.at2of3, J.szl0, J.szl1, J.szl2, J.szl3, J.szl4, J.szl5, J.szl6, J.szl7, J.szl8, J.szl9, J.szl10, J.szl11, J.szl12, J.szl13, J.szl14, J.szl15, J.szl16, J.szl17, J.szl18, J.szl19, J.szl20, J.szl21, J.szl22, J.szl23, J.szl24, J.szl25, J.szl26, J.szl27, J.szl28, J.szl29, J.szl30, J.szl31, J.szl32, J.szl33, J.szl34, J.szl35, J.szl36, J.szl37, J.szl38, J.szl39, J.szl40, J.szl41, J.szl42, J.szl43, J.szl44, J.szl45, J.szl46, J.szl47, J.szl48, J.szl49, J.szl50, J.szl51, J.szl52, J.szl53, J.szl54, J.szl55, J.szl56, J.szl57, J.szl58, J.szl59, J.szl60, and_self, if_true, if_false, Bool.false_eq_true, Bool.and_true, Bool.true_and, Bool.not_true, Bool.not_false, List.cons_append, List.nil_append, Option.map_some, Nat.sub_self, Nat.zero_add, Nat.reduceAdd, Nat.reduceSub, Nat.reduceLT, List.set_cons_zero, List.set_cons_succ, Option.bind_some, e]
          exact ⟨d, _, rfl, .vr s, rfl, (hnm s).mp hs⟩
        · simp -implicitDefEqProofs -dsimp only [J.sat_ok, J.sat_exc, J.satS_ok, J.satS_exc, J.sat_bnd, J.satS_bndS, J.satS_thn, J.seqQ_nx, J.seqQ_ret, J.seqQ_brk, J.seqQ_ct, J.finQ_nx, J.finQ_ret, J.turnQ_nx, J.turnQ_ct, J.turnQ_brk, J.turnQ_ret, J.execs, J.exec, J.ev, J.evs, J.evO, J.tst, J.tsOr, J.tsAnd, J.evAnd, J.evOr, J.itD, J.bnd_okE, J.bndS_okE, J.thn_nxE, J.thn_retE, J.ofO_someE, J.snap_non, J.snap_bl, J.snap_int, J.snap_str, J.snap_tup, J.snap_lst, J.snap_kls, J.gx_call, J.gx_glo, J.gx_isa, J.asg_name, J.asg_tup, J.asgTs, J.wipeE, J.truth_bl, J.truth_int, J.truth_tup, J.truth_lst, J.bin_add, J.bin_sub, J.cmp_eqI, J.cmp_neI, J.cmp_ltI, J.cmp_gtI, J.cmp_leI, J.cmp_geI, J.cmp_isN, J.cmp_isnotN, J.ix_lst, J.ix_tup, J.len_lst, J.len_tup, J.int_int, J.abs_int, J.btD, J.isNon, J.tupleB, J.listB, J.items?, J.setMO, List.map, List.length_cons, List.length_nil, List.replicate, List.getElem?_cons_zero, List.getElem?_cons_succ, J.sz0, J.sz1, J.sz2, J.sz3, J.sz4, J.sz5, J.sz6, J.sz7, J.sz8, J.sz9, J.sz10, J.sz11, J.sz12, J.sz13, J.sz14, J.sz15, J.sz16, J.sz17, J.sz18, J.sz19, J.sz20, J.sz21, J.sz22, J.sz23, J.sz24, J.sz25, J.sz26, J.sz27, J.sz28, J.sz29, J.sz30, J.sz31, J.sz32, J.sz33, J.sz34, J.sz35, J.sz36, J.sz37, J.sz38, J.sz39, J.sz40, J.sz41, J.sz42, J.sz43, J.sz44, J.sz45, J.sz46, J.sz47, J.sz48, J.sz49, J.sz50, J.sz51, J.sz52, J.sz53, J.sz54, J.sz55, J.sz56, J.sz57, J.sz58, J.sz59, J.sz60, J.cast0, J.cast1, J.cast2, J.cast3, J.cast4, J.cast5, J.cast6, J.cast7, J.cast8, J.cast9, J.cast10, J.cast11, J.cast12, J.cast13, J.cast14, J.cast15, J.cast16, J.cast17, J.cast18, J.cast19, J.cast20, Int.reduceBEq, Int.reduceLT, Int.reduceNeg, Int.reduceAdd, Int.reduceSub, decide_true, decide_false, J.at0of1, J.at0of2, J.at1of2, J.at0of3, J.at1of3, J.at2of3, J.szl0, J.szl1, J.szl2, J.szl3, J.szl4, J.szl5, J.szl6, J.szl7, J.szl8, J.szl9, J.szl10, J.szl11, J.szl12, J.szl13, J.szl14, J.szl15, J.szl16, J.szl17, J.szl18, J.szl19, J.szl20, J.szl21, J.szl22, J.szl23, J.szl24, J.szl25, J.szl26, J.szl27, J.szl28, J.szl29, J.szl30, J.szl31, J.szl32, J.szl33, J.szl34, J.szl35, J.szl36, J.szl37, J.szl38, J.szl39, J.szl40, J.szl41, J.szl42, J.szl43, J.szl44, J.szl45, J.szl46, J.szl47, J.szl48, J.szl49, J.szl50, J.szl51, J.szl52, J.szl53, J.szl54, J.szl55, J.szl56, J.szl57, J.szl58, J.szl59, J.szl60, and_self, if_true, if_false, Bool.false_eq_true, Bool.and_true, Bool.true_and, Bool.not_true, Bool.not_false, List.cons_append, List.nil_append, Option.map_some, Nat.sub_self, Nat.zero_add, Nat.reduceAdd, Nat.reduceSub, Nat.reduceLT, List.set_cons_zero, List.set_cons_succ, Option.bind_some, decide_eq_false h0]
          refine take_sat d (by omega) (by omega) fun r st' hr d => ?_
          simp -implicitDefEqProofs -dsimp only [J.sat_ok, J.sat_exc, J.satS_ok, J.satS_exc, J.sat_bnd, J.satS_bndS, J.satS_thn, J.seqQ_nx, J.seqQ_ret, J.seqQ_brk, J.seqQ_ct, J.finQ_nx, J.finQ_ret, J.turnQ_nx, J.turnQ_ct, J.turnQ_brk, J.turnQ_ret, J.execs, J.exec, J.ev, J.evs, J.evO, J.tst, J.tsOr, J.tsAnd, J.evAnd, J.evOr, J.itD, J.bnd_okE, J.bndS_okE, J.thn_nxE, J.thn_retE, J.ofO_someE, J.snap_non, J.snap_bl, J.snap_int, J.snap_str, J.snap_tup, J.snap_lst, J.snap_kls, J.gx_call, J.gx_glo, J.gx_isa, J.asg_name, J.asg_tup, J.asgTs, J.wipeE, J.truth_bl, J.truth_int, J.truth_tup, J.truth_lst, J.bin_add, J.bin_sub, J.cmp_eqI, J.cmp_neI, J.cmp_ltI, J.cmp_gtI, J.cmp_leI, J.cmp_geI, J.cmp_isN, J.cmp_isnotN, J.ix_lst, J.ix_tup, J.len_lst, J.len_tup, J.int_int, J.abs_int, J.btD, J.isNon, J.tupleB, J.listB, J.items?, J.setMO, List.map, List.length_cons, List.length_nil, List.replicate, List.getElem?_cons_zero, List.getElem?_cons_succ, J.sz0, J.sz1, J.sz2, J.sz3, J.sz4, J.sz5, J.sz6, J.sz7, J.sz8, J.sz9, J.sz10, J.sz11, J.sz12, J.sz13, J.sz14, J.sz15, J.sz16, J.sz17, J.sz18, J.sz19, J.sz20, J.sz21, J.sz22, J.sz23, J.sz24, J.sz25, J.sz26, J.sz27, J.sz28, J.sz29, J.sz30, J.sz31, J.sz32, J.sz33, J.sz34, J.sz35, J.sz36, J.sz37, J.sz38, J.sz39, J.sz40, J.sz41, J.sz42, J.sz43, J.sz44, J.sz45, J.sz46, J.sz47, J.sz48, J.sz49, J.sz50, J.sz51, J.sz52, J.sz53, J.sz54, J.sz55, J.sz56, J.sz57, J.sz58, J.sz59, J.sz60, J.cast0, J.cast1, J.cast2, J.cast3, J.cast4, J.cast5, J.cast6, J.cast7, J.cast8, J.cast9, J.cast10, J.cast11, J.cast12, J.cast13, J.cast14, J.cast15, J.cast16, J.cast17, J.cast18, J.cast19, J.cast20, Int.reduceBEq, Int.reduceLT, Int.reduceNeg, Int.reduceAdd, Int.reduceSub, decide_true, decide_false, J.at0of1, J.at0of2, J.at1of2, J.at0of3, J.at1of3, J.at2of3, J.szl0, J.szl1, J.szl2, J.szl3, J.szl4, J.szl5, J.szl6, J.szl7, J.szl8, J.szl9, J.szl10, J.szl11, J.szl12, J.szl13, J.szl14, J.szl15, J.szl16, J.szl17, J.szl18, J.szl19, J.szl20, J.szl21, J.szl22, J.szl23, J.szl24, J.szl25, J.szl26, J.szl27, J.szl28, J.szl29, J.szl30, J.szl31, J.szl32, J.szl33, J.szl34, J.szl35, J.szl36, J.szl37, J.szl38, J.szl39, J.szl40, J.szl41, J.szl42, J.szl43, J.szl44, J.szl45, J.szl46, J.szl47, J.szl48, J.szl49, J.szl50, J.szl51, J.szl52, J.szl53, J.szl54, J.szl55, J.szl56, J.szl57, J.szl58, J.szl59, J.szl60, and_self, if_true, if_false, Bool.false_eq_true, Bool.and_true, Bool.true_and, Bool.not_true, Bool.not_false, List.cons_append, List.nil_append, Option.map_some, Nat.sub_self, Nat.zero_add, Nat.reduceAdd, Nat.reduceSub, Nat.reduceLT, List.set_cons_zero, List.set_cons_succ, Option.bind_some]
          exact ⟨d, _, rfl, .cnt r, rfl, by show r < 2; omega⟩
    · obtain ⟨head, rfl, g1, g2⟩ := map_of_all hp
      rw [List.length_map, rngD_len] at hl
      simp -implicitDefEqProofs -dsimp only [J.sat_ok, J.sat_exc, J.satS_ok, J.satS_exc, J.sat_bnd, J.satS_bndS, J.satS_thn, J.seqQ_nx, J.seqQ_ret, J.seqQ_brk, J.seqQ_ct, J.finQ_nx, J.finQ_ret, J.turnQ_nx, J.turnQ_ct, J.turnQ_brk, J.turnQ_ret, J.execs, J.exec, J.ev, J.evs, J.evO, J.tst, J.tsOr, J.tsAnd, J.evAnd, J.evOr, J.itD, J.bnd_okE, J.bndS_okE, J.thn_nxE, J.thn_retE, J.ofO_someE, J.snap_non, J.snap_bl, J.snap_int, J.snap_str, J.snap_tup, J.snap_lst, J.snap_kls, J.gx_call, J.gx_glo, J.gx_isa, J.asg_name, J.asg_tup, J.asgTs, J.wipeE, J.truth_bl, J.truth_int, J.truth_tup, J.truth_lst, J.bin_add, J.bin_sub, J.cmp_eqI, J.cmp_neI, J.cmp_ltI, J.cmp_gtI, J.cmp_leI, J.cmp_geI, J.cmp_isN, J.cmp_isnotN, J.ix_lst, J.ix_tup, J.len_lst, J.len_tup, J.int_int, J.abs_int, J.btD, J.isNon, J.tupleB, J.listB, J.items?, J.setMO, List.map, List.length_cons, List.length_nil, List.replicate, List.getElem?_cons_zero, List.getElem?_cons_succ, J.sz0, J.sz1, J.sz2, J.sz3, J.sz4, J.sz5, J.sz6, J.sz7, J.sz8, J.sz9, J.sz10, J.sz11, J.sz12, J.sz13, J.sz14, J.sz15, J.sz16, J.sz17, J.sz18, J.sz19, J.sz20, J.sz21, J.sz22, J.sz23, J.sz24, J.sz25, J.sz26, J.sz27, J.sz28, J.sz29, J.sz30, J.sz31, J.sz32, J.sz33, J.sz34, J.sz35, J.sz36, J.sz37, J.sz38, J.sz39, J.sz40, J.sz41, J.sz42, J.sz43, J.sz44, J.sz45, J.sz46, J.sz47, J.sz48, J.sz49, J.sz50, J.sz51, J.sz52, J.sz53, J.sz54, J.sz55, J.sz56, J.sz57, J.sz58, J.sz59, J.sz60, J.cast0, J.cast1, J.cast2, J.cast3, J.cast4, J.cast5, J.cast6, J.cast7, J.cast8, J.cast9, J.cast10, J.cast11, J.cast12, J.cast13, J.cast14, J.cast15, J.cast16, J.cast17, J.cast18, J.cast19, J.cast20, Int.reduceBEq, Int.reduceLT, Int.reduceNeg, Int.reduceAdd, Int.reduceSub, decide_true, decide_false, J.at0of1, J.at0of2, J.at1of2, J.at0of3, J.at1of3, J.at2of3, J.szl0, J.szl1, J.szl2, J.szl3, J.szl4, J.szl5, J.szl6, J.szl7, J.szl8, J.szl9, J.szl10, J.szl11, J.szl12, J.szl13, J.szl14, J.szl15, J.szl16, J.szl17, J.szl18, J.szl19, J.szl20, J.szl21, J.szl22, J.szl23, J.szl24, J.szl25, J.szl26, J.szl27, J.szl28, J.szl29, J.szl30, J.szl31, J.szl32, J.szl33, J.szl34, J.szl35, J.szl36, J.szl37, J.szl38, J.szl39, J.szl40, J.szl41, J.szl42, J.szl43, J.szl44, J.szl45, J.szl46, J.szl47, J.szl48, J.szl49, J.szl50, J.szl51, J.szl52, J.szl53, J.szl54, J.szl55, J.szl56, J.szl57, J.szl58, J.szl59, J.szl60, and_self, if_true, if_false, Bool.false_eq_true, Bool.and_true, Bool.true_and, Bool.not_true, Bool.not_false, List.cons_append, List.nil_append, Option.map_some, Nat.sub_self, Nat.zero_add, Nat.reduceAdd, Nat.reduceSub, Nat.reduceLT, List.set_cons_zero, List.set_cons_succ, Option.bind_some]
      exact q head body _ ⟨hb, h1, by omega, g1⟩ hs
end L_k00

namespace L_k00
open PySem J
theorem base_sat {k : Nat} {st0 st : Store} {l : Nat} {sch : Sch} {most m : Nat} {Q : D → Store → Prop} {E : Exn → Store → Prop} (h : Dw l st0 st) (hs : sch ≠ []) (hl : sch.length ≤ 100) (hw : ∀ p ∈ sch, p.2 ≤ 100) (hmo : most < 60) (hm : 0 < m) (hb : m < 1000) (q : ∀ bs st', bs.length ≤ most → (∀ x ∈ bs, FactP sch m x) → Asc bs → Dw l st0 st' → Q (.tup bs) st') : Sat (callF Pr (k+3) 25 [.ref l, schD sch, .int most, .int m] st) Q E := by
  rw [callF_at (show Pr.fns[25]? = some ⟨4, 5, b25⟩ from rfl)]
  refine sat_run rfl ?_
  simp -implicitDefEqProofs -dsimp only [J.sat_ok, J.sat_exc, J.satS_ok, J.satS_exc, J.sat_bnd, J.satS_bndS, J.satS_thn, J.seqQ_nx, J.seqQ_ret, J.seqQ_brk, J.seqQ_ct, J.finQ_nx, J.finQ_ret, J.turnQ_nx, J.turnQ_ct, J.turnQ_brk, J.turnQ_ret, J.execs, J.exec, J.ev, J.evs, J.evO, J.tst, J.tsOr, J.tsAnd, J.evAnd, J.evOr, J.itD, J.bnd_okE, J.bndS_okE, J.thn_nxE, J.thn_retE, J.ofO_someE, J.snap_non, J.snap_bl, J.snap_int, J.snap_str, J.snap_tup, J.snap_lst, J.snap_kls, J.gx_call, J.gx_glo, J.gx_isa, J.asg_name, J.asg_tup, J.asgTs, J.wipeE, J.truth_bl, J.truth_int, J.truth_tup, J.truth_lst, J.bin_add, J.bin_sub, J.cmp_eqI, J.cmp_neI, J.cmp_ltI, J.cmp_gtI, J.cmp_leI, J.cmp_geI, J.cmp_isN, J.cmp_isnotN, J.ix_lst, J.ix_tup, J.len_lst, J.len_tup, J.int_int, J.abs_int, J.btD, J.isNon, J.tupleB, J.listB, J.items?, J.setMO, List.map, List.length_cons, List.length_nil, List.replicate, List.getElem?_cons_zero, List.getElem?_cons_succ, J.sz0, J.sz1, J.sz2, J.sz3, J.sz4, J.sz5, J.sz6, J.sz7, J.sz8, J.sz9, J.sz10, J.sz11, J.sz12, J.sz13, J.sz14, J.sz15, J.sz16, J.sz17, J.sz18, J.sz19, J.sz20, J.sz21, J.sz22, J.sz23, J.sz24, J.sz25, J.sz26, J.sz27, J.sz28, J.sz29, J.sz30, J.sz31, J.sz32, J.sz33, J.sz34, J.sz35, J.sz36, J.sz37, J.sz38, J.sz39, J.sz40, J.sz41, J.sz42, J.sz43, J.sz44, J.sz45, J.sz46, J.sz47, J.sz48, J.sz49, J.sz50, J.sz51, J.sz52, J.sz53, J.sz54, J.sz55, J.sz56, J.sz57, J.sz58, J.sz59, J.sz60, J.cast0, J.cast1, J.cast2, J.cast3, J.cast4, J.cast5, J.cast6, J.cast7, J.cast8, J.cast9, J.cast10, J.cast11, J.cast12, J.cast13, J.cast14, J.cast15, J.cast16, J.cast17, J.cast18, J.cast19, J.cast20, Int.reduceBEq, Int.reduceLT, Int.reduceNeg, Int.reduceAdd, Int.reduceSub, decide_true, decide_false, J.at0of1, J.at0of2, J.at1of2, J.at0of3, J.at1of3, J.at2of3, J.szl0, J.szl1, J.szl2, J.szl3, J.szl4, J.szl5, J.szl6, J.szl7, J.szl8, J.szl9, J.szl10, J.szl11, J.szl12, J.szl13, J.szl14, J.szl15, J.szl16, J.szl17, J.szl18, J.szl19, J.szl20, J.szl21, J.szl22, J.szl23, J.szl24, J.szl25, J.szl26, J.szl27, J.szl28, J.szl29, J.szl30, J.szl31, J.szl32, J.szl33, J.szl34, J.szl35, J.szl36, J.szl37, J.szl38, J.szl39, J.szl40, J.szl41, J.szl42, J.szl43, J.szl44, J.szl45, J.szl46, J.szl47, J.szl48, J.szl49, J.szl50, J.szl51, J.szl52, J.szl53, J.szl54, J.szl55, J.szl56, J.szl57, J.szl58, J.szl59, J.szl60, and_self, if_true, if_false, Bool.false_eq_true, Bool.and_true, Bool.true_and, Bool.not_true, Bool.not_false, List.cons_append, List.nil_append, Option.map_some, Nat.sub_self, Nat.zero_add, Nat.reduceAdd, Nat.reduceSub, Nat.reduceLT, List.set_cons_zero, List.set_cons_succ, Option.bind_some, b25]
  refine take_sat h (by omega) (by omega) fun r st' hr d => ?_
  simp -implicitDefEqProofs -dsimp only [J.sat_ok, J.sat_exc, J.satS_ok, J.satS_exc, J.sat_bnd, J.satS_bndS, J.satS_thn, J.seqQ_nx, J.seqQ_ret, J.seqQ_brk, J.seqQ_ct, J.finQ_nx, J.finQ_ret, J.turnQ_nx, J.turnQ_ct, J.turnQ_brk, J.turnQ_ret, J.execs, J.exec, J.ev, J.evs, J.evO, J.tst, J.tsOr, J.tsAnd, J.evAnd, J.evOr, J.itD, J.bnd_okE, J.bndS_okE, J.thn_nxE, J.thn_retE, J.ofO_someE, J.snap_non, J.snap_bl, J.snap_int, J.snap_str, J.snap_tup, J.snap_lst, J.snap_kls, J.gx_call, J.gx_glo, J.gx_isa, J.asg_name, J.asg_tup, J.asgTs, J.wipeE, J.truth_bl, J.truth_int, J.truth_tup, J.truth_lst, J.bin_add, J.bin_sub, J.cmp_eqI, J.cmp_neI, J.cmp_ltI, J.cmp_gtI, J.cmp_leI, J.cmp_geI, J.cmp_isN, J.cmp_isnotN, J.ix_lst, J.ix_tup, J.len_lst, J.len_tup, J.int_int, J.abs_int, J.btD, J.isNon, J.tupleB, J.listB, J.items?, J.setMO, List.map, List.length_cons, List.length_nil, List.replicate, List.getElem?_cons_zero, List.getElem?_cons_succ, J.sz0, J.sz1, J.sz2, J.sz3, J.sz4, J.sz5, J.sz6, J.sz7, J.sz8, J.sz9, J.sz10, J.sz11, J.sz12, J.sz13, J.sz14, J.sz15, J.sz16, J.sz17, J.sz18, J.sz19, J.sz20, J.sz21, J.sz22, J.sz23, J.sz24, J.sz25, J.sz26, J.sz27, J.sz28, J.sz29, J.sz30, J.sz31, J.sz32, J.sz33, J.sz34, J.sz35, J.sz36, J.sz37, J.sz38, J.sz39, J.sz40, J.sz41, J.sz42, J.sz43, J.sz44, J.sz45, J.sz46, J.sz47, J.sz48, J.sz49, J.sz50, J.sz51, J.sz52, J.sz53, J.sz54, J.sz55, J.sz56, J.sz57, J.sz58, J.sz59, J.sz60, J.cast0, J.cast1, J.cast2, J.cast3, J.cast4, J.cast5, J.cast6, J.cast7, J.cast8, J.cast9, J.cast10, J.cast11, J.cast12, J.cast13, J.cast14, J.cast15, J.cast16, J.cast17, J.cast18, J.cast19, J.cast20, Int.reduceBEq, Int.reduceLT, Int.reduceNeg, Int.reduceAdd, Int.reduceSub, decide_true, decide_false, J.at0of1, J.at0of2, J.at1of2, J.at0of3, J.at1of3, J.at2of3, J.szl0, J.szl1, J.szl2, J.szl3, J.szl4, J.szl5, J.szl6, J.szl7, J.szl8, J.szl9, J.szl10, J.szl11, J.szl12, J.szl13, J.szl14, J.szl15, J.szl16, J.szl17, J.szl18, J.szl19, J.szl20, J.szl21, J.szl22, J.szl23, J.szl24, J.szl25, J.szl26, J.szl27, J.szl28, J.szl29, J.szl30, J.szl31, J.szl32, J.szl33, J.szl34, J.szl35, J.szl36, J.szl37, J.szl38, J.szl39, J.szl40, J.szl41, J.szl42, J.szl43, J.szl44, J.szl45, J.szl46, J.szl47, J.szl48, J.szl49, J.szl50, J.szl51, J.szl52, J.szl53, J.szl54, J.szl55, J.szl56, J.szl57, J.szl58, J.szl59, J.szl60, and_self, if_true, if_false, Bool.false_eq_true, Bool.and_true, Bool.true_and, Bool.not_true, Bool.not_false, List.cons_append, List.nil_append, Option.map_some, Nat.sub_self, Nat.zero_add, Nat.reduceAdd, Nat.reduceSub, Nat.reduceLT, List.set_cons_zero, List.set_cons_succ, Option.bind_some, range_ok (j := (r : Int)) (by omega) (by omega)]
  refine sat_map (fun s => Dw l st0 s) (fun y => FactP sch m y) (by rw [rngD_len]; unfold SZ; omega) d (fun x s hx hs' => ?_) fun ys s hs' hp hl' => ?_
  · simp -implicitDefEqProofs -dsimp only [J.sat_ok, J.sat_exc, J.satS_ok, J.satS_exc, J.sat_bnd, J.satS_bndS, J.satS_thn, J.seqQ_nx, J.seqQ_ret, J.seqQ_brk, J.seqQ_ct, J.finQ_nx, J.finQ_ret, J.turnQ_nx, J.turnQ_ct, J.turnQ_brk, J.turnQ_ret, J.execs, J.exec, J.ev, J.evs, J.evO, J.tst, J.tsOr, J.tsAnd, J.evAnd, J.evOr, J.itD, J.bnd_okE, J.bndS_okE, J.thn_nxE, J.thn_retE, J.ofO_someE, J.snap_non, J.snap_bl, J.snap_int, J.snap_str, J.snap_tup, J.snap_lst, J.snap_kls, J.gx_call, J.gx_glo, J.gx_isa, J.asg_name, J.asg_tup, J.asgTs, J.wipeE, J.truth_bl, J.truth_int, J.truth_tup, J.truth_lst, J.bin_add, J.bin_sub, J.cmp_eqI, J.cmp_neI, J.cmp_ltI, J.cmp_gtI, J.cmp_leI, J.cmp_geI, J.cmp_isN, J.cmp_isnotN, J.ix_lst, J.ix_tup, J.len_lst, J.len_tup, J.int_int, J.abs_int, J.btD, J.isNon, J.tupleB, J.listB, J.items?, J.setMO, List.map, List.length_cons, List.length_nil, List.replicate, List.getElem?_cons_zero, List.getElem?_cons_succ, J.sz0, J.sz1, J.sz2, J.sz3, J.sz4, J.sz5, J.sz6, J.sz7, J.sz8, J.sz9, J.sz10, J.sz11, J.sz12, J.sz13, J.sz14, J.sz15, J.sz16, J.sz17, J.sz18, J.sz19, J.sz20, J.sz21, J.sz22, J.sz23, J.sz24, J.sz25, J.sz26, J.sz27, J.sz28, J.sz29, J.sz30, J.sz31, J.sz32, J.sz33, J.sz34, J.sz35, J.sz36, J.sz37, J.sz38, J.sz39, J.sz40, J.sz41, J.sz42, J.sz43, J.sz44, J.sz45, J.sz46, J.sz47, J.sz48, J.sz49, J.sz50, J.sz51, J.sz52, J.sz53, J.sz54, J.sz55, J.sz56, J.sz57, J.sz58, J.sz59, J.sz60, J.cast0, J.cast1, J.cast2, J.cast3, J.cast4, J.cast5, J.cast6, J.cast7, J.cast8, J.cast9, J.cast10, J.cast11, J.cast12, J.cast13, J.cast14, J.cast15, J.cast16, J.cast17, J.cast18, J.cast19, J.cast20, Int.reduceBEq, Int.reduceLT, Int.reduceNeg, Int.reduceAdd, Int.reduceSub, decide_true, decide_false, J.at0of1, J.at0of2, J.at1of2, J.at0of3, J.at1of3, J.at2of3, J.szl0, J.szl1, J.szl2, J.szl3, J.szl4, J.szl5, J.szl6, J.szl7, J.szl8, J.szl9, J.szl10, J.szl11, J.szl12, J.szl13, J.szl14, J.szl15, J.szl16, J.szl17, J.szl18, J.szl19, J.szl20, J.szl21, J.szl22, J.szl23, J.szl24, J.szl25, J.szl26, J.szl27, J.szl28, J.szl29, J.szl30, J.szl31, J.szl32, J.szl33, J.szl34, J.szl35, J.szl36, J.szl37, J.szl38, J.szl39, J.szl40, J.szl41, J.szl42, J.szl43, J.szl44, J.szl45, J.szl46, J.szl47, J.szl48, J.szl49, J.szl50, J.szl51, J.szl52, J.szl53, J.szl54, J.szl55, J.szl56, J.szl57, J.szl58, J.szl59, J.szl60, and_self, if_true, if_false, Bool.false_eq_true, Bool.and_true, Bool.true_and, Bool.not_true, Bool.not_false, List.cons_append, List.nil_append, Option.map_some, Nat.sub_self, Nat.zero_add, Nat.reduceAdd, Nat.reduceSub, Nat.reduceLT, List.set_cons_zero, List.set_cons_succ, Option.bind_some]
    exact fact_sat hs' hs hl hw hm hb fun x st' hx d => by
      simp -implicitDefEqProofs -dsimp only [J.sat_ok, J.sat_exc, J.satS_ok, J.satS_exc, J.sat_bnd, J.satS_bndS, J.satS_thn, J.seqQ_nx, J.seqQ_ret, J.seqQ_brk, J.seqQ_ct, J.finQ_nx, J.finQ_ret, J.turnQ_nx, J.turnQ_ct, J.turnQ_brk, J.turnQ_ret, J.execs, J.exec, J.ev, J.evs, J.evO, J.tst, J.tsOr, J.tsAnd, J.evAnd, J.evOr, J.itD, J.bnd_okE, J.bndS_okE, J.thn_nxE, J.thn_retE, J.ofO_someE, J.snap_non, J.snap_bl, J.snap_int, J.snap_str, J.snap_tup, J.snap_lst, J.snap_kls, J.gx_call, J.gx_glo, J.gx_isa, J.asg_name, J.asg_tup, J.asgTs, J.wipeE, J.truth_bl, J.truth_int, J.truth_tup, J.truth_lst, J.bin_add, J.bin_sub, J.cmp_eqI, J.cmp_neI, J.cmp_ltI, J.cmp_gtI, J.cmp_leI, J.cmp_geI, J.cmp_isN, J.cmp_isnotN, J.ix_lst, J.ix_tup, J.len_lst, J.len_tup, J.int_int, J.abs_int, J.btD, J.isNon, J.tupleB, J.listB, J.items?, J.setMO, List.map, List.length_cons, List.length_nil, List.replicate, List.getElem?_cons_zero, List.getElem?_cons_succ, J.sz0, J.sz1, J.sz2, J.sz3, J.sz4, J.sz5, J.sz6, J.sz7, J.sz8, J.sz9, J.sz10, J.sz11, J.sz12, J.sz13, J.sz14, J.sz15, J.sz16, J.sz17, J.sz18, J.sz19, J.sz20, J.sz21, J.sz22, J.sz23, J.sz24, J.sz25, J.sz26, J.sz27, J.sz28, J.sz29, J.sz30, J.sz31, J.sz32, J.sz33, J.sz34, J.sz35, J.sz36, J.sz37, J.sz38, J.sz39, J.sz40, J.sz41, J.sz42, J.sz43, J.sz44, J.sz45, J.sz46, J.sz47, J.sz48, J.sz49, J.sz50, J.sz51, J.sz52, J.sz53, J.sz54, J.sz55, J.sz56, J.sz57, J.sz58, J.sz59, J.sz60, J.cast0, J.cast1, J.cast2, J.cast3, J.cast4, J.cast5, J.cast6, J.cast7, J.cast8, J.cast9, J.cast10, J.cast11, J.cast12, J.cast13, J.cast14, J.cast15, J.cast16, J.cast17, J.cast18, J.cast19, J.cast20, Int.reduceBEq, Int.reduceLT, Int.reduceNeg, Int.reduceAdd, Int.reduceSub, decide_true, decide_false, J.at0of1, J.at0of2, J.at1of2, J.at0of3, J.at1of3, J.at2of3, J.szl0, J.szl1, J.szl2, J.szl3, J.szl4, J.szl5, J.szl6, J.szl7, J.szl8, J.szl9, J.szl10, J.szl11, J.szl12, J.szl13, J.szl14, J.szl15, J.szl16, J.szl17, J.szl18, J.szl19, J.szl20, J.szl21, J.szl22, J.szl23, J.szl24, J.szl25, J.szl26, J.szl27, J.szl28, J.szl29, J.szl30, J.szl31, J.szl32, J.szl33, J.szl34, J.szl35, J.szl36, J.szl37, J.szl38, J.szl39, J.szl40, J.szl41, J.szl42, J.szl43, J.szl44, J.szl45, J.szl46, J.szl47, J.szl48, J.szl49, J.szl50, J.szl51, J.szl52, J.szl53, J.szl54, J.szl55, J.szl56, J.szl57, J.szl58, J.szl59, J.szl60, and_self, if_true, if_false, Bool.false_eq_true, Bool.and_true, Bool.true_and, Bool.not_true, Bool.not_false, List.cons_append, List.nil_append, Option.map_some, Nat.sub_self, Nat.zero_add, Nat.reduceAdd, Nat.reduceSub, Nat.reduceLT, List.set_cons_zero, List.set_cons_succ, Option.bind_some]
      exact ⟨d, _, rfl, hx⟩
  · rw [rngD_len] at hl'
    have hc := cmpb_facts hp
    simp -implicitDefEqProofs -dsimp only [J.sat_ok, J.sat_exc, J.satS_ok, J.satS_exc, J.sat_bnd, J.satS_bndS, J.satS_thn, J.seqQ_nx, J.seqQ_ret, J.seqQ_brk, J.seqQ_ct, J.finQ_nx, J.finQ_ret, J.turnQ_nx, J.turnQ_ct, J.turnQ_brk, J.turnQ_ret, J.execs, J.exec, J.ev, J.evs, J.evO, J.tst, J.tsOr, J.tsAnd, J.evAnd, J.evOr, J.itD, J.bnd_okE, J.bndS_okE, J.thn_nxE, J.thn_retE, J.ofO_someE, J.snap_non, J.snap_bl, J.snap_int, J.snap_str, J.snap_tup, J.snap_lst, J.snap_kls, J.gx_call, J.gx_glo, J.gx_isa, J.asg_name, J.asg_tup, J.asgTs, J.wipeE, J.truth_bl, J.truth_int, J.truth_tup, J.truth_lst, J.bin_add, J.bin_sub, J.cmp_eqI, J.cmp_neI, J.cmp_ltI, J.cmp_gtI, J.cmp_leI, J.cmp_geI, J.cmp_isN, J.cmp_isnotN, J.ix_lst, J.ix_tup, J.len_lst, J.len_tup, J.int_int, J.abs_int, J.btD, J.isNon, J.tupleB, J.listB, J.items?, J.setMO, List.map, List.length_cons, List.length_nil, List.replicate, List.getElem?_cons_zero, List.getElem?_cons_succ, J.sz0, J.sz1, J.sz2, J.sz3, J.sz4, J.sz5, J.sz6, J.sz7, J.sz8, J.sz9, J.sz10, J.sz11, J.sz12, J.sz13, J.sz14, J.sz15, J.sz16, J.sz17, J.sz18, J.sz19, J.sz20, J.sz21, J.sz22, J.sz23, J.sz24, J.sz25, J.sz26, J.sz27, J.sz28, J.sz29, J.sz30, J.sz31, J.sz32, J.sz33, J.sz34, J.sz35, J.sz36, J.sz37, J.sz38, J.sz39, J.sz40, J.sz41, J.sz42, J.sz43, J.sz44, J.sz45, J.sz46, J.sz47, J.sz48, J.sz49, J.sz50, J.sz51, J.sz52, J.sz53, J.sz54, J.sz55, J.sz56, J.sz57, J.sz58, J.sz59, J.sz60, J.cast0, J.cast1, J.cast2, J.cast3, J.cast4, J.cast5, J.cast6, J.cast7, J.cast8, J.cast9, J.cast10, J.cast11, J.cast12, J.cast13, J.cast14, J.cast15, J.cast16, J.cast17, J.cast18, J.cast19, J.cast20, Int.reduceBEq, Int.reduceLT, Int.reduceNeg, Int.reduceAdd, Int.reduceSub, decide_true, decide_false, J.at0of1, J.at0of2, J.at1of2, J.at0of3, J.at1of3, J.at2of3, J.szl0, J.szl1, J.szl2, J.szl3, J.szl4, J.szl5, J.szl6, J.szl7, J.szl8, J.szl9, J.szl10, J.szl11, J.szl12, J.szl13, J.szl14, J.szl15, J.szl16, J.szl17, J.szl18, J.szl19, J.szl20, J.szl21, J.szl22, J.szl23, J.szl24, J.szl25, J.szl26, J.szl27, J.szl28, J.szl29, J.szl30, J.szl31, J.szl32, J.szl33, J.szl34, J.szl35, J.szl36, J.szl37, J.szl38, J.szl39, J.szl40, J.szl41, J.szl42, J.szl43, J.szl44, J.szl45, J.szl46, J.szl47, J.szl48, J.szl49, J.szl50, J.szl51, J.szl52, J.szl53, J.szl54, J.szl55, J.szl56, J.szl57, J.szl58, J.szl59, J.szl60, and_self, if_true, if_false, Bool.false_eq_true, Bool.and_true, Bool.true_and, Bool.not_true, Bool.not_false, List.cons_append, List.nil_append, Option.map_some, Nat.sub_self, Nat.zero_add, Nat.reduceAdd, Nat.reduceSub, Nat.reduceLT, List.set_cons_zero, List.set_cons_succ, Option.bind_some, srt_tups hc (fun x hx => (hp x hx).key) (fun x hx => (hp x hx).some) (by omega)]
    exact q _ _ (Nat.le_trans (srtS_len _) (by omega)) (fun x hx => hp x ((srtS_mem hc).mp hx)) (srtS_asc hc) hs'
end L_k00

namespace L_k00
open PySem J
theorem terms_ok {k : Nat} {body : List Atom} (hb : body.length ≤ 1000) (hw : ∀ a ∈ body, a.ts.length ≤ 100) : callP Pr (k+1) 14 [.tup (body.map encA)] = .ok (.lst ((body.flatMap (·.ts)).map encT)) := by
  refine callP_of (show Pr.fns[14]? = some ⟨1, 4, b14⟩ from rfl) rfl ?_
  simp -implicitDefEqProofs -dsimp only [J.exPs, J.exP, J.evP, J.evPs, J.evPO, J.tstP, J.tsPOr, J.tsPAnd, J.evPAnd, J.evPOr, J.itP, J.rb_ok, J.rb_exc, J.bp_ok, J.bp_exc, J.th_nx, J.th_ret, J.th_brk, J.th_ct, J.th_exc, J.of_some, J.nr_non, J.nr_bl, J.nr_int, J.nr_str, J.nr_tup, J.nr_lst, J.nr_dic, J.nr_kls, J.nrs_nil, J.nrs_cons, J.gp_call, J.gp_glo, J.gp_isa, J.asg_name, J.asg_tup, J.asgTs, J.wipeE, J.truth_bl, J.truth_int, J.truth_tup, J.truth_lst, J.bin_add, J.bin_sub, J.cmp_eqI, J.cmp_neI, J.cmp_ltI, J.cmp_gtI, J.cmp_leI, J.cmp_geI, J.cmp_isN, J.cmp_isnotN, J.ix_lst, J.ix_tup, J.len_lst, J.len_tup, J.int_int, J.abs_int, J.btD, J.isNon, J.tupleB, J.listB, J.isiD, J.isTy, J.items?, List.map, List.length_cons, List.length_nil, List.replicate, List.getElem?_cons_zero, List.getElem?_cons_succ, J.sz0, J.sz1, J.sz2, J.sz3, J.sz4, J.sz5, J.sz6, J.sz7, J.sz8, J.sz9, J.sz10, J.sz11, J.sz12, J.sz13, J.sz14, J.sz15, J.sz16, J.sz17, J.sz18, J.sz19, J.sz20, J.sz21, J.sz22, J.sz23, J.sz24, J.sz25, J.sz26, J.sz27, J.sz28, J.sz29, J.sz30, J.sz31, J.sz32, J.sz33, J.sz34, J.sz35, J.sz36, J.sz37, J.sz38, J.sz39, J.sz40, J.sz41, J.sz42, J.sz43, J.sz44, J.sz45, J.sz46, J.sz47, J.sz48, J.sz49, J.sz50, J.sz51, J.sz52, J.sz53, J.sz54, J.sz55, J.sz56, J.sz57, J.sz58, J.sz59, J.sz60, J.cast0, J.cast1, J.cast2, J.cast3, J.cast4, J.cast5, J.cast6, J.cast7, J.cast8, J.cast9, J.cast10, J.cast11, J.cast12, J.cast13, J.cast14, J.cast15, J.cast16, J.cast17, J.cast18, J.cast19, J.cast20, Int.reduceBEq, Int.reduceLT, Int.reduceNeg, Int.reduceAdd, Int.reduceSub, decide_true, decide_false, J.at0of1, J.at0of2, J.at1of2, J.at0of3, J.at1of3, J.at2of3, J.szl0, J.szl1, J.szl2, J.szl3, J.szl4, J.szl5, J.szl6, J.szl7, J.szl8, J.szl9, J.szl10, J.szl11, J.szl12, J.szl13, J.szl14, J.szl15, J.szl16, J.szl17, J.szl18, J.szl19, J.szl20, J.szl21, J.szl22, J.szl23, J.szl24, J.szl25, J.szl26, J.szl27, J.szl28, J.szl29, J.szl30, J.szl31, J.szl32, J.szl33, J.szl34, J.szl35, J.szl36, J.szl37, J.szl38, J.szl39, J.szl40, J.szl41, J.szl42, J.szl43, J.szl44, J.szl45, J.szl46, J.szl47, J.szl48, J.szl49, J.szl50, J.szl51, J.szl52, J.szl53, J.szl54, J.szl55, J.szl56, J.szl57, J.szl58, J.szl59, J.szl60, and_self, if_true, if_false, Bool.false_eq_true, Bool.and_true, Bool.true_and, Bool.not_true, Bool.not_false, List.cons_append, List.nil_append, Option.map_some, Nat.sub_self, Nat.zero_add, Nat.reduceAdd, Nat.reduceSub, Nat.reduceLT, List.set_cons_zero, List.set_cons_succ, Option.bind_some, J.psat_ok, J.psat_exc, J.psatS_ok, J.psatS_exc, J.psat_bnd, J.psatS_bndP, J.psatS_thP, J.seqP_nx, J.seqP_ret, J.seqP_brk, J.seqP_ct, J.finP_nx, J.finP_ret, J.turnP_nx, J.turnP_ct, J.turnP_brk, J.turnP_ret, b14]
  refine psat_lc2 (fun a => a.ts.map encT) 100 (by unfold SZ; omega) (fun a ha => by rw [List.length_map]; exact hw a ha) (fun a ha acc hacc => ?_) ?_
  · simp -implicitDefEqProofs -dsimp only [J.exPs, J.exP, J.evP, J.evPs, J.evPO, J.tstP, J.tsPOr, J.tsPAnd, J.evPAnd, J.evPOr, J.itP, J.rb_ok, J.rb_exc, J.bp_ok, J.bp_exc, J.th_nx, J.th_ret, J.th_brk, J.th_ct, J.th_exc, J.of_some, J.nr_non, J.nr_bl, J.nr_int, J.nr_str, J.nr_tup, J.nr_lst, J.nr_dic, J.nr_kls, J.nrs_nil, J.nrs_cons, J.gp_call, J.gp_glo, J.gp_isa, J.asg_name, J.asg_tup, J.asgTs, J.wipeE, J.truth_bl, J.truth_int, J.truth_tup, J.truth_lst, J.bin_add, J.bin_sub, J.cmp_eqI, J.cmp_neI, J.cmp_ltI, J.cmp_gtI, J.cmp_leI, J.cmp_geI, J.cmp_isN, J.cmp_isnotN, J.ix_lst, J.ix_tup, J.len_lst, J.len_tup, J.int_int, J.abs_int, J.btD, J.isNon, J.tupleB, J.listB, J.isiD, J.isTy, J.items?, List.map, List.length_cons, List.length_nil, List.replicate, List.getElem?_cons_zero, List.getElem?_cons_succ, J.sz0, J.sz1, J.sz2, J.sz3, J.sz4, J.sz5, J.sz6, J.sz7, J.sz8, J.sz9, J.sz10, J.sz11, J.sz12, J.sz13, J.sz14, J.sz15, J.sz16, J.sz17, J.sz18, J.sz19, J.sz20, J.sz21, J.sz22, J.sz23, J.sz24, J.sz25, J.sz26, J.sz27, J.sz28, J.sz29, J.sz30, J.sz31, J.sz32, J.sz33, J.sz34, J.sz35, J.sz36, J.sz37, J.sz38, J.sz39, J.sz40, J.sz41, J.sz42, J.sz43, J.sz44, J.sz45, J.sz46, J.sz47, J.sz48, J.sz49, J.sz50, J.sz51, J.sz52, J.sz53, J.sz54, J.sz55, J.sz56, J.sz57, J.sz58, J.sz59, J.sz60, J.cast0, J.cast1, J.cast2, J.cast3, J.cast4, J.cast5, J.cast6, J.cast7, J.cast8, J.cast9, J.cast10, J.cast11, J.cast12, J.cast13, J.cast14, J.cast15, J.cast16, J.cast17, J.cast18, J.cast19, J.cast20, Int.reduceBEq, Int.reduceLT, Int.reduceNeg, Int.reduceAdd, Int.reduceSub, decide_true, decide_false, J.at0of1, J.at0of2, J.at1of2, J.at0of3, J.at1of3, J.at2of3, J.szl0, J.szl1, J.szl2, J.szl3, J.szl4, J.szl5, J.szl6, J.szl7, J.szl8, J.szl9, J.szl10, J.szl11, J.szl12, J.szl13, J.szl14, J.szl15, J.szl16, J.szl17, J.szl18, J.szl19, J.szl20, J.szl21, J.szl22, J.szl23, J.szl24, J.szl25, J.szl26, J.szl27, J.szl28, J.szl29, J.szl30, J.szl31, J.szl32, J.szl33, J.szl34, J.szl35, J.szl36, J.szl37, J.szl38, J.szl39, J.szl40, J.szl41, J.szl42, J.szl43, J.szl44, J.szl45, J.szl46, J.szl47, J.szl48, J.szl49, J.szl50, J.szl51, J.szl52, J.szl53, J.szl54, J.szl55, J.szl56, J.szl57, J.szl58, J.szl59, J.szl60, and_self, if_true, if_false, Bool.false_eq_true, Bool.and_true, Bool.true_and, Bool.not_true, Bool.not_false, List.cons_append, List.nil_append, Option.map_some, Nat.sub_self, Nat.zero_add, Nat.reduceAdd, Nat.reduceSub, Nat.reduceLT, List.set_cons_zero, List.set_cons_succ, Option.bind_some, J.psat_ok, J.psat_exc, J.psatS_ok, J.psatS_exc, J.psat_bnd, J.psatS_bndP, J.psatS_thP, J.seqP_nx, J.seqP_ret, J.seqP_brk, J.seqP_ct, J.finP_nx, J.finP_ret, J.turnP_nx, J.turnP_ct, J.turnP_brk, J.turnP_ret, encA]
    refine psat_lcI (fun t => some (encT t)) (by have := hw a ha; omega) (fun t ht => ?_) ?_
    · simp -implicitDefEqProofs -dsimp only [J.exPs, J.exP, J.evP, J.evPs, J.evPO, J.tstP, J.tsPOr, J.tsPAnd, J.evPAnd, J.evPOr, J.itP, J.rb_ok, J.rb_exc, J.bp_ok, J.bp_exc, J.th_nx, J.th_ret, J.th_brk, J.th_ct, J.th_exc, J.of_some, J.nr_non, J.nr_bl, J.nr_int, J.nr_str, J.nr_tup, J.nr_lst, J.nr_dic, J.nr_kls, J.nrs_nil, J.nrs_cons, J.gp_call, J.gp_glo, J.gp_isa, J.asg_name, J.asg_tup, J.asgTs, J.wipeE, J.truth_bl, J.truth_int, J.truth_tup, J.truth_lst, J.bin_add, J.bin_sub, J.cmp_eqI, J.cmp_neI, J.cmp_ltI, J.cmp_gtI, J.cmp_leI, J.cmp_geI, J.cmp_isN, J.cmp_isnotN, J.ix_lst, J.ix_tup, J.len_lst, J.len_tup, J.int_int, J.abs_int, J.btD, J.isNon, J.tupleB, J.listB, J.isiD, J.isTy, J.items?, List.map, List.length_cons, List.length_nil, List.replicate, List.getElem?_cons_zero, List.getElem?_cons_succ, J.sz0, J.sz1, J.sz2, J.sz3, J.sz4, J.sz5, J.sz6, J.sz7, J.sz8, J.sz9, J.sz10, J.sz11, J.sz12, J.sz13, J.sz14, J.sz15, J.sz16, J.sz17, J.sz18, J.sz19, J.sz20, J.sz21, J.sz22, J.sz23, J.sz24, J.sz25, J.sz26, J.sz27, J.sz28, J.sz29, J.sz30, J.sz31, J.sz32, J.sz33, J.sz34, J.sz35, J.sz36, J.sz37, J.sz38, J.sz39, J.sz40, J.sz41, J.sz42, J.sz43, J.sz44, J.sz45, J.sz46, J.sz47, J.sz48, J.sz49, J.sz50, J.sz51, J.sz52, J.sz53, J.sz54, J.sz55, J.sz56, J.sz57, J.sz58, J.sz59, J.sz60, J.cast0, J.cast1, J.cast2, J.cast3, J.cast4, J.cast5, J.cast6, J.cast7, J.cast8, J.cast9, J.cast10, J.cast11, J.cast12, J.cast13, J.cast14, J.cast15, J.cast16, J.cast17, J.cast18, J.cast19, J.cast20, Int.reduceBEq, Int.reduceLT, Int.reduceNeg, Int.reduceAdd, Int.reduceSub, decide_true, decide_false, J.at0of1, J.at0of2, J.at1of2, J.at0of3, J.at1of3, J.at2of3, J.szl0, J.szl1, J.szl2, J.szl3, J.szl4, J.szl5, J.szl6, J.szl7, J.szl8, J.szl9, J.szl10, J.szl11, J.szl12, J.szl13, J.szl14, J.szl15, J.szl16, J.szl17, J.szl18, J.szl19, J.szl20, J.szl21, J.szl22, J.szl23, J.szl24, J.szl25, J.szl26, J.szl27, J.szl28, J.szl29, J.szl30, J.szl31, J.szl32, J.szl33, J.szl34, J.szl35, J.szl36, J.szl37, J.szl38, J.szl39, J.szl40, J.szl41, J.szl42, J.szl43, J.szl44, J.szl45, J.szl46, J.szl47, J.szl48, J.szl49, J.szl50, J.szl51, J.szl52, J.szl53, J.szl54, J.szl55, J.szl56, J.szl57, J.szl58, J.szl59, J.szl60, and_self, if_true, if_false, Bool.false_eq_true, Bool.and_true, Bool.true_and, Bool.not_true, Bool.not_false, List.cons_append, List.nil_append, Option.map_some, Nat.sub_self, Nat.zero_add, Nat.reduceAdd, Nat.reduceSub, Nat.reduceLT, List.set_cons_zero, List.set_cons_succ, Option.bind_some, J.psat_ok, J.psat_exc, J.psatS_ok, J.psatS_exc, J.psat_bnd, J.psatS_bndP, J.psatS_thP, J.seqP_nx, J.seqP_ret, J.seqP_brk, J.seqP_ct, J.finP_nx, J.finP_ret, J.turnP_nx, J.turnP_ct, J.turnP_brk, J.turnP_ret]
    · rw [List.filterMap_eq_map' (f := encT)]
  · rw [List.map_flatMap]
    simp -implicitDefEqProofs -dsimp only [J.exPs, J.exP, J.evP, J.evPs, J.evPO, J.tstP, J.tsPOr, J.tsPAnd, J.evPAnd, J.evPOr, J.itP, J.rb_ok, J.rb_exc, J.bp_ok, J.bp_exc, J.th_nx, J.th_ret, J.th_brk, J.th_ct, J.th_exc, J.of_some, J.nr_non, J.nr_bl, J.nr_int, J.nr_str, J.nr_tup, J.nr_lst, J.nr_dic, J.nr_kls, J.nrs_nil, J.nrs_cons, J.gp_call, J.gp_glo, J.gp_isa, J.asg_name, J.asg_tup, J.asgTs, J.wipeE, J.truth_bl, J.truth_int, J.truth_tup, J.truth_lst, J.bin_add, J.bin_sub, J.cmp_eqI, J.cmp_neI, J.cmp_ltI, J.cmp_gtI, J.cmp_leI, J.cmp_geI, J.cmp_isN, J.cmp_isnotN, J.ix_lst, J.ix_tup, J.len_lst, J.len_tup, J.int_int, J.abs_int, J.btD, J.isNon, J.tupleB, J.listB, J.isiD, J.isTy, J.items?, List.map, List.length_cons, List.length_nil, List.replicate, List.getElem?_cons_zero, List.getElem?_cons_succ, J.sz0, J.sz1, J.sz2, J.sz3, J.sz4, J.sz5, J.sz6, J.sz7, J.sz8, J.sz9, J.sz10, J.sz11, J.sz12, J.sz13, J.sz14, J.sz15, J.sz16, J.sz17, J.sz18, J.sz19, J.sz20, J.sz21, J.sz22, J.sz23, J.sz24, J.sz25, J.sz26, J.sz27, J.sz28, J.sz29, J.sz30, J.sz31, J.sz32, J.sz33, J.sz34, J.sz35, J.sz36, J.sz37, J.sz38, J.sz39, J.sz40, J.sz41, J.sz42, J.sz43, J.sz44, J.sz45, J.sz46, J.sz47, J.sz48, J.sz49, J.sz50, J.sz51, J.sz52, J.sz53, J.sz54, J.sz55, J.sz56, J.sz57, J.sz58, J.sz59, J.sz60, J.cast0, J.cast1, J.cast2, J.cast3, J.cast4, J.cast5, J.cast6, J.cast7, J.cast8, J.cast9, J.cast10, J.cast11, J.cast12, J.cast13, J.cast14, J.cast15, J.cast16, J.cast17, J.cast18, J.cast19, J.cast20, Int.reduceBEq, Int.reduceLT, Int.reduceNeg, Int.reduceAdd, Int.reduceSub, decide_true, decide_false, J.at0of1, J.at0of2, J.at1of2, J.at0of3, J.at1of3, J.at2of3, J.szl0, J.szl1, J.szl2, J.szl3, J.szl4, J.szl5, J.szl6, J.szl7, J.szl8, J.szl9, J.szl10, J.szl11, J.szl12, J.szl13, J.szl14, J.szl15, J.szl16, J.szl17, J.szl18, J.szl19, J.szl20, J.szl21, J.szl22, J.szl23, J.szl24, J.szl25, J.szl26, J.szl27, J.szl28, J.szl29, J.szl30, J.szl31, J.szl32, J.szl33, J.szl34, J.szl35, J.szl36, J.szl37, J.szl38, J.szl39, J.szl40, J.szl41, J.szl42, J.szl43, J.szl44, J.szl45, J.szl46, J.szl47, J.szl48, J.szl49, J.szl50, J.szl51, J.szl52, J.szl53, J.szl54, J.szl55, J.szl56, J.szl57, J.szl58, J.szl59, J.szl60, and_self, if_true, if_false, Bool.false_eq_true, Bool.and_true, Bool.true_and, Bool.not_true, Bool.not_false, List.cons_append, List.nil_append, Option.map_some, Nat.sub_self, Nat.zero_add, Nat.reduceAdd, Nat.reduceSub, Nat.reduceLT, List.set_cons_zero, List.set_cons_succ, Option.bind_some, J.psat_ok, J.psat_exc, J.psatS_ok, J.psatS_exc, J.psat_bnd, J.psatS_bndP, J.psatS_thP, J.seqP_nx, J.seqP_ret, J.seqP_brk, J.seqP_ct, J.finP_nx, J.finP_ret, J.turnP_nx, J.turnP_ct, J.turnP_brk, J.turnP_ret]
theorem varsIn_ok {k : Nat} {ts : List Term} {d : D} (hd : d = .lst (ts.map encT) ∨ d = .tup (ts.map encT)) (hl : ts.length ≤ 4000) : callP Pr (k+1) 15 [d] = .ok (.tup (srtS ((strsT ts).map .str))) := by
  refine callP_of (show Pr.fns[15]? = some ⟨1, 2, b15⟩ from rfl) rfl ?_
  have := strsT_le ts
  rcases hd with rfl | rfl
  all_goals
    simp -implicitDefEqProofs -dsimp only [J.exPs, J.exP, J.evP, J.evPs, J.evPO, J.tstP, J.tsPOr, J.tsPAnd, J.evPAnd, J.evPOr, J.itP, J.rb_ok, J.rb_exc, J.bp_ok, J.bp_exc, J.th_nx, J.th_ret, J.th_brk, J.th_ct, J.th_exc, J.of_some, J.nr_non, J.nr_bl, J.nr_int, J.nr_str, J.nr_tup, J.nr_lst, J.nr_dic, J.nr_kls, J.nrs_nil, J.nrs_cons, J.gp_call, J.gp_glo, J.gp_isa, J.asg_name, J.asg_tup, J.asgTs, J.wipeE, J.truth_bl, J.truth_int, J.truth_tup, J.truth_lst, J.bin_add, J.bin_sub, J.cmp_eqI, J.cmp_neI, J.cmp_ltI, J.cmp_gtI, J.cmp_leI, J.cmp_geI, J.cmp_isN, J.cmp_isnotN, J.ix_lst, J.ix_tup, J.len_lst, J.len_tup, J.int_int, J.abs_int, J.btD, J.isNon, J.tupleB, J.listB, J.isiD, J.isTy, J.items?, List.map, List.length_cons, List.length_nil, List.replicate, List.getElem?_cons_zero, List.getElem?_cons_succ, J.sz0, J.sz1, J.sz2, J.sz3, J.sz4, J.sz5, J.sz6, J.sz7, J.sz8, J.sz9, J.sz10, J.sz11, J.sz12, J.sz13, J.sz14, J.sz15, J.sz16, J.sz17, J.sz18, J.sz19, J.sz20, J.sz21, J.sz22, J.sz23, J.sz24, J.sz25, J.sz26, J.sz27, J.sz28, J.sz29, J.sz30, J.sz31, J.sz32, J.sz33, J.sz34, J.sz35, J.sz36, J.sz37, J.sz38, J.sz39, J.sz40, J.sz41, J.sz42, J.sz43, J.sz44, J.sz45, J.sz46, J.sz47, J.sz48, J.sz49, J.sz50, J.sz51, J.sz52, J.sz53, J.sz54, J.sz55, J.sz56, J.sz57, J.sz58, J.sz59, J.sz60, J.cast0, J.cast1, J.cast2, J.cast3, J.cast4, J.cast5, J.cast6, J.cast7, J.cast8, J.cast9, J.cast10, J.cast11, J.cast12, J.cast13, J.cast14, J.cast15, J.cast16, J.cast17, J.cast18, J.cast19, J.cast20, Int.reduceBEq, Int.reduceLT, Int.reduceNeg, Int.reduceAdd, Int.reduceSub, decide_true, decide_false, J.at0of1, J.at0of2, J.at1of2, J.at0of3, J.at1of3, J.at2of3, J.szl0, J.szl1, J.szl2, J.szl3, J.szl4, J.szl5, J.szl6, J.szl7, J.szl8, J.szl9, J.szl10, J.szl11, J.szl12, J.szl13, J.szl14, J.szl15, J.szl16, J.szl17, J.szl18, J.szl19, J.szl20, J.szl21, J.szl22, J.szl23, J.szl24, J.szl25, J.szl26, J.szl27, J.szl28, J.szl29, J.szl30, J.szl31, J.szl32, J.szl33, J.szl34, J.szl35, J.szl36, J.szl37, J.szl38, J.szl39, J.szl40, J.szl41, J.szl42, J.szl43, J.szl44, J.szl45, J.szl46, J.szl47, J.szl48, J.szl49, J.szl50, J.szl51, J.szl52, J.szl53, J.szl54, J.szl55, J.szl56, J.szl57, J.szl58, J.szl59, J.szl60, and_self, if_true, if_false, Bool.false_eq_true, Bool.and_true, Bool.true_and, Bool.not_true, Bool.not_false, List.cons_append, List.nil_append, Option.map_some, Nat.sub_self, Nat.zero_add, Nat.reduceAdd, Nat.reduceSub, Nat.reduceLT, List.set_cons_zero, List.set_cons_succ, Option.bind_some, J.psat_ok, J.psat_exc, J.psatS_ok, J.psatS_exc, J.psat_bnd, J.psatS_bndP, J.psatS_thP, J.seqP_nx, J.seqP_ret, J.seqP_brk, J.seqP_ct, J.finP_nx, J.finP_ret, J.turnP_nx, J.turnP_ct, J.turnP_brk, J.turnP_ret, b15]
    refine psat_lcM vrD (by unfold SZ; omega) (fun t ht => ?_) ?_
    · cases t <;> simp -implicitDefEqProofs -dsimp only [J.exPs, J.exP, J.evP, J.evPs, J.evPO, J.tstP, J.tsPOr, J.tsPAnd, J.evPAnd, J.evPOr, J.itP, J.rb_ok, J.rb_exc, J.bp_ok, J.bp_exc, J.th_nx, J.th_ret, J.th_brk, J.th_ct, J.th_exc, J.of_some, J.nr_non, J.nr_bl, J.nr_int, J.nr_str, J.nr_tup, J.nr_lst, J.nr_dic, J.nr_kls, J.nrs_nil, J.nrs_cons, J.gp_call, J.gp_glo, J.gp_isa, J.asg_name, J.asg_tup, J.asgTs, J.wipeE, J.truth_bl, J.truth_int, J.truth_tup, J.truth_lst, J.bin_add, J.bin_sub, J.cmp_eqI, J.cmp_neI, J.cmp_ltI, J.cmp_gtI, J.cmp_leI, J.cmp_geI, J.cmp_isN, J.cmp_isnotN, J.ix_lst, J.ix_tup, J.len_lst, J.len_tup, J.int_int, J.abs_int, J.btD, J.isNon, J.tupleB, J.listB, J.isiD, J.isTy, J.items?, List.map, List.length_cons, List.length_nil, List.replicate, List.getElem?_cons_zero, List.getElem?_cons_succ, J.sz0, J.sz1, J.sz2, J.sz3, J.sz4, J.sz5, J.sz6, J.sz7, J.sz8, J.sz9, J.sz10, J.sz11, J.sz12, J.sz13, J.sz14, J.sz15, J.sz16, J.sz17, J.sz18, J.sz19, J.sz20, J.sz21, J.sz22, J.sz23, J.sz24, J.sz25, J.sz26, J.sz27, J.sz28, J.sz29, J.sz30, J.sz31, J.sz32, J.sz33, J.sz34, J.sz35, J.sz36, J.sz37, J.sz38, J.sz39, J.sz40, J.sz41, J.sz42, J.sz43, J.sz44, J.sz45, J.sz46, J.sz47, J.sz48, J.sz49, J.sz50, J.sz51, J.sz52, J.sz53, J.sz54, J.sz55, J.sz56, J.sz57, J.sz58, J.sz59, J.sz60, J.cast0, J.cast1, J.cast2, J.cast3, J.cast4, J.cast5, J.cast6, J.cast7, J.cast8, J.cast9, J.cast10, J.cast11, J.cast12, J.cast13, J.cast14, J.cast15, J.cast16, J.cast17, J.cast18, J.cast19, J.cast20, Int.reduceBEq, Int.reduceLT, Int.reduceNeg, Int.reduceAdd, Int.reduceSub, decide_true, decide_false, J.at0of1, J.at0of2, J.at1of2, J.at0of3, J.at1of3, J.at2of3, J.szl0, J.szl1, J.szl2, J.szl3, J.szl4, J.szl5, J.szl6, J.szl7, J.szl8, J.szl9, J.szl10, J.szl11, J.szl12, J.szl13, J.szl14, J.szl15, J.szl16, J.szl17, J.szl18, J.szl19, J.szl20, J.szl21, J.szl22, J.szl23, J.szl24, J.szl25, J.szl26, J.szl27, J.szl28, J.szl29, J.szl30, J.szl31, J.szl32, J.szl33, J.szl34, J.szl35, J.szl36, J.szl37, J.szl38, J.szl39, J.szl40, J.szl41, J.szl42, J.szl43, J.szl44, J.szl45, J.szl46, J.szl47, J.szl48, J.szl49, J.szl50, J.szl51, J.szl52, J.szl53, J.szl54, J.szl55, J.szl56, J.szl57, J.szl58, J.szl59, J.szl60, and_self, if_true, if_false, Bool.false_eq_true, Bool.and_true, Bool.true_and, Bool.not_true, Bool.not_false, List.cons_append, List.nil_append, Option.map_some, Nat.sub_self, Nat.zero_add, Nat.reduceAdd, Nat.reduceSub, Nat.reduceLT, List.set_cons_zero, List.set_cons_succ, Option.bind_some, J.psat_ok, J.psat_exc, J.psatS_ok, J.psatS_exc, J.psat_bnd, J.psatS_bndP, J.psatS_thP, J.seqP_nx, J.seqP_ret, J.seqP_brk, J.seqP_ct, J.finP_nx, J.finP_ret, J.turnP_nx, J.turnP_ct, J.turnP_brk, J.turnP_ret, encT, vrD]
    · rw [strsT_filt]
      simp -implicitDefEqProofs -dsimp only [J.exPs, J.exP, J.evP, J.evPs, J.evPO, J.tstP, J.tsPOr, J.tsPAnd, J.evPAnd, J.evPOr, J.itP, J.rb_ok, J.rb_exc, J.bp_ok, J.bp_exc, J.th_nx, J.th_ret, J.th_brk, J.th_ct, J.th_exc, J.of_some, J.nr_non, J.nr_bl, J.nr_int, J.nr_str, J.nr_tup, J.nr_lst, J.nr_dic, J.nr_kls, J.nrs_nil, J.nrs_cons, J.gp_call, J.gp_glo, J.gp_isa, J.asg_name, J.asg_tup, J.asgTs, J.wipeE, J.truth_bl, J.truth_int, J.truth_tup, J.truth_lst, J.bin_add, J.bin_sub, J.cmp_eqI, J.cmp_neI, J.cmp_ltI, J.cmp_gtI, J.cmp_leI, J.cmp_geI, J.cmp_isN, J.cmp_isnotN, J.ix_lst, J.ix_tup, J.len_lst, J.len_tup, J.int_int, J.abs_int, J.btD, J.isNon, J.tupleB, J.listB, J.isiD, J.isTy, J.items?, List.map, List.length_cons, List.length_nil, List.replicate, List.getElem?_cons_zero, List.getElem?_cons_succ, J.sz0, J.sz1, J.sz2, J.sz3, J.sz4, J.sz5, J.sz6, J.sz7, J.sz8, J.sz9, J.sz10, J.sz11, J.sz12, J.sz13, J.sz14, J.sz15, J.sz16, J.sz17, J.sz18, J.sz19, J.sz20, J.sz21, J.sz22, J.sz23, J.sz24, J.sz25, J.sz26, J.sz27, J.sz28, J.sz29, J.sz30, J.sz31, J.sz32, J.sz33, J.sz34, J.sz35, J.sz36, J.sz37, J.sz38, J.sz39, J.sz40, J.sz41, J.sz42, J.sz43, J.sz44, J.sz45, J.sz46, J.sz47, J.sz48, J.sz49, J.sz50, J.sz51, J.sz52, J.sz53, J.sz54, J.sz55, J.sz56, J.sz57, J.sz58, J.sz59, J.sz60, J.cast0, J.cast1, J.cast2, J.cast3, J.cast4, J.cast5, J.cast6, J.cast7, J.cast8, J.cast9, J.cast10, J.cast11, J.cast12, J.cast13, J.cast14, J.cast15, J.cast16, J.cast17, J.cast18, J.cast19, J.cast20, Int.reduceBEq, Int.reduceLT, Int.reduceNeg, Int.reduceAdd, Int.reduceSub, decide_true, decide_false, J.at0of1, J.at0of2, J.at1of2, J.at0of3, J.at1of3, J.at2of3, J.szl0, J.szl1, J.szl2, J.szl3, J.szl4, J.szl5, J.szl6, J.szl7, J.szl8, J.szl9, J.szl10, J.szl11, J.szl12, J.szl13, J.szl14, J.szl15, J.szl16, J.szl17, J.szl18, J.szl19, J.szl20, J.szl21, J.szl22, J.szl23, J.szl24, J.szl25, J.szl26, J.szl27, J.szl28, J.szl29, J.szl30, J.szl31, J.szl32, J.szl33, J.szl34, J.szl35, J.szl36, J.szl37, J.szl38, J.szl39, J.szl40, J.szl41, J.szl42, J.szl43, J.szl44, J.szl45, J.szl46, J.szl47, J.szl48, J.szl49, J.szl50, J.szl51, J.szl52, J.szl53, J.szl54, J.szl55, J.szl56, J.szl57, J.szl58, J.szl59, J.szl60, and_self, if_true, if_false, Bool.false_eq_true, Bool.and_true, Bool.true_and, Bool.not_true, Bool.not_false, List.cons_append, List.nil_append, Option.map_some, Nat.sub_self, Nat.zero_add, Nat.reduceAdd, Nat.reduceSub, Nat.reduceLT, List.set_cons_zero, List.set_cons_succ, Option.bind_some, J.psat_ok, J.psat_exc, J.psatS_ok, J.psatS_exc, J.psat_bnd, J.psatS_bndP, J.psatS_thP, J.seqP_nx, J.seqP_ret, J.seqP_brk, J.seqP_ct, J.finP_nx, J.finP_ret, J.turnP_nx, J.turnP_ct, J.turnP_brk, J.turnP_ret, srt_strs (show (strsT ts).length ≤ 4000 by omega)]
theorem varsOf_ok {k : Nat} {head : List Term} {body : List Atom} (hb : body.length ≤ 40) (hw : ∀ a ∈ body, a.ts.length ≤ 100) : callP Pr (k+2) 16 [encQ head body] = .ok (.tup (srtS ((atomsStrs body).map .str))) := by
  refine callP_of (show Pr.fns[16]? = some ⟨1, 1, b16⟩ from rfl) rfl ?_
  have hl := flat_len hw
  have e := varsIn_ok (k := k) (ts := body.flatMap (·.ts)) (.inl rfl) (by omega)
  rw [strsT_flat] at e
  simp -implicitDefEqProofs -dsimp only [J.exPs, J.exP, J.evP, J.evPs, J.evPO, J.tstP, J.tsPOr, J.tsPAnd, J.evPAnd, J.evPOr, J.itP, J.rb_ok, J.rb_exc, J.bp_ok, J.bp_exc, J.th_nx, J.th_ret, J.th_brk, J.th_ct, J.th_exc, J.of_some, J.nr_non, J.nr_bl, J.nr_int, J.nr_str, J.nr_tup, J.nr_lst, J.nr_dic, J.nr_kls, J.nrs_nil, J.nrs_cons, J.gp_call, J.gp_glo, J.gp_isa, J.asg_name, J.asg_tup, J.asgTs, J.wipeE, J.truth_bl, J.truth_int, J.truth_tup, J.truth_lst, J.bin_add, J.bin_sub, J.cmp_eqI, J.cmp_neI, J.cmp_ltI, J.cmp_gtI, J.cmp_leI, J.cmp_geI, J.cmp_isN, J.cmp_isnotN, J.ix_lst, J.ix_tup, J.len_lst, J.len_tup, J.int_int, J.abs_int, J.btD, J.isNon, J.tupleB, J.listB, J.isiD, J.isTy, J.items?, List.map, List.length_cons, List.length_nil, List.replicate, List.getElem?_cons_zero, List.getElem?_cons_succ, J.sz0, J.sz1, J.sz2, J.sz3, J.sz4, J.sz5, J.sz6, J.sz7, J.sz8, J.sz9, J.sz10, J.sz11, J.sz12, J.sz13, J.sz14, J.sz15, J.sz16, J.sz17, J.sz18, J.sz19, J.sz20, J.sz21, J.sz22, J.sz23, J.sz24, J.sz25, J.sz26, J.sz27, J.sz28, J.sz29, J.sz30, J.sz31, J.sz32, J.sz33, J.sz34, J.sz35, J.sz36, J.sz37, J.sz38, J.sz39, J.sz40, J.sz41, J.sz42, J.sz43, J.sz44, J.sz45, J.sz46, J.sz47, J.sz48, J.sz49, J.sz50, J.sz51, J.sz52, J.sz53, J.sz54, J.sz55, J.sz56, J.sz57, J.sz58, J.sz59, J.sz60, J.cast0, J.cast1, J.cast2, J.cast3, J.cast4, J.cast5, J.cast6, J.cast7, J.cast8, J.cast9, J.cast10, J.cast11, J.cast12, J.cast13, J.cast14, J.cast15, J.cast16, J.cast17, J.cast18, J.cast19, J.cast20, Int.reduceBEq, Int.reduceLT, Int.reduceNeg, Int.reduceAdd, Int.reduceSub, decide_true, decide_false, J.at0of1, J.at0of2, J.at1of2, J.at0of3, J.at1of3, J.at2of3, J.szl0, J.szl1, J.szl2, J.szl3, J.szl4, J.szl5, J.szl6, J.szl7, J.szl8, J.szl9, J.szl10, J.szl11, J.szl12, J.szl13, J.szl14, J.szl15, J.szl16, J.szl17, J.szl18, J.szl19, J.szl20, J.szl21, J.szl22, J.szl23, J.szl24, J.szl25, J.szl26, J.szl27, J.szl28, J.szl29, J.szl30, J.szl31, J.szl32, J.szl33, J.szl34, J.szl35, J.szl36, J.szl37, J.szl38, J.szl39, J.szl40, J.szl41, J.szl42, J.szl43, J.szl44, J.szl45, J.szl46, J.szl47, J.szl48, J.szl49, J.szl50, J.szl51, J.szl52, J.szl53, J.szl54, J.szl55, J.szl56, J.szl57, J.szl58, J.szl59, J.szl60, and_self, if_true, if_false, Bool.false_eq_true, Bool.and_true, Bool.true_and, Bool.not_true, Bool.not_false, List.cons_append, List.nil_append, Option.map_some, Nat.sub_self, Nat.zero_add, Nat.reduceAdd, Nat.reduceSub, Nat.reduceLT, List.set_cons_zero, List.set_cons_succ, Option.bind_some, J.psat_ok, J.psat_exc, J.psatS_ok, J.psatS_exc, J.psat_bnd, J.psatS_bndP, J.psatS_thP, J.seqP_nx, J.seqP_ret, J.seqP_brk, J.seqP_ct, J.finP_nx, J.finP_ret, J.turnP_nx, J.turnP_ct, J.turnP_brk, J.turnP_ret, b16, encQ, terms_ok (show body.length ≤ 1000 by omega) hw, e]
end L_k00

namespace L_k00
open PySem J
def sch0 : Sch := [("e", 2), ("p", 1)]
def sch : D := schD sch0
def e0 : J.Env := [.un, .un, .val sch, .un, .un, .un, .un, .un, .un]
theorem tail_ok : isRet (exPs (GP 60) (dropS 5 b30) e0) true = true := by decide +kernel
theorem schema_ok : isN (callP Pr 60 7 [sch]) = true := by decide +kernel
theorem fact1 {x : D} (h : FactP sch0 3 x) : callP Pr 58 10 [sch, x] = .ok (.bl true) := by
  have a : ((allFacts sch0 3).all fun x => isT (callP Pr 58 10 [sch, x])) = true := by decide +kernel
  exact isT_at (List.all_eq_true.mp a x h.mem)
theorem lt_canLt {l : List D} (h : Cmpb l) {x y : D} (hx : x ∈ l) (hy : y ∈ l) (n : ∀ z ∈ l, isNon z = false) : cmpD .lt x y = some (ltB x y) := by
  rw [cmpD, canLt, h.1 x hx, h.1 y hy, h.2 x hx y hy, n x hx]
  rfl
theorem asc_ok {k : Nat} {bs : List D} (h : Cmpb bs) (n : ∀ z ∈ bs, isNon z = false) (r : ∀ z ∈ bs, nr z = true) (a : Asc bs) (hl : bs.length ≤ 100) : callP Pr (k+1) 5 [.tup bs] = .ok (.bl true) := by
  refine callP_of (show Pr.fns[5]? = some ⟨1, 3, b5⟩ from rfl) rfl ?_
  simp -implicitDefEqProofs -dsimp only [J.exPs, J.exP, J.evP, J.evPs, J.evPO, J.tstP, J.tsPOr, J.tsPAnd, J.evPAnd, J.evPOr, J.itP, J.rb_ok, J.rb_exc, J.bp_ok, J.bp_exc, J.th_nx, J.th_ret, J.th_brk, J.th_ct, J.th_exc, J.of_some, J.nr_non, J.nr_bl, J.nr_int, J.nr_str, J.nr_tup, J.nr_lst, J.nr_dic, J.nr_kls, J.nrs_nil, J.nrs_cons, J.gp_call, J.gp_glo, J.gp_isa, J.asg_name, J.asg_tup, J.asgTs, J.wipeE, J.truth_bl, J.truth_int, J.truth_tup, J.truth_lst, J.bin_add, J.bin_sub, J.cmp_eqI, J.cmp_neI, J.cmp_ltI, J.cmp_gtI, J.cmp_leI, J.cmp_geI, J.cmp_isN, J.cmp_isnotN, J.ix_lst, J.ix_tup, J.len_lst, J.len_tup, J.int_int, J.abs_int, J.btD, J.isNon, J.tupleB, J.listB, J.isiD, J.isTy, J.items?, List.map, List.length_cons, List.length_nil, List.replicate, List.getElem?_cons_zero, List.getElem?_cons_succ, J.sz0, J.sz1, J.sz2, J.sz3, J.sz4, J.sz5, J.sz6, J.sz7, J.sz8, J.sz9, J.sz10, J.sz11, J.sz12, J.sz13, J.sz14, J.sz15, J.sz16, J.sz17, J.sz18, J.sz19, J.sz20, J.sz21, J.sz22, J.sz23, J.sz24, J.sz25, J.sz26, J.sz27, J.sz28, J.sz29, J.sz30, J.sz31, J.sz32, J.sz33, J.sz34, J.sz35, J.sz36, J.sz37, J.sz38, J.sz39, J.sz40, J.sz41, J.sz42, J.sz43, J.sz44, J.sz45, J.sz46, J.sz47, J.sz48, J.sz49, J.sz50, J.sz51, J.sz52, J.sz53, J.sz54, J.sz55, J.sz56, J.sz57, J.sz58, J.sz59, J.sz60, J.cast0, J.cast1, J.cast2, J.cast3, J.cast4, J.cast5, J.cast6, J.cast7, J.cast8, J.cast9, J.cast10, J.cast11, J.cast12, J.cast13, J.cast14, J.cast15, J.cast16, J.cast17, J.cast18, J.cast19, J.cast20, Int.reduceBEq, Int.reduceLT, Int.reduceNeg, Int.reduceAdd, Int.reduceSub, decide_true, decide_false, J.at0of1, J.at0of2, J.at1of2, J.at0of3, J.at1of3, J.at2of3, J.szl0, J.szl1, J.szl2, J.szl3, J.szl4, J.szl5, J.szl6, J.szl7, J.szl8, J.szl9, J.szl10, J.szl11, J.szl12, J.szl13, J.szl14, J.szl15, J.szl16, J.szl17, J.szl18, J.szl19, J.szl20, J.szl21, J.szl22, J.szl23, J.szl24, J.szl25, J.szl26, J.szl27, J.szl28, J.szl29, J.szl30, J.szl31, J.szl32, J.szl33, J.szl34, J.szl35, J.szl36, J.szl37, J.szl38, J.szl39, J.szl40, J.szl41, J.szl42, J.szl43, J.szl44, J.szl45, J.szl46, J.szl47, J.szl48, J.szl49, J.szl50, J.szl51, J.szl52, J.szl53, J.szl54, J.szl55, J.szl56, J.szl57, J.szl58, J.szl59, J.szl60, and_self, if_true, if_false, Bool.false_eq_true, Bool.and_true, Bool.true_and, Bool.not_true, Bool.not_false, List.cons_append, List.nil_append, Option.map_some, Nat.sub_self, Nat.zero_add, Nat.reduceAdd, Nat.reduceSub, Nat.reduceLT, List.set_cons_zero, List.set_cons_succ, Option.bind_some, J.psat_ok, J.psat_exc, J.psatS_ok, J.psatS_exc, J.psat_bnd, J.psatS_bndP, J.psatS_thP, J.seqP_nx, J.seqP_ret, J.seqP_brk, J.seqP_ct, J.finP_nx, J.finP_ret, J.turnP_nx, J.turnP_ct, J.turnP_brk, J.turnP_ret, b5, sliceD, zip2?, cut_tail]
  unfold zipD
  refine psat_lcA (fun p => .bl true) (by rw [List.length_zip]; unfold SZ; omega) (fun p hp => ?_) ?_
  · obtain ⟨p1, p2⟩ := p
    have m1 : p1 ∈ bs := (List.of_mem_zip hp).1
    have m2 : p2 ∈ bs := List.mem_of_mem_tail (List.of_mem_zip hp).2
    have e := zip_tail a _ hp
    simp -implicitDefEqProofs -dsimp only [J.exPs, J.exP, J.evP, J.evPs, J.evPO, J.tstP, J.tsPOr, J.tsPAnd, J.evPAnd, J.evPOr, J.itP, J.rb_ok, J.rb_exc, J.bp_ok, J.bp_exc, J.th_nx, J.th_ret, J.th_brk, J.th_ct, J.th_exc, J.of_some, J.nr_non, J.nr_bl, J.nr_int, J.nr_str, J.nr_tup, J.nr_lst, J.nr_dic, J.nr_kls, J.nrs_nil, J.nrs_cons, J.gp_call, J.gp_glo, J.gp_isa, J.asg_name, J.asg_tup, J.asgTs, J.wipeE, J.truth_bl, J.truth_int, J.truth_tup, J.truth_lst, J.bin_add, J.bin_sub, J.cmp_eqI, J.cmp_neI, J.cmp_ltI, J.cmp_gtI, J.cmp_leI, J.cmp_geI, J.cmp_isN, J.cmp_isnotN, J.ix_lst, J.ix_tup, J.len_lst, J.len_tup, J.int_int, J.abs_int, J.btD, J.isNon, J.tupleB, J.listB, J.isiD, J.isTy, J.items?, List.map, List.length_cons, List.length_nil, List.replicate, List.getElem?_cons_zero, List.getElem?_cons_succ, J.sz0, J.sz1, J.sz2, J.sz3, J.sz4, J.sz5, J.sz6, J.sz7, J.sz8, J.sz9, J.sz10, J.sz11, J.sz12, J.sz13, J.sz14, J.sz15, J.sz16, J.sz17, J.sz18, J.sz19, J.sz20, J.sz21, J.sz22, J.sz23, J.sz24, J.sz25, J.sz26, J.sz27, J.sz28, J.sz29, J.sz30, J.sz31, J.sz32, J.sz33, J.sz34, J.sz35, J.sz36, J.sz37, J.sz38, J.sz39, J.sz40, J.sz41, J.sz42, J.sz43, J.sz44, J.sz45, J.sz46, J.sz47, J.sz48, J.sz49, J.sz50, J.sz51, J.sz52, J.sz53, J.sz54, J.sz55, J.sz56, J.sz57, J.sz58, J.sz59, J.sz60, J.cast0, J.cast1, J.cast2, J.cast3, J.cast4, J.cast5, J.cast6, J.cast7, J.cast8, J.cast9, J.cast10, J.cast11, J.cast12, J.cast13, J.cast14, J.cast15, J.cast16, J.cast17, J.cast18, J.cast19, J.cast20, Int.reduceBEq, Int.reduceLT, Int.reduceNeg, Int.reduceAdd, Int.reduceSub, decide_true, decide_false, J.at0of1, J.at0of2, J.at1of2, J.at0of3, J.at1of3, J.at2of3, J.szl0, J.szl1, J.szl2, J.szl3, J.szl4, J.szl5, J.szl6, J.szl7, J.szl8, J.szl9, J.szl10, J.szl11, J.szl12, J.szl13, J.szl14, J.szl15, J.szl16, J.szl17, J.szl18, J.szl19, J.szl20, J.szl21, J.szl22, J.szl23, J.szl24, J.szl25, J.szl26, J.szl27, J.szl28, J.szl29, J.szl30, J.szl31, J.szl32, J.szl33, J.szl34, J.szl35, J.szl36, J.szl37, J.szl38, J.szl39, J.szl40, J.szl41, J.szl42, J.szl43, J.szl44, J.szl45, J.szl46, J.szl47, J.szl48, J.szl49, J.szl50, J.szl51, J.szl52, J.szl53, J.szl54, J.szl55, J.szl56, J.szl57, J.szl58, J.szl59, J.szl60, and_self, if_true, if_false, Bool.false_eq_true, Bool.and_true, Bool.true_and, Bool.not_true, Bool.not_false, List.cons_append, List.nil_append, Option.map_some, Nat.sub_self, Nat.zero_add, Nat.reduceAdd, Nat.reduceSub, Nat.reduceLT, List.set_cons_zero, List.set_cons_succ, Option.bind_some, J.psat_ok, J.psat_exc, J.psatS_ok, J.psatS_exc, J.psat_bnd, J.psatS_bndP, J.psatS_thP, J.seqP_nx, J.seqP_ret, J.seqP_brk, J.seqP_ct, J.finP_nx, J.finP_ret, J.turnP_nx, J.turnP_ct, J.turnP_brk, J.turnP_ret, lt_canLt h m1 m2 n, r p1 m1, r p2 m2]
    rw [show ltB p1 p2 = true from e]
  · have := allB_map (fun _ => true) ((bs.zip bs.tail).map fun p => .tup [p.1, p.2])
    rw [List.map_map] at this
    have e2 : (List.map (fun (p : D × D) => D.bl true) (bs.zip bs.tail)) = List.map ((fun x => D.bl ((fun _ => true) x)) ∘ fun (p : D × D) => D.tup [p.1, p.2]) (bs.zip bs.tail) := rfl
    rw [e2]
    simp -implicitDefEqProofs -dsimp only [J.exPs, J.exP, J.evP, J.evPs, J.evPO, J.tstP, J.tsPOr, J.tsPAnd, J.evPAnd, J.evPOr, J.itP, J.rb_ok, J.rb_exc, J.bp_ok, J.bp_exc, J.th_nx, J.th_ret, J.th_brk, J.th_ct, J.th_exc, J.of_some, J.nr_non, J.nr_bl, J.nr_int, J.nr_str, J.nr_tup, J.nr_lst, J.nr_dic, J.nr_kls, J.nrs_nil, J.nrs_cons, J.gp_call, J.gp_glo, J.gp_isa, J.asg_name, J.asg_tup, J.asgTs, J.wipeE, J.truth_bl, J.truth_int, J.truth_tup, J.truth_lst, J.bin_add, J.bin_sub, J.cmp_eqI, J.cmp_neI, J.cmp_ltI, J.cmp_gtI, J.cmp_leI, J.cmp_geI, J.cmp_isN, J.cmp_isnotN, J.ix_lst, J.ix_tup, J.len_lst, J.len_tup, J.int_int, J.abs_int, J.btD, J.isNon, J.tupleB, J.listB, J.isiD, J.isTy, J.items?, List.map, List.length_cons, List.length_nil, List.replicate, List.getElem?_cons_zero, List.getElem?_cons_succ, J.sz0, J.sz1, J.sz2, J.sz3, J.sz4, J.sz5, J.sz6, J.sz7, J.sz8, J.sz9, J.sz10, J.sz11, J.sz12, J.sz13, J.sz14, J.sz15, J.sz16, J.sz17, J.sz18, J.sz19, J.sz20, J.sz21, J.sz22, J.sz23, J.sz24, J.sz25, J.sz26, J.sz27, J.sz28, J.sz29, J.sz30, J.sz31, J.sz32, J.sz33, J.sz34, J.sz35, J.sz36, J.sz37, J.sz38, J.sz39, J.sz40, J.sz41, J.sz42, J.sz43, J.sz44, J.sz45, J.sz46, J.sz47, J.sz48, J.sz49, J.sz50, J.sz51, J.sz52, J.sz53, J.sz54, J.sz55, J.sz56, J.sz57, J.sz58, J.sz59, J.sz60, J.cast0, J.cast1, J.cast2, J.cast3, J.cast4, J.cast5, J.cast6, J.cast7, J.cast8, J.cast9, J.cast10, J.cast11, J.cast12, J.cast13, J.cast14, J.cast15, J.cast16, J.cast17, J.cast18, J.cast19, J.cast20, Int.reduceBEq, Int.reduceLT, Int.reduceNeg, Int.reduceAdd, Int.reduceSub, decide_true, decide_false, J.at0of1, J.at0of2, J.at1of2, J.at0of3, J.at1of3, J.at2of3, J.szl0, J.szl1, J.szl2, J.szl3, J.szl4, J.szl5, J.szl6, J.szl7, J.szl8, J.szl9, J.szl10, J.szl11, J.szl12, J.szl13, J.szl14, J.szl15, J.szl16, J.szl17, J.szl18, J.szl19, J.szl20, J.szl21, J.szl22, J.szl23, J.szl24, J.szl25, J.szl26, J.szl27, J.szl28, J.szl29, J.szl30, J.szl31, J.szl32, J.szl33, J.szl34, J.szl35, J.szl36, J.szl37, J.szl38, J.szl39, J.szl40, J.szl41, J.szl42, J.szl43, J.szl44, J.szl45, J.szl46, J.szl47, J.szl48, J.szl49, J.szl50, J.szl51, J.szl52, J.szl53, J.szl54, J.szl55, J.szl56, J.szl57, J.szl58, J.szl59, J.szl60, and_self, if_true, if_false, Bool.false_eq_true, Bool.and_true, Bool.true_and, Bool.not_true, Bool.not_false, List.cons_append, List.nil_append, Option.map_some, Nat.sub_self, Nat.zero_add, Nat.reduceAdd, Nat.reduceSub, Nat.reduceLT, List.set_cons_zero, List.set_cons_succ, Option.bind_some, J.psat_ok, J.psat_exc, J.psatS_ok, J.psatS_exc, J.psat_bnd, J.psatS_bndP, J.psatS_thP, J.seqP_nx, J.seqP_ret, J.seqP_brk, J.seqP_ct, J.finP_nx, J.finP_ret, J.turnP_nx, J.turnP_ct, J.turnP_brk, J.turnP_ret, this]
    simp
theorem base_ok {bs : List D} (hl : bs.length ≤ 6) (hf : ∀ x ∈ bs, FactP sch0 3 x) (ha : Asc bs) : callP Pr 60 12 [sch, .tup bs] = .ok .non := by
  have h11 : callP Pr 59 11 [sch, .tup bs] = .ok (.bl true) := by
    refine callP_of (show Pr.fns[11]? = some ⟨2, 3, b11⟩ from rfl) rfl ?_
    simp -implicitDefEqProofs -dsimp only [J.exPs, J.exP, J.evP, J.evPs, J.evPO, J.tstP, J.tsPOr, J.tsPAnd, J.evPAnd, J.evPOr, J.itP, J.rb_ok, J.rb_exc, J.bp_ok, J.bp_exc, J.th_nx, J.th_ret, J.th_brk, J.th_ct, J.th_exc, J.of_some, J.nr_non, J.nr_bl, J.nr_int, J.nr_str, J.nr_tup, J.nr_lst, J.nr_dic, J.nr_kls, J.nrs_nil, J.nrs_cons, J.gp_call, J.gp_glo, J.gp_isa, J.asg_name, J.asg_tup, J.asgTs, J.wipeE, J.truth_bl, J.truth_int, J.truth_tup, J.truth_lst, J.bin_add, J.bin_sub, J.cmp_eqI, J.cmp_neI, J.cmp_ltI, J.cmp_gtI, J.cmp_leI, J.cmp_geI, J.cmp_isN, J.cmp_isnotN, J.ix_lst, J.ix_tup, J.len_lst, J.len_tup, J.int_int, J.abs_int, J.btD, J.isNon, J.tupleB, J.listB, J.isiD, J.isTy, J.items?, List.map, List.length_cons, List.length_nil, List.replicate, List.getElem?_cons_zero, List.getElem?_cons_succ, J.sz0, J.sz1, J.sz2, J.sz3, J.sz4, J.sz5, J.sz6, J.sz7, J.sz8, J.sz9, J.sz10, J.sz11, J.sz12, J.sz13, J.sz14, J.sz15, J.sz16, J.sz17, J.sz18, J.sz19, J.sz20, J.sz21, J.sz22, J.sz23, J.sz24, J.sz25, J.sz26, J.sz27, J.sz28, J.sz29, J.sz30, J.sz31, J.sz32, J.sz33, J.sz34, J.sz35, J.sz36, J.sz37, J.sz38, J.sz39, J.sz40, J.sz41, J.sz42, J.sz43, J.sz44, J.sz45, J.sz46, J.sz47, J.sz48, J.sz49, J.sz50, J.sz51, J.sz52, J.sz53, J.sz54, J.sz55, J.sz56, J.sz57, J.sz58, J.sz59, J.sz60, J.cast0, J.cast1, J.cast2, J.cast3, J.cast4, J.cast5, J.cast6, J.cast7, J.cast8, J.cast9, J.cast10, J.cast11, J.cast12, J.cast13, J.cast14, J.cast15, J.cast16, J.cast17, J.cast18, J.cast19, J.cast20, Int.reduceBEq, Int.reduceLT, Int.reduceNeg, Int.reduceAdd, Int.reduceSub, decide_true, decide_false, J.at0of1, J.at0of2, J.at1of2, J.at0of3, J.at1of3, J.at2of3, J.szl0, J.szl1, J.szl2, J.szl3, J.szl4, J.szl5, J.szl6, J.szl7, J.szl8, J.szl9, J.szl10, J.szl11, J.szl12, J.szl13, J.szl14, J.szl15, J.szl16, J.szl17, J.szl18, J.szl19, J.szl20, J.szl21, J.szl22, J.szl23, J.szl24, J.szl25, J.szl26, J.szl27, J.szl28, J.szl29, J.szl30, J.szl31, J.szl32, J.szl33, J.szl34, J.szl35, J.szl36, J.szl37, J.szl38, J.szl39, J.szl40, J.szl41, J.szl42, J.szl43, J.szl44, J.szl45, J.szl46, J.szl47, J.szl48, J.szl49, J.szl50, J.szl51, J.szl52, J.szl53, J.szl54, J.szl55, J.szl56, J.szl57, J.szl58, J.szl59, J.szl60, and_self, if_true, if_false, Bool.false_eq_true, Bool.and_true, Bool.true_and, Bool.not_true, Bool.not_false, List.cons_append, List.nil_append, Option.map_some, Nat.sub_self, Nat.zero_add, Nat.reduceAdd, Nat.reduceSub, Nat.reduceLT, List.set_cons_zero, List.set_cons_succ, Option.bind_some, J.psat_ok, J.psat_exc, J.psatS_ok, J.psatS_exc, J.psat_bnd, J.psatS_bndP, J.psatS_thP, J.seqP_nx, J.seqP_ret, J.seqP_brk, J.seqP_ct, J.finP_nx, J.finP_ret, J.turnP_nx, J.turnP_ct, J.turnP_brk, J.turnP_ret, b11]
    have hx : bs.map id = bs := List.map_id _
    rw [← hx]
    refine psat_lcA (fun p => .bl true) (by unfold SZ; omega) (fun x hx => ?_) ?_
    · simp -implicitDefEqProofs -dsimp only [J.exPs, J.exP, J.evP, J.evPs, J.evPO, J.tstP, J.tsPOr, J.tsPAnd, J.evPAnd, J.evPOr, J.itP, J.rb_ok, J.rb_exc, J.bp_ok, J.bp_exc, J.th_nx, J.th_ret, J.th_brk, J.th_ct, J.th_exc, J.of_some, J.nr_non, J.nr_bl, J.nr_int, J.nr_str, J.nr_tup, J.nr_lst, J.nr_dic, J.nr_kls, J.nrs_nil, J.nrs_cons, J.gp_call, J.gp_glo, J.gp_isa, J.asg_name, J.asg_tup, J.asgTs, J.wipeE, J.truth_bl, J.truth_int, J.truth_tup, J.truth_lst, J.bin_add, J.bin_sub, J.cmp_eqI, J.cmp_neI, J.cmp_ltI, J.cmp_gtI, J.cmp_leI, J.cmp_geI, J.cmp_isN, J.cmp_isnotN, J.ix_lst, J.ix_tup, J.len_lst, J.len_tup, J.int_int, J.abs_int, J.btD, J.isNon, J.tupleB, J.listB, J.isiD, J.isTy, J.items?, List.map, List.length_cons, List.length_nil, List.replicate, List.getElem?_cons_zero, List.getElem?_cons_succ, J.sz0, J.sz1, J.sz2, J.sz3, J.sz4, J.sz5, J.sz6, J.sz7, J.sz8, J.sz9, J.sz10, J.sz11, J.sz12, J.sz13, J.sz14, J.sz15, J.sz16, J.sz17, J.sz18, J.sz19, J.sz20, J.sz21, J.sz22, J.sz23, J.sz24, J.sz25, J.sz26, J.sz27, J.sz28, J.sz29, J.sz30, J.sz31, J.sz32, J.sz33, J.sz34, J.sz35, J.sz36, J.sz37, J.sz38, J.sz39, J.sz40, J.sz41, J.sz42, J.sz43, J.sz44, J.sz45, J.sz46, J.sz47, J.sz48, J.sz49, J.sz50, J.sz51, J.sz52, J.sz53, J.sz54, J.sz55, J.sz56, J.sz57, J.sz58, J.sz59, J.sz60, J.cast0, J.cast1, J.cast2, J.cast3, J.cast4, J.cast5, J.cast6, J.cast7, J.cast8, J.cast9, J.cast10, J.cast11, J.cast12, J.cast13, J.cast14, J.cast15, J.cast16, J.cast17, J.cast18, J.cast19, J.cast20, Int.reduceBEq, Int.reduceLT, Int.reduceNeg, Int.reduceAdd, Int.reduceSub, decide_true, decide_false, J.at0of1, J.at0of2, J.at1of2, J.at0of3, J.at1of3, J.at2of3, J.szl0, J.szl1, J.szl2, J.szl3, J.szl4, J.szl5, J.szl6, J.szl7, J.szl8, J.szl9, J.szl10, J.szl11, J.szl12, J.szl13, J.szl14, J.szl15, J.szl16, J.szl17, J.szl18, J.szl19, J.szl20, J.szl21, J.szl22, J.szl23, J.szl24, J.szl25, J.szl26, J.szl27, J.szl28, J.szl29, J.szl30, J.szl31, J.szl32, J.szl33, J.szl34, J.szl35, J.szl36, J.szl37, J.szl38, J.szl39, J.szl40, J.szl41, J.szl42, J.szl43, J.szl44, J.szl45, J.szl46, J.szl47, J.szl48, J.szl49, J.szl50, J.szl51, J.szl52, J.szl53, J.szl54, J.szl55, J.szl56, J.szl57, J.szl58, J.szl59, J.szl60, and_self, if_true, if_false, Bool.false_eq_true, Bool.and_true, Bool.true_and, Bool.not_true, Bool.not_false, List.cons_append, List.nil_append, Option.map_some, Nat.sub_self, Nat.zero_add, Nat.reduceAdd, Nat.reduceSub, Nat.reduceLT, List.set_cons_zero, List.set_cons_succ, Option.bind_some, J.psat_ok, J.psat_exc, J.psatS_ok, J.psatS_exc, J.psat_bnd, J.psatS_bndP, J.psatS_thP, J.seqP_nx, J.seqP_ret, J.seqP_brk, J.seqP_ct, J.finP_nx, J.finP_ret, J.turnP_nx, J.turnP_ct, J.turnP_brk, J.turnP_ret, id, fact1 (hf x hx)]
    · have := allB_map (fun _ => true) bs
      simp -implicitDefEqProofs -dsimp only [J.exPs, J.exP, J.evP, J.evPs, J.evPO, J.tstP, J.tsPOr, J.tsPAnd, J.evPAnd, J.evPOr, J.itP, J.rb_ok, J.rb_exc, J.bp_ok, J.bp_exc, J.th_nx, J.th_ret, J.th_brk, J.th_ct, J.th_exc, J.of_some, J.nr_non, J.nr_bl, J.nr_int, J.nr_str, J.nr_tup, J.nr_lst, J.nr_dic, J.nr_kls, J.nrs_nil, J.nrs_cons, J.gp_call, J.gp_glo, J.gp_isa, J.asg_name, J.asg_tup, J.asgTs, J.wipeE, J.truth_bl, J.truth_int, J.truth_tup, J.truth_lst, J.bin_add, J.bin_sub, J.cmp_eqI, J.cmp_neI, J.cmp_ltI, J.cmp_gtI, J.cmp_leI, J.cmp_geI, J.cmp_isN, J.cmp_isnotN, J.ix_lst, J.ix_tup, J.len_lst, J.len_tup, J.int_int, J.abs_int, J.btD, J.isNon, J.tupleB, J.listB, J.isiD, J.isTy, J.items?, List.map, List.length_cons, List.length_nil, List.replicate, List.getElem?_cons_zero, List.getElem?_cons_succ, J.sz0, J.sz1, J.sz2, J.sz3, J.sz4, J.sz5, J.sz6, J.sz7, J.sz8, J.sz9, J.sz10, J.sz11, J.sz12, J.sz13, J.sz14, J.sz15, J.sz16, J.sz17, J.sz18, J.sz19, J.sz20, J.sz21, J.sz22, J.sz23, J.sz24, J.sz25, J.sz26, J.sz27, J.sz28, J.sz29, J.sz30, J.sz31, J.sz32, J.sz33, J.sz34, J.sz35, J.sz36, J.sz37, J.sz38, J.sz39, J.sz40, J.sz41, J.sz42, J.sz43, J.sz44, J.sz45, J.sz46, J.sz47, J.sz48, J.sz49, J.sz50, J.sz51, J.sz52, J.sz53, J.sz54, J.sz55, J.sz56, J.sz57, J.sz58, J.sz59, J.sz60, J.cast0, J.cast1, J.cast2, J.cast3, J.cast4, J.cast5, J.cast6, J.cast7, J.cast8, J.cast9, J.cast10, J.cast11, J.cast12, J.cast13, J.cast14, J.cast15, J.cast16, J.cast17, J.cast18, J.cast19, J.cast20, Int.reduceBEq, Int.reduceLT, Int.reduceNeg, Int.reduceAdd, Int.reduceSub, decide_true, decide_false, J.at0of1, J.at0of2, J.at1of2, J.at0of3, J.at1of3, J.at2of3, J.szl0, J.szl1, J.szl2, J.szl3, J.szl4, J.szl5, J.szl6, J.szl7, J.szl8, J.szl9, J.szl10, J.szl11, J.szl12, J.szl13, J.szl14, J.szl15, J.szl16, J.szl17, J.szl18, J.szl19, J.szl20, J.szl21, J.szl22, J.szl23, J.szl24, J.szl25, J.szl26, J.szl27, J.szl28, J.szl29, J.szl30, J.szl31, J.szl32, J.szl33, J.szl34, J.szl35, J.szl36, J.szl37, J.szl38, J.szl39, J.szl40, J.szl41, J.szl42, J.szl43, J.szl44, J.szl45, J.szl46, J.szl47, J.szl48, J.szl49, J.szl50, J.szl51, J.szl52, J.szl53, J.szl54, J.szl55, J.szl56, J.szl57, J.szl58, J.szl59, J.szl60, and_self, if_true, if_false, Bool.false_eq_true, Bool.and_true, Bool.true_and, Bool.not_true, Bool.not_false, List.cons_append, List.nil_append, Option.map_some, Nat.sub_self, Nat.zero_add, Nat.reduceAdd, Nat.reduceSub, Nat.reduceLT, List.set_cons_zero, List.set_cons_succ, Option.bind_some, J.psat_ok, J.psat_exc, J.psatS_ok, J.psatS_exc, J.psat_bnd, J.psatS_bndP, J.psatS_thP, J.seqP_nx, J.seqP_ret, J.seqP_brk, J.seqP_ct, J.finP_nx, J.finP_ret, J.turnP_nx, J.turnP_ct, J.turnP_brk, J.turnP_ret, this, List.map_id]
      have e : (bs.all fun _ => true) = true := by simp
      rw [e]
      simp -implicitDefEqProofs -dsimp only [J.exPs, J.exP, J.evP, J.evPs, J.evPO, J.tstP, J.tsPOr, J.tsPAnd, J.evPAnd, J.evPOr, J.itP, J.rb_ok, J.rb_exc, J.bp_ok, J.bp_exc, J.th_nx, J.th_ret, J.th_brk, J.th_ct, J.th_exc, J.of_some, J.nr_non, J.nr_bl, J.nr_int, J.nr_str, J.nr_tup, J.nr_lst, J.nr_dic, J.nr_kls, J.nrs_nil, J.nrs_cons, J.gp_call, J.gp_glo, J.gp_isa, J.asg_name, J.asg_tup, J.asgTs, J.wipeE, J.truth_bl, J.truth_int, J.truth_tup, J.truth_lst, J.bin_add, J.bin_sub, J.cmp_eqI, J.cmp_neI, J.cmp_ltI, J.cmp_gtI, J.cmp_leI, J.cmp_geI, J.cmp_isN, J.cmp_isnotN, J.ix_lst, J.ix_tup, J.len_lst, J.len_tup, J.int_int, J.abs_int, J.btD, J.isNon, J.tupleB, J.listB, J.isiD, J.isTy, J.items?, List.map, List.length_cons, List.length_nil, List.replicate, List.getElem?_cons_zero, List.getElem?_cons_succ, J.sz0, J.sz1, J.sz2, J.sz3, J.sz4, J.sz5, J.sz6, J.sz7, J.sz8, J.sz9, J.sz10, J.sz11, J.sz12, J.sz13, J.sz14, J.sz15, J.sz16, J.sz17, J.sz18, J.sz19, J.sz20, J.sz21, J.sz22, J.sz23, J.sz24, J.sz25, J.sz26, J.sz27, J.sz28, J.sz29, J.sz30, J.sz31, J.sz32, J.sz33, J.sz34, J.sz35, J.sz36, J.sz37, J.sz38, J.sz39, J.sz40, J.sz41, J.sz42, J.sz43, J.sz44, J.sz45, J.sz46, J.sz47, J.sz48, J.sz49, J.sz50, J.sz51, J.sz52, J.sz53, J.sz54, J.sz55, J.sz56, J.sz57, J.sz58, J.sz59, J.sz60, J.cast0, J.cast1, J.cast2, J.cast3, J.cast4, J.cast5, J.cast6, J.cast7, J.cast8, J.cast9, J.cast10, J.cast11, J.cast12, J.cast13, J.cast14, J.cast15, J.cast16, J.cast17, J.cast18, J.cast19, J.cast20, Int.reduceBEq, Int.reduceLT, Int.reduceNeg, Int.reduceAdd, Int.reduceSub, decide_true, decide_false, J.at0of1, J.at0of2, J.at1of2, J.at0of3, J.at1of3, J.at2of3, J.szl0, J.szl1, J.szl2, J.szl3, J.szl4, J.szl5, J.szl6, J.szl7, J.szl8, J.szl9, J.szl10, J.szl11, J.szl12, J.szl13, J.szl14, J.szl15, J.szl16, J.szl17, J.szl18, J.szl19, J.szl20, J.szl21, J.szl22, J.szl23, J.szl24, J.szl25, J.szl26, J.szl27, J.szl28, J.szl29, J.szl30, J.szl31, J.szl32, J.szl33, J.szl34, J.szl35, J.szl36, J.szl37, J.szl38, J.szl39, J.szl40, J.szl41, J.szl42, J.szl43, J.szl44, J.szl45, J.szl46, J.szl47, J.szl48, J.szl49, J.szl50, J.szl51, J.szl52, J.szl53, J.szl54, J.szl55, J.szl56, J.szl57, J.szl58, J.szl59, J.szl60, and_self, if_true, if_false, Bool.false_eq_true, Bool.and_true, Bool.true_and, Bool.not_true, Bool.not_false, List.cons_append, List.nil_append, Option.map_some, Nat.sub_self, Nat.zero_add, Nat.reduceAdd, Nat.reduceSub, Nat.reduceLT, List.set_cons_zero, List.set_cons_succ, Option.bind_some, J.psat_ok, J.psat_exc, J.psatS_ok, J.psatS_exc, J.psat_bnd, J.psatS_bndP, J.psatS_thP, J.seqP_nx, J.seqP_ret, J.seqP_brk, J.seqP_ct, J.finP_nx, J.finP_ret, J.turnP_nx, J.turnP_ct, J.turnP_brk, J.turnP_ret, hx, asc_ok (cmpb_facts hf) (fun z hz => by obtain ⟨_, _, rfl, _⟩ := hf z hz; rfl) (fun z hz => by obtain ⟨_, _, rfl, _⟩ := hf z hz; rfl) ha (by omega)]
  refine callP_of (show Pr.fns[12]? = some ⟨2, 2, b12⟩ from rfl) rfl ?_
  simp -implicitDefEqProofs -dsimp only [J.exPs, J.exP, J.evP, J.evPs, J.evPO, J.tstP, J.tsPOr, J.tsPAnd, J.evPAnd, J.evPOr, J.itP, J.rb_ok, J.rb_exc, J.bp_ok, J.bp_exc, J.th_nx, J.th_ret, J.th_brk, J.th_ct, J.th_exc, J.of_some, J.nr_non, J.nr_bl, J.nr_int, J.nr_str, J.nr_tup, J.nr_lst, J.nr_dic, J.nr_kls, J.nrs_nil, J.nrs_cons, J.gp_call, J.gp_glo, J.gp_isa, J.asg_name, J.asg_tup, J.asgTs, J.wipeE, J.truth_bl, J.truth_int, J.truth_tup, J.truth_lst, J.bin_add, J.bin_sub, J.cmp_eqI, J.cmp_neI, J.cmp_ltI, J.cmp_gtI, J.cmp_leI, J.cmp_geI, J.cmp_isN, J.cmp_isnotN, J.ix_lst, J.ix_tup, J.len_lst, J.len_tup, J.int_int, J.abs_int, J.btD, J.isNon, J.tupleB, J.listB, J.isiD, J.isTy, J.items?, List.map, List.length_cons, List.length_nil, List.replicate, List.getElem?_cons_zero, List.getElem?_cons_succ, J.sz0, J.sz1, J.sz2, J.sz3, J.sz4, J.sz5, J.sz6, J.sz7, J.sz8, J.sz9, J.sz10, J.sz11, J.sz12, J.sz13, J.sz14, J.sz15, J.sz16, J.sz17, J.sz18, J.sz19, J.sz20, J.sz21, J.sz22, J.sz23, J.sz24, J.sz25, J.sz26, J.sz27, J.sz28, J.sz29, J.sz30, J.sz31, J.sz32, J.sz33, J.sz34, J.sz35, J.sz36, J.sz37, J.sz38, J.sz39, J.sz40, J.sz41, J.sz42, J.sz43, J.sz44, J.sz45, J.sz46, J.sz47, J.sz48, J.sz49, J.sz50, J.sz51, J.sz52, J.sz53, J.sz54, J.sz55, J.sz56, J.sz57, J.sz58, J.sz59, J.sz60, J.cast0, J.cast1, J.cast2, J.cast3, J.cast4, J.cast5, J.cast6, J.cast7, J.cast8, J.cast9, J.cast10, J.cast11, J.cast12, J.cast13, J.cast14, J.cast15, J.cast16, J.cast17, J.cast18, J.cast19, J.cast20, Int.reduceBEq, Int.reduceLT, Int.reduceNeg, Int.reduceAdd, Int.reduceSub, decide_true, decide_false, J.at0of1, J.at0of2, J.at1of2, J.at0of3, J.at1of3, J.at2of3, J.szl0, J.szl1, J.szl2, J.szl3, J.szl4, J.szl5, J.szl6, J.szl7, J.szl8, J.szl9, J.szl10, J.szl11, J.szl12, J.szl13, J.szl14, J.szl15, J.szl16, J.szl17, J.szl18, J.szl19, J.szl20, J.szl21, J.szl22, J.szl23, J.szl24, J.szl25, J.szl26, J.szl27, J.szl28, J.szl29, J.szl30, J.szl31, J.szl32, J.szl33, J.szl34, J.szl35, J.szl36, J.szl37, J.szl38, J.szl39, J.szl40, J.szl41, J.szl42, J.szl43, J.szl44, J.szl45, J.szl46, J.szl47, J.szl48, J.szl49, J.szl50, J.szl51, J.szl52, J.szl53, J.szl54, J.szl55, J.szl56, J.szl57, J.szl58, J.szl59, J.szl60, and_self, if_true, if_false, Bool.false_eq_true, Bool.and_true, Bool.true_and, Bool.not_true, Bool.not_false, List.cons_append, List.nil_append, Option.map_some, Nat.sub_self, Nat.zero_add, Nat.reduceAdd, Nat.reduceSub, Nat.reduceLT, List.set_cons_zero, List.set_cons_succ, Option.bind_some, J.psat_ok, J.psat_exc, J.psatS_ok, J.psatS_exc, J.psat_bnd, J.psatS_bndP, J.psatS_thP, J.seqP_nx, J.seqP_ret, J.seqP_brk, J.seqP_ct, J.finP_nx, J.finP_ret, J.turnP_nx, J.turnP_ct, J.turnP_brk, J.turnP_ret, b12, h11]
end L_k00

set_option maxHeartbeats 0
namespace L_k00
open PySem J
def nm4 : List Str := ["X", "Y", "Z", "U"]
theorem term1 {t : Term} (h : TermP nm4 t) : callP Pr 40 4 [encT t] = .ok (.bl true) := by
  have a : ((allTerms nm4).all fun t => isT (callP Pr 40 4 [encT t])) = true := by decide +kernel
  exact isT_at (List.all_eq_true.mp a t h.mem)
theorem atom1 {x : Atom} (h : AtomP sch0 nm4 x) : callP Pr 40 13 [sch, encA x] = .ok (.bl true) := by
  have a : ((allAtoms sch0 nm4).all fun x => isT (callP Pr 40 13 [sch, encA x])) = true := by decide +kernel
  exact isT_at (List.all_eq_true.mp a x h.mem)
theorem term1' {t : Term} (h : TermP nm4 t) : callP Pr 57 4 [encT t] = .ok (.bl true) := callP_more (term1 h) 57 (by decide)
theorem atom1' {x : Atom} (h : AtomP sch0 nm4 x) : callP Pr 57 13 [sch, encA x] = .ok (.bl true) := callP_more (atom1 h) 57 (by decide)
theorem strs_in {body : List Atom} (h : ∀ a ∈ body, AtomP sch0 nm4 a) {s : Str} (hs : s ∈ atomsStrs body) : s ∈ nm4 := by
  obtain ⟨l, hl, hs⟩ := List.mem_flatten.mp hs
  obtain ⟨a, ha, rfl⟩ := List.mem_map.mp hl
  exact (h a ha).2 _ (strsT_mem.mp hs)
theorem term_in {body : List Atom} (h : ∀ a ∈ body, AtomP sch0 nm4 a) {t : Term} (ht : TermP (atomsStrs body) t) : TermP nm4 t := by
  cases t with
  | cnt n => exact ht
  | vr s => exact strs_in h ht
theorem all_true {α : Type} {f : α → D} (xs : List α) : allB [.lst (xs.map fun _ => .bl true)] = some (.bl true) := by
  have := allB_map (fun _ => true) (xs.map fun _ => D.non)
  rw [List.map_map] at this
  have e : (xs.map fun _ => D.non).all (fun _ => true) = true := by simp
  rw [e] at this
  exact this
theorem all_true' {α : Type} (xs : List α) : allB [.lst (xs.map fun _ => .bl true)] = some (.bl true) := all_true (f := fun _ => D.non) xs
theorem query18' {head : List Term} {body : List Atom} (h : QueryP sch0 nm4 6 2 head body) : callP Pr 58 18 [sch, encQ head body] = .ok (.bl true) := by
  obtain ⟨h1, h2, h3, h4⟩ := h
  have hw : ∀ a ∈ body, a.ts.length ≤ 100 := fun a ha => by
    have := (h2 a ha).1
    simp only [sch0, List.mem_cons, Prod.mk.injEq, List.not_mem_nil, or_false] at this
    omega
  have h17 : callP Pr 57 17 [encQ head body] = .ok (.bl true) := by
    refine callP_of (show Pr.fns[17]? = some ⟨1, 3, b17⟩ from rfl) rfl ?_
    obtain ⟨ns, en, hn, _⟩ := srtS_strs (atomsStrs body)
    obtain ⟨hs, eh, hh, hhl⟩ := srtS_strs (strsT head)
    have q1 := varsOf_ok (k := 54) (head := head) (body := body) (by omega) hw
    have q2 := varsIn_ok (k := 55) (ts := head) (d := .tup (head.map encT)) (.inr rfl) (by omega)
    rw [en] at q1
    rw [eh] at q2
    simp -implicitDefEqProofs -dsimp only [J.exPs, J.exP, J.evP, J.evPs, J.evPO, J.tstP, J.tsPOr, J.tsPAnd, J.evPAnd, J.evPOr, J.itP, J.rb_ok, J.rb_exc, J.bp_ok, J.bp_exc, J.th_nx, J.th_ret, J.th_brk, J.th_ct, J.th_exc, J.of_some, J.nr_non, J.nr_bl, J.nr_int, J.nr_str, J.nr_tup, J.nr_lst, J.nr_dic, J.nr_kls, J.nrs_nil, J.nrs_cons, J.gp_call, J.gp_glo, J.gp_isa, J.asg_name, J.asg_tup, J.asgTs, J.wipeE, J.truth_bl, J.truth_int, J.truth_tup, J.truth_lst, J.bin_add, J.bin_sub, J.cmp_eqI, J.cmp_neI, J.cmp_ltI, J.cmp_gtI, J.cmp_leI, J.cmp_geI, J.cmp_isN, J.cmp_isnotN, J.ix_lst, J.ix_tup, J.len_lst, J.len_tup, J.int_int, J.abs_int, J.btD, J.isNon, J.tupleB, J.listB, J.isiD, J.isTy, J.items?, List.map, List.length_cons, List.length_nil, List.replicate, List.getElem?_cons_zero, List.getElem?_cons_succ, J.sz0, J.sz1, J.sz2, J.sz3, J.sz4, J.sz5, J.sz6, J.sz7, J.sz8, J.sz9, J.sz10, J.sz11, J.sz12, J.sz13, J.sz14, J.sz15, J.sz16, J.sz17, J.sz18, J.sz19, J.sz20, J.sz21, J.sz22, J.sz23, J.sz24, J.sz25, J.sz26, J.sz27, J.sz28, J.sz29, J.sz30, J.sz31, J.sz32, J.sz33, J.sz34, J.sz35, J.sz36, J.sz37, J.sz38, J.sz39, J.sz40, J.sz41, J.sz42, J.sz43, J.sz44, J.sz45, J.sz46, J.sz47, J.sz48, J.sz49, J.sz50, J.sz51, J.sz52, J.sz53, J.sz54, J.sz55, J.sz56, J.sz57, J.sz58, J.sz59, J.sz60, J.cast0, J.cast1, J.cast2, J.cast3, J.cast4, J.cast5, J.cast6, J.cast7, J.cast8, J.cast9, J.cast10, J.cast11, J.cast12, J.cast13, J.cast14, J.cast15, J.cast16, J.cast17, J.cast18, J.cast19, J.cast20, Int.reduceBEq, Int.reduceLT, Int.reduceNeg, Int.reduceAdd, Int.reduceSub, decide_true, decide_false, J.at0of1, J.at0of2, J.at1of2, J.at0of3, J.at1of3, J.at2of3, J.szl0, J.szl1, J.szl2, J.szl3, J.szl4, J.szl5, J.szl6, J.szl7, J.szl8, J.szl9, J.szl10, J.szl11, J.szl12, J.szl13, J.szl14, J.szl15, J.szl16, J.szl17, J.szl18, J.szl19, J.szl20, J.szl21, J.szl22, J.szl23, J.szl24, J.szl25, J.szl26, J.szl27, J.szl28, J.szl29, J.szl30, J.szl31, J.szl32, J.szl33, J.szl34, J.szl35, J.szl36, J.szl37, J.szl38, J.szl39, J.szl40, J.szl41, J.szl42, J.szl43, J.szl44, J.szl45, J.szl46, J.szl47, J.szl48, J.szl49, J.szl50, J.szl51, J.szl52, J.szl53, J.szl54, J.szl55, J.szl56, J.szl57, J.szl58, J.szl59, J.szl60, and_self, if_true, if_false, Bool.false_eq_true, Bool.and_true, Bool.true_and, Bool.not_true, Bool.not_false, List.cons_append, List.nil_append, Option.map_some, Nat.sub_self, Nat.zero_add, Nat.reduceAdd, Nat.reduceSub, Nat.reduceLT, List.set_cons_zero, List.set_cons_succ, Option.bind_some, J.psat_ok, J.psat_exc, J.psatS_ok, J.psatS_exc, J.psat_bnd, J.psatS_bndP, J.psatS_thP, J.seqP_nx, J.seqP_ret, J.seqP_brk, J.seqP_ct, J.finP_nx, J.finP_ret, J.turnP_nx, J.turnP_ct, J.turnP_brk, J.turnP_ret, b17, q1]
    simp -implicitDefEqProofs -dsimp only [J.exPs, J.exP, J.evP, J.evPs, J.evPO, J.tstP, J.tsPOr, J.tsPAnd, J.evPAnd, J.evPOr, J.itP, J.rb_ok, J.rb_exc, J.bp_ok, J.bp_exc, J.th_nx, J.th_ret, J.th_brk, J.th_ct, J.th_exc, J.of_some, J.nr_non, J.nr_bl, J.nr_int, J.nr_str, J.nr_tup, J.nr_lst, J.nr_dic, J.nr_kls, J.nrs_nil, J.nrs_cons, J.gp_call, J.gp_glo, J.gp_isa, J.asg_name, J.asg_tup, J.asgTs, J.wipeE, J.truth_bl, J.truth_int, J.truth_tup, J.truth_lst, J.bin_add, J.bin_sub, J.cmp_eqI, J.cmp_neI, J.cmp_ltI, J.cmp_gtI, J.cmp_leI, J.cmp_geI, J.cmp_isN, J.cmp_isnotN, J.ix_lst, J.ix_tup, J.len_lst, J.len_tup, J.int_int, J.abs_int, J.btD, J.isNon, J.tupleB, J.listB, J.isiD, J.isTy, J.items?, List.map, List.length_cons, List.length_nil, List.replicate, List.getElem?_cons_zero, List.getElem?_cons_succ, J.sz0, J.sz1, J.sz2, J.sz3, J.sz4, J.sz5, J.sz6, J.sz7, J.sz8, J.sz9, J.sz10, J.sz11, J.sz12, J.sz13, J.sz14, J.sz15, J.sz16, J.sz17, J.sz18, J.sz19, J.sz20, J.sz21, J.sz22, J.sz23, J.sz24, J.sz25, J.sz26, J.sz27, J.sz28, J.sz29, J.sz30, J.sz31, J.sz32, J.sz33, J.sz34, J.sz35, J.sz36, J.sz37, J.sz38, J.sz39, J.sz40, J.sz41, J.sz42, J.sz43, J.sz44, J.sz45, J.sz46, J.sz47, J.sz48, J.sz49, J.sz50, J.sz51, J.sz52, J.sz53, J.sz54, J.sz55, J.sz56, J.sz57, J.sz58, J.sz59, J.sz60, J.cast0, J.cast1, J.cast2, J.cast3, J.cast4, J.cast5, J.cast6, J.cast7, J.cast8, J.cast9, J.cast10, J.cast11, J.cast12, J.cast13, J.cast14, J.cast15, J.cast16, J.cast17, J.cast18, J.cast19, J.cast20, Int.reduceBEq, Int.reduceLT, Int.reduceNeg, Int.reduceAdd, Int.reduceSub, decide_true, decide_false, J.at0of1, J.at0of2, J.at1of2, J.at0of3, J.at1of3, J.at2of3, J.szl0, J.szl1, J.szl2, J.szl3, J.szl4, J.szl5, J.szl6, J.szl7, J.szl8, J.szl9, J.szl10, J.szl11, J.szl12, J.szl13, J.szl14, J.szl15, J.szl16, J.szl17, J.szl18, J.szl19, J.szl20, J.szl21, J.szl22, J.szl23, J.szl24, J.szl25, J.szl26, J.szl27, J.szl28, J.szl29, J.szl30, J.szl31, J.szl32, J.szl33, J.szl34, J.szl35, J.szl36, J.szl37, J.szl38, J.szl39, J.szl40, J.szl41, J.szl42, J.szl43, J.szl44, J.szl45, J.szl46, J.szl47, J.szl48, J.szl49, J.szl50, J.szl51, J.szl52, J.szl53, J.szl54, J.szl55, J.szl56, J.szl57, J.szl58, J.szl59, J.szl60, and_self, if_true, if_false, Bool.false_eq_true, Bool.and_true, Bool.true_and, Bool.not_true, Bool.not_false, List.cons_append, List.nil_append, Option.map_some, Nat.sub_self, Nat.zero_add, Nat.reduceAdd, Nat.reduceSub, Nat.reduceLT, List.set_cons_zero, List.set_cons_succ, Option.bind_some, J.psat_ok, J.psat_exc, J.psatS_ok, J.psatS_exc, J.psat_bnd, J.psatS_bndP, J.psatS_thP, J.seqP_nx, J.seqP_ret, J.seqP_brk, J.seqP_ct, J.finP_nx, J.finP_ret, J.turnP_nx, J.turnP_ct, J.turnP_brk, J.turnP_ret, encQ, at0of2, q2]
    have l2 := strsT_le head
    refine psat_lcA (fun _ => .bl true) (by unfold SZ; omega) (fun s hs' => ?_) ?_
    · have hin : s ∈ ns := (hn s).mpr (h4 (.vr s) (strsT_mem.mp ((hh s).mp hs')))
      simp -implicitDefEqProofs -dsimp only [J.exPs, J.exP, J.evP, J.evPs, J.evPO, J.tstP, J.tsPOr, J.tsPAnd, J.evPAnd, J.evPOr, J.itP, J.rb_ok, J.rb_exc, J.bp_ok, J.bp_exc, J.th_nx, J.th_ret, J.th_brk, J.th_ct, J.th_exc, J.of_some, J.nr_non, J.nr_bl, J.nr_int, J.nr_str, J.nr_tup, J.nr_lst, J.nr_dic, J.nr_kls, J.nrs_nil, J.nrs_cons, J.gp_call, J.gp_glo, J.gp_isa, J.asg_name, J.asg_tup, J.asgTs, J.wipeE, J.truth_bl, J.truth_int, J.truth_tup, J.truth_lst, J.bin_add, J.bin_sub, J.cmp_eqI, J.cmp_neI, J.cmp_ltI, J.cmp_gtI, J.cmp_leI, J.cmp_geI, J.cmp_isN, J.cmp_isnotN, J.ix_lst, J.ix_tup, J.len_lst, J.len_tup, J.int_int, J.abs_int, J.btD, J.isNon, J.tupleB, J.listB, J.isiD, J.isTy, J.items?, List.map, List.length_cons, List.length_nil, List.replicate, List.getElem?_cons_zero, List.getElem?_cons_succ, J.sz0, J.sz1, J.sz2, J.sz3, J.sz4, J.sz5, J.sz6, J.sz7, J.sz8, J.sz9, J.sz10, J.sz11, J.sz12, J.sz13, J.sz14, J.sz15, J.sz16, J.sz17, J.sz18, J.sz19, J.sz20, J.sz21, J.sz22, J.sz23, J.sz24, J.sz25, J.sz26, J.sz27, J.sz28, J.sz29, J.sz30, J.sz31, J.sz32, J.sz33, J.sz34, J.sz35, J.sz36, J.sz37, J.sz38, J.sz39, J.sz40, J.sz41, J.sz42, J.sz43, J.sz44, J.sz45, J.sz46, J.sz47, J.sz48, J.sz49, J.sz50, J.sz51, J.sz52, J.sz53, J.sz54, J.sz55, J.sz56, J.sz57, J.sz58, J.sz59, J.sz60, J.cast0, J.cast1, J.cast2, J.cast3, J.cast4, J.cast5, J.cast6, J.cast7, J.cast8, J.cast9, J.cast10, J.cast11, J.cast12, J.cast13, J.cast14, J.cast15, J.cast16, J.cast17, J.cast18, J.cast19, J.cast20, Int.reduceBEq, Int.reduceLT, Int.reduceNeg, Int.reduceAdd, Int.reduceSub, decide_true, decide_false, J.at0of1, J.at0of2, J.at1of2, J.at0of3, J.at1of3, J.at2of3, J.szl0, J.szl1, J.szl2, J.szl3, J.szl4, J.szl5, J.szl6, J.szl7, J.szl8, J.szl9, J.szl10, J.szl11, J.szl12, J.szl13, J.szl14, J.szl15, J.szl16, J.szl17, J.szl18, J.szl19, J.szl20, J.szl21, J.szl22, J.szl23, J.szl24, J.szl25, J.szl26, J.szl27, J.szl28, J.szl29, J.szl30, J.szl31, J.szl32, J.szl33, J.szl34, J.szl35, J.szl36, J.szl37, J.szl38, J.szl39, J.szl40, J.szl41, J.szl42, J.szl43, J.szl44, J.szl45, J.szl46, J.szl47, J.szl48, J.szl49, J.szl50, J.szl51, J.szl52, J.szl53, J.szl54, J.szl55, J.szl56, J.szl57, J.szl58, J.szl59, J.szl60, and_self, if_true, if_false, Bool.false_eq_true, Bool.and_true, Bool.true_and, Bool.not_true, Bool.not_false, List.cons_append, List.nil_append, Option.map_some, Nat.sub_self, Nat.zero_add, Nat.reduceAdd, Nat.reduceSub, Nat.reduceLT, List.set_cons_zero, List.set_cons_succ, Option.bind_some, J.psat_ok, J.psat_exc, J.psatS_ok, J.psatS_exc, J.psat_bnd, J.psatS_bndP, J.psatS_thP, J.seqP_nx, J.seqP_ret, J.seqP_brk, J.seqP_ct, J.finP_nx, J.finP_ret, J.turnP_nx, J.turnP_ct, J.turnP_brk, J.turnP_ret, cmpD, in_tupS, decide_eq_true hin]
    · simp -implicitDefEqProofs -dsimp only [J.exPs, J.exP, J.evP, J.evPs, J.evPO, J.tstP, J.tsPOr, J.tsPAnd, J.evPAnd, J.evPOr, J.itP, J.rb_ok, J.rb_exc, J.bp_ok, J.bp_exc, J.th_nx, J.th_ret, J.th_brk, J.th_ct, J.th_exc, J.of_some, J.nr_non, J.nr_bl, J.nr_int, J.nr_str, J.nr_tup, J.nr_lst, J.nr_dic, J.nr_kls, J.nrs_nil, J.nrs_cons, J.gp_call, J.gp_glo, J.gp_isa, J.asg_name, J.asg_tup, J.asgTs, J.wipeE, J.truth_bl, J.truth_int, J.truth_tup, J.truth_lst, J.bin_add, J.bin_sub, J.cmp_eqI, J.cmp_neI, J.cmp_ltI, J.cmp_gtI, J.cmp_leI, J.cmp_geI, J.cmp_isN, J.cmp_isnotN, J.ix_lst, J.ix_tup, J.len_lst, J.len_tup, J.int_int, J.abs_int, J.btD, J.isNon, J.tupleB, J.listB, J.isiD, J.isTy, J.items?, List.map, List.length_cons, List.length_nil, List.replicate, List.getElem?_cons_zero, List.getElem?_cons_succ, J.sz0, J.sz1, J.sz2, J.sz3, J.sz4, J.sz5, J.sz6, J.sz7, J.sz8, J.sz9, J.sz10, J.sz11, J.sz12, J.sz13, J.sz14, J.sz15, J.sz16, J.sz17, J.sz18, J.sz19, J.sz20, J.sz21, J.sz22, J.sz23, J.sz24, J.sz25, J.sz26, J.sz27, J.sz28, J.sz29, J.sz30, J.sz31, J.sz32, J.sz33, J.sz34, J.sz35, J.sz36, J.sz37, J.sz38, J.sz39, J.sz40, J.sz41, J.sz42, J.sz43, J.sz44, J.sz45, J.sz46, J.sz47, J.sz48, J.sz49, J.sz50, J.sz51, J.sz52, J.sz53, J.sz54, J.sz55, J.sz56, J.sz57, J.sz58, J.sz59, J.sz60, J.cast0, J.cast1, J.cast2, J.cast3, J.cast4, J.cast5, J.cast6, J.cast7, J.cast8, J.cast9, J.cast10, J.cast11, J.cast12, J.cast13, J.cast14, J.cast15, J.cast16, J.cast17, J.cast18, J.cast19, J.cast20, Int.reduceBEq, Int.reduceLT, Int.reduceNeg, Int.reduceAdd, Int.reduceSub, decide_true, decide_false, J.at0of1, J.at0of2, J.at1of2, J.at0of3, J.at1of3, J.at2of3, J.szl0, J.szl1, J.szl2, J.szl3, J.szl4, J.szl5, J.szl6, J.szl7, J.szl8, J.szl9, J.szl10, J.szl11, J.szl12, J.szl13, J.szl14, J.szl15, J.szl16, J.szl17, J.szl18, J.szl19, J.szl20, J.szl21, J.szl22, J.szl23, J.szl24, J.szl25, J.szl26, J.szl27, J.szl28, J.szl29, J.szl30, J.szl31, J.szl32, J.szl33, J.szl34, J.szl35, J.szl36, J.szl37, J.szl38, J.szl39, J.szl40, J.szl41, J.szl42, J.szl43, J.szl44, J.szl45, J.szl46, J.szl47, J.szl48, J.szl49, J.szl50, J.szl51, J.szl52, J.szl53, J.szl54, J.szl55, J.szl56, J.szl57, J.szl58, J.szl59, J.szl60, and_self, if_true, if_false, Bool.false_eq_true, Bool.and_true, Bool.true_and, Bool.not_true, Bool.not_false, List.cons_append, List.nil_append, Option.map_some, Nat.sub_self, Nat.zero_add, Nat.reduceAdd, Nat.reduceSub, Nat.reduceLT, List.set_cons_zero, List.set_cons_succ, Option.bind_some, J.psat_ok, J.psat_exc, J.psatS_ok, J.psatS_exc, J.psat_bnd, J.psatS_bndP, J.psatS_thP, J.seqP_nx, J.seqP_ret, J.seqP_brk, J.seqP_ct, J.finP_nx, J.finP_ret, J.turnP_nx, J.turnP_ct, J.turnP_brk, J.turnP_ret, all_true' hs]
  refine callP_of (show Pr.fns[18]? = some ⟨2, 4, b18⟩ from rfl) rfl ?_
  have lh : ¬ (4 : Int) < (head.length : Int) := by omega
  have lb : ¬ (6 : Int) < (body.length : Int) := by omega
  have g1 : Pr.glos[1]? = some (.int 4) := rfl
  have g2 : Pr.glos[2]? = some (.int 6) := rfl
  unfold encQ at h17 ⊢
  simp -implicitDefEqProofs -dsimp only [J.exPs, J.exP, J.evP, J.evPs, J.evPO, J.tstP, J.tsPOr, J.tsPAnd, J.evPAnd, J.evPOr, J.itP, J.rb_ok, J.rb_exc, J.bp_ok, J.bp_exc, J.th_nx, J.th_ret, J.th_brk, J.th_ct, J.th_exc, J.of_some, J.nr_non, J.nr_bl, J.nr_int, J.nr_str, J.nr_tup, J.nr_lst, J.nr_dic, J.nr_kls, J.nrs_nil, J.nrs_cons, J.gp_call, J.gp_glo, J.gp_isa, J.asg_name, J.asg_tup, J.asgTs, J.wipeE, J.truth_bl, J.truth_int, J.truth_tup, J.truth_lst, J.bin_add, J.bin_sub, J.cmp_eqI, J.cmp_neI, J.cmp_ltI, J.cmp_gtI, J.cmp_leI, J.cmp_geI, J.cmp_isN, J.cmp_isnotN, J.ix_lst, J.ix_tup, J.len_lst, J.len_tup, J.int_int, J.abs_int, J.btD, J.isNon, J.tupleB, J.listB, J.isiD, J.isTy, J.items?, List.map, List.length_cons, List.length_nil, List.replicate, List.getElem?_cons_zero, List.getElem?_cons_succ, J.sz0, J.sz1, J.sz2, J.sz3, J.sz4, J.sz5, J.sz6, J.sz7, J.sz8, J.sz9, J.sz10, J.sz11, J.sz12, J.sz13, J.sz14, J.sz15, J.sz16, J.sz17, J.sz18, J.sz19, J.sz20, J.sz21, J.sz22, J.sz23, J.sz24, J.sz25, J.sz26, J.sz27, J.sz28, J.sz29, J.sz30, J.sz31, J.sz32, J.sz33, J.sz34, J.sz35, J.sz36, J.sz37, J.sz38, J.sz39, J.sz40, J.sz41, J.sz42, J.sz43, J.sz44, J.sz45, J.sz46, J.sz47, J.sz48, J.sz49, J.sz50, J.sz51, J.sz52, J.sz53, J.sz54, J.sz55, J.sz56, J.sz57, J.sz58, J.sz59, J.sz60, J.cast0, J.cast1, J.cast2, J.cast3, J.cast4, J.cast5, J.cast6, J.cast7, J.cast8, J.cast9, J.cast10, J.cast11, J.cast12, J.cast13, J.cast14, J.cast15, J.cast16, J.cast17, J.cast18, J.cast19, J.cast20, Int.reduceBEq, Int.reduceLT, Int.reduceNeg, Int.reduceAdd, Int.reduceSub, decide_true, decide_false, J.at0of1, J.at0of2, J.at1of2, J.at0of3, J.at1of3, J.at2of3, J.szl0, J.szl1, J.szl2, J.szl3, J.szl4, J.szl5, J.szl6, J.szl7, J.szl8, J.szl9, J.szl10, J.szl11, J.szl12, J.szl13, J.szl14, J.szl15, J.szl16, J.szl17, J.szl18, J.szl19, J.szl20, J.szl21, J.szl22, J.szl23, J.szl24, J.szl25, J.szl26, J.szl27, J.szl28, J.szl29, J.szl30, J.szl31, J.szl32, J.szl33, J.szl34, J.szl35, J.szl36, J.szl37, J.szl38, J.szl39, J.szl40, J.szl41, J.szl42, J.szl43, J.szl44, J.szl45, J.szl46, J.szl47, J.szl48, J.szl49, J.szl50, J.szl51, J.szl52, J.szl53, J.szl54, J.szl55, J.szl56, J.szl57, J.szl58, J.szl59, J.szl60, and_self, if_true, if_false, Bool.false_eq_true, Bool.and_true, Bool.true_and, Bool.not_true, Bool.not_false, List.cons_append, List.nil_append, Option.map_some, Nat.sub_self, Nat.zero_add, Nat.reduceAdd, Nat.reduceSub, Nat.reduceLT, List.set_cons_zero, List.set_cons_succ, Option.bind_some, J.psat_ok, J.psat_exc, J.psatS_ok, J.psatS_exc, J.psat_bnd, J.psatS_bndP, J.psatS_thP, J.seqP_nx, J.seqP_ret, J.seqP_brk, J.seqP_ct, J.finP_nx, J.finP_ret, J.turnP_nx, J.turnP_ct, J.turnP_brk, J.turnP_ret, b18, at0of2, at1of2, g1, g2, List.length_map, decide_eq_false lh, decide_eq_false lb]
  refine psat_lcA (fun _ => .bl true) (by unfold SZ; omega) (fun t ht => ?_) ?_
  · simp -implicitDefEqProofs -dsimp only [J.exPs, J.exP, J.evP, J.evPs, J.evPO, J.tstP, J.tsPOr, J.tsPAnd, J.evPAnd, J.evPOr, J.itP, J.rb_ok, J.rb_exc, J.bp_ok, J.bp_exc, J.th_nx, J.th_ret, J.th_brk, J.th_ct, J.th_exc, J.of_some, J.nr_non, J.nr_bl, J.nr_int, J.nr_str, J.nr_tup, J.nr_lst, J.nr_dic, J.nr_kls, J.nrs_nil, J.nrs_cons, J.gp_call, J.gp_glo, J.gp_isa, J.asg_name, J.asg_tup, J.asgTs, J.wipeE, J.truth_bl, J.truth_int, J.truth_tup, J.truth_lst, J.bin_add, J.bin_sub, J.cmp_eqI, J.cmp_neI, J.cmp_ltI, J.cmp_gtI, J.cmp_leI, J.cmp_geI, J.cmp_isN, J.cmp_isnotN, J.ix_lst, J.ix_tup, J.len_lst, J.len_tup, J.int_int, J.abs_int, J.btD, J.isNon, J.tupleB, J.listB, J.isiD, J.isTy, J.items?, List.map, List.length_cons, List.length_nil, List.replicate, List.getElem?_cons_zero, List.getElem?_cons_succ, J.sz0, J.sz1, J.sz2, J.sz3, J.sz4, J.sz5, J.sz6, J.sz7, J.sz8, J.sz9, J.sz10, J.sz11, J.sz12, J.sz13, J.sz14, J.sz15, J.sz16, J.sz17, J.sz18, J.sz19, J.sz20, J.sz21, J.sz22, J.sz23, J.sz24, J.sz25, J.sz26, J.sz27, J.sz28, J.sz29, J.sz30, J.sz31, J.sz32, J.sz33, J.sz34, J.sz35, J.sz36, J.sz37, J.sz38, J.sz39, J.sz40, J.sz41, J.sz42, J.sz43, J.sz44, J.sz45, J.sz46, J.sz47, J.sz48, J.sz49, J.sz50, J.sz51, J.sz52, J.sz53, J.sz54, J.sz55, J.sz56, J.sz57, J.sz58, J.sz59, J.sz60, J.cast0, J.cast1, J.cast2, J.cast3, J.cast4, J.cast5, J.cast6, J.cast7, J.cast8, J.cast9, J.cast10, J.cast11, J.cast12, J.cast13, J.cast14, J.cast15, J.cast16, J.cast17, J.cast18, J.cast19, J.cast20, Int.reduceBEq, Int.reduceLT, Int.reduceNeg, Int.reduceAdd, Int.reduceSub, decide_true, decide_false, J.at0of1, J.at0of2, J.at1of2, J.at0of3, J.at1of3, J.at2of3, J.szl0, J.szl1, J.szl2, J.szl3, J.szl4, J.szl5, J.szl6, J.szl7, J.szl8, J.szl9, J.szl10, J.szl11, J.szl12, J.szl13, J.szl14, J.szl15, J.szl16, J.szl17, J.szl18, J.szl19, J.szl20, J.szl21, J.szl22, J.szl23, J.szl24, J.szl25, J.szl26, J.szl27, J.szl28, J.szl29, J.szl30, J.szl31, J.szl32, J.szl33, J.szl34, J.szl35, J.szl36, J.szl37, J.szl38, J.szl39, J.szl40, J.szl41, J.szl42, J.szl43, J.szl44, J.szl45, J.szl46, J.szl47, J.szl48, J.szl49, J.szl50, J.szl51, J.szl52, J.szl53, J.szl54, J.szl55, J.szl56, J.szl57, J.szl58, J.szl59, J.szl60, and_self, if_true, if_false, Bool.false_eq_true, Bool.and_true, Bool.true_and, Bool.not_true, Bool.not_false, List.cons_append, List.nil_append, Option.map_some, Nat.sub_self, Nat.zero_add, Nat.reduceAdd, Nat.reduceSub, Nat.reduceLT, List.set_cons_zero, List.set_cons_succ, Option.bind_some, J.psat_ok, J.psat_exc, J.psatS_ok, J.psatS_exc, J.psat_bnd, J.psatS_bndP, J.psatS_thP, J.seqP_nx, J.seqP_ret, J.seqP_brk, J.seqP_ct, J.finP_nx, J.finP_ret, J.turnP_nx, J.turnP_ct, J.turnP_brk, J.turnP_ret, term1' (term_in h2 (h4 t ht))]
  · simp -implicitDefEqProofs -dsimp only [J.exPs, J.exP, J.evP, J.evPs, J.evPO, J.tstP, J.tsPOr, J.tsPAnd, J.evPAnd, J.evPOr, J.itP, J.rb_ok, J.rb_exc, J.bp_ok, J.bp_exc, J.th_nx, J.th_ret, J.th_brk, J.th_ct, J.th_exc, J.of_some, J.nr_non, J.nr_bl, J.nr_int, J.nr_str, J.nr_tup, J.nr_lst, J.nr_dic, J.nr_kls, J.nrs_nil, J.nrs_cons, J.gp_call, J.gp_glo, J.gp_isa, J.asg_name, J.asg_tup, J.asgTs, J.wipeE, J.truth_bl, J.truth_int, J.truth_tup, J.truth_lst, J.bin_add, J.bin_sub, J.cmp_eqI, J.cmp_neI, J.cmp_ltI, J.cmp_gtI, J.cmp_leI, J.cmp_geI, J.cmp_isN, J.cmp_isnotN, J.ix_lst, J.ix_tup, J.len_lst, J.len_tup, J.int_int, J.abs_int, J.btD, J.isNon, J.tupleB, J.listB, J.isiD, J.isTy, J.items?, List.map, List.length_cons, List.length_nil, List.replicate, List.getElem?_cons_zero, List.getElem?_cons_succ, J.sz0, J.sz1, J.sz2, J.sz3, J.sz4, J.sz5, J.sz6, J.sz7, J.sz8, J.sz9, J.sz10, J.sz11, J.sz12, J.sz13, J.sz14, J.sz15, J.sz16, J.sz17, J.sz18, J.sz19, J.sz20, J.sz21, J.sz22, J.sz23, J.sz24, J.sz25, J.sz26, J.sz27, J.sz28, J.sz29, J.sz30, J.sz31, J.sz32, J.sz33, J.sz34, J.sz35, J.sz36, J.sz37, J.sz38, J.sz39, J.sz40, J.sz41, J.sz42, J.sz43, J.sz44, J.sz45, J.sz46, J.sz47, J.sz48, J.sz49, J.sz50, J.sz51, J.sz52, J.sz53, J.sz54, J.sz55, J.sz56, J.sz57, J.sz58, J.sz59, J.sz60, J.cast0, J.cast1, J.cast2, J.cast3, J.cast4, J.cast5, J.cast6, J.cast7, J.cast8, J.cast9, J.cast10, J.cast11, J.cast12, J.cast13, J.cast14, J.cast15, J.cast16, J.cast17, J.cast18, J.cast19, J.cast20, Int.reduceBEq, Int.reduceLT, Int.reduceNeg, Int.reduceAdd, Int.reduceSub, decide_true, decide_false, J.at0of1, J.at0of2, J.at1of2, J.at0of3, J.at1of3, J.at2of3, J.szl0, J.szl1, J.szl2, J.szl3, J.szl4, J.szl5, J.szl6, J.szl7, J.szl8, J.szl9, J.szl10, J.szl11, J.szl12, J.szl13, J.szl14, J.szl15, J.szl16, J.szl17, J.szl18, J.szl19, J.szl20, J.szl21, J.szl22, J.szl23, J.szl24, J.szl25, J.szl26, J.szl27, J.szl28, J.szl29, J.szl30, J.szl31, J.szl32, J.szl33, J.szl34, J.szl35, J.szl36, J.szl37, J.szl38, J.szl39, J.szl40, J.szl41, J.szl42, J.szl43, J.szl44, J.szl45, J.szl46, J.szl47, J.szl48, J.szl49, J.szl50, J.szl51, J.szl52, J.szl53, J.szl54, J.szl55, J.szl56, J.szl57, J.szl58, J.szl59, J.szl60, and_self, if_true, if_false, Bool.false_eq_true, Bool.and_true, Bool.true_and, Bool.not_true, Bool.not_false, List.cons_append, List.nil_append, Option.map_some, Nat.sub_self, Nat.zero_add, Nat.reduceAdd, Nat.reduceSub, Nat.reduceLT, List.set_cons_zero, List.set_cons_succ, Option.bind_some, J.psat_ok, J.psat_exc, J.psatS_ok, J.psatS_exc, J.psat_bnd, J.psatS_bndP, J.psatS_thP, J.seqP_nx, J.seqP_ret, J.seqP_brk, J.seqP_ct, J.finP_nx, J.finP_ret, J.turnP_nx, J.turnP_ct, J.turnP_brk, J.turnP_ret, all_true' head, g2, List.length_map, decide_eq_false lb]
    refine psat_lcA (fun _ => .bl true) (by unfold SZ; omega) (fun a ha => ?_) ?_
    · simp -implicitDefEqProofs -dsimp only [J.exPs, J.exP, J.evP, J.evPs, J.evPO, J.tstP, J.tsPOr, J.tsPAnd, J.evPAnd, J.evPOr, J.itP, J.rb_ok, J.rb_exc, J.bp_ok, J.bp_exc, J.th_nx, J.th_ret, J.th_brk, J.th_ct, J.th_exc, J.of_some, J.nr_non, J.nr_bl, J.nr_int, J.nr_str, J.nr_tup, J.nr_lst, J.nr_dic, J.nr_kls, J.nrs_nil, J.nrs_cons, J.gp_call, J.gp_glo, J.gp_isa, J.asg_name, J.asg_tup, J.asgTs, J.wipeE, J.truth_bl, J.truth_int, J.truth_tup, J.truth_lst, J.bin_add, J.bin_sub, J.cmp_eqI, J.cmp_neI, J.cmp_ltI, J.cmp_gtI, J.cmp_leI, J.cmp_geI, J.cmp_isN, J.cmp_isnotN, J.ix_lst, J.ix_tup, J.len_lst, J.len_tup, J.int_int, J.abs_int, J.btD, J.isNon, J.tupleB, J.listB, J.isiD, J.isTy, J.items?, List.map, List.length_cons, List.length_nil, List.replicate, List.getElem?_cons_zero, List.getElem?_cons_succ, J.sz0, J.sz1, J.sz2, J.sz3, J.sz4, J.sz5, J.sz6, J.sz7, J.sz8, J.sz9, J.sz10, J.sz11, J.sz12, J.sz13, J.sz14, J.sz15, J.sz16, J.sz17, J.sz18, J.sz19, J.sz20, J.sz21, J.sz22, J.sz23, J.sz24, J.sz25, J.sz26, J.sz27, J.sz28, J.sz29, J.sz30, J.sz31, J.sz32, J.sz33, J.sz34, J.sz35, J.sz36, J.sz37, J.sz38, J.sz39, J.sz40, J.sz41, J.sz42, J.sz43, J.sz44, J.sz45, J.sz46, J.sz47, J.sz48, J.sz49, J.sz50, J.sz51, J.sz52, J.sz53, J.sz54, J.sz55, J.sz56, J.sz57, J.sz58, J.sz59, J.sz60, J.cast0, J.cast1, J.cast2, J.cast3, J.cast4, J.cast5, J.cast6, J.cast7, J.cast8, J.cast9, J.cast10, J.cast11, J.cast12, J.cast13, J.cast14, J.cast15, J.cast16, J.cast17, J.cast18, J.cast19, J.cast20, Int.reduceBEq, Int.reduceLT, Int.reduceNeg, Int.reduceAdd, Int.reduceSub, decide_true, decide_false, J.at0of1, J.at0of2, J.at1of2, J.at0of3, J.at1of3, J.at2of3, J.szl0, J.szl1, J.szl2, J.szl3, J.szl4, J.szl5, J.szl6, J.szl7, J.szl8, J.szl9, J.szl10, J.szl11, J.szl12, J.szl13, J.szl14, J.szl15, J.szl16, J.szl17, J.szl18, J.szl19, J.szl20, J.szl21, J.szl22, J.szl23, J.szl24, J.szl25, J.szl26, J.szl27, J.szl28, J.szl29, J.szl30, J.szl31, J.szl32, J.szl33, J.szl34, J.szl35, J.szl36, J.szl37, J.szl38, J.szl39, J.szl40, J.szl41, J.szl42, J.szl43, J.szl44, J.szl45, J.szl46, J.szl47, J.szl48, J.szl49, J.szl50, J.szl51, J.szl52, J.szl53, J.szl54, J.szl55, J.szl56, J.szl57, J.szl58, J.szl59, J.szl60, and_self, if_true, if_false, Bool.false_eq_true, Bool.and_true, Bool.true_and, Bool.not_true, Bool.not_false, List.cons_append, List.nil_append, Option.map_some, Nat.sub_self, Nat.zero_add, Nat.reduceAdd, Nat.reduceSub, Nat.reduceLT, List.set_cons_zero, List.set_cons_succ, Option.bind_some, J.psat_ok, J.psat_exc, J.psatS_ok, J.psatS_exc, J.psat_bnd, J.psatS_bndP, J.psatS_thP, J.seqP_nx, J.seqP_ret, J.seqP_brk, J.seqP_ct, J.finP_nx, J.finP_ret, J.turnP_nx, J.turnP_ct, J.turnP_brk, J.turnP_ret, atom1' (h2 a ha)]
    · simp -implicitDefEqProofs -dsimp only [J.exPs, J.exP, J.evP, J.evPs, J.evPO, J.tstP, J.tsPOr, J.tsPAnd, J.evPAnd, J.evPOr, J.itP, J.rb_ok, J.rb_exc, J.bp_ok, J.bp_exc, J.th_nx, J.th_ret, J.th_brk, J.th_ct, J.th_exc, J.of_some, J.nr_non, J.nr_bl, J.nr_int, J.nr_str, J.nr_tup, J.nr_lst, J.nr_dic, J.nr_kls, J.nrs_nil, J.nrs_cons, J.gp_call, J.gp_glo, J.gp_isa, J.asg_name, J.asg_tup, J.asgTs, J.wipeE, J.truth_bl, J.truth_int, J.truth_tup, J.truth_lst, J.bin_add, J.bin_sub, J.cmp_eqI, J.cmp_neI, J.cmp_ltI, J.cmp_gtI, J.cmp_leI, J.cmp_geI, J.cmp_isN, J.cmp_isnotN, J.ix_lst, J.ix_tup, J.len_lst, J.len_tup, J.int_int, J.abs_int, J.btD, J.isNon, J.tupleB, J.listB, J.isiD, J.isTy, J.items?, List.map, List.length_cons, List.length_nil, List.replicate, List.getElem?_cons_zero, List.getElem?_cons_succ, J.sz0, J.sz1, J.sz2, J.sz3, J.sz4, J.sz5, J.sz6, J.sz7, J.sz8, J.sz9, J.sz10, J.sz11, J.sz12, J.sz13, J.sz14, J.sz15, J.sz16, J.sz17, J.sz18, J.sz19, J.sz20, J.sz21, J.sz22, J.sz23, J.sz24, J.sz25, J.sz26, J.sz27, J.sz28, J.sz29, J.sz30, J.sz31, J.sz32, J.sz33, J.sz34, J.sz35, J.sz36, J.sz37, J.sz38, J.sz39, J.sz40, J.sz41, J.sz42, J.sz43, J.sz44, J.sz45, J.sz46, J.sz47, J.sz48, J.sz49, J.sz50, J.sz51, J.sz52, J.sz53, J.sz54, J.sz55, J.sz56, J.sz57, J.sz58, J.sz59, J.sz60, J.cast0, J.cast1, J.cast2, J.cast3, J.cast4, J.cast5, J.cast6, J.cast7, J.cast8, J.cast9, J.cast10, J.cast11, J.cast12, J.cast13, J.cast14, J.cast15, J.cast16, J.cast17, J.cast18, J.cast19, J.cast20, Int.reduceBEq, Int.reduceLT, Int.reduceNeg, Int.reduceAdd, Int.reduceSub, decide_true, decide_false, J.at0of1, J.at0of2, J.at1of2, J.at0of3, J.at1of3, J.at2of3, J.szl0, J.szl1, J.szl2, J.szl3, J.szl4, J.szl5, J.szl6, J.szl7, J.szl8, J.szl9, J.szl10, J.szl11, J.szl12, J.szl13, J.szl14, J.szl15, J.szl16, J.szl17, J.szl18, J.szl19, J.szl20, J.szl21, J.szl22, J.szl23, J.szl24, J.szl25, J.szl26, J.szl27, J.szl28, J.szl29, J.szl30, J.szl31, J.szl32, J.szl33, J.szl34, J.szl35, J.szl36, J.szl37, J.szl38, J.szl39, J.szl40, J.szl41, J.szl42, J.szl43, J.szl44, J.szl45, J.szl46, J.szl47, J.szl48, J.szl49, J.szl50, J.szl51, J.szl52, J.szl53, J.szl54, J.szl55, J.szl56, J.szl57, J.szl58, J.szl59, J.szl60, and_self, if_true, if_false, Bool.false_eq_true, Bool.and_true, Bool.true_and, Bool.not_true, Bool.not_false, List.cons_append, List.nil_append, Option.map_some, Nat.sub_self, Nat.zero_add, Nat.reduceAdd, Nat.reduceSub, Nat.reduceLT, List.set_cons_zero, List.set_cons_succ, Option.bind_some, J.psat_ok, J.psat_exc, J.psatS_ok, J.psatS_exc, J.psat_bnd, J.psatS_bndP, J.psatS_thP, J.seqP_nx, J.seqP_ret, J.seqP_brk, J.seqP_ct, J.finP_nx, J.finP_ret, J.turnP_nx, J.turnP_ct, J.turnP_brk, J.turnP_ret, all_true' body, h17]
theorem query18 {head : List Term} {body : List Atom} (h : QueryP sch0 nm4 6 2 head body) : callP Pr 59 18 [sch, encQ head body] = .ok (.bl true) := callP_more (query18' h) 59 (by decide)
theorem query_ok {head : List Term} {body : List Atom} (h : QueryP sch0 nm4 6 2 head body) : callP Pr 60 19 [sch, encQ head body] = .ok .non := by
  refine callP_of (show Pr.fns[19]? = some ⟨2, 2, b19⟩ from rfl) rfl ?_
  simp -implicitDefEqProofs -dsimp only [J.exPs, J.exP, J.evP, J.evPs, J.evPO, J.tstP, J.tsPOr, J.tsPAnd, J.evPAnd, J.evPOr, J.itP, J.rb_ok, J.rb_exc, J.bp_ok, J.bp_exc, J.th_nx, J.th_ret, J.th_brk, J.th_ct, J.th_exc, J.of_some, J.nr_non, J.nr_bl, J.nr_int, J.nr_str, J.nr_tup, J.nr_lst, J.nr_dic, J.nr_kls, J.nrs_nil, J.nrs_cons, J.gp_call, J.gp_glo, J.gp_isa, J.asg_name, J.asg_tup, J.asgTs, J.wipeE, J.truth_bl, J.truth_int, J.truth_tup, J.truth_lst, J.bin_add, J.bin_sub, J.cmp_eqI, J.cmp_neI, J.cmp_ltI, J.cmp_gtI, J.cmp_leI, J.cmp_geI, J.cmp_isN, J.cmp_isnotN, J.ix_lst, J.ix_tup, J.len_lst, J.len_tup, J.int_int, J.abs_int, J.btD, J.isNon, J.tupleB, J.listB, J.isiD, J.isTy, J.items?, List.map, List.length_cons, List.length_nil, List.replicate, List.getElem?_cons_zero, List.getElem?_cons_succ, J.sz0, J.sz1, J.sz2, J.sz3, J.sz4, J.sz5, J.sz6, J.sz7, J.sz8, J.sz9, J.sz10, J.sz11, J.sz12, J.sz13, J.sz14, J.sz15, J.sz16, J.sz17, J.sz18, J.sz19, J.sz20, J.sz21, J.sz22, J.sz23, J.sz24, J.sz25, J.sz26, J.sz27, J.sz28, J.sz29, J.sz30, J.sz31, J.sz32, J.sz33, J.sz34, J.sz35, J.sz36, J.sz37, J.sz38, J.sz39, J.sz40, J.sz41, J.sz42, J.sz43, J.sz44, J.sz45, J.sz46, J.sz47, J.sz48, J.sz49, J.sz50, J.sz51, J.sz52, J.sz53, J.sz54, J.sz55, J.sz56, J.sz57, J.sz58, J.sz59, J.sz60, J.cast0, J.cast1, J.cast2, J.cast3, J.cast4, J.cast5, J.cast6, J.cast7, J.cast8, J.cast9, J.cast10, J.cast11, J.cast12, J.cast13, J.cast14, J.cast15, J.cast16, J.cast17, J.cast18, J.cast19, J.cast20, Int.reduceBEq, Int.reduceLT, Int.reduceNeg, Int.reduceAdd, Int.reduceSub, decide_true, decide_false, J.at0of1, J.at0of2, J.at1of2, J.at0of3, J.at1of3, J.at2of3, J.szl0, J.szl1, J.szl2, J.szl3, J.szl4, J.szl5, J.szl6, J.szl7, J.szl8, J.szl9, J.szl10, J.szl11, J.szl12, J.szl13, J.szl14, J.szl15, J.szl16, J.szl17, J.szl18, J.szl19, J.szl20, J.szl21, J.szl22, J.szl23, J.szl24, J.szl25, J.szl26, J.szl27, J.szl28, J.szl29, J.szl30, J.szl31, J.szl32, J.szl33, J.szl34, J.szl35, J.szl36, J.szl37, J.szl38, J.szl39, J.szl40, J.szl41, J.szl42, J.szl43, J.szl44, J.szl45, J.szl46, J.szl47, J.szl48, J.szl49, J.szl50, J.szl51, J.szl52, J.szl53, J.szl54, J.szl55, J.szl56, J.szl57, J.szl58, J.szl59, J.szl60, and_self, if_true, if_false, Bool.false_eq_true, Bool.and_true, Bool.true_and, Bool.not_true, Bool.not_false, List.cons_append, List.nil_append, Option.map_some, Nat.sub_self, Nat.zero_add, Nat.reduceAdd, Nat.reduceSub, Nat.reduceLT, List.set_cons_zero, List.set_cons_succ, Option.bind_some, J.psat_ok, J.psat_exc, J.psatS_ok, J.psatS_exc, J.psat_bnd, J.psatS_bndP, J.psatS_thP, J.seqP_nx, J.seqP_ret, J.seqP_brk, J.seqP_ct, J.finP_nx, J.finP_ret, J.turnP_nx, J.turnP_ct, J.turnP_brk, J.turnP_ret, b19, query18 h]
theorem lset_one {i : Int} : lsetD (.lst [.int i]) = some (.int 1) := rfl
theorem union_ok {head : List Term} {body : List Atom} (h : QueryP sch0 nm4 6 2 head body) : callP Pr 60 21 [sch, .tup [encQ head body]] = .ok .non := by
  have g3 : Pr.glos[3]? = some (.int 4) := rfl
  have h20 : callP Pr 59 20 [sch, .tup [encQ head body]] = .ok (.bl true) := by
    refine callP_of (show Pr.fns[20]? = some ⟨2, 3, b20⟩ from rfl) rfl ?_
    have q : callP Pr 58 18 [sch, encQ head body] = .ok (.bl true) := query18' h
    have nq : nr (encQ head body) = true := rfl
    have hh : (head.length : Int) = 2 := by have := h.2.2.1; omega
    simp -implicitDefEqProofs -dsimp only [J.exPs, J.exP, J.evP, J.evPs, J.evPO, J.tstP, J.tsPOr, J.tsPAnd, J.evPAnd, J.evPOr, J.itP, J.rb_ok, J.rb_exc, J.bp_ok, J.bp_exc, J.th_nx, J.th_ret, J.th_brk, J.th_ct, J.th_exc, J.of_some, J.nr_non, J.nr_bl, J.nr_int, J.nr_str, J.nr_tup, J.nr_lst, J.nr_dic, J.nr_kls, J.nrs_nil, J.nrs_cons, J.gp_call, J.gp_glo, J.gp_isa, J.asg_name, J.asg_tup, J.asgTs, J.wipeE, J.truth_bl, J.truth_int, J.truth_tup, J.truth_lst, J.bin_add, J.bin_sub, J.cmp_eqI, J.cmp_neI, J.cmp_ltI, J.cmp_gtI, J.cmp_leI, J.cmp_geI, J.cmp_isN, J.cmp_isnotN, J.ix_lst, J.ix_tup, J.len_lst, J.len_tup, J.int_int, J.abs_int, J.btD, J.isNon, J.tupleB, J.listB, J.isiD, J.isTy, J.items?, List.map, List.length_cons, List.length_nil, List.replicate, List.getElem?_cons_zero, List.getElem?_cons_succ, J.sz0, J.sz1, J.sz2, J.sz3, J.sz4, J.sz5, J.sz6, J.sz7, J.sz8, J.sz9, J.sz10, J.sz11, J.sz12, J.sz13, J.sz14, J.sz15, J.sz16, J.sz17, J.sz18, J.sz19, J.sz20, J.sz21, J.sz22, J.sz23, J.sz24, J.sz25, J.sz26, J.sz27, J.sz28, J.sz29, J.sz30, J.sz31, J.sz32, J.sz33, J.sz34, J.sz35, J.sz36, J.sz37, J.sz38, J.sz39, J.sz40, J.sz41, J.sz42, J.sz43, J.sz44, J.sz45, J.sz46, J.sz47, J.sz48, J.sz49, J.sz50, J.sz51, J.sz52, J.sz53, J.sz54, J.sz55, J.sz56, J.sz57, J.sz58, J.sz59, J.sz60, J.cast0, J.cast1, J.cast2, J.cast3, J.cast4, J.cast5, J.cast6, J.cast7, J.cast8, J.cast9, J.cast10, J.cast11, J.cast12, J.cast13, J.cast14, J.cast15, J.cast16, J.cast17, J.cast18, J.cast19, J.cast20, Int.reduceBEq, Int.reduceLT, Int.reduceNeg, Int.reduceAdd, Int.reduceSub, decide_true, decide_false, J.at0of1, J.at0of2, J.at1of2, J.at0of3, J.at1of3, J.at2of3, J.szl0, J.szl1, J.szl2, J.szl3, J.szl4, J.szl5, J.szl6, J.szl7, J.szl8, J.szl9, J.szl10, J.szl11, J.szl12, J.szl13, J.szl14, J.szl15, J.szl16, J.szl17, J.szl18, J.szl19, J.szl20, J.szl21, J.szl22, J.szl23, J.szl24, J.szl25, J.szl26, J.szl27, J.szl28, J.szl29, J.szl30, J.szl31, J.szl32, J.szl33, J.szl34, J.szl35, J.szl36, J.szl37, J.szl38, J.szl39, J.szl40, J.szl41, J.szl42, J.szl43, J.szl44, J.szl45, J.szl46, J.szl47, J.szl48, J.szl49, J.szl50, J.szl51, J.szl52, J.szl53, J.szl54, J.szl55, J.szl56, J.szl57, J.szl58, J.szl59, J.szl60, and_self, if_true, if_false, Bool.false_eq_true, Bool.and_true, Bool.true_and, Bool.not_true, Bool.not_false, List.cons_append, List.nil_append, Option.map_some, Nat.sub_self, Nat.zero_add, Nat.reduceAdd, Nat.reduceSub, Nat.reduceLT, List.set_cons_zero, List.set_cons_succ, Option.bind_some, J.psat_ok, J.psat_exc, J.psatS_ok, J.psatS_exc, J.psat_bnd, J.psatS_bndP, J.psatS_thP, J.seqP_nx, J.seqP_ret, J.seqP_brk, J.seqP_ct, J.finP_nx, J.finP_ret, J.turnP_nx, J.turnP_ct, J.turnP_brk, J.turnP_ret, b20, g3, lcP, q, allB, bls?, id, List.all_cons, List.all_nil]
    unfold encQ
    simp -implicitDefEqProofs -dsimp only [J.exPs, J.exP, J.evP, J.evPs, J.evPO, J.tstP, J.tsPOr, J.tsPAnd, J.evPAnd, J.evPOr, J.itP, J.rb_ok, J.rb_exc, J.bp_ok, J.bp_exc, J.th_nx, J.th_ret, J.th_brk, J.th_ct, J.th_exc, J.of_some, J.nr_non, J.nr_bl, J.nr_int, J.nr_str, J.nr_tup, J.nr_lst, J.nr_dic, J.nr_kls, J.nrs_nil, J.nrs_cons, J.gp_call, J.gp_glo, J.gp_isa, J.asg_name, J.asg_tup, J.asgTs, J.wipeE, J.truth_bl, J.truth_int, J.truth_tup, J.truth_lst, J.bin_add, J.bin_sub, J.cmp_eqI, J.cmp_neI, J.cmp_ltI, J.cmp_gtI, J.cmp_leI, J.cmp_geI, J.cmp_isN, J.cmp_isnotN, J.ix_lst, J.ix_tup, J.len_lst, J.len_tup, J.int_int, J.abs_int, J.btD, J.isNon, J.tupleB, J.listB, J.isiD, J.isTy, J.items?, List.map, List.length_cons, List.length_nil, List.replicate, List.getElem?_cons_zero, List.getElem?_cons_succ, J.sz0, J.sz1, J.sz2, J.sz3, J.sz4, J.sz5, J.sz6, J.sz7, J.sz8, J.sz9, J.sz10, J.sz11, J.sz12, J.sz13, J.sz14, J.sz15, J.sz16, J.sz17, J.sz18, J.sz19, J.sz20, J.sz21, J.sz22, J.sz23, J.sz24, J.sz25, J.sz26, J.sz27, J.sz28, J.sz29, J.sz30, J.sz31, J.sz32, J.sz33, J.sz34, J.sz35, J.sz36, J.sz37, J.sz38, J.sz39, J.sz40, J.sz41, J.sz42, J.sz43, J.sz44, J.sz45, J.sz46, J.sz47, J.sz48, J.sz49, J.sz50, J.sz51, J.sz52, J.sz53, J.sz54, J.sz55, J.sz56, J.sz57, J.sz58, J.sz59, J.sz60, J.cast0, J.cast1, J.cast2, J.cast3, J.cast4, J.cast5, J.cast6, J.cast7, J.cast8, J.cast9, J.cast10, J.cast11, J.cast12, J.cast13, J.cast14, J.cast15, J.cast16, J.cast17, J.cast18, J.cast19, J.cast20, Int.reduceBEq, Int.reduceLT, Int.reduceNeg, Int.reduceAdd, Int.reduceSub, decide_true, decide_false, J.at0of1, J.at0of2, J.at1of2, J.at0of3, J.at1of3, J.at2of3, J.szl0, J.szl1, J.szl2, J.szl3, J.szl4, J.szl5, J.szl6, J.szl7, J.szl8, J.szl9, J.szl10, J.szl11, J.szl12, J.szl13, J.szl14, J.szl15, J.szl16, J.szl17, J.szl18, J.szl19, J.szl20, J.szl21, J.szl22, J.szl23, J.szl24, J.szl25, J.szl26, J.szl27, J.szl28, J.szl29, J.szl30, J.szl31, J.szl32, J.szl33, J.szl34, J.szl35, J.szl36, J.szl37, J.szl38, J.szl39, J.szl40, J.szl41, J.szl42, J.szl43, J.szl44, J.szl45, J.szl46, J.szl47, J.szl48, J.szl49, J.szl50, J.szl51, J.szl52, J.szl53, J.szl54, J.szl55, J.szl56, J.szl57, J.szl58, J.szl59, J.szl60, and_self, if_true, if_false, Bool.false_eq_true, Bool.and_true, Bool.true_and, Bool.not_true, Bool.not_false, List.cons_append, List.nil_append, Option.map_some, Nat.sub_self, Nat.zero_add, Nat.reduceAdd, Nat.reduceSub, Nat.reduceLT, List.set_cons_zero, List.set_cons_succ, Option.bind_some, J.psat_ok, J.psat_exc, J.psatS_ok, J.psatS_exc, J.psat_bnd, J.psatS_bndP, J.psatS_thP, J.seqP_nx, J.seqP_ret, J.seqP_brk, J.seqP_ct, J.finP_nx, J.finP_ret, J.turnP_nx, J.turnP_ct, J.turnP_brk, J.turnP_ret, lcP, List.length_map, hh, lset_one]
  refine callP_of (show Pr.fns[21]? = some ⟨2, 2, b21⟩ from rfl) rfl ?_
  simp -implicitDefEqProofs -dsimp only [J.exPs, J.exP, J.evP, J.evPs, J.evPO, J.tstP, J.tsPOr, J.tsPAnd, J.evPAnd, J.evPOr, J.itP, J.rb_ok, J.rb_exc, J.bp_ok, J.bp_exc, J.th_nx, J.th_ret, J.th_brk, J.th_ct, J.th_exc, J.of_some, J.nr_non, J.nr_bl, J.nr_int, J.nr_str, J.nr_tup, J.nr_lst, J.nr_dic, J.nr_kls, J.nrs_nil, J.nrs_cons, J.gp_call, J.gp_glo, J.gp_isa, J.asg_name, J.asg_tup, J.asgTs, J.wipeE, J.truth_bl, J.truth_int, J.truth_tup, J.truth_lst, J.bin_add, J.bin_sub, J.cmp_eqI, J.cmp_neI, J.cmp_ltI, J.cmp_gtI, J.cmp_leI, J.cmp_geI, J.cmp_isN, J.cmp_isnotN, J.ix_lst, J.ix_tup, J.len_lst, J.len_tup, J.int_int, J.abs_int, J.btD, J.isNon, J.tupleB, J.listB, J.isiD, J.isTy, J.items?, List.map, List.length_cons, List.length_nil, List.replicate, List.getElem?_cons_zero, List.getElem?_cons_succ, J.sz0, J.sz1, J.sz2, J.sz3, J.sz4, J.sz5, J.sz6, J.sz7, J.sz8, J.sz9, J.sz10, J.sz11, J.sz12, J.sz13, J.sz14, J.sz15, J.sz16, J.sz17, J.sz18, J.sz19, J.sz20, J.sz21, J.sz22, J.sz23, J.sz24, J.sz25, J.sz26, J.sz27, J.sz28, J.sz29, J.sz30, J.sz31, J.sz32, J.sz33, J.sz34, J.sz35, J.sz36, J.sz37, J.sz38, J.sz39, J.sz40, J.sz41, J.sz42, J.sz43, J.sz44, J.sz45, J.sz46, J.sz47, J.sz48, J.sz49, J.sz50, J.sz51, J.sz52, J.sz53, J.sz54, J.sz55, J.sz56, J.sz57, J.sz58, J.sz59, J.sz60, J.cast0, J.cast1, J.cast2, J.cast3, J.cast4, J.cast5, J.cast6, J.cast7, J.cast8, J.cast9, J.cast10, J.cast11, J.cast12, J.cast13, J.cast14, J.cast15, J.cast16, J.cast17, J.cast18, J.cast19, J.cast20, Int.reduceBEq, Int.reduceLT, Int.reduceNeg, Int.reduceAdd, Int.reduceSub, decide_true, decide_false, J.at0of1, J.at0of2, J.at1of2, J.at0of3, J.at1of3, J.at2of3, J.szl0, J.szl1, J.szl2, J.szl3, J.szl4, J.szl5, J.szl6, J.szl7, J.szl8, J.szl9, J.szl10, J.szl11, J.szl12, J.szl13, J.szl14, J.szl15, J.szl16, J.szl17, J.szl18, J.szl19, J.szl20, J.szl21, J.szl22, J.szl23, J.szl24, J.szl25, J.szl26, J.szl27, J.szl28, J.szl29, J.szl30, J.szl31, J.szl32, J.szl33, J.szl34, J.szl35, J.szl36, J.szl37, J.szl38, J.szl39, J.szl40, J.szl41, J.szl42, J.szl43, J.szl44, J.szl45, J.szl46, J.szl47, J.szl48, J.szl49, J.szl50, J.szl51, J.szl52, J.szl53, J.szl54, J.szl55, J.szl56, J.szl57, J.szl58, J.szl59, J.szl60, and_self, if_true, if_false, Bool.false_eq_true, Bool.and_true, Bool.true_and, Bool.not_true, Bool.not_false, List.cons_append, List.nil_append, Option.map_some, Nat.sub_self, Nat.zero_add, Nat.reduceAdd, Nat.reduceSub, Nat.reduceLT, List.set_cons_zero, List.set_cons_succ, Option.bind_some, J.psat_ok, J.psat_exc, J.psatS_ok, J.psatS_exc, J.psat_bnd, J.psatS_bndP, J.psatS_thP, J.seqP_nx, J.seqP_ret, J.seqP_brk, J.seqP_ct, J.finP_nx, J.finP_ret, J.turnP_nx, J.turnP_ct, J.turnP_brk, J.turnP_ret, b21, h20]
theorem plain : ∀ ns : List Int, ns.length ≤ 63 → (∀ z ∈ ns, Builtin.Int.intBits z ≤ 1048576) → ∃ st, callF Pr 61 30 [.kls (ns.map .int)] [] = .ok (.bl true) st := by
  intro ns hz _
  have main : Sat (callF Pr 61 30 [.kls (ns.map .int)] []) (fun r _ => r = .bl true) noE := by
    rw [callF_at (show Pr.fns[30]? = some ⟨1, 9, b30⟩ from rfl)]
    refine sat_run rfl ?_
    have g0 : Pr.glos[0]? = some (.int 6) := rfl
    have g1 : Pr.glos[1]? = some (.int 4) := rfl
    have g2 : Pr.glos[2]? = some (.int 6) := rfl
    have g3 : Pr.glos[3]? = some (.int 4) := rfl
    have hk : cmpD .ne (.tup [.int 6, .int 4, .int 6, .int 4]) (.tup [.int 6, .int 4, .int 6, .int 4]) = some false := by decide +kernel
    rw [execs_split 5]
    simp -implicitDefEqProofs -dsimp only [J.sat_ok, J.sat_exc, J.satS_ok, J.satS_exc, J.sat_bnd, J.satS_bndS, J.satS_thn, J.seqQ_nx, J.seqQ_ret, J.seqQ_brk, J.seqQ_ct, J.finQ_nx, J.finQ_ret, J.turnQ_nx, J.turnQ_ct, J.turnQ_brk, J.turnQ_ret, J.execs, J.exec, J.ev, J.evs, J.evO, J.tst, J.tsOr, J.tsAnd, J.evAnd, J.evOr, J.itD, J.bnd_okE, J.bndS_okE, J.thn_nxE, J.thn_retE, J.ofO_someE, J.snap_non, J.snap_bl, J.snap_int, J.snap_str, J.snap_tup, J.snap_lst, J.snap_kls, J.gx_call, J.gx_glo, J.gx_isa, J.asg_name, J.asg_tup, J.asgTs, J.wipeE, J.truth_bl, J.truth_int, J.truth_tup, J.truth_lst, J.bin_add, J.bin_sub, J.cmp_eqI, J.cmp_neI, J.cmp_ltI, J.cmp_gtI, J.cmp_leI, J.cmp_geI, J.cmp_isN, J.cmp_isnotN, J.ix_lst, J.ix_tup, J.len_lst, J.len_tup, J.int_int, J.abs_int, J.btD, J.isNon, J.tupleB, J.listB, J.items?, J.setMO, List.map, List.length_cons, List.length_nil, List.replicate, List.getElem?_cons_zero, List.getElem?_cons_succ, J.sz0, J.sz1, J.sz2, J.sz3, J.sz4, J.sz5, J.sz6, J.sz7, J.sz8, J.sz9, J.sz10, J.sz11, J.sz12, J.sz13, J.sz14, J.sz15, J.sz16, J.sz17, J.sz18, J.sz19, J.sz20, J.sz21, J.sz22, J.sz23, J.sz24, J.sz25, J.sz26, J.sz27, J.sz28, J.sz29, J.sz30, J.sz31, J.sz32, J.sz33, J.sz34, J.sz35, J.sz36, J.sz37, J.sz38, J.sz39, J.sz40, J.sz41, J.sz42, J.sz43, J.sz44, J.sz45, J.sz46, J.sz47, J.sz48, J.sz49, J.sz50, J.sz51, J.sz52, J.sz53, J.sz54, J.sz55, J.sz56, J.sz57, J.sz58, J.sz59, J.sz60, J.cast0, J.cast1, J.cast2, J.cast3, J.cast4, J.cast5, J.cast6, J.cast7, J.cast8, J.cast9, J.cast10, J.cast11, J.cast12, J.cast13, J.cast14, J.cast15, J.cast16, J.cast17, J.cast18, J.cast19, J.cast20, Int.reduceBEq, Int.reduceLT, Int.reduceNeg, Int.reduceAdd, Int.reduceSub, decide_true, decide_false, J.at0of1, J.at0of2, J.at1of2, J.at0of3, J.at1of3, J.at2of3, J.szl0, J.szl1, J.szl2, J.szl3, J.szl4, J.szl5, J.szl6, J.szl7, J.szl8, J.szl9, J.szl10, J.szl11, J.szl12, J.szl13, J.szl14, J.szl15, J.szl16, J.szl17, J.szl18, J.szl19, J.szl20, J.szl21, J.szl22, J.szl23, J.szl24, J.szl25, J.szl26, J.szl27, J.szl28, J.szl29, J.szl30, J.szl31, J.szl32, J.szl33, J.szl34, J.szl35, J.szl36, J.szl37, J.szl38, J.szl39, J.szl40, J.szl41, J.szl42, J.szl43, J.szl44, J.szl45, J.szl46, J.szl47, J.szl48, J.szl49, J.szl50, J.szl51, J.szl52, J.szl53, J.szl54, J.szl55, J.szl56, J.szl57, J.szl58, J.szl59, J.szl60, and_self, if_true, if_false, Bool.false_eq_true, Bool.and_true, Bool.true_and, Bool.not_true, Bool.not_false, List.cons_append, List.nil_append, Option.map_some, Nat.sub_self, Nat.zero_add, Nat.reduceAdd, Nat.reduceSub, Nat.reduceLT, List.set_cons_zero, List.set_cons_succ, Option.bind_some, b30, takeS]
    refine draw_sat (k := 59) hz fun st d hl => ?_
    simp -implicitDefEqProofs -dsimp only [J.sat_ok, J.sat_exc, J.satS_ok, J.satS_exc, J.sat_bnd, J.satS_bndS, J.satS_thn, J.seqQ_nx, J.seqQ_ret, J.seqQ_brk, J.seqQ_ct, J.finQ_nx, J.finQ_ret, J.turnQ_nx, J.turnQ_ct, J.turnQ_brk, J.turnQ_ret, J.execs, J.exec, J.ev, J.evs, J.evO, J.tst, J.tsOr, J.tsAnd, J.evAnd, J.evOr, J.itD, J.bnd_okE, J.bndS_okE, J.thn_nxE, J.thn_retE, J.ofO_someE, J.snap_non, J.snap_bl, J.snap_int, J.snap_str, J.snap_tup, J.snap_lst, J.snap_kls, J.gx_call, J.gx_glo, J.gx_isa, J.asg_name, J.asg_tup, J.asgTs, J.wipeE, J.truth_bl, J.truth_int, J.truth_tup, J.truth_lst, J.bin_add, J.bin_sub, J.cmp_eqI, J.cmp_neI, J.cmp_ltI, J.cmp_gtI, J.cmp_leI, J.cmp_geI, J.cmp_isN, J.cmp_isnotN, J.ix_lst, J.ix_tup, J.len_lst, J.len_tup, J.int_int, J.abs_int, J.btD, J.isNon, J.tupleB, J.listB, J.items?, J.setMO, List.map, List.length_cons, List.length_nil, List.replicate, List.getElem?_cons_zero, List.getElem?_cons_succ, J.sz0, J.sz1, J.sz2, J.sz3, J.sz4, J.sz5, J.sz6, J.sz7, J.sz8, J.sz9, J.sz10, J.sz11, J.sz12, J.sz13, J.sz14, J.sz15, J.sz16, J.sz17, J.sz18, J.sz19, J.sz20, J.sz21, J.sz22, J.sz23, J.sz24, J.sz25, J.sz26, J.sz27, J.sz28, J.sz29, J.sz30, J.sz31, J.sz32, J.sz33, J.sz34, J.sz35, J.sz36, J.sz37, J.sz38, J.sz39, J.sz40, J.sz41, J.sz42, J.sz43, J.sz44, J.sz45, J.sz46, J.sz47, J.sz48, J.sz49, J.sz50, J.sz51, J.sz52, J.sz53, J.sz54, J.sz55, J.sz56, J.sz57, J.sz58, J.sz59, J.sz60, J.cast0, J.cast1, J.cast2, J.cast3, J.cast4, J.cast5, J.cast6, J.cast7, J.cast8, J.cast9, J.cast10, J.cast11, J.cast12, J.cast13, J.cast14, J.cast15, J.cast16, J.cast17, J.cast18, J.cast19, J.cast20, Int.reduceBEq, Int.reduceLT, Int.reduceNeg, Int.reduceAdd, Int.reduceSub, decide_true, decide_false, J.at0of1, J.at0of2, J.at1of2, J.at0of3, J.at1of3, J.at2of3, J.szl0, J.szl1, J.szl2, J.szl3, J.szl4, J.szl5, J.szl6, J.szl7, J.szl8, J.szl9, J.szl10, J.szl11, J.szl12, J.szl13, J.szl14, J.szl15, J.szl16, J.szl17, J.szl18, J.szl19, J.szl20, J.szl21, J.szl22, J.szl23, J.szl24, J.szl25, J.szl26, J.szl27, J.szl28, J.szl29, J.szl30, J.szl31, J.szl32, J.szl33, J.szl34, J.szl35, J.szl36, J.szl37, J.szl38, J.szl39, J.szl40, J.szl41, J.szl42, J.szl43, J.szl44, J.szl45, J.szl46, J.szl47, J.szl48, J.szl49, J.szl50, J.szl51, J.szl52, J.szl53, J.szl54, J.szl55, J.szl56, J.szl57, J.szl58, J.szl59, J.szl60, and_self, if_true, if_false, Bool.false_eq_true, Bool.and_true, Bool.true_and, Bool.not_true, Bool.not_false, List.cons_append, List.nil_append, Option.map_some, Nat.sub_self, Nat.zero_add, Nat.reduceAdd, Nat.reduceSub, Nat.reduceLT, List.set_cons_zero, List.set_cons_succ, Option.bind_some, g0, g1, g2, g3, hk]
    refine base_sat (k := 57) (sch := sch0) (most := 6) (m := 3) d (by decide) (by decide) (by decide) (by decide) (by decide) (by decide) fun bs st' hb hf ha d => ?_
    simp -implicitDefEqProofs -dsimp only [J.sat_ok, J.sat_exc, J.satS_ok, J.satS_exc, J.sat_bnd, J.satS_bndS, J.satS_thn, J.seqQ_nx, J.seqQ_ret, J.seqQ_brk, J.seqQ_ct, J.finQ_nx, J.finQ_ret, J.turnQ_nx, J.turnQ_ct, J.turnQ_brk, J.turnQ_ret, J.execs, J.exec, J.ev, J.evs, J.evO, J.tst, J.tsOr, J.tsAnd, J.evAnd, J.evOr, J.itD, J.bnd_okE, J.bndS_okE, J.thn_nxE, J.thn_retE, J.ofO_someE, J.snap_non, J.snap_bl, J.snap_int, J.snap_str, J.snap_tup, J.snap_lst, J.snap_kls, J.gx_call, J.gx_glo, J.gx_isa, J.asg_name, J.asg_tup, J.asgTs, J.wipeE, J.truth_bl, J.truth_int, J.truth_tup, J.truth_lst, J.bin_add, J.bin_sub, J.cmp_eqI, J.cmp_neI, J.cmp_ltI, J.cmp_gtI, J.cmp_leI, J.cmp_geI, J.cmp_isN, J.cmp_isnotN, J.ix_lst, J.ix_tup, J.len_lst, J.len_tup, J.int_int, J.abs_int, J.btD, J.isNon, J.tupleB, J.listB, J.items?, J.setMO, List.map, List.length_cons, List.length_nil, List.replicate, List.getElem?_cons_zero, List.getElem?_cons_succ, J.sz0, J.sz1, J.sz2, J.sz3, J.sz4, J.sz5, J.sz6, J.sz7, J.sz8, J.sz9, J.sz10, J.sz11, J.sz12, J.sz13, J.sz14, J.sz15, J.sz16, J.sz17, J.sz18, J.sz19, J.sz20, J.sz21, J.sz22, J.sz23, J.sz24, J.sz25, J.sz26, J.sz27, J.sz28, J.sz29, J.sz30, J.sz31, J.sz32, J.sz33, J.sz34, J.sz35, J.sz36, J.sz37, J.sz38, J.sz39, J.sz40, J.sz41, J.sz42, J.sz43, J.sz44, J.sz45, J.sz46, J.sz47, J.sz48, J.sz49, J.sz50, J.sz51, J.sz52, J.sz53, J.sz54, J.sz55, J.sz56, J.sz57, J.sz58, J.sz59, J.sz60, J.cast0, J.cast1, J.cast2, J.cast3, J.cast4, J.cast5, J.cast6, J.cast7, J.cast8, J.cast9, J.cast10, J.cast11, J.cast12, J.cast13, J.cast14, J.cast15, J.cast16, J.cast17, J.cast18, J.cast19, J.cast20, Int.reduceBEq, Int.reduceLT, Int.reduceNeg, Int.reduceAdd, Int.reduceSub, decide_true, decide_false, J.at0of1, J.at0of2, J.at1of2, J.at0of3, J.at1of3, J.at2of3, J.szl0, J.szl1, J.szl2, J.szl3, J.szl4, J.szl5, J.szl6, J.szl7, J.szl8, J.szl9, J.szl10, J.szl11, J.szl12, J.szl13, J.szl14, J.szl15, J.szl16, J.szl17, J.szl18, J.szl19, J.szl20, J.szl21, J.szl22, J.szl23, J.szl24, J.szl25, J.szl26, J.szl27, J.szl28, J.szl29, J.szl30, J.szl31, J.szl32, J.szl33, J.szl34, J.szl35, J.szl36, J.szl37, J.szl38, J.szl39, J.szl40, J.szl41, J.szl42, J.szl43, J.szl44, J.szl45, J.szl46, J.szl47, J.szl48, J.szl49, J.szl50, J.szl51, J.szl52, J.szl53, J.szl54, J.szl55, J.szl56, J.szl57, J.szl58, J.szl59, J.szl60, and_self, if_true, if_false, Bool.false_eq_true, Bool.and_true, Bool.true_and, Bool.not_true, Bool.not_false, List.cons_append, List.nil_append, Option.map_some, Nat.sub_self, Nat.zero_add, Nat.reduceAdd, Nat.reduceSub, Nat.reduceLT, List.set_cons_zero, List.set_cons_succ, Option.bind_some]
    refine query_sat (k := 57) (sch := sch0) (most := 6) (width := 2) d (by decide) (by decide) (by decide) (by decide) (by decide) fun head body st' hq d => ?_
    have hs0 : callP Pr 60 7 [sch] = .ok .non := isN_at schema_ok
    simp -implicitDefEqProofs -dsimp only [J.sat_ok, J.sat_exc, J.satS_ok, J.satS_exc, J.sat_bnd, J.satS_bndS, J.satS_thn, J.seqQ_nx, J.seqQ_ret, J.seqQ_brk, J.seqQ_ct, J.finQ_nx, J.finQ_ret, J.turnQ_nx, J.turnQ_ct, J.turnQ_brk, J.turnQ_ret, J.execs, J.exec, J.ev, J.evs, J.evO, J.tst, J.tsOr, J.tsAnd, J.evAnd, J.evOr, J.itD, J.bnd_okE, J.bndS_okE, J.thn_nxE, J.thn_retE, J.ofO_someE, J.snap_non, J.snap_bl, J.snap_int, J.snap_str, J.snap_tup, J.snap_lst, J.snap_kls, J.gx_call, J.gx_glo, J.gx_isa, J.asg_name, J.asg_tup, J.asgTs, J.wipeE, J.truth_bl, J.truth_int, J.truth_tup, J.truth_lst, J.bin_add, J.bin_sub, J.cmp_eqI, J.cmp_neI, J.cmp_ltI, J.cmp_gtI, J.cmp_leI, J.cmp_geI, J.cmp_isN, J.cmp_isnotN, J.ix_lst, J.ix_tup, J.len_lst, J.len_tup, J.int_int, J.abs_int, J.btD, J.isNon, J.tupleB, J.listB, J.items?, J.setMO, List.map, List.length_cons, List.length_nil, List.replicate, List.getElem?_cons_zero, List.getElem?_cons_succ, J.sz0, J.sz1, J.sz2, J.sz3, J.sz4, J.sz5, J.sz6, J.sz7, J.sz8, J.sz9, J.sz10, J.sz11, J.sz12, J.sz13, J.sz14, J.sz15, J.sz16, J.sz17, J.sz18, J.sz19, J.sz20, J.sz21, J.sz22, J.sz23, J.sz24, J.sz25, J.sz26, J.sz27, J.sz28, J.sz29, J.sz30, J.sz31, J.sz32, J.sz33, J.sz34, J.sz35, J.sz36, J.sz37, J.sz38, J.sz39, J.sz40, J.sz41, J.sz42, J.sz43, J.sz44, J.sz45, J.sz46, J.sz47, J.sz48, J.sz49, J.sz50, J.sz51, J.sz52, J.sz53, J.sz54, J.sz55, J.sz56, J.sz57, J.sz58, J.sz59, J.sz60, J.cast0, J.cast1, J.cast2, J.cast3, J.cast4, J.cast5, J.cast6, J.cast7, J.cast8, J.cast9, J.cast10, J.cast11, J.cast12, J.cast13, J.cast14, J.cast15, J.cast16, J.cast17, J.cast18, J.cast19, J.cast20, Int.reduceBEq, Int.reduceLT, Int.reduceNeg, Int.reduceAdd, Int.reduceSub, decide_true, decide_false, J.at0of1, J.at0of2, J.at1of2, J.at0of3, J.at1of3, J.at2of3, J.szl0, J.szl1, J.szl2, J.szl3, J.szl4, J.szl5, J.szl6, J.szl7, J.szl8, J.szl9, J.szl10, J.szl11, J.szl12, J.szl13, J.szl14, J.szl15, J.szl16, J.szl17, J.szl18, J.szl19, J.szl20, J.szl21, J.szl22, J.szl23, J.szl24, J.szl25, J.szl26, J.szl27, J.szl28, J.szl29, J.szl30, J.szl31, J.szl32, J.szl33, J.szl34, J.szl35, J.szl36, J.szl37, J.szl38, J.szl39, J.szl40, J.szl41, J.szl42, J.szl43, J.szl44, J.szl45, J.szl46, J.szl47, J.szl48, J.szl49, J.szl50, J.szl51, J.szl52, J.szl53, J.szl54, J.szl55, J.szl56, J.szl57, J.szl58, J.szl59, J.szl60, and_self, if_true, if_false, Bool.false_eq_true, Bool.and_true, Bool.true_and, Bool.not_true, Bool.not_false, List.cons_append, List.nil_append, Option.map_some, Nat.sub_self, Nat.zero_add, Nat.reduceAdd, Nat.reduceSub, Nat.reduceLT, List.set_cons_zero, List.set_cons_succ, Option.bind_some]
    refine sat_pure hs0 ?_
    simp -implicitDefEqProofs -dsimp only [J.sat_ok, J.sat_exc, J.satS_ok, J.satS_exc, J.sat_bnd, J.satS_bndS, J.satS_thn, J.seqQ_nx, J.seqQ_ret, J.seqQ_brk, J.seqQ_ct, J.finQ_nx, J.finQ_ret, J.turnQ_nx, J.turnQ_ct, J.turnQ_brk, J.turnQ_ret, J.execs, J.exec, J.ev, J.evs, J.evO, J.tst, J.tsOr, J.tsAnd, J.evAnd, J.evOr, J.itD, J.bnd_okE, J.bndS_okE, J.thn_nxE, J.thn_retE, J.ofO_someE, J.snap_non, J.snap_bl, J.snap_int, J.snap_str, J.snap_tup, J.snap_lst, J.snap_kls, J.gx_call, J.gx_glo, J.gx_isa, J.asg_name, J.asg_tup, J.asgTs, J.wipeE, J.truth_bl, J.truth_int, J.truth_tup, J.truth_lst, J.bin_add, J.bin_sub, J.cmp_eqI, J.cmp_neI, J.cmp_ltI, J.cmp_gtI, J.cmp_leI, J.cmp_geI, J.cmp_isN, J.cmp_isnotN, J.ix_lst, J.ix_tup, J.len_lst, J.len_tup, J.int_int, J.abs_int, J.btD, J.isNon, J.tupleB, J.listB, J.items?, J.setMO, List.map, List.length_cons, List.length_nil, List.replicate, List.getElem?_cons_zero, List.getElem?_cons_succ, J.sz0, J.sz1, J.sz2, J.sz3, J.sz4, J.sz5, J.sz6, J.sz7, J.sz8, J.sz9, J.sz10, J.sz11, J.sz12, J.sz13, J.sz14, J.sz15, J.sz16, J.sz17, J.sz18, J.sz19, J.sz20, J.sz21, J.sz22, J.sz23, J.sz24, J.sz25, J.sz26, J.sz27, J.sz28, J.sz29, J.sz30, J.sz31, J.sz32, J.sz33, J.sz34, J.sz35, J.sz36, J.sz37, J.sz38, J.sz39, J.sz40, J.sz41, J.sz42, J.sz43, J.sz44, J.sz45, J.sz46, J.sz47, J.sz48, J.sz49, J.sz50, J.sz51, J.sz52, J.sz53, J.sz54, J.sz55, J.sz56, J.sz57, J.sz58, J.sz59, J.sz60, J.cast0, J.cast1, J.cast2, J.cast3, J.cast4, J.cast5, J.cast6, J.cast7, J.cast8, J.cast9, J.cast10, J.cast11, J.cast12, J.cast13, J.cast14, J.cast15, J.cast16, J.cast17, J.cast18, J.cast19, J.cast20, Int.reduceBEq, Int.reduceLT, Int.reduceNeg, Int.reduceAdd, Int.reduceSub, decide_true, decide_false, J.at0of1, J.at0of2, J.at1of2, J.at0of3, J.at1of3, J.at2of3, J.szl0, J.szl1, J.szl2, J.szl3, J.szl4, J.szl5, J.szl6, J.szl7, J.szl8, J.szl9, J.szl10, J.szl11, J.szl12, J.szl13, J.szl14, J.szl15, J.szl16, J.szl17, J.szl18, J.szl19, J.szl20, J.szl21, J.szl22, J.szl23, J.szl24, J.szl25, J.szl26, J.szl27, J.szl28, J.szl29, J.szl30, J.szl31, J.szl32, J.szl33, J.szl34, J.szl35, J.szl36, J.szl37, J.szl38, J.szl39, J.szl40, J.szl41, J.szl42, J.szl43, J.szl44, J.szl45, J.szl46, J.szl47, J.szl48, J.szl49, J.szl50, J.szl51, J.szl52, J.szl53, J.szl54, J.szl55, J.szl56, J.szl57, J.szl58, J.szl59, J.szl60, and_self, if_true, if_false, Bool.false_eq_true, Bool.and_true, Bool.true_and, Bool.not_true, Bool.not_false, List.cons_append, List.nil_append, Option.map_some, Nat.sub_self, Nat.zero_add, Nat.reduceAdd, Nat.reduceSub, Nat.reduceLT, List.set_cons_zero, List.set_cons_succ, Option.bind_some]
    refine sat_pure (base_ok hb hf ha) ?_
    simp -implicitDefEqProofs -dsimp only [J.sat_ok, J.sat_exc, J.satS_ok, J.satS_exc, J.sat_bnd, J.satS_bndS, J.satS_thn, J.seqQ_nx, J.seqQ_ret, J.seqQ_brk, J.seqQ_ct, J.finQ_nx, J.finQ_ret, J.turnQ_nx, J.turnQ_ct, J.turnQ_brk, J.turnQ_ret, J.execs, J.exec, J.ev, J.evs, J.evO, J.tst, J.tsOr, J.tsAnd, J.evAnd, J.evOr, J.itD, J.bnd_okE, J.bndS_okE, J.thn_nxE, J.thn_retE, J.ofO_someE, J.snap_non, J.snap_bl, J.snap_int, J.snap_str, J.snap_tup, J.snap_lst, J.snap_kls, J.gx_call, J.gx_glo, J.gx_isa, J.asg_name, J.asg_tup, J.asgTs, J.wipeE, J.truth_bl, J.truth_int, J.truth_tup, J.truth_lst, J.bin_add, J.bin_sub, J.cmp_eqI, J.cmp_neI, J.cmp_ltI, J.cmp_gtI, J.cmp_leI, J.cmp_geI, J.cmp_isN, J.cmp_isnotN, J.ix_lst, J.ix_tup, J.len_lst, J.len_tup, J.int_int, J.abs_int, J.btD, J.isNon, J.tupleB, J.listB, J.items?, J.setMO, List.map, List.length_cons, List.length_nil, List.replicate, List.getElem?_cons_zero, List.getElem?_cons_succ, J.sz0, J.sz1, J.sz2, J.sz3, J.sz4, J.sz5, J.sz6, J.sz7, J.sz8, J.sz9, J.sz10, J.sz11, J.sz12, J.sz13, J.sz14, J.sz15, J.sz16, J.sz17, J.sz18, J.sz19, J.sz20, J.sz21, J.sz22, J.sz23, J.sz24, J.sz25, J.sz26, J.sz27, J.sz28, J.sz29, J.sz30, J.sz31, J.sz32, J.sz33, J.sz34, J.sz35, J.sz36, J.sz37, J.sz38, J.sz39, J.sz40, J.sz41, J.sz42, J.sz43, J.sz44, J.sz45, J.sz46, J.sz47, J.sz48, J.sz49, J.sz50, J.sz51, J.sz52, J.sz53, J.sz54, J.sz55, J.sz56, J.sz57, J.sz58, J.sz59, J.sz60, J.cast0, J.cast1, J.cast2, J.cast3, J.cast4, J.cast5, J.cast6, J.cast7, J.cast8, J.cast9, J.cast10, J.cast11, J.cast12, J.cast13, J.cast14, J.cast15, J.cast16, J.cast17, J.cast18, J.cast19, J.cast20, Int.reduceBEq, Int.reduceLT, Int.reduceNeg, Int.reduceAdd, Int.reduceSub, decide_true, decide_false, J.at0of1, J.at0of2, J.at1of2, J.at0of3, J.at1of3, J.at2of3, J.szl0, J.szl1, J.szl2, J.szl3, J.szl4, J.szl5, J.szl6, J.szl7, J.szl8, J.szl9, J.szl10, J.szl11, J.szl12, J.szl13, J.szl14, J.szl15, J.szl16, J.szl17, J.szl18, J.szl19, J.szl20, J.szl21, J.szl22, J.szl23, J.szl24, J.szl25, J.szl26, J.szl27, J.szl28, J.szl29, J.szl30, J.szl31, J.szl32, J.szl33, J.szl34, J.szl35, J.szl36, J.szl37, J.szl38, J.szl39, J.szl40, J.szl41, J.szl42, J.szl43, J.szl44, J.szl45, J.szl46, J.szl47, J.szl48, J.szl49, J.szl50, J.szl51, J.szl52, J.szl53, J.szl54, J.szl55, J.szl56, J.szl57, J.szl58, J.szl59, J.szl60, and_self, if_true, if_false, Bool.false_eq_true, Bool.and_true, Bool.true_and, Bool.not_true, Bool.not_false, List.cons_append, List.nil_append, Option.map_some, Nat.sub_self, Nat.zero_add, Nat.reduceAdd, Nat.reduceSub, Nat.reduceLT, List.set_cons_zero, List.set_cons_succ, Option.bind_some]
    refine sat_pure (query_ok hq) ?_
    simp -implicitDefEqProofs -dsimp only [J.sat_ok, J.sat_exc, J.satS_ok, J.satS_exc, J.sat_bnd, J.satS_bndS, J.satS_thn, J.seqQ_nx, J.seqQ_ret, J.seqQ_brk, J.seqQ_ct, J.finQ_nx, J.finQ_ret, J.turnQ_nx, J.turnQ_ct, J.turnQ_brk, J.turnQ_ret, J.execs, J.exec, J.ev, J.evs, J.evO, J.tst, J.tsOr, J.tsAnd, J.evAnd, J.evOr, J.itD, J.bnd_okE, J.bndS_okE, J.thn_nxE, J.thn_retE, J.ofO_someE, J.snap_non, J.snap_bl, J.snap_int, J.snap_str, J.snap_tup, J.snap_lst, J.snap_kls, J.gx_call, J.gx_glo, J.gx_isa, J.asg_name, J.asg_tup, J.asgTs, J.wipeE, J.truth_bl, J.truth_int, J.truth_tup, J.truth_lst, J.bin_add, J.bin_sub, J.cmp_eqI, J.cmp_neI, J.cmp_ltI, J.cmp_gtI, J.cmp_leI, J.cmp_geI, J.cmp_isN, J.cmp_isnotN, J.ix_lst, J.ix_tup, J.len_lst, J.len_tup, J.int_int, J.abs_int, J.btD, J.isNon, J.tupleB, J.listB, J.items?, J.setMO, List.map, List.length_cons, List.length_nil, List.replicate, List.getElem?_cons_zero, List.getElem?_cons_succ, J.sz0, J.sz1, J.sz2, J.sz3, J.sz4, J.sz5, J.sz6, J.sz7, J.sz8, J.sz9, J.sz10, J.sz11, J.sz12, J.sz13, J.sz14, J.sz15, J.sz16, J.sz17, J.sz18, J.sz19, J.sz20, J.sz21, J.sz22, J.sz23, J.sz24, J.sz25, J.sz26, J.sz27, J.sz28, J.sz29, J.sz30, J.sz31, J.sz32, J.sz33, J.sz34, J.sz35, J.sz36, J.sz37, J.sz38, J.sz39, J.sz40, J.sz41, J.sz42, J.sz43, J.sz44, J.sz45, J.sz46, J.sz47, J.sz48, J.sz49, J.sz50, J.sz51, J.sz52, J.sz53, J.sz54, J.sz55, J.sz56, J.sz57, J.sz58, J.sz59, J.sz60, J.cast0, J.cast1, J.cast2, J.cast3, J.cast4, J.cast5, J.cast6, J.cast7, J.cast8, J.cast9, J.cast10, J.cast11, J.cast12, J.cast13, J.cast14, J.cast15, J.cast16, J.cast17, J.cast18, J.cast19, J.cast20, Int.reduceBEq, Int.reduceLT, Int.reduceNeg, Int.reduceAdd, Int.reduceSub, decide_true, decide_false, J.at0of1, J.at0of2, J.at1of2, J.at0of3, J.at1of3, J.at2of3, J.szl0, J.szl1, J.szl2, J.szl3, J.szl4, J.szl5, J.szl6, J.szl7, J.szl8, J.szl9, J.szl10, J.szl11, J.szl12, J.szl13, J.szl14, J.szl15, J.szl16, J.szl17, J.szl18, J.szl19, J.szl20, J.szl21, J.szl22, J.szl23, J.szl24, J.szl25, J.szl26, J.szl27, J.szl28, J.szl29, J.szl30, J.szl31, J.szl32, J.szl33, J.szl34, J.szl35, J.szl36, J.szl37, J.szl38, J.szl39, J.szl40, J.szl41, J.szl42, J.szl43, J.szl44, J.szl45, J.szl46, J.szl47, J.szl48, J.szl49, J.szl50, J.szl51, J.szl52, J.szl53, J.szl54, J.szl55, J.szl56, J.szl57, J.szl58, J.szl59, J.szl60, and_self, if_true, if_false, Bool.false_eq_true, Bool.and_true, Bool.true_and, Bool.not_true, Bool.not_false, List.cons_append, List.nil_append, Option.map_some, Nat.sub_self, Nat.zero_add, Nat.reduceAdd, Nat.reduceSub, Nat.reduceLT, List.set_cons_zero, List.set_cons_succ, Option.bind_some]
    refine sat_pure (union_ok hq) ?_
    simp -implicitDefEqProofs -dsimp only [J.sat_ok, J.sat_exc, J.satS_ok, J.satS_exc, J.sat_bnd, J.satS_bndS, J.satS_thn, J.seqQ_nx, J.seqQ_ret, J.seqQ_brk, J.seqQ_ct, J.finQ_nx, J.finQ_ret, J.turnQ_nx, J.turnQ_ct, J.turnQ_brk, J.turnQ_ret, J.execs, J.exec, J.ev, J.evs, J.evO, J.tst, J.tsOr, J.tsAnd, J.evAnd, J.evOr, J.itD, J.bnd_okE, J.bndS_okE, J.thn_nxE, J.thn_retE, J.ofO_someE, J.snap_non, J.snap_bl, J.snap_int, J.snap_str, J.snap_tup, J.snap_lst, J.snap_kls, J.gx_call, J.gx_glo, J.gx_isa, J.asg_name, J.asg_tup, J.asgTs, J.wipeE, J.truth_bl, J.truth_int, J.truth_tup, J.truth_lst, J.bin_add, J.bin_sub, J.cmp_eqI, J.cmp_neI, J.cmp_ltI, J.cmp_gtI, J.cmp_leI, J.cmp_geI, J.cmp_isN, J.cmp_isnotN, J.ix_lst, J.ix_tup, J.len_lst, J.len_tup, J.int_int, J.abs_int, J.btD, J.isNon, J.tupleB, J.listB, J.items?, J.setMO, List.map, List.length_cons, List.length_nil, List.replicate, List.getElem?_cons_zero, List.getElem?_cons_succ, J.sz0, J.sz1, J.sz2, J.sz3, J.sz4, J.sz5, J.sz6, J.sz7, J.sz8, J.sz9, J.sz10, J.sz11, J.sz12, J.sz13, J.sz14, J.sz15, J.sz16, J.sz17, J.sz18, J.sz19, J.sz20, J.sz21, J.sz22, J.sz23, J.sz24, J.sz25, J.sz26, J.sz27, J.sz28, J.sz29, J.sz30, J.sz31, J.sz32, J.sz33, J.sz34, J.sz35, J.sz36, J.sz37, J.sz38, J.sz39, J.sz40, J.sz41, J.sz42, J.sz43, J.sz44, J.sz45, J.sz46, J.sz47, J.sz48, J.sz49, J.sz50, J.sz51, J.sz52, J.sz53, J.sz54, J.sz55, J.sz56, J.sz57, J.sz58, J.sz59, J.sz60, J.cast0, J.cast1, J.cast2, J.cast3, J.cast4, J.cast5, J.cast6, J.cast7, J.cast8, J.cast9, J.cast10, J.cast11, J.cast12, J.cast13, J.cast14, J.cast15, J.cast16, J.cast17, J.cast18, J.cast19, J.cast20, Int.reduceBEq, Int.reduceLT, Int.reduceNeg, Int.reduceAdd, Int.reduceSub, decide_true, decide_false, J.at0of1, J.at0of2, J.at1of2, J.at0of3, J.at1of3, J.at2of3, J.szl0, J.szl1, J.szl2, J.szl3, J.szl4, J.szl5, J.szl6, J.szl7, J.szl8, J.szl9, J.szl10, J.szl11, J.szl12, J.szl13, J.szl14, J.szl15, J.szl16, J.szl17, J.szl18, J.szl19, J.szl20, J.szl21, J.szl22, J.szl23, J.szl24, J.szl25, J.szl26, J.szl27, J.szl28, J.szl29, J.szl30, J.szl31, J.szl32, J.szl33, J.szl34, J.szl35, J.szl36, J.szl37, J.szl38, J.szl39, J.szl40, J.szl41, J.szl42, J.szl43, J.szl44, J.szl45, J.szl46, J.szl47, J.szl48, J.szl49, J.szl50, J.szl51, J.szl52, J.szl53, J.szl54, J.szl55, J.szl56, J.szl57, J.szl58, J.szl59, J.szl60, and_self, if_true, if_false, Bool.false_eq_true, Bool.and_true, Bool.true_and, Bool.not_true, Bool.not_false, List.cons_append, List.nil_append, Option.map_some, Nat.sub_self, Nat.zero_add, Nat.reduceAdd, Nat.reduceSub, Nat.reduceLT, List.set_cons_zero, List.set_cons_succ, Option.bind_some]
    have hle : EnvLe e0 [.val (.kls (ns.map .int)), .val (.ref 0), .val (.tup [.tup [.str "e", .int 2], .tup [.str "p", .int 1]]), .val (.tup bs), .val (encQ head body), .un, .un, .un, .un] := ⟨rfl, fun i s h => by
      rcases i with _ | _ | _ | _ | _ | _ | _ | _ | _ | i
      · exact .inl (Option.some.inj h).symm
      · exact .inl (Option.some.inj h).symm
      · exact .inr h
      · exact .inl (Option.some.inj h).symm
      · exact .inl (Option.some.inj h).symm
      · exact .inl (Option.some.inj h).symm
      · exact .inl (Option.some.inj h).symm
      · exact .inl (Option.some.inj h).symm
      · exact .inl (Option.some.inj h).symm
      · cases h⟩
    refine satS_tail (b := true) (e0 := e0) ?_ hle ?_
    · exact tail_ok
    · exact fun _ => rfl
  obtain ⟨a, st, e, rfl⟩ := main.at
  exact ⟨st, e⟩
end L_k00

namespace L_k00
open PySem PySem.Spec PyProof.Rows L2 J
theorem all_mk {P : Program} {w : World} {K : PySem.W.Frag} {h : Heap} {mg : Str → Option Value} {fa : Addr} (X : K.In h) (G : h.Ns mainGlobals mg) (hfa : mg "law" = some (.ref fa))
    {f0 : Addr} {oc0 kV0 dc0 pm0 cd0 ct0 : Value} {od0 an0 : Option Addr} {sl0 : Array (Option Value)}
    {f1 : Addr} {oc1 kV1 dc1 pm1 cd1 ct1 : Value} {od1 an1 : Option Addr} {sl1 : Array (Option Value)}
    {f2 : Addr} {oc2 kV2 dc2 pm2 cd2 ct2 : Value} {od2 an2 : Option Addr} {sl2 : Array (Option Value)}
    {f3 : Addr} {oc3 kV3 dc3 pm3 cd3 ct3 : Value} {od3 an3 : Option Addr} {sl3 : Array (Option Value)}
    {f4 : Addr} {oc4 kV4 dc4 pm4 cd4 ct4 : Value} {od4 an4 : Option Addr} {sl4 : Array (Option Value)}
    {f5 : Addr} {oc5 kV5 dc5 pm5 cd5 ct5 : Value} {od5 an5 : Option Addr} {sl5 : Array (Option Value)}
    {f6 : Addr} {oc6 kV6 dc6 pm6 cd6 ct6 : Value} {od6 an6 : Option Addr} {sl6 : Array (Option Value)}
    {f7 : Addr} {oc7 kV7 dc7 pm7 cd7 ct7 : Value} {od7 an7 : Option Addr} {sl7 : Array (Option Value)}
    {f8 : Addr} {oc8 kV8 dc8 pm8 cd8 ct8 : Value} {od8 an8 : Option Addr} {sl8 : Array (Option Value)}
    {f9 : Addr} {oc9 kV9 dc9 pm9 cd9 ct9 : Value} {od9 an9 : Option Addr} {sl9 : Array (Option Value)}
    {f10 : Addr} {oc10 kV10 dc10 pm10 cd10 ct10 : Value} {od10 an10 : Option Addr} {sl10 : Array (Option Value)}
    {f11 : Addr} {oc11 kV11 dc11 pm11 cd11 ct11 : Value} {od11 an11 : Option Addr} {sl11 : Array (Option Value)}
    {f12 : Addr} {oc12 kV12 dc12 pm12 cd12 ct12 : Value} {od12 an12 : Option Addr} {sl12 : Array (Option Value)}
    {f13 : Addr} {oc13 kV13 dc13 pm13 cd13 ct13 : Value} {od13 an13 : Option Addr} {sl13 : Array (Option Value)}
    {f14 : Addr} {oc14 kV14 dc14 pm14 cd14 ct14 : Value} {od14 an14 : Option Addr} {sl14 : Array (Option Value)}
    {f15 : Addr} {oc15 kV15 dc15 pm15 cd15 ct15 : Value} {od15 an15 : Option Addr} {sl15 : Array (Option Value)}
    {f16 : Addr} {oc16 kV16 dc16 pm16 cd16 ct16 : Value} {od16 an16 : Option Addr} {sl16 : Array (Option Value)}
    {f17 : Addr} {oc17 kV17 dc17 pm17 cd17 ct17 : Value} {od17 an17 : Option Addr} {sl17 : Array (Option Value)}
    {f18 : Addr} {oc18 kV18 dc18 pm18 cd18 ct18 : Value} {od18 an18 : Option Addr} {sl18 : Array (Option Value)}
    {f19 : Addr} {oc19 kV19 dc19 pm19 cd19 ct19 : Value} {od19 an19 : Option Addr} {sl19 : Array (Option Value)}
    {f20 : Addr} {oc20 kV20 dc20 pm20 cd20 ct20 : Value} {od20 an20 : Option Addr} {sl20 : Array (Option Value)}
    {f21 : Addr} {oc21 kV21 dc21 pm21 cd21 ct21 : Value} {od21 an21 : Option Addr} {sl21 : Array (Option Value)}
    {f22 : Addr} {oc22 kV22 dc22 pm22 cd22 ct22 : Value} {od22 an22 : Option Addr} {sl22 : Array (Option Value)}
    {f23 : Addr} {oc23 kV23 dc23 pm23 cd23 ct23 : Value} {od23 an23 : Option Addr} {sl23 : Array (Option Value)}
    {f24 : Addr} {oc24 kV24 dc24 pm24 cd24 ct24 : Value} {od24 an24 : Option Addr} {sl24 : Array (Option Value)}
    {f25 : Addr} {oc25 kV25 dc25 pm25 cd25 ct25 : Value} {od25 an25 : Option Addr} {sl25 : Array (Option Value)}
    {f26 : Addr} {oc26 kV26 dc26 pm26 cd26 ct26 : Value} {od26 an26 : Option Addr} {sl26 : Array (Option Value)}
    {f27 : Addr} {oc27 kV27 dc27 pm27 cd27 ct27 : Value} {od27 an27 : Option Addr} {sl27 : Array (Option Value)}
    {f28 : Addr} {oc28 kV28 dc28 pm28 cd28 ct28 : Value} {od28 an28 : Option Addr} {sl28 : Array (Option Value)}
    {f29 : Addr} {oc29 kV29 dc29 pm29 cd29 ct29 : Value} {od29 an29 : Option Addr} {sl29 : Array (Option Value)}
    {f30 : Addr} {oc30 kV30 dc30 pm30 cd30 ct30 : Value} {od30 an30 : Option Addr} {sl30 : Array (Option Value)}
    {gt0 : Tok}
    {gt1 : Tok}
    {gt2 : Tok}
    {gt3 : Tok}
    {gt4 : Tok}
    {gt5 : Tok}
    {A0 : Addr} {bm0 : List Value} {nw0 B0 it0 : String}
    {A1 : Addr} {bm1 : List Value} {nw1 B1 it1 : String}
    (plain : ∀ ns : List Int, ns.length ≤ 63 → (∀ z ∈ ns, Builtin.Int.intBits z ≤ 1048576) → ∃ st, callF Pr 61 30 [.kls (ns.map .int)] [] = .ok (.bl true) st)
    (a0 : PySem.W.nsIn K mainGlobals ("is_integer" : Str) = some (some (.ref f0))) (l0 : K.lookup f0 = some ⟨oc0, od0, .func (PySem.W.fnOf ("is_integer" : Str) ("is_integer" : Str) (defArgs (top 4)) (defBody (top 4)) (defScope (top 4)) .none kV0 dc0 pm0 an0 cd0 ct0), sl0⟩) (c0 : PySem.W.codeIn K cd0 ("is_integer" : Str) = true) (k0 : PySem.W.keepIn K (.ref f0) = true)
    (a1 : PySem.W.nsIn K mainGlobals ("is_row" : Str) = some (some (.ref f1))) (l1 : K.lookup f1 = some ⟨oc1, od1, .func (PySem.W.fnOf ("is_row" : Str) ("is_row" : Str) (defArgs (top 5)) (defBody (top 5)) (defScope (top 5)) .none kV1 dc1 pm1 an1 cd1 ct1), sl1⟩) (c1 : PySem.W.codeIn K cd1 ("is_row" : Str) = true) (k1 : PySem.W.keepIn K (.ref f1) = true)
    (a2 : PySem.W.nsIn K mainGlobals ("is_name" : Str) = some (some (.ref f2))) (l2 : K.lookup f2 = some ⟨oc2, od2, .func (PySem.W.fnOf ("is_name" : Str) ("is_name" : Str) (defArgs (top 13)) (defBody (top 13)) (defScope (top 13)) .none kV2 dc2 pm2 an2 cd2 ct2), sl2⟩) (c2 : PySem.W.codeIn K cd2 ("is_name" : Str) = true) (k2 : PySem.W.keepIn K (.ref f2) = true)
    (a3 : PySem.W.nsIn K mainGlobals ("is_variable" : Str) = some (some (.ref f3))) (l3 : K.lookup f3 = some ⟨oc3, od3, .func (PySem.W.fnOf ("is_variable" : Str) ("is_variable" : Str) (defArgs (top 14)) (defBody (top 14)) (defScope (top 14)) .none kV3 dc3 pm3 an3 cd3 ct3), sl3⟩) (c3 : PySem.W.codeIn K cd3 ("is_variable" : Str) = true) (k3 : PySem.W.keepIn K (.ref f3) = true)
    (a4 : PySem.W.nsIn K mainGlobals ("is_term" : Str) = some (some (.ref f4))) (l4 : K.lookup f4 = some ⟨oc4, od4, .func (PySem.W.fnOf ("is_term" : Str) ("is_term" : Str) (defArgs (top 15)) (defBody (top 15)) (defScope (top 15)) .none kV4 dc4 pm4 an4 cd4 ct4), sl4⟩) (c4 : PySem.W.codeIn K cd4 ("is_term" : Str) = true) (k4 : PySem.W.keepIn K (.ref f4) = true)
    (a5 : PySem.W.nsIn K mainGlobals ("is_ascending" : Str) = some (some (.ref f5))) (l5 : K.lookup f5 = some ⟨oc5, od5, .func (PySem.W.fnOf ("is_ascending" : Str) ("is_ascending" : Str) (defArgs (top 16)) (defBody (top 16)) (defScope (top 16)) .none kV5 dc5 pm5 an5 cd5 ct5), sl5⟩) (c5 : PySem.W.codeIn K cd5 ("is_ascending" : Str) = true) (k5 : PySem.W.keepIn K (.ref f5) = true)
    (a6 : PySem.W.nsIn K mainGlobals ("is_schema" : Str) = some (some (.ref f6))) (l6 : K.lookup f6 = some ⟨oc6, od6, .func (PySem.W.fnOf ("is_schema" : Str) ("is_schema" : Str) (defArgs (top 17)) (defBody (top 17)) (defScope (top 17)) .none kV6 dc6 pm6 an6 cd6 ct6), sl6⟩) (c6 : PySem.W.codeIn K cd6 ("is_schema" : Str) = true) (k6 : PySem.W.keepIn K (.ref f6) = true)
    (a7 : PySem.W.nsIn K mainGlobals ("check_schema" : Str) = some (some (.ref f7))) (l7 : K.lookup f7 = some ⟨oc7, od7, .func (PySem.W.fnOf ("check_schema" : Str) ("check_schema" : Str) (defArgs (top 18)) (defBody (top 18)) (defScope (top 18)) .none kV7 dc7 pm7 an7 cd7 ct7), sl7⟩) (c7 : PySem.W.codeIn K cd7 ("check_schema" : Str) = true) (k7 : PySem.W.keepIn K (.ref f7) = true)
    (a8 : PySem.W.nsIn K mainGlobals ("width_of" : Str) = some (some (.ref f8))) (l8 : K.lookup f8 = some ⟨oc8, od8, .func (PySem.W.fnOf ("width_of" : Str) ("width_of" : Str) (defArgs (top 19)) (defBody (top 19)) (defScope (top 19)) .none kV8 dc8 pm8 an8 cd8 ct8), sl8⟩) (c8 : PySem.W.codeIn K cd8 ("width_of" : Str) = true) (k8 : PySem.W.keepIn K (.ref f8) = true)
    (a9 : PySem.W.nsIn K mainGlobals ("is_entry" : Str) = some (some (.ref f9))) (l9 : K.lookup f9 = some ⟨oc9, od9, .func (PySem.W.fnOf ("is_entry" : Str) ("is_entry" : Str) (defArgs (top 20)) (defBody (top 20)) (defScope (top 20)) .none kV9 dc9 pm9 an9 cd9 ct9), sl9⟩) (c9 : PySem.W.codeIn K cd9 ("is_entry" : Str) = true) (k9 : PySem.W.keepIn K (.ref f9) = true)
    (a10 : PySem.W.nsIn K mainGlobals ("is_fact" : Str) = some (some (.ref f10))) (l10 : K.lookup f10 = some ⟨oc10, od10, .func (PySem.W.fnOf ("is_fact" : Str) ("is_fact" : Str) (defArgs (top 21)) (defBody (top 21)) (defScope (top 21)) .none kV10 dc10 pm10 an10 cd10 ct10), sl10⟩) (c10 : PySem.W.codeIn K cd10 ("is_fact" : Str) = true) (k10 : PySem.W.keepIn K (.ref f10) = true)
    (a11 : PySem.W.nsIn K mainGlobals ("is_base" : Str) = some (some (.ref f11))) (l11 : K.lookup f11 = some ⟨oc11, od11, .func (PySem.W.fnOf ("is_base" : Str) ("is_base" : Str) (defArgs (top 22)) (defBody (top 22)) (defScope (top 22)) .none kV11 dc11 pm11 an11 cd11 ct11), sl11⟩) (c11 : PySem.W.codeIn K cd11 ("is_base" : Str) = true) (k11 : PySem.W.keepIn K (.ref f11) = true)
    (a12 : PySem.W.nsIn K mainGlobals ("check_base" : Str) = some (some (.ref f12))) (l12 : K.lookup f12 = some ⟨oc12, od12, .func (PySem.W.fnOf ("check_base" : Str) ("check_base" : Str) (defArgs (top 23)) (defBody (top 23)) (defScope (top 23)) .none kV12 dc12 pm12 an12 cd12 ct12), sl12⟩) (c12 : PySem.W.codeIn K cd12 ("check_base" : Str) = true) (k12 : PySem.W.keepIn K (.ref f12) = true)
    (a13 : PySem.W.nsIn K mainGlobals ("is_atom" : Str) = some (some (.ref f13))) (l13 : K.lookup f13 = some ⟨oc13, od13, .func (PySem.W.fnOf ("is_atom" : Str) ("is_atom" : Str) (defArgs (top 24)) (defBody (top 24)) (defScope (top 24)) .none kV13 dc13 pm13 an13 cd13 ct13), sl13⟩) (c13 : PySem.W.codeIn K cd13 ("is_atom" : Str) = true) (k13 : PySem.W.keepIn K (.ref f13) = true)
    (a14 : PySem.W.nsIn K mainGlobals ("terms_of" : Str) = some (some (.ref f14))) (l14 : K.lookup f14 = some ⟨oc14, od14, .func (PySem.W.fnOf ("terms_of" : Str) ("terms_of" : Str) (defArgs (top 25)) (defBody (top 25)) (defScope (top 25)) .none kV14 dc14 pm14 an14 cd14 ct14), sl14⟩) (c14 : PySem.W.codeIn K cd14 ("terms_of" : Str) = true) (k14 : PySem.W.keepIn K (.ref f14) = true)
    (a15 : PySem.W.nsIn K mainGlobals ("variables_in" : Str) = some (some (.ref f15))) (l15 : K.lookup f15 = some ⟨oc15, od15, .func (PySem.W.fnOf ("variables_in" : Str) ("variables_in" : Str) (defArgs (top 26)) (defBody (top 26)) (defScope (top 26)) .none kV15 dc15 pm15 an15 cd15 ct15), sl15⟩) (c15 : PySem.W.codeIn K cd15 ("variables_in" : Str) = true) (k15 : PySem.W.keepIn K (.ref f15) = true)
    (a16 : PySem.W.nsIn K mainGlobals ("variables_of" : Str) = some (some (.ref f16))) (l16 : K.lookup f16 = some ⟨oc16, od16, .func (PySem.W.fnOf ("variables_of" : Str) ("variables_of" : Str) (defArgs (top 27)) (defBody (top 27)) (defScope (top 27)) .none kV16 dc16 pm16 an16 cd16 ct16), sl16⟩) (c16 : PySem.W.codeIn K cd16 ("variables_of" : Str) = true) (k16 : PySem.W.keepIn K (.ref f16) = true)
    (a17 : PySem.W.nsIn K mainGlobals ("is_safe" : Str) = some (some (.ref f17))) (l17 : K.lookup f17 = some ⟨oc17, od17, .func (PySem.W.fnOf ("is_safe" : Str) ("is_safe" : Str) (defArgs (top 28)) (defBody (top 28)) (defScope (top 28)) .none kV17 dc17 pm17 an17 cd17 ct17), sl17⟩) (c17 : PySem.W.codeIn K cd17 ("is_safe" : Str) = true) (k17 : PySem.W.keepIn K (.ref f17) = true)
    (a18 : PySem.W.nsIn K mainGlobals ("is_query" : Str) = some (some (.ref f18))) (l18 : K.lookup f18 = some ⟨oc18, od18, .func (PySem.W.fnOf ("is_query" : Str) ("is_query" : Str) (defArgs (top 29)) (defBody (top 29)) (defScope (top 29)) .none kV18 dc18 pm18 an18 cd18 ct18), sl18⟩) (c18 : PySem.W.codeIn K cd18 ("is_query" : Str) = true) (k18 : PySem.W.keepIn K (.ref f18) = true)
    (a19 : PySem.W.nsIn K mainGlobals ("check_query" : Str) = some (some (.ref f19))) (l19 : K.lookup f19 = some ⟨oc19, od19, .func (PySem.W.fnOf ("check_query" : Str) ("check_query" : Str) (defArgs (top 30)) (defBody (top 30)) (defScope (top 30)) .none kV19 dc19 pm19 an19 cd19 ct19), sl19⟩) (c19 : PySem.W.codeIn K cd19 ("check_query" : Str) = true) (k19 : PySem.W.keepIn K (.ref f19) = true)
    (a20 : PySem.W.nsIn K mainGlobals ("is_union" : Str) = some (some (.ref f20))) (l20 : K.lookup f20 = some ⟨oc20, od20, .func (PySem.W.fnOf ("is_union" : Str) ("is_union" : Str) (defArgs (top 31)) (defBody (top 31)) (defScope (top 31)) .none kV20 dc20 pm20 an20 cd20 ct20), sl20⟩) (c20 : PySem.W.codeIn K cd20 ("is_union" : Str) = true) (k20 : PySem.W.keepIn K (.ref f20) = true)
    (a21 : PySem.W.nsIn K mainGlobals ("check_union" : Str) = some (some (.ref f21))) (l21 : K.lookup f21 = some ⟨oc21, od21, .func (PySem.W.fnOf ("check_union" : Str) ("check_union" : Str) (defArgs (top 32)) (defBody (top 32)) (defScope (top 32)) .none kV21 dc21 pm21 an21 cd21 ct21), sl21⟩) (c21 : PySem.W.codeIn K cd21 ("check_union" : Str) = true) (k21 : PySem.W.keepIn K (.ref f21) = true)
    (a22 : PySem.W.nsIn K mainGlobals ("_law_draw" : Str) = some (some (.ref f22))) (l22 : K.lookup f22 = some ⟨oc22, od22, .func (PySem.W.fnOf ("_law_draw" : Str) ("_law_draw" : Str) (defArgs (top 34)) (defBody (top 34)) (defScope (top 34)) .none kV22 dc22 pm22 an22 cd22 ct22), sl22⟩) (c22 : PySem.W.codeIn K cd22 ("_law_draw" : Str) = true) (k22 : PySem.W.keepIn K (.ref f22) = true)
    (a23 : PySem.W.nsIn K mainGlobals ("_law_take" : Str) = some (some (.ref f23))) (l23 : K.lookup f23 = some ⟨oc23, od23, .func (PySem.W.fnOf ("_law_take" : Str) ("_law_take" : Str) (defArgs (top 35)) (defBody (top 35)) (defScope (top 35)) .none kV23 dc23 pm23 an23 cd23 ct23), sl23⟩) (c23 : PySem.W.codeIn K cd23 ("_law_take" : Str) = true) (k23 : PySem.W.keepIn K (.ref f23) = true)
    (a24 : PySem.W.nsIn K mainGlobals ("_law_fact" : Str) = some (some (.ref f24))) (l24 : K.lookup f24 = some ⟨oc24, od24, .func (PySem.W.fnOf ("_law_fact" : Str) ("_law_fact" : Str) (defArgs (top 36)) (defBody (top 36)) (defScope (top 36)) .none kV24 dc24 pm24 an24 cd24 ct24), sl24⟩) (c24 : PySem.W.codeIn K cd24 ("_law_fact" : Str) = true) (k24 : PySem.W.keepIn K (.ref f24) = true)
    (a25 : PySem.W.nsIn K mainGlobals ("_law_base" : Str) = some (some (.ref f25))) (l25 : K.lookup f25 = some ⟨oc25, od25, .func (PySem.W.fnOf ("_law_base" : Str) ("_law_base" : Str) (defArgs (top 37)) (defBody (top 37)) (defScope (top 37)) .none kV25 dc25 pm25 an25 cd25 ct25), sl25⟩) (c25 : PySem.W.codeIn K cd25 ("_law_base" : Str) = true) (k25 : PySem.W.keepIn K (.ref f25) = true)
    (a26 : PySem.W.nsIn K mainGlobals ("_law_atom" : Str) = some (some (.ref f26))) (l26 : K.lookup f26 = some ⟨oc26, od26, .func (PySem.W.fnOf ("_law_atom" : Str) ("_law_atom" : Str) (defArgs (top 38)) (defBody (top 38)) (defScope (top 38)) .none kV26 dc26 pm26 an26 cd26 ct26), sl26⟩) (c26 : PySem.W.codeIn K cd26 ("_law_atom" : Str) = true) (k26 : PySem.W.keepIn K (.ref f26) = true)
    (a27 : PySem.W.nsIn K mainGlobals ("_law_names" : Str) = some (some (.ref f27))) (l27 : K.lookup f27 = some ⟨oc27, od27, .func (PySem.W.fnOf ("_law_names" : Str) ("_law_names" : Str) (defArgs (top 39)) (defBody (top 39)) (defScope (top 39)) .none kV27 dc27 pm27 an27 cd27 ct27), sl27⟩) (c27 : PySem.W.codeIn K cd27 ("_law_names" : Str) = true) (k27 : PySem.W.keepIn K (.ref f27) = true)
    (a28 : PySem.W.nsIn K mainGlobals ("_law_query" : Str) = some (some (.ref f28))) (l28 : K.lookup f28 = some ⟨oc28, od28, .func (PySem.W.fnOf ("_law_query" : Str) ("_law_query" : Str) (defArgs (top 40)) (defBody (top 40)) (defScope (top 40)) .none kV28 dc28 pm28 an28 cd28 ct28), sl28⟩) (c28 : PySem.W.codeIn K cd28 ("_law_query" : Str) = true) (k28 : PySem.W.keepIn K (.ref f28) = true)
    (a29 : PySem.W.nsIn K mainGlobals ("_law_refused" : Str) = some (some (.ref f29))) (l29 : K.lookup f29 = some ⟨oc29, od29, .func (PySem.W.fnOf ("_law_refused" : Str) ("_law_refused" : Str) (defArgs (top 41)) (defBody (top 41)) (defScope (top 41)) .none kV29 dc29 pm29 an29 cd29 ct29), sl29⟩) (c29 : PySem.W.codeIn K cd29 ("_law_refused" : Str) = true) (k29 : PySem.W.keepIn K (.ref f29) = true)
    (a30 : PySem.W.nsIn K mainGlobals ("law" : Str) = some (some (.ref f30))) (l30 : K.lookup f30 = some ⟨oc30, od30, .func (PySem.W.fnOf ("law" : Str) ("law" : Str) (defArgs (top 42)) (defBody (top 42)) (defScope (top 42)) .none kV30 dc30 pm30 an30 cd30 ct30), sl30⟩) (c30 : PySem.W.codeIn K cd30 ("law" : Str) = true) (k30 : PySem.W.keepIn K (.ref f30) = true)
    (gg0 : PySem.W.nsIn K mainGlobals ("MAX_TABLES" : Str) = some (some (.int 6 gt0)))
    (gg1 : PySem.W.nsIn K mainGlobals ("MAX_WIDTH" : Str) = some (some (.int 4 gt1)))
    (gg2 : PySem.W.nsIn K mainGlobals ("MAX_ATOMS" : Str) = some (some (.int 6 gt2)))
    (gg3 : PySem.W.nsIn K mainGlobals ("MAX_UNION" : Str) = some (some (.int 4 gt3)))
    (gg4 : PySem.W.nsIn K mainGlobals ("MAX_NAME" : Str) = some (some (.int 6 gt4)))
    (gg5 : PySem.W.nsIn K mainGlobals ("MAX_VARIABLE" : Str) = some (some (.int 4 gt5)))
    (z0 : PySem.W.nsIn K mainGlobals ("abs" : Str) = some none)
    (z1 : PySem.W.nsIn K mainGlobals ("all" : Str) = some none)
    (z2 : PySem.W.nsIn K mainGlobals ("bool" : Str) = some none)
    (z3 : PySem.W.nsIn K mainGlobals ("int" : Str) = some none)
    (z4 : PySem.W.nsIn K mainGlobals ("isinstance" : Str) = some none)
    (z5 : PySem.W.nsIn K mainGlobals ("len" : Str) = some none)
    (z6 : PySem.W.nsIn K mainGlobals ("range" : Str) = some none)
    (z7 : PySem.W.nsIn K mainGlobals ("set" : Str) = some none)
    (z8 : PySem.W.nsIn K mainGlobals ("sorted" : Str) = some none)
    (z9 : PySem.W.nsIn K mainGlobals ("str" : Str) = some none)
    (z10 : PySem.W.nsIn K mainGlobals ("tuple" : Str) = some none)
    (z11 : PySem.W.nsIn K mainGlobals ("zip" : Str) = some none)
    (ea0 : PySem.W.nsIn K mainGlobals ("JoinError" : Str) = some (some (.ref A0))) (ek0 : PySem.W.keepIn K (.ref A0) = true) (eF0 : ExcBaseFacts B0 nw0 it0 bm0) (ee0 : PySem.W.excIn K A0 bm0 nw0 = true) (es0 : PySem.W.subIn K (.ref A0) (.type "BaseException") = some true) (et0 : PySem.W.typeIn K (.ref A0) = some (.type "type")) (ec0 : PySem.W.isClsIn K A0 = true)
    (ea1 : PySem.W.nsIn K mainGlobals ("NotAllowed" : Str) = some (some (.ref A1))) (ek1 : PySem.W.keepIn K (.ref A1) = true) (eF1 : ExcBaseFacts B1 nw1 it1 bm1) (ee1 : PySem.W.excIn K A1 bm1 nw1 = true) (es1 : PySem.W.subIn K (.ref A1) (.type "BaseException") = some true) (et1 : PySem.W.typeIn K (.ref A1) = some (.type "type")) (ec1 : PySem.W.isClsIn K A1 = true)
    (s0_0 : PySem.W.subIn K (.ref A0) (.ref A0) = some true)
    (s0_1 : PySem.W.subIn K (.ref A0) (.ref A1) = some false)
    (s1_0 : PySem.W.subIn K (.ref A1) (.ref A0) = some true)
    (s1_1 : PySem.W.subIn K (.ref A1) (.ref A1) = some true)
    : ∃ fd : FuncData, (∀ (s : Shared) (u : Value), BindsTo s fd ⟨[u], []⟩ [("script", u)]) ∧ ∀ base : Heap, K.In base → base.Ns mainGlobals mg → FnOk P w K mg base (L2.CX P w) 61 fa fd ["script"] (J.spLaw K) := by
  have D : ∀ y j, T.fns.lookup y = some j → DfK K mg T Pr y j := (lk_cons (mk_def (sm := top 4) (N := n0) (ps := [("value" : Str), ("low" : Str), ("high" : Str)]) (fn := ⟨3, 3, b0⟩) X G a0 l0 c0 k0 (fun _ _ _ _ _ _ us hl => match us, hl with | [_, _, _], _ => rfl) rfl rfl rfl sc0 m0) (lk_cons (mk_def (sm := top 5) (N := n1) (ps := [("value" : Str), ("low" : Str), ("high" : Str)]) (fn := ⟨3, 4, b1⟩) X G a1 l1 c1 k1 (fun _ _ _ _ _ _ us hl => match us, hl with | [_, _, _], _ => rfl) rfl rfl rfl sc1 m1) (lk_cons (mk_def (sm := top 13) (N := n2) (ps := [("value" : Str)]) (fn := ⟨1, 2, b2⟩) X G a2 l2 c2 k2 (fun _ _ _ _ _ _ us hl => match us, hl with | [_], _ => rfl) rfl rfl rfl sc2 m2) (lk_cons (mk_def (sm := top 14) (N := n3) (ps := [("value" : Str)]) (fn := ⟨1, 2, b3⟩) X G a3 l3 c3 k3 (fun _ _ _ _ _ _ us hl => match us, hl with | [_], _ => rfl) rfl rfl rfl sc3 m3) (lk_cons (mk_def (sm := top 15) (N := n4) (ps := [("value" : Str)]) (fn := ⟨1, 1, b4⟩) X G a4 l4 c4 k4 (fun _ _ _ _ _ _ us hl => match us, hl with | [_], _ => rfl) rfl rfl rfl sc4 m4) (lk_cons (mk_def (sm := top 16) (N := n5) (ps := [("rows" : Str)]) (fn := ⟨1, 3, b5⟩) X G a5 l5 c5 k5 (fun _ _ _ _ _ _ us hl => match us, hl with | [_], _ => rfl) rfl rfl rfl sc5 m5) (lk_cons (mk_def (sm := top 17) (N := n6) (ps := [("value" : Str)]) (fn := ⟨1, 5, b6⟩) X G a6 l6 c6 k6 (fun _ _ _ _ _ _ us hl => match us, hl with | [_], _ => rfl) rfl rfl rfl sc6 m6) (lk_cons (mk_def (sm := top 18) (N := n7) (ps := [("schema" : Str)]) (fn := ⟨1, 1, b7⟩) X G a7 l7 c7 k7 (fun _ _ _ _ _ _ us hl => match us, hl with | [_], _ => rfl) rfl rfl rfl sc7 m7) (lk_cons (mk_def (sm := top 19) (N := n8) (ps := [("schema" : Str), ("name" : Str)]) (fn := ⟨2, 4, b8⟩) X G a8 l8 c8 k8 (fun _ _ _ _ _ _ us hl => match us, hl with | [_, _], _ => rfl) rfl rfl rfl sc8 m8) (lk_cons (mk_def (sm := top 20) (N := n9) (ps := [("schema" : Str), ("value" : Str)]) (fn := ⟨2, 2, b9⟩) X G a9 l9 c9 k9 (fun _ _ _ _ _ _ us hl => match us, hl with | [_, _], _ => rfl) rfl rfl rfl sc9 m9) (lk_cons (mk_def (sm := top 21) (N := n10) (ps := [("schema" : Str), ("value" : Str)]) (fn := ⟨2, 2, b10⟩) X G a10 l10 c10 k10 (fun _ _ _ _ _ _ us hl => match us, hl with | [_, _], _ => rfl) rfl rfl rfl sc10 m10) (lk_cons (mk_def (sm := top 22) (N := n11) (ps := [("schema" : Str), ("value" : Str)]) (fn := ⟨2, 3, b11⟩) X G a11 l11 c11 k11 (fun _ _ _ _ _ _ us hl => match us, hl with | [_, _], _ => rfl) rfl rfl rfl sc11 m11) (lk_cons (mk_def (sm := top 23) (N := n12) (ps := [("schema" : Str), ("base" : Str)]) (fn := ⟨2, 2, b12⟩) X G a12 l12 c12 k12 (fun _ _ _ _ _ _ us hl => match us, hl with | [_, _], _ => rfl) rfl rfl rfl sc12 m12) (lk_cons (mk_def (sm := top 24) (N := n13) (ps := [("schema" : Str), ("value" : Str)]) (fn := ⟨2, 3, b13⟩) X G a13 l13 c13 k13 (fun _ _ _ _ _ _ us hl => match us, hl with | [_, _], _ => rfl) rfl rfl rfl sc13 m13) (lk_cons (mk_def (sm := top 25) (N := n14) (ps := [("atoms" : Str)]) (fn := ⟨1, 4, b14⟩) X G a14 l14 c14 k14 (fun _ _ _ _ _ _ us hl => match us, hl with | [_], _ => rfl) rfl rfl rfl sc14 m14) (lk_cons (mk_def (sm := top 26) (N := n15) (ps := [("terms" : Str)]) (fn := ⟨1, 2, b15⟩) X G a15 l15 c15 k15 (fun _ _ _ _ _ _ us hl => match us, hl with | [_], _ => rfl) rfl rfl rfl sc15 m15) (lk_cons (mk_def (sm := top 27) (N := n16) (ps := [("query" : Str)]) (fn := ⟨1, 1, b16⟩) X G a16 l16 c16 k16 (fun _ _ _ _ _ _ us hl => match us, hl with | [_], _ => rfl) rfl rfl rfl sc16 m16) (lk_cons (mk_def (sm := top 28) (N := n17) (ps := [("query" : Str)]) (fn := ⟨1, 3, b17⟩) X G a17 l17 c17 k17 (fun _ _ _ _ _ _ us hl => match us, hl with | [_], _ => rfl) rfl rfl rfl sc17 m17) (lk_cons (mk_def (sm := top 29) (N := n18) (ps := [("schema" : Str), ("value" : Str)]) (fn := ⟨2, 4, b18⟩) X G a18 l18 c18 k18 (fun _ _ _ _ _ _ us hl => match us, hl with | [_, _], _ => rfl) rfl rfl rfl sc18 m18) (lk_cons (mk_def (sm := top 30) (N := n19) (ps := [("schema" : Str), ("query" : Str)]) (fn := ⟨2, 2, b19⟩) X G a19 l19 c19 k19 (fun _ _ _ _ _ _ us hl => match us, hl with | [_, _], _ => rfl) rfl rfl rfl sc19 m19) (lk_cons (mk_def (sm := top 31) (N := n20) (ps := [("schema" : Str), ("value" : Str)]) (fn := ⟨2, 3, b20⟩) X G a20 l20 c20 k20 (fun _ _ _ _ _ _ us hl => match us, hl with | [_, _], _ => rfl) rfl rfl rfl sc20 m20) (lk_cons (mk_def (sm := top 32) (N := n21) (ps := [("schema" : Str), ("union" : Str)]) (fn := ⟨2, 2, b21⟩) X G a21 l21 c21 k21 (fun _ _ _ _ _ _ us hl => match us, hl with | [_, _], _ => rfl) rfl rfl rfl sc21 m21) (lk_cons (mk_def (sm := top 34) (N := n22) (ps := [("script" : Str)]) (fn := ⟨1, 3, b22⟩) X G a22 l22 c22 k22 (fun _ _ _ _ _ _ us hl => match us, hl with | [_], _ => rfl) rfl rfl rfl sc22 m22) (lk_cons (mk_def (sm := top 35) (N := n23) (ps := [("draw" : Str), ("many" : Str)]) (fn := ⟨2, 3, b23⟩) X G a23 l23 c23 k23 (fun _ _ _ _ _ _ us hl => match us, hl with | [_, _], _ => rfl) rfl rfl rfl sc23 m23) (lk_cons (mk_def (sm := top 36) (N := n24) (ps := [("draw" : Str), ("schema" : Str), ("many" : Str)]) (fn := ⟨3, 6, b24⟩) X G a24 l24 c24 k24 (fun _ _ _ _ _ _ us hl => match us, hl with | [_, _, _], _ => rfl) rfl rfl rfl sc24 m24) (lk_cons (mk_def (sm := top 37) (N := n25) (ps := [("draw" : Str), ("schema" : Str), ("most" : Str), ("many" : Str)]) (fn := ⟨4, 5, b25⟩) X G a25 l25 c25 k25 (fun _ _ _ _ _ _ us hl => match us, hl with | [_, _, _, _], _ => rfl) rfl rfl rfl sc25 m25) (lk_cons (mk_def (sm := top 38) (N := n26) (ps := [("draw" : Str), ("schema" : Str), ("names" : Str)]) (fn := ⟨3, 6, b26⟩) X G a26 l26 c26 k26 (fun _ _ _ _ _ _ us hl => match us, hl with | [_, _, _], _ => rfl) rfl rfl rfl sc26 m26) (lk_cons (mk_def (sm := top 39) (N := n27) (ps := [("atoms" : Str)]) (fn := ⟨1, 5, b27⟩) X G a27 l27 c27 k27 (fun _ _ _ _ _ _ us hl => match us, hl with | [_], _ => rfl) rfl rfl rfl sc27 m27) (lk_cons (mk_def (sm := top 40) (N := n28) (ps := [("draw" : Str), ("schema" : Str), ("most" : Str), ("width" : Str)]) (fn := ⟨4, 7, b28⟩) X G a28 l28 c28 k28 (fun _ _ _ _ _ _ us hl => match us, hl with | [_, _, _, _], _ => rfl) rfl rfl rfl sc28 m28) (lk_cons (mk_def (sm := top 41) (N := n29) (ps := [("kind" : Str), ("schema" : Str), ("value" : Str)]) (fn := ⟨3, 3, b29⟩) X G a29 l29 c29 k29 (fun _ _ _ _ _ _ us hl => match us, hl with | [_, _, _], _ => rfl) rfl rfl rfl sc29 m29) (lk_cons (mk_def (sm := top 42) (N := n30) (ps := [("script" : Str)]) (fn := ⟨1, 9, b30⟩) X G a30 l30 c30 k30 (fun _ _ _ _ _ _ us hl => match us, hl with | [_], _ => rfl) rfl rfl rfl sc30 m30) lk_nil)))))))))))))))))))))))))))))))
  have hb : ∀ y, y ∈ T.bls → mg y = none := (bl_cons (PySem.W.mg_none_of X G z0) (bl_cons (PySem.W.mg_none_of X G z1) (bl_cons (PySem.W.mg_none_of X G z2) (bl_cons (PySem.W.mg_none_of X G z3) (bl_cons (PySem.W.mg_none_of X G z4) (bl_cons (PySem.W.mg_none_of X G z5) (bl_cons (PySem.W.mg_none_of X G z6) (bl_cons (PySem.W.mg_none_of X G z7) (bl_cons (PySem.W.mg_none_of X G z8) (bl_cons (PySem.W.mg_none_of X G z9) (bl_cons (PySem.W.mg_none_of X G z10) (bl_cons (PySem.W.mg_none_of X G z11) bl_nil))))))))))))
  have hg : ∀ y j, T.glos.lookup y = some j → ∃ d v u, Pr.glos[j]? = some d ∧ mg y = some u ∧ RelV v u ∧ ∀ (Y : Wd) ρ n H, RelD Y ρ n H d v := (lk_cons (glo_int X G rfl gg0) (lk_cons (glo_int X G rfl gg1) (lk_cons (glo_int X G rfl gg2) (lk_cons (glo_int X G rfl gg3) (lk_cons (glo_int X G rfl gg4) (lk_cons (glo_int X G rfl gg5) lk_nil))))))
  have E0 : ExK K mg ("JoinError" : Str) A0 := mk_exc X G ea0 ek0 eF0 ee0 es0 et0 ec0
  have E1 : ExK K mg ("NotAllowed" : Str) A1 := mk_exc X G ea1 ek1 eF1 ee1 es1 et1 ec1
  let cls : Nat → Addr := fun n => if n = 0 then A0 else if n = 1 then A1 else 0
  have he : ∀ y c, T.excs.lookup y = some c → ExK K mg y (cls c) := (lk_cons (E0) (lk_cons (E1) lk_nil))
  have hi : ∀ a b r, Pr.isas.lookup (a, b) = some r → PySem.W.exmOne K (.ref (cls a)) (.ref (cls b)) = some r := (lk2_cons (exm_of E0 s0_0) (lk2_cons (exm_of E1 s0_1) (lk2_cons (exm_of E0 s1_0) (lk2_cons (exm_of E1 s1_1) lk2_nil))))
  exact law_fn (k := 60) (i := 30) (cls := cls) (sm := top 42) (N := n30) (fn := ⟨1, 9, b30⟩) X G hfa a30 l30 c30 k30 (fun s u => .of_eq rfl) rfl rfl rfl sc30 m30 D hb hg he hi plain
end L_k00
open PySem PySem.W PyProof.Rows in
set_option maxRecDepth 100000 in
set_option maxHeartbeats 0 in
theorem PySem.Challenge.cw_joinward_k00_schemas_bases_and_queries_holds : PySem.Challenge.rw_joinward_k00_schemas_bases_and_queries.Holds := by
  w_on; o_law; k_head; (case hw => w_witness2)
  k_fill
  refine J.law_walk (l := PySem.Challenge.rw_joinward_k00_schemas_bases_and_queries) (k := 61) rfl ⟨rfl, by decide, by decide⟩ rfl (fun w h Y => PySem.W.kIn_of Y) ?F
  case F =>
    intro w mg fa h KX G hmg
    refine' L_k00.all_mk KX G hmg L_k00.plain ?a0 ?l0 ?c0 ?k0 ?a1 ?l1 ?c1 ?k1 ?a2 ?l2 ?c2 ?k2 ?a3 ?l3 ?c3 ?k3 ?a4 ?l4 ?c4 ?k4 ?a5 ?l5 ?c5 ?k5 ?a6 ?l6 ?c6 ?k6 ?a7 ?l7 ?c7 ?k7 ?a8 ?l8 ?c8 ?k8 ?a9 ?l9 ?c9 ?k9 ?a10 ?l10 ?c10 ?k10 ?a11 ?l11 ?c11 ?k11 ?a12 ?l12 ?c12 ?k12 ?a13 ?l13 ?c13 ?k13 ?a14 ?l14 ?c14 ?k14 ?a15 ?l15 ?c15 ?k15 ?a16 ?l16 ?c16 ?k16 ?a17 ?l17 ?c17 ?k17 ?a18 ?l18 ?c18 ?k18 ?a19 ?l19 ?c19 ?k19 ?a20 ?l20 ?c20 ?k20 ?a21 ?l21 ?c21 ?k21 ?a22 ?l22 ?c22 ?k22 ?a23 ?l23 ?c23 ?k23 ?a24 ?l24 ?c24 ?k24 ?a25 ?l25 ?c25 ?k25 ?a26 ?l26 ?c26 ?k26 ?a27 ?l27 ?c27 ?k27 ?a28 ?l28 ?c28 ?k28 ?a29 ?l29 ?c29 ?k29 ?a30 ?l30 ?c30 ?k30 ?gg0 ?gg1 ?gg2 ?gg3 ?gg4 ?gg5 ?z0 ?z1 ?z2 ?z3 ?z4 ?z5 ?z6 ?z7 ?z8 ?z9 ?z10 ?z11 ?ea0 ?ek0 ?eF0 ?ee0 ?es0 ?et0 ?ec0 ?ea1 ?ek1 ?eF1 ?ee1 ?es1 ?et1 ?ec1 ?s0_0 ?s0_1 ?s1_0 ?s1_1
    (case a0 => k_is)
    (case l0 => k_is)
    (case c0 => k_is)
    (case k0 => k_is)
    (case a1 => k_is)
    (case l1 => k_is)
    (case c1 => k_is)
    (case k1 => k_is)
    (case a2 => k_is)
    (case l2 => k_is)
    (case c2 => k_is)
    (case k2 => k_is)
    (case a3 => k_is)
    (case l3 => k_is)
    (case c3 => k_is)
    (case k3 => k_is)
    (case a4 => k_is)
    (case l4 => k_is)
    (case c4 => k_is)
    (case k4 => k_is)
    (case a5 => k_is)
    (case l5 => k_is)
    (case c5 => k_is)
    (case k5 => k_is)
    (case a6 => k_is)
    (case l6 => k_is)
    (case c6 => k_is)
    (case k6 => k_is)
    (case a7 => k_is)
    (case l7 => k_is)
    (case c7 => k_is)
    (case k7 => k_is)
    (case a8 => k_is)
    (case l8 => k_is)
    (case c8 => k_is)
    (case k8 => k_is)
    (case a9 => k_is)
    (case l9 => k_is)
    (case c9 => k_is)
    (case k9 => k_is)
    (case a10 => k_is)
    (case l10 => k_is)
    (case c10 => k_is)
    (case k10 => k_is)
    (case a11 => k_is)
    (case l11 => k_is)
    (case c11 => k_is)
    (case k11 => k_is)
    (case a12 => k_is)
    (case l12 => k_is)
    (case c12 => k_is)
    (case k12 => k_is)
    (case a13 => k_is)
    (case l13 => k_is)
    (case c13 => k_is)
    (case k13 => k_is)
    (case a14 => k_is)
    (case l14 => k_is)
    (case c14 => k_is)
    (case k14 => k_is)
    (case a15 => k_is)
    (case l15 => k_is)
    (case c15 => k_is)
    (case k15 => k_is)
    (case a16 => k_is)
    (case l16 => k_is)
    (case c16 => k_is)
    (case k16 => k_is)
    (case a17 => k_is)
    (case l17 => k_is)
    (case c17 => k_is)
    (case k17 => k_is)
    (case a18 => k_is)
    (case l18 => k_is)
    (case c18 => k_is)
    (case k18 => k_is)
    (case a19 => k_is)
    (case l19 => k_is)
    (case c19 => k_is)
    (case k19 => k_is)
    (case a20 => k_is)
    (case l20 => k_is)
    (case c20 => k_is)
    (case k20 => k_is)
    (case a21 => k_is)
    (case l21 => k_is)
    (case c21 => k_is)
    (case k21 => k_is)
    (case a22 => k_is)
    (case l22 => k_is)
    (case c22 => k_is)
    (case k22 => k_is)
    (case a23 => k_is)
    (case l23 => k_is)
    (case c23 => k_is)
    (case k23 => k_is)
    (case a24 => k_is)
    (case l24 => k_is)
    (case c24 => k_is)
    (case k24 => k_is)
    (case a25 => k_is)
    (case l25 => k_is)
    (case c25 => k_is)
    (case k25 => k_is)
    (case a26 => k_is)
    (case l26 => k_is)
    (case c26 => k_is)
    (case k26 => k_is)
    (case a27 => k_is)
    (case l27 => k_is)
    (case c27 => k_is)
    (case k27 => k_is)
    (case a28 => k_is)
    (case l28 => k_is)
    (case c28 => k_is)
    (case k28 => k_is)
    (case a29 => k_is)
    (case l29 => k_is)
    (case c29 => k_is)
    (case k29 => k_is)
    (case a30 => k_is)
    (case l30 => k_is)
    (case c30 => k_is)
    (case k30 => k_is)
    (case gg0 => k_is)
    (case gg1 => k_is)
    (case gg2 => k_is)
    (case gg3 => k_is)
    (case gg4 => k_is)
    (case gg5 => k_is)
    (case z0 => k_is)
    (case z1 => k_is)
    (case z2 => k_is)
    (case z3 => k_is)
    (case z4 => k_is)
    (case z5 => k_is)
    (case z6 => k_is)
    (case z7 => k_is)
    (case z8 => k_is)
    (case z9 => k_is)
    (case z10 => k_is)
    (case z11 => k_is)
    (case ea0 => k_is)
    (case ek0 => k_is)
    (case eF0 => exact PySem.F.excBase_ValueError)
    (case ee0 => k_exc)
    (case es0 => k_is)
    (case et0 => k_is)
    (case ec0 => k_is)
    (case ea1 => k_is)
    (case ek1 => k_is)
    (case eF1 => exact PySem.F.excBase_ValueError)
    (case ee1 => k_exc)
    (case es1 => k_is)
    (case et1 => k_is)
    (case ec1 => k_is)
    (case s0_0 => first | rfl | k_is)
    (case s0_1 => first | rfl | k_is)
    (case s1_0 => first | rfl | k_is)
    (case s1_1 => first | rfl | k_is)
